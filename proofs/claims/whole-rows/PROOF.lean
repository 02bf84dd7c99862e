import PyProof.Rows.All
import Wide.All
import OpenK.AllK
import Wide.FinOn
import KE.KStateDown
import Lean
import HandS.ForMost
import HandS.More
import HandS.Exc
import HandS.Defaults
import HandS.Head0
import HandS.Head1
import HandS.Head2
import HandS.HeadEnd
import HandS.HeadHook1
import HandS.HeadHook2
import HandS.Property
import HandS.Codes
import HandS.IsInst
import PySem.Challenge.RW_linecents_k30_whole_rows_of_books_exchan
import HandS.Wide
import HandS.DictTup
import HandS.DictSubView
import HandS.DictComp
import KE.GoesEnum
import KE.KStar
import HandS.Evl
import HandS.TupAny
import HandS.TupMul
import HandS.TupLen
import HandS.Conv
import HandS.Walk
import PySem.Str
import HandS.NoneIn
import HandS.OwnEq
import HandS.WideBits
import KE.KDictDisplayH
import HandS.FStr
import HandS.Style
import HandS.Iter
import HandS.AnyAll
set_option Elab.async false
set_option linter.all false
set_option maxRecDepth 100000
set_option maxHeartbeats 4000000
/-! The text by places, the facts of the top. -/
namespace Lc
open PySem PySem.Spec PyProof.Rows L2

def top (i : Nat) : Stmt := PySem.Challenge.pw_linecents_k30_whole_rows_of_books_exchan.main.body.getD i (.Pass ⟨0, 0, 0, 0⟩)
abbrev s_is_integer : Stmt := top 28
abbrev s_is_between : Stmt := top 29
abbrev s_check_number : Stmt := top 30
abbrev s_is_name : Stmt := top 31
abbrev s_common_divisor : Stmt := top 33
abbrev s_common_multiple : Stmt := top 34
abbrev s_fraction : Stmt := top 35
abbrev s_times : Stmt := top 36
abbrev s_less : Stmt := top 37
abbrev s_is_step : Stmt := top 42
abbrev s_wrong_step : Stmt := top 43
abbrev s_is_row_of_steps : Stmt := top 44
abbrev s_rounded : Stmt := top 45
abbrev s_led : Stmt := top 46
abbrev s_rate_of : Stmt := top 47
abbrev s_period_of : Stmt := top 48
abbrev s_text_of_step : Stmt := top 49
abbrev s_text_of_steps : Stmt := top 50
abbrev s_is_kind : Stmt := top 56
abbrev s_check_kinds : Stmt := top 57
abbrev s_check_groups : Stmt := top 58
abbrev s_check_places : Stmt := top 59
abbrev s_check_whole : Stmt := top 60
abbrev s_text_of : Stmt := top 61
abbrev s_is_line : Stmt := top 64
abbrev s_check_bill : Stmt := top 65
abbrev s_Book_init : Stmt := inClass (top 66) 0
abbrev s_Book_kinds : Stmt := inClass (top 66) 2
abbrev s_Book_groups : Stmt := inClass (top 66) 3
abbrev s_Book_names : Stmt := inClass (top 66) 5
abbrev s_Book_kind_at : Stmt := inClass (top 66) 6
abbrev s_Book_rate : Stmt := inClass (top 66) 7
abbrev s_Book_share : Stmt := inClass (top 66) 8
abbrev s_Book_period : Stmt := inClass (top 66) 9
abbrev s_Book_periods : Stmt := inClass (top 66) 10
abbrev s_Book_size : Stmt := inClass (top 66) 11
abbrev s_Book_value : Stmt := inClass (top 66) 12
abbrev s_Book_sums : Stmt := inClass (top 66) 13
abbrev s_Book_ask : Stmt := inClass (top 66) 14
abbrev s_Book_ask_of_sums : Stmt := inClass (top 66) 15
abbrev s_check_book : Stmt := top 67
abbrev s_check_two : Stmt := top 68
abbrev s_check_fit : Stmt := top 69
abbrev s_check_integers : Stmt := top 71
abbrev s_goes_on : Stmt := top 72
abbrev s_Row_init : Stmt := inClass (top 73) 0
abbrev s_Row_early : Stmt := inClass (top 73) 1
abbrev s_Row_again : Stmt := inClass (top 73) 2
abbrev s_Row_rise : Stmt := inClass (top 73) 3
abbrev s_Row_at : Stmt := inClass (top 73) 5
abbrev s_Row_eq : Stmt := inClass (top 73) 7
abbrev s_sides_of : Stmt := top 75
abbrev s_first_greater : Stmt := top 76
abbrev s_check_rates : Stmt := top 77
abbrev s_amounts_of : Stmt := top 78
abbrev s_check_size : Stmt := top 79
abbrev s_States_init : Stmt := inClass (top 80) 0
abbrev s_States_empty : Stmt := inClass (top 80) 1
abbrev s_States_move : Stmt := inClass (top 80) 2
abbrev s_States_weight : Stmt := inClass (top 80) 3
abbrev s_States_reduced : Stmt := inClass (top 80) 4
abbrev s_States_added : Stmt := inClass (top 80) 5
abbrev s_States_gap : Stmt := inClass (top 80) 6
abbrev s_States_base : Stmt := inClass (top 80) 7
abbrev s_States_share_of_group : Stmt := inClass (top 80) 8
abbrev s_States_lines : Stmt := inClass (top 80) 9
abbrev s_States_best_lines : Stmt := inClass (top 80) 10
abbrev s_States_order : Stmt := inClass (top 80) 11
abbrev s_one_more : Stmt := top 81
abbrev s_greatest_gap : Stmt := top 82
abbrev s_difference : Stmt := top 84
abbrev s_check_greatest : Stmt := top 85
abbrev s_row_of : Stmt := top 86
abbrev s_is_led_on : Stmt := top 87
abbrev s_greatest : Stmt := top 88
abbrev s_turned : Stmt := top 89
abbrev s_least : Stmt := top 90
abbrev s_first_other : Stmt := top 91
abbrev s_parting : Stmt := top 92
abbrev s__law_cell : Stmt := top 98
abbrev s__law_jar : Stmt := top 99
abbrev s__law_dig : Stmt := top 100
abbrev s__law_take : Stmt := top 101
abbrev s__law_common : Stmt := top 102
abbrev s__law_span : Stmt := top 103
abbrev s__law_fit : Stmt := top 104
abbrev s__law_many : Stmt := top 105
abbrev s__law_way : Stmt := top 106
abbrev s__law_factor : Stmt := top 107
abbrev s__law_step : Stmt := top 108
abbrev s__law_extra : Stmt := top 109
abbrev s__law_laid : Stmt := top 110
abbrev s__law_pair : Stmt := top 111
abbrev s__law_books : Stmt := top 112
abbrev s__law_right : Stmt := top 113
abbrev s_law : Stmt := top 114
/-- a property's getter -/
def gtr (K : PySem.W.Frag) (C f : Str) : Addr := match PySem.W.recIn K (He.ma K (He.ga K C) f) "property" with
  | some (.ref g :: _) => g
  | _ => 0
/-- where a def stands -/
inductive Pl where
  | glo (x : Str) | meth (C m : Str) | prop (C f : Str)
def Pl.ad (K : PySem.W.Frag) : Pl → Addr
  | .glo x => He.ga K x
  | .meth C m => He.ma K (He.ga K C) m
  | .prop C f => gtr K C f
structure DefP where
  at_ : Pl
  name : Str
  qual : Str
  st : Stmt
abbrev FnP : Type := Option (Str × Str × Arguments × FuncBody × Scope × Addr × List (Str × Addr) × Value × Addr)
def fnP (K : PySem.W.Frag) (a : Addr) : FnP := match K.lookup a with
  | some ⟨_, _, .func fd, _⟩ => some (fd.name, fd.qualname, fd.params, fd.body, fd.scope, fd.globals, fd.closure, fd.defaults, fd.builtins)
  | _ => none
def DefP.val (d : DefP) : FnP := some (d.name, d.qual, defArgs d.st, .stmts (defBody d.st), defScope d.st, mainGlobals, [], .none, builtinsNs)
def DefP.ok (K : PySem.W.Frag) (d : DefP) : Bool := PySem.W.keepIn K (.ref (d.at_.ad K)) && (match K.lookup (d.at_.ad K) with
  | some ⟨_, _, .func fd, _⟩ => PySem.W.codeIn K fd.code d.qual
  | _ => false)
theorem DefP.fun_ {K : PySem.W.Frag} {d : DefP} (e : fnP K (d.at_.ad K) = d.val) (c : d.ok K = true) : ∃ fd, L2.Fun K d.name d.qual d.st (d.at_.ad K) fd := by
  obtain ⟨kp, c2⟩ := He.ba c
  unfold fnP at e
  cases q : K.lookup (d.at_.ad K) with
  | none =>
    rw [q] at c2
    cases c2
  | some o =>
    obtain ⟨oc, od, dt, osl⟩ := o
    rw [q] at c2 e
    cases dt with
    | func fd =>
      obtain ⟨n1, n2, n3, n4, n5, n6, n7, n8, n9, n10, n11, n12, n13, n14, n15⟩ := fd
      have e2 : (some (n1, n2, n3, n4, n5, n6, n7, n8, n15) : FnP) = some (d.name, d.qual, defArgs d.st, .stmts (defBody d.st), defScope d.st, mainGlobals, [], .none, builtinsNs) := e
      simp only [Option.some.injEq, Prod.mk.injEq] at e2
      obtain ⟨h1, h2, h3, h4, h5, h6, h7, h8, h9⟩ := e2
      subst h1 h2 h3 h4 h5 h6 h7 h8 h9
      exact ⟨_, fun_mk q c2 kp⟩
    | _ => cases c2
/-! ### facts -/
inductive Fx where
  | b (f : He.Fa)
  | prop (C f : Str)
  | tups (x : Str) (vs : List Str)
  | insc (C : Str)
  | nef (C : Str)
def Fx.ok (K : PySem.W.Frag) : Fx → Bool
  | .b f => f.ok K
  | .prop C f => He.eqO (PySem.W.findIn K (.ref (He.ga K C)) f) (some (some (.ref (He.ma K (He.ga K C) f)))) && (He.eqO (PySem.W.specialIn K (.ref (He.ma K (He.ga K C) f)) "__get__") (some (some (.builtin "property.__get__"))) &&
      (decide (PySem.W.takesIn K (.ref (He.ma K (He.ga K C) f)) = some true) && (match PySem.W.recIn K (He.ma K (He.ga K C) f) "property" with
        | some (.ref _ :: _) => true
        | _ => false)))
  | .tups x vs => He.tupB K x (vs.map He.Dv.str)
  | .insc C => He.eqO (PySem.W.findIn K (.ref (He.ga K C)) "__class__") (some (some (.builtin "object.__class__"))) && (He.eqO (PySem.W.specialIn K (.builtin "object.__class__") "__get__") (some (some (.builtin "getset_descriptor.__get__"))) &&
      (decide (PySem.W.takesIn K (.builtin "object.__class__") = some true) && (decide (PySem.W.mroIn K (He.ga K C) (.type "object") = some true) && decide (PySem.W.kitOne K (.ref (He.ga K C)) (.ref (He.ga K C)) = some true))))
  | .nef C => He.eqO (PySem.W.findIn K (.ref (He.ga K C)) "__ne__") (some (some (.builtin "object.__ne__")))
theorem prop_ok {K : PySem.W.Frag} {C f : Str} (h : (Fx.prop C f).ok K = true) : PropOf K (He.ga K C) f (He.ma K (He.ga K C) f) (gtr K C f) := by
  obtain ⟨h1, h⟩ := He.ba h
  obtain ⟨h2, h⟩ := He.ba h
  obtain ⟨h3, h4⟩ := He.ba h
  refine ⟨He.eqO_ok h1, He.eqO_ok h2, of_decide_eq_true h3, ?_⟩
  unfold gtr
  cases q : PySem.W.recIn K (He.ma K (He.ga K C) f) "property" with
  | none =>
    rw [q] at h4
    cases h4
  | some l =>
    rw [q] at h4
    cases l with
    | nil => cases h4
    | cons x r => cases x with
      | ref g => exact ⟨r, rfl⟩
      | _ => cases h4
theorem insc_ok {K : PySem.W.Frag} {C : Str} (hc : Cls K (He.ga K C)) (h : (Fx.insc C).ok K = true) : C8.InsC K (He.ga K C) := by
  obtain ⟨h1, h⟩ := He.ba h
  obtain ⟨h2, h⟩ := He.ba h
  obtain ⟨h3, h⟩ := He.ba h
  obtain ⟨h4, h5⟩ := He.ba h
  exact ⟨hc, He.eqO_ok h1, He.eqO_ok h2, of_decide_eq_true h3, of_decide_eq_true h4, of_decide_eq_true h5⟩

/-! ### the defs -/
def d_is_integer : DefP := ⟨.glo "is_integer", "is_integer", "is_integer", s_is_integer⟩
def d_is_between : DefP := ⟨.glo "is_between", "is_between", "is_between", s_is_between⟩
def d_check_number : DefP := ⟨.glo "check_number", "check_number", "check_number", s_check_number⟩
def d_is_name : DefP := ⟨.glo "is_name", "is_name", "is_name", s_is_name⟩
def d_common_divisor : DefP := ⟨.glo "common_divisor", "common_divisor", "common_divisor", s_common_divisor⟩
def d_common_multiple : DefP := ⟨.glo "common_multiple", "common_multiple", "common_multiple", s_common_multiple⟩
def d_fraction : DefP := ⟨.glo "fraction", "fraction", "fraction", s_fraction⟩
def d_times : DefP := ⟨.glo "times", "times", "times", s_times⟩
def d_less : DefP := ⟨.glo "less", "less", "less", s_less⟩
def d_is_step : DefP := ⟨.glo "is_step", "is_step", "is_step", s_is_step⟩
def d_wrong_step : DefP := ⟨.glo "wrong_step", "wrong_step", "wrong_step", s_wrong_step⟩
def d_is_row_of_steps : DefP := ⟨.glo "is_row_of_steps", "is_row_of_steps", "is_row_of_steps", s_is_row_of_steps⟩
def d_rounded : DefP := ⟨.glo "rounded", "rounded", "rounded", s_rounded⟩
def d_led : DefP := ⟨.glo "led", "led", "led", s_led⟩
def d_rate_of : DefP := ⟨.glo "rate_of", "rate_of", "rate_of", s_rate_of⟩
def d_period_of : DefP := ⟨.glo "period_of", "period_of", "period_of", s_period_of⟩
def d_text_of_step : DefP := ⟨.glo "text_of_step", "text_of_step", "text_of_step", s_text_of_step⟩
def d_text_of_steps : DefP := ⟨.glo "text_of_steps", "text_of_steps", "text_of_steps", s_text_of_steps⟩
def d_is_kind : DefP := ⟨.glo "is_kind", "is_kind", "is_kind", s_is_kind⟩
def d_check_kinds : DefP := ⟨.glo "check_kinds", "check_kinds", "check_kinds", s_check_kinds⟩
def d_check_groups : DefP := ⟨.glo "check_groups", "check_groups", "check_groups", s_check_groups⟩
def d_check_places : DefP := ⟨.glo "check_places", "check_places", "check_places", s_check_places⟩
def d_check_whole : DefP := ⟨.glo "check_whole", "check_whole", "check_whole", s_check_whole⟩
def d_text_of : DefP := ⟨.glo "text_of", "text_of", "text_of", s_text_of⟩
def d_is_line : DefP := ⟨.glo "is_line", "is_line", "is_line", s_is_line⟩
def d_check_bill : DefP := ⟨.glo "check_bill", "check_bill", "check_bill", s_check_bill⟩
def d_Book_init : DefP := ⟨.meth "Book" "__init__", "__init__", "Book.__init__", s_Book_init⟩
def d_Book_kinds : DefP := ⟨.prop "Book" "kinds", "kinds", "Book.kinds", s_Book_kinds⟩
def d_Book_groups : DefP := ⟨.prop "Book" "groups", "groups", "Book.groups", s_Book_groups⟩
def d_Book_names : DefP := ⟨.prop "Book" "names", "names", "Book.names", s_Book_names⟩
def d_Book_kind_at : DefP := ⟨.meth "Book" "kind_at", "kind_at", "Book.kind_at", s_Book_kind_at⟩
def d_Book_rate : DefP := ⟨.meth "Book" "rate", "rate", "Book.rate", s_Book_rate⟩
def d_Book_share : DefP := ⟨.meth "Book" "share", "share", "Book.share", s_Book_share⟩
def d_Book_period : DefP := ⟨.meth "Book" "period", "period", "Book.period", s_Book_period⟩
def d_Book_periods : DefP := ⟨.meth "Book" "periods", "periods", "Book.periods", s_Book_periods⟩
def d_Book_size : DefP := ⟨.meth "Book" "size", "size", "Book.size", s_Book_size⟩
def d_Book_value : DefP := ⟨.meth "Book" "value", "value", "Book.value", s_Book_value⟩
def d_Book_sums : DefP := ⟨.meth "Book" "sums", "sums", "Book.sums", s_Book_sums⟩
def d_Book_ask : DefP := ⟨.meth "Book" "ask", "ask", "Book.ask", s_Book_ask⟩
def d_Book_ask_of_sums : DefP := ⟨.meth "Book" "ask_of_sums", "ask_of_sums", "Book.ask_of_sums", s_Book_ask_of_sums⟩
def d_check_book : DefP := ⟨.glo "check_book", "check_book", "check_book", s_check_book⟩
def d_check_two : DefP := ⟨.glo "check_two", "check_two", "check_two", s_check_two⟩
def d_check_fit : DefP := ⟨.glo "check_fit", "check_fit", "check_fit", s_check_fit⟩
def d_check_integers : DefP := ⟨.glo "check_integers", "check_integers", "check_integers", s_check_integers⟩
def d_goes_on : DefP := ⟨.glo "goes_on", "goes_on", "goes_on", s_goes_on⟩
def d_Row_init : DefP := ⟨.meth "Row" "__init__", "__init__", "Row.__init__", s_Row_init⟩
def d_Row_early : DefP := ⟨.prop "Row" "early", "early", "Row.early", s_Row_early⟩
def d_Row_again : DefP := ⟨.prop "Row" "again", "again", "Row.again", s_Row_again⟩
def d_Row_rise : DefP := ⟨.prop "Row" "rise", "rise", "Row.rise", s_Row_rise⟩
def d_Row_at : DefP := ⟨.meth "Row" "at", "at", "Row.at", s_Row_at⟩
def d_Row_eq : DefP := ⟨.meth "Row" "__eq__", "__eq__", "Row.__eq__", s_Row_eq⟩
def d_sides_of : DefP := ⟨.glo "sides_of", "sides_of", "sides_of", s_sides_of⟩
def d_first_greater : DefP := ⟨.glo "first_greater", "first_greater", "first_greater", s_first_greater⟩
def d_check_rates : DefP := ⟨.glo "check_rates", "check_rates", "check_rates", s_check_rates⟩
def d_amounts_of : DefP := ⟨.glo "amounts_of", "amounts_of", "amounts_of", s_amounts_of⟩
def d_check_size : DefP := ⟨.glo "check_size", "check_size", "check_size", s_check_size⟩
def d_States_init : DefP := ⟨.meth "States" "__init__", "__init__", "States.__init__", s_States_init⟩
def d_States_empty : DefP := ⟨.meth "States" "empty", "empty", "States.empty", s_States_empty⟩
def d_States_move : DefP := ⟨.meth "States" "move", "move", "States.move", s_States_move⟩
def d_States_weight : DefP := ⟨.meth "States" "weight", "weight", "States.weight", s_States_weight⟩
def d_States_reduced : DefP := ⟨.meth "States" "reduced", "reduced", "States.reduced", s_States_reduced⟩
def d_States_added : DefP := ⟨.meth "States" "added", "added", "States.added", s_States_added⟩
def d_States_gap : DefP := ⟨.meth "States" "gap", "gap", "States.gap", s_States_gap⟩
def d_States_base : DefP := ⟨.meth "States" "base", "base", "States.base", s_States_base⟩
def d_States_share_of_group : DefP := ⟨.meth "States" "share_of_group", "share_of_group", "States.share_of_group", s_States_share_of_group⟩
def d_States_lines : DefP := ⟨.meth "States" "lines", "lines", "States.lines", s_States_lines⟩
def d_States_best_lines : DefP := ⟨.meth "States" "best_lines", "best_lines", "States.best_lines", s_States_best_lines⟩
def d_States_order : DefP := ⟨.meth "States" "order", "order", "States.order", s_States_order⟩
def d_one_more : DefP := ⟨.glo "one_more", "one_more", "one_more", s_one_more⟩
def d_greatest_gap : DefP := ⟨.glo "greatest_gap", "greatest_gap", "greatest_gap", s_greatest_gap⟩
def d_difference : DefP := ⟨.glo "difference", "difference", "difference", s_difference⟩
def d_check_greatest : DefP := ⟨.glo "check_greatest", "check_greatest", "check_greatest", s_check_greatest⟩
def d_row_of : DefP := ⟨.glo "row_of", "row_of", "row_of", s_row_of⟩
def d_is_led_on : DefP := ⟨.glo "is_led_on", "is_led_on", "is_led_on", s_is_led_on⟩
def d_greatest : DefP := ⟨.glo "greatest", "greatest", "greatest", s_greatest⟩
def d_turned : DefP := ⟨.glo "turned", "turned", "turned", s_turned⟩
def d_least : DefP := ⟨.glo "least", "least", "least", s_least⟩
def d_first_other : DefP := ⟨.glo "first_other", "first_other", "first_other", s_first_other⟩
def d_parting : DefP := ⟨.glo "parting", "parting", "parting", s_parting⟩
def d__law_cell : DefP := ⟨.glo "_law_cell", "_law_cell", "_law_cell", s__law_cell⟩
def d__law_jar : DefP := ⟨.glo "_law_jar", "_law_jar", "_law_jar", s__law_jar⟩
def d__law_dig : DefP := ⟨.glo "_law_dig", "_law_dig", "_law_dig", s__law_dig⟩
def d__law_take : DefP := ⟨.glo "_law_take", "_law_take", "_law_take", s__law_take⟩
def d__law_common : DefP := ⟨.glo "_law_common", "_law_common", "_law_common", s__law_common⟩
def d__law_span : DefP := ⟨.glo "_law_span", "_law_span", "_law_span", s__law_span⟩
def d__law_fit : DefP := ⟨.glo "_law_fit", "_law_fit", "_law_fit", s__law_fit⟩
def d__law_many : DefP := ⟨.glo "_law_many", "_law_many", "_law_many", s__law_many⟩
def d__law_way : DefP := ⟨.glo "_law_way", "_law_way", "_law_way", s__law_way⟩
def d__law_factor : DefP := ⟨.glo "_law_factor", "_law_factor", "_law_factor", s__law_factor⟩
def d__law_step : DefP := ⟨.glo "_law_step", "_law_step", "_law_step", s__law_step⟩
def d__law_extra : DefP := ⟨.glo "_law_extra", "_law_extra", "_law_extra", s__law_extra⟩
def d__law_laid : DefP := ⟨.glo "_law_laid", "_law_laid", "_law_laid", s__law_laid⟩
def d__law_pair : DefP := ⟨.glo "_law_pair", "_law_pair", "_law_pair", s__law_pair⟩
def d__law_books : DefP := ⟨.glo "_law_books", "_law_books", "_law_books", s__law_books⟩
def d__law_right : DefP := ⟨.glo "_law_right", "_law_right", "_law_right", s__law_right⟩
def d_law : DefP := ⟨.glo "law", "law", "law", s_law⟩
def fn : List DefP := [d_is_integer, d_is_between, d_check_number, d_is_name, d_common_divisor, d_common_multiple, d_fraction, d_times, d_less, d_is_step, d_wrong_step, d_is_row_of_steps, d_rounded, d_led, d_rate_of, d_period_of, d_text_of_step, d_text_of_steps, d_is_kind, d_check_kinds, d_check_groups, d_check_places, d_check_whole, d_text_of, d_is_line, d_check_bill, d_Book_init, d_Book_kinds, d_Book_groups, d_Book_names, d_Book_kind_at, d_Book_rate, d_Book_share, d_Book_period, d_Book_periods, d_Book_size, d_Book_value, d_Book_sums, d_Book_ask, d_Book_ask_of_sums, d_check_book, d_check_two, d_check_fit, d_check_integers, d_goes_on, d_Row_init, d_Row_early, d_Row_again, d_Row_rise, d_Row_at, d_Row_eq, d_sides_of, d_first_greater, d_check_rates, d_amounts_of, d_check_size, d_States_init, d_States_empty, d_States_move, d_States_weight, d_States_reduced, d_States_added, d_States_gap, d_States_base, d_States_share_of_group, d_States_lines, d_States_best_lines, d_States_order, d_one_more, d_greatest_gap, d_difference, d_check_greatest, d_row_of, d_is_led_on, d_greatest, d_turned, d_least, d_first_other, d_parting, d__law_cell, d__law_jar, d__law_dig, d__law_take, d__law_common, d__law_span, d__law_fit, d__law_many, d__law_way, d__law_factor, d__law_step, d__law_extra, d__law_laid, d__law_pair, d__law_books, d__law_right, d_law]
def ix_is_integer : Nat := 0
def ix_is_between : Nat := 1
def ix_check_number : Nat := 2
def ix_is_name : Nat := 3
def ix_common_divisor : Nat := 4
def ix_common_multiple : Nat := 5
def ix_fraction : Nat := 6
def ix_times : Nat := 7
def ix_less : Nat := 8
def ix_is_step : Nat := 9
def ix_wrong_step : Nat := 10
def ix_is_row_of_steps : Nat := 11
def ix_rounded : Nat := 12
def ix_led : Nat := 13
def ix_rate_of : Nat := 14
def ix_period_of : Nat := 15
def ix_text_of_step : Nat := 16
def ix_text_of_steps : Nat := 17
def ix_is_kind : Nat := 18
def ix_check_kinds : Nat := 19
def ix_check_groups : Nat := 20
def ix_check_places : Nat := 21
def ix_check_whole : Nat := 22
def ix_text_of : Nat := 23
def ix_is_line : Nat := 24
def ix_check_bill : Nat := 25
def ix_Book_init : Nat := 26
def ix_Book_kinds : Nat := 27
def ix_Book_groups : Nat := 28
def ix_Book_names : Nat := 29
def ix_Book_kind_at : Nat := 30
def ix_Book_rate : Nat := 31
def ix_Book_share : Nat := 32
def ix_Book_period : Nat := 33
def ix_Book_periods : Nat := 34
def ix_Book_size : Nat := 35
def ix_Book_value : Nat := 36
def ix_Book_sums : Nat := 37
def ix_Book_ask : Nat := 38
def ix_Book_ask_of_sums : Nat := 39
def ix_check_book : Nat := 40
def ix_check_two : Nat := 41
def ix_check_fit : Nat := 42
def ix_check_integers : Nat := 43
def ix_goes_on : Nat := 44
def ix_Row_init : Nat := 45
def ix_Row_early : Nat := 46
def ix_Row_again : Nat := 47
def ix_Row_rise : Nat := 48
def ix_Row_at : Nat := 49
def ix_Row_eq : Nat := 50
def ix_sides_of : Nat := 51
def ix_first_greater : Nat := 52
def ix_check_rates : Nat := 53
def ix_amounts_of : Nat := 54
def ix_check_size : Nat := 55
def ix_States_init : Nat := 56
def ix_States_empty : Nat := 57
def ix_States_move : Nat := 58
def ix_States_weight : Nat := 59
def ix_States_reduced : Nat := 60
def ix_States_added : Nat := 61
def ix_States_gap : Nat := 62
def ix_States_base : Nat := 63
def ix_States_share_of_group : Nat := 64
def ix_States_lines : Nat := 65
def ix_States_best_lines : Nat := 66
def ix_States_order : Nat := 67
def ix_one_more : Nat := 68
def ix_greatest_gap : Nat := 69
def ix_difference : Nat := 70
def ix_check_greatest : Nat := 71
def ix_row_of : Nat := 72
def ix_is_led_on : Nat := 73
def ix_greatest : Nat := 74
def ix_turned : Nat := 75
def ix_least : Nat := 76
def ix_first_other : Nat := 77
def ix_parting : Nat := 78
def ix__law_cell : Nat := 79
def ix__law_jar : Nat := 80
def ix__law_dig : Nat := 81
def ix__law_take : Nat := 82
def ix__law_common : Nat := 83
def ix__law_span : Nat := 84
def ix__law_fit : Nat := 85
def ix__law_many : Nat := 86
def ix__law_way : Nat := 87
def ix__law_factor : Nat := 88
def ix__law_step : Nat := 89
def ix__law_extra : Nat := 90
def ix__law_laid : Nat := 91
def ix__law_pair : Nat := 92
def ix__law_books : Nat := 93
def ix__law_right : Nat := 94
def ix_law : Nat := 95
def fx : List Fx := [
  .b (.glo "is_integer"),
  .b (.glo "is_between"),
  .b (.glo "check_number"),
  .b (.glo "is_name"),
  .b (.glo "common_divisor"),
  .b (.glo "common_multiple"),
  .b (.glo "fraction"),
  .b (.glo "times"),
  .b (.glo "less"),
  .b (.glo "is_step"),
  .b (.glo "wrong_step"),
  .b (.glo "is_row_of_steps"),
  .b (.glo "rounded"),
  .b (.glo "led"),
  .b (.glo "rate_of"),
  .b (.glo "period_of"),
  .b (.glo "text_of_step"),
  .b (.glo "text_of_steps"),
  .b (.glo "is_kind"),
  .b (.glo "check_kinds"),
  .b (.glo "check_groups"),
  .b (.glo "check_places"),
  .b (.glo "check_whole"),
  .b (.glo "text_of"),
  .b (.glo "is_line"),
  .b (.glo "check_bill"),
  .b (.glo "Book"),
  .b (.glo "check_book"),
  .b (.glo "check_two"),
  .b (.glo "check_fit"),
  .b (.glo "check_integers"),
  .b (.glo "goes_on"),
  .b (.glo "Row"),
  .b (.glo "sides_of"),
  .b (.glo "first_greater"),
  .b (.glo "check_rates"),
  .b (.glo "amounts_of"),
  .b (.glo "check_size"),
  .b (.glo "States"),
  .b (.glo "one_more"),
  .b (.glo "greatest_gap"),
  .b (.glo "difference"),
  .b (.glo "check_greatest"),
  .b (.glo "row_of"),
  .b (.glo "is_led_on"),
  .b (.glo "greatest"),
  .b (.glo "turned"),
  .b (.glo "least"),
  .b (.glo "first_other"),
  .b (.glo "parting"),
  .b (.glo "_law_cell"),
  .b (.glo "_law_jar"),
  .b (.glo "_law_dig"),
  .b (.glo "_law_take"),
  .b (.glo "_law_common"),
  .b (.glo "_law_span"),
  .b (.glo "_law_fit"),
  .b (.glo "_law_many"),
  .b (.glo "_law_way"),
  .b (.glo "_law_factor"),
  .b (.glo "_law_step"),
  .b (.glo "_law_extra"),
  .b (.glo "_law_laid"),
  .b (.glo "_law_pair"),
  .b (.glo "_law_books"),
  .b (.glo "_law_right"),
  .b (.glo "law"),
  .b (.free "isinstance"),
  .b (.free "len"),
  .b (.free "int"),
  .b (.free "bool"),
  .b (.free "str"),
  .b (.free "tuple"),
  .b (.free "list"),
  .b (.free "all"),
  .b (.free "max"),
  .b (.free "min"),
  .b (.free "sum"),
  .b (.free "range"),
  .b (.free "enumerate"),
  .b (.free "zip"),
  .b (.free "divmod"),
  .b (.free "abs"),
  .b (.int "MOST_KINDS" 4),
  .b (.int "MOST_GROUPS" 3),
  .b (.int "MOST_STEPS" 2),
  .b (.int "MOST_FACTOR" 200),
  .b (.int "MOST_UNIT" 60),
  .b (.int "MOST_PLUS" 9999),
  .b (.int "MOST_STATES" 200),
  .b (.int "MOST_AMOUNTS" 400),
  .b (.str "DIGITS" "0123456789"),
  .b (.str "LETTERS" "abcdefghijklmnopqrstuvwxyz"),
  .b (.int "LONGEST_NAME" 8),
  .b (.int "TIMES_SIZE" 5),
  .b (.int "PLUS_SIZE" 2),
  .b (.int "KIND_SIZE" 3),
  .b (.int "KIND_WORDS" 4),
  .b (.glo "WAYS"),
  .tups "WAYS" ["down", "up", "near down", "near up", "near even"],
  .b (.cls "Book"),
  .b (.mkr "Book"),
  .insc "Book",
  .b (.noat "Book" "sorts"),
  .b (.noat "Book" "heaps"),
  .b (.noat "Book" "last"),
  .b (.noat "Book" "words"),
  .b (.cls "Row"),
  .b (.mkr "Row"),
  .insc "Row",
  .nef "Row",
  .b (.noat "Row" "head"),
  .b (.noat "Row" "cycle"),
  .b (.noat "Row" "step"),
  .b (.cls "States"),
  .b (.mkr "States"),
  .insc "States",
  .b (.noat "States" "sides"),
  .b (.noat "States" "spans"),
  .b (.noat "States" "bottom"),
  .b (.meth "Book" "__init__"),
  .prop "Book" "kinds",
  .prop "Book" "groups",
  .prop "Book" "names",
  .b (.meth "Book" "kind_at"),
  .b (.meth "Book" "rate"),
  .b (.meth "Book" "share"),
  .b (.meth "Book" "period"),
  .b (.meth "Book" "periods"),
  .b (.meth "Book" "size"),
  .b (.meth "Book" "value"),
  .b (.meth "Book" "sums"),
  .b (.meth "Book" "ask"),
  .b (.meth "Book" "ask_of_sums"),
  .b (.meth "Row" "__init__"),
  .prop "Row" "early",
  .prop "Row" "again",
  .prop "Row" "rise",
  .b (.meth "Row" "at"),
  .b (.meth "Row" "__eq__"),
  .b (.meth "States" "__init__"),
  .b (.meth "States" "empty"),
  .b (.meth "States" "move"),
  .b (.meth "States" "weight"),
  .b (.meth "States" "reduced"),
  .b (.meth "States" "added"),
  .b (.meth "States" "gap"),
  .b (.meth "States" "base"),
  .b (.meth "States" "share_of_group"),
  .b (.meth "States" "lines"),
  .b (.meth "States" "best_lines"),
  .b (.meth "States" "order")]
/-! ### the hook -/
abbrev AlP : Type := Bool × List FnP
def obsP (K : PySem.W.Frag) : AlP := ((fx.all fun f => f.ok K) && fn.all fun d => d.ok K, fn.map fun d => fnP K (d.at_.ad K))
def valP : AlP := (true, fn.map DefP.val)
def SaysP (K : PySem.W.Frag) : Prop := obsP K = valP
/-- the objects that an object names, as far as the facts ask -/
def refsM (o : Obj) : List Addr := match o.data with
  | .dict es _ => es.toList.flatMap fun e => He.refV e.val
  | .func fd => He.refV fd.code
  | .cls cd => [cd.ns]
  | .fields vs => (match o.cls with
    | .type "property" => vs.toList.flatMap He.refV
    | _ => [])
  | _ => []
def lvl (g : Addr → Option Obj) (as : List Addr) : List Addr := as.flatMap fun a => match g a with
  | some o => refsM o
  | none => []
def asM (g : Addr → Option Obj) : Nat → List Addr → List Addr
  | 0, as => as
  | n + 1, as => as ++ asM g n (lvl g as)
def obsPG (g : Addr → Option Obj) : AlP := obsP (He.frG g (asM g 5 [mainGlobals]))
def hk : PySem.W.Hook where
  α := AlP
  obs := fun s => obsPG s.heap.get?
  val := fun _ => valP
  says := fun _ h => ∃ K : PySem.W.Frag, K.In h ∧ SaysP K
  of := fun _ _ e => ⟨_, He.frG_in, e⟩
  keeps := fun _ _ _ ⟨K, hK, c⟩ k => ⟨K, PySem.W.Frag.In.keeps hK k, c⟩
theorem obsPG_eq {g : Addr → Option Obj} {s : Shared} (h : ∀ a, g a = s.heap.get? a) : obsPG g = hk.obs s := by
  have e : g = s.heap.get? := funext h
  rw [e] <;> rfl
theorem SaysP.fact {K : PySem.W.Frag} (c : SaysP K) {f : Fx} (h : f ∈ fx) : f.ok K = true := by
  have c1 := (He.ba (show ((fx.all fun f => f.ok K) && fn.all fun d => d.ok K) = true from congrArg (fun z : AlP => z.1) c)).1
  exact List.all_eq_true.mp c1 f h
theorem SaysP.def_ {K : PySem.W.Frag} (c : SaysP K) (i : Nat) {d : DefP} (h : fn[i]? = some d := by rfl) : ∃ fd, L2.Fun K d.name d.qual d.st (d.at_.ad K) fd := by
  have c2 := (He.ba (show ((fx.all fun f => f.ok K) && fn.all fun d => d.ok K) = true from congrArg (fun z : AlP => z.1) c)).2
  have e : (fn.map fun d => fnP K (d.at_.ad K)) = fn.map DefP.val := congrArg (fun z : AlP => z.2) c
  have e2 : (fn.map fun d => fnP K (d.at_.ad K))[i]? = (fn.map DefP.val)[i]? := by rw [e]
  rw [List.getElem?_map, List.getElem?_map, h] at e2
  exact DefP.fun_ (Option.some.inj e2) (List.all_eq_true.mp c2 d (List.mem_of_getElem? h))

end Lc

set_option Elab.async false
set_option linter.all false
set_option maxRecDepth 100000
set_option maxHeartbeats 0
namespace Lc
open PySem PySem.Spec PyProof.Rows L2
abbrev R : PySem.W.OpenRow := PySem.W.OpenLaw.row PySem.Challenge.rw_linecents_k30_whole_rows_of_books_exchan
def ob (s : PySem.W.SharedT) : AlP := obsPG (HandSHeadRun.getT s)
theorem ob_eq (s : PySem.W.SharedT) : ob s = hk.obs s.abs := obsPG_eq (HandSHeadRun.getT_eq s)
def nm0 : List Str := ["_wall", "WrongValue", "InvalidNumber", "InvalidText", "NotABook", "InvalidKinds", "InvalidGroups", "InvalidWhole", "InvalidBill", "WrongName", "UnknownName", "NoAnswer"]
def nm1 : List Str := ["Unlike", "Endless", "TooMany", "MOST_KINDS", "MOST_GROUPS", "MOST_STEPS", "MOST_FACTOR", "MOST_UNIT", "MOST_PLUS", "MOST_STATES", "MOST_AMOUNTS", "DIGITS"]
def nm2 : List Str := ["LETTERS", "LONGEST_NAME", "is_integer", "is_between", "check_number", "is_name", "number_of", "common_divisor", "common_multiple", "fraction", "times", "less"]
def nm3 : List Str := ["WAYS", "TIMES_SIZE", "PLUS_SIZE", "is_step", "wrong_step", "is_row_of_steps", "rounded", "led", "rate_of", "period_of", "text_of_step", "text_of_steps"]
def nm4 : List Str := ["step_of_text", "steps_of_text", "KIND_SIZE", "KIND_WORDS", "is_kind", "check_kinds", "check_groups", "check_places", "check_whole", "text_of", "parts_of_row", "kind_of_parts"]
def nm5 : List Str := ["is_line", "check_bill", "Book", "check_book", "check_two", "check_fit", "check_integers", "goes_on", "Row", "sides_of", "first_greater", "check_rates"]
def nm6 : List Str := ["amounts_of", "check_size", "States", "one_more", "greatest_gap", "difference", "check_greatest", "row_of", "is_led_on", "greatest", "turned", "least"]
def nm7 : List Str := ["first_other", "parting", "parting_line", "ends_behind", "can_part", "least_bill", "_law_cell", "_law_jar", "_law_dig", "_law_take", "_law_common", "_law_span"]
def nm8 : List Str := ["_law_fit", "_law_many", "_law_way", "_law_factor", "_law_step", "_law_extra", "_law_laid", "_law_pair", "_law_books", "_law_right"]
def loose : List Str := nm0 ++ nm1 ++ nm2 ++ nm3 ++ nm4 ++ nm5 ++ nm6 ++ nm7 ++ nm8
theorem run (w : World) : HandSHeadRun.RunEq R (PySem.W.view R.prog [114]) hk ob 12000 loose w := by
  intro os
  kernel_rfl
end Lc

set_option Elab.async false
set_option linter.all false
set_option maxRecDepth 100000
set_option maxHeartbeats 4000000
/-! Rules of our own over the hand layer: what its modules lack. -/
namespace Lr
open PySem PySem.Spec PyProof.Rows L2

/-! ### an attribute as a target -/
section
variable {X : Cx} {o : Expr} {f : Str} {pos : Pos} {to : TE}
def gFld (K : PySem.W.Frag) (to : TE) (f : Str) : TG := fun v σ H Q => to σ H fun x H1 => ∃ a C dx fs, x = .ref a ∧ H1 a = some (.ins C dx fs) ∧ Cls K C ∧ NoAttr K C f ∧ fs.length < 1000 ∧ Q σ (upd H1 a (.ins C dx (putF f v fs)))
theorem pg_fld (ho : PE X o to) (ha : ∀ v, assign (.Attribute o f pos) X.env v = (do
      let ov ← holding [v] (eval o X.env)
      standAt pos.atName
      holding [v, ov] (setAttr ov f v)
      release [v, ov] []) := by intro _; rfl) : PG X (.Attribute o f pos) (gFld X.K to f) := by
  refine ⟨fun pins s σ H v u Q I r h => ?_⟩
  rw [ha]
  refine wpAny_bind (wpAny_holding (thn (ho.run pins s σ H _ I h) fun ov s1 ⟨x, H1, I1, r1, a, C, dx, fs, ex, ea, c, n, l, q⟩ => ?_))
  subst ex
  obtain rfl : ov = Value.ref a := r1
  exact wpAny_bind (wpAny_standAt (wpAny_bind (wpAny_holding (setattr_ok I1 ea c n l r fun s3 I3 => wpAny_release ⟨σ, _, I3, q⟩))))
end

/-! ### starred items of a display -/
section
variable {X : Cx} {e : Expr} {es : List Expr} {te : TE} {t : TA} {p : Pos}
def tStar (K : PySem.W.Frag) (te : TE) (t : TA) : TA := fun σ H Q => te σ H fun x H1 => ∃ a xs, x = .ref a ∧ (SqL K H1 a xs ∨ SqT K H1 a xs) ∧ t σ H1 fun ys H2 => Q (xs ++ ys) H2
theorem star_L {pins : List (Addr × Obj)} {σ : L2.St} {H : Hp} {s : Shared} {a : Addr} {its : List Value} {Q : List Value → Shared → Prop} (I : Inv X pins σ H s) (hl : PlainL s.heap a its.toArray) (hz : its.length ≤ sizeLine)
    (h : ∀ s', Inv X pins σ H s' → Q its s') : PySem.W.StarOf (model X.prog X.w) X.A X.xe (.ref a) Q s := by
  obtain ⟨o, n, ho, hc, hd, hdat⟩ := hl
  have hT : s.TypeIs (.ref a) "list" := ⟨o, ho, hc⟩
  unfold PySem.W.StarOf notIterableAtAll
  refine wpAny_bind (wpAny_specialOf hT PySem.F.slot_list_iter.lookup (wpAny_pure ⟨rfl, ?_⟩))
  refine wpAny_mono (wpAny_collect_seq a (.inl rfl) ho hc hdat (fun h' hk => ?_) (by simpa using hz)) (fun _ _ z => z) fun _ _ z => z
  have := h { s with heap := h' } (I.kept (t' := s.toks) hk)
  simpa using this
theorem star_T {pins : List (Addr × Obj)} {σ : L2.St} {H : Hp} {s : Shared} {a : Addr} {its : List Value} {Q : List Value → Shared → Prop} (I : Inv X pins σ H s) (hl : IsTup s.heap a its.toArray) (hz : its.length ≤ sizeLine)
    (h : ∀ s', Inv X pins σ H s' → Q its s') : PySem.W.StarOf (model X.prog X.w) X.A X.xe (.ref a) Q s := by
  obtain ⟨o, ho, hc, n, hdat⟩ := hl
  have hT : s.TypeIs (.ref a) "tuple" := ⟨o, ho, hc⟩
  unfold PySem.W.StarOf notIterableAtAll
  refine wpAny_bind (wpAny_specialOf hT PySem.F.slot_tuple_iter.lookup (wpAny_pure ⟨rfl, ?_⟩))
  refine wpAny_mono (wpAny_collect_seq a (.inr rfl) ho hc hdat (fun h' hk => ?_) (by simpa using hz)) (fun _ _ z => z) fun _ _ z => z
  have := h { s with heap := h' } (I.kept (t' := s.toks) hk)
  simpa using this
theorem pa_star (ha : PE X e te) (hr : PA X es t) (hs : starEach (.Starred e p :: es) X.env = (true, eval e X.env) :: starEach es X.env := by rfl) : PA X (.Starred e p :: es) (tStar X.K te t) := by
  refine ⟨fun pos pins s σ H Q I h => ?_⟩
  refine PySem.W.items_star ?_ hs
  refine thn (ha.run pins s σ H _ I h) fun v s1 ⟨x, H1, I1, r1, a, xs, ex, hq, q⟩ => ?_
  subst ex
  obtain rfl : v = Value.ref a := r1
  rcases hq with hq | hq
  · obtain ⟨its, r, hl, hz⟩ := I1.list hq
    refine star_L I1 hl (by rw [← r.length]; exact hz) fun s2 I2 => ?_
    exact thn (hr.run pos pins s2 σ H1 _ I2 q) fun us s3 ⟨ys, H3, I3, r3, q3⟩ => ⟨_, H3, I3, r.append r3, q3⟩
  · obtain ⟨its, r, hl, hz⟩ := I1.tuple hq
    refine star_T I1 hl (by rw [← r.length]; exact hz) fun s2 I2 => ?_
    exact thn (hr.run pos pins s2 σ H1 _ I2 q) fun us s3 ⟨ys, H3, I3, r3, q3⟩ => ⟨_, H3, I3, r.append r3, q3⟩
end

/-! ### xs[i] op= e; xs.extend(tuple) -/
section
variable {X : Cx}
theorem get_list : PGet X (rIxL X.K) := by
  intro pins s σ H o i ov iv Q I ro ri h
  obtain ⟨p, xs, k, z, rfl, rfl, hq, he, q⟩ := h
  obtain rfl : ov = Value.ref p := ro
  obtain ⟨t, rfl⟩ := ri
  obtain ⟨its, r, pl, hz⟩ := I.list hq
  obtain ⟨j, h1, h2, h3, h4, h5⟩ := atI_get he
  obtain ⟨w, ew, rw'⟩ := r.get h2
  have hl := r.length
  have hn := line63
  have fin : EP X pins σ Q w s := ⟨z, H, I, rw', q⟩
  by_cases h0 : 0 ≤ k
  · have hj : k.toNat = j := by
      rw [seqIndex_of h0 h5] at h1
      exact Option.some.inj h1
    exact wpAny_getItem_list pl.isList h0 (by omega) (by rw [hj]; simpa using ew) fin
  · have hj : (k + (its.toArray.size : Int)).toNat = j := by
      rw [seqIndex_neg (by omega) h4] at h1
      rw [List.size_toArray, ← hl]
      exact Option.some.inj h1
    exact wpAny_getItem_list_neg pl.isList (by omega) (by rw [List.size_toArray] <;> omega) (by omega) (by rw [hj]; simpa using ew) fin

def rExtendT : V → List V → Hp → VK → Prop := fun x vs H Q => ∃ l b xs zs, x = .ref l ∧ vs = [.ref b] ∧ H l = some (.lst xs) ∧ H b = some (.tup zs) ∧ xs.length + zs.length ≤ sizeLine ∧ Q .non (upd H l (.lst (xs ++ zs)))
end
end Lr

set_option Elab.async false
set_option linter.all false
set_option maxRecDepth 100000
set_option maxHeartbeats 4000000
namespace Lr
open PySem PySem.Spec PyProof.Rows L2
open PySem.AutoSeq1 (wpAny_loadPart')
theorem ext_tup (l : Addr) (items : Array Value) (n : Nat) (b : Addr) (items2 : Array Value) (n2 : Nat) (dd : Option Addr) (sl : Array (Option Value)) (hs0 : ¬(!items.isEmpty && Builtin.List.listTooLong (items.size + items2.size)) = true) (hs1 : items.size ≤ sizeLine) (hs2 : items.size + items2.size ≤ sizeLine + 1) :
    Meets (Builtin.«list.extend» ⟨[.ref l, .ref b], []⟩) (fun _ R s => s.heap.get? l = some { cls := .type "list", dict := none, data := .seq items n, slots := #[] } ∧ s.heap.get? b = some { cls := .type "tuple", dict := dd, data := .seq items2 n2, slots := sl } ∧ R (.ok (.ret Value.none)) { s with heap := s.heap.update l (Obj.mapSeq fun x => x ++ items2), toks := s.toks }) :=
  .of_wp fun prog w A R s h => by
    obtain ⟨hp, g, d, tk, os⟩ := s; obtain ⟨hl, hb, h⟩ := h; have f1 := AutoSeq1.idx_int; have f2 := AutoSeq1.sub_tuple_tuple; have f3 := AutoSeq1.sub_list_list; have f4 := AutoSeq1.sub_tuple_list; have f5 := AutoSeq1.sub_list_tuple;
    have hz' : (items ++ items2).size ≤ sizeLine + 1 := by rw [Array.size_append]; exact hs2
    wp_walk using (wpAny_updateSeq hl rfl (hz := hs1) (_hz' := hz')), wpAny_loadPart' hl, wpAny_loadPart' hb; exact ⟨_, rfl, h⟩
section
variable {X : Cx}
def rExtT (K : PySem.W.Frag) : V → List V → Hp → VK → Prop := fun x vs H Q => ∃ l b xs zs, x = .ref l ∧ vs = [.ref b] ∧ H l = some (.lst xs) ∧ SqT K H b zs ∧ xs.length + zs.length ≤ sizeLine ∧ Q .non (upd H l (.lst (xs ++ zs)))
theorem mt_extT : MtR X "list.extend" (rExtT X.K) := by
  intro pins s σ H x vs v us Q I rx rv h
  obtain ⟨l, b, xs, zs, rfl, rfl, hH, hB, hz, q⟩ := h
  cases rx
  obtain ⟨u, rfl, ru⟩ := rv.one
  cases ru
  obtain ⟨z, its, n, r, hl, e⟩ := I.lstM hH
  obtain ⟨its2, r2, ⟨o, e2, c2, n2, d2⟩, _⟩ := I.tuple hB
  obtain ⟨oc, od, dt, osl⟩ := o
  have hc : oc = Value.type "tuple" := c2
  have hd : dt = Data.seq its2.toArray n2 := d2
  subst hc hd
  have hl1 := r.length
  have hl2 := r2.length
  have hsz : its.toArray.size + its2.toArray.size ≤ sizeLine := by rw [List.size_toArray, List.size_toArray]; omega
  have hlong : ¬ (!its.toArray.isEmpty && Builtin.List.listTooLong (its.toArray.size + its2.toArray.size)) = true := by
    rw [notLongL hsz, Bool.and_false]
    exact Bool.false_ne_true
  refine call_meets F.slot_list_extend ⟨_, e, rfl⟩ F.entry_list_extend (F.args_list_extend_2 _ _)
    (ext_tup l its.toArray n b its2.toArray n2 od osl hlong (by rw [List.size_toArray]; omega) (by omega)) ⟨e, e2, ?_⟩
  refine ⟨.non, _, I.lset (its' := its ++ its2) hH e (by simp) (r.append r2) ?_, rfl, q⟩
  rw [List.length_append]
  omega
end

/-! ### what is drawn from a list or a tuple that stands -/
/-- true: a list, false: a tuple -/
def SqK (k : Bool) (K : PySem.W.Frag) (H : Hp) (a : Addr) (xs : List V) : Prop := match k with
  | true => SqL K H a xs
  | false => SqT K H a xs
def SrcK (k : Bool) (h : Heap) (a : Addr) (its : List Value) : Prop := match k with
  | true => h.IsList a its.toArray
  | false => h.IsTuple a its.toArray
def ItK (k : Bool) (h : Heap) (it a : Addr) (i : Nat) : Prop := match k with
  | true => h.IsListIter it a i
  | false => h.IsTupleIter it a i
def ObK (k : Bool) (a : Addr) : Obj := match k with
  | true => { cls := .type "list_iterator", data := .fields #[.ref a, .int 0 0] }
  | false => { cls := .type "tuple_iterator", data := .fields #[.ref a, .int 0 0] }
theorem src_of {X : Cx} {pins : List (Addr × Obj)} {σ : L2.St} {H : Hp} {s : Shared} {k : Bool} {a : Addr} {xs : List V} (I : Inv X pins σ H s) (h : SqK k X.K H a xs) : ∃ its : List Value, Vals xs its ∧ SrcK k s.heap a its := by
  cases k with
  | true =>
    obtain ⟨its, r, p, _⟩ := I.list h
    exact ⟨its, r, p.isList⟩
  | false =>
    obtain ⟨its, r, p, _⟩ := I.tuple h
    exact ⟨its, r, p⟩
theorem draws_k {prog : Program} {w : World} {A : Around} (hh : A.handled = none) (k : Bool) (it a : Addr) (hne : a ≠ it) (its : List Value) :
    Draws prog w A it [it, a] its.length (fun i v => its[i]? = some v) (fun i h => ItK k h it a i ∧ SrcK k h a its) := by
  cases k with
  | true =>
    have z := Draws.list (prog := prog) (w := w) hh it a hne its.toArray
    simp only [List.size_toArray, List.getElem?_toArray] at z
    exact z
  | false =>
    have z := Draws.tuple (prog := prog) (w := w) hh it a hne its.toArray
    simp only [List.size_toArray, List.getElem?_toArray] at z
    exact z
theorem begins_k (k : Bool) (a : Addr) (its : List Value) : Begins (.ref a) (ObK k a) fun h => SrcK k h a its := by
  cases k with
  | true => exact begins_list a its.toArray
  | false => exact begins_tuple a its.toArray
theorem it0_k {k : Bool} {h : Heap} {it a : Addr} (e : h.get? it = some (ObK k a)) : ItK k h it a 0 := by
  cases k with
  | true => exact ⟨_, e, rfl, rfl⟩
  | false => exact ⟨_, e, rfl, rfl⟩
theorem ItK.obj {k : Bool} {h : Heap} {it a : Addr} {i : Nat} (x : ItK k h it a i) : ∃ o, h.get? it = some o ∧ ∀ v, o.data ≠ .cell v := by
  cases k with
  | true =>
    obtain ⟨o, e, c, d⟩ := x
    exact ⟨o, e, fun v z => by rw [d] at z; cases z⟩
  | false =>
    obtain ⟨o, e, c, d⟩ := x
    exact ⟨o, e, fun v z => by rw [d] at z; cases z⟩
theorem ItK.keep {k : Bool} {h h' : Heap} {it a : Addr} {i : Nat} (x : ItK k h it a i) (q : ∀ o, h.get? it = some o → h'.get? it = some o) : ItK k h' it a i := by
  cases k with
  | true => exact Heap.IsListIter.at x q
  | false => exact Heap.IsTupleIter.at x q
theorem SrcK.lt {k : Bool} {h : Heap} {a : Addr} {its : List Value} (x : SrcK k h a its) : a < h.objs.size := by
  cases k with
  | true =>
    obtain ⟨o, e, _⟩ := x
    exact Heap.lt_size e
  | false =>
    obtain ⟨o, e, _⟩ := x
    exact Heap.lt_size e
end Lr

set_option Elab.async false
set_option linter.all false
set_option maxRecDepth 100000
set_option maxHeartbeats 4000000
namespace Lr
open PySem PySem.Spec PyProof.Rows L2

/-! ### a walk that hands out new tuples, from the library's WalksT -/
/-- where a source stands it is none of the iterator's own -/
theorem src_ne {X : Cx} {pins : List (Addr × Obj)} {σ : L2.St} {H : Hp} {s : Shared} {k : Bool} {a it : Addr} {xs : List V} (I : Inv X pins σ H s) (h : SqK k X.K H a xs) (f : FpOk X pins H it) : a ≠ it := by
  intro e
  subst e
  obtain ⟨f0, f1, f2, f3, f4, f5⟩ := f
  have base : ∀ o, X.K.lookup a = some o → False := fun o hk => by
    have hb := I.ok.mod.kin a o hk
    rcases f3 with z | z
    · exact I.ok.noex a o hb z
    · exact absurd (Nat.lt_of_lt_of_le (Heap.lt_size hb) (Nat.le_trans I.ok.bsz z)) (Nat.lt_irrefl _)
  cases k with
  | true =>
    rcases h with (h | ⟨o, h⟩) | ⟨o, its, n, hk, _⟩
    · rw [h] at f0; cases f0
    · rw [h] at f0; cases f0
    · exact base o hk
  | false =>
    rcases h with (h | ⟨o, h⟩) | ⟨o, its, n, hk, _⟩
    · rw [h] at f0; cases f0
    · rw [h] at f0; cases f0
    · exact base o hk
/-- n turns, at the i-th a new tuple of row i, while src stands -/
def ItW (src : Hp → Prop) (n : Nat) (row : Nat → List V) : It :=
  ⟨fun i H => src H ∧ i < n, fun i H v H' => ∃ T, v = .ref T ∧ H T = none ∧ H' = upd H T (.tup (row i)), fun i H => src H ∧ i = n⟩
theorem turn_W {P : Program} {w : World} {K : PySem.W.Frag} {elts : List Expr} {kk : Nat} {tpos : Pos} {src : Hp → Prop} {n : Nat} {row : Nat → List V} {fp wr : List Addr} {it : Addr} {tn : Nat → Heap → Prop}
    (mem : it ∈ fp) (sub : ∀ b ∈ wr, b ∈ fp) (obj : ∀ i h, tn i h → ∀ b ∈ fp, ∃ o, h.get? b = some o ∧ ∀ v, o.data ≠ .cell v) (keep : ∀ i h h', tn i h → (∀ b ∈ fp, ∀ o, h.get? b = some o → h'.get? b = some o) → tn i h')
    (self : ∀ (A : Around) (i : Nat) (s : Shared) (Q : Value → Shared → Prop) (E : Value → Shared → Prop), tn i s.heap → Q (.ref it) s → wpAny (model P w) A (pyIter (.ref it)) Q E s)
    (hrow : ∀ i, i < n → (row i).length ≤ sizeLine)
    (W : ∀ (X : Cx), X.prog = P → X.w = w → X.K = K → X.calm = true → ∀ (pins : List (Addr × Obj)) (s : Shared) (σ : L2.St) (H : Hp), Inv X pins σ H s → (∀ b ∈ fp, FpOk X pins H b) → src H →
      ∃ (fpW : List Addr) (Pt : Nat → Array Value → Prop) (St : Nat → Heap → Prop) (Mid : Nat → Addr → Heap → Prop), WalksT P w X.A it fpW wr n Pt St Mid ∧ (∀ i, tn i s.heap → St i s.heap) ∧ (∀ i h, St i h → tn i h) ∧ ∀ i vs, i < n → Pt i vs → Vals (row i) vs.toList) :
    Turn P w K (.Tuple elts kk tpos) (ItW src n row) fp it tn where
  mem := mem
  obj := obj
  keep := keep
  item := by
    intro X hP hw hK hc i pins s σ H E I hf st hg
    obtain ⟨hs, hi⟩ := hg
    obtain ⟨fpW, Pt, St, Mid, w1, a1, a2, a3⟩ := W X hP hw hK hc pins s σ H I hf hs
    subst hP hw hK
    refine w1.item i s _ E hi (a1 i st) fun T vals h' tk hPt hT hTup hmid hk => ⟨.ref T, rfl, ?_⟩
    have hTw := w1.apart i T h' hmid
    refine w1.go elts kk tpos i T { s with heap := h', toks := tk } _ E hmid fun h'' st'' hk2 => ?_
    obtain ⟨o, ho, hcl, m, hd⟩ := hTup
    have ho2 : h''.get? T = some o := hk2 T o hTw ho
    have hn : H T = none := I.hok.fresh hT
    have new : ObjOk X.prog X.w (upd H T (.tup (row i))) h'' T (.tup (row i)) := ⟨hrow i hi, vals.toList, a3 i vals hi hPt, o, ho2, hcl, m, by simpa using hd⟩
    have I1 : Inv X pins σ (upd H T (.tup (row i))) { s with heap := h'', toks := tk } :=
      I.turnedNew (t' := tk) (ch := fp) (fun b ob hb e => hk2 b ob (fun z => hb (sub b z)) (hk b ob (fun z => hb (sub b z)) e)) hf hT new
    refine ⟨.ref T, _, I1, rfl, ⟨T, rfl, hn, rfl⟩, a2 _ _ st'', fun b hb => ?_⟩
    have hlt : b < s.heap.objs.size := by
      obtain ⟨ob, eb, _⟩ := obj i s.heap st b hb
      exact Heap.lt_size eb
    rw [upd_ne (Nat.ne_of_lt (Nat.lt_of_lt_of_le hlt hT))]
    exact (hf b hb).1
  done := by
    intro X hP hw hK hc i pins s σ H E I hf st hg
    obtain ⟨hs, hi⟩ := hg
    obtain ⟨fpW, Pt, St, Mid, w1, a1, a2, a3⟩ := W X hP hw hK hc pins s σ H I hf hs
    subst hP hw hK
    subst hi
    exact w1.done s _ E (a1 i st) fun h' tk hk => ⟨rfl, I.turnedL (t' := tk) (ch := fp) (fun b ob hb e => hk b ob (fun z => hb (sub b z)) e) hf⟩
  self := self

/-- the walk of a loop over it -/
theorem for_W {src : Hp → Prop} {n : Nat} {row : Nat → List V} {g : TG} {tb : TS} {D : Ends} {σ : L2.St} {H : Hp} (Pv : Nat → L2.St → Hp → Prop) (h0 : Pv 0 σ H) (hq : ∀ i σ H, i ≤ n → Pv i σ H → src H)
    (hs : ∀ (i : Nat) (T : Addr) (σ : L2.St) (H : Hp), i < n → Pv i σ H → H T = none → g (.ref T) σ (upd H T (.tup (row i))) fun σ2 H2 => tb { D with nx := Pv (i + 1), ct := Pv (i + 1), bk := D.nx } σ2 H2) (hd : ∀ σ H, Pv n σ H → D.nx σ H) :
    ∃ W : Nat → Nat → L2.St → Hp → Prop, (∃ m, W 0 m σ H) ∧ ∀ i m σ H, W i m σ H →
      ((ItW src n row).stop i H ∧ D.nx σ H) ∨ ((ItW src n row).go i H ∧ ∃ N : L2.St → Hp → Prop, (∀ σ' H', N σ' H' → ∃ m', m' < m ∧ W (i + 1) m' σ' H') ∧ ∀ v H', (ItW src n row).yld i H v H' → g v σ H' fun σ2 H2 => tb { D with nx := N, ct := N, bk := D.nx } σ2 H2) := by
  refine ⟨fun i m σ H => m = n - i ∧ i ≤ n ∧ Pv i σ H, ⟨n, rfl, Nat.zero_le _, h0⟩, ?_⟩
  rintro i m σ H ⟨rfl, hi, p⟩
  have q := hq i σ H hi p
  by_cases hlt : i < n
  · refine .inr ⟨⟨q, hlt⟩, Pv (i + 1), fun σ' H' p' => ⟨n - (i + 1), by omega, rfl, hlt, p'⟩, fun v H' y => ?_⟩
    obtain ⟨T, rfl, hT, rfl⟩ := y
    exact hs i T σ H hlt p hT
  · have e : i = n := by omega
    subst e
    exact .inl ⟨⟨q, rfl⟩, hd σ H p⟩
/-- .. of a comprehension -/
theorem lc_W {src : Hp → Prop} {n : Nat} {row : Nat → List V} {g : TG} {tt : TT} {te : TE} {vs : List Nat} {σ : L2.St} {H1 : Hp} {D : Addr} {Qd : Hp → Prop} (Pv : Nat → Hp → Prop) (h0 : Pv 0 (upd H1 D (.lst []))) (hq : ∀ i H, i ≤ n → Pv i H → src H)
    (hs : ∀ (i : Nat) (T : Addr) (H : Hp), i < n → Pv i H → H T = none → g (.ref T) (wipe σ vs) (upd H T (.tup (row i))) fun σ2 H2 => wipe σ2 vs = wipe σ vs ∧ tt σ2 H2 fun b H3 =>
      if b = true then te σ2 H3 fun y H4 => ∃ acc, H4 D = some (.lst acc) ∧ acc.length < sizeLine ∧ Pv (i + 1) (upd H4 D (.lst (acc ++ [y]))) else Pv (i + 1) H3) (hd : ∀ H, Pv n H → Qd H) :
    ∃ W : Nat → Nat → Hp → Prop, (∃ m, W 0 m (upd H1 D (.lst []))) ∧ ∀ i m H, W i m H →
      ((ItW src n row).stop i H ∧ Qd H) ∨ ((ItW src n row).go i H ∧ ∃ Nx : Hp → Prop, (∀ H', Nx H' → ∃ m', m' < m ∧ W (i + 1) m' H') ∧ ∀ x H', (ItW src n row).yld i H x H' → g x (wipe σ vs) H' fun σ2 H2 => wipe σ2 vs = wipe σ vs ∧ tt σ2 H2 fun b H3 =>
        if b = true then te σ2 H3 fun y H4 => ∃ acc, H4 D = some (.lst acc) ∧ acc.length < sizeLine ∧ Nx (upd H4 D (.lst (acc ++ [y]))) else Nx H3) := by
  refine ⟨fun i m H => m = n - i ∧ i ≤ n ∧ Pv i H, ⟨n, rfl, Nat.zero_le _, h0⟩, ?_⟩
  rintro i m H ⟨rfl, hi, p⟩
  have q := hq i H hi p
  by_cases hlt : i < n
  · refine .inr ⟨⟨q, hlt⟩, Pv (i + 1), fun H' p' => ⟨n - (i + 1), by omega, rfl, hlt, p'⟩, fun x H' y => ?_⟩
    obtain ⟨T, rfl, hT, rfl⟩ := y
    exact hs i T H hlt p hT
  · have e : i = n := by omega
    subst e
    exact .inl ⟨⟨q, rfl⟩, hd H p⟩

/-! ### zip of two, of three; enumerate: of lists and tuples in any mix -/
theorem fresh_fp {X : Cx} {pins : List (Addr × Obj)} {σ : L2.St} {H : Hp} {s : Shared} (I : Inv X pins σ H s) {l : List Nat} : ∀ b ∈ l.map (fun j => s.heap.objs.size + j), FpOk X pins H b := fun b hb => by
  obtain ⟨j, _, e⟩ := List.mem_map.mp hb
  subst e
  exact I.fpOk (Nat.le_add_right _ _) (I.hok.fresh (Nat.le_add_right _ _))
def SrcZ2 (K : PySem.W.Frag) (k1 k2 : Bool) (a b : Addr) (xs ys : List V) : Hp → Prop := fun H => SqK k1 K H a xs ∧ SqK k2 K H b ys
def SrcZ3 (K : PySem.W.Frag) (k1 k2 k3 : Bool) (a b c : Addr) (xs ys zs : List V) : Hp → Prop := fun H => SqK k1 K H a xs ∧ SqK k2 K H b ys ∧ SqK k3 K H c zs
def rowZ2 (xs ys : List V) : Nat → List V := fun i => [xs.getD i .non, ys.getD i .non]
def rowZ3 (xs ys zs : List V) : Nat → List V := fun i => [xs.getD i .non, ys.getD i .non, zs.getD i .non]
def rowE (xs : List V) : Nat → List V := fun i => [.int (i : Nat), xs.getD i .non]
theorem rel_at {xs : List V} {its : List Value} (r : Vals xs its) {i : Nat} {u : Value} (e : its[i]? = some u) : RelV (xs.getD i .non) u := by
  have hl := r.length
  have hi : i < its.length := (List.getElem?_eq_some_iff.mp e).1
  have hx : xs[i]? = some xs[i] := List.getElem?_eq_getElem (by omega)
  obtain ⟨u', e', q⟩ := r.get hx
  rw [e] at e'
  cases e'
  rw [List.getD_eq_getElem?_getD, hx]
  exact q
theorem sz2 {α : Type} (a b : α) : [a, b].length ≤ sizeLine := by show 2 ≤ sizeLine; decide
theorem sz3 {α : Type} (a b c : α) : [a, b, c].length ≤ sizeLine := by show 3 ≤ sizeLine; decide

section
variable {P : Program} {w : World} {K : PySem.W.Frag} {elts : List Expr} {kk : Nat} {tpos : Pos}
theorem turn_Z2 {k1 k2 : Bool} {N a b : Addr} {xs ys : List V} (ha : a < N) (hb : b < N) :
    Turn P w K (.Tuple elts kk tpos) (ItW (SrcZ2 K k1 k2 a b xs ys) (min xs.length ys.length) (rowZ2 xs ys)) ([4, 2, 3, 0, 1].map fun j => N + j) (N + 4)
      (fun i h => IsZip h (N + 4) (N + 2) (N + 3) .none ∧ IsTupOf2 h (N + 2) (.ref N) (.ref (N + 1)) ∧ (∃ x y, IsTupOf2 h (N + 3) x y) ∧ ItK k1 h N a i ∧ ItK k2 h (N + 1) b i) := by
  refine turn_W (wr := [N + 4, N + 3, N, N + 1]) (by simp) (fun c hc => ?_) (fun i h st c hc => ?_) (fun i h h' st k => ?_) (fun A i s Q E st q => wpAny_pyIter_zip st.1 q) (fun i _ => sz2 _ _) fun X hP hw hK hc pins s σ H I hf hs => ?_
  · have e' : c = N + 4 ∨ c = N + 3 ∨ c = N ∨ c = N + 1 := by simpa using hc
    rcases e' with e | e | e | e <;> subst e <;> simp
  · obtain ⟨hz, hT, ⟨x, y, hO⟩, h1, h2⟩ := st
    have e' : c = N + 4 ∨ c = N + 2 ∨ c = N + 3 ∨ c = N ∨ c = N + 1 := by simpa using hc
    rcases e' with e | e | e | e | e
    · subst e; exact ⟨_, hz, fun v q => nomatch q⟩
    · subst e; exact ⟨_, hT, fun v q => nomatch q⟩
    · subst e; exact ⟨_, hO, fun v q => nomatch q⟩
    · subst e; exact h1.obj
    · subst e; exact h2.obj
  · obtain ⟨hz, hT, ⟨x, y, hO⟩, h1, h2⟩ := st
    exact ⟨k _ (by simp) _ hz, k _ (by simp) _ hT, ⟨x, y, k _ (by simp) _ hO⟩, h1.keep fun o e => k _ (by simp) o e, h2.keep fun o e => k _ (by simp) o e⟩
  · subst hP hw hK
    obtain ⟨q1, q2⟩ := hs
    obtain ⟨u1, r1, s1⟩ := src_of I q1
    obtain ⟨u2, r2, s2⟩ := src_of I q2
    have hh : X.A.in1.handled = none := I.ok.hd hc
    have n1 : a ≠ N := Nat.ne_of_lt ha
    have n2 : b ≠ N + 1 := Nat.ne_of_lt (Nat.lt_succ_of_lt hb)
    have S := zip_sep2 (N := N) (fp1 := [a]) (fp2 := [b]) (by simpa using ha) (by simpa using hb)
    have W := WalksT.zipD2 (prog := X.prog) (w := X.w) (A := X.A) S (draws_k hh k1 N a n1 u1) (draws_k hh k2 (N + 1) b n2 u2)
    have l1 := r1.length
    have l2 := r2.length
    rw [l1, l2]
    refine ⟨_, _, _, _, W, fun i st => ?_, fun i h st => ?_, fun i vs hi hP => ?_⟩
    · obtain ⟨hz, hT, hO, h1, h2⟩ := st
      exact ⟨hz, hT, hO, ⟨h1, s1⟩, ⟨h2, s2⟩⟩
    · obtain ⟨hz, hT, hO, h1, h2⟩ := st
      exact ⟨hz, hT, hO, h1.1, h2.1⟩
    · obtain ⟨x1, x2, p1, p2, rfl⟩ := hP
      exact .cons (rel_at r1 p1) (.cons (rel_at r2 p2) .nil)
theorem turn_Z3 {k1 k2 k3 : Bool} {N a b c : Addr} {xs ys zs : List V} (ha : a < N) (hb : b < N) (hc : c < N) :
    Turn P w K (.Tuple elts kk tpos) (ItW (SrcZ3 K k1 k2 k3 a b c xs ys zs) (min (min xs.length ys.length) zs.length) (rowZ3 xs ys zs)) ([5, 3, 4, 0, 1, 2].map fun j => N + j) (N + 5)
      (fun i h => IsZip h (N + 5) (N + 3) (N + 4) .none ∧ IsTupOf3 h (N + 3) (.ref N) (.ref (N + 1)) (.ref (N + 2)) ∧ (∃ x y z, IsTupOf3 h (N + 4) x y z) ∧ ItK k1 h N a i ∧ ItK k2 h (N + 1) b i ∧ ItK k3 h (N + 2) c i) := by
  refine turn_W (wr := [N + 5, N + 4, N, N + 1, N + 2]) (by simp) (fun d hd => ?_) (fun i h st d hd => ?_) (fun i h h' st k => ?_) (fun A i s Q E st q => wpAny_pyIter_zip st.1 q) (fun i _ => sz3 _ _ _) fun X hP hw hK hcl pins s σ H I hf hs => ?_
  · have e' : d = N + 5 ∨ d = N + 4 ∨ d = N ∨ d = N + 1 ∨ d = N + 2 := by simpa using hd
    rcases e' with e | e | e | e | e <;> subst e <;> simp
  · obtain ⟨hz, hT, ⟨x, y, z, hO⟩, h1, h2, h3⟩ := st
    have e' : d = N + 5 ∨ d = N + 3 ∨ d = N + 4 ∨ d = N ∨ d = N + 1 ∨ d = N + 2 := by simpa using hd
    rcases e' with e | e | e | e | e | e
    · subst e; exact ⟨_, hz, fun v q => nomatch q⟩
    · subst e; exact ⟨_, hT, fun v q => nomatch q⟩
    · subst e; exact ⟨_, hO, fun v q => nomatch q⟩
    · subst e; exact h1.obj
    · subst e; exact h2.obj
    · subst e; exact h3.obj
  · obtain ⟨hz, hT, ⟨x, y, z, hO⟩, h1, h2, h3⟩ := st
    exact ⟨k _ (by simp) _ hz, k _ (by simp) _ hT, ⟨x, y, z, k _ (by simp) _ hO⟩, h1.keep fun o e => k _ (by simp) o e, h2.keep fun o e => k _ (by simp) o e, h3.keep fun o e => k _ (by simp) o e⟩
  · subst hP hw hK
    obtain ⟨q1, q2, q3⟩ := hs
    obtain ⟨u1, r1, s1⟩ := src_of I q1
    obtain ⟨u2, r2, s2⟩ := src_of I q2
    obtain ⟨u3, r3, s3⟩ := src_of I q3
    have hh : X.A.in1.handled = none := I.ok.hd hcl
    have n1 : a ≠ N := Nat.ne_of_lt ha
    have n2 : b ≠ N + 1 := Nat.ne_of_lt (Nat.lt_succ_of_lt hb)
    have n3 : c ≠ N + 2 := Nat.ne_of_lt (Nat.lt_succ_of_lt (Nat.lt_succ_of_lt hc))
    have S := zip_sep3 (N := N) (fp1 := [a]) (fp2 := [b]) (fp3 := [c]) (by simpa using ha) (by simpa using hb) (by simpa using hc)
    have W := WalksT.zipD3 (prog := X.prog) (w := X.w) (A := X.A) S (draws_k hh k1 N a n1 u1) (draws_k hh k2 (N + 1) b n2 u2) (draws_k hh k3 (N + 2) c n3 u3)
    have l1 := r1.length
    have l2 := r2.length
    have l3 := r3.length
    rw [l1, l2, l3]
    refine ⟨_, _, _, _, W, fun i st => ?_, fun i h st => ?_, fun i vs hi hP => ?_⟩
    · obtain ⟨hz, hT, hO, h1, h2, h3⟩ := st
      exact ⟨hz, hT, hO, ⟨h1, s1⟩, ⟨h2, s2⟩, ⟨h3, s3⟩⟩
    · obtain ⟨hz, hT, hO, h1, h2, h3⟩ := st
      exact ⟨hz, hT, hO, h1.1, h2.1, h3.1⟩
    · obtain ⟨x1, x2, x3, p1, p2, p3, rfl⟩ := hP
      exact .cons (rel_at r1 p1) (.cons (rel_at r2 p2) (.cons (rel_at r3 p3) .nil))
theorem turn_E {k : Bool} {N a : Addr} {xs : List V} (ha : a < N) :
    Turn P w K (.Tuple elts kk tpos) (ItW (fun H => SqK k K H a xs) xs.length (rowE xs)) ([1, 0].map fun j => N + j) (N + 1)
      (fun i h => (∃ old, IsEnum h (N + 1) N ((i : Nat) : Int) old) ∧ ItK k h N a i) := by
  refine turn_W (wr := [N + 1, N]) (by simp) (fun d hd => ?_) (fun i h st d hd => ?_) (fun i h h' st q => ?_) (fun A i s Q E st q => let ⟨⟨old, e⟩, _⟩ := st; wpAny_pyIter_enum e q) (fun i _ => sz2 _ _) fun X hP hw hK hcl pins s σ H I hf hs => ?_
  · have e' : d = N + 1 ∨ d = N := by simpa using hd
    rcases e' with e | e <;> subst e <;> simp
  · obtain ⟨⟨old, he⟩, h1⟩ := st
    have e' : d = N + 1 ∨ d = N := by simpa using hd
    rcases e' with e | e
    · subst e; exact ⟨_, he, fun v q => nomatch q⟩
    · subst e; exact h1.obj
  · obtain ⟨⟨old, he⟩, h1⟩ := st
    exact ⟨⟨old, q _ (by simp) _ he⟩, h1.keep fun o e => q _ (by simp) o e⟩
  · subst hP hw hK
    obtain ⟨u1, r1, s1⟩ := src_of I hs
    have hh : X.A.in1.handled = none := I.ok.hd hcl
    have n1 : a ≠ N := Nat.ne_of_lt ha
    have n2 : (N + 1 : Nat) ∉ [N, a] := by
      have : (N + 1 : Nat) ≠ a := Nat.ne_of_gt (Nat.lt_succ_of_lt ha)
      simp [this]
    have W := WalksT.enumFrom (prog := X.prog) (w := X.w) (A := X.A) 0 (draws_k hh k N a n1 u1) (N + 1) (Nat.succ_ne_self N) n2 (by simp)
    have l1 := r1.length
    rw [l1]
    refine ⟨_, _, _, _, W, fun i st => ?_, fun i h st => ?_, fun i vs hi hP => ?_⟩
    · obtain ⟨⟨old, he⟩, h1⟩ := st
      exact ⟨⟨old, by rw [Int.zero_add]; exact he⟩, h1, s1⟩
    · obtain ⟨⟨old, he⟩, h1⟩ := st
      rw [Int.zero_add] at he
      exact ⟨⟨old, he⟩, h1.1⟩
    · obtain ⟨t, x, p1, rfl⟩ := hP
      rw [Int.zero_add]
      exact .cons ⟨t, rfl⟩ (.cons (rel_at r1 p1) .nil)
end
end Lr

set_option Elab.async false
set_option linter.all false
set_option maxRecDepth 100000
set_option maxHeartbeats 4000000
namespace Lr
open PySem PySem.Spec PyProof.Rows L2

/-! ### zip(a, b), zip(a, b, c), enumerate(a) -/
def iZ2 (K : PySem.W.Frag) (ta : TA) : TI := fun σ H R => ta σ H fun vs H1 => ∃ k1 k2 a b xs ys, vs = [.ref a, .ref b] ∧ SqK k1 K H1 a xs ∧ SqK k2 K H1 b ys ∧ R (ItW (SrcZ2 K k1 k2 a b xs ys) (min xs.length ys.length) (rowZ2 xs ys)) H1
def iZ3 (K : PySem.W.Frag) (ta : TA) : TI := fun σ H R => ta σ H fun vs H1 => ∃ k1 k2 k3 a b c xs ys zs, vs = [.ref a, .ref b, .ref c] ∧ SqK k1 K H1 a xs ∧ SqK k2 K H1 b ys ∧ SqK k3 K H1 c zs ∧ R (ItW (SrcZ3 K k1 k2 k3 a b c xs ys zs) (min (min xs.length ys.length) zs.length) (rowZ3 xs ys zs)) H1
def iEn (K : PySem.W.Frag) (ta : TA) : TI := fun σ H R => ta σ H fun vs H1 => ∃ k a xs, vs = [.ref a] ∧ SqK k K H1 a xs ∧ R (ItW (fun H => SqK k K H a xs) xs.length (rowE xs)) H1
section
variable {X : Cx} {e e2 e3 : Expr} {ta : TA} {p pos tpos : Pos} {elts : List Expr} {kk : Nat}
theorem pi_Z2 (hg : Gl X "zip") (hm : X.mg "zip" = none) (ha : PA X [e, e2] ta)
    (hs : starEach [e, e2] X.env = (false, eval e X.env) :: starEach [e2] X.env := by rfl) (hpl : (backTo pos (starEach [e2] X.env)).any (·.1) = false := by rfl) :
    PI X (.Tuple elts kk tpos) (.Call (.Name "zip" p) [e, e2] [] pos) (iZ2 X.K ta) := by
  refine ⟨fun pins s σ H R I h => ?_⟩
  refine Call_ (ld_blt I hg hm PyProof.Rows.boot_zip (PyProof.Rows.callWith_type1 (thn (ha.run pos pins s σ H _ I h) fun us s1 ⟨vs, H1, I1, r1, q1⟩ => ?_) hs hpl))
  obtain ⟨k1, k2, a, b, xs, ys, ex, h1, h2, q⟩ := q1
  subst ex
  cases r1 with
  | cons r rr =>
    cases rr with
    | cons r' rr =>
      cases rr
      cases r
      cases r'
      obtain ⟨u1, r1, s1'⟩ := src_of I1 h1
      obtain ⟨u2, r2, s2'⟩ := src_of I1 h2
      refine zip_begins2 (begins_k k1 a u1) (begins_k k2 b u2) s1' s2' fun h' hz hT hO g1 g2 hsz hk => wpAny_pyIter_zip hz ?_
      have I2 : Inv X pins σ H1 { s1 with heap := h' } := I1.kept (t' := s1.toks) hk
      exact ⟨s1.heap.objs.size + 4, [4, 2, 3, 0, 1].map (fun j => s1.heap.objs.size + j), _, _, H1, rfl, I2, turn_Z2 s1'.lt s2'.lt, ⟨hz, hT, ⟨_, _, hO⟩, it0_k g1, it0_k g2⟩, fresh_fp I1, q⟩
theorem pi_Z3 (hg : Gl X "zip") (hm : X.mg "zip" = none) (ha : PA X [e, e2, e3] ta)
    (hs : starEach [e, e2, e3] X.env = (false, eval e X.env) :: starEach [e2, e3] X.env := by rfl) (hpl : (backTo pos (starEach [e2, e3] X.env)).any (·.1) = false := by rfl) :
    PI X (.Tuple elts kk tpos) (.Call (.Name "zip" p) [e, e2, e3] [] pos) (iZ3 X.K ta) := by
  refine ⟨fun pins s σ H R I h => ?_⟩
  refine Call_ (ld_blt I hg hm PyProof.Rows.boot_zip (PyProof.Rows.callWith_type1 (thn (ha.run pos pins s σ H _ I h) fun us s1 ⟨vs, H1, I1, r1, q1⟩ => ?_) hs hpl))
  obtain ⟨k1, k2, k3, a, b, c, xs, ys, zs, ex, h1, h2, h3, q⟩ := q1
  subst ex
  cases r1 with
  | cons r rr =>
    cases rr with
    | cons r' rr =>
      cases rr with
      | cons r'' rr =>
        cases rr
        cases r
        cases r'
        cases r''
        obtain ⟨u1, r1, s1'⟩ := src_of I1 h1
        obtain ⟨u2, r2, s2'⟩ := src_of I1 h2
        obtain ⟨u3, r3, s3'⟩ := src_of I1 h3
        refine zip_begins3 (begins_k k1 a u1) (begins_k k2 b u2) (begins_k k3 c u3) s1' s2' s3' fun h' hz hT hO g1 g2 g3 hsz hk => wpAny_pyIter_zip hz ?_
        have I2 : Inv X pins σ H1 { s1 with heap := h' } := I1.kept (t' := s1.toks) hk
        exact ⟨s1.heap.objs.size + 5, [5, 3, 4, 0, 1, 2].map (fun j => s1.heap.objs.size + j), _, _, H1, rfl, I2, turn_Z3 s1'.lt s2'.lt s3'.lt, ⟨hz, hT, ⟨_, _, _, hO⟩, it0_k g1, it0_k g2, it0_k g3⟩, fresh_fp I1, q⟩
end
section
open PySem.AutoSeq1 (wpAny_loadPart')
set_option maxHeartbeats 4000000 in
theorem meets_enum1 {v : Value} {o : Obj} {H : Heap → Prop} (B : Begins v o H) :
    Meets (Builtin.«enumerate.__new__» ⟨[.type "enumerate", v], []⟩) (fun _ R s => H s.heap ∧
      R (.ok (.ret (.ref (s.heap.push o).objs.size))) { s with heap := (s.heap.push o).push { cls := .type "enumerate", data := .fields #[.none, .bool false, .ref s.heap.objs.size, rawInt 0, .none, .none] } }) :=
  .of_wp fun prog w A R s h => by
    obtain ⟨hp, g, d, tk, os⟩ := s; obtain ⟨h1, h⟩ := h
    have hsub := sub_enumerate
    have q1 : ∀ {A' : Around} {E : Value → Shared → Prop} {Q : Value → Shared → Prop}, Q (.ref hp.objs.size) ⟨hp.push o, g, d, tk, os⟩ → wpAny (model prog w) A' (pyIter v) Q E ⟨hp, g, d, tk, os⟩ :=
      fun q => B.iter prog w _ _ ⟨hp, g, d, tk, os⟩ _ h1 q
    wp_walk using q1
    refine wpAny_stack_any fun st => wpAny_pure ?_
    split
    · rename_i c _ _ _ _ _
      cases (c == Value.type "enumerate")
      · wp_walk using q1
        exact ⟨_, rfl, h⟩
      · wp_walk using q1
        exact ⟨_, rfl, h⟩
    · wp_walk using q1
      exact ⟨_, rfl, h⟩
theorem enum_begins1 {prog : Program} {w : World} {A : Around} {E : Value → Shared → Prop} {s : Shared} {v : Value} {o : Obj} {H : Heap → Prop} {Q : Value → Shared → Prop} (B : Begins v o H) (h1 : H s.heap)
    (h : ∀ h', IsEnum h' (s.heap.objs.size + 1) s.heap.objs.size 0 .none → h'.get? s.heap.objs.size = some o → h'.objs.size = s.heap.objs.size + 2 →
      (∀ b o, s.heap.get? b = some o → h'.get? b = some o) → Q (.ref (s.heap.objs.size + 1)) { s with heap := h' }) :
    wpAny (model prog w) A (call (.type "enumerate") [v]) Q E s := by
  refine callType_new F.called_enumerate (by decide) (F.typeCall_enumerate_1 _) (F.newCall_enumerate_1 _) (fun obj => F.args_object_init_2 obj _) F.entry_enumerate_new
    (meets_enum1 B) ⟨h1, ?_⟩
  have hz : (s.heap.push o).objs.size = s.heap.objs.size + 1 := Heap.size_push ..
  show _ ∧ _
  rw [hz]
  have he : IsEnum ((s.heap.push o).push { cls := .type "enumerate", data := .fields #[.none, .bool false, .ref s.heap.objs.size, rawInt 0, .none, .none] }) (s.heap.objs.size + 1) s.heap.objs.size 0 .none := by
    have := Heap.get?_push_size (s.heap.push o) (o := { cls := .type "enumerate", data := .fields #[.none, .bool false, .ref s.heap.objs.size, rawInt 0, .none, .none] }) rfl
    rw [hz] at this; exact this
  refine ⟨⟨_, he, rfl⟩, h _ he (Heap.get?_push_of_some _ (Heap.get?_push_size _ B.free)) (by rw [Heap.size_push, hz]) fun b o x => Heap.get?_push_of_some _ (Heap.get?_push_of_some _ x)⟩
end
section
variable {X : Cx} {e : Expr} {ta : TA} {p pos tpos : Pos} {elts : List Expr} {kk : Nat}
theorem pi_En (hg : Gl X "enumerate") (hm : X.mg "enumerate" = none) (ha : PA X [e] ta) (hs : starEach [e] X.env = [(false, eval e X.env)] := by rfl) :
    PI X (.Tuple elts kk tpos) (.Call (.Name "enumerate" p) [e] [] pos) (iEn X.K ta) := by
  refine ⟨fun pins s σ H R I h => ?_⟩
  refine Call_ (ld_blt I hg hm boot_enumerate (PyProof.Rows.callWith_type1 (thn (ha.run pos pins s σ H _ I h) fun us s1 ⟨vs, H1, I1, r1, q1⟩ => ?_) hs rfl))
  obtain ⟨k, a, xs, ex, hq, q⟩ := q1
  subst ex
  cases r1 with
  | cons r rr =>
    cases rr
    cases r
    obtain ⟨u1, r1, s1'⟩ := src_of I1 hq
    refine enum_begins1 (begins_k k a u1) s1' fun h' he hit hsz hk => wpAny_pyIter_enum he ?_
    have I2 : Inv X pins σ H1 { s1 with heap := h' } := I1.kept (t' := s1.toks) hk
    exact ⟨s1.heap.objs.size + 1, [1, 0].map (fun j => s1.heap.objs.size + j), _, _, H1, rfl, I2, turn_E s1'.lt, ⟨⟨.none, he⟩, it0_k hit⟩, fresh_fp I1, q⟩
end

/-! ### a locked dict with tuple keys: its items, its values -/
def ItIT (d : Addr) (o : Obj) (kvs : List (List Key × V)) : It :=
  ⟨fun i H => H d = some (.frz o (.dT kvs)) ∧ i < kvs.length, fun i H x H' => ∃ T k v q, kvs[i]? = some (k, v) ∧ x = .ref T ∧ H T = none ∧ H q = some (.tup (k.map kV)) ∧ H' = upd H T (.tup [.ref q, v]), fun i H => H d = some (.frz o (.dT kvs)) ∧ i = kvs.length⟩
def ItVT (d : Addr) (o : Obj) (kvs : List (List Key × V)) : It :=
  ⟨fun i H => H d = some (.frz o (.dT kvs)) ∧ i < kvs.length, fun i H x H' => H' = H ∧ ∃ k, kvs[i]? = some (k, x), fun i H => H d = some (.frz o (.dT kvs)) ∧ i = kvs.length⟩
section
variable {X : Cx} {pins : List (Addr × Obj)} {σ : L2.St} {H : Hp} {s : Shared} {d : Addr} {o : Obj} {es : Array DictEntry} {ep : Nat}
theorem frzT2 {kvs : List (List Key × V)} (I : Inv X pins σ H s) (h : H d = some (.frz o (.dT kvs))) :
    (d == sysModules) = false ∧ s.heap.get? d = some o ∧ o.ExactDict ∧ ∃ (es : Array DictEntry) (ep : Nat), o.data = .dict es ep ∧ es.size = kvs.length ∧
      ∀ (i : Nat) (k : List Key) (v : V), kvs[i]? = some (k, v) → ∃ (en : DictEntry) (q : Addr), es[i]? = some en ∧ en.key = .ref q ∧ H q = some (.tup (k.map kV)) ∧ RelV v en.val := by
  obtain ⟨hd, z, hs, xs, pr, o', es, ep, ho, hx, hdt, he, _⟩ := I.hok d _ h
  rw [hd] at ho
  cases ho
  refine ⟨hs, hd, hx, es, ep, hdt, ?_, fun i k v e => ?_⟩
  · have l1 : es.size = xs.length := size_of_entries he
    have l2 : kvs.length = xs.length := Paired.length pr
    omega
  · obtain ⟨b, hb, e1, e2, e3⟩ := paired_get pr e
    have q := entry_at he i
    rw [hb] at q
    exact ⟨_, b.2.1, q, rfl, e2, e3⟩
variable {P : Program} {w : World} {K : PySem.W.Frag}
theorem turn_IT {kvs : List (List Key × V)} {elts : List Expr} {kk : Nat} {tpos : Pos} (it : Addr) (hod : o.data = .dict es ep) :
    Turn P w K (.Tuple elts kk tpos) (ItIT d o kvs) [it] it (fun i h => ∃ ok ov, IsItemIter h it d i kvs.length ep ok ov) where
  mem := by simp
  obj := fun i h st b hb => by
    have e : b = it := by simpa using hb
    subst e
    obtain ⟨ok, ov, e⟩ := st
    exact ⟨_, e, fun v z => nomatch z⟩
  keep := fun i h h' st k => let ⟨ok, ov, e⟩ := st; ⟨ok, ov, k it (by simp) _ e⟩
  item := by
    intro X hP hw hK hc i pins s σ H E I hf st hg
    subst hP hw hK
    obtain ⟨hd, hi⟩ := hg
    obtain ⟨hs, hgd, hx, es', ep', hdt, hsz, ent⟩ := frzT2 I hd
    obtain ⟨rfl, rfl⟩ := dict_ep hod hdt
    obtain ⟨⟨k, v⟩, hkv⟩ : ∃ p, kvs[i]? = some p := ⟨kvs[i], List.getElem?_eq_getElem hi⟩
    obtain ⟨en, q, hen, hkey, hq, rv⟩ := ent i k v hkv
    obtain ⟨ok, ov, he⟩ := st
    rw [← hsz] at he
    have hlt : it < s.heap.objs.size := Heap.lt_size he
    have hi2 : i < es'.size := by omega
    have een : es'[i] = en := by
      rw [Array.getElem?_eq_getElem hi2] at hen
      exact Option.some.inj hen
    refine DT.nextI he ⟨o, hgd, hx, hdt⟩ hi2 fun h' ho hT hz hk => ?_
    rw [een] at ho hT
    refine ⟨_, rfl, wpAny_letOwnedTupleGo_items (s := { s with heap := h' }) ho fun h'' he' sb => ?_⟩
    have hT2 : h''.get? s.heap.objs.size = some { cls := .type "tuple", data := .seq #[en.key, en.val] } := (sb.2 _ (Nat.ne_of_gt hlt)).trans hT
    have new : ObjOk X.prog X.w (upd H s.heap.objs.size (.tup [.ref q, v])) h'' s.heap.objs.size (.tup [.ref q, v]) :=
      ⟨by show 2 ≤ sizeLine; decide, [en.key, en.val], .cons hkey (.cons rv .nil), ⟨_, hT2, rfl, _, rfl⟩⟩
    have I1 : Inv X pins σ (upd H s.heap.objs.size (.tup [.ref q, v])) { s with heap := h'' } :=
      I.turnedNew (t' := s.toks) (ch := [it]) (fun b ob hb e => (sb.2 b (by simpa using hb)).trans (hk b ob (by simpa using hb) e)) hf (Nat.le_refl _) new
    refine ⟨.ref s.heap.objs.size, _, I1, rfl, ⟨_, k, v, q, hkv, rfl, I.hok.fresh (Nat.le_refl _), hq, rfl⟩, ⟨en.key, en.val, ?_⟩, fun b hb => ?_⟩
    · rw [← hsz]; exact he'
    · have e : b = it := by simpa using hb
      rw [e, upd_ne (Nat.ne_of_lt hlt)]
      exact (hf it (by simp)).1
  done := by
    intro X hP hw hK hc i pins s σ H E I hf st hg
    subst hP hw hK
    obtain ⟨hd, hi⟩ := hg
    obtain ⟨f0, f1, f2, f3, f4, f5⟩ := hf it (by simp)
    obtain ⟨hs, hgd, hx, es', ep', hdt, hsz, ent⟩ := frzT2 I hd
    obtain ⟨rfl, rfl⟩ := dict_ep hod hdt
    obtain ⟨ok, ov, he⟩ := st
    rw [← hsz] at he
    exact DT.endI (I.ok.hd hc) he ⟨o, hgd, hx, hdt⟩ (by omega) fun h' eb => ⟨rfl, I.turned (t' := s.toks) (fun b ob hb e => eb b ob hb e) f0 f1 f3 f4 f5⟩
  self := fun A i s Q E st h => let ⟨_, _, e⟩ := st; PySem.W.kcp_self e h
theorem turn_VT {kvs : List (List Key × V)} {tg : Expr} (it : Addr) (hod : o.data = .dict es ep) : Turn P w K tg (ItVT d o kvs) [it] it (fun i h => h.get? it = some (DVw.valOb d i kvs.length ep)) where
  mem := by simp
  obj := fun i h st b hb => by
    have e : b = it := by simpa using hb
    subst e
    exact ⟨_, st, fun v z => nomatch z⟩
  keep := fun i h h' st k => k it (by simp) _ st
  item := by
    intro X hP hw hK hc i pins s σ H E I hf st hg
    subst hP hw hK
    obtain ⟨hd, hi⟩ := hg
    obtain ⟨f0, f1, f2, f3, f4, f5⟩ := hf it (by simp)
    obtain ⟨hs, hgd, hx, es', ep', hdt, hsz, ent⟩ := frzT2 I hd
    obtain ⟨rfl, rfl⟩ := dict_ep hod hdt
    obtain ⟨⟨k, v⟩, hkv⟩ : ∃ p, kvs[i]? = some p := ⟨kvs[i], List.getElem?_eq_getElem hi⟩
    obtain ⟨en, q, hen, hkey, hq, rv⟩ := ent i k v hkv
    refine DVw.val_item st hgd hdt hsz hen fun h' st' sb => ?_
    have I1 : Inv X pins σ H { s with heap := h' } := I.turned (t' := s.toks) (fun b ob hb e => (sb.2 b hb).trans e) f0 f1 f3 f4 f5
    exact ⟨_, rfl, go_of (s := { s with heap := h' }) st' rfl rfl (by decide) ⟨v, H, I1, rv, ⟨rfl, k, hkv⟩, st', fun b hb => (hf b hb).1⟩⟩
  done := by
    intro X hP hw hK hc i pins s σ H E I hf st hg
    subst hP hw hK
    obtain ⟨hd, hi⟩ := hg
    obtain ⟨f0, f1, f2, f3, f4, f5⟩ := hf it (by simp)
    obtain ⟨hs, hgd, hx, es', ep', hdt, hsz, ent⟩ := frzT2 I hd
    obtain ⟨rfl, rfl⟩ := dict_ep hod hdt
    exact DVw.val_end (I.ok.hd hc) st hgd hdt hsz (Array.getElem?_eq_none (by omega)) fun h' eb => ⟨rfl, I.turned (t' := s.toks) (fun b ob hb e => eb b ob hb e) f0 f1 f3 f4 f5⟩
  self := fun A i s Q E st h => wpAny_pyIter_valiter ⟨_, st, rfl, rfl⟩ h
end
end Lr

set_option Elab.async false
set_option linter.all false
set_option maxRecDepth 100000
set_option maxHeartbeats 4000000
namespace Lr
open PySem PySem.Spec PyProof.Rows L2

def iIT (td : TE) : TI := fun σ H R => td σ H fun x H1 => ∃ d o kvs, x = .ref d ∧ H1 d = some (.frz o (.dT kvs)) ∧ R (ItIT d o kvs) H1
def iVT (td : TE) : TI := fun σ H R => td σ H fun x H1 => ∃ d o kvs, x = .ref d ∧ H1 d = some (.frz o (.dT kvs)) ∧ R (ItVT d o kvs) H1
theorem meetsVals {prog : Program} {w : World} {d : Addr} {es : Array DictEntry} {ep : Nat} (hd : (d == sysModules) = false) :
    MeetsIn prog w (Builtin.«dict.values» ⟨[.ref d], []⟩) (fun _ R s => DT.Raw s.heap d es ep ∧
      R (.ok (.ret (.ref s.heap.objs.size))) { s with heap := s.heap.push { cls := .type "dict_values", data := .fields #[.ref d] } }) :=
  .of_wp fun A R s ⟨hm, h⟩ => by
    refine wpAny_bind ?_
    unfold Builtin.Dict.noArgs
    refine wpAny_bind (wpAny_notOrdered_dict hm.typeIs ?_)
    show wpAny _ _ (pure d) _ _ s
    refine wpAny_pure ?_
    show wpAny _ _ (Builtin.Dict.showsAll d >>= _) _ _ s
    unfold Builtin.Dict.showsAll
    rw [if_neg (by rw [hd]; exact Bool.false_ne_true)]
    refine wpAny_bind (wpAny_pure ?_)
    exact wpAny_bind (wpAny_newObj_type (wpAny_pure ⟨_, rfl, h⟩))
section
variable {X : Cx} {tg e : Expr} {td : TE} {apos cpos : Pos}
theorem pi_IT {elts : List Expr} {kk : Nat} {tpos : Pos} (he : PE X e td) (hbase : attributeBase e "items" X.env (eval e X.env) = eval e X.env := by rfl) (hline : (apos.endLine == cpos.line) = true := by rfl) :
    PI X (.Tuple elts kk tpos) (.Call (.Attribute e "items" apos) [] [] cpos) (iIT td) := by
  refine ⟨fun pins s σ H R I h => ?_⟩
  refine wpAny_Call_method (T := "dict") (id := "dict.items") hbase rfl hline F.plainAttrs_dict F.slot_dict_items F.type_dict_items (thn (he.run pins s σ H _ I h) fun u s1 ⟨x, H1, I1, rx, d, o, kvs, ex, hd, q⟩ => ?_)
  subst ex
  obtain rfl : u = Value.ref d := rx
  obtain ⟨hs, hgd, hx, es, ep, hdt, hsz, ent⟩ := frzT2 I1 hd
  obtain ⟨t1, t2, _⟩ := isD_at I1 (.inr ⟨kvs, .inr ⟨o, hd⟩⟩)
  refine ⟨t1, t2, ?_⟩
  have I2 : Inv X pins σ H1 { s1 with heap := s1.heap.push { cls := .type "dict_items", data := .fields #[.ref d] } } := I1.kept (t' := s1.toks) fun b ob q => Heap.get?_push_of_some _ q
  have raw : DT.Raw s1.heap d es ep := ⟨o, hgd, hx, hdt⟩
  have fin : wpAny (model X.prog X.w) X.A (pyIter (.ref s1.heap.objs.size)) (PIE X pins σ (.Tuple elts kk tpos) R) X.xe { s1 with heap := s1.heap.push { cls := .type "dict_items", data := .fields #[.ref d] } } := by
    refine DT.iterI (d := d) ⟨_, Heap.get?_push_size _ rfl, rfl, rfl⟩ (raw.push _) (pi_one (tk := s1.toks) I2 _ (turn_IT _ hdt) ⟨.none, .none, ?_⟩ q)
    rw [← hsz]
    exact Heap.get?_push_size _ rfl
  show wpAny _ _ (callWith cpos (.builtin "dict.items") [.ref d] [] []) _ X.xe s1
  exact method_meetsIn F.slot_dict_items F.entry_dict_items rfl (PySem.evalArgs_none ⟨rfl, t1, F.args_dict_items_1 _, _, DT.meetsItems (es := es) (ep := ep) hs, raw, fin⟩)
theorem pi_VT (he : PE X e td) (hbase : attributeBase e "values" X.env (eval e X.env) = eval e X.env := by rfl) (hline : (apos.endLine == cpos.line) = true := by rfl) :
    PI X tg (.Call (.Attribute e "values" apos) [] [] cpos) (iVT td) := by
  refine ⟨fun pins s σ H R I h => ?_⟩
  refine wpAny_Call_method (T := "dict") (id := "dict.values") hbase rfl hline F.plainAttrs_dict F.slot_dict_values F.type_dict_values (thn (he.run pins s σ H _ I h) fun u s1 ⟨x, H1, I1, rx, d, o, kvs, ex, hd, q⟩ => ?_)
  subst ex
  obtain rfl : u = Value.ref d := rx
  obtain ⟨hs, hgd, hx, es, ep, hdt, hsz, ent⟩ := frzT2 I1 hd
  obtain ⟨t1, t2, _⟩ := isD_at I1 (.inr ⟨kvs, .inr ⟨o, hd⟩⟩)
  refine ⟨t1, t2, ?_⟩
  have I2 : Inv X pins σ H1 { s1 with heap := s1.heap.push { cls := .type "dict_values", data := .fields #[.ref d] } } := I1.kept (t' := s1.toks) fun b ob q => Heap.get?_push_of_some _ q
  have raw : DT.Raw s1.heap d es ep := ⟨o, hgd, hx, hdt⟩
  have fin : wpAny (model X.prog X.w) X.A (pyIter (.ref s1.heap.objs.size)) (PIE X pins σ tg R) X.xe { s1 with heap := s1.heap.push { cls := .type "dict_values", data := .fields #[.ref d] } } := by
    refine DSub.iter_vals (a := d) (es := es) (ep := ep) (Heap.get?_push_size _ rfl) (Heap.get?_push_of_some _ hgd) hdt (pi_one (tk := s1.toks) I2 _ (turn_VT _ hdt) ?_ q)
    rw [← hsz]
    exact Heap.get?_push_size _ rfl
  show wpAny _ _ (callWith cpos (.builtin "dict.values") [.ref d] [] []) _ X.xe s1
  exact method_meetsIn F.slot_dict_values F.entry_dict_values rfl (PySem.evalArgs_none ⟨rfl, t1, F.args_dict_values_1 _, _, meetsVals (es := es) (ep := ep) hs, raw, fin⟩)
end

/-! ### loops and comprehensions over them -/
theorem for_IT {d : Addr} {o : Obj} {kvs : List (List Key × V)} {g : TG} {tb : TS} {D : Ends} {σ : L2.St} {H : Hp} (Pv : Nat → L2.St → Hp → Prop) (h0 : Pv 0 σ H) (hq : ∀ i σ H, i ≤ kvs.length → Pv i σ H → H d = some (.frz o (.dT kvs)))
    (hs : ∀ (i : Nat) (T q : Addr) (k : List Key) (v : V) (σ : L2.St) (H : Hp), kvs[i]? = some (k, v) → Pv i σ H → H T = none → H q = some (.tup (k.map kV)) → g (.ref T) σ (upd H T (.tup [.ref q, v])) fun σ2 H2 => tb { D with nx := Pv (i + 1), ct := Pv (i + 1), bk := D.nx } σ2 H2) (hd : ∀ σ H, Pv kvs.length σ H → D.nx σ H) :
    ∃ W : Nat → Nat → L2.St → Hp → Prop, (∃ m, W 0 m σ H) ∧ ∀ i m σ H, W i m σ H →
      ((ItIT d o kvs).stop i H ∧ D.nx σ H) ∨ ((ItIT d o kvs).go i H ∧ ∃ N : L2.St → Hp → Prop, (∀ σ' H', N σ' H' → ∃ m', m' < m ∧ W (i + 1) m' σ' H') ∧ ∀ v H', (ItIT d o kvs).yld i H v H' → g v σ H' fun σ2 H2 => tb { D with nx := N, ct := N, bk := D.nx } σ2 H2) := by
  refine ⟨fun i m σ H => m = kvs.length - i ∧ i ≤ kvs.length ∧ Pv i σ H, ⟨kvs.length, rfl, Nat.zero_le _, h0⟩, ?_⟩
  rintro i m σ H ⟨rfl, hi, p⟩
  have q := hq i σ H hi p
  by_cases hlt : i < kvs.length
  · refine .inr ⟨⟨q, hlt⟩, Pv (i + 1), fun σ' H' p' => ⟨kvs.length - (i + 1), by omega, rfl, hlt, p'⟩, fun v H' y => ?_⟩
    obtain ⟨T, k, v', q', e, rfl, hT, hq', rfl⟩ := y
    exact hs i T q' k v' σ H e p hT hq'
  · have e : i = kvs.length := by omega
    subst e
    exact .inl ⟨⟨q, rfl⟩, hd σ H p⟩
theorem lc_IT {d : Addr} {o : Obj} {kvs : List (List Key × V)} {g : TG} {tt : TT} {te : TE} {vs : List Nat} {σ : L2.St} {H1 : Hp} {D : Addr} {Qd : Hp → Prop} (Pv : Nat → Hp → Prop) (h0 : Pv 0 (upd H1 D (.lst []))) (hq : ∀ i H, i ≤ kvs.length → Pv i H → H d = some (.frz o (.dT kvs)))
    (hs : ∀ (i : Nat) (T q : Addr) (k : List Key) (v : V) (H : Hp), kvs[i]? = some (k, v) → Pv i H → H T = none → H q = some (.tup (k.map kV)) → g (.ref T) (wipe σ vs) (upd H T (.tup [.ref q, v])) fun σ2 H2 => wipe σ2 vs = wipe σ vs ∧ tt σ2 H2 fun b H3 =>
      if b = true then te σ2 H3 fun y H4 => ∃ acc, H4 D = some (.lst acc) ∧ acc.length < sizeLine ∧ Pv (i + 1) (upd H4 D (.lst (acc ++ [y]))) else Pv (i + 1) H3) (hd : ∀ H, Pv kvs.length H → Qd H) :
    ∃ W : Nat → Nat → Hp → Prop, (∃ m, W 0 m (upd H1 D (.lst []))) ∧ ∀ i m H, W i m H →
      ((ItIT d o kvs).stop i H ∧ Qd H) ∨ ((ItIT d o kvs).go i H ∧ ∃ Nx : Hp → Prop, (∀ H', Nx H' → ∃ m', m' < m ∧ W (i + 1) m' H') ∧ ∀ x H', (ItIT d o kvs).yld i H x H' → g x (wipe σ vs) H' fun σ2 H2 => wipe σ2 vs = wipe σ vs ∧ tt σ2 H2 fun b H3 =>
        if b = true then te σ2 H3 fun y H4 => ∃ acc, H4 D = some (.lst acc) ∧ acc.length < sizeLine ∧ Nx (upd H4 D (.lst (acc ++ [y]))) else Nx H3) := by
  refine ⟨fun i m H => m = kvs.length - i ∧ i ≤ kvs.length ∧ Pv i H, ⟨kvs.length, rfl, Nat.zero_le _, h0⟩, ?_⟩
  rintro i m H ⟨rfl, hi, p⟩
  have q := hq i H hi p
  by_cases hlt : i < kvs.length
  · refine .inr ⟨⟨q, hlt⟩, Pv (i + 1), fun H' p' => ⟨kvs.length - (i + 1), by omega, rfl, hlt, p'⟩, fun x H' y => ?_⟩
    obtain ⟨T, k, v', q', e, rfl, hT, hq', rfl⟩ := y
    exact hs i T q' k v' H e p hT hq'
  · have e : i = kvs.length := by omega
    subst e
    exact .inl ⟨⟨q, rfl⟩, hd H p⟩
theorem lc_VT {d : Addr} {o : Obj} {kvs : List (List Key × V)} {g : TG} {tt : TT} {te : TE} {vs : List Nat} {σ : L2.St} {H1 : Hp} {D : Addr} {Qd : Hp → Prop} (Pv : Nat → Hp → Prop) (h0 : Pv 0 (upd H1 D (.lst []))) (hq : ∀ i H, i ≤ kvs.length → Pv i H → H d = some (.frz o (.dT kvs)))
    (hs : ∀ (i : Nat) (k : List Key) (v : V) (H : Hp), kvs[i]? = some (k, v) → Pv i H → g v (wipe σ vs) H fun σ2 H2 => wipe σ2 vs = wipe σ vs ∧ tt σ2 H2 fun b H3 =>
      if b = true then te σ2 H3 fun y H4 => ∃ acc, H4 D = some (.lst acc) ∧ acc.length < sizeLine ∧ Pv (i + 1) (upd H4 D (.lst (acc ++ [y]))) else Pv (i + 1) H3) (hd : ∀ H, Pv kvs.length H → Qd H) :
    ∃ W : Nat → Nat → Hp → Prop, (∃ m, W 0 m (upd H1 D (.lst []))) ∧ ∀ i m H, W i m H →
      ((ItVT d o kvs).stop i H ∧ Qd H) ∨ ((ItVT d o kvs).go i H ∧ ∃ Nx : Hp → Prop, (∀ H', Nx H' → ∃ m', m' < m ∧ W (i + 1) m' H') ∧ ∀ x H', (ItVT d o kvs).yld i H x H' → g x (wipe σ vs) H' fun σ2 H2 => wipe σ2 vs = wipe σ vs ∧ tt σ2 H2 fun b H3 =>
        if b = true then te σ2 H3 fun y H4 => ∃ acc, H4 D = some (.lst acc) ∧ acc.length < sizeLine ∧ Nx (upd H4 D (.lst (acc ++ [y]))) else Nx H3) := by
  refine ⟨fun i m H => m = kvs.length - i ∧ i ≤ kvs.length ∧ Pv i H, ⟨kvs.length, rfl, Nat.zero_le _, h0⟩, ?_⟩
  rintro i m H ⟨rfl, hi, p⟩
  have q := hq i H hi p
  by_cases hlt : i < kvs.length
  · refine .inr ⟨⟨q, hlt⟩, Pv (i + 1), fun H' p' => ⟨kvs.length - (i + 1), by omega, rfl, hlt, p'⟩, fun x H' y => ?_⟩
    obtain ⟨rfl, k, e⟩ := y
    exact hs i k x _ e p
  · have e : i = kvs.length := by omega
    subst e
    exact .inl ⟨⟨q, rfl⟩, hd H p⟩

end Lr

set_option Elab.async false
set_option linter.all false
set_option maxRecDepth 100000
set_option maxHeartbeats 4000000
namespace Lr
open PySem PySem.Spec PyProof.Rows L2

/-! ### a dict comprehension whose keys are tuples -/
section
variable {X : Cx}
theorem d_dictSetT {pins : List (Addr × Obj)} {σ : L2.St} {H : Hp} {s : Shared} {E : Value → Shared → Prop} {D b : Addr} {kvs : List (List Key × V)} {k : List Key} {v : V} {r : Value} {Q : Unit → Shared → Prop} (hu : X.A.units < cLine) (I : Inv X pins σ H s)
    (hD : H D = some (.dT kvs)) (hb : H b = some (.tup (k.map kV))) (hz : kvs.length < sizeLine) (rv : RelV v r) (h : ∀ s', Inv X pins σ (upd H D (.dT (putK kvs k v))) s' → Q () s') :
    wpAny (model X.prog X.w) X.A (dictSet D (.ref b) r) Q E s := by
  obtain ⟨z, hd, xs, rel, dd⟩ := dt_of I.hok hD
  have e1 : xs.length ≤ sizeLine := by rw [← Paired.length rel]; exact z
  have e2 : (putK kvs k v).length ≤ sizeLine := by have := length_putK kvs k v; omega
  refine wpAny_dictSet_heap (hsz := e1) (knd := tupleKind (mixKind X.prog X.w)) hu (key_of I.hok hb) dd fun h' dd' hs => h _ ?_
  obtain ⟨q, es, ep, hq, h2, h3, h4, _, h5⟩ := dd'
  refine d_write I (by rw [hD]; exact True.intro) hs ⟨q, hq⟩ ⟨e2, hd, _, (rel.put k hb rv).keeps fun c ys ec => ?_, q, es, ep, hq, h2, h3, h4, h5⟩
  rw [upd_ne (ne_of ec hD (fun z => nomatch z))]
  exact ec
/-- {k: v for target in iter}: the reading; D is the new dict -/
def tDcT (wi : TI) (g : TG) (tk tv : TE) (vs : List Nat) : TE := fun σ H Q => wi σ H fun J H1 => ∀ D, H1 D = none → ∃ W : Nat → Nat → Hp → Prop, (∃ m, W 0 m (upd H1 D (.dT []))) ∧ ∀ i m H, W i m H →
  (J.stop i H ∧ Q (.ref D) H) ∨ (J.go i H ∧ ∃ Nx : Hp → Prop, (∀ H', Nx H' → ∃ m', m' < m ∧ W (i + 1) m' H') ∧ ∀ x H', J.yld i H x H' → g x (wipe σ vs) H' fun σ2 H2 => wipe σ2 vs = wipe σ vs ∧
    tk σ2 H2 fun y H4 => tv σ2 H4 fun z H5 => ∃ kvs k b, y = .ref b ∧ H5 b = some (.tup (k.map kV)) ∧ H5 D = some (.dT kvs) ∧ kvs.length < sizeLine ∧ Nx (upd H5 D (.dT (putK kvs k z))))
/-- the block's own context, its iterator's objects, what is asked of a turn's end: a bundle for the proof below -/
abbrev blkX (X : Cx) (s : Shared) (H : Hp) (scope : Scope) (fp : List Addr) : Cx :=
  X.blk s H scope (compEnvC scope (cellsFrom (s.heap.objs.size + 1) scope.names (cloFrom X.env.cells scope.names [])) s.heap.objs.size X.env) fp
theorem dcT_core {pins : List (Addr × Obj)} {s : Shared} {σ : L2.St} {H : Hp} {Q : VK} {kx vx tg iter : Expr} {scope : Scope} {own : List (Str × Nat)} {pos pos' : Pos} {wi : TI} {g : TG} {tk tv : TE} {use : Option (Value → Sem Unit)} {Qf : Value → Shared → Prop}
    (hu : X.A.units < cLine) (hc : X.calm = true) (hN : X.N.Nodup) (I : Inv X pins σ H s) (hi : PI X tg iter wi) (ok : BlkOk X.N X.env.scope scope own)
    (hg : ∀ (s : Shared) (H : Hp) (C : Addr) (cl : List (Str × Addr)) (fp : List Addr), PG (X.blk s H scope (compEnvC scope cl C X.env) fp) tg g)
    (hk : ∀ (s : Shared) (H : Hp) (C : Addr) (cl : List (Str × Addr)) (fp : List Addr), PE (X.blk s H scope (compEnvC scope cl C X.env) fp) kx tk)
    (hv : ∀ (s : Shared) (H : Hp) (C : Addr) (cl : List (Str × Addr)) (fp : List Addr), PE (X.blk s H scope (compEnvC scope cl C X.env) fp) vx tv) (hs : ∀ x, foldedSetIterable iter X.env x = pure x)
    (h : tDcT wi g tk tv (own.map (·.2)) σ H Q)
    (hRR : ∀ D C s' m H', Inv X pins σ H' s' → Q (.ref D) H' → s'.heap.Ns C m → FpOk X pins H' C → compPost (model X.prog X.w) X.A X.xe use Qf (.ref D) C (.ok .next) s') :
    wpAny (model X.prog X.w) X.A (comprehension (.DictComp kx vx [⟨tg, iter, [], 0⟩] scope pos) scope X.env pos' newDict false (eval iter X.env) use) Qf X.xe s := by
  have clos : ∀ y ∈ scope.names, y.2 = .free → ∃ c, X.env.cells.lookup y.1 = some c := fun y hy e => (ok.free y hy e).elim (fun k => I.ok.has _ (.inl k)) fun k => I.ok.has _ (.inr k)
  refine wpAny_comprehension_free (use := use) rfl hs (closure_ok clos) ok.kind (fun y hy e => by rw [ok.uniq y hy, e]) (thn (hi.run pins s σ H _ I h) fun xv s1 hx => thn hx fun itv s2 h2 => ?_)
  obtain ⟨it, fp, tn, J, H2, rfl, I2, T, st2, f2, q⟩ := h2
  refine wpAny_newObj_type (newEnv_comp ?_)
  -- the dict's address, the state behind it
  obtain ⟨D, hD⟩ : ∃ D, s2.heap.objs.size = D := ⟨_, rfl⟩
  have freeD : H2 D = none := I2.hok.fresh (Nat.le_of_eq hD)
  obtain ⟨W, ⟨m0, w0⟩, turn⟩ := q D freeD
  obtain ⟨s3, hs3⟩ : ∃ s3 : Shared, s3 = { s2 with heap := s2.heap.push { cls := .type "dict", data := .dict #[] } } := ⟨_, rfl⟩
  have I3 : Inv X pins σ (upd H2 D (.dT [])) s3 := by
    rw [hs3]
    exact I2.laid (t' := s2.toks) (fun b o e => Heap.get?_push_of_some _ e) (Nat.le_of_eq hD) (by rw [← hD]; exact dt_empty s2.heap I2.big)
  have hp3 : s3.heap = s2.heap.push { cls := .type "dict", data := .dict #[] } := by rw [hs3]
  have small : ∀ b ∈ fp, b < s2.heap.objs.size := fun b hb => let ⟨_, e, _⟩ := T.obj _ _ st2 b hb; Heap.lt_size e
  have f3 : ∀ b ∈ fp, FpOk X pins (upd H2 D (.dT [])) b ∧ b < s3.heap.objs.size := fun b hb =>
    ⟨⟨(upd_ne (by rw [← hD]; exact Nat.ne_of_lt (small b hb))).trans (f2 b hb).1, (f2 b hb).2⟩, by rw [hp3, Heap.size_push]; exact Nat.lt_succ_of_lt (small b hb)⟩
  have I4 := block_start I3 ok hN f3
  obtain ⟨H3, hH3⟩ : ∃ H3, H3 = upd H2 D (.dT []) := ⟨_, rfl⟩
  rw [← hH3] at I3 I4 f3 w0
  obtain ⟨ce, hce⟩ : ∃ ce, ce = compEnvC scope (cellsFrom (s3.heap.objs.size + 1) scope.names (cloFrom X.env.cells scope.names [])) s3.heap.objs.size X.env := ⟨_, rfl⟩
  have pg := hg s3 H3 s3.heap.objs.size (cellsFrom (s3.heap.objs.size + 1) scope.names (cloFrom X.env.cells scope.names [])) fp
  have pk := hk s3 H3 s3.heap.objs.size (cellsFrom (s3.heap.objs.size + 1) scope.names (cloFrom X.env.cells scope.names [])) fp
  have pv := hv s3 H3 s3.heap.objs.size (cellsFrom (s3.heap.objs.size + 1) scope.names (cloFrom X.env.cells scope.names [])) fp
  rw [← hce] at I4 pg pk pv
  have hloc : ce.locals = s3.heap.objs.size := by rw [hce] <;> rfl
  obtain ⟨s4, hs4⟩ : ∃ s4 : Shared, s4 = { s3 with heap := pushCells (s3.heap.push { cls := .type "dict", data := .dict #[] }) scope.names } := ⟨_, rfl⟩
  rw [← hs4] at I4
  have st4 : tn 0 s4.heap := T.keep _ _ _ st2 fun b _ o e => by
    rw [hs4]
    refine pushCells_keeps _ _ _ _ (Heap.get?_push_of_some _ ?_)
    rw [hp3]
    exact Heap.get?_push_of_some _ e
  have own4 : ∀ {pins' : List (Addr × Obj)} {σ' : L2.St} {H' : Hp} {s' : Shared}, Inv (X.blk s3 H3 scope ce fp) pins' σ' H' s' → pins' = [] → (∀ b ∈ fp, H' b = none) → ∀ b ∈ fp, FpOk (X.blk s3 H3 scope ce fp) [] H' b := fun I' _ hn b hb =>
    ⟨hn b hb, (I'.ok.exf b hb).1, I'.ok.exfs b hb, .inl hb, fun x c e => (I'.ok.exf b hb).2 x c e, fun p hp => by cases hp⟩
  have goal : codeAny (model X.prog X.w) X.A (.compLoop (.DictComp kx vx [⟨tg, iter, [], 0⟩] scope pos) 0 (.ref it) (.ref D) ce) (compPost (model X.prog X.w) X.A X.xe use Qf (.ref D) s3.heap.objs.size) s4 := by
    refine compLoop_anyD (fun n s' => ∃ i H', Inv (X.blk s3 H3 scope ce fp) [] (wipe σ (own.map (·.2))) H' s' ∧ tn i s'.heap ∧ (∀ b ∈ fp, H' b = none) ∧ W i n H') (fun n s5 hI => ?_) m0 ⟨0, H3, I4, st4, fun b hb => (f3 b hb).1.1, w0⟩
    obtain ⟨i, H5, I5, st5, n5, w5⟩ := hI
    rcases turn i n H5 w5 with ⟨stop, qq⟩ | ⟨go, Nx, hNx, step⟩
    · refine thnF (T.done (X.blk s3 H3 scope ce fp) rfl rfl rfl hc i [] s5 _ H5 (fun _ _ => False) I5 (own4 I5 rfl n5) st5 stop) fun r s6 ⟨hr, I6⟩ => ?_
      subst hr
      have I7 : Inv X pins σ H5 s6 := I3.call' (ch := fp) I6.os I6.base I6.hok I6.bare fun b hb => let z := (f3 b hb).1.2; ⟨z.2.2.1, z.1, z.2.2.2.1, z.2.2.2.2⟩
      have nC : H5 s3.heap.objs.size = none := hloc ▸ (show H5 ce.locals = none from I6.free)
      obtain ⟨m, hn, _⟩ := I6.loc
      exact hRR D s3.heap.objs.size s6 m H5 I7 qq (hloc ▸ (show s6.heap.Ns ce.locals m from hn)) (I3.fpOk (Nat.le_refl _) nC)
    · refine thnF (T.item (X.blk s3 H3 scope ce fp) rfl rfl rfl hc i [] s5 _ H5 (fun _ _ => False) I5 (own4 I5 rfl n5) st5 go) fun r s6 ⟨u, hr, h6⟩ => ?_
      subst hr
      refine thnF h6 fun _ s7 ⟨x, H7, I7, r7, y7, st7, n7⟩ => ?_
      have I7' := I7.pinned (own4 I7 rfl n7) (T.obj _ _ st7)
      refine thnF (pg.run _ s7 _ H7 x u _ I7' r7 (step x H7 y7)) fun _ s8 ⟨σ8, H8, I8, hw8, q8⟩ => wpAny_tests_nil ?_
      show wpAny _ _ (eval kx ce) _ _ s8
      refine thnF (pk.run _ s8 σ8 H8 _ I8 q8) fun z s10 ⟨yk, H10, I10, r10, q10⟩ => ?_
      refine thnF (pv.run _ s10 σ8 H10 _ I10 q10) fun z2 s11 ⟨yv, H11, I11, r11, kvs, k, b, ek, hb, hD11, hz11, nx⟩ => ?_
      subst ek
      obtain rfl : z = Value.ref b := r10
      refine d_dictSetT (X := X.blk s3 H3 scope ce fp) hu I11 hD11 hb hz11 r11 fun s12 I12 => ?_
      obtain ⟨m', hm, w'⟩ := hNx _ nx
      have pin' : ∀ b ∈ fp, ∀ o, s7.heap.get? b = some o → s12.heap.get? b = some o ∧ (upd H11 D (.dT (putK kvs k yv))) b = none := fun b hb o e =>
        let z := I12.pin (b, o) (List.mem_append_right _ (List.mem_append_right _ (mem_pinsAt hb e)))
        ⟨z.1, z.2.1⟩
      have hl : (wipe σ (own.map (·.2))).length = σ8.length := by rw [← hw8, wipe_length]
      refine ⟨m', hm, i + 1, _, (I12.unpinned (pins := [])).weak hl (fun j v e => ?_), T.keep _ _ _ st7 fun b hb o e => (pin' b hb o e).1, fun b hb => ?_, w'⟩
      · rw [← hw8] at e
        exact (wipe_some e).1
      · obtain ⟨o, e, _⟩ := T.obj _ _ st7 b hb
        exact (pin' b hb o e).2
  have fin := codeAny_compStart_dict goal (T.self X.A 0 _ _ _ st4 goal)
  subst hs4 hce hH3 hs3 hD
  exact fin
theorem ps_setDcT {i : Nat} {y : Str} {py : Pos} {kx vx tg iter : Expr} {scope : Scope} {own : List (Str × Nat)} {pos spos : Pos} {wi : TI} {g : TG} {tk tv : TE} (hu : X.A.units < cLine) (hc : X.calm = true) (hN : X.N.Nodup) (hy : X.N[i]? = some y) (hyl : X.env.scope.names.lookup y = some .local)
    (hsw : swapsWith (.DictComp kx vx [⟨tg, iter, [], 0⟩] scope pos) (some (.Name y py)) spos.line X.env = pure true) (hi : PI X tg iter wi) (ok : BlkOk X.N X.env.scope scope own)
    (hg : ∀ (s : Shared) (H : Hp) (C : Addr) (cl : List (Str × Addr)) (fp : List Addr), PG (X.blk s H scope (compEnvC scope cl C X.env) fp) tg g)
    (hk : ∀ (s : Shared) (H : Hp) (C : Addr) (cl : List (Str × Addr)) (fp : List Addr), PE (X.blk s H scope (compEnvC scope cl C X.env) fp) kx tk)
    (hv : ∀ (s : Shared) (H : Hp) (C : Addr) (cl : List (Str × Addr)) (fp : List Addr), PE (X.blk s H scope (compEnvC scope cl C X.env) fp) vx tv) (hs : ∀ x, foldedSetIterable iter X.env x = pure x := by intro _; rfl) :
    PS X (.Assign [.Name y py] (.DictComp kx vx [⟨tg, iter, [], 0⟩] scope pos) spos) (tAsg (tDcT wi g tk tv (own.map (·.2))) (gName i)) := by
  refine ⟨fun pins s σ H D I h => ?_⟩
  rw [exec_Assign_Name_used _ _ _ _ hsw]
  refine wpAny_bind (wpAny_standAt (wpAny_bind ?_))
  show wpAny _ X.A (do let _ ← comprehension (.DictComp kx vx [⟨tg, iter, [], 0⟩] scope pos) scope X.env (firstIterPos [⟨tg, iter, [], 0⟩] pos) newDict false (eval iter X.env) (some (assign (.Name y py) X.env))) _ _ s
  have h : tDcT wi g tk tv (own.map (·.2)) σ H (fun x H1 => gName i x σ H1 D.nx) := h
  refine wpAny_bind (thn (dcT_core (Qf := fun _ s' => SP X pins D .next s') hu hc hN I hi ok hg hk hv hs h fun L C s' m H' I' q hn f => ?_) fun _ s' hq => wpAny_pure (wpAny_pure hq))
  show wpAny _ _ (assign (.Name y py) X.env (.ref L)) _ _ _
  obtain ⟨f0, f1, f2, f3, f4, f5⟩ := f
  refine wpAny_assign_Name (store_ok2 (v := V.ref L) I' hN hy (.inl hyl) rfl (fun s2 I2 ⟨a, sb, ha⟩ => ⟨m, hn.sameBut sb (ha.elim (fun z => by rw [z]; exact f1) fun z e => f4 y a z e.symm), fun h3 sb3 => ?_⟩) (.inr hyl))
  exact ⟨_, H', I2.turned (t' := s2.toks) (fun b o hb e => (sb3.2 b hb).trans e) f0 f1 f3 f4 f5, q⟩
theorem sw_trueD {kx vx : Expr} {gs : List Comprehension} {scope : Scope} {pos py : Pos} {y : Str} {l : Nat} {env : Env} (hk : env.scope.kind = .function) (hy : env.scope.names.lookup y = some .local) (hl : (py.line == pos.line) = true)
    (ha : (scope.names.any fun (n, k) => n == y && (k == .local || k == .cell)) = false) : swapsWith (.DictComp kx vx gs scope pos) (some (.Name y py)) l env = pure true := by
  have ky : env.kindOf y = some .local := hy
  have hb : env.blockKind = .function := by unfold Env.blockKind; rw [hk]; rfl
  unfold swapsWith
  simp only [hb, ky, ha, Expr.pos, hl]
  rfl
theorem dc_IT {d : Addr} {o : Obj} {kvs : List (List Key × V)} {g : TG} {tk tv : TE} {vs : List Nat} {σ : L2.St} {H1 : Hp} {D : Addr} {Qd : Hp → Prop} (Pv : Nat → Hp → Prop) (h0 : Pv 0 (upd H1 D (.dT []))) (hq : ∀ i H, i ≤ kvs.length → Pv i H → H d = some (.frz o (.dT kvs)))
    (hs : ∀ (i : Nat) (T q : Addr) (k : List Key) (v : V) (H : Hp), kvs[i]? = some (k, v) → Pv i H → H T = none → H q = some (.tup (k.map kV)) → g (.ref T) (wipe σ vs) (upd H T (.tup [.ref q, v])) fun σ2 H2 => wipe σ2 vs = wipe σ vs ∧
      tk σ2 H2 fun y H4 => tv σ2 H4 fun z H5 => ∃ kvs k b, y = .ref b ∧ H5 b = some (.tup (k.map kV)) ∧ H5 D = some (.dT kvs) ∧ kvs.length < sizeLine ∧ Pv (i + 1) (upd H5 D (.dT (putK kvs k z)))) (hd : ∀ H, Pv kvs.length H → Qd H) :
    ∃ W : Nat → Nat → Hp → Prop, (∃ m, W 0 m (upd H1 D (.dT []))) ∧ ∀ i m H, W i m H →
      ((ItIT d o kvs).stop i H ∧ Qd H) ∨ ((ItIT d o kvs).go i H ∧ ∃ Nx : Hp → Prop, (∀ H', Nx H' → ∃ m', m' < m ∧ W (i + 1) m' H') ∧ ∀ x H', (ItIT d o kvs).yld i H x H' → g x (wipe σ vs) H' fun σ2 H2 => wipe σ2 vs = wipe σ vs ∧
        tk σ2 H2 fun y H4 => tv σ2 H4 fun z H5 => ∃ kvs k b, y = .ref b ∧ H5 b = some (.tup (k.map kV)) ∧ H5 D = some (.dT kvs) ∧ kvs.length < sizeLine ∧ Nx (upd H5 D (.dT (putK kvs k z)))) := by
  refine ⟨fun i m H => m = kvs.length - i ∧ i ≤ kvs.length ∧ Pv i H, ⟨kvs.length, rfl, Nat.zero_le _, h0⟩, ?_⟩
  rintro i m H ⟨rfl, hi, p⟩
  have q := hq i H hi p
  by_cases hlt : i < kvs.length
  · refine .inr ⟨⟨q, hlt⟩, Pv (i + 1), fun H' p' => ⟨kvs.length - (i + 1), by omega, rfl, hlt, p'⟩, fun x H' y => ?_⟩
    obtain ⟨T, k, v', q', e, rfl, hT, hq', rfl⟩ := y
    exact hs i T q' k v' H e p hT hq'
  · have e : i = kvs.length := by omega
    subst e
    exact .inl ⟨⟨q, rfl⟩, hd H p⟩
end
end Lr

set_option Elab.async false
set_option linter.all false
set_option maxRecDepth 100000
set_option maxHeartbeats 4000000
/-! Heaps that grow, what is represented, readings in a form that hands on a heap as a letter. -/
namespace Lr
open PySem PySem.Spec PyProof.Rows L2
abbrev Ex : Hp → Hp → Prop := Evl.Ex
def NotD : HO → Prop
  | .dT _ => False
  | .frz _ (.dT _) => False
  | _ => True
/-- all but dicts with tuple keys stand as they were; such dicts may be locked or not -/
structure Le (H H' : Hp) : Prop where
  o : ∀ a o, NotD o → H a = some o → H' a = some o
  d : ∀ a kvs, Rd H a (.dT kvs) → Rd H' a (.dT kvs)
theorem Le.refl (H : Hp) : Le H H := ⟨fun _ _ _ h => h, fun _ _ h => h⟩
theorem Le.trans {H H1 H2 : Hp} (a : Le H H1) (b : Le H1 H2) : Le H H2 := ⟨fun x o n h => b.o x o n (a.o x o n h), fun x k h => b.d x k (a.d x k h)⟩
theorem Ex.le {H H' : Hp} (e : Ex H H') : Le H H' := ⟨fun a o _ h => e a o h, fun a k h => Evl.ex_rd e h⟩
theorem Ex.tr {H H1 H2 : Hp} (a : Ex H H1) (b : Ex H1 H2) : Ex H H2 := fun x o h => b x o (a x o h)
theorem Ex.rf (H : Hp) : Ex H H := fun _ _ h => h
theorem Le.lock {H : Hp} {d : Addr} {od : Obj} {kvs : List (List Key × V)} (h : H d = some (.dT kvs)) : Le H (upd H d (.frz od (.dT kvs))) := by
  refine ⟨fun a o n e => ?_, fun a k r => ?_⟩
  · have ne : a ≠ d := fun q => by
      subst q
      rw [h] at e
      cases e
      exact n
    rw [upd_ne ne]
    exact e
  · by_cases q : a = d
    · subst q
      rcases r with r | ⟨o, r⟩
      · rw [h] at r
        cases r
        exact .inr ⟨od, upd_same⟩
      · rw [h] at r
        cases r
    · rcases r with r | ⟨o, r⟩
      · exact .inl (by rw [upd_ne q]; exact r)
      · exact .inr ⟨o, by rw [upd_ne q]; exact r⟩
theorem Le.unlock {H : Hp} {d : Addr} {od : Obj} {kvs : List (List Key × V)} (h : H d = some (.frz od (.dT kvs))) : Le H (upd H d (.dT kvs)) := by
  refine ⟨fun a o n e => ?_, fun a k r => ?_⟩
  · have ne : a ≠ d := fun q => by
      subst q
      rw [h] at e
      cases e
      exact n
    rw [upd_ne ne]
    exact e
  · by_cases q : a = d
    · subst q
      rcases r with r | ⟨o, r⟩
      · rw [h] at r
        cases r
      · rw [h] at r
        cases r
        exact .inl upd_same
    · rcases r with r | ⟨o, r⟩
      · exact .inl (by rw [upd_ne q]; exact r)
      · exact .inr ⟨o, by rw [upd_ne q]; exact r⟩
/-- what is locked, walked and unlocked -/
theorem Ex.unlock {H H' : Hp} {d : Addr} {od : Obj} {kvs : List (List Key × V)} (h : H d = some (.dT kvs)) (e : Ex (upd H d (.frz od (.dT kvs))) H') : Ex H (upd H' d (.dT kvs)) := fun a o q => by
  by_cases z : a = d
  · subst z
    rw [h] at q
    rw [← q]
    exact upd_same
  · rw [upd_ne z]
    exact e a o (by rw [upd_ne z]; exact q)
theorem le_t {K : PySem.W.Frag} {H H' : Hp} {a : Addr} {xs : List V} (e : Le H H') (h : SqT K H a xs) : SqT K H' a xs := by
  rcases h with (h | ⟨o, h⟩) | h
  · exact .inl (.inl (e.o a _ trivial h))
  · exact .inl (.inr ⟨o, e.o a _ trivial h⟩)
  · exact .inr h
theorem le_l {K : PySem.W.Frag} {H H' : Hp} {a : Addr} {xs : List V} (e : Le H H') (h : SqL K H a xs) : SqL K H' a xs := by
  rcases h with (h | ⟨o, h⟩) | h
  · exact .inl (.inl (e.o a _ trivial h))
  · exact .inl (.inr ⟨o, e.o a _ trivial h⟩)
  · exact .inr h

/-! ### what stands for what -/
def NotL : HO → Prop
  | .lst _ => False
  | .frz _ (.lst _) => False
  | .dT _ => False
  | .frz _ (.dT _) => False
  | _ => True
/-- tuples, instances stand as they were; lists may change -/
def Lt (H H' : Hp) : Prop := ∀ a o, NotL o → H a = some o → H' a = some o
theorem Lt.refl (H : Hp) : Lt H H := fun _ _ _ h => h
theorem Lt.trans {H H1 H2 : Hp} (a : Lt H H1) (b : Lt H1 H2) : Lt H H2 := fun x o n h => b x o n (a x o n h)
theorem Ex.lt {H H' : Hp} (e : Ex H H') : Lt H H' := fun a o _ h => e a o h
theorem Le.lt {H H' : Hp} (e : Le H H') : Lt H H' := fun a o n h => e.o a o (by cases o with
  | frz x u => cases u <;> first | trivial | exact n
  | dT k => exact n
  | _ => trivial) h
theorem Lt.set {H : Hp} {l : Addr} {ws ws' : List V} (h : H l = some (.lst ws)) : Lt H (upd H l (.lst ws')) := fun a o n e => by
  have ne : a ≠ l := fun q => by
    subst q
    rw [h] at e
    cases e
    exact n
  rw [upd_ne ne]
  exact e
theorem lt_t {K : PySem.W.Frag} {H H' : Hp} {a : Addr} {xs : List V} (e : Lt H H') (h : SqT K H a xs) : SqT K H' a xs := by
  rcases h with (h | ⟨o, h⟩) | h
  · exact .inl (.inl (e a _ trivial h))
  · exact .inl (.inr ⟨o, e a _ trivial h⟩)
  · exact .inr h
abbrev Pr (α : Type) := Hp → V → α → Prop
class Mon {α : Type} (P : Pr α) : Prop where
  up : ∀ {H H' : Hp} {v : V} {x : α}, Le H H' → P H v x → P H' v x
class MonT {α : Type} (P : Pr α) : Prop where
  up : ∀ {H H' : Hp} {v : V} {x : α}, Lt H H' → P H v x → P H' v x
instance {α : Type} (P : Pr α) [MonT P] : Mon P := ⟨fun e h => MonT.up e.lt h⟩
def pInt : Pr Int := fun _ v i => v = .int i
def pStr : Pr Str := fun _ v i => v = .str i
def pBl : Pr Bool := fun _ v i => v = .bl i
/-- a tuple of these values -/
def pFl (K : PySem.W.Frag) : Pr (List V) := fun H v vs => ∃ p, v = .ref p ∧ SqT K H p vs
def pTup (K : PySem.W.Frag) {α : Type} (P : Pr α) : Pr (List α) := fun H v xs => ∃ p vs, v = .ref p ∧ SqT K H p vs ∧ Paired (P H) vs xs
def pLst (K : PySem.W.Frag) {α : Type} (P : Pr α) : Pr (List α) := fun H v xs => ∃ p vs, v = .ref p ∧ SqL K H p vs ∧ Paired (P H) vs xs
/-- a pair -/
def pZip (K : PySem.W.Frag) {α β : Type} (P : Pr α) (R : Pr β) : Pr (α × β) := fun H v x => ∃ p a b, v = .ref p ∧ SqT K H p [a, b] ∧ P H a x.1 ∧ R H b x.2
def pZip3 (K : PySem.W.Frag) {α β γ : Type} (P : Pr α) (R : Pr β) (S : Pr γ) : Pr (α × β × γ) := fun H v x => ∃ p a b c, v = .ref p ∧ SqT K H p [a, b, c] ∧ P H a x.1 ∧ R H b x.2.1 ∧ S H c x.2.2
theorem pimp {α β : Type} {F G : α → β → Prop} {xs : List α} {ys : List β} (h : Paired F xs ys) (f : ∀ a b, F a b → G a b) : Paired G xs ys := Paired.mapP h f
instance : MonT pInt := ⟨fun _ h => h⟩
instance : MonT pStr := ⟨fun _ h => h⟩
instance : MonT pBl := ⟨fun _ h => h⟩
instance (K : PySem.W.Frag) : MonT (pFl K) := ⟨fun e ⟨p, a, b⟩ => ⟨p, a, lt_t e b⟩⟩
instance (K : PySem.W.Frag) {α : Type} (P : Pr α) [MonT P] : MonT (pTup K P) := ⟨fun e ⟨p, vs, a, b, c⟩ => ⟨p, vs, a, lt_t e b, pimp c fun _ _ q => MonT.up e q⟩⟩
instance (K : PySem.W.Frag) {α : Type} (P : Pr α) [Mon P] : Mon (pTup K P) := ⟨fun e ⟨p, vs, a, b, c⟩ => ⟨p, vs, a, le_t e b, pimp c fun _ _ q => Mon.up e q⟩⟩
instance (K : PySem.W.Frag) {α : Type} (P : Pr α) [Mon P] : Mon (pLst K P) := ⟨fun e ⟨p, vs, a, b, c⟩ => ⟨p, vs, a, le_l e b, pimp c fun _ _ q => Mon.up e q⟩⟩
instance (K : PySem.W.Frag) {α β : Type} (P : Pr α) (R : Pr β) [MonT P] [MonT R] : MonT (pZip K P R) := ⟨fun e ⟨p, a, b, h1, h2, h3, h4⟩ => ⟨p, a, b, h1, lt_t e h2, MonT.up e h3, MonT.up e h4⟩⟩
instance (K : PySem.W.Frag) {α β γ : Type} (P : Pr α) (R : Pr β) (S : Pr γ) [MonT P] [MonT R] [MonT S] : MonT (pZip3 K P R S) := ⟨fun e ⟨p, a, b, c, h1, h2, h3, h4, h5⟩ => ⟨p, a, b, c, h1, lt_t e h2, MonT.up e h3, MonT.up e h4, MonT.up e h5⟩⟩
theorem paired_up {α : Type} {P : Pr α} [Mon P] {H H' : Hp} {vs : List V} {xs : List α} (e : Le H H') (h : Paired (P H) vs xs) : Paired (P H') vs xs := pimp h fun _ _ q => Mon.up e q
theorem paired_upT {α : Type} {P : Pr α} [MonT P] {H H' : Hp} {vs : List V} {xs : List α} (e : Lt H H') (h : Paired (P H) vs xs) : Paired (P H') vs xs := pimp h fun _ _ q => MonT.up e q
theorem paired_at {α β : Type} {F : α → β → Prop} {xs : List α} {ys : List β} (h : Paired F xs ys) {i : Nat} {x : α} (e : xs[i]? = some x) : ∃ y, ys[i]? = some y ∧ F x y := paired_get h e
theorem paired_at' {α β : Type} {F : α → β → Prop} : ∀ {xs : List α} {ys : List β}, Paired F xs ys → ∀ {i : Nat} {y : β}, ys[i]? = some y → ∃ x, xs[i]? = some x ∧ F x y
  | _, _, .nil, _, _, e => by simp at e
  | _, _, .cons r t, 0, y, e => by simp at e; subst e; exact ⟨_, rfl, r⟩
  | _, _, .cons r t, i + 1, y, e => by
    obtain ⟨x, h1, h2⟩ := paired_at' t (i := i) (y := y) (by simpa using e)
    exact ⟨x, by simpa using h1, h2⟩
theorem paired_len {α β : Type} {F : α → β → Prop} {xs : List α} {ys : List β} (h : Paired F xs ys) : xs.length = ys.length := Paired.length h
theorem paired_snoc {α β : Type} {F : α → β → Prop} {xs : List α} {ys : List β} {x : α} {y : β} (h : Paired F xs ys) (r : F x y) : Paired F (xs ++ [x]) (ys ++ [y]) := by
  induction h with
  | nil => exact .cons r .nil
  | cons r' t ih => exact .cons r' ih
theorem paired_app {α β : Type} {F : α → β → Prop} {xs xs' : List α} {ys ys' : List β} (h : Paired F xs ys) (h' : Paired F xs' ys') : Paired F (xs ++ xs') (ys ++ ys') := by
  induction h with
  | nil => exact h'
  | cons r' t ih => exact .cons r' ih
theorem paired_int {H : Hp} {vs : List V} {xs : List Int} (h : Paired (pInt H) vs xs) : vs = xs.map V.int := by
  induction h with
  | nil => rfl
  | cons r t ih =>
    have r' : _ = V.int _ := r
    rw [r', ih] <;> rfl
theorem int_paired {H : Hp} (xs : List Int) : Paired (pInt H) (xs.map V.int) xs := by
  induction xs with
  | nil => exact .nil
  | cons x t ih => exact .cons rfl ih
/-- a tuple of ints, by its values -/
theorem pInts {K : PySem.W.Frag} {H : Hp} {v : V} {xs : List Int} (h : pTup K pInt H v xs) : ∃ p, v = .ref p ∧ SqT K H p (xs.map V.int) := by
  obtain ⟨p, vs, a, b, c⟩ := h
  rw [paired_int c] at b
  exact ⟨p, a, b⟩
theorem ofInts {K : PySem.W.Frag} {H : Hp} {p : Addr} {xs : List Int} (h : SqT K H p (xs.map V.int)) : pTup K pInt H (.ref p) xs := ⟨p, _, rfl, h, int_paired xs⟩
/-- an end: a value that stands for x, all that stood stands -/
def Ret {α : Type} (P : Pr α) (x : α) (H : Hp) (Q : VK) : Prop := ∀ v H', Ex H H' → P H' v x → Q v H'
theorem Ret.go {α : Type} {P : Pr α} {x : α} {H H' : Hp} {Q : VK} (k : Ret P x H Q) (e : Ex H H') {v : V} (h : P H' v x) : Q v H' := k v H' e h
/-- an end with a value that is known -/
def RetV (v : V) (H : Hp) (Q : VK) : Prop := ∀ H', Ex H H' → Q v H'

/-! ### a new object -/
theorem gen_new {H H1 : Hp} {p : Addr} {o : HO} (n : H p = none) (h : upd H p o = H1) : Ex H H1 ∧ H1 p = some o := by
  subst h
  exact ⟨Evl.Ex.new n, upd_same⟩
theorem szs {α : Type} {l : List α} (h : l.length ≤ 100000 := by simp) : l.length ≤ sizeLine := Evl.sz_of h

/-! ### loops -/
/-- what a for asks behind its iterable; what a comprehension asks -/
abbrev ForW (J : It) (g : TG) (tb : TS) (D : Ends) (σ : L2.St) (H1 : Hp) : Prop := ∃ W : Nat → Nat → L2.St → Hp → Prop, (∃ m, W 0 m σ H1) ∧ ∀ i m σ H, W i m σ H →
  (J.stop i H ∧ D.nx σ H) ∨ (J.go i H ∧ ∃ N : L2.St → Hp → Prop, (∀ σ' H', N σ' H' → ∃ m', m' < m ∧ W (i + 1) m' σ' H') ∧ ∀ x H', J.yld i H x H' → g x σ H' fun σ2 H2 => tb { D with nx := N, ct := N, bk := D.nx } σ2 H2)
abbrev LcW (J : It) (g : TG) (tt : TT) (te : TE) (vs : List Nat) (σ : L2.St) (H1 : Hp) (Q : VK) : Prop := ∀ D, H1 D = none → ∃ W : Nat → Nat → Hp → Prop, (∃ m, W 0 m (upd H1 D (.lst []))) ∧ ∀ i m H, W i m H →
  (J.stop i H ∧ Q (.ref D) H) ∨ (J.go i H ∧ ∃ Nx : Hp → Prop, (∀ H', Nx H' → ∃ m', m' < m ∧ W (i + 1) m' H') ∧ ∀ x H', J.yld i H x H' → g x (wipe σ vs) H' fun σ2 H2 => wipe σ2 vs = wipe σ vs ∧ tt σ2 H2 fun b H3 =>
    if b = true then te σ2 H3 fun y H4 => ∃ acc, H4 D = some (.lst acc) ∧ acc.length < sizeLine ∧ Nx (upd H4 D (.lst (acc ++ [y]))) else Nx H3)
/-- a walk whose i-th turn hands out what stands for the i-th of xs -/
abbrev Wk {α : Type} (P : Pr α) (J : It) (G : Hp → Prop) (xs : List α) : Prop := Walk J xs.length G fun i H v H' => ∃ x, xs[i]? = some x ∧ Ex H H' ∧ P H' v x
section
variable {K : PySem.W.Frag} {α β γ : Type} {P : Pr α} {R : Pr β} {S : Pr γ}
theorem wk_tup {p : Addr} {vs : List V} {xs : List α} (hl : vs.length = xs.length) : Wk P (Itt K p) (fun H => SqT K H p vs ∧ Paired (P H) vs xs) xs where
  goes := fun i H hi ⟨q, _⟩ => ⟨vs, vs[i]'(by omega), q, by simp [show i < vs.length by omega]⟩
  stops := fun H ⟨q, _⟩ => ⟨vs, q, by omega⟩
  yields := fun i H x H' hi ⟨q, pr⟩ y => by
    obtain ⟨rfl, y⟩ := y
    obtain ⟨z, e, h⟩ := paired_at pr (y vs q)
    exact ⟨z, e, Ex.rf _, h⟩
theorem wk_lst {p : Addr} {vs : List V} {xs : List α} (hl : vs.length = xs.length) : Wk P (Itl K p) (fun H => SqL K H p vs ∧ Paired (P H) vs xs) xs where
  goes := fun i H hi ⟨q, _⟩ => ⟨vs, vs[i]'(by omega), q, by simp [show i < vs.length by omega]⟩
  stops := fun H ⟨q, _⟩ => ⟨vs, q, by omega⟩
  yields := fun i H x H' hi ⟨q, pr⟩ y => by
    obtain ⟨rfl, y⟩ := y
    obtain ⟨z, e, h⟩ := paired_at pr (y vs q)
    exact ⟨z, e, Ex.rf _, h⟩
/-- lo, lo + 1, .. -/
def rng (lo : Int) (n : Nat) : List Int := (List.range n).map fun i => lo + (i : Nat)
theorem rng_len (lo : Int) (n : Nat) : (rng lo n).length = n := by simp [rng]
theorem rng_at {lo : Int} {n i : Nat} (h : i < n) : (rng lo n)[i]? = some (lo + (i : Nat)) := by simp [rng, h]
theorem wk_rng {lo : Int} {n : Nat} : Wk pInt (Itr lo n) (fun _ => True) (rng lo n) := by
  refine ⟨fun i H hi _ => by rw [rng_len] at hi; exact hi, fun H _ => Nat.le_of_eq (rng_len lo n).symm, fun i H x H' hi _ y => ?_⟩
  rw [rng_len] at hi
  obtain ⟨rfl, rfl⟩ := y
  exact ⟨_, rng_at hi, Ex.rf _, rfl⟩
theorem getD_of {l : List V} {i : Nat} {v : V} (h : l[i]? = some v) : l.getD i .non = v := by
  rw [List.getD_eq_getElem?_getD, h]
  rfl
theorem zip_at {xs : List α} {ys : List β} {i : Nat} {x : α} {y : β} (h1 : xs[i]? = some x) (h2 : ys[i]? = some y) : (xs.zip ys)[i]? = some (x, y) := by
  rw [List.getElem?_zip_eq_some]
  exact ⟨h1, h2⟩
theorem paired_lt {F : V → α → Prop} {vs : List V} {xs : List α} (h : Paired F vs xs) {i : Nat} (hi : i < xs.length) : ∃ v x, vs[i]? = some v ∧ xs[i]? = some x ∧ F v x := by
  obtain ⟨v, e, r⟩ := paired_at' h (List.getElem?_eq_getElem hi)
  exact ⟨v, _, e, List.getElem?_eq_getElem hi, r⟩
variable [MonT P] [MonT R] [MonT S]
theorem new_lt {H : Hp} {T : Addr} {o : HO} (h : H T = none) : Lt H (upd H T o) := Ex.lt (Evl.Ex.new h)
theorem wk_Z2 {k1 k2 : Bool} {a b : Addr} {us vs : List V} {xs : List α} {ys : List β} (h1 : us.length = xs.length) (h2 : vs.length = ys.length) :
    Wk (pZip K P R) (ItW (SrcZ2 K k1 k2 a b us vs) (min us.length vs.length) (rowZ2 us vs)) (fun H => SrcZ2 K k1 k2 a b us vs H ∧ Paired (P H) us xs ∧ Paired (R H) vs ys) (xs.zip ys) := by
  have hl : (xs.zip ys).length = min us.length vs.length := by rw [List.length_zip, h1, h2]
  refine ⟨fun i H hi ⟨q, _⟩ => ⟨q, by omega⟩, fun H ⟨q, _⟩ => ⟨q, hl⟩, fun i H x H' hi ⟨q, p1, p2⟩ y => ?_⟩
  obtain ⟨T, rfl, hT, rfl⟩ := y
  rw [List.length_zip] at hi
  obtain ⟨u, x, eu, ex, r1⟩ := paired_lt p1 (i := i) (by omega)
  obtain ⟨v, y, ev, ey, r2⟩ := paired_lt p2 (i := i) (by omega)
  have er : rowZ2 us vs i = [u, v] := by
    unfold rowZ2
    rw [getD_of eu, getD_of ev]
  refine ⟨(x, y), zip_at ex ey, Evl.Ex.new hT, T, u, v, rfl, ?_, MonT.up (new_lt hT) r1, MonT.up (new_lt hT) r2⟩
  rw [er]
  exact SqT.of upd_same
theorem wk_Z3 {k1 k2 k3 : Bool} {a b c : Addr} {us vs ws : List V} {xs : List α} {ys : List β} {zs : List γ} (h1 : us.length = xs.length) (h2 : vs.length = ys.length) (h3 : ws.length = zs.length) :
    Wk (pZip3 K P R S) (ItW (SrcZ3 K k1 k2 k3 a b c us vs ws) (min (min us.length vs.length) ws.length) (rowZ3 us vs ws)) (fun H => SrcZ3 K k1 k2 k3 a b c us vs ws H ∧ Paired (P H) us xs ∧ Paired (R H) vs ys ∧ Paired (S H) ws zs) (xs.zip (ys.zip zs)) := by
  have hl : (xs.zip (ys.zip zs)).length = min (min us.length vs.length) ws.length := by rw [List.length_zip, List.length_zip, h1, h2, h3]; omega
  refine ⟨fun i H hi ⟨q, _⟩ => ⟨q, by omega⟩, fun H ⟨q, _⟩ => ⟨q, hl⟩, fun i H x H' hi ⟨q, p1, p2, p3⟩ y => ?_⟩
  obtain ⟨T, rfl, hT, rfl⟩ := y
  rw [List.length_zip, List.length_zip] at hi
  obtain ⟨u, x, eu, ex, r1⟩ := paired_lt p1 (i := i) (by omega)
  obtain ⟨v, y, ev, ey, r2⟩ := paired_lt p2 (i := i) (by omega)
  obtain ⟨w, z, ew, ez, r3⟩ := paired_lt p3 (i := i) (by omega)
  have er : rowZ3 us vs ws i = [u, v, w] := by
    unfold rowZ3
    rw [getD_of eu, getD_of ev, getD_of ew]
  refine ⟨(x, y, z), zip_at ex (zip_at ey ez), Evl.Ex.new hT, T, u, v, w, rfl, ?_, MonT.up (new_lt hT) r1, MonT.up (new_lt hT) r2, MonT.up (new_lt hT) r3⟩
  rw [er]
  exact SqT.of upd_same
theorem wk_En {k : Bool} {a : Addr} {us : List V} {xs : List α} (h1 : us.length = xs.length) :
    Wk (pZip K pInt P) (ItW (fun H => SqK k K H a us) us.length (rowE us)) (fun H => SqK k K H a us ∧ Paired (P H) us xs) ((rng 0 xs.length).zip xs) := by
  have hl : ((rng 0 xs.length).zip xs).length = us.length := by rw [List.length_zip, rng_len, h1]; omega
  refine ⟨fun i H hi ⟨q, _⟩ => ⟨q, by omega⟩, fun H ⟨q, _⟩ => ⟨q, hl⟩, fun i H x H' hi ⟨q, p1⟩ y => ?_⟩
  obtain ⟨T, rfl, hT, rfl⟩ := y
  obtain ⟨u, x, eu, ex, r1⟩ := paired_lt p1 (i := i) (by omega)
  have er : rowE us i = [.int (i : Nat), u] := by
    unfold rowE
    rw [getD_of eu]
  refine ⟨(0 + (i : Nat), x), zip_at (rng_at (by omega)) ex, Evl.Ex.new hT, T, .int (i : Nat), u, rfl, ?_, ?_, MonT.up (new_lt hT) r1⟩
  · rw [er]
    exact SqT.of upd_same
  · show V.int _ = V.int _
    rw [Int.zero_add]
/-- a dict's entries: what stands for them -/
def pDic (R : Pr β) (H : Hp) (kvs : List (List Key × V)) (xs : List (List Int × β)) : Prop := Paired (fun kv x => kv.1 = x.1.map Sum.inl ∧ R H kv.2 x.2) kvs xs
theorem wk_IT {d : Addr} {o : Obj} {kvs : List (List Key × V)} {xs : List (List Int × β)} (hl : kvs.length = xs.length) :
    Wk (pZip K (pTup K pInt) R) (ItIT d o kvs) (fun H => H d = some (.frz o (.dT kvs)) ∧ pDic R H kvs xs) xs := by
  refine ⟨fun i H hi ⟨q, _⟩ => ⟨q, by omega⟩, fun H ⟨q, _⟩ => ⟨q, hl.symm⟩, fun i H x H' hi ⟨q, p1⟩ y => ?_⟩
  obtain ⟨T, k, v, q', e, rfl, hT, hq, rfl⟩ := y
  obtain ⟨z, ez, ek, r⟩ := paired_at p1 e
  refine ⟨z, ez, Evl.Ex.new hT, T, .ref q', v, rfl, SqT.of upd_same, ?_, MonT.up (new_lt hT) r⟩
  have ek' : k = z.1.map Sum.inl := ek
  subst ek'
  rw [List.map_map] at hq
  exact ofInts (SqT.of (by rw [upd_ne (ne_of_none hq hT)]; exact hq))
theorem wk_VT {d : Addr} {o : Obj} {kvs : List (List Key × V)} {xs : List (List Int × β)} (hl : kvs.length = xs.length) :
    Wk R (ItVT d o kvs) (fun H => H d = some (.frz o (.dT kvs)) ∧ pDic R H kvs xs) (xs.map Prod.snd) := by
  refine ⟨fun i H hi ⟨q, _⟩ => ⟨q, by rw [List.length_map] at hi; omega⟩, fun H ⟨q, _⟩ => ⟨q, by rw [List.length_map]; exact hl.symm⟩, fun i H x H' hi ⟨q, p1⟩ y => ?_⟩
  obtain ⟨rfl, k, e⟩ := y
  obtain ⟨z, ez, ek, r⟩ := paired_at p1 e
  exact ⟨z.2, by rw [List.getElem?_map, ez] <;> rfl, Ex.rf _, r⟩
end

/-! ### comprehensions over such a walk: a filter, a map -/
section
variable {α β : Type} {P : Pr α} {R : Pr β} [MonT R]
theorem lc_wk {J : It} {G : Hp → Prop} {xs : List α} (w : Wk P J G xs) {g : TG} {tt : TT} {te : TE} {vs : List Nat} {σ : L2.St} {H : Hp} {Q : VK} (p : α → Bool) (f : α → β) (hz : xs.length ≤ 1000000)
    (hG : ∀ H', Ex H H' → G H')
    (hs : ∀ (i : Nat) x v H1, xs[i]? = some x → Ex H H1 → P H1 v x → ∀ (N : Hp → Prop) (Z : V → Hp → Prop), (p x = false → ∀ H2, Ex H1 H2 → N H2) → (p x = true → ∀ y H2, Ex H1 H2 → R H2 y (f x) → Z y H2) →
      g v (wipe σ vs) H1 fun σ2 H2 => wipe σ2 vs = wipe σ vs ∧ tt σ2 H2 fun b H3 => if b = true then te σ2 H3 Z else N H3)
    (hd : ∀ L H1 ws, H L = none → Ex H H1 → H1 L = some (.lst ws) → Paired (R H1) ws ((xs.filter p).map f) → Q (.ref L) H1) : LcW J g tt te vs σ H Q := by
  intro D hD
  refine lc_it w (fun i H' => Ex H H' ∧ ∃ ws, H' D = some (.lst ws) ∧ Paired (R H') ws (((xs.take i).filter p).map f)) ⟨Evl.Ex.new hD, [], upd_same, by simpa using Paired.nil⟩ (fun i H' _ q => hG H' q.1) (fun i v H1 H2 hi q y => ?_) (fun H' q => ?_)
  · obtain ⟨e1, ws, hw, pr⟩ := q
    obtain ⟨x, ex, e2, px⟩ := y
    have tk : xs.take (i + 1) = xs.take i ++ [x] := by rw [List.take_add_one, ex] <;> rfl
    refine hs i x v H2 ex (e1.tr e2) px _ _ (fun hp H3 e3 => ?_) (fun hp y H3 e3 ry => ?_)
    · refine ⟨(e1.tr e2).tr e3, ws, e3 _ _ (e2 _ _ hw), ?_⟩
      rw [tk, List.filter_append, List.map_append]
      have : ([x].filter p) = [] := by simp [hp]
      rw [this]
      simpa using paired_upT (Ex.lt (e2.tr e3)) pr
    · refine ⟨ws, e3 _ _ (e2 _ _ hw), ?_, Evl.Ex.mut ((e1.tr e2).tr e3) hD, ws ++ [y], upd_same, ?_⟩
      · have h1 := paired_len pr
        have h2 : (((xs.take i).filter p).map f).length ≤ xs.length := by
          rw [List.length_map]
          exact Nat.le_trans (List.length_filter_le _ _) (by rw [List.length_take]; omega)
        exact Nat.lt_of_le_of_lt (Nat.le_trans (Nat.le_of_eq h1) (Nat.le_trans h2 hz)) (by decide)
      · have hl := Lt.set (ws' := ws ++ [y]) (e3 _ _ (e2 _ _ hw))
        rw [tk, List.filter_append, List.map_append]
        have : ([x].filter p) = [x] := by simp [hp]
        rw [this]
        exact paired_snoc (paired_upT ((Ex.lt (e2.tr e3)).trans hl) pr) (MonT.up hl ry)
  · obtain ⟨e1, ws, hw, pr⟩ := q
    rw [List.take_length] at pr
    exact hd D H' ws hD e1 hw pr
/-- without an if -/
theorem lc_map {J : It} {G : Hp → Prop} {xs : List α} (w : Wk P J G xs) {g : TG} {te : TE} {vs : List Nat} {σ : L2.St} {H : Hp} {Q : VK} (f : α → β) (hz : xs.length ≤ 1000000)
    (hG : ∀ H', Ex H H' → G H')
    (hs : ∀ (i : Nat) x v H1, xs[i]? = some x → Ex H H1 → P H1 v x → ∀ (N : Hp → Prop) (Z : V → Hp → Prop), (∀ y H2, Ex H1 H2 → R H2 y (f x) → Z y H2) →
      g v (wipe σ vs) H1 fun σ2 H2 => wipe σ2 vs = wipe σ vs ∧ tYes σ2 H2 fun b H3 => if b = true then te σ2 H3 Z else N H3)
    (hd : ∀ L H1 ws, H L = none → Ex H H1 → H1 L = some (.lst ws) → Paired (R H1) ws (xs.map f) → Q (.ref L) H1) : LcW J g tYes te vs σ H Q :=
  lc_wk w (fun _ => true) f hz hG (fun i x v H1 h1 h2 h3 N Z _ k => hs i x v H1 h1 h2 h3 N Z (k rfl)) fun L H1 ws h1 h2 h3 h4 => hd L H1 ws h1 h2 h3 (by
    have e : xs.filter (fun _ => true) = xs := List.filter_eq_self.mpr fun _ _ => rfl
    rw [e] at h4
    exact h4)
end
section
variable {α : Type} {P : Pr α}
/-- a for over it -/
theorem for_wk {J : It} {G : Hp → Prop} {xs : List α} (w : Wk P J G xs) {g : TG} {tb : TS} {D : Ends} {σ : L2.St} {H : Hp} (Pv : Nat → L2.St → Hp → Prop) (h0 : Pv 0 σ H) (hG : ∀ i σ' H', i ≤ xs.length → Pv i σ' H' → G H')
    (hs : ∀ (i : Nat) x v σ' H1 H2, xs[i]? = some x → Pv i σ' H1 → Ex H1 H2 → P H2 v x → g v σ' H2 fun σ2 H3 => tb { D with nx := Pv (i + 1), ct := Pv (i + 1), bk := D.nx } σ2 H3) (hd : ∀ σ' H', Pv xs.length σ' H' → D.nx σ' H') : ForW J g tb D σ H :=
  for_it w Pv h0 hG (fun i v σ' H1 H2 hi q y => by
    obtain ⟨x, ex, e2, px⟩ := y
    exact hs i x v σ' H1 H2 ex q e2 px) hd
end
end Lr

set_option Elab.async false
set_option linter.all false
/-! The mathematics, first part: what the program reckons, as plain functions. -/
namespace Lm
open PySem (Str)
inductive Way where
  | down | up | ndown | nup | neven
  deriving DecidableEq
inductive Stp where
  | times (a b : Int) (w : Way) (u : Int)
  | plus (c : Int)
  deriving DecidableEq
def Stp.Good : Stp → Prop
  | .times a b _ u => (1 ≤ a ∧ a ≤ 5) ∧ (1 ≤ b ∧ b ≤ 5) ∧ (1 ≤ u ∧ u ≤ 3)
  | .plus c => -20 ≤ c ∧ c ≤ 20
abbrev GoodR (ss : List Stp) : Prop := ∀ s ∈ ss, s.Good
/-- the greatest common divisor, as an int -/
def cd (a b : Int) : Int := (Int.gcd a b : Nat)
def cm (a b : Int) : Int := a / cd a b * b
abbrev Fr := Int × Int
def frac (t b : Int) : Fr := (t / cd t b, b / cd t b)
def tms (p q : Fr) : Fr := frac (p.1 * q.1) (p.2 * q.2)
def lss (p q : Fr) : Fr := frac (p.1 * q.2 - q.1 * p.2) (p.2 * q.2)
def rnd (t b : Int) (w : Way) : Int :=
  if w = .down ∨ t % b = 0 then t / b
  else if w = .up then t / b + 1
  else if 2 * (t % b) ≠ b then (if 2 * (t % b) < b then t / b else t / b + 1)
  else if w = .neven then t / b + (t / b) % 2
  else if w = .ndown then t / b else t / b + 1
def led1 (s : Stp) (v : Int) : Int := match s with
  | .plus c => v + c
  | .times a b w u => rnd (v * a) (b * u) w * u
def led (ss : List Stp) (v : Int) : Int := ss.foldl (fun v s => led1 s v) v
def rate1 (f : Fr) (s : Stp) : Fr := match s with
  | .plus _ => f
  | .times a b _ _ => tms f (frac a b)
def rateOf (ss : List Stp) : Fr := ss.foldl rate1 (1, 1)
def wholeOf (b u : Int) (w : Way) : Int := b * u * (if w = .neven then 2 else 1)
def per1 (pr : Int × Int) (s : Stp) : Int × Int := match s with
  | .plus _ => pr
  | .times a b w u =>
    let wh := wholeOf b u w
    let own := wh / cd a wh
    let tn := own / cd pr.2 own
    (pr.1 * tn, pr.2 * tn * a / b)
def perOf (ss : List Stp) : Int × Int := ss.foldl per1 (1, 1)
def periodOf (ss : List Stp) : Int := (perOf ss).1

/-! ### books -/
structure Knd where
  name : Str
  grp : Nat
  steps : List Stp
structure Bk where
  kinds : List Knd
  groups : List (List Stp)
  whole : List Stp
namespace Bk
def names (b : Bk) : List Str := b.kinds.map Knd.name
def grpOf (b : Bk) (k : Knd) : List Stp := b.groups.getD k.grp []
def rate (b : Bk) (k : Knd) : Fr := rateOf (k.steps ++ b.grpOf k ++ b.whole)
def share (b : Bk) (k : Knd) : Fr := rateOf (b.grpOf k ++ b.whole)
def period (b : Bk) (k : Knd) : Int := periodOf (k.steps ++ b.grpOf k ++ b.whole)
def periods (b : Bk) : List Int := b.groups.map fun g => periodOf (g ++ b.whole)
def size (b : Bk) : Int := b.periods.foldl (fun a p => a * p) 1
/-- the sums of a bill: lines are (kind, amount) -/
def sums (b : Bk) (bill : List (Knd × Int)) : List Int :=
  bill.foldl (fun s l => s.set l.1.grp (s.getD l.1.grp 0 + led l.1.steps l.2)) (List.replicate b.groups.length 0)
def askS (b : Bk) (s : List Int) : Int := led b.whole ((List.zipWith led b.groups s).sum)
def ask (b : Bk) (bill : List (Knd × Int)) : Int := b.askS (b.sums bill)
/-- well made -/
structure Ok (b : Bk) : Prop where
  k1 : 1 ≤ b.kinds.length
  k4 : b.kinds.length ≤ 4
  g1 : 1 ≤ b.groups.length
  g3 : b.groups.length ≤ 3
  nd : b.names.Nodup
  kr : ∀ k ∈ b.kinds, k.grp < b.groups.length ∧ GoodR k.steps ∧ k.steps.length ≤ 2
  gr : ∀ g ∈ b.groups, GoodR g ∧ g.length ≤ 2
  wr : GoodR b.whole ∧ b.whole.length ≤ 2
end Bk

/-! ### states -/
abbrev Vec := List Int
/-- (a + b) mod p, place by place -/
def addv (ps s m : Vec) : Vec := (s.zip (m.zip ps)).map fun x => (x.1 + x.2.1) % x.2.2
def redv (ps s : Vec) : Vec := (s.zip ps).map fun x => x.1 % x.2
def zerov (ps : Vec) : Vec := List.replicate ps.length 0
/-- an assoc list: put, look -/
def aput {β : Type} (kvs : List (Vec × β)) (k : Vec) (v : β) : List (Vec × β) :=
  if kvs.any (fun kv => decide (kv.1 = k)) then kvs.map fun kv => if kv.1 = k then (kv.1, v) else kv else kvs ++ [(k, v)]
def aget {β : Type} (kvs : List (Vec × β)) (k : Vec) : Option β := (kvs.find? fun kv => decide (kv.1 = k)).map (·.2)
/-- the greater one stays -/
def amax {β : Type} (f : β → Int) (kvs : List (Vec × β)) (k : Vec) (v : β) : List (Vec × β) :=
  match aget kvs k with
  | none => aput kvs k v
  | some u => if f u < f v then aput kvs k v else kvs
end Lm

set_option Elab.async false
set_option linter.all false
set_option maxRecDepth 100000
set_option maxHeartbeats 4000000
/-! {tuple: v}; a property by name; != of instances with an own __eq__. -/
namespace Lr
open PySem PySem.Spec PyProof.Rows L2
/-! ### a dict display of one pair, the key a tuple -/
def tDone1 (tk tv : TE) : TE := fun σ H Q => ∀ p, H p = none → tk σ (upd H p (.dT [])) fun y H1 => tv σ H1 fun z H2 => H2 p = some (.dT []) ∧ ∃ (k : List Key) (b : Addr), y = .ref b ∧ H2 b = some (.tup (k.map kV)) ∧ Q (.ref p) (upd H2 p (.dT [(k, z)]))
theorem pe_done1 {X : Cx} {kx vx : Expr} {pos : Pos} {tk tv : TE} (hu : X.A.units < cLine) (hk : PE X kx tk) (hv : PE X vx tv) : PE X (.Dict [some kx] [vx] pos) (tDone1 tk tv) := by
  refine ⟨fun pins s σ H Q I q => ?_⟩
  have hn := I.hok.fresh (Nat.le_refl s.heap.objs.size)
  have I1 := I.laid (a := s.heap.objs.size) (o := .dT []) (h' := s.heap.push { cls := .type "dict", data := .dict #[] }) (t' := s.toks) (fun _ _ q => Heap.get?_push_of_some _ q) (Nat.le_refl _) (dt_empty s.heap I.big)
  have hshape := zip_pairTrees [some kx] [vx] X.env pos rfl rfl
  have hlen : (pairTrees [some kx] [vx] X.env pos).length = 1 := pairTrees_length [some kx] [vx] X.env pos rfl rfl
  have h0 : pairTrees [some kx] [vx] X.env pos ≠ [] := fun e => by rw [e] at hlen; cases hlen
  rw [arm_eval_Dict, hshape, dictDisplay_pairs _ h0 (by omega)]
  refine wpAny_bind (wpAny_standAt (wpAny_bind (wpAny_subDictH (knd := tupleKind (mixKind X.prog X.w)) (Q := fun d s' => wpAny (model X.prog X.w) X.A (pure (Value.ref d)) (EP X pins σ Q) X.xe s') hu (by omega) ?_)))
  refine pairTrees_cons_walk (thn (hk.run pins _ σ _ _ I1 (q _ hn)) fun u s1 ⟨x, H1, I2, rx, q1⟩ => thn (hv.run pins s1 σ H1 _ I2 q1) fun w2 s2 ⟨y, H2, I3, ry, q2⟩ => pairTrees_nil_walk ?_)
  obtain ⟨e, k, b, ex, eb, q3⟩ := q2
  subst ex
  cases rx
  obtain ⟨z, hd, xs, r, dd⟩ := dt_of I3.hok e
  cases r
  refine ⟨[(k, b, w2)], ⟨rfl, rfl, key_of I3.hok eb, trivial⟩, dd, fun h' tk' dd' hs => wpAny_pure ⟨.ref s.heap.objs.size, _, ?_, rfl, q3⟩⟩
  obtain ⟨q, es, ep, hq, h2, h3, h4, _, h5⟩ := dd'
  refine d_write I3 (by rw [e]; exact True.intro) hs ⟨q, hq⟩ ⟨by rw [sizeLine_eq]; simp, hd, [(k, b, w2)], .cons ⟨rfl, ?_, ry⟩ .nil, q, es, ep, hq, h2, h3, h4, h5⟩
  rw [upd_ne (ne_of eb e (fun z => nomatch z))]
  exact eb

/-! ### a property, by what is promised of it -/
structure Prp (P : Program) (w : World) (K : PySem.W.Frag) (mg : Str → Option Value) (base : Heap) (k : Nat) (C : Addr) (f : Str) (sp : Sp) : Prop where
  ex : ∃ (p g : Addr) (fd : FuncData) (ps : List Str), Cls K C ∧ PropOf K C f p g ∧ FnOk P w K mg base C8.CX0 k g fd ps sp ∧ Binds K fd ps []
theorem pe_pr {X : Cx} {k j : Nat} {C : Addr} {f : Str} {sp : Sp} {e : Expr} {pos : Pos} {ta : TE} (c : Prp X.prog X.w X.K X.mg X.base k C f sp) (hr : Room j X.A) (hk : k + 1 ≤ j) (he : PE X e ta)
    (hab : attributeBase e f X.env (eval e X.env) = eval e X.env) : PE X (.Attribute e f pos) (tProp C sp [] C8.E0 ta) := by
  obtain ⟨p, g, fd, ps, hc, hp, F, b⟩ := c.ex
  exact pe_prop he hc hp F (hr.mono hk) b .nil C8.pass0 hab

/-! ### != by the own __eq__ -/
section
variable {M : Model} {prog : Program} {w : World} {A : Around} {E : Value → Shared → Prop} {s : Shared} {K : PySem.W.Frag} {x C : Addr} {ox : Obj} {od : Option Obj}
theorem ifBound_objNe {args : List Value} {Q : Option Value → Shared → Prop} (X : K.In s.heap) (I : PySem.W.InstAt s.heap x ox C od) (hs : PySem.W.findIn K (.ref C) "__ne__" = some (some (.builtin "object.__ne__")))
    (h : wpAny M A (call (.builtin "object.__ne__") (.ref x :: args)) (fun v => Q (some v)) E s) : wpAny M A (callSpecialIfBound? (.ref x) "__ne__" args) Q E s := by
  simp only [callSpecialIfBound?, bindSpecialIfBound?]
  refine wpAny_holding (wpAny_bind (wpAny_bind (wpAny_bind (I.type.here ((PySem.W.looks_findIn X hs).here ?_)))))
  refine wpAny_bind (wpAny_askSetting (wpAny_ite ?_))
  have fin : wpAny M A (call (.builtin "object.__ne__") ([.ref x] ++ args) >>= fun v => pure (some v)) Q E s := wpAny_bind (wpAny_mono h (fun v s' h' => wpAny_pure h') fun _ _ h' => h')
  split
  · exact wpAny_bind (wpAny_of_eq (F.cmp_object.ne.bind _) (wpAny_pure (by exact fin)))
  · exact wpAny_tryCatch (wpAny_bind (wpAny_of_eq (F.cmp_object.ne.bind _) (wpAny_pure (by exact fin))))
theorem entry_neF {f y : Addr} (X : K.In s.heap) (I : PySem.W.InstAt s.heap x ox C od) (hs : PySem.W.findIn K (.ref C) "__eq__" = some (some (.ref f))) (hf : PySem.W.isFn K (.ref f) = true) (hu : A.units < cLine) {Q : Fin → Shared → Prop}
    (hcall : wpAny (model prog w) A (call (.ref f) [.ref x, .ref y]) (fun v s' => ∃ b, v = .bool b ∧ Q (.done (.ret (.bool (!b)))) s') E s) :
    wpAny (model prog w) A (Builtin.«object.__ne__» ⟨[.ref x, .ref y], []⟩) Q E s := by
  unfold Builtin.«object.__ne__»
  repeat (first
    | with_reducible refine wpAny_cRoomFor hu ?_
    | (refine wpAny_bind (m := callSpecialIfBound? (.ref x) (Str.ofString "__eq__") [.ref y])
        (PySem.W.ifBound_K X I hs hf (wpAny_mono hcall (fun r s' hr => by
          obtain ⟨b, rfl, hq⟩ := hr
          repeat (first | exact hq | exact wpAny_pure hq | exact wpAny_truthy_bool hq | (refine wpAny_bind (m := truthy (.bool _)) (wpAny_truthy_bool ?_)) | wp_step)) fun _ _ e => e)))
    | wp_step)
end
section
variable {X : Cx} {n : Nat}
def rNeI (C : Addr) (R : Addr → Addr → Hp → Prop) : R2 := fun x y H Q => DIns C R x y H ∧ ∀ H', Ext H H' → Q (.bl false) H'
theorem op_neI {CX : CXT} {C f : Addr} {fd : FuncData} {ps : List Str} {R : Addr → Addr → Hp → Prop} {E : XK} (F : FnOk X.prog X.w X.K X.mg X.base CX n f fd ps (spEq R)) (hr : Room (n + 1) X.A)
    (hs : PySem.W.findIn X.K (.ref C) "__eq__" = some (some (.ref f))) (hf : PySem.W.isFn X.K (.ref f) = true) (hn : PySem.W.findIn X.K (.ref C) "__ne__" = some (some (.builtin "object.__ne__"))) (hm : PySem.W.mroIn X.K C (.type "object") = some true)
    (hb : Binds X.K fd ps []) (hx : Passes CX X E) : OpR X (compareOp .NotEq) (rNeI C R) := by
  intro pins s σ H x y v u Q I rx ry hq
  obtain ⟨⟨a, b, dx, dy, fs, gs, rfl, rfl, ha, hb', hrr⟩, q⟩ := hq
  cases rx
  cases ry
  obtain ⟨mA, J, _⟩ := ins_get I.hok ha
  obtain ⟨mB, J', _⟩ := ins_get I.hok hb'
  obtain ⟨od, J, _⟩ := J.look
  obtain ⟨od', J', _⟩ := J'.look
  have r1 : Room n X.A.in1 := hr.in1
  have hsp : spEq R [.ref a, .ref b] H (fun v H' => v = .bl true ∧ Ext H H') E := ⟨a, b, rfl, hrr, fun H' e => ⟨rfl, e⟩⟩
  have e0 : Env0 X.prog X.w X.K X.mg X.base X.A.in1 X.stack s H := I.env0.in1
  have hl := F.len _ _ _ _ hsp
  have r2 : Vals [V.ref a, V.ref b] [Value.ref a, Value.ref b] := .cons rfl (.cons rfl .nil)
  have own : wpAny (model X.prog X.w) X.A.in1 (call (.ref f) [.ref a, .ref b]) (fun v s' => v = .bool true ∧ ∃ H', Inv X pins σ H' s' ∧ Ext H H') X.xe s := by
    refine wpAny_call (codeAny_mono (F.run X.A.in1 X.stack s H ⟨[.ref a, .ref b], []⟩ [.ref a, .ref b] [.ref a, .ref b] _ E r1 e0 (by
      have := hb s [.ref a, .ref b] I.kIn (by simpa using hl)
      simpa using this) r2 hsp) fun r s' hq => ?_)
    cases r with
    | error e => exact hx pins σ H s e s' I hq
    | ok fl =>
      cases fl with
      | ret w =>
        obtain ⟨z, H', I', rz, ez, ex⟩ := I.after hq
        subst ez
        cases rz
        exact ⟨rfl, H', I', ex⟩
      | next => exact False.elim hq
      | brk => exact False.elim hq
      | cont => exact False.elim hq
  have one : wpAny (model X.prog X.w) X.A (tryCompare (.ref a) "__ne__" (.ref b)) (fun r s' => r = some (.bool false) ∧ ∃ H', Inv X pins σ H' s' ∧ Ext H H') X.xe s := by
    unfold tryCompare
    refine wpAny_bind (ifBound_objNe I.kIn J hn (wpAny_call (codeAny_call_builtin PySem.F.cmp_object.ne.plain PySem.F.cmpEntry_ne (PySem.W.check_slot PySem.F.cmpKind_ne PySem.F.cmpSplit_ne (J.type.andThen (PySem.W.looks_mroIn I.kIn hm)) (PySem.F.cmpArgs_ne _ _)
      (entry_neF I.kIn J hs hf r1.units0 (wpAny_mono own (fun v s' hv => ?_) fun _ _ e => e))))))
    obtain ⟨rfl, hv⟩ := hv
    exact ⟨true, rfl, wpAny_pure ⟨rfl, hv⟩⟩
  show wpAny (model X.prog X.w) X.A (richCompare .NotEq (.ref a) (.ref b)) (EP X pins σ Q) X.xe s
  simp only [richCompare, cmpInfo_NotEq, oneThing_ref]
  refine wpAny_holding (wpAny_bind (wpAny_cRoomFor hr.units0 ?_))
  refine wpAny_bind (J.type.here ?_)
  refine wpAny_bind (J'.type.here ?_)
  rw [show (Value.ref C != Value.ref C) = false from by simp]
  simp only [Bool.false_eq_true, if_false]
  refine wpAny_bind (wpAny_pure ?_)
  simp only [Bool.false_eq_true, if_false]
  refine wpAny_bind (m := tryCompare (.ref a) _ (.ref b)) (wpAny_mono one (fun r s1 z => ?_) fun _ _ e => e)
  obtain ⟨z1, H', I', ex⟩ := z
  subst z1
  exact wpAny_pure ⟨.bl false, H', I', rfl, q H' ex⟩
end
/-! ### what stands for a tuple of ints that may be a dict's key -/
def pKey : Pr (List Int) := fun H v xs => ∃ p, v = .ref p ∧ H p = some (.tup (xs.map V.int))
instance : MonT pKey := ⟨fun e ⟨p, a, b⟩ => ⟨p, a, e _ _ trivial b⟩⟩
theorem pKey.t {K : PySem.W.Frag} {H : Hp} {v : V} {xs : List Int} (h : pKey H v xs) : pTup K pInt H v xs := by
  obtain ⟨p, e, hp⟩ := h
  subst e
  exact ofInts (SqT.of hp)
theorem key_map (xs : List Int) : (xs.map Sum.inl : List Key).map kV = xs.map V.int := by
  rw [List.map_map] <;> rfl
theorem pKey.k {H : Hp} {v : V} {xs : List Int} (h : pKey H v xs) : ∃ p, v = .ref p ∧ H p = some (.tup ((xs.map Sum.inl : List Key).map kV)) := by
  obtain ⟨p, e, hp⟩ := h
  exact ⟨p, e, by rw [key_map]; exact hp⟩
end Lr
namespace Lr
open PySem PySem.Spec PyProof.Rows L2
/-- what != of two instances of an own class with an own == asks -/
structure Neq (P : Program) (w : World) (K : PySem.W.Frag) (mg : Str → Option Value) (base : Heap) (k : Nat) (C : Addr) (R : Addr → Addr → Hp → Prop) : Prop where
  ex : ∃ (f : Addr) (fd : FuncData) (ps : List Str), FnOk P w K mg base C8.CX0 k f fd ps (spEq R) ∧ PySem.W.findIn K (.ref C) "__eq__" = some (some (.ref f)) ∧ PySem.W.isFn K (.ref f) = true ∧ PySem.W.findIn K (.ref C) "__ne__" = some (some (.builtin "object.__ne__")) ∧ PySem.W.mroIn K C (.type "object") = some true ∧ Binds K fd ps []
theorem op_neRow {X : Cx} {k j : Nat} {C : Addr} {R : Addr → Addr → Hp → Prop} (c : Neq X.prog X.w X.K X.mg X.base k C R) (hr : Room j X.A) (hk : k + 1 ≤ j) : OpR X (compareOp .NotEq) (rNeI C R) := by
  obtain ⟨f, fd, ps, F, h1, h2, h3, h4, b⟩ := c.ex
  exact op_neI (E := C8.E0) F (hr.mono hk) h1 h2 h3 h4 b C8.pass0
end Lr

set_option Elab.async false
set_option linter.all false
set_option maxRecDepth 100000
set_option maxHeartbeats 4000000
/-! The rules whose readings name the frag, with the frag given (inside comprehensions it must not be read off the block's own context). -/
namespace Lr
open PySem PySem.Spec PyProof.Rows L2
theorem op_mulE {X : Cx} : OpR X (binaryOp .Mult) (rI (fun i j => IntMulOk i j) fun i j => .int (i * j)) := opI fun _ _ _ _ _ _ _ hc q => mul_int q hc
section
variable {X : Cx} {pos : Pos} (K : PySem.W.Frag)
theorem kix_tup (hK : X.K = K := by rfl) : IxR X (rIxT K) := by subst hK; exact ix_tup
theorem kix_list (hK : X.K = K := by rfl) : IxR X (rIxL K) := by subst hK; exact ix_list
theorem ksl_list (hK : X.K = K := by rfl) : SlR X (rSlL K) := by subst hK; exact sl_list
theorem ksl_tupA (hK : X.K = K := by rfl) : SlR X (rSlA K) := by subst hK; exact sl_tupA
theorem kin_seq (hK : X.K = K := by rfl) : OpR X (compareOp .In) (rIn K false) := by subst hK; exact op_in_seq
theorem knotIn_seq (hK : X.K = K := by rfl) : OpR X (compareOp .NotIn) (rIn K true) := by subst hK; exact op_notIn_seq
theorem klen_seq (hK : X.K = K := by rfl) : CallR X (.builtin "len") (fun xs H Q => ∃ p ys, xs = [.ref p] ∧ (SqL K H p ys ∨ SqT K H p ys) ∧ Q (.int ys.length) H) := by subst hK; exact call_len_seq
theorem kcatA (hK : X.K = K := by rfl) : OpR X (binaryOp .Add) (rCatA K) := by subst hK; exact op_catA
theorem keqD (hu : X.A.units + 64 < cLine) (hK : X.K = K := by rfl) : OpR X (compareOp .Eq) (rEqD K) := by subst hK; exact op_eqD hu
theorem kneD (hu : X.A.units + 64 < cLine) (hK : X.K = K := by rfl) : OpR X (compareOp .NotEq) (rNeD K) := by subst hK; exact op_neD hu
theorem kall (hc : X.calm = true) (hK : X.K = K := by rfl) : CallR X (.builtin "all") (rAll K) := by subst hK; exact cr_all hc
theorem kpg_tup {es : List Expr} {k : Nat} {t : TGs} {n : Nat} (hc : X.calm = true) (h : PGs X es t)
    (hn : (assignEach es X.env).length = n := by rfl) (hst : (assignEach es X.env).findIdx? (·.1) = none := by rfl) (hK : X.K = K := by rfl) : PG X (.Tuple es k pos) (gTup K n t) := by subst hK; exact pg_tup hc h hn hst
theorem kpe_fld {e : Expr} {f : Str} {ta : TE} (he : PE X e ta) (hb : attributeBase e f X.env (eval e X.env) = eval e X.env) (hK : X.K = K := by rfl) : PE X (.Attribute e f pos) (tFld K ta f) := by subst hK; exact pe_fld he hb
theorem kpa_star {e : Expr} {es : List Expr} {p : Pos} {te : TE} {t : TA} (ha : PE X e te) (hr : PA X es t) (hs : starEach (.Starred e p :: es) X.env = (true, eval e X.env) :: starEach es X.env := by rfl) (hK : X.K = K := by rfl) : PA X (.Starred e p :: es) (tStar K te t) := by subst hK; exact pa_star ha hr hs
end
/-! ### comprehensions: what is asked behind the iterable, kept whole -/
structure LcP (J : It) (g : TG) (tt : TT) (te : TE) (vs : List Nat) (σ : L2.St) (H1 : Hp) (Q : VK) : Prop where
  run : LcW J g tt te vs σ H1 Q
def tLcW (wi : TI) (g : TG) (tt : TT) (te : TE) (vs : List Nat) : TE := fun σ H Q => wi σ H fun J H1 => LcP J g tt te vs σ H1 Q
theorem tLcW_eq {wi : TI} {g : TG} {tt : TT} {te : TE} {vs : List Nat} : tLcW wi g tt te vs = tLc wi g tt te vs := by
  funext σ H Q
  show wi σ H (fun J H1 => LcP J g tt te vs σ H1 Q) = wi σ H (fun J H1 => LcW J g tt te vs σ H1 Q)
  have e : (fun J H1 => LcP J g tt te vs σ H1 Q) = (fun J H1 => LcW J g tt te vs σ H1 Q) := by
    funext J H1
    exact propext ⟨fun h => h.run, fun h => ⟨h⟩⟩
  rw [e]
theorem pe_lcW {X : Cx} {e : Expr} {wi : TI} {g : TG} {tt : TT} {te : TE} {vs : List Nat} (h : PE X e (tLc wi g tt te vs)) : PE X e (tLcW wi g tt te vs) := by rw [tLcW_eq]; exact h
theorem ps_lcW {X : Cx} {st : Stmt} {wi : TI} {g g' : TG} {tt : TT} {te : TE} {vs : List Nat} (h : PS X st (tAsg (tLc wi g tt te vs) g')) : PS X st (tAsg (tLcW wi g tt te vs) g') := by rw [tLcW_eq]; exact h
structure DcP (J : It) (g : TG) (tk tv : TE) (vs : List Nat) (σ : L2.St) (H1 : Hp) (Q : VK) : Prop where
  run : tDcT (fun _ _ R => R J H1) g tk tv vs σ H1 Q
def tDcW (wi : TI) (g : TG) (tk tv : TE) (vs : List Nat) : TE := fun σ H Q => wi σ H fun J H1 => DcP J g tk tv vs σ H1 Q
theorem tDcW_eq {wi : TI} {g : TG} {tk tv : TE} {vs : List Nat} : tDcW wi g tk tv vs = tDcT wi g tk tv vs := by
  funext σ H Q
  show wi σ H (fun J H1 => DcP J g tk tv vs σ H1 Q) = wi σ H (fun J H1 => tDcT (fun _ _ R => R J H1) g tk tv vs σ H1 Q)
  have e : (fun J H1 => DcP J g tk tv vs σ H1 Q) = (fun J H1 => tDcT (fun _ _ R => R J H1) g tk tv vs σ H1 Q) := by
    funext J H1
    exact propext ⟨fun h => h.run, fun h => ⟨h⟩⟩
  rw [e]
theorem ps_dcW {X : Cx} {st : Stmt} {wi : TI} {g g' : TG} {tk tv : TE} {vs : List Nat} (h : PS X st (tAsg (tDcT wi g tk tv vs) g')) : PS X st (tAsg (tDcW wi g tk tv vs) g') := by rw [tDcW_eq]; exact h
end Lr

set_option Elab.async false
set_option linter.all false
set_option maxRecDepth 100000
set_option maxHeartbeats 4000000
namespace Lf
open PySem PySem.Spec PyProof.Rows L2 Lc
structure Tx (K : PySem.W.Frag) (mg : Str → Option Value) : Prop where
  s : SaysP K
  g : ∃ h : Heap, K.In h ∧ h.Ns mainGlobals mg
section
variable {K : PySem.W.Frag} {mg : Str → Option Value}
theorem Tx.f (T : Tx K mg) (i : Nat) {f : Fx} (h : fx[i]? = some f := by rfl) : f.ok K = true := T.s.fact (List.mem_of_getElem? h)
theorem Tx.glo (T : Tx K mg) (i : Nat) {x : Str} (h : fx[i]? = some (.b (.glo x)) := by rfl) : mg x = some (.ref (He.ga K x)) := by
  obtain ⟨hp, X, G⟩ := T.g
  exact He.glo_ok X G (T.f i h)
theorem Tx.free (T : Tx K mg) (i : Nat) {x : Str} (h : fx[i]? = some (.b (.free x)) := by rfl) : mg x = none := by
  obtain ⟨hp, X, G⟩ := T.g
  exact He.free_ok X G (T.f i h)
theorem Tx.int (T : Tx K mg) (i : Nat) {x : Str} {z : Int} (h : fx[i]? = some (.b (.int x z)) := by rfl) : ∃ u, mg x = some u ∧ RelV (.int z) u := by
  obtain ⟨hp, X, G⟩ := T.g
  obtain ⟨t, e⟩ := He.int_ok X G (T.f i h)
  exact ⟨_, e, ⟨_, rfl⟩⟩
theorem Tx.str (T : Tx K mg) (i : Nat) {x z : Str} (h : fx[i]? = some (.b (.str x z)) := by rfl) : ∃ u, mg x = some u ∧ RelV (.str z) u := by
  obtain ⟨hp, X, G⟩ := T.g
  obtain ⟨t, e⟩ := He.str_ok X G (T.f i h)
  exact ⟨_, e, ⟨_, rfl⟩⟩

theorem b_isinstance (T : Tx K mg) : mg "isinstance" = none := T.free 67
theorem b_len (T : Tx K mg) : mg "len" = none := T.free 68
theorem b_int (T : Tx K mg) : mg "int" = none := T.free 69
theorem b_bool (T : Tx K mg) : mg "bool" = none := T.free 70
theorem b_str (T : Tx K mg) : mg "str" = none := T.free 71
theorem b_tuple (T : Tx K mg) : mg "tuple" = none := T.free 72
theorem b_list (T : Tx K mg) : mg "list" = none := T.free 73
theorem b_all (T : Tx K mg) : mg "all" = none := T.free 74
theorem b_max (T : Tx K mg) : mg "max" = none := T.free 75
theorem b_min (T : Tx K mg) : mg "min" = none := T.free 76
theorem b_sum (T : Tx K mg) : mg "sum" = none := T.free 77
theorem b_range (T : Tx K mg) : mg "range" = none := T.free 78
theorem b_enumerate (T : Tx K mg) : mg "enumerate" = none := T.free 79
theorem b_zip (T : Tx K mg) : mg "zip" = none := T.free 80
theorem b_divmod (T : Tx K mg) : mg "divmod" = none := T.free 81
theorem b_abs (T : Tx K mg) : mg "abs" = none := T.free 82
theorem q_MOST_KINDS (T : Tx K mg) : ∃ u, mg "MOST_KINDS" = some u ∧ RelV (.int 4) u := T.int 83
theorem q_MOST_GROUPS (T : Tx K mg) : ∃ u, mg "MOST_GROUPS" = some u ∧ RelV (.int 3) u := T.int 84
theorem q_MOST_STEPS (T : Tx K mg) : ∃ u, mg "MOST_STEPS" = some u ∧ RelV (.int 2) u := T.int 85
theorem q_MOST_FACTOR (T : Tx K mg) : ∃ u, mg "MOST_FACTOR" = some u ∧ RelV (.int 200) u := T.int 86
theorem q_MOST_UNIT (T : Tx K mg) : ∃ u, mg "MOST_UNIT" = some u ∧ RelV (.int 60) u := T.int 87
theorem q_MOST_PLUS (T : Tx K mg) : ∃ u, mg "MOST_PLUS" = some u ∧ RelV (.int 9999) u := T.int 88
theorem q_MOST_STATES (T : Tx K mg) : ∃ u, mg "MOST_STATES" = some u ∧ RelV (.int 200) u := T.int 89
theorem q_MOST_AMOUNTS (T : Tx K mg) : ∃ u, mg "MOST_AMOUNTS" = some u ∧ RelV (.int 400) u := T.int 90
theorem q_LONGEST_NAME (T : Tx K mg) : ∃ u, mg "LONGEST_NAME" = some u ∧ RelV (.int 8) u := T.int 93
theorem q_TIMES_SIZE (T : Tx K mg) : ∃ u, mg "TIMES_SIZE" = some u ∧ RelV (.int 5) u := T.int 94
theorem q_PLUS_SIZE (T : Tx K mg) : ∃ u, mg "PLUS_SIZE" = some u ∧ RelV (.int 2) u := T.int 95
theorem q_KIND_SIZE (T : Tx K mg) : ∃ u, mg "KIND_SIZE" = some u ∧ RelV (.int 3) u := T.int 96
theorem q_DIGITS (T : Tx K mg) : ∃ u, mg "DIGITS" = some u ∧ RelV (.str "0123456789") u := T.str 91
theorem q_LETTERS (T : Tx K mg) : ∃ u, mg "LETTERS" = some u ∧ RelV (.str "abcdefghijklmnopqrstuvwxyz") u := T.str 92
theorem q_WAYS (T : Tx K mg) : ∃ u, mg "WAYS" = some u ∧ RelV (.ref (He.ga K "WAYS")) u := ⟨_, T.glo 98, rfl⟩
theorem ways (T : Tx K mg) (H : Hp) : SqT K H (He.ga K "WAYS") (([.str "down", .str "up", .str "near down", .str "near up", .str "near even"] : List He.Dv).map (He.Dv.v K)) := He.tupB_ok (T.f 99 (f := .tups "WAYS" ["down", "up", "near down", "near up", "near even"])) H
theorem q_Book (T : Tx K mg) : ∃ u, mg "Book" = some u ∧ RelV (.ref (He.ga K "Book")) u := ⟨_, T.glo 26, rfl⟩
theorem k_Book (T : Tx K mg) : Cls K (He.ga K "Book") := He.cls_ok (T.f 100 (f := .b (.cls "Book")))
theorem mk_Book (T : Tx K mg) : Mk K (He.ga K "Book") (He.ma K (He.ga K "Book") "__init__") := He.mkr_ok (T.f 101 (f := .b (.mkr "Book")))
theorem ic_Book (T : Tx K mg) : C8.InsC K (He.ga K "Book") := insc_ok (k_Book T) (T.f 102 (f := .insc "Book"))
theorem q_Row (T : Tx K mg) : ∃ u, mg "Row" = some u ∧ RelV (.ref (He.ga K "Row")) u := ⟨_, T.glo 32, rfl⟩
theorem k_Row (T : Tx K mg) : Cls K (He.ga K "Row") := He.cls_ok (T.f 107 (f := .b (.cls "Row")))
theorem mk_Row (T : Tx K mg) : Mk K (He.ga K "Row") (He.ma K (He.ga K "Row") "__init__") := He.mkr_ok (T.f 108 (f := .b (.mkr "Row")))
theorem ic_Row (T : Tx K mg) : C8.InsC K (He.ga K "Row") := insc_ok (k_Row T) (T.f 109 (f := .insc "Row"))
theorem q_States (T : Tx K mg) : ∃ u, mg "States" = some u ∧ RelV (.ref (He.ga K "States")) u := ⟨_, T.glo 38, rfl⟩
theorem k_States (T : Tx K mg) : Cls K (He.ga K "States") := He.cls_ok (T.f 114 (f := .b (.cls "States")))
theorem mk_States (T : Tx K mg) : Mk K (He.ga K "States") (He.ma K (He.ga K "States") "__init__") := He.mkr_ok (T.f 115 (f := .b (.mkr "States")))
theorem ic_States (T : Tx K mg) : C8.InsC K (He.ga K "States") := insc_ok (k_States T) (T.f 116 (f := .insc "States"))
theorem a_Book_sorts (T : Tx K mg) : NoAttr K (He.ga K "Book") "sorts" := He.noat_ok (T.f 103 (f := .b (.noat "Book" "sorts")))
theorem a_Book_heaps (T : Tx K mg) : NoAttr K (He.ga K "Book") "heaps" := He.noat_ok (T.f 104 (f := .b (.noat "Book" "heaps")))
theorem a_Book_last (T : Tx K mg) : NoAttr K (He.ga K "Book") "last" := He.noat_ok (T.f 105 (f := .b (.noat "Book" "last")))
theorem a_Book_words (T : Tx K mg) : NoAttr K (He.ga K "Book") "words" := He.noat_ok (T.f 106 (f := .b (.noat "Book" "words")))
theorem a_Row_head (T : Tx K mg) : NoAttr K (He.ga K "Row") "head" := He.noat_ok (T.f 111 (f := .b (.noat "Row" "head")))
theorem a_Row_cycle (T : Tx K mg) : NoAttr K (He.ga K "Row") "cycle" := He.noat_ok (T.f 112 (f := .b (.noat "Row" "cycle")))
theorem a_Row_step (T : Tx K mg) : NoAttr K (He.ga K "Row") "step" := He.noat_ok (T.f 113 (f := .b (.noat "Row" "step")))
theorem a_States_sides (T : Tx K mg) : NoAttr K (He.ga K "States") "sides" := He.noat_ok (T.f 117 (f := .b (.noat "States" "sides")))
theorem a_States_spans (T : Tx K mg) : NoAttr K (He.ga K "States") "spans" := He.noat_ok (T.f 118 (f := .b (.noat "States" "spans")))
theorem a_States_bottom (T : Tx K mg) : NoAttr K (He.ga K "States") "bottom" := He.noat_ok (T.f 119 (f := .b (.noat "States" "bottom")))
theorem ne_Row (T : Tx K mg) : PySem.W.findIn K (.ref (He.ga K "Row")) "__ne__" = some (some (.builtin "object.__ne__")) := He.eqO_ok (T.f 110 (f := .nef "Row"))
end
def N_is_integer : List Str := ["value"]
theorem sc_is_integer : FnScope N_is_integer ["value"] (defScope s_is_integer) := ⟨rfl, rfl, rfl, by decide +kernel, rfl, by decide +kernel, by decide +kernel⟩
def N_is_between : List Str := ["value", "low", "high"]
theorem sc_is_between : FnScope N_is_between ["value", "low", "high"] (defScope s_is_between) := ⟨rfl, rfl, rfl, by decide +kernel, rfl, by decide +kernel, by decide +kernel⟩
def N_check_number : List Str := ["value", "low", "high"]
theorem sc_check_number : FnScope N_check_number ["value", "low", "high"] (defScope s_check_number) := ⟨rfl, rfl, rfl, by decide +kernel, rfl, by decide +kernel, by decide +kernel⟩
def N_is_name : List Str := ["value", "sign"]
theorem sc_is_name : FnScope N_is_name ["value"] (defScope s_is_name) := ⟨rfl, rfl, rfl, by decide +kernel, rfl, by decide +kernel, by decide +kernel⟩
def N_common_divisor : List Str := ["one", "other"]
theorem sc_common_divisor : FnScope N_common_divisor ["one", "other"] (defScope s_common_divisor) := ⟨rfl, rfl, rfl, by decide +kernel, rfl, by decide +kernel, by decide +kernel⟩
def N_common_multiple : List Str := ["one", "other"]
theorem sc_common_multiple : FnScope N_common_multiple ["one", "other"] (defScope s_common_multiple) := ⟨rfl, rfl, rfl, by decide +kernel, rfl, by decide +kernel, by decide +kernel⟩
def N_fraction : List Str := ["top", "bottom", "same"]
theorem sc_fraction : FnScope N_fraction ["top", "bottom"] (defScope s_fraction) := ⟨rfl, rfl, rfl, by decide +kernel, rfl, by decide +kernel, by decide +kernel⟩
def N_times : List Str := ["one", "other"]
theorem sc_times : FnScope N_times ["one", "other"] (defScope s_times) := ⟨rfl, rfl, rfl, by decide +kernel, rfl, by decide +kernel, by decide +kernel⟩
def N_less : List Str := ["one", "other"]
theorem sc_less : FnScope N_less ["one", "other"] (defScope s_less) := ⟨rfl, rfl, rfl, by decide +kernel, rfl, by decide +kernel, by decide +kernel⟩
def N_is_step : List Str := ["value"]
theorem sc_is_step : FnScope N_is_step ["value"] (defScope s_is_step) := ⟨rfl, rfl, rfl, by decide +kernel, rfl, by decide +kernel, by decide +kernel⟩
def N_wrong_step : List Str := ["value", "at", "step"]
theorem sc_wrong_step : FnScope N_wrong_step ["value"] (defScope s_wrong_step) := ⟨rfl, rfl, rfl, by decide +kernel, rfl, by decide +kernel, by decide +kernel⟩
def N_is_row_of_steps : List Str := ["value"]
theorem sc_is_row_of_steps : FnScope N_is_row_of_steps ["value"] (defScope s_is_row_of_steps) := ⟨rfl, rfl, rfl, by decide +kernel, rfl, by decide +kernel, by decide +kernel⟩
def N_rounded : List Str := ["top", "bottom", "way", "low", "rest"]
theorem sc_rounded : FnScope N_rounded ["top", "bottom", "way"] (defScope s_rounded) := ⟨rfl, rfl, rfl, by decide +kernel, rfl, by decide +kernel, by decide +kernel⟩
def N_led : List Str := ["steps", "value", "step"]
theorem sc_led : FnScope N_led ["steps", "value"] (defScope s_led) := ⟨rfl, rfl, rfl, by decide +kernel, rfl, by decide +kernel, by decide +kernel⟩
def N_rate_of : List Str := ["steps", "found", "step"]
theorem sc_rate_of : FnScope N_rate_of ["steps"] (defScope s_rate_of) := ⟨rfl, rfl, rfl, by decide +kernel, rfl, by decide +kernel, by decide +kernel⟩
def N_period_of : List Str := ["steps", "period", "rise", "step", "whole", "own", "turns"]
theorem sc_period_of : FnScope N_period_of ["steps"] (defScope s_period_of) := ⟨rfl, rfl, rfl, by decide +kernel, rfl, by decide +kernel, by decide +kernel⟩
def N_text_of_step : List Str := ["step"]
theorem sc_text_of_step : FnScope N_text_of_step ["step"] (defScope s_text_of_step) := ⟨rfl, rfl, rfl, by decide +kernel, rfl, by decide +kernel, by decide +kernel⟩
def N_text_of_steps : List Str := ["steps", "step"]
theorem sc_text_of_steps : FnScope N_text_of_steps ["steps"] (defScope s_text_of_steps) := ⟨rfl, rfl, rfl, by decide +kernel, rfl, by decide +kernel, by decide +kernel⟩
def N_is_kind : List Str := ["value"]
theorem sc_is_kind : FnScope N_is_kind ["value"] (defScope s_is_kind) := ⟨rfl, rfl, rfl, by decide +kernel, rfl, by decide +kernel, by decide +kernel⟩
def N_check_kinds : List Str := ["kinds", "names", "at", "kind"]
theorem sc_check_kinds : FnScope N_check_kinds ["kinds"] (defScope s_check_kinds) := ⟨rfl, rfl, rfl, by decide +kernel, rfl, by decide +kernel, by decide +kernel⟩
def N_check_groups : List Str := ["groups", "at", "steps"]
theorem sc_check_groups : FnScope N_check_groups ["groups"] (defScope s_check_groups) := ⟨rfl, rfl, rfl, by decide +kernel, rfl, by decide +kernel, by decide +kernel⟩
def N_check_places : List Str := ["kinds", "many", "at", "kind"]
theorem sc_check_places : FnScope N_check_places ["kinds", "many"] (defScope s_check_places) := ⟨rfl, rfl, rfl, by decide +kernel, rfl, by decide +kernel, by decide +kernel⟩
def N_check_whole : List Str := ["whole", "wrong"]
theorem sc_check_whole : FnScope N_check_whole ["whole"] (defScope s_check_whole) := ⟨rfl, rfl, rfl, by decide +kernel, rfl, by decide +kernel, by decide +kernel⟩
def N_text_of : List Str := ["kinds", "groups", "whole", "rows", "name", "group", "steps", "at"]
theorem sc_text_of : FnScope N_text_of ["kinds", "groups", "whole"] (defScope s_text_of) := ⟨rfl, rfl, rfl, by decide +kernel, rfl, by decide +kernel, by decide +kernel⟩
def N_is_line : List Str := ["value", "names"]
theorem sc_is_line : FnScope N_is_line ["value", "names"] (defScope s_is_line) := ⟨rfl, rfl, rfl, by decide +kernel, rfl, by decide +kernel, by decide +kernel⟩
def N_check_bill : List Str := ["bill", "names", "at", "line"]
theorem sc_check_bill : FnScope N_check_bill ["bill", "names"] (defScope s_check_bill) := ⟨rfl, rfl, rfl, by decide +kernel, rfl, by decide +kernel, by decide +kernel⟩
def N_Book_init : List Str := ["self", "kinds", "groups", "whole"]
theorem sc_Book_init : FnScope N_Book_init ["self", "kinds", "groups", "whole"] (defScope s_Book_init) := ⟨rfl, rfl, rfl, by decide +kernel, rfl, by decide +kernel, by decide +kernel⟩
def N_Book_kinds : List Str := ["self"]
theorem sc_Book_kinds : FnScope N_Book_kinds ["self"] (defScope s_Book_kinds) := ⟨rfl, rfl, rfl, by decide +kernel, rfl, by decide +kernel, by decide +kernel⟩
def N_Book_groups : List Str := ["self"]
theorem sc_Book_groups : FnScope N_Book_groups ["self"] (defScope s_Book_groups) := ⟨rfl, rfl, rfl, by decide +kernel, rfl, by decide +kernel, by decide +kernel⟩
def N_Book_names : List Str := ["self", "kind"]
theorem sc_Book_names : FnScope N_Book_names ["self"] (defScope s_Book_names) := ⟨rfl, rfl, rfl, by decide +kernel, rfl, by decide +kernel, by decide +kernel⟩
def N_Book_kind_at : List Str := ["self", "name", "kind"]
theorem sc_Book_kind_at : FnScope N_Book_kind_at ["self", "name"] (defScope s_Book_kind_at) := ⟨rfl, rfl, rfl, by decide +kernel, rfl, by decide +kernel, by decide +kernel⟩
def N_Book_rate : List Str := ["self", "name", "found"]
theorem sc_Book_rate : FnScope N_Book_rate ["self", "name"] (defScope s_Book_rate) := ⟨rfl, rfl, rfl, by decide +kernel, rfl, by decide +kernel, by decide +kernel⟩
def N_Book_share : List Str := ["self", "name"]
theorem sc_Book_share : FnScope N_Book_share ["self", "name"] (defScope s_Book_share) := ⟨rfl, rfl, rfl, by decide +kernel, rfl, by decide +kernel, by decide +kernel⟩
def N_Book_period : List Str := ["self", "name", "found"]
theorem sc_Book_period : FnScope N_Book_period ["self", "name"] (defScope s_Book_period) := ⟨rfl, rfl, rfl, by decide +kernel, rfl, by decide +kernel, by decide +kernel⟩
def N_Book_periods : List Str := ["self", "steps"]
theorem sc_Book_periods : FnScope N_Book_periods ["self"] (defScope s_Book_periods) := ⟨rfl, rfl, rfl, by decide +kernel, rfl, by decide +kernel, by decide +kernel⟩
def N_Book_size : List Str := ["self", "found", "period"]
theorem sc_Book_size : FnScope N_Book_size ["self"] (defScope s_Book_size) := ⟨rfl, rfl, rfl, by decide +kernel, rfl, by decide +kernel, by decide +kernel⟩
def N_Book_value : List Str := ["self", "name", "amount", "found"]
theorem sc_Book_value : FnScope N_Book_value ["self", "name", "amount"] (defScope s_Book_value) := ⟨rfl, rfl, rfl, by decide +kernel, rfl, by decide +kernel, by decide +kernel⟩
def N_Book_sums : List Str := ["self", "bill", "found", "name", "amount", "kind"]
theorem sc_Book_sums : FnScope N_Book_sums ["self", "bill"] (defScope s_Book_sums) := ⟨rfl, rfl, rfl, by decide +kernel, rfl, by decide +kernel, by decide +kernel⟩
def N_Book_ask : List Str := ["self", "bill"]
theorem sc_Book_ask : FnScope N_Book_ask ["self", "bill"] (defScope s_Book_ask) := ⟨rfl, rfl, rfl, by decide +kernel, rfl, by decide +kernel, by decide +kernel⟩
def N_Book_ask_of_sums : List Str := ["self", "sums", "steps", "found"]
theorem sc_Book_ask_of_sums : FnScope N_Book_ask_of_sums ["self", "sums"] (defScope s_Book_ask_of_sums) := ⟨rfl, rfl, rfl, by decide +kernel, rfl, by decide +kernel, by decide +kernel⟩
def N_check_book : List Str := ["value"]
theorem sc_check_book : FnScope N_check_book ["value"] (defScope s_check_book) := ⟨rfl, rfl, rfl, by decide +kernel, rfl, by decide +kernel, by decide +kernel⟩
def N_check_two : List Str := ["one", "other"]
theorem sc_check_two : FnScope N_check_two ["one", "other"] (defScope s_check_two) := ⟨rfl, rfl, rfl, by decide +kernel, rfl, by decide +kernel, by decide +kernel⟩
def N_check_fit : List Str := ["one", "other"]
theorem sc_check_fit : FnScope N_check_fit ["one", "other"] (defScope s_check_fit) := ⟨rfl, rfl, rfl, by decide +kernel, rfl, by decide +kernel, by decide +kernel⟩
def N_check_integers : List Str := ["value", "least", "number"]
theorem sc_check_integers : FnScope N_check_integers ["value", "least"] (defScope s_check_integers) := ⟨rfl, rfl, rfl, by decide +kernel, rfl, by decide +kernel, by decide +kernel⟩
def N_goes_on : List Str := ["again", "rise", "size", "many", "step", "longer", "number", "at"]
theorem sc_goes_on : FnScope N_goes_on ["again", "rise", "size"] (defScope s_goes_on) := ⟨rfl, rfl, rfl, by decide +kernel, rfl, by decide +kernel, by decide +kernel⟩
def N_Row_init : List Str := ["self", "early", "again", "rise", "many", "size", "cycle", "step", "last", "part"]
theorem sc_Row_init : FnScope N_Row_init ["self", "early", "again", "rise"] (defScope s_Row_init) := ⟨rfl, rfl, rfl, by decide +kernel, rfl, by decide +kernel, by decide +kernel⟩
def N_Row_early : List Str := ["self"]
theorem sc_Row_early : FnScope N_Row_early ["self"] (defScope s_Row_early) := ⟨rfl, rfl, rfl, by decide +kernel, rfl, by decide +kernel, by decide +kernel⟩
def N_Row_again : List Str := ["self"]
theorem sc_Row_again : FnScope N_Row_again ["self"] (defScope s_Row_again) := ⟨rfl, rfl, rfl, by decide +kernel, rfl, by decide +kernel, by decide +kernel⟩
def N_Row_rise : List Str := ["self"]
theorem sc_Row_rise : FnScope N_Row_rise ["self"] (defScope s_Row_rise) := ⟨rfl, rfl, rfl, by decide +kernel, rfl, by decide +kernel, by decide +kernel⟩
def N_Row_at : List Str := ["self", "lines", "turns", "place"]
theorem sc_Row_at : FnScope N_Row_at ["self", "lines"] (defScope s_Row_at) := ⟨rfl, rfl, rfl, by decide +kernel, rfl, by decide +kernel, by decide +kernel⟩
def N_Row_eq : List Str := ["self", "other"]
theorem sc_Row_eq : FnScope N_Row_eq ["self", "other"] (defScope s_Row_eq) := ⟨rfl, rfl, rfl, by decide +kernel, rfl, by decide +kernel, by decide +kernel⟩
def N_sides_of : List Str := ["one", "other"]
theorem sc_sides_of : FnScope N_sides_of ["one", "other"] (defScope s_sides_of) := ⟨rfl, rfl, rfl, by decide +kernel, rfl, by decide +kernel, by decide +kernel⟩
def N_first_greater : List Str := ["one", "other", "name"]
theorem sc_first_greater : FnScope N_first_greater ["one", "other"] (defScope s_first_greater) := ⟨rfl, rfl, rfl, by decide +kernel, rfl, by decide +kernel, by decide +kernel⟩
def N_check_rates : List Str := ["one", "other", "name"]
theorem sc_check_rates : FnScope N_check_rates ["one", "other"] (defScope s_check_rates) := ⟨rfl, rfl, rfl, by decide +kernel, rfl, by decide +kernel, by decide +kernel⟩
def N_amounts_of : List Str := ["books", "name", "found", "book"]
theorem sc_amounts_of : FnScope N_amounts_of ["books", "name"] (defScope s_amounts_of) := ⟨rfl, rfl, rfl, by decide +kernel, rfl, by decide +kernel, by decide +kernel⟩
def N_check_size : List Str := ["books", "size", "book", "name"]
theorem sc_check_size : FnScope N_check_size ["books"] (defScope s_check_size) := ⟨rfl, rfl, rfl, by decide +kernel, rfl, by decide +kernel, by decide +kernel⟩
def N_States_init : List Str := ["self", "sides", "book", "sign", "name"]
theorem sc_States_init : FnScope N_States_init ["self", "sides"] (defScope s_States_init) := ⟨rfl, rfl, rfl, by decide +kernel, rfl, by decide +kernel, by decide +kernel⟩
def N_States_empty : List Str := ["self"]
theorem sc_States_empty : FnScope N_States_empty ["self"] (defScope s_States_empty) := ⟨rfl, rfl, rfl, by decide +kernel, rfl, by decide +kernel, by decide +kernel⟩
def N_States_move : List Str := ["self", "name", "amount", "found", "book", "sign"]
theorem sc_States_move : FnScope N_States_move ["self", "name", "amount"] (defScope s_States_move) := ⟨rfl, rfl, rfl, by decide +kernel, rfl, by decide +kernel, by decide +kernel⟩
def N_States_weight : List Str := ["self", "name", "amount", "total", "book", "sign", "share"]
theorem sc_States_weight : FnScope N_States_weight ["self", "name", "amount"] (defScope s_States_weight) := ⟨rfl, rfl, rfl, by decide +kernel, rfl, by decide +kernel, by decide +kernel⟩
def N_States_reduced : List Str := ["self", "sums", "number", "span"]
theorem sc_States_reduced : FnScope N_States_reduced ["self", "sums"] (defScope s_States_reduced) := ⟨rfl, rfl, rfl, by decide +kernel, rfl, by decide +kernel, by decide +kernel⟩
def N_States_added : List Str := ["self", "state", "move", "here", "more", "span"]
theorem sc_States_added : FnScope N_States_added ["self", "state", "move"] (defScope s_States_added) := ⟨rfl, rfl, rfl, by decide +kernel, rfl, by decide +kernel, by decide +kernel⟩
def N_States_gap : List Str := ["self", "sums", "total", "at", "book", "sign", "many"]
theorem sc_States_gap : FnScope N_States_gap ["self", "sums"] (defScope s_States_gap) := ⟨rfl, rfl, rfl, by decide +kernel, rfl, by decide +kernel, by decide +kernel⟩
def N_States_base : List Str := ["self", "state", "total", "at", "book", "sign", "shares", "share", "number", "group"]
theorem sc_States_base : FnScope N_States_base ["self", "state"] (defScope s_States_base) := ⟨rfl, rfl, rfl, by decide +kernel, rfl, by decide +kernel, by decide +kernel⟩
def N_States_share_of_group : List Str := ["self", "book", "group", "name", "place", "steps", "share"]
theorem sc_States_share_of_group : FnScope N_States_share_of_group ["self", "book", "group"] (defScope s_States_share_of_group) := ⟨rfl, rfl, rfl, by decide +kernel, rfl, by decide +kernel, by decide +kernel⟩
def N_States_lines : List Str := ["self", "books", "found", "at", "name", "amount", "move", "book", "sign"]
theorem sc_States_lines : FnScope N_States_lines ["self"] (defScope s_States_lines) := ⟨rfl, rfl, rfl, by decide +kernel, rfl, by decide +kernel, by decide +kernel⟩
def N_States_best_lines : List Str := ["self", "found", "at", "amount", "move", "weight"]
theorem sc_States_best_lines : FnScope N_States_best_lines ["self"] (defScope s_States_best_lines) := ⟨rfl, rfl, rfl, by decide +kernel, rfl, by decide +kernel, by decide +kernel⟩
def N_States_order : List Str := ["self", "move", "found", "more", "span"]
theorem sc_States_order : FnScope N_States_order ["self", "move"] (defScope s_States_order) := ⟨rfl, rfl, rfl, by decide +kernel, rfl, by decide +kernel, by decide +kernel⟩
def N_one_more : List Str := ["states", "sums", "best", "found", "state", "weight", "move", "told", "there", "total"]
theorem sc_one_more : FnScope N_one_more ["states", "sums", "best"] (defScope s_one_more) := ⟨rfl, rfl, rfl, by decide +kernel, rfl, by decide +kernel, by decide +kernel⟩
def N_greatest_gap : List Str := ["states", "sums", "state", "weight"]
theorem sc_greatest_gap : FnScope N_greatest_gap ["states", "sums"] (defScope s_greatest_gap) := ⟨rfl, rfl, rfl, by decide +kernel, rfl, by decide +kernel, by decide +kernel⟩
def N_difference : List Str := ["one", "other", "bill"]
theorem sc_difference : FnScope N_difference ["one", "other", "bill"] (defScope s_difference) := ⟨rfl, rfl, rfl, by decide +kernel, rfl, by decide +kernel, by decide +kernel⟩
def N_check_greatest : List Str := ["one", "other"]
theorem sc_check_greatest : FnScope N_check_greatest ["one", "other"] (defScope s_check_greatest) := ⟨rfl, rfl, rfl, by decide +kernel, rfl, by decide +kernel, by decide +kernel⟩
def N_row_of : List Str := ["one", "other", "states", "best", "most", "move", "sums", "numbers", "later", "turn", "again", "place", "told", "state", "total"]
theorem sc_row_of : FnScope N_row_of ["one", "other"] (defScope s_row_of) := ⟨rfl, rfl, rfl, by decide +kernel, rfl, by decide +kernel, by decide +kernel⟩
def N_is_led_on : List Str := ["states", "sums", "later", "move", "most", "state", "total"]
theorem sc_is_led_on : FnScope N_is_led_on ["states", "sums", "later", "move", "most"] (defScope s_is_led_on) := ⟨rfl, rfl, rfl, by decide +kernel, rfl, by decide +kernel, by decide +kernel⟩
def N_greatest : List Str := ["one", "other"]
theorem sc_greatest : FnScope N_greatest ["one", "other"] (defScope s_greatest) := ⟨rfl, rfl, rfl, by decide +kernel, rfl, by decide +kernel, by decide +kernel⟩
def N_turned : List Str := ["row", "number"]
theorem sc_turned : FnScope N_turned ["row"] (defScope s_turned) := ⟨rfl, rfl, rfl, by decide +kernel, rfl, by decide +kernel, by decide +kernel⟩
def N_least : List Str := ["one", "other"]
theorem sc_least : FnScope N_least ["one", "other"] (defScope s_least) := ⟨rfl, rfl, rfl, by decide +kernel, rfl, by decide +kernel, by decide +kernel⟩
def N_first_other : List Str := ["row", "lines"]
theorem sc_first_other : FnScope N_first_other ["row"] (defScope s_first_other) := ⟨rfl, rfl, rfl, by decide +kernel, rfl, by decide +kernel, by decide +kernel⟩
def N_parting : List Str := ["one", "other", "ends", "states", "lines"]
theorem sc_parting : FnScope N_parting ["one", "other"] (defScope s_parting) := ⟨rfl, rfl, rfl, by decide +kernel, rfl, by decide +kernel, by decide +kernel⟩
def N__law_cell : List Str := ["_law_cells", "_law_spot", "_law_mixed", "_law_number"]
theorem sc__law_cell : FnScope N__law_cell ["_law_cells", "_law_spot"] (defScope s__law_cell) := ⟨rfl, rfl, rfl, by decide +kernel, rfl, by decide +kernel, by decide +kernel⟩
def N__law_jar : List Str := ["_law_cells", "_law_spot", "_law_cell_here"]
theorem sc__law_jar : FnScope N__law_jar ["_law_cells", "_law_spot"] (defScope s__law_jar) := ⟨rfl, rfl, rfl, by decide +kernel, rfl, by decide +kernel, by decide +kernel⟩
def N__law_dig : List Str := ["_law_jar_here", "_law_many_here", "_law_mixed", "_law_digit"]
theorem sc__law_dig : FnScope N__law_dig ["_law_jar_here", "_law_many_here"] (defScope s__law_dig) := ⟨rfl, rfl, rfl, by decide +kernel, rfl, by decide +kernel, by decide +kernel⟩
def N__law_take : List Str := ["_law_jar_here", "_law_some"]
theorem sc__law_take : FnScope N__law_take ["_law_jar_here", "_law_some"] (defScope s__law_take) := ⟨rfl, rfl, rfl, by decide +kernel, rfl, by decide +kernel, by decide +kernel⟩
def N__law_common : List Str := ["_law_large", "_law_small"]
theorem sc__law_common : FnScope N__law_common ["_law_large", "_law_small"] (defScope s__law_common) := ⟨rfl, rfl, rfl, by decide +kernel, rfl, by decide +kernel, by decide +kernel⟩
def N__law_span : List Str := ["_law_steps", "_law_span_here", "_law_climb", "_law_step_here", "_law_full", "_law_own", "_law_turns"]
theorem sc__law_span : FnScope N__law_span ["_law_steps"] (defScope s__law_span) := ⟨rfl, rfl, rfl, by decide +kernel, rfl, by decide +kernel, by decide +kernel⟩
def N__law_fit : List Str := ["_law_plan", "_law_sorts", "_law_heaps", "_law_last", "_law_spans", "_law_steps", "_law_label", "_law_place"]
theorem sc__law_fit : FnScope N__law_fit ["_law_plan"] (defScope s__law_fit) := ⟨rfl, rfl, rfl, by decide +kernel, rfl, by decide +kernel, by decide +kernel⟩
def N__law_many : List Str := ["_law_plans", "_law_states", "_law_amounts_here", "_law_plan", "_law_spans", "_law_own", "_law_span_here", "_law_a", "_law_b"]
theorem sc__law_many : FnScope N__law_many ["_law_plans"] (defScope s__law_many) := ⟨rfl, rfl, rfl, by decide +kernel, rfl, by decide +kernel, by decide +kernel⟩
def N__law_way : List Str := ["_law_jar_here"]
theorem sc__law_way : FnScope N__law_way ["_law_jar_here"] (defScope s__law_way) := ⟨rfl, rfl, rfl, by decide +kernel, rfl, by decide +kernel, by decide +kernel⟩
def N__law_factor : List Str := ["_law_jar_here"]
theorem sc__law_factor : FnScope N__law_factor ["_law_jar_here"] (defScope s__law_factor) := ⟨rfl, rfl, rfl, by decide +kernel, rfl, by decide +kernel, by decide +kernel⟩
def N__law_step : List Str := ["_law_jar_here", "_law_factor_here"]
theorem sc__law_step : FnScope N__law_step ["_law_jar_here", "_law_factor_here"] (defScope s__law_step) := ⟨rfl, rfl, rfl, by decide +kernel, rfl, by decide +kernel, by decide +kernel⟩
def N__law_extra : List Str := ["_law_jar_here", "_law_way_here"]
theorem sc__law_extra : FnScope N__law_extra ["_law_jar_here"] (defScope s__law_extra) := ⟨rfl, rfl, rfl, by decide +kernel, rfl, by decide +kernel, by decide +kernel⟩
def N__law_laid : List Str := ["_law_jar_here", "_law_labels", "_law_factors", "_law_way_here", "_law_sorts", "_law_heaps", "_law_last", "_law_label", "_law_factor_here", "_law_at"]
theorem sc__law_laid : FnScope N__law_laid ["_law_jar_here", "_law_labels", "_law_factors", "_law_way_here"] (defScope s__law_laid) := ⟨rfl, rfl, rfl, by decide +kernel, rfl, by decide +kernel, by decide +kernel⟩
def N__law_pair : List Str := ["_law_jar_here", "_law_states", "_law_most", "_law_labels", "_law_turn", "_law_same", "_law_factors", "_law_plans", "_law_told", "_law_sorts", "_law_bare", "_law_label"]
theorem sc__law_pair : FnScope N__law_pair ["_law_jar_here", "_law_states", "_law_most"] (defScope s__law_pair) := ⟨rfl, rfl, rfl, by decide +kernel, rfl, by decide +kernel, by decide +kernel⟩
def N__law_books : List Str := ["_law_plans", "_law_sorts", "_law_heaps", "_law_last"]
theorem sc__law_books : FnScope N__law_books ["_law_plans"] (defScope s__law_books) := ⟨rfl, rfl, rfl, by decide +kernel, rfl, by decide +kernel, by decide +kernel⟩
def N__law_right : List Str := ["_law_jar_here", "_law_plans", "_law_mine", "_law_rival", "_law_third", "_law_high", "_law_low", "_law_back", "_law_k", "_law_further", "_law_direct"]
theorem sc__law_right : FnScope N__law_right ["_law_jar_here"] (defScope s__law_right) := ⟨rfl, rfl, rfl, by decide +kernel, rfl, by decide +kernel, by decide +kernel⟩
def N_law : List Str := ["_law_cells", "_law_k"]
theorem sc_law : FnScope N_law ["_law_cells"] (defScope s_law) := ⟨rfl, rfl, rfl, by decide +kernel, rfl, by decide +kernel, by decide +kernel⟩
section
variable {P : Program} {w : World} {K : PySem.W.Frag} {mg : Str → Option Value} {base : Heap}
theorem fn_is_integer (T : Tx K mg) {k : Nat} {sp : Sp} (len : ∀ vs H Q E, sp vs H Q E → vs.length = 1) (hb : ∀ (cdv : Value) (A : Around) (outer : List Env) (s : Shared) (H : Hp) (vs : List V) (Q : VK) (E : XK), Room k (A.deeper (envOfC "is_integer" (defScope s_is_integer) s.heap.objs.size (He.ga K "is_integer") cdv)) → sp vs H Q E → (∃ t, PSs (cxOf CX0 P w K mg base N_is_integer "is_integer" (defScope s_is_integer) (He.ga K "is_integer") cdv A outer s H E).nox (defBody s_is_integer) t ∧ t { nx := fun _ H1 => Q .non H1, rt := Q } (start N_is_integer vs) H)) : ∃ fd, FnOk P w K mg base CX0 (k + 1) (He.ga K "is_integer") fd ["value"] sp ∧ Binds K fd ["value"] [] ∧ PySem.W.keepIn K (.ref (He.ga K "is_integer")) = true := by
  obtain ⟨fd, F⟩ := T.s.def_ ix_is_integer (d := d_is_integer)
  exact ⟨fd, F.ok sc_is_integer len hb, F.binds fun _ _ _ _ _ _ us hl => match us, hl with | [_], _ => rfl, F.kp⟩
theorem mk_is_integer (T : Tx K mg) {k : Nat} {sp : Sp} (h : ∃ fd, FnOk P w K mg base CX0 (k + 1) (He.ga K "is_integer") fd ["value"] sp ∧ Binds K fd ["value"] [] ∧ PySem.W.keepIn K (.ref (He.ga K "is_integer")) = true) : C8.Cal P w K mg base (k + 1) "is_integer" sp [] := by
  obtain ⟨fd, F, b, kp⟩ := h
  exact ⟨_, fd, _, [], F, T.glo 0, kp, b, .nil⟩
theorem fn_is_between (T : Tx K mg) {k : Nat} {sp : Sp} (len : ∀ vs H Q E, sp vs H Q E → vs.length = 3) (hb : ∀ (cdv : Value) (A : Around) (outer : List Env) (s : Shared) (H : Hp) (vs : List V) (Q : VK) (E : XK), Room k (A.deeper (envOfC "is_between" (defScope s_is_between) s.heap.objs.size (He.ga K "is_between") cdv)) → sp vs H Q E → (∃ t, PSs (cxOf CX0 P w K mg base N_is_between "is_between" (defScope s_is_between) (He.ga K "is_between") cdv A outer s H E).nox (defBody s_is_between) t ∧ t { nx := fun _ H1 => Q .non H1, rt := Q } (start N_is_between vs) H)) : ∃ fd, FnOk P w K mg base CX0 (k + 1) (He.ga K "is_between") fd ["value", "low", "high"] sp ∧ Binds K fd ["value", "low", "high"] [] ∧ PySem.W.keepIn K (.ref (He.ga K "is_between")) = true := by
  obtain ⟨fd, F⟩ := T.s.def_ ix_is_between (d := d_is_between)
  exact ⟨fd, F.ok sc_is_between len hb, F.binds fun _ _ _ _ _ _ us hl => match us, hl with | [_, _, _], _ => rfl, F.kp⟩
theorem mk_is_between (T : Tx K mg) {k : Nat} {sp : Sp} (h : ∃ fd, FnOk P w K mg base CX0 (k + 1) (He.ga K "is_between") fd ["value", "low", "high"] sp ∧ Binds K fd ["value", "low", "high"] [] ∧ PySem.W.keepIn K (.ref (He.ga K "is_between")) = true) : C8.Cal P w K mg base (k + 1) "is_between" sp [] := by
  obtain ⟨fd, F, b, kp⟩ := h
  exact ⟨_, fd, _, [], F, T.glo 1, kp, b, .nil⟩
theorem fn_check_number (T : Tx K mg) {k : Nat} {sp : Sp} (len : ∀ vs H Q E, sp vs H Q E → vs.length = 3) (hb : ∀ (cdv : Value) (A : Around) (outer : List Env) (s : Shared) (H : Hp) (vs : List V) (Q : VK) (E : XK), Room k (A.deeper (envOfC "check_number" (defScope s_check_number) s.heap.objs.size (He.ga K "check_number") cdv)) → sp vs H Q E → (∃ t, PSs (cxOf CX0 P w K mg base N_check_number "check_number" (defScope s_check_number) (He.ga K "check_number") cdv A outer s H E).nox (defBody s_check_number) t ∧ t { nx := fun _ H1 => Q .non H1, rt := Q } (start N_check_number vs) H)) : ∃ fd, FnOk P w K mg base CX0 (k + 1) (He.ga K "check_number") fd ["value", "low", "high"] sp ∧ Binds K fd ["value", "low", "high"] [] ∧ PySem.W.keepIn K (.ref (He.ga K "check_number")) = true := by
  obtain ⟨fd, F⟩ := T.s.def_ ix_check_number (d := d_check_number)
  exact ⟨fd, F.ok sc_check_number len hb, F.binds fun _ _ _ _ _ _ us hl => match us, hl with | [_, _, _], _ => rfl, F.kp⟩
theorem mk_check_number (T : Tx K mg) {k : Nat} {sp : Sp} (h : ∃ fd, FnOk P w K mg base CX0 (k + 1) (He.ga K "check_number") fd ["value", "low", "high"] sp ∧ Binds K fd ["value", "low", "high"] [] ∧ PySem.W.keepIn K (.ref (He.ga K "check_number")) = true) : C8.Cal P w K mg base (k + 1) "check_number" sp [] := by
  obtain ⟨fd, F, b, kp⟩ := h
  exact ⟨_, fd, _, [], F, T.glo 2, kp, b, .nil⟩
theorem fn_is_name (T : Tx K mg) {k : Nat} {sp : Sp} (len : ∀ vs H Q E, sp vs H Q E → vs.length = 1) (hb : ∀ (cdv : Value) (A : Around) (outer : List Env) (s : Shared) (H : Hp) (vs : List V) (Q : VK) (E : XK), Room k (A.deeper (envOfC "is_name" (defScope s_is_name) s.heap.objs.size (He.ga K "is_name") cdv)) → sp vs H Q E → (∃ t, PSs (cxOf CX0 P w K mg base N_is_name "is_name" (defScope s_is_name) (He.ga K "is_name") cdv A outer s H E).nox (defBody s_is_name) t ∧ t { nx := fun _ H1 => Q .non H1, rt := Q } (start N_is_name vs) H)) : ∃ fd, FnOk P w K mg base CX0 (k + 1) (He.ga K "is_name") fd ["value"] sp ∧ Binds K fd ["value"] [] ∧ PySem.W.keepIn K (.ref (He.ga K "is_name")) = true := by
  obtain ⟨fd, F⟩ := T.s.def_ ix_is_name (d := d_is_name)
  exact ⟨fd, F.ok sc_is_name len hb, F.binds fun _ _ _ _ _ _ us hl => match us, hl with | [_], _ => rfl, F.kp⟩
theorem mk_is_name (T : Tx K mg) {k : Nat} {sp : Sp} (h : ∃ fd, FnOk P w K mg base CX0 (k + 1) (He.ga K "is_name") fd ["value"] sp ∧ Binds K fd ["value"] [] ∧ PySem.W.keepIn K (.ref (He.ga K "is_name")) = true) : C8.Cal P w K mg base (k + 1) "is_name" sp [] := by
  obtain ⟨fd, F, b, kp⟩ := h
  exact ⟨_, fd, _, [], F, T.glo 3, kp, b, .nil⟩
theorem fn_common_divisor (T : Tx K mg) {k : Nat} {sp : Sp} (len : ∀ vs H Q E, sp vs H Q E → vs.length = 2) (hb : ∀ (cdv : Value) (A : Around) (outer : List Env) (s : Shared) (H : Hp) (vs : List V) (Q : VK) (E : XK), Room k (A.deeper (envOfC "common_divisor" (defScope s_common_divisor) s.heap.objs.size (He.ga K "common_divisor") cdv)) → sp vs H Q E → (∃ t, PSs (cxOf CX0 P w K mg base N_common_divisor "common_divisor" (defScope s_common_divisor) (He.ga K "common_divisor") cdv A outer s H E).nox (defBody s_common_divisor) t ∧ t { nx := fun _ H1 => Q .non H1, rt := Q } (start N_common_divisor vs) H)) : ∃ fd, FnOk P w K mg base CX0 (k + 1) (He.ga K "common_divisor") fd ["one", "other"] sp ∧ Binds K fd ["one", "other"] [] ∧ PySem.W.keepIn K (.ref (He.ga K "common_divisor")) = true := by
  obtain ⟨fd, F⟩ := T.s.def_ ix_common_divisor (d := d_common_divisor)
  exact ⟨fd, F.ok sc_common_divisor len hb, F.binds fun _ _ _ _ _ _ us hl => match us, hl with | [_, _], _ => rfl, F.kp⟩
theorem mk_common_divisor (T : Tx K mg) {k : Nat} {sp : Sp} (h : ∃ fd, FnOk P w K mg base CX0 (k + 1) (He.ga K "common_divisor") fd ["one", "other"] sp ∧ Binds K fd ["one", "other"] [] ∧ PySem.W.keepIn K (.ref (He.ga K "common_divisor")) = true) : C8.Cal P w K mg base (k + 1) "common_divisor" sp [] := by
  obtain ⟨fd, F, b, kp⟩ := h
  exact ⟨_, fd, _, [], F, T.glo 4, kp, b, .nil⟩
theorem fn_common_multiple (T : Tx K mg) {k : Nat} {sp : Sp} (len : ∀ vs H Q E, sp vs H Q E → vs.length = 2) (hb : ∀ (cdv : Value) (A : Around) (outer : List Env) (s : Shared) (H : Hp) (vs : List V) (Q : VK) (E : XK), Room k (A.deeper (envOfC "common_multiple" (defScope s_common_multiple) s.heap.objs.size (He.ga K "common_multiple") cdv)) → sp vs H Q E → (∃ t, PSs (cxOf CX0 P w K mg base N_common_multiple "common_multiple" (defScope s_common_multiple) (He.ga K "common_multiple") cdv A outer s H E).nox (defBody s_common_multiple) t ∧ t { nx := fun _ H1 => Q .non H1, rt := Q } (start N_common_multiple vs) H)) : ∃ fd, FnOk P w K mg base CX0 (k + 1) (He.ga K "common_multiple") fd ["one", "other"] sp ∧ Binds K fd ["one", "other"] [] ∧ PySem.W.keepIn K (.ref (He.ga K "common_multiple")) = true := by
  obtain ⟨fd, F⟩ := T.s.def_ ix_common_multiple (d := d_common_multiple)
  exact ⟨fd, F.ok sc_common_multiple len hb, F.binds fun _ _ _ _ _ _ us hl => match us, hl with | [_, _], _ => rfl, F.kp⟩
theorem mk_common_multiple (T : Tx K mg) {k : Nat} {sp : Sp} (h : ∃ fd, FnOk P w K mg base CX0 (k + 1) (He.ga K "common_multiple") fd ["one", "other"] sp ∧ Binds K fd ["one", "other"] [] ∧ PySem.W.keepIn K (.ref (He.ga K "common_multiple")) = true) : C8.Cal P w K mg base (k + 1) "common_multiple" sp [] := by
  obtain ⟨fd, F, b, kp⟩ := h
  exact ⟨_, fd, _, [], F, T.glo 5, kp, b, .nil⟩
theorem fn_fraction (T : Tx K mg) {k : Nat} {sp : Sp} (len : ∀ vs H Q E, sp vs H Q E → vs.length = 2) (hb : ∀ (cdv : Value) (A : Around) (outer : List Env) (s : Shared) (H : Hp) (vs : List V) (Q : VK) (E : XK), Room k (A.deeper (envOfC "fraction" (defScope s_fraction) s.heap.objs.size (He.ga K "fraction") cdv)) → sp vs H Q E → (∃ t, PSs (cxOf CX0 P w K mg base N_fraction "fraction" (defScope s_fraction) (He.ga K "fraction") cdv A outer s H E).nox (defBody s_fraction) t ∧ t { nx := fun _ H1 => Q .non H1, rt := Q } (start N_fraction vs) H)) : ∃ fd, FnOk P w K mg base CX0 (k + 1) (He.ga K "fraction") fd ["top", "bottom"] sp ∧ Binds K fd ["top", "bottom"] [] ∧ PySem.W.keepIn K (.ref (He.ga K "fraction")) = true := by
  obtain ⟨fd, F⟩ := T.s.def_ ix_fraction (d := d_fraction)
  exact ⟨fd, F.ok sc_fraction len hb, F.binds fun _ _ _ _ _ _ us hl => match us, hl with | [_, _], _ => rfl, F.kp⟩
theorem mk_fraction (T : Tx K mg) {k : Nat} {sp : Sp} (h : ∃ fd, FnOk P w K mg base CX0 (k + 1) (He.ga K "fraction") fd ["top", "bottom"] sp ∧ Binds K fd ["top", "bottom"] [] ∧ PySem.W.keepIn K (.ref (He.ga K "fraction")) = true) : C8.Cal P w K mg base (k + 1) "fraction" sp [] := by
  obtain ⟨fd, F, b, kp⟩ := h
  exact ⟨_, fd, _, [], F, T.glo 6, kp, b, .nil⟩
theorem fn_times (T : Tx K mg) {k : Nat} {sp : Sp} (len : ∀ vs H Q E, sp vs H Q E → vs.length = 2) (hb : ∀ (cdv : Value) (A : Around) (outer : List Env) (s : Shared) (H : Hp) (vs : List V) (Q : VK) (E : XK), Room k (A.deeper (envOfC "times" (defScope s_times) s.heap.objs.size (He.ga K "times") cdv)) → sp vs H Q E → (∃ t, PSs (cxOf CX0 P w K mg base N_times "times" (defScope s_times) (He.ga K "times") cdv A outer s H E).nox (defBody s_times) t ∧ t { nx := fun _ H1 => Q .non H1, rt := Q } (start N_times vs) H)) : ∃ fd, FnOk P w K mg base CX0 (k + 1) (He.ga K "times") fd ["one", "other"] sp ∧ Binds K fd ["one", "other"] [] ∧ PySem.W.keepIn K (.ref (He.ga K "times")) = true := by
  obtain ⟨fd, F⟩ := T.s.def_ ix_times (d := d_times)
  exact ⟨fd, F.ok sc_times len hb, F.binds fun _ _ _ _ _ _ us hl => match us, hl with | [_, _], _ => rfl, F.kp⟩
theorem mk_times (T : Tx K mg) {k : Nat} {sp : Sp} (h : ∃ fd, FnOk P w K mg base CX0 (k + 1) (He.ga K "times") fd ["one", "other"] sp ∧ Binds K fd ["one", "other"] [] ∧ PySem.W.keepIn K (.ref (He.ga K "times")) = true) : C8.Cal P w K mg base (k + 1) "times" sp [] := by
  obtain ⟨fd, F, b, kp⟩ := h
  exact ⟨_, fd, _, [], F, T.glo 7, kp, b, .nil⟩
theorem fn_less (T : Tx K mg) {k : Nat} {sp : Sp} (len : ∀ vs H Q E, sp vs H Q E → vs.length = 2) (hb : ∀ (cdv : Value) (A : Around) (outer : List Env) (s : Shared) (H : Hp) (vs : List V) (Q : VK) (E : XK), Room k (A.deeper (envOfC "less" (defScope s_less) s.heap.objs.size (He.ga K "less") cdv)) → sp vs H Q E → (∃ t, PSs (cxOf CX0 P w K mg base N_less "less" (defScope s_less) (He.ga K "less") cdv A outer s H E).nox (defBody s_less) t ∧ t { nx := fun _ H1 => Q .non H1, rt := Q } (start N_less vs) H)) : ∃ fd, FnOk P w K mg base CX0 (k + 1) (He.ga K "less") fd ["one", "other"] sp ∧ Binds K fd ["one", "other"] [] ∧ PySem.W.keepIn K (.ref (He.ga K "less")) = true := by
  obtain ⟨fd, F⟩ := T.s.def_ ix_less (d := d_less)
  exact ⟨fd, F.ok sc_less len hb, F.binds fun _ _ _ _ _ _ us hl => match us, hl with | [_, _], _ => rfl, F.kp⟩
theorem mk_less (T : Tx K mg) {k : Nat} {sp : Sp} (h : ∃ fd, FnOk P w K mg base CX0 (k + 1) (He.ga K "less") fd ["one", "other"] sp ∧ Binds K fd ["one", "other"] [] ∧ PySem.W.keepIn K (.ref (He.ga K "less")) = true) : C8.Cal P w K mg base (k + 1) "less" sp [] := by
  obtain ⟨fd, F, b, kp⟩ := h
  exact ⟨_, fd, _, [], F, T.glo 8, kp, b, .nil⟩
theorem fn_is_step (T : Tx K mg) {k : Nat} {sp : Sp} (len : ∀ vs H Q E, sp vs H Q E → vs.length = 1) (hb : ∀ (cdv : Value) (A : Around) (outer : List Env) (s : Shared) (H : Hp) (vs : List V) (Q : VK) (E : XK), Room k (A.deeper (envOfC "is_step" (defScope s_is_step) s.heap.objs.size (He.ga K "is_step") cdv)) → sp vs H Q E → (∃ t, PSs (cxOf CX0 P w K mg base N_is_step "is_step" (defScope s_is_step) (He.ga K "is_step") cdv A outer s H E).nox (defBody s_is_step) t ∧ t { nx := fun _ H1 => Q .non H1, rt := Q } (start N_is_step vs) H)) : ∃ fd, FnOk P w K mg base CX0 (k + 1) (He.ga K "is_step") fd ["value"] sp ∧ Binds K fd ["value"] [] ∧ PySem.W.keepIn K (.ref (He.ga K "is_step")) = true := by
  obtain ⟨fd, F⟩ := T.s.def_ ix_is_step (d := d_is_step)
  exact ⟨fd, F.ok sc_is_step len hb, F.binds fun _ _ _ _ _ _ us hl => match us, hl with | [_], _ => rfl, F.kp⟩
theorem mk_is_step (T : Tx K mg) {k : Nat} {sp : Sp} (h : ∃ fd, FnOk P w K mg base CX0 (k + 1) (He.ga K "is_step") fd ["value"] sp ∧ Binds K fd ["value"] [] ∧ PySem.W.keepIn K (.ref (He.ga K "is_step")) = true) : C8.Cal P w K mg base (k + 1) "is_step" sp [] := by
  obtain ⟨fd, F, b, kp⟩ := h
  exact ⟨_, fd, _, [], F, T.glo 9, kp, b, .nil⟩
theorem fn_wrong_step (T : Tx K mg) {k : Nat} {sp : Sp} (len : ∀ vs H Q E, sp vs H Q E → vs.length = 1) (hb : ∀ (cdv : Value) (A : Around) (outer : List Env) (s : Shared) (H : Hp) (vs : List V) (Q : VK) (E : XK), Room k (A.deeper (envOfC "wrong_step" (defScope s_wrong_step) s.heap.objs.size (He.ga K "wrong_step") cdv)) → sp vs H Q E → (∃ t, PSs (cxOf CX0 P w K mg base N_wrong_step "wrong_step" (defScope s_wrong_step) (He.ga K "wrong_step") cdv A outer s H E).nox (defBody s_wrong_step) t ∧ t { nx := fun _ H1 => Q .non H1, rt := Q } (start N_wrong_step vs) H)) : ∃ fd, FnOk P w K mg base CX0 (k + 1) (He.ga K "wrong_step") fd ["value"] sp ∧ Binds K fd ["value"] [] ∧ PySem.W.keepIn K (.ref (He.ga K "wrong_step")) = true := by
  obtain ⟨fd, F⟩ := T.s.def_ ix_wrong_step (d := d_wrong_step)
  exact ⟨fd, F.ok sc_wrong_step len hb, F.binds fun _ _ _ _ _ _ us hl => match us, hl with | [_], _ => rfl, F.kp⟩
theorem mk_wrong_step (T : Tx K mg) {k : Nat} {sp : Sp} (h : ∃ fd, FnOk P w K mg base CX0 (k + 1) (He.ga K "wrong_step") fd ["value"] sp ∧ Binds K fd ["value"] [] ∧ PySem.W.keepIn K (.ref (He.ga K "wrong_step")) = true) : C8.Cal P w K mg base (k + 1) "wrong_step" sp [] := by
  obtain ⟨fd, F, b, kp⟩ := h
  exact ⟨_, fd, _, [], F, T.glo 10, kp, b, .nil⟩
theorem fn_is_row_of_steps (T : Tx K mg) {k : Nat} {sp : Sp} (len : ∀ vs H Q E, sp vs H Q E → vs.length = 1) (hb : ∀ (cdv : Value) (A : Around) (outer : List Env) (s : Shared) (H : Hp) (vs : List V) (Q : VK) (E : XK), Room k (A.deeper (envOfC "is_row_of_steps" (defScope s_is_row_of_steps) s.heap.objs.size (He.ga K "is_row_of_steps") cdv)) → sp vs H Q E → (∃ t, PSs (cxOf CX0 P w K mg base N_is_row_of_steps "is_row_of_steps" (defScope s_is_row_of_steps) (He.ga K "is_row_of_steps") cdv A outer s H E).nox (defBody s_is_row_of_steps) t ∧ t { nx := fun _ H1 => Q .non H1, rt := Q } (start N_is_row_of_steps vs) H)) : ∃ fd, FnOk P w K mg base CX0 (k + 1) (He.ga K "is_row_of_steps") fd ["value"] sp ∧ Binds K fd ["value"] [] ∧ PySem.W.keepIn K (.ref (He.ga K "is_row_of_steps")) = true := by
  obtain ⟨fd, F⟩ := T.s.def_ ix_is_row_of_steps (d := d_is_row_of_steps)
  exact ⟨fd, F.ok sc_is_row_of_steps len hb, F.binds fun _ _ _ _ _ _ us hl => match us, hl with | [_], _ => rfl, F.kp⟩
theorem mk_is_row_of_steps (T : Tx K mg) {k : Nat} {sp : Sp} (h : ∃ fd, FnOk P w K mg base CX0 (k + 1) (He.ga K "is_row_of_steps") fd ["value"] sp ∧ Binds K fd ["value"] [] ∧ PySem.W.keepIn K (.ref (He.ga K "is_row_of_steps")) = true) : C8.Cal P w K mg base (k + 1) "is_row_of_steps" sp [] := by
  obtain ⟨fd, F, b, kp⟩ := h
  exact ⟨_, fd, _, [], F, T.glo 11, kp, b, .nil⟩
theorem fn_rounded (T : Tx K mg) {k : Nat} {sp : Sp} (len : ∀ vs H Q E, sp vs H Q E → vs.length = 3) (hb : ∀ (cdv : Value) (A : Around) (outer : List Env) (s : Shared) (H : Hp) (vs : List V) (Q : VK) (E : XK), Room k (A.deeper (envOfC "rounded" (defScope s_rounded) s.heap.objs.size (He.ga K "rounded") cdv)) → sp vs H Q E → (∃ t, PSs (cxOf CX0 P w K mg base N_rounded "rounded" (defScope s_rounded) (He.ga K "rounded") cdv A outer s H E).nox (defBody s_rounded) t ∧ t { nx := fun _ H1 => Q .non H1, rt := Q } (start N_rounded vs) H)) : ∃ fd, FnOk P w K mg base CX0 (k + 1) (He.ga K "rounded") fd ["top", "bottom", "way"] sp ∧ Binds K fd ["top", "bottom", "way"] [] ∧ PySem.W.keepIn K (.ref (He.ga K "rounded")) = true := by
  obtain ⟨fd, F⟩ := T.s.def_ ix_rounded (d := d_rounded)
  exact ⟨fd, F.ok sc_rounded len hb, F.binds fun _ _ _ _ _ _ us hl => match us, hl with | [_, _, _], _ => rfl, F.kp⟩
theorem mk_rounded (T : Tx K mg) {k : Nat} {sp : Sp} (h : ∃ fd, FnOk P w K mg base CX0 (k + 1) (He.ga K "rounded") fd ["top", "bottom", "way"] sp ∧ Binds K fd ["top", "bottom", "way"] [] ∧ PySem.W.keepIn K (.ref (He.ga K "rounded")) = true) : C8.Cal P w K mg base (k + 1) "rounded" sp [] := by
  obtain ⟨fd, F, b, kp⟩ := h
  exact ⟨_, fd, _, [], F, T.glo 12, kp, b, .nil⟩
theorem fn_led (T : Tx K mg) {k : Nat} {sp : Sp} (len : ∀ vs H Q E, sp vs H Q E → vs.length = 2) (hb : ∀ (cdv : Value) (A : Around) (outer : List Env) (s : Shared) (H : Hp) (vs : List V) (Q : VK) (E : XK), Room k (A.deeper (envOfC "led" (defScope s_led) s.heap.objs.size (He.ga K "led") cdv)) → sp vs H Q E → (∃ t, PSs (cxOf CX0 P w K mg base N_led "led" (defScope s_led) (He.ga K "led") cdv A outer s H E).nox (defBody s_led) t ∧ t { nx := fun _ H1 => Q .non H1, rt := Q } (start N_led vs) H)) : ∃ fd, FnOk P w K mg base CX0 (k + 1) (He.ga K "led") fd ["steps", "value"] sp ∧ Binds K fd ["steps", "value"] [] ∧ PySem.W.keepIn K (.ref (He.ga K "led")) = true := by
  obtain ⟨fd, F⟩ := T.s.def_ ix_led (d := d_led)
  exact ⟨fd, F.ok sc_led len hb, F.binds fun _ _ _ _ _ _ us hl => match us, hl with | [_, _], _ => rfl, F.kp⟩
theorem mk_led (T : Tx K mg) {k : Nat} {sp : Sp} (h : ∃ fd, FnOk P w K mg base CX0 (k + 1) (He.ga K "led") fd ["steps", "value"] sp ∧ Binds K fd ["steps", "value"] [] ∧ PySem.W.keepIn K (.ref (He.ga K "led")) = true) : C8.Cal P w K mg base (k + 1) "led" sp [] := by
  obtain ⟨fd, F, b, kp⟩ := h
  exact ⟨_, fd, _, [], F, T.glo 13, kp, b, .nil⟩
theorem fn_rate_of (T : Tx K mg) {k : Nat} {sp : Sp} (len : ∀ vs H Q E, sp vs H Q E → vs.length = 1) (hb : ∀ (cdv : Value) (A : Around) (outer : List Env) (s : Shared) (H : Hp) (vs : List V) (Q : VK) (E : XK), Room k (A.deeper (envOfC "rate_of" (defScope s_rate_of) s.heap.objs.size (He.ga K "rate_of") cdv)) → sp vs H Q E → (∃ t, PSs (cxOf CX0 P w K mg base N_rate_of "rate_of" (defScope s_rate_of) (He.ga K "rate_of") cdv A outer s H E).nox (defBody s_rate_of) t ∧ t { nx := fun _ H1 => Q .non H1, rt := Q } (start N_rate_of vs) H)) : ∃ fd, FnOk P w K mg base CX0 (k + 1) (He.ga K "rate_of") fd ["steps"] sp ∧ Binds K fd ["steps"] [] ∧ PySem.W.keepIn K (.ref (He.ga K "rate_of")) = true := by
  obtain ⟨fd, F⟩ := T.s.def_ ix_rate_of (d := d_rate_of)
  exact ⟨fd, F.ok sc_rate_of len hb, F.binds fun _ _ _ _ _ _ us hl => match us, hl with | [_], _ => rfl, F.kp⟩
theorem mk_rate_of (T : Tx K mg) {k : Nat} {sp : Sp} (h : ∃ fd, FnOk P w K mg base CX0 (k + 1) (He.ga K "rate_of") fd ["steps"] sp ∧ Binds K fd ["steps"] [] ∧ PySem.W.keepIn K (.ref (He.ga K "rate_of")) = true) : C8.Cal P w K mg base (k + 1) "rate_of" sp [] := by
  obtain ⟨fd, F, b, kp⟩ := h
  exact ⟨_, fd, _, [], F, T.glo 14, kp, b, .nil⟩
theorem fn_period_of (T : Tx K mg) {k : Nat} {sp : Sp} (len : ∀ vs H Q E, sp vs H Q E → vs.length = 1) (hb : ∀ (cdv : Value) (A : Around) (outer : List Env) (s : Shared) (H : Hp) (vs : List V) (Q : VK) (E : XK), Room k (A.deeper (envOfC "period_of" (defScope s_period_of) s.heap.objs.size (He.ga K "period_of") cdv)) → sp vs H Q E → (∃ t, PSs (cxOf CX0 P w K mg base N_period_of "period_of" (defScope s_period_of) (He.ga K "period_of") cdv A outer s H E).nox (defBody s_period_of) t ∧ t { nx := fun _ H1 => Q .non H1, rt := Q } (start N_period_of vs) H)) : ∃ fd, FnOk P w K mg base CX0 (k + 1) (He.ga K "period_of") fd ["steps"] sp ∧ Binds K fd ["steps"] [] ∧ PySem.W.keepIn K (.ref (He.ga K "period_of")) = true := by
  obtain ⟨fd, F⟩ := T.s.def_ ix_period_of (d := d_period_of)
  exact ⟨fd, F.ok sc_period_of len hb, F.binds fun _ _ _ _ _ _ us hl => match us, hl with | [_], _ => rfl, F.kp⟩
theorem mk_period_of (T : Tx K mg) {k : Nat} {sp : Sp} (h : ∃ fd, FnOk P w K mg base CX0 (k + 1) (He.ga K "period_of") fd ["steps"] sp ∧ Binds K fd ["steps"] [] ∧ PySem.W.keepIn K (.ref (He.ga K "period_of")) = true) : C8.Cal P w K mg base (k + 1) "period_of" sp [] := by
  obtain ⟨fd, F, b, kp⟩ := h
  exact ⟨_, fd, _, [], F, T.glo 15, kp, b, .nil⟩
theorem fn_text_of_step (T : Tx K mg) {k : Nat} {sp : Sp} (len : ∀ vs H Q E, sp vs H Q E → vs.length = 1) (hb : ∀ (cdv : Value) (A : Around) (outer : List Env) (s : Shared) (H : Hp) (vs : List V) (Q : VK) (E : XK), Room k (A.deeper (envOfC "text_of_step" (defScope s_text_of_step) s.heap.objs.size (He.ga K "text_of_step") cdv)) → sp vs H Q E → (∃ t, PSs (cxOf CX0 P w K mg base N_text_of_step "text_of_step" (defScope s_text_of_step) (He.ga K "text_of_step") cdv A outer s H E).nox (defBody s_text_of_step) t ∧ t { nx := fun _ H1 => Q .non H1, rt := Q } (start N_text_of_step vs) H)) : ∃ fd, FnOk P w K mg base CX0 (k + 1) (He.ga K "text_of_step") fd ["step"] sp ∧ Binds K fd ["step"] [] ∧ PySem.W.keepIn K (.ref (He.ga K "text_of_step")) = true := by
  obtain ⟨fd, F⟩ := T.s.def_ ix_text_of_step (d := d_text_of_step)
  exact ⟨fd, F.ok sc_text_of_step len hb, F.binds fun _ _ _ _ _ _ us hl => match us, hl with | [_], _ => rfl, F.kp⟩
theorem mk_text_of_step (T : Tx K mg) {k : Nat} {sp : Sp} (h : ∃ fd, FnOk P w K mg base CX0 (k + 1) (He.ga K "text_of_step") fd ["step"] sp ∧ Binds K fd ["step"] [] ∧ PySem.W.keepIn K (.ref (He.ga K "text_of_step")) = true) : C8.Cal P w K mg base (k + 1) "text_of_step" sp [] := by
  obtain ⟨fd, F, b, kp⟩ := h
  exact ⟨_, fd, _, [], F, T.glo 16, kp, b, .nil⟩
theorem fn_text_of_steps (T : Tx K mg) {k : Nat} {sp : Sp} (len : ∀ vs H Q E, sp vs H Q E → vs.length = 1) (hb : ∀ (cdv : Value) (A : Around) (outer : List Env) (s : Shared) (H : Hp) (vs : List V) (Q : VK) (E : XK), Room k (A.deeper (envOfC "text_of_steps" (defScope s_text_of_steps) s.heap.objs.size (He.ga K "text_of_steps") cdv)) → sp vs H Q E → (∃ t, PSs (cxOf CX0 P w K mg base N_text_of_steps "text_of_steps" (defScope s_text_of_steps) (He.ga K "text_of_steps") cdv A outer s H E).nox (defBody s_text_of_steps) t ∧ t { nx := fun _ H1 => Q .non H1, rt := Q } (start N_text_of_steps vs) H)) : ∃ fd, FnOk P w K mg base CX0 (k + 1) (He.ga K "text_of_steps") fd ["steps"] sp ∧ Binds K fd ["steps"] [] ∧ PySem.W.keepIn K (.ref (He.ga K "text_of_steps")) = true := by
  obtain ⟨fd, F⟩ := T.s.def_ ix_text_of_steps (d := d_text_of_steps)
  exact ⟨fd, F.ok sc_text_of_steps len hb, F.binds fun _ _ _ _ _ _ us hl => match us, hl with | [_], _ => rfl, F.kp⟩
theorem mk_text_of_steps (T : Tx K mg) {k : Nat} {sp : Sp} (h : ∃ fd, FnOk P w K mg base CX0 (k + 1) (He.ga K "text_of_steps") fd ["steps"] sp ∧ Binds K fd ["steps"] [] ∧ PySem.W.keepIn K (.ref (He.ga K "text_of_steps")) = true) : C8.Cal P w K mg base (k + 1) "text_of_steps" sp [] := by
  obtain ⟨fd, F, b, kp⟩ := h
  exact ⟨_, fd, _, [], F, T.glo 17, kp, b, .nil⟩
theorem fn_is_kind (T : Tx K mg) {k : Nat} {sp : Sp} (len : ∀ vs H Q E, sp vs H Q E → vs.length = 1) (hb : ∀ (cdv : Value) (A : Around) (outer : List Env) (s : Shared) (H : Hp) (vs : List V) (Q : VK) (E : XK), Room k (A.deeper (envOfC "is_kind" (defScope s_is_kind) s.heap.objs.size (He.ga K "is_kind") cdv)) → sp vs H Q E → (∃ t, PSs (cxOf CX0 P w K mg base N_is_kind "is_kind" (defScope s_is_kind) (He.ga K "is_kind") cdv A outer s H E).nox (defBody s_is_kind) t ∧ t { nx := fun _ H1 => Q .non H1, rt := Q } (start N_is_kind vs) H)) : ∃ fd, FnOk P w K mg base CX0 (k + 1) (He.ga K "is_kind") fd ["value"] sp ∧ Binds K fd ["value"] [] ∧ PySem.W.keepIn K (.ref (He.ga K "is_kind")) = true := by
  obtain ⟨fd, F⟩ := T.s.def_ ix_is_kind (d := d_is_kind)
  exact ⟨fd, F.ok sc_is_kind len hb, F.binds fun _ _ _ _ _ _ us hl => match us, hl with | [_], _ => rfl, F.kp⟩
theorem mk_is_kind (T : Tx K mg) {k : Nat} {sp : Sp} (h : ∃ fd, FnOk P w K mg base CX0 (k + 1) (He.ga K "is_kind") fd ["value"] sp ∧ Binds K fd ["value"] [] ∧ PySem.W.keepIn K (.ref (He.ga K "is_kind")) = true) : C8.Cal P w K mg base (k + 1) "is_kind" sp [] := by
  obtain ⟨fd, F, b, kp⟩ := h
  exact ⟨_, fd, _, [], F, T.glo 18, kp, b, .nil⟩
theorem fn_check_kinds (T : Tx K mg) {k : Nat} {sp : Sp} (len : ∀ vs H Q E, sp vs H Q E → vs.length = 1) (hb : ∀ (cdv : Value) (A : Around) (outer : List Env) (s : Shared) (H : Hp) (vs : List V) (Q : VK) (E : XK), Room k (A.deeper (envOfC "check_kinds" (defScope s_check_kinds) s.heap.objs.size (He.ga K "check_kinds") cdv)) → sp vs H Q E → (∃ t, PSs (cxOf CX0 P w K mg base N_check_kinds "check_kinds" (defScope s_check_kinds) (He.ga K "check_kinds") cdv A outer s H E).nox (defBody s_check_kinds) t ∧ t { nx := fun _ H1 => Q .non H1, rt := Q } (start N_check_kinds vs) H)) : ∃ fd, FnOk P w K mg base CX0 (k + 1) (He.ga K "check_kinds") fd ["kinds"] sp ∧ Binds K fd ["kinds"] [] ∧ PySem.W.keepIn K (.ref (He.ga K "check_kinds")) = true := by
  obtain ⟨fd, F⟩ := T.s.def_ ix_check_kinds (d := d_check_kinds)
  exact ⟨fd, F.ok sc_check_kinds len hb, F.binds fun _ _ _ _ _ _ us hl => match us, hl with | [_], _ => rfl, F.kp⟩
theorem mk_check_kinds (T : Tx K mg) {k : Nat} {sp : Sp} (h : ∃ fd, FnOk P w K mg base CX0 (k + 1) (He.ga K "check_kinds") fd ["kinds"] sp ∧ Binds K fd ["kinds"] [] ∧ PySem.W.keepIn K (.ref (He.ga K "check_kinds")) = true) : C8.Cal P w K mg base (k + 1) "check_kinds" sp [] := by
  obtain ⟨fd, F, b, kp⟩ := h
  exact ⟨_, fd, _, [], F, T.glo 19, kp, b, .nil⟩
theorem fn_check_groups (T : Tx K mg) {k : Nat} {sp : Sp} (len : ∀ vs H Q E, sp vs H Q E → vs.length = 1) (hb : ∀ (cdv : Value) (A : Around) (outer : List Env) (s : Shared) (H : Hp) (vs : List V) (Q : VK) (E : XK), Room k (A.deeper (envOfC "check_groups" (defScope s_check_groups) s.heap.objs.size (He.ga K "check_groups") cdv)) → sp vs H Q E → (∃ t, PSs (cxOf CX0 P w K mg base N_check_groups "check_groups" (defScope s_check_groups) (He.ga K "check_groups") cdv A outer s H E).nox (defBody s_check_groups) t ∧ t { nx := fun _ H1 => Q .non H1, rt := Q } (start N_check_groups vs) H)) : ∃ fd, FnOk P w K mg base CX0 (k + 1) (He.ga K "check_groups") fd ["groups"] sp ∧ Binds K fd ["groups"] [] ∧ PySem.W.keepIn K (.ref (He.ga K "check_groups")) = true := by
  obtain ⟨fd, F⟩ := T.s.def_ ix_check_groups (d := d_check_groups)
  exact ⟨fd, F.ok sc_check_groups len hb, F.binds fun _ _ _ _ _ _ us hl => match us, hl with | [_], _ => rfl, F.kp⟩
theorem mk_check_groups (T : Tx K mg) {k : Nat} {sp : Sp} (h : ∃ fd, FnOk P w K mg base CX0 (k + 1) (He.ga K "check_groups") fd ["groups"] sp ∧ Binds K fd ["groups"] [] ∧ PySem.W.keepIn K (.ref (He.ga K "check_groups")) = true) : C8.Cal P w K mg base (k + 1) "check_groups" sp [] := by
  obtain ⟨fd, F, b, kp⟩ := h
  exact ⟨_, fd, _, [], F, T.glo 20, kp, b, .nil⟩
theorem fn_check_places (T : Tx K mg) {k : Nat} {sp : Sp} (len : ∀ vs H Q E, sp vs H Q E → vs.length = 2) (hb : ∀ (cdv : Value) (A : Around) (outer : List Env) (s : Shared) (H : Hp) (vs : List V) (Q : VK) (E : XK), Room k (A.deeper (envOfC "check_places" (defScope s_check_places) s.heap.objs.size (He.ga K "check_places") cdv)) → sp vs H Q E → (∃ t, PSs (cxOf CX0 P w K mg base N_check_places "check_places" (defScope s_check_places) (He.ga K "check_places") cdv A outer s H E).nox (defBody s_check_places) t ∧ t { nx := fun _ H1 => Q .non H1, rt := Q } (start N_check_places vs) H)) : ∃ fd, FnOk P w K mg base CX0 (k + 1) (He.ga K "check_places") fd ["kinds", "many"] sp ∧ Binds K fd ["kinds", "many"] [] ∧ PySem.W.keepIn K (.ref (He.ga K "check_places")) = true := by
  obtain ⟨fd, F⟩ := T.s.def_ ix_check_places (d := d_check_places)
  exact ⟨fd, F.ok sc_check_places len hb, F.binds fun _ _ _ _ _ _ us hl => match us, hl with | [_, _], _ => rfl, F.kp⟩
theorem mk_check_places (T : Tx K mg) {k : Nat} {sp : Sp} (h : ∃ fd, FnOk P w K mg base CX0 (k + 1) (He.ga K "check_places") fd ["kinds", "many"] sp ∧ Binds K fd ["kinds", "many"] [] ∧ PySem.W.keepIn K (.ref (He.ga K "check_places")) = true) : C8.Cal P w K mg base (k + 1) "check_places" sp [] := by
  obtain ⟨fd, F, b, kp⟩ := h
  exact ⟨_, fd, _, [], F, T.glo 21, kp, b, .nil⟩
theorem fn_check_whole (T : Tx K mg) {k : Nat} {sp : Sp} (len : ∀ vs H Q E, sp vs H Q E → vs.length = 1) (hb : ∀ (cdv : Value) (A : Around) (outer : List Env) (s : Shared) (H : Hp) (vs : List V) (Q : VK) (E : XK), Room k (A.deeper (envOfC "check_whole" (defScope s_check_whole) s.heap.objs.size (He.ga K "check_whole") cdv)) → sp vs H Q E → (∃ t, PSs (cxOf CX0 P w K mg base N_check_whole "check_whole" (defScope s_check_whole) (He.ga K "check_whole") cdv A outer s H E).nox (defBody s_check_whole) t ∧ t { nx := fun _ H1 => Q .non H1, rt := Q } (start N_check_whole vs) H)) : ∃ fd, FnOk P w K mg base CX0 (k + 1) (He.ga K "check_whole") fd ["whole"] sp ∧ Binds K fd ["whole"] [] ∧ PySem.W.keepIn K (.ref (He.ga K "check_whole")) = true := by
  obtain ⟨fd, F⟩ := T.s.def_ ix_check_whole (d := d_check_whole)
  exact ⟨fd, F.ok sc_check_whole len hb, F.binds fun _ _ _ _ _ _ us hl => match us, hl with | [_], _ => rfl, F.kp⟩
theorem mk_check_whole (T : Tx K mg) {k : Nat} {sp : Sp} (h : ∃ fd, FnOk P w K mg base CX0 (k + 1) (He.ga K "check_whole") fd ["whole"] sp ∧ Binds K fd ["whole"] [] ∧ PySem.W.keepIn K (.ref (He.ga K "check_whole")) = true) : C8.Cal P w K mg base (k + 1) "check_whole" sp [] := by
  obtain ⟨fd, F, b, kp⟩ := h
  exact ⟨_, fd, _, [], F, T.glo 22, kp, b, .nil⟩
theorem fn_text_of (T : Tx K mg) {k : Nat} {sp : Sp} (len : ∀ vs H Q E, sp vs H Q E → vs.length = 3) (hb : ∀ (cdv : Value) (A : Around) (outer : List Env) (s : Shared) (H : Hp) (vs : List V) (Q : VK) (E : XK), Room k (A.deeper (envOfC "text_of" (defScope s_text_of) s.heap.objs.size (He.ga K "text_of") cdv)) → sp vs H Q E → (∃ t, PSs (cxOf CX0 P w K mg base N_text_of "text_of" (defScope s_text_of) (He.ga K "text_of") cdv A outer s H E).nox (defBody s_text_of) t ∧ t { nx := fun _ H1 => Q .non H1, rt := Q } (start N_text_of vs) H)) : ∃ fd, FnOk P w K mg base CX0 (k + 1) (He.ga K "text_of") fd ["kinds", "groups", "whole"] sp ∧ Binds K fd ["kinds", "groups", "whole"] [] ∧ PySem.W.keepIn K (.ref (He.ga K "text_of")) = true := by
  obtain ⟨fd, F⟩ := T.s.def_ ix_text_of (d := d_text_of)
  exact ⟨fd, F.ok sc_text_of len hb, F.binds fun _ _ _ _ _ _ us hl => match us, hl with | [_, _, _], _ => rfl, F.kp⟩
theorem mk_text_of (T : Tx K mg) {k : Nat} {sp : Sp} (h : ∃ fd, FnOk P w K mg base CX0 (k + 1) (He.ga K "text_of") fd ["kinds", "groups", "whole"] sp ∧ Binds K fd ["kinds", "groups", "whole"] [] ∧ PySem.W.keepIn K (.ref (He.ga K "text_of")) = true) : C8.Cal P w K mg base (k + 1) "text_of" sp [] := by
  obtain ⟨fd, F, b, kp⟩ := h
  exact ⟨_, fd, _, [], F, T.glo 23, kp, b, .nil⟩
theorem fn_is_line (T : Tx K mg) {k : Nat} {sp : Sp} (len : ∀ vs H Q E, sp vs H Q E → vs.length = 2) (hb : ∀ (cdv : Value) (A : Around) (outer : List Env) (s : Shared) (H : Hp) (vs : List V) (Q : VK) (E : XK), Room k (A.deeper (envOfC "is_line" (defScope s_is_line) s.heap.objs.size (He.ga K "is_line") cdv)) → sp vs H Q E → (∃ t, PSs (cxOf CX0 P w K mg base N_is_line "is_line" (defScope s_is_line) (He.ga K "is_line") cdv A outer s H E).nox (defBody s_is_line) t ∧ t { nx := fun _ H1 => Q .non H1, rt := Q } (start N_is_line vs) H)) : ∃ fd, FnOk P w K mg base CX0 (k + 1) (He.ga K "is_line") fd ["value", "names"] sp ∧ Binds K fd ["value", "names"] [] ∧ PySem.W.keepIn K (.ref (He.ga K "is_line")) = true := by
  obtain ⟨fd, F⟩ := T.s.def_ ix_is_line (d := d_is_line)
  exact ⟨fd, F.ok sc_is_line len hb, F.binds fun _ _ _ _ _ _ us hl => match us, hl with | [_, _], _ => rfl, F.kp⟩
theorem mk_is_line (T : Tx K mg) {k : Nat} {sp : Sp} (h : ∃ fd, FnOk P w K mg base CX0 (k + 1) (He.ga K "is_line") fd ["value", "names"] sp ∧ Binds K fd ["value", "names"] [] ∧ PySem.W.keepIn K (.ref (He.ga K "is_line")) = true) : C8.Cal P w K mg base (k + 1) "is_line" sp [] := by
  obtain ⟨fd, F, b, kp⟩ := h
  exact ⟨_, fd, _, [], F, T.glo 24, kp, b, .nil⟩
theorem fn_check_bill (T : Tx K mg) {k : Nat} {sp : Sp} (len : ∀ vs H Q E, sp vs H Q E → vs.length = 2) (hb : ∀ (cdv : Value) (A : Around) (outer : List Env) (s : Shared) (H : Hp) (vs : List V) (Q : VK) (E : XK), Room k (A.deeper (envOfC "check_bill" (defScope s_check_bill) s.heap.objs.size (He.ga K "check_bill") cdv)) → sp vs H Q E → (∃ t, PSs (cxOf CX0 P w K mg base N_check_bill "check_bill" (defScope s_check_bill) (He.ga K "check_bill") cdv A outer s H E).nox (defBody s_check_bill) t ∧ t { nx := fun _ H1 => Q .non H1, rt := Q } (start N_check_bill vs) H)) : ∃ fd, FnOk P w K mg base CX0 (k + 1) (He.ga K "check_bill") fd ["bill", "names"] sp ∧ Binds K fd ["bill", "names"] [] ∧ PySem.W.keepIn K (.ref (He.ga K "check_bill")) = true := by
  obtain ⟨fd, F⟩ := T.s.def_ ix_check_bill (d := d_check_bill)
  exact ⟨fd, F.ok sc_check_bill len hb, F.binds fun _ _ _ _ _ _ us hl => match us, hl with | [_, _], _ => rfl, F.kp⟩
theorem mk_check_bill (T : Tx K mg) {k : Nat} {sp : Sp} (h : ∃ fd, FnOk P w K mg base CX0 (k + 1) (He.ga K "check_bill") fd ["bill", "names"] sp ∧ Binds K fd ["bill", "names"] [] ∧ PySem.W.keepIn K (.ref (He.ga K "check_bill")) = true) : C8.Cal P w K mg base (k + 1) "check_bill" sp [] := by
  obtain ⟨fd, F, b, kp⟩ := h
  exact ⟨_, fd, _, [], F, T.glo 25, kp, b, .nil⟩
theorem fn_Book_init (T : Tx K mg) {k : Nat} {sp : Sp} (len : ∀ vs H Q E, sp vs H Q E → vs.length = 4) (hb : ∀ (cdv : Value) (A : Around) (outer : List Env) (s : Shared) (H : Hp) (vs : List V) (Q : VK) (E : XK), Room k (A.deeper (envOfC "Book.__init__" (defScope s_Book_init) s.heap.objs.size (He.ma K (He.ga K "Book") "__init__") cdv)) → sp vs H Q E → (∃ t, PSs (cxOf CX0 P w K mg base N_Book_init "Book.__init__" (defScope s_Book_init) (He.ma K (He.ga K "Book") "__init__") cdv A outer s H E).nox (defBody s_Book_init) t ∧ t { nx := fun _ H1 => Q .non H1, rt := Q } (start N_Book_init vs) H)) : ∃ fd, FnOk P w K mg base CX0 (k + 1) (He.ma K (He.ga K "Book") "__init__") fd ["self", "kinds", "groups", "whole"] sp ∧ Binds K fd ["self", "kinds", "groups", "whole"] [] ∧ PySem.W.keepIn K (.ref (He.ma K (He.ga K "Book") "__init__")) = true := by
  obtain ⟨fd, F⟩ := T.s.def_ ix_Book_init (d := d_Book_init)
  exact ⟨fd, F.ok sc_Book_init len hb, F.binds fun _ _ _ _ _ _ us hl => match us, hl with | [_, _, _, _], _ => rfl, F.kp⟩
theorem mk_Book_init (T : Tx K mg) {k : Nat} {sp : Sp} (h : ∃ fd, FnOk P w K mg base CX0 (k + 1) (He.ma K (He.ga K "Book") "__init__") fd ["self", "kinds", "groups", "whole"] sp ∧ Binds K fd ["self", "kinds", "groups", "whole"] [] ∧ PySem.W.keepIn K (.ref (He.ma K (He.ga K "Book") "__init__")) = true) : C8.Mak P w K mg base (k + 1) "Book" (He.ga K "Book") sp [] := by
  obtain ⟨fd, F, b, _⟩ := h
  exact ⟨_, fd, _, [], mk_Book T, F, T.glo 26, b, .nil⟩
theorem fn_Book_kinds (T : Tx K mg) {k : Nat} {sp : Sp} (len : ∀ vs H Q E, sp vs H Q E → vs.length = 1) (hb : ∀ (cdv : Value) (A : Around) (outer : List Env) (s : Shared) (H : Hp) (vs : List V) (Q : VK) (E : XK), Room k (A.deeper (envOfC "Book.kinds" (defScope s_Book_kinds) s.heap.objs.size (gtr K "Book" "kinds") cdv)) → sp vs H Q E → (∃ t, PSs (cxOf CX0 P w K mg base N_Book_kinds "Book.kinds" (defScope s_Book_kinds) (gtr K "Book" "kinds") cdv A outer s H E).nox (defBody s_Book_kinds) t ∧ t { nx := fun _ H1 => Q .non H1, rt := Q } (start N_Book_kinds vs) H)) : ∃ fd, FnOk P w K mg base CX0 (k + 1) (gtr K "Book" "kinds") fd ["self"] sp ∧ Binds K fd ["self"] [] ∧ PySem.W.keepIn K (.ref (gtr K "Book" "kinds")) = true := by
  obtain ⟨fd, F⟩ := T.s.def_ ix_Book_kinds (d := d_Book_kinds)
  exact ⟨fd, F.ok sc_Book_kinds len hb, F.binds fun _ _ _ _ _ _ us hl => match us, hl with | [_], _ => rfl, F.kp⟩
theorem mk_Book_kinds (T : Tx K mg) {k : Nat} {sp : Sp} (h : ∃ fd, FnOk P w K mg base CX0 (k + 1) (gtr K "Book" "kinds") fd ["self"] sp ∧ Binds K fd ["self"] [] ∧ PySem.W.keepIn K (.ref (gtr K "Book" "kinds")) = true) : Lr.Prp P w K mg base (k + 1) (He.ga K "Book") "kinds" sp := by
  obtain ⟨fd, F, b, _⟩ := h
  exact ⟨_, _, fd, _, k_Book T, prop_ok (T.f 121 (f := .prop "Book" "kinds")), F, b⟩
theorem fn_Book_groups (T : Tx K mg) {k : Nat} {sp : Sp} (len : ∀ vs H Q E, sp vs H Q E → vs.length = 1) (hb : ∀ (cdv : Value) (A : Around) (outer : List Env) (s : Shared) (H : Hp) (vs : List V) (Q : VK) (E : XK), Room k (A.deeper (envOfC "Book.groups" (defScope s_Book_groups) s.heap.objs.size (gtr K "Book" "groups") cdv)) → sp vs H Q E → (∃ t, PSs (cxOf CX0 P w K mg base N_Book_groups "Book.groups" (defScope s_Book_groups) (gtr K "Book" "groups") cdv A outer s H E).nox (defBody s_Book_groups) t ∧ t { nx := fun _ H1 => Q .non H1, rt := Q } (start N_Book_groups vs) H)) : ∃ fd, FnOk P w K mg base CX0 (k + 1) (gtr K "Book" "groups") fd ["self"] sp ∧ Binds K fd ["self"] [] ∧ PySem.W.keepIn K (.ref (gtr K "Book" "groups")) = true := by
  obtain ⟨fd, F⟩ := T.s.def_ ix_Book_groups (d := d_Book_groups)
  exact ⟨fd, F.ok sc_Book_groups len hb, F.binds fun _ _ _ _ _ _ us hl => match us, hl with | [_], _ => rfl, F.kp⟩
theorem mk_Book_groups (T : Tx K mg) {k : Nat} {sp : Sp} (h : ∃ fd, FnOk P w K mg base CX0 (k + 1) (gtr K "Book" "groups") fd ["self"] sp ∧ Binds K fd ["self"] [] ∧ PySem.W.keepIn K (.ref (gtr K "Book" "groups")) = true) : Lr.Prp P w K mg base (k + 1) (He.ga K "Book") "groups" sp := by
  obtain ⟨fd, F, b, _⟩ := h
  exact ⟨_, _, fd, _, k_Book T, prop_ok (T.f 122 (f := .prop "Book" "groups")), F, b⟩
theorem fn_Book_names (T : Tx K mg) {k : Nat} {sp : Sp} (len : ∀ vs H Q E, sp vs H Q E → vs.length = 1) (hb : ∀ (cdv : Value) (A : Around) (outer : List Env) (s : Shared) (H : Hp) (vs : List V) (Q : VK) (E : XK), Room k (A.deeper (envOfC "Book.names" (defScope s_Book_names) s.heap.objs.size (gtr K "Book" "names") cdv)) → sp vs H Q E → (∃ t, PSs (cxOf CX0 P w K mg base N_Book_names "Book.names" (defScope s_Book_names) (gtr K "Book" "names") cdv A outer s H E).nox (defBody s_Book_names) t ∧ t { nx := fun _ H1 => Q .non H1, rt := Q } (start N_Book_names vs) H)) : ∃ fd, FnOk P w K mg base CX0 (k + 1) (gtr K "Book" "names") fd ["self"] sp ∧ Binds K fd ["self"] [] ∧ PySem.W.keepIn K (.ref (gtr K "Book" "names")) = true := by
  obtain ⟨fd, F⟩ := T.s.def_ ix_Book_names (d := d_Book_names)
  exact ⟨fd, F.ok sc_Book_names len hb, F.binds fun _ _ _ _ _ _ us hl => match us, hl with | [_], _ => rfl, F.kp⟩
theorem mk_Book_names (T : Tx K mg) {k : Nat} {sp : Sp} (h : ∃ fd, FnOk P w K mg base CX0 (k + 1) (gtr K "Book" "names") fd ["self"] sp ∧ Binds K fd ["self"] [] ∧ PySem.W.keepIn K (.ref (gtr K "Book" "names")) = true) : Lr.Prp P w K mg base (k + 1) (He.ga K "Book") "names" sp := by
  obtain ⟨fd, F, b, _⟩ := h
  exact ⟨_, _, fd, _, k_Book T, prop_ok (T.f 123 (f := .prop "Book" "names")), F, b⟩
theorem fn_Book_kind_at (T : Tx K mg) {k : Nat} {sp : Sp} (len : ∀ vs H Q E, sp vs H Q E → vs.length = 2) (hb : ∀ (cdv : Value) (A : Around) (outer : List Env) (s : Shared) (H : Hp) (vs : List V) (Q : VK) (E : XK), Room k (A.deeper (envOfC "Book.kind_at" (defScope s_Book_kind_at) s.heap.objs.size (He.ma K (He.ga K "Book") "kind_at") cdv)) → sp vs H Q E → (∃ t, PSs (cxOf CX0 P w K mg base N_Book_kind_at "Book.kind_at" (defScope s_Book_kind_at) (He.ma K (He.ga K "Book") "kind_at") cdv A outer s H E).nox (defBody s_Book_kind_at) t ∧ t { nx := fun _ H1 => Q .non H1, rt := Q } (start N_Book_kind_at vs) H)) : ∃ fd, FnOk P w K mg base CX0 (k + 1) (He.ma K (He.ga K "Book") "kind_at") fd ["self", "name"] sp ∧ Binds K fd ["self", "name"] [] ∧ PySem.W.keepIn K (.ref (He.ma K (He.ga K "Book") "kind_at")) = true := by
  obtain ⟨fd, F⟩ := T.s.def_ ix_Book_kind_at (d := d_Book_kind_at)
  exact ⟨fd, F.ok sc_Book_kind_at len hb, F.binds fun _ _ _ _ _ _ us hl => match us, hl with | [_, _], _ => rfl, F.kp⟩
theorem mk_Book_kind_at (T : Tx K mg) {k : Nat} {sp : Sp} (h : ∃ fd, FnOk P w K mg base CX0 (k + 1) (He.ma K (He.ga K "Book") "kind_at") fd ["self", "name"] sp ∧ Binds K fd ["self", "name"] [] ∧ PySem.W.keepIn K (.ref (He.ma K (He.ga K "Book") "kind_at")) = true) : C8.Met P w K mg base (k + 1) (He.ga K "Book") "kind_at" sp [] := by
  obtain ⟨fd, F, b, _⟩ := h
  exact ⟨_, fd, _, [], k_Book T, He.meth_ok (T.f 124 (f := .b (.meth "Book" "kind_at"))), F, b, .nil⟩
theorem fn_Book_rate (T : Tx K mg) {k : Nat} {sp : Sp} (len : ∀ vs H Q E, sp vs H Q E → vs.length = 2) (hb : ∀ (cdv : Value) (A : Around) (outer : List Env) (s : Shared) (H : Hp) (vs : List V) (Q : VK) (E : XK), Room k (A.deeper (envOfC "Book.rate" (defScope s_Book_rate) s.heap.objs.size (He.ma K (He.ga K "Book") "rate") cdv)) → sp vs H Q E → (∃ t, PSs (cxOf CX0 P w K mg base N_Book_rate "Book.rate" (defScope s_Book_rate) (He.ma K (He.ga K "Book") "rate") cdv A outer s H E).nox (defBody s_Book_rate) t ∧ t { nx := fun _ H1 => Q .non H1, rt := Q } (start N_Book_rate vs) H)) : ∃ fd, FnOk P w K mg base CX0 (k + 1) (He.ma K (He.ga K "Book") "rate") fd ["self", "name"] sp ∧ Binds K fd ["self", "name"] [] ∧ PySem.W.keepIn K (.ref (He.ma K (He.ga K "Book") "rate")) = true := by
  obtain ⟨fd, F⟩ := T.s.def_ ix_Book_rate (d := d_Book_rate)
  exact ⟨fd, F.ok sc_Book_rate len hb, F.binds fun _ _ _ _ _ _ us hl => match us, hl with | [_, _], _ => rfl, F.kp⟩
theorem mk_Book_rate (T : Tx K mg) {k : Nat} {sp : Sp} (h : ∃ fd, FnOk P w K mg base CX0 (k + 1) (He.ma K (He.ga K "Book") "rate") fd ["self", "name"] sp ∧ Binds K fd ["self", "name"] [] ∧ PySem.W.keepIn K (.ref (He.ma K (He.ga K "Book") "rate")) = true) : C8.Met P w K mg base (k + 1) (He.ga K "Book") "rate" sp [] := by
  obtain ⟨fd, F, b, _⟩ := h
  exact ⟨_, fd, _, [], k_Book T, He.meth_ok (T.f 125 (f := .b (.meth "Book" "rate"))), F, b, .nil⟩
theorem fn_Book_share (T : Tx K mg) {k : Nat} {sp : Sp} (len : ∀ vs H Q E, sp vs H Q E → vs.length = 2) (hb : ∀ (cdv : Value) (A : Around) (outer : List Env) (s : Shared) (H : Hp) (vs : List V) (Q : VK) (E : XK), Room k (A.deeper (envOfC "Book.share" (defScope s_Book_share) s.heap.objs.size (He.ma K (He.ga K "Book") "share") cdv)) → sp vs H Q E → (∃ t, PSs (cxOf CX0 P w K mg base N_Book_share "Book.share" (defScope s_Book_share) (He.ma K (He.ga K "Book") "share") cdv A outer s H E).nox (defBody s_Book_share) t ∧ t { nx := fun _ H1 => Q .non H1, rt := Q } (start N_Book_share vs) H)) : ∃ fd, FnOk P w K mg base CX0 (k + 1) (He.ma K (He.ga K "Book") "share") fd ["self", "name"] sp ∧ Binds K fd ["self", "name"] [] ∧ PySem.W.keepIn K (.ref (He.ma K (He.ga K "Book") "share")) = true := by
  obtain ⟨fd, F⟩ := T.s.def_ ix_Book_share (d := d_Book_share)
  exact ⟨fd, F.ok sc_Book_share len hb, F.binds fun _ _ _ _ _ _ us hl => match us, hl with | [_, _], _ => rfl, F.kp⟩
theorem mk_Book_share (T : Tx K mg) {k : Nat} {sp : Sp} (h : ∃ fd, FnOk P w K mg base CX0 (k + 1) (He.ma K (He.ga K "Book") "share") fd ["self", "name"] sp ∧ Binds K fd ["self", "name"] [] ∧ PySem.W.keepIn K (.ref (He.ma K (He.ga K "Book") "share")) = true) : C8.Met P w K mg base (k + 1) (He.ga K "Book") "share" sp [] := by
  obtain ⟨fd, F, b, _⟩ := h
  exact ⟨_, fd, _, [], k_Book T, He.meth_ok (T.f 126 (f := .b (.meth "Book" "share"))), F, b, .nil⟩
theorem fn_Book_period (T : Tx K mg) {k : Nat} {sp : Sp} (len : ∀ vs H Q E, sp vs H Q E → vs.length = 2) (hb : ∀ (cdv : Value) (A : Around) (outer : List Env) (s : Shared) (H : Hp) (vs : List V) (Q : VK) (E : XK), Room k (A.deeper (envOfC "Book.period" (defScope s_Book_period) s.heap.objs.size (He.ma K (He.ga K "Book") "period") cdv)) → sp vs H Q E → (∃ t, PSs (cxOf CX0 P w K mg base N_Book_period "Book.period" (defScope s_Book_period) (He.ma K (He.ga K "Book") "period") cdv A outer s H E).nox (defBody s_Book_period) t ∧ t { nx := fun _ H1 => Q .non H1, rt := Q } (start N_Book_period vs) H)) : ∃ fd, FnOk P w K mg base CX0 (k + 1) (He.ma K (He.ga K "Book") "period") fd ["self", "name"] sp ∧ Binds K fd ["self", "name"] [] ∧ PySem.W.keepIn K (.ref (He.ma K (He.ga K "Book") "period")) = true := by
  obtain ⟨fd, F⟩ := T.s.def_ ix_Book_period (d := d_Book_period)
  exact ⟨fd, F.ok sc_Book_period len hb, F.binds fun _ _ _ _ _ _ us hl => match us, hl with | [_, _], _ => rfl, F.kp⟩
theorem mk_Book_period (T : Tx K mg) {k : Nat} {sp : Sp} (h : ∃ fd, FnOk P w K mg base CX0 (k + 1) (He.ma K (He.ga K "Book") "period") fd ["self", "name"] sp ∧ Binds K fd ["self", "name"] [] ∧ PySem.W.keepIn K (.ref (He.ma K (He.ga K "Book") "period")) = true) : C8.Met P w K mg base (k + 1) (He.ga K "Book") "period" sp [] := by
  obtain ⟨fd, F, b, _⟩ := h
  exact ⟨_, fd, _, [], k_Book T, He.meth_ok (T.f 127 (f := .b (.meth "Book" "period"))), F, b, .nil⟩
theorem fn_Book_periods (T : Tx K mg) {k : Nat} {sp : Sp} (len : ∀ vs H Q E, sp vs H Q E → vs.length = 1) (hb : ∀ (cdv : Value) (A : Around) (outer : List Env) (s : Shared) (H : Hp) (vs : List V) (Q : VK) (E : XK), Room k (A.deeper (envOfC "Book.periods" (defScope s_Book_periods) s.heap.objs.size (He.ma K (He.ga K "Book") "periods") cdv)) → sp vs H Q E → (∃ t, PSs (cxOf CX0 P w K mg base N_Book_periods "Book.periods" (defScope s_Book_periods) (He.ma K (He.ga K "Book") "periods") cdv A outer s H E).nox (defBody s_Book_periods) t ∧ t { nx := fun _ H1 => Q .non H1, rt := Q } (start N_Book_periods vs) H)) : ∃ fd, FnOk P w K mg base CX0 (k + 1) (He.ma K (He.ga K "Book") "periods") fd ["self"] sp ∧ Binds K fd ["self"] [] ∧ PySem.W.keepIn K (.ref (He.ma K (He.ga K "Book") "periods")) = true := by
  obtain ⟨fd, F⟩ := T.s.def_ ix_Book_periods (d := d_Book_periods)
  exact ⟨fd, F.ok sc_Book_periods len hb, F.binds fun _ _ _ _ _ _ us hl => match us, hl with | [_], _ => rfl, F.kp⟩
theorem mk_Book_periods (T : Tx K mg) {k : Nat} {sp : Sp} (h : ∃ fd, FnOk P w K mg base CX0 (k + 1) (He.ma K (He.ga K "Book") "periods") fd ["self"] sp ∧ Binds K fd ["self"] [] ∧ PySem.W.keepIn K (.ref (He.ma K (He.ga K "Book") "periods")) = true) : C8.Met P w K mg base (k + 1) (He.ga K "Book") "periods" sp [] := by
  obtain ⟨fd, F, b, _⟩ := h
  exact ⟨_, fd, _, [], k_Book T, He.meth_ok (T.f 128 (f := .b (.meth "Book" "periods"))), F, b, .nil⟩
theorem fn_Book_size (T : Tx K mg) {k : Nat} {sp : Sp} (len : ∀ vs H Q E, sp vs H Q E → vs.length = 1) (hb : ∀ (cdv : Value) (A : Around) (outer : List Env) (s : Shared) (H : Hp) (vs : List V) (Q : VK) (E : XK), Room k (A.deeper (envOfC "Book.size" (defScope s_Book_size) s.heap.objs.size (He.ma K (He.ga K "Book") "size") cdv)) → sp vs H Q E → (∃ t, PSs (cxOf CX0 P w K mg base N_Book_size "Book.size" (defScope s_Book_size) (He.ma K (He.ga K "Book") "size") cdv A outer s H E).nox (defBody s_Book_size) t ∧ t { nx := fun _ H1 => Q .non H1, rt := Q } (start N_Book_size vs) H)) : ∃ fd, FnOk P w K mg base CX0 (k + 1) (He.ma K (He.ga K "Book") "size") fd ["self"] sp ∧ Binds K fd ["self"] [] ∧ PySem.W.keepIn K (.ref (He.ma K (He.ga K "Book") "size")) = true := by
  obtain ⟨fd, F⟩ := T.s.def_ ix_Book_size (d := d_Book_size)
  exact ⟨fd, F.ok sc_Book_size len hb, F.binds fun _ _ _ _ _ _ us hl => match us, hl with | [_], _ => rfl, F.kp⟩
theorem mk_Book_size (T : Tx K mg) {k : Nat} {sp : Sp} (h : ∃ fd, FnOk P w K mg base CX0 (k + 1) (He.ma K (He.ga K "Book") "size") fd ["self"] sp ∧ Binds K fd ["self"] [] ∧ PySem.W.keepIn K (.ref (He.ma K (He.ga K "Book") "size")) = true) : C8.Met P w K mg base (k + 1) (He.ga K "Book") "size" sp [] := by
  obtain ⟨fd, F, b, _⟩ := h
  exact ⟨_, fd, _, [], k_Book T, He.meth_ok (T.f 129 (f := .b (.meth "Book" "size"))), F, b, .nil⟩
theorem fn_Book_value (T : Tx K mg) {k : Nat} {sp : Sp} (len : ∀ vs H Q E, sp vs H Q E → vs.length = 3) (hb : ∀ (cdv : Value) (A : Around) (outer : List Env) (s : Shared) (H : Hp) (vs : List V) (Q : VK) (E : XK), Room k (A.deeper (envOfC "Book.value" (defScope s_Book_value) s.heap.objs.size (He.ma K (He.ga K "Book") "value") cdv)) → sp vs H Q E → (∃ t, PSs (cxOf CX0 P w K mg base N_Book_value "Book.value" (defScope s_Book_value) (He.ma K (He.ga K "Book") "value") cdv A outer s H E).nox (defBody s_Book_value) t ∧ t { nx := fun _ H1 => Q .non H1, rt := Q } (start N_Book_value vs) H)) : ∃ fd, FnOk P w K mg base CX0 (k + 1) (He.ma K (He.ga K "Book") "value") fd ["self", "name", "amount"] sp ∧ Binds K fd ["self", "name", "amount"] [] ∧ PySem.W.keepIn K (.ref (He.ma K (He.ga K "Book") "value")) = true := by
  obtain ⟨fd, F⟩ := T.s.def_ ix_Book_value (d := d_Book_value)
  exact ⟨fd, F.ok sc_Book_value len hb, F.binds fun _ _ _ _ _ _ us hl => match us, hl with | [_, _, _], _ => rfl, F.kp⟩
theorem mk_Book_value (T : Tx K mg) {k : Nat} {sp : Sp} (h : ∃ fd, FnOk P w K mg base CX0 (k + 1) (He.ma K (He.ga K "Book") "value") fd ["self", "name", "amount"] sp ∧ Binds K fd ["self", "name", "amount"] [] ∧ PySem.W.keepIn K (.ref (He.ma K (He.ga K "Book") "value")) = true) : C8.Met P w K mg base (k + 1) (He.ga K "Book") "value" sp [] := by
  obtain ⟨fd, F, b, _⟩ := h
  exact ⟨_, fd, _, [], k_Book T, He.meth_ok (T.f 130 (f := .b (.meth "Book" "value"))), F, b, .nil⟩
theorem fn_Book_sums (T : Tx K mg) {k : Nat} {sp : Sp} (len : ∀ vs H Q E, sp vs H Q E → vs.length = 2) (hb : ∀ (cdv : Value) (A : Around) (outer : List Env) (s : Shared) (H : Hp) (vs : List V) (Q : VK) (E : XK), Room k (A.deeper (envOfC "Book.sums" (defScope s_Book_sums) s.heap.objs.size (He.ma K (He.ga K "Book") "sums") cdv)) → sp vs H Q E → (∃ t, PSs (cxOf CX0 P w K mg base N_Book_sums "Book.sums" (defScope s_Book_sums) (He.ma K (He.ga K "Book") "sums") cdv A outer s H E).nox (defBody s_Book_sums) t ∧ t { nx := fun _ H1 => Q .non H1, rt := Q } (start N_Book_sums vs) H)) : ∃ fd, FnOk P w K mg base CX0 (k + 1) (He.ma K (He.ga K "Book") "sums") fd ["self", "bill"] sp ∧ Binds K fd ["self", "bill"] [] ∧ PySem.W.keepIn K (.ref (He.ma K (He.ga K "Book") "sums")) = true := by
  obtain ⟨fd, F⟩ := T.s.def_ ix_Book_sums (d := d_Book_sums)
  exact ⟨fd, F.ok sc_Book_sums len hb, F.binds fun _ _ _ _ _ _ us hl => match us, hl with | [_, _], _ => rfl, F.kp⟩
theorem mk_Book_sums (T : Tx K mg) {k : Nat} {sp : Sp} (h : ∃ fd, FnOk P w K mg base CX0 (k + 1) (He.ma K (He.ga K "Book") "sums") fd ["self", "bill"] sp ∧ Binds K fd ["self", "bill"] [] ∧ PySem.W.keepIn K (.ref (He.ma K (He.ga K "Book") "sums")) = true) : C8.Met P w K mg base (k + 1) (He.ga K "Book") "sums" sp [] := by
  obtain ⟨fd, F, b, _⟩ := h
  exact ⟨_, fd, _, [], k_Book T, He.meth_ok (T.f 131 (f := .b (.meth "Book" "sums"))), F, b, .nil⟩
theorem fn_Book_ask (T : Tx K mg) {k : Nat} {sp : Sp} (len : ∀ vs H Q E, sp vs H Q E → vs.length = 2) (hb : ∀ (cdv : Value) (A : Around) (outer : List Env) (s : Shared) (H : Hp) (vs : List V) (Q : VK) (E : XK), Room k (A.deeper (envOfC "Book.ask" (defScope s_Book_ask) s.heap.objs.size (He.ma K (He.ga K "Book") "ask") cdv)) → sp vs H Q E → (∃ t, PSs (cxOf CX0 P w K mg base N_Book_ask "Book.ask" (defScope s_Book_ask) (He.ma K (He.ga K "Book") "ask") cdv A outer s H E).nox (defBody s_Book_ask) t ∧ t { nx := fun _ H1 => Q .non H1, rt := Q } (start N_Book_ask vs) H)) : ∃ fd, FnOk P w K mg base CX0 (k + 1) (He.ma K (He.ga K "Book") "ask") fd ["self", "bill"] sp ∧ Binds K fd ["self", "bill"] [] ∧ PySem.W.keepIn K (.ref (He.ma K (He.ga K "Book") "ask")) = true := by
  obtain ⟨fd, F⟩ := T.s.def_ ix_Book_ask (d := d_Book_ask)
  exact ⟨fd, F.ok sc_Book_ask len hb, F.binds fun _ _ _ _ _ _ us hl => match us, hl with | [_, _], _ => rfl, F.kp⟩
theorem mk_Book_ask (T : Tx K mg) {k : Nat} {sp : Sp} (h : ∃ fd, FnOk P w K mg base CX0 (k + 1) (He.ma K (He.ga K "Book") "ask") fd ["self", "bill"] sp ∧ Binds K fd ["self", "bill"] [] ∧ PySem.W.keepIn K (.ref (He.ma K (He.ga K "Book") "ask")) = true) : C8.Met P w K mg base (k + 1) (He.ga K "Book") "ask" sp [] := by
  obtain ⟨fd, F, b, _⟩ := h
  exact ⟨_, fd, _, [], k_Book T, He.meth_ok (T.f 132 (f := .b (.meth "Book" "ask"))), F, b, .nil⟩
theorem fn_Book_ask_of_sums (T : Tx K mg) {k : Nat} {sp : Sp} (len : ∀ vs H Q E, sp vs H Q E → vs.length = 2) (hb : ∀ (cdv : Value) (A : Around) (outer : List Env) (s : Shared) (H : Hp) (vs : List V) (Q : VK) (E : XK), Room k (A.deeper (envOfC "Book.ask_of_sums" (defScope s_Book_ask_of_sums) s.heap.objs.size (He.ma K (He.ga K "Book") "ask_of_sums") cdv)) → sp vs H Q E → (∃ t, PSs (cxOf CX0 P w K mg base N_Book_ask_of_sums "Book.ask_of_sums" (defScope s_Book_ask_of_sums) (He.ma K (He.ga K "Book") "ask_of_sums") cdv A outer s H E).nox (defBody s_Book_ask_of_sums) t ∧ t { nx := fun _ H1 => Q .non H1, rt := Q } (start N_Book_ask_of_sums vs) H)) : ∃ fd, FnOk P w K mg base CX0 (k + 1) (He.ma K (He.ga K "Book") "ask_of_sums") fd ["self", "sums"] sp ∧ Binds K fd ["self", "sums"] [] ∧ PySem.W.keepIn K (.ref (He.ma K (He.ga K "Book") "ask_of_sums")) = true := by
  obtain ⟨fd, F⟩ := T.s.def_ ix_Book_ask_of_sums (d := d_Book_ask_of_sums)
  exact ⟨fd, F.ok sc_Book_ask_of_sums len hb, F.binds fun _ _ _ _ _ _ us hl => match us, hl with | [_, _], _ => rfl, F.kp⟩
theorem mk_Book_ask_of_sums (T : Tx K mg) {k : Nat} {sp : Sp} (h : ∃ fd, FnOk P w K mg base CX0 (k + 1) (He.ma K (He.ga K "Book") "ask_of_sums") fd ["self", "sums"] sp ∧ Binds K fd ["self", "sums"] [] ∧ PySem.W.keepIn K (.ref (He.ma K (He.ga K "Book") "ask_of_sums")) = true) : C8.Met P w K mg base (k + 1) (He.ga K "Book") "ask_of_sums" sp [] := by
  obtain ⟨fd, F, b, _⟩ := h
  exact ⟨_, fd, _, [], k_Book T, He.meth_ok (T.f 133 (f := .b (.meth "Book" "ask_of_sums"))), F, b, .nil⟩
theorem fn_check_book (T : Tx K mg) {k : Nat} {sp : Sp} (len : ∀ vs H Q E, sp vs H Q E → vs.length = 1) (hb : ∀ (cdv : Value) (A : Around) (outer : List Env) (s : Shared) (H : Hp) (vs : List V) (Q : VK) (E : XK), Room k (A.deeper (envOfC "check_book" (defScope s_check_book) s.heap.objs.size (He.ga K "check_book") cdv)) → sp vs H Q E → (∃ t, PSs (cxOf CX0 P w K mg base N_check_book "check_book" (defScope s_check_book) (He.ga K "check_book") cdv A outer s H E).nox (defBody s_check_book) t ∧ t { nx := fun _ H1 => Q .non H1, rt := Q } (start N_check_book vs) H)) : ∃ fd, FnOk P w K mg base CX0 (k + 1) (He.ga K "check_book") fd ["value"] sp ∧ Binds K fd ["value"] [] ∧ PySem.W.keepIn K (.ref (He.ga K "check_book")) = true := by
  obtain ⟨fd, F⟩ := T.s.def_ ix_check_book (d := d_check_book)
  exact ⟨fd, F.ok sc_check_book len hb, F.binds fun _ _ _ _ _ _ us hl => match us, hl with | [_], _ => rfl, F.kp⟩
theorem mk_check_book (T : Tx K mg) {k : Nat} {sp : Sp} (h : ∃ fd, FnOk P w K mg base CX0 (k + 1) (He.ga K "check_book") fd ["value"] sp ∧ Binds K fd ["value"] [] ∧ PySem.W.keepIn K (.ref (He.ga K "check_book")) = true) : C8.Cal P w K mg base (k + 1) "check_book" sp [] := by
  obtain ⟨fd, F, b, kp⟩ := h
  exact ⟨_, fd, _, [], F, T.glo 27, kp, b, .nil⟩
theorem fn_check_two (T : Tx K mg) {k : Nat} {sp : Sp} (len : ∀ vs H Q E, sp vs H Q E → vs.length = 2) (hb : ∀ (cdv : Value) (A : Around) (outer : List Env) (s : Shared) (H : Hp) (vs : List V) (Q : VK) (E : XK), Room k (A.deeper (envOfC "check_two" (defScope s_check_two) s.heap.objs.size (He.ga K "check_two") cdv)) → sp vs H Q E → (∃ t, PSs (cxOf CX0 P w K mg base N_check_two "check_two" (defScope s_check_two) (He.ga K "check_two") cdv A outer s H E).nox (defBody s_check_two) t ∧ t { nx := fun _ H1 => Q .non H1, rt := Q } (start N_check_two vs) H)) : ∃ fd, FnOk P w K mg base CX0 (k + 1) (He.ga K "check_two") fd ["one", "other"] sp ∧ Binds K fd ["one", "other"] [] ∧ PySem.W.keepIn K (.ref (He.ga K "check_two")) = true := by
  obtain ⟨fd, F⟩ := T.s.def_ ix_check_two (d := d_check_two)
  exact ⟨fd, F.ok sc_check_two len hb, F.binds fun _ _ _ _ _ _ us hl => match us, hl with | [_, _], _ => rfl, F.kp⟩
theorem mk_check_two (T : Tx K mg) {k : Nat} {sp : Sp} (h : ∃ fd, FnOk P w K mg base CX0 (k + 1) (He.ga K "check_two") fd ["one", "other"] sp ∧ Binds K fd ["one", "other"] [] ∧ PySem.W.keepIn K (.ref (He.ga K "check_two")) = true) : C8.Cal P w K mg base (k + 1) "check_two" sp [] := by
  obtain ⟨fd, F, b, kp⟩ := h
  exact ⟨_, fd, _, [], F, T.glo 28, kp, b, .nil⟩
theorem fn_check_fit (T : Tx K mg) {k : Nat} {sp : Sp} (len : ∀ vs H Q E, sp vs H Q E → vs.length = 2) (hb : ∀ (cdv : Value) (A : Around) (outer : List Env) (s : Shared) (H : Hp) (vs : List V) (Q : VK) (E : XK), Room k (A.deeper (envOfC "check_fit" (defScope s_check_fit) s.heap.objs.size (He.ga K "check_fit") cdv)) → sp vs H Q E → (∃ t, PSs (cxOf CX0 P w K mg base N_check_fit "check_fit" (defScope s_check_fit) (He.ga K "check_fit") cdv A outer s H E).nox (defBody s_check_fit) t ∧ t { nx := fun _ H1 => Q .non H1, rt := Q } (start N_check_fit vs) H)) : ∃ fd, FnOk P w K mg base CX0 (k + 1) (He.ga K "check_fit") fd ["one", "other"] sp ∧ Binds K fd ["one", "other"] [] ∧ PySem.W.keepIn K (.ref (He.ga K "check_fit")) = true := by
  obtain ⟨fd, F⟩ := T.s.def_ ix_check_fit (d := d_check_fit)
  exact ⟨fd, F.ok sc_check_fit len hb, F.binds fun _ _ _ _ _ _ us hl => match us, hl with | [_, _], _ => rfl, F.kp⟩
theorem mk_check_fit (T : Tx K mg) {k : Nat} {sp : Sp} (h : ∃ fd, FnOk P w K mg base CX0 (k + 1) (He.ga K "check_fit") fd ["one", "other"] sp ∧ Binds K fd ["one", "other"] [] ∧ PySem.W.keepIn K (.ref (He.ga K "check_fit")) = true) : C8.Cal P w K mg base (k + 1) "check_fit" sp [] := by
  obtain ⟨fd, F, b, kp⟩ := h
  exact ⟨_, fd, _, [], F, T.glo 29, kp, b, .nil⟩
theorem fn_check_integers (T : Tx K mg) {k : Nat} {sp : Sp} (len : ∀ vs H Q E, sp vs H Q E → vs.length = 2) (hb : ∀ (cdv : Value) (A : Around) (outer : List Env) (s : Shared) (H : Hp) (vs : List V) (Q : VK) (E : XK), Room k (A.deeper (envOfC "check_integers" (defScope s_check_integers) s.heap.objs.size (He.ga K "check_integers") cdv)) → sp vs H Q E → (∃ t, PSs (cxOf CX0 P w K mg base N_check_integers "check_integers" (defScope s_check_integers) (He.ga K "check_integers") cdv A outer s H E).nox (defBody s_check_integers) t ∧ t { nx := fun _ H1 => Q .non H1, rt := Q } (start N_check_integers vs) H)) : ∃ fd, FnOk P w K mg base CX0 (k + 1) (He.ga K "check_integers") fd ["value", "least"] sp ∧ Binds K fd ["value", "least"] [] ∧ PySem.W.keepIn K (.ref (He.ga K "check_integers")) = true := by
  obtain ⟨fd, F⟩ := T.s.def_ ix_check_integers (d := d_check_integers)
  exact ⟨fd, F.ok sc_check_integers len hb, F.binds fun _ _ _ _ _ _ us hl => match us, hl with | [_, _], _ => rfl, F.kp⟩
theorem mk_check_integers (T : Tx K mg) {k : Nat} {sp : Sp} (h : ∃ fd, FnOk P w K mg base CX0 (k + 1) (He.ga K "check_integers") fd ["value", "least"] sp ∧ Binds K fd ["value", "least"] [] ∧ PySem.W.keepIn K (.ref (He.ga K "check_integers")) = true) : C8.Cal P w K mg base (k + 1) "check_integers" sp [] := by
  obtain ⟨fd, F, b, kp⟩ := h
  exact ⟨_, fd, _, [], F, T.glo 30, kp, b, .nil⟩
theorem fn_goes_on (T : Tx K mg) {k : Nat} {sp : Sp} (len : ∀ vs H Q E, sp vs H Q E → vs.length = 3) (hb : ∀ (cdv : Value) (A : Around) (outer : List Env) (s : Shared) (H : Hp) (vs : List V) (Q : VK) (E : XK), Room k (A.deeper (envOfC "goes_on" (defScope s_goes_on) s.heap.objs.size (He.ga K "goes_on") cdv)) → sp vs H Q E → (∃ t, PSs (cxOf CX0 P w K mg base N_goes_on "goes_on" (defScope s_goes_on) (He.ga K "goes_on") cdv A outer s H E).nox (defBody s_goes_on) t ∧ t { nx := fun _ H1 => Q .non H1, rt := Q } (start N_goes_on vs) H)) : ∃ fd, FnOk P w K mg base CX0 (k + 1) (He.ga K "goes_on") fd ["again", "rise", "size"] sp ∧ Binds K fd ["again", "rise", "size"] [] ∧ PySem.W.keepIn K (.ref (He.ga K "goes_on")) = true := by
  obtain ⟨fd, F⟩ := T.s.def_ ix_goes_on (d := d_goes_on)
  exact ⟨fd, F.ok sc_goes_on len hb, F.binds fun _ _ _ _ _ _ us hl => match us, hl with | [_, _, _], _ => rfl, F.kp⟩
theorem mk_goes_on (T : Tx K mg) {k : Nat} {sp : Sp} (h : ∃ fd, FnOk P w K mg base CX0 (k + 1) (He.ga K "goes_on") fd ["again", "rise", "size"] sp ∧ Binds K fd ["again", "rise", "size"] [] ∧ PySem.W.keepIn K (.ref (He.ga K "goes_on")) = true) : C8.Cal P w K mg base (k + 1) "goes_on" sp [] := by
  obtain ⟨fd, F, b, kp⟩ := h
  exact ⟨_, fd, _, [], F, T.glo 31, kp, b, .nil⟩
theorem fn_Row_init (T : Tx K mg) {k : Nat} {sp : Sp} (len : ∀ vs H Q E, sp vs H Q E → vs.length = 4) (hb : ∀ (cdv : Value) (A : Around) (outer : List Env) (s : Shared) (H : Hp) (vs : List V) (Q : VK) (E : XK), Room k (A.deeper (envOfC "Row.__init__" (defScope s_Row_init) s.heap.objs.size (He.ma K (He.ga K "Row") "__init__") cdv)) → sp vs H Q E → (∃ t, PSs (cxOf CX0 P w K mg base N_Row_init "Row.__init__" (defScope s_Row_init) (He.ma K (He.ga K "Row") "__init__") cdv A outer s H E).nox (defBody s_Row_init) t ∧ t { nx := fun _ H1 => Q .non H1, rt := Q } (start N_Row_init vs) H)) : ∃ fd, FnOk P w K mg base CX0 (k + 1) (He.ma K (He.ga K "Row") "__init__") fd ["self", "early", "again", "rise"] sp ∧ Binds K fd ["self", "early", "again", "rise"] [] ∧ PySem.W.keepIn K (.ref (He.ma K (He.ga K "Row") "__init__")) = true := by
  obtain ⟨fd, F⟩ := T.s.def_ ix_Row_init (d := d_Row_init)
  exact ⟨fd, F.ok sc_Row_init len hb, F.binds fun _ _ _ _ _ _ us hl => match us, hl with | [_, _, _, _], _ => rfl, F.kp⟩
theorem mk_Row_init (T : Tx K mg) {k : Nat} {sp : Sp} (h : ∃ fd, FnOk P w K mg base CX0 (k + 1) (He.ma K (He.ga K "Row") "__init__") fd ["self", "early", "again", "rise"] sp ∧ Binds K fd ["self", "early", "again", "rise"] [] ∧ PySem.W.keepIn K (.ref (He.ma K (He.ga K "Row") "__init__")) = true) : C8.Mak P w K mg base (k + 1) "Row" (He.ga K "Row") sp [] := by
  obtain ⟨fd, F, b, _⟩ := h
  exact ⟨_, fd, _, [], mk_Row T, F, T.glo 32, b, .nil⟩
theorem fn_Row_early (T : Tx K mg) {k : Nat} {sp : Sp} (len : ∀ vs H Q E, sp vs H Q E → vs.length = 1) (hb : ∀ (cdv : Value) (A : Around) (outer : List Env) (s : Shared) (H : Hp) (vs : List V) (Q : VK) (E : XK), Room k (A.deeper (envOfC "Row.early" (defScope s_Row_early) s.heap.objs.size (gtr K "Row" "early") cdv)) → sp vs H Q E → (∃ t, PSs (cxOf CX0 P w K mg base N_Row_early "Row.early" (defScope s_Row_early) (gtr K "Row" "early") cdv A outer s H E).nox (defBody s_Row_early) t ∧ t { nx := fun _ H1 => Q .non H1, rt := Q } (start N_Row_early vs) H)) : ∃ fd, FnOk P w K mg base CX0 (k + 1) (gtr K "Row" "early") fd ["self"] sp ∧ Binds K fd ["self"] [] ∧ PySem.W.keepIn K (.ref (gtr K "Row" "early")) = true := by
  obtain ⟨fd, F⟩ := T.s.def_ ix_Row_early (d := d_Row_early)
  exact ⟨fd, F.ok sc_Row_early len hb, F.binds fun _ _ _ _ _ _ us hl => match us, hl with | [_], _ => rfl, F.kp⟩
theorem mk_Row_early (T : Tx K mg) {k : Nat} {sp : Sp} (h : ∃ fd, FnOk P w K mg base CX0 (k + 1) (gtr K "Row" "early") fd ["self"] sp ∧ Binds K fd ["self"] [] ∧ PySem.W.keepIn K (.ref (gtr K "Row" "early")) = true) : Lr.Prp P w K mg base (k + 1) (He.ga K "Row") "early" sp := by
  obtain ⟨fd, F, b, _⟩ := h
  exact ⟨_, _, fd, _, k_Row T, prop_ok (T.f 135 (f := .prop "Row" "early")), F, b⟩
theorem fn_Row_again (T : Tx K mg) {k : Nat} {sp : Sp} (len : ∀ vs H Q E, sp vs H Q E → vs.length = 1) (hb : ∀ (cdv : Value) (A : Around) (outer : List Env) (s : Shared) (H : Hp) (vs : List V) (Q : VK) (E : XK), Room k (A.deeper (envOfC "Row.again" (defScope s_Row_again) s.heap.objs.size (gtr K "Row" "again") cdv)) → sp vs H Q E → (∃ t, PSs (cxOf CX0 P w K mg base N_Row_again "Row.again" (defScope s_Row_again) (gtr K "Row" "again") cdv A outer s H E).nox (defBody s_Row_again) t ∧ t { nx := fun _ H1 => Q .non H1, rt := Q } (start N_Row_again vs) H)) : ∃ fd, FnOk P w K mg base CX0 (k + 1) (gtr K "Row" "again") fd ["self"] sp ∧ Binds K fd ["self"] [] ∧ PySem.W.keepIn K (.ref (gtr K "Row" "again")) = true := by
  obtain ⟨fd, F⟩ := T.s.def_ ix_Row_again (d := d_Row_again)
  exact ⟨fd, F.ok sc_Row_again len hb, F.binds fun _ _ _ _ _ _ us hl => match us, hl with | [_], _ => rfl, F.kp⟩
theorem mk_Row_again (T : Tx K mg) {k : Nat} {sp : Sp} (h : ∃ fd, FnOk P w K mg base CX0 (k + 1) (gtr K "Row" "again") fd ["self"] sp ∧ Binds K fd ["self"] [] ∧ PySem.W.keepIn K (.ref (gtr K "Row" "again")) = true) : Lr.Prp P w K mg base (k + 1) (He.ga K "Row") "again" sp := by
  obtain ⟨fd, F, b, _⟩ := h
  exact ⟨_, _, fd, _, k_Row T, prop_ok (T.f 136 (f := .prop "Row" "again")), F, b⟩
theorem fn_Row_rise (T : Tx K mg) {k : Nat} {sp : Sp} (len : ∀ vs H Q E, sp vs H Q E → vs.length = 1) (hb : ∀ (cdv : Value) (A : Around) (outer : List Env) (s : Shared) (H : Hp) (vs : List V) (Q : VK) (E : XK), Room k (A.deeper (envOfC "Row.rise" (defScope s_Row_rise) s.heap.objs.size (gtr K "Row" "rise") cdv)) → sp vs H Q E → (∃ t, PSs (cxOf CX0 P w K mg base N_Row_rise "Row.rise" (defScope s_Row_rise) (gtr K "Row" "rise") cdv A outer s H E).nox (defBody s_Row_rise) t ∧ t { nx := fun _ H1 => Q .non H1, rt := Q } (start N_Row_rise vs) H)) : ∃ fd, FnOk P w K mg base CX0 (k + 1) (gtr K "Row" "rise") fd ["self"] sp ∧ Binds K fd ["self"] [] ∧ PySem.W.keepIn K (.ref (gtr K "Row" "rise")) = true := by
  obtain ⟨fd, F⟩ := T.s.def_ ix_Row_rise (d := d_Row_rise)
  exact ⟨fd, F.ok sc_Row_rise len hb, F.binds fun _ _ _ _ _ _ us hl => match us, hl with | [_], _ => rfl, F.kp⟩
theorem mk_Row_rise (T : Tx K mg) {k : Nat} {sp : Sp} (h : ∃ fd, FnOk P w K mg base CX0 (k + 1) (gtr K "Row" "rise") fd ["self"] sp ∧ Binds K fd ["self"] [] ∧ PySem.W.keepIn K (.ref (gtr K "Row" "rise")) = true) : Lr.Prp P w K mg base (k + 1) (He.ga K "Row") "rise" sp := by
  obtain ⟨fd, F, b, _⟩ := h
  exact ⟨_, _, fd, _, k_Row T, prop_ok (T.f 137 (f := .prop "Row" "rise")), F, b⟩
theorem fn_Row_at (T : Tx K mg) {k : Nat} {sp : Sp} (len : ∀ vs H Q E, sp vs H Q E → vs.length = 2) (hb : ∀ (cdv : Value) (A : Around) (outer : List Env) (s : Shared) (H : Hp) (vs : List V) (Q : VK) (E : XK), Room k (A.deeper (envOfC "Row.at" (defScope s_Row_at) s.heap.objs.size (He.ma K (He.ga K "Row") "at") cdv)) → sp vs H Q E → (∃ t, PSs (cxOf CX0 P w K mg base N_Row_at "Row.at" (defScope s_Row_at) (He.ma K (He.ga K "Row") "at") cdv A outer s H E).nox (defBody s_Row_at) t ∧ t { nx := fun _ H1 => Q .non H1, rt := Q } (start N_Row_at vs) H)) : ∃ fd, FnOk P w K mg base CX0 (k + 1) (He.ma K (He.ga K "Row") "at") fd ["self", "lines"] sp ∧ Binds K fd ["self", "lines"] [] ∧ PySem.W.keepIn K (.ref (He.ma K (He.ga K "Row") "at")) = true := by
  obtain ⟨fd, F⟩ := T.s.def_ ix_Row_at (d := d_Row_at)
  exact ⟨fd, F.ok sc_Row_at len hb, F.binds fun _ _ _ _ _ _ us hl => match us, hl with | [_, _], _ => rfl, F.kp⟩
theorem mk_Row_at (T : Tx K mg) {k : Nat} {sp : Sp} (h : ∃ fd, FnOk P w K mg base CX0 (k + 1) (He.ma K (He.ga K "Row") "at") fd ["self", "lines"] sp ∧ Binds K fd ["self", "lines"] [] ∧ PySem.W.keepIn K (.ref (He.ma K (He.ga K "Row") "at")) = true) : C8.Met P w K mg base (k + 1) (He.ga K "Row") "at" sp [] := by
  obtain ⟨fd, F, b, _⟩ := h
  exact ⟨_, fd, _, [], k_Row T, He.meth_ok (T.f 138 (f := .b (.meth "Row" "at"))), F, b, .nil⟩
theorem fn_Row_eq (T : Tx K mg) {k : Nat} {sp : Sp} (len : ∀ vs H Q E, sp vs H Q E → vs.length = 2) (hb : ∀ (cdv : Value) (A : Around) (outer : List Env) (s : Shared) (H : Hp) (vs : List V) (Q : VK) (E : XK), Room k (A.deeper (envOfC "Row.__eq__" (defScope s_Row_eq) s.heap.objs.size (He.ma K (He.ga K "Row") "__eq__") cdv)) → sp vs H Q E → (∃ t, PSs (cxOf CX0 P w K mg base N_Row_eq "Row.__eq__" (defScope s_Row_eq) (He.ma K (He.ga K "Row") "__eq__") cdv A outer s H E).nox (defBody s_Row_eq) t ∧ t { nx := fun _ H1 => Q .non H1, rt := Q } (start N_Row_eq vs) H)) : ∃ fd, FnOk P w K mg base CX0 (k + 1) (He.ma K (He.ga K "Row") "__eq__") fd ["self", "other"] sp ∧ Binds K fd ["self", "other"] [] ∧ PySem.W.keepIn K (.ref (He.ma K (He.ga K "Row") "__eq__")) = true := by
  obtain ⟨fd, F⟩ := T.s.def_ ix_Row_eq (d := d_Row_eq)
  exact ⟨fd, F.ok sc_Row_eq len hb, F.binds fun _ _ _ _ _ _ us hl => match us, hl with | [_, _], _ => rfl, F.kp⟩
theorem mk_Row_eq (T : Tx K mg) {k : Nat} {R : Addr → Addr → Hp → Prop} (h : ∃ fd, FnOk P w K mg base CX0 (k + 1) (He.ma K (He.ga K "Row") "__eq__") fd ["self", "other"] (spEq R) ∧ Binds K fd ["self", "other"] [] ∧ PySem.W.keepIn K (.ref (He.ma K (He.ga K "Row") "__eq__")) = true) : Lr.Neq P w K mg base (k + 1) (He.ga K "Row") R := by
  obtain ⟨fd, F, b, _⟩ := h
  have m := He.meth_ok (T.f 139 (f := .b (.meth "Row" "__eq__")))
  exact ⟨_, fd, _, F, m.at_, m.fn, ne_Row T, (ic_Row T).hm, b⟩
theorem fn_sides_of (T : Tx K mg) {k : Nat} {sp : Sp} (len : ∀ vs H Q E, sp vs H Q E → vs.length = 2) (hb : ∀ (cdv : Value) (A : Around) (outer : List Env) (s : Shared) (H : Hp) (vs : List V) (Q : VK) (E : XK), Room k (A.deeper (envOfC "sides_of" (defScope s_sides_of) s.heap.objs.size (He.ga K "sides_of") cdv)) → sp vs H Q E → (∃ t, PSs (cxOf CX0 P w K mg base N_sides_of "sides_of" (defScope s_sides_of) (He.ga K "sides_of") cdv A outer s H E).nox (defBody s_sides_of) t ∧ t { nx := fun _ H1 => Q .non H1, rt := Q } (start N_sides_of vs) H)) : ∃ fd, FnOk P w K mg base CX0 (k + 1) (He.ga K "sides_of") fd ["one", "other"] sp ∧ Binds K fd ["one", "other"] [] ∧ PySem.W.keepIn K (.ref (He.ga K "sides_of")) = true := by
  obtain ⟨fd, F⟩ := T.s.def_ ix_sides_of (d := d_sides_of)
  exact ⟨fd, F.ok sc_sides_of len hb, F.binds fun _ _ _ _ _ _ us hl => match us, hl with | [_, _], _ => rfl, F.kp⟩
theorem mk_sides_of (T : Tx K mg) {k : Nat} {sp : Sp} (h : ∃ fd, FnOk P w K mg base CX0 (k + 1) (He.ga K "sides_of") fd ["one", "other"] sp ∧ Binds K fd ["one", "other"] [] ∧ PySem.W.keepIn K (.ref (He.ga K "sides_of")) = true) : C8.Cal P w K mg base (k + 1) "sides_of" sp [] := by
  obtain ⟨fd, F, b, kp⟩ := h
  exact ⟨_, fd, _, [], F, T.glo 33, kp, b, .nil⟩
theorem fn_first_greater (T : Tx K mg) {k : Nat} {sp : Sp} (len : ∀ vs H Q E, sp vs H Q E → vs.length = 2) (hb : ∀ (cdv : Value) (A : Around) (outer : List Env) (s : Shared) (H : Hp) (vs : List V) (Q : VK) (E : XK), Room k (A.deeper (envOfC "first_greater" (defScope s_first_greater) s.heap.objs.size (He.ga K "first_greater") cdv)) → sp vs H Q E → (∃ t, PSs (cxOf CX0 P w K mg base N_first_greater "first_greater" (defScope s_first_greater) (He.ga K "first_greater") cdv A outer s H E).nox (defBody s_first_greater) t ∧ t { nx := fun _ H1 => Q .non H1, rt := Q } (start N_first_greater vs) H)) : ∃ fd, FnOk P w K mg base CX0 (k + 1) (He.ga K "first_greater") fd ["one", "other"] sp ∧ Binds K fd ["one", "other"] [] ∧ PySem.W.keepIn K (.ref (He.ga K "first_greater")) = true := by
  obtain ⟨fd, F⟩ := T.s.def_ ix_first_greater (d := d_first_greater)
  exact ⟨fd, F.ok sc_first_greater len hb, F.binds fun _ _ _ _ _ _ us hl => match us, hl with | [_, _], _ => rfl, F.kp⟩
theorem mk_first_greater (T : Tx K mg) {k : Nat} {sp : Sp} (h : ∃ fd, FnOk P w K mg base CX0 (k + 1) (He.ga K "first_greater") fd ["one", "other"] sp ∧ Binds K fd ["one", "other"] [] ∧ PySem.W.keepIn K (.ref (He.ga K "first_greater")) = true) : C8.Cal P w K mg base (k + 1) "first_greater" sp [] := by
  obtain ⟨fd, F, b, kp⟩ := h
  exact ⟨_, fd, _, [], F, T.glo 34, kp, b, .nil⟩
theorem fn_check_rates (T : Tx K mg) {k : Nat} {sp : Sp} (len : ∀ vs H Q E, sp vs H Q E → vs.length = 2) (hb : ∀ (cdv : Value) (A : Around) (outer : List Env) (s : Shared) (H : Hp) (vs : List V) (Q : VK) (E : XK), Room k (A.deeper (envOfC "check_rates" (defScope s_check_rates) s.heap.objs.size (He.ga K "check_rates") cdv)) → sp vs H Q E → (∃ t, PSs (cxOf CX0 P w K mg base N_check_rates "check_rates" (defScope s_check_rates) (He.ga K "check_rates") cdv A outer s H E).nox (defBody s_check_rates) t ∧ t { nx := fun _ H1 => Q .non H1, rt := Q } (start N_check_rates vs) H)) : ∃ fd, FnOk P w K mg base CX0 (k + 1) (He.ga K "check_rates") fd ["one", "other"] sp ∧ Binds K fd ["one", "other"] [] ∧ PySem.W.keepIn K (.ref (He.ga K "check_rates")) = true := by
  obtain ⟨fd, F⟩ := T.s.def_ ix_check_rates (d := d_check_rates)
  exact ⟨fd, F.ok sc_check_rates len hb, F.binds fun _ _ _ _ _ _ us hl => match us, hl with | [_, _], _ => rfl, F.kp⟩
theorem mk_check_rates (T : Tx K mg) {k : Nat} {sp : Sp} (h : ∃ fd, FnOk P w K mg base CX0 (k + 1) (He.ga K "check_rates") fd ["one", "other"] sp ∧ Binds K fd ["one", "other"] [] ∧ PySem.W.keepIn K (.ref (He.ga K "check_rates")) = true) : C8.Cal P w K mg base (k + 1) "check_rates" sp [] := by
  obtain ⟨fd, F, b, kp⟩ := h
  exact ⟨_, fd, _, [], F, T.glo 35, kp, b, .nil⟩
theorem fn_amounts_of (T : Tx K mg) {k : Nat} {sp : Sp} (len : ∀ vs H Q E, sp vs H Q E → vs.length = 2) (hb : ∀ (cdv : Value) (A : Around) (outer : List Env) (s : Shared) (H : Hp) (vs : List V) (Q : VK) (E : XK), Room k (A.deeper (envOfC "amounts_of" (defScope s_amounts_of) s.heap.objs.size (He.ga K "amounts_of") cdv)) → sp vs H Q E → (∃ t, PSs (cxOf CX0 P w K mg base N_amounts_of "amounts_of" (defScope s_amounts_of) (He.ga K "amounts_of") cdv A outer s H E).nox (defBody s_amounts_of) t ∧ t { nx := fun _ H1 => Q .non H1, rt := Q } (start N_amounts_of vs) H)) : ∃ fd, FnOk P w K mg base CX0 (k + 1) (He.ga K "amounts_of") fd ["books", "name"] sp ∧ Binds K fd ["books", "name"] [] ∧ PySem.W.keepIn K (.ref (He.ga K "amounts_of")) = true := by
  obtain ⟨fd, F⟩ := T.s.def_ ix_amounts_of (d := d_amounts_of)
  exact ⟨fd, F.ok sc_amounts_of len hb, F.binds fun _ _ _ _ _ _ us hl => match us, hl with | [_, _], _ => rfl, F.kp⟩
theorem mk_amounts_of (T : Tx K mg) {k : Nat} {sp : Sp} (h : ∃ fd, FnOk P w K mg base CX0 (k + 1) (He.ga K "amounts_of") fd ["books", "name"] sp ∧ Binds K fd ["books", "name"] [] ∧ PySem.W.keepIn K (.ref (He.ga K "amounts_of")) = true) : C8.Cal P w K mg base (k + 1) "amounts_of" sp [] := by
  obtain ⟨fd, F, b, kp⟩ := h
  exact ⟨_, fd, _, [], F, T.glo 36, kp, b, .nil⟩
theorem fn_check_size (T : Tx K mg) {k : Nat} {sp : Sp} (len : ∀ vs H Q E, sp vs H Q E → vs.length = 1) (hb : ∀ (cdv : Value) (A : Around) (outer : List Env) (s : Shared) (H : Hp) (vs : List V) (Q : VK) (E : XK), Room k (A.deeper (envOfC "check_size" (defScope s_check_size) s.heap.objs.size (He.ga K "check_size") cdv)) → sp vs H Q E → (∃ t, PSs (cxOf CX0 P w K mg base N_check_size "check_size" (defScope s_check_size) (He.ga K "check_size") cdv A outer s H E).nox (defBody s_check_size) t ∧ t { nx := fun _ H1 => Q .non H1, rt := Q } (start N_check_size vs) H)) : ∃ fd, FnOk P w K mg base CX0 (k + 1) (He.ga K "check_size") fd ["books"] sp ∧ Binds K fd ["books"] [] ∧ PySem.W.keepIn K (.ref (He.ga K "check_size")) = true := by
  obtain ⟨fd, F⟩ := T.s.def_ ix_check_size (d := d_check_size)
  exact ⟨fd, F.ok sc_check_size len hb, F.binds fun _ _ _ _ _ _ us hl => match us, hl with | [_], _ => rfl, F.kp⟩
theorem mk_check_size (T : Tx K mg) {k : Nat} {sp : Sp} (h : ∃ fd, FnOk P w K mg base CX0 (k + 1) (He.ga K "check_size") fd ["books"] sp ∧ Binds K fd ["books"] [] ∧ PySem.W.keepIn K (.ref (He.ga K "check_size")) = true) : C8.Cal P w K mg base (k + 1) "check_size" sp [] := by
  obtain ⟨fd, F, b, kp⟩ := h
  exact ⟨_, fd, _, [], F, T.glo 37, kp, b, .nil⟩
theorem fn_States_init (T : Tx K mg) {k : Nat} {sp : Sp} (len : ∀ vs H Q E, sp vs H Q E → vs.length = 2) (hb : ∀ (cdv : Value) (A : Around) (outer : List Env) (s : Shared) (H : Hp) (vs : List V) (Q : VK) (E : XK), Room k (A.deeper (envOfC "States.__init__" (defScope s_States_init) s.heap.objs.size (He.ma K (He.ga K "States") "__init__") cdv)) → sp vs H Q E → (∃ t, PSs (cxOf CX0 P w K mg base N_States_init "States.__init__" (defScope s_States_init) (He.ma K (He.ga K "States") "__init__") cdv A outer s H E).nox (defBody s_States_init) t ∧ t { nx := fun _ H1 => Q .non H1, rt := Q } (start N_States_init vs) H)) : ∃ fd, FnOk P w K mg base CX0 (k + 1) (He.ma K (He.ga K "States") "__init__") fd ["self", "sides"] sp ∧ Binds K fd ["self", "sides"] [] ∧ PySem.W.keepIn K (.ref (He.ma K (He.ga K "States") "__init__")) = true := by
  obtain ⟨fd, F⟩ := T.s.def_ ix_States_init (d := d_States_init)
  exact ⟨fd, F.ok sc_States_init len hb, F.binds fun _ _ _ _ _ _ us hl => match us, hl with | [_, _], _ => rfl, F.kp⟩
theorem mk_States_init (T : Tx K mg) {k : Nat} {sp : Sp} (h : ∃ fd, FnOk P w K mg base CX0 (k + 1) (He.ma K (He.ga K "States") "__init__") fd ["self", "sides"] sp ∧ Binds K fd ["self", "sides"] [] ∧ PySem.W.keepIn K (.ref (He.ma K (He.ga K "States") "__init__")) = true) : C8.Mak P w K mg base (k + 1) "States" (He.ga K "States") sp [] := by
  obtain ⟨fd, F, b, _⟩ := h
  exact ⟨_, fd, _, [], mk_States T, F, T.glo 38, b, .nil⟩
theorem fn_States_empty (T : Tx K mg) {k : Nat} {sp : Sp} (len : ∀ vs H Q E, sp vs H Q E → vs.length = 1) (hb : ∀ (cdv : Value) (A : Around) (outer : List Env) (s : Shared) (H : Hp) (vs : List V) (Q : VK) (E : XK), Room k (A.deeper (envOfC "States.empty" (defScope s_States_empty) s.heap.objs.size (He.ma K (He.ga K "States") "empty") cdv)) → sp vs H Q E → (∃ t, PSs (cxOf CX0 P w K mg base N_States_empty "States.empty" (defScope s_States_empty) (He.ma K (He.ga K "States") "empty") cdv A outer s H E).nox (defBody s_States_empty) t ∧ t { nx := fun _ H1 => Q .non H1, rt := Q } (start N_States_empty vs) H)) : ∃ fd, FnOk P w K mg base CX0 (k + 1) (He.ma K (He.ga K "States") "empty") fd ["self"] sp ∧ Binds K fd ["self"] [] ∧ PySem.W.keepIn K (.ref (He.ma K (He.ga K "States") "empty")) = true := by
  obtain ⟨fd, F⟩ := T.s.def_ ix_States_empty (d := d_States_empty)
  exact ⟨fd, F.ok sc_States_empty len hb, F.binds fun _ _ _ _ _ _ us hl => match us, hl with | [_], _ => rfl, F.kp⟩
theorem mk_States_empty (T : Tx K mg) {k : Nat} {sp : Sp} (h : ∃ fd, FnOk P w K mg base CX0 (k + 1) (He.ma K (He.ga K "States") "empty") fd ["self"] sp ∧ Binds K fd ["self"] [] ∧ PySem.W.keepIn K (.ref (He.ma K (He.ga K "States") "empty")) = true) : C8.Met P w K mg base (k + 1) (He.ga K "States") "empty" sp [] := by
  obtain ⟨fd, F, b, _⟩ := h
  exact ⟨_, fd, _, [], k_States T, He.meth_ok (T.f 141 (f := .b (.meth "States" "empty"))), F, b, .nil⟩
theorem fn_States_move (T : Tx K mg) {k : Nat} {sp : Sp} (len : ∀ vs H Q E, sp vs H Q E → vs.length = 3) (hb : ∀ (cdv : Value) (A : Around) (outer : List Env) (s : Shared) (H : Hp) (vs : List V) (Q : VK) (E : XK), Room k (A.deeper (envOfC "States.move" (defScope s_States_move) s.heap.objs.size (He.ma K (He.ga K "States") "move") cdv)) → sp vs H Q E → (∃ t, PSs (cxOf CX0 P w K mg base N_States_move "States.move" (defScope s_States_move) (He.ma K (He.ga K "States") "move") cdv A outer s H E).nox (defBody s_States_move) t ∧ t { nx := fun _ H1 => Q .non H1, rt := Q } (start N_States_move vs) H)) : ∃ fd, FnOk P w K mg base CX0 (k + 1) (He.ma K (He.ga K "States") "move") fd ["self", "name", "amount"] sp ∧ Binds K fd ["self", "name", "amount"] [] ∧ PySem.W.keepIn K (.ref (He.ma K (He.ga K "States") "move")) = true := by
  obtain ⟨fd, F⟩ := T.s.def_ ix_States_move (d := d_States_move)
  exact ⟨fd, F.ok sc_States_move len hb, F.binds fun _ _ _ _ _ _ us hl => match us, hl with | [_, _, _], _ => rfl, F.kp⟩
theorem mk_States_move (T : Tx K mg) {k : Nat} {sp : Sp} (h : ∃ fd, FnOk P w K mg base CX0 (k + 1) (He.ma K (He.ga K "States") "move") fd ["self", "name", "amount"] sp ∧ Binds K fd ["self", "name", "amount"] [] ∧ PySem.W.keepIn K (.ref (He.ma K (He.ga K "States") "move")) = true) : C8.Met P w K mg base (k + 1) (He.ga K "States") "move" sp [] := by
  obtain ⟨fd, F, b, _⟩ := h
  exact ⟨_, fd, _, [], k_States T, He.meth_ok (T.f 142 (f := .b (.meth "States" "move"))), F, b, .nil⟩
theorem fn_States_weight (T : Tx K mg) {k : Nat} {sp : Sp} (len : ∀ vs H Q E, sp vs H Q E → vs.length = 3) (hb : ∀ (cdv : Value) (A : Around) (outer : List Env) (s : Shared) (H : Hp) (vs : List V) (Q : VK) (E : XK), Room k (A.deeper (envOfC "States.weight" (defScope s_States_weight) s.heap.objs.size (He.ma K (He.ga K "States") "weight") cdv)) → sp vs H Q E → (∃ t, PSs (cxOf CX0 P w K mg base N_States_weight "States.weight" (defScope s_States_weight) (He.ma K (He.ga K "States") "weight") cdv A outer s H E).nox (defBody s_States_weight) t ∧ t { nx := fun _ H1 => Q .non H1, rt := Q } (start N_States_weight vs) H)) : ∃ fd, FnOk P w K mg base CX0 (k + 1) (He.ma K (He.ga K "States") "weight") fd ["self", "name", "amount"] sp ∧ Binds K fd ["self", "name", "amount"] [] ∧ PySem.W.keepIn K (.ref (He.ma K (He.ga K "States") "weight")) = true := by
  obtain ⟨fd, F⟩ := T.s.def_ ix_States_weight (d := d_States_weight)
  exact ⟨fd, F.ok sc_States_weight len hb, F.binds fun _ _ _ _ _ _ us hl => match us, hl with | [_, _, _], _ => rfl, F.kp⟩
theorem mk_States_weight (T : Tx K mg) {k : Nat} {sp : Sp} (h : ∃ fd, FnOk P w K mg base CX0 (k + 1) (He.ma K (He.ga K "States") "weight") fd ["self", "name", "amount"] sp ∧ Binds K fd ["self", "name", "amount"] [] ∧ PySem.W.keepIn K (.ref (He.ma K (He.ga K "States") "weight")) = true) : C8.Met P w K mg base (k + 1) (He.ga K "States") "weight" sp [] := by
  obtain ⟨fd, F, b, _⟩ := h
  exact ⟨_, fd, _, [], k_States T, He.meth_ok (T.f 143 (f := .b (.meth "States" "weight"))), F, b, .nil⟩
theorem fn_States_reduced (T : Tx K mg) {k : Nat} {sp : Sp} (len : ∀ vs H Q E, sp vs H Q E → vs.length = 2) (hb : ∀ (cdv : Value) (A : Around) (outer : List Env) (s : Shared) (H : Hp) (vs : List V) (Q : VK) (E : XK), Room k (A.deeper (envOfC "States.reduced" (defScope s_States_reduced) s.heap.objs.size (He.ma K (He.ga K "States") "reduced") cdv)) → sp vs H Q E → (∃ t, PSs (cxOf CX0 P w K mg base N_States_reduced "States.reduced" (defScope s_States_reduced) (He.ma K (He.ga K "States") "reduced") cdv A outer s H E).nox (defBody s_States_reduced) t ∧ t { nx := fun _ H1 => Q .non H1, rt := Q } (start N_States_reduced vs) H)) : ∃ fd, FnOk P w K mg base CX0 (k + 1) (He.ma K (He.ga K "States") "reduced") fd ["self", "sums"] sp ∧ Binds K fd ["self", "sums"] [] ∧ PySem.W.keepIn K (.ref (He.ma K (He.ga K "States") "reduced")) = true := by
  obtain ⟨fd, F⟩ := T.s.def_ ix_States_reduced (d := d_States_reduced)
  exact ⟨fd, F.ok sc_States_reduced len hb, F.binds fun _ _ _ _ _ _ us hl => match us, hl with | [_, _], _ => rfl, F.kp⟩
theorem mk_States_reduced (T : Tx K mg) {k : Nat} {sp : Sp} (h : ∃ fd, FnOk P w K mg base CX0 (k + 1) (He.ma K (He.ga K "States") "reduced") fd ["self", "sums"] sp ∧ Binds K fd ["self", "sums"] [] ∧ PySem.W.keepIn K (.ref (He.ma K (He.ga K "States") "reduced")) = true) : C8.Met P w K mg base (k + 1) (He.ga K "States") "reduced" sp [] := by
  obtain ⟨fd, F, b, _⟩ := h
  exact ⟨_, fd, _, [], k_States T, He.meth_ok (T.f 144 (f := .b (.meth "States" "reduced"))), F, b, .nil⟩
theorem fn_States_added (T : Tx K mg) {k : Nat} {sp : Sp} (len : ∀ vs H Q E, sp vs H Q E → vs.length = 3) (hb : ∀ (cdv : Value) (A : Around) (outer : List Env) (s : Shared) (H : Hp) (vs : List V) (Q : VK) (E : XK), Room k (A.deeper (envOfC "States.added" (defScope s_States_added) s.heap.objs.size (He.ma K (He.ga K "States") "added") cdv)) → sp vs H Q E → (∃ t, PSs (cxOf CX0 P w K mg base N_States_added "States.added" (defScope s_States_added) (He.ma K (He.ga K "States") "added") cdv A outer s H E).nox (defBody s_States_added) t ∧ t { nx := fun _ H1 => Q .non H1, rt := Q } (start N_States_added vs) H)) : ∃ fd, FnOk P w K mg base CX0 (k + 1) (He.ma K (He.ga K "States") "added") fd ["self", "state", "move"] sp ∧ Binds K fd ["self", "state", "move"] [] ∧ PySem.W.keepIn K (.ref (He.ma K (He.ga K "States") "added")) = true := by
  obtain ⟨fd, F⟩ := T.s.def_ ix_States_added (d := d_States_added)
  exact ⟨fd, F.ok sc_States_added len hb, F.binds fun _ _ _ _ _ _ us hl => match us, hl with | [_, _, _], _ => rfl, F.kp⟩
theorem mk_States_added (T : Tx K mg) {k : Nat} {sp : Sp} (h : ∃ fd, FnOk P w K mg base CX0 (k + 1) (He.ma K (He.ga K "States") "added") fd ["self", "state", "move"] sp ∧ Binds K fd ["self", "state", "move"] [] ∧ PySem.W.keepIn K (.ref (He.ma K (He.ga K "States") "added")) = true) : C8.Met P w K mg base (k + 1) (He.ga K "States") "added" sp [] := by
  obtain ⟨fd, F, b, _⟩ := h
  exact ⟨_, fd, _, [], k_States T, He.meth_ok (T.f 145 (f := .b (.meth "States" "added"))), F, b, .nil⟩
theorem fn_States_gap (T : Tx K mg) {k : Nat} {sp : Sp} (len : ∀ vs H Q E, sp vs H Q E → vs.length = 2) (hb : ∀ (cdv : Value) (A : Around) (outer : List Env) (s : Shared) (H : Hp) (vs : List V) (Q : VK) (E : XK), Room k (A.deeper (envOfC "States.gap" (defScope s_States_gap) s.heap.objs.size (He.ma K (He.ga K "States") "gap") cdv)) → sp vs H Q E → (∃ t, PSs (cxOf CX0 P w K mg base N_States_gap "States.gap" (defScope s_States_gap) (He.ma K (He.ga K "States") "gap") cdv A outer s H E).nox (defBody s_States_gap) t ∧ t { nx := fun _ H1 => Q .non H1, rt := Q } (start N_States_gap vs) H)) : ∃ fd, FnOk P w K mg base CX0 (k + 1) (He.ma K (He.ga K "States") "gap") fd ["self", "sums"] sp ∧ Binds K fd ["self", "sums"] [] ∧ PySem.W.keepIn K (.ref (He.ma K (He.ga K "States") "gap")) = true := by
  obtain ⟨fd, F⟩ := T.s.def_ ix_States_gap (d := d_States_gap)
  exact ⟨fd, F.ok sc_States_gap len hb, F.binds fun _ _ _ _ _ _ us hl => match us, hl with | [_, _], _ => rfl, F.kp⟩
theorem mk_States_gap (T : Tx K mg) {k : Nat} {sp : Sp} (h : ∃ fd, FnOk P w K mg base CX0 (k + 1) (He.ma K (He.ga K "States") "gap") fd ["self", "sums"] sp ∧ Binds K fd ["self", "sums"] [] ∧ PySem.W.keepIn K (.ref (He.ma K (He.ga K "States") "gap")) = true) : C8.Met P w K mg base (k + 1) (He.ga K "States") "gap" sp [] := by
  obtain ⟨fd, F, b, _⟩ := h
  exact ⟨_, fd, _, [], k_States T, He.meth_ok (T.f 146 (f := .b (.meth "States" "gap"))), F, b, .nil⟩
theorem fn_States_base (T : Tx K mg) {k : Nat} {sp : Sp} (len : ∀ vs H Q E, sp vs H Q E → vs.length = 2) (hb : ∀ (cdv : Value) (A : Around) (outer : List Env) (s : Shared) (H : Hp) (vs : List V) (Q : VK) (E : XK), Room k (A.deeper (envOfC "States.base" (defScope s_States_base) s.heap.objs.size (He.ma K (He.ga K "States") "base") cdv)) → sp vs H Q E → (∃ t, PSs (cxOf CX0 P w K mg base N_States_base "States.base" (defScope s_States_base) (He.ma K (He.ga K "States") "base") cdv A outer s H E).nox (defBody s_States_base) t ∧ t { nx := fun _ H1 => Q .non H1, rt := Q } (start N_States_base vs) H)) : ∃ fd, FnOk P w K mg base CX0 (k + 1) (He.ma K (He.ga K "States") "base") fd ["self", "state"] sp ∧ Binds K fd ["self", "state"] [] ∧ PySem.W.keepIn K (.ref (He.ma K (He.ga K "States") "base")) = true := by
  obtain ⟨fd, F⟩ := T.s.def_ ix_States_base (d := d_States_base)
  exact ⟨fd, F.ok sc_States_base len hb, F.binds fun _ _ _ _ _ _ us hl => match us, hl with | [_, _], _ => rfl, F.kp⟩
theorem mk_States_base (T : Tx K mg) {k : Nat} {sp : Sp} (h : ∃ fd, FnOk P w K mg base CX0 (k + 1) (He.ma K (He.ga K "States") "base") fd ["self", "state"] sp ∧ Binds K fd ["self", "state"] [] ∧ PySem.W.keepIn K (.ref (He.ma K (He.ga K "States") "base")) = true) : C8.Met P w K mg base (k + 1) (He.ga K "States") "base" sp [] := by
  obtain ⟨fd, F, b, _⟩ := h
  exact ⟨_, fd, _, [], k_States T, He.meth_ok (T.f 147 (f := .b (.meth "States" "base"))), F, b, .nil⟩
theorem fn_States_share_of_group (T : Tx K mg) {k : Nat} {sp : Sp} (len : ∀ vs H Q E, sp vs H Q E → vs.length = 3) (hb : ∀ (cdv : Value) (A : Around) (outer : List Env) (s : Shared) (H : Hp) (vs : List V) (Q : VK) (E : XK), Room k (A.deeper (envOfC "States.share_of_group" (defScope s_States_share_of_group) s.heap.objs.size (He.ma K (He.ga K "States") "share_of_group") cdv)) → sp vs H Q E → (∃ t, PSs (cxOf CX0 P w K mg base N_States_share_of_group "States.share_of_group" (defScope s_States_share_of_group) (He.ma K (He.ga K "States") "share_of_group") cdv A outer s H E).nox (defBody s_States_share_of_group) t ∧ t { nx := fun _ H1 => Q .non H1, rt := Q } (start N_States_share_of_group vs) H)) : ∃ fd, FnOk P w K mg base CX0 (k + 1) (He.ma K (He.ga K "States") "share_of_group") fd ["self", "book", "group"] sp ∧ Binds K fd ["self", "book", "group"] [] ∧ PySem.W.keepIn K (.ref (He.ma K (He.ga K "States") "share_of_group")) = true := by
  obtain ⟨fd, F⟩ := T.s.def_ ix_States_share_of_group (d := d_States_share_of_group)
  exact ⟨fd, F.ok sc_States_share_of_group len hb, F.binds fun _ _ _ _ _ _ us hl => match us, hl with | [_, _, _], _ => rfl, F.kp⟩
theorem mk_States_share_of_group (T : Tx K mg) {k : Nat} {sp : Sp} (h : ∃ fd, FnOk P w K mg base CX0 (k + 1) (He.ma K (He.ga K "States") "share_of_group") fd ["self", "book", "group"] sp ∧ Binds K fd ["self", "book", "group"] [] ∧ PySem.W.keepIn K (.ref (He.ma K (He.ga K "States") "share_of_group")) = true) : C8.Met P w K mg base (k + 1) (He.ga K "States") "share_of_group" sp [] := by
  obtain ⟨fd, F, b, _⟩ := h
  exact ⟨_, fd, _, [], k_States T, He.meth_ok (T.f 148 (f := .b (.meth "States" "share_of_group"))), F, b, .nil⟩
theorem fn_States_lines (T : Tx K mg) {k : Nat} {sp : Sp} (len : ∀ vs H Q E, sp vs H Q E → vs.length = 1) (hb : ∀ (cdv : Value) (A : Around) (outer : List Env) (s : Shared) (H : Hp) (vs : List V) (Q : VK) (E : XK), Room k (A.deeper (envOfC "States.lines" (defScope s_States_lines) s.heap.objs.size (He.ma K (He.ga K "States") "lines") cdv)) → sp vs H Q E → (∃ t, PSs (cxOf CX0 P w K mg base N_States_lines "States.lines" (defScope s_States_lines) (He.ma K (He.ga K "States") "lines") cdv A outer s H E).nox (defBody s_States_lines) t ∧ t { nx := fun _ H1 => Q .non H1, rt := Q } (start N_States_lines vs) H)) : ∃ fd, FnOk P w K mg base CX0 (k + 1) (He.ma K (He.ga K "States") "lines") fd ["self"] sp ∧ Binds K fd ["self"] [] ∧ PySem.W.keepIn K (.ref (He.ma K (He.ga K "States") "lines")) = true := by
  obtain ⟨fd, F⟩ := T.s.def_ ix_States_lines (d := d_States_lines)
  exact ⟨fd, F.ok sc_States_lines len hb, F.binds fun _ _ _ _ _ _ us hl => match us, hl with | [_], _ => rfl, F.kp⟩
theorem mk_States_lines (T : Tx K mg) {k : Nat} {sp : Sp} (h : ∃ fd, FnOk P w K mg base CX0 (k + 1) (He.ma K (He.ga K "States") "lines") fd ["self"] sp ∧ Binds K fd ["self"] [] ∧ PySem.W.keepIn K (.ref (He.ma K (He.ga K "States") "lines")) = true) : C8.Met P w K mg base (k + 1) (He.ga K "States") "lines" sp [] := by
  obtain ⟨fd, F, b, _⟩ := h
  exact ⟨_, fd, _, [], k_States T, He.meth_ok (T.f 149 (f := .b (.meth "States" "lines"))), F, b, .nil⟩
theorem fn_States_best_lines (T : Tx K mg) {k : Nat} {sp : Sp} (len : ∀ vs H Q E, sp vs H Q E → vs.length = 1) (hb : ∀ (cdv : Value) (A : Around) (outer : List Env) (s : Shared) (H : Hp) (vs : List V) (Q : VK) (E : XK), Room k (A.deeper (envOfC "States.best_lines" (defScope s_States_best_lines) s.heap.objs.size (He.ma K (He.ga K "States") "best_lines") cdv)) → sp vs H Q E → (∃ t, PSs (cxOf CX0 P w K mg base N_States_best_lines "States.best_lines" (defScope s_States_best_lines) (He.ma K (He.ga K "States") "best_lines") cdv A outer s H E).nox (defBody s_States_best_lines) t ∧ t { nx := fun _ H1 => Q .non H1, rt := Q } (start N_States_best_lines vs) H)) : ∃ fd, FnOk P w K mg base CX0 (k + 1) (He.ma K (He.ga K "States") "best_lines") fd ["self"] sp ∧ Binds K fd ["self"] [] ∧ PySem.W.keepIn K (.ref (He.ma K (He.ga K "States") "best_lines")) = true := by
  obtain ⟨fd, F⟩ := T.s.def_ ix_States_best_lines (d := d_States_best_lines)
  exact ⟨fd, F.ok sc_States_best_lines len hb, F.binds fun _ _ _ _ _ _ us hl => match us, hl with | [_], _ => rfl, F.kp⟩
theorem mk_States_best_lines (T : Tx K mg) {k : Nat} {sp : Sp} (h : ∃ fd, FnOk P w K mg base CX0 (k + 1) (He.ma K (He.ga K "States") "best_lines") fd ["self"] sp ∧ Binds K fd ["self"] [] ∧ PySem.W.keepIn K (.ref (He.ma K (He.ga K "States") "best_lines")) = true) : C8.Met P w K mg base (k + 1) (He.ga K "States") "best_lines" sp [] := by
  obtain ⟨fd, F, b, _⟩ := h
  exact ⟨_, fd, _, [], k_States T, He.meth_ok (T.f 150 (f := .b (.meth "States" "best_lines"))), F, b, .nil⟩
theorem fn_States_order (T : Tx K mg) {k : Nat} {sp : Sp} (len : ∀ vs H Q E, sp vs H Q E → vs.length = 2) (hb : ∀ (cdv : Value) (A : Around) (outer : List Env) (s : Shared) (H : Hp) (vs : List V) (Q : VK) (E : XK), Room k (A.deeper (envOfC "States.order" (defScope s_States_order) s.heap.objs.size (He.ma K (He.ga K "States") "order") cdv)) → sp vs H Q E → (∃ t, PSs (cxOf CX0 P w K mg base N_States_order "States.order" (defScope s_States_order) (He.ma K (He.ga K "States") "order") cdv A outer s H E).nox (defBody s_States_order) t ∧ t { nx := fun _ H1 => Q .non H1, rt := Q } (start N_States_order vs) H)) : ∃ fd, FnOk P w K mg base CX0 (k + 1) (He.ma K (He.ga K "States") "order") fd ["self", "move"] sp ∧ Binds K fd ["self", "move"] [] ∧ PySem.W.keepIn K (.ref (He.ma K (He.ga K "States") "order")) = true := by
  obtain ⟨fd, F⟩ := T.s.def_ ix_States_order (d := d_States_order)
  exact ⟨fd, F.ok sc_States_order len hb, F.binds fun _ _ _ _ _ _ us hl => match us, hl with | [_, _], _ => rfl, F.kp⟩
theorem mk_States_order (T : Tx K mg) {k : Nat} {sp : Sp} (h : ∃ fd, FnOk P w K mg base CX0 (k + 1) (He.ma K (He.ga K "States") "order") fd ["self", "move"] sp ∧ Binds K fd ["self", "move"] [] ∧ PySem.W.keepIn K (.ref (He.ma K (He.ga K "States") "order")) = true) : C8.Met P w K mg base (k + 1) (He.ga K "States") "order" sp [] := by
  obtain ⟨fd, F, b, _⟩ := h
  exact ⟨_, fd, _, [], k_States T, He.meth_ok (T.f 151 (f := .b (.meth "States" "order"))), F, b, .nil⟩
theorem fn_one_more (T : Tx K mg) {k : Nat} {sp : Sp} (len : ∀ vs H Q E, sp vs H Q E → vs.length = 3) (hb : ∀ (cdv : Value) (A : Around) (outer : List Env) (s : Shared) (H : Hp) (vs : List V) (Q : VK) (E : XK), Room k (A.deeper (envOfC "one_more" (defScope s_one_more) s.heap.objs.size (He.ga K "one_more") cdv)) → sp vs H Q E → (∃ t, PSs (cxOf CX0 P w K mg base N_one_more "one_more" (defScope s_one_more) (He.ga K "one_more") cdv A outer s H E).nox (defBody s_one_more) t ∧ t { nx := fun _ H1 => Q .non H1, rt := Q } (start N_one_more vs) H)) : ∃ fd, FnOk P w K mg base CX0 (k + 1) (He.ga K "one_more") fd ["states", "sums", "best"] sp ∧ Binds K fd ["states", "sums", "best"] [] ∧ PySem.W.keepIn K (.ref (He.ga K "one_more")) = true := by
  obtain ⟨fd, F⟩ := T.s.def_ ix_one_more (d := d_one_more)
  exact ⟨fd, F.ok sc_one_more len hb, F.binds fun _ _ _ _ _ _ us hl => match us, hl with | [_, _, _], _ => rfl, F.kp⟩
theorem mk_one_more (T : Tx K mg) {k : Nat} {sp : Sp} (h : ∃ fd, FnOk P w K mg base CX0 (k + 1) (He.ga K "one_more") fd ["states", "sums", "best"] sp ∧ Binds K fd ["states", "sums", "best"] [] ∧ PySem.W.keepIn K (.ref (He.ga K "one_more")) = true) : C8.Cal P w K mg base (k + 1) "one_more" sp [] := by
  obtain ⟨fd, F, b, kp⟩ := h
  exact ⟨_, fd, _, [], F, T.glo 39, kp, b, .nil⟩
theorem fn_greatest_gap (T : Tx K mg) {k : Nat} {sp : Sp} (len : ∀ vs H Q E, sp vs H Q E → vs.length = 2) (hb : ∀ (cdv : Value) (A : Around) (outer : List Env) (s : Shared) (H : Hp) (vs : List V) (Q : VK) (E : XK), Room k (A.deeper (envOfC "greatest_gap" (defScope s_greatest_gap) s.heap.objs.size (He.ga K "greatest_gap") cdv)) → sp vs H Q E → (∃ t, PSs (cxOf CX0 P w K mg base N_greatest_gap "greatest_gap" (defScope s_greatest_gap) (He.ga K "greatest_gap") cdv A outer s H E).nox (defBody s_greatest_gap) t ∧ t { nx := fun _ H1 => Q .non H1, rt := Q } (start N_greatest_gap vs) H)) : ∃ fd, FnOk P w K mg base CX0 (k + 1) (He.ga K "greatest_gap") fd ["states", "sums"] sp ∧ Binds K fd ["states", "sums"] [] ∧ PySem.W.keepIn K (.ref (He.ga K "greatest_gap")) = true := by
  obtain ⟨fd, F⟩ := T.s.def_ ix_greatest_gap (d := d_greatest_gap)
  exact ⟨fd, F.ok sc_greatest_gap len hb, F.binds fun _ _ _ _ _ _ us hl => match us, hl with | [_, _], _ => rfl, F.kp⟩
theorem mk_greatest_gap (T : Tx K mg) {k : Nat} {sp : Sp} (h : ∃ fd, FnOk P w K mg base CX0 (k + 1) (He.ga K "greatest_gap") fd ["states", "sums"] sp ∧ Binds K fd ["states", "sums"] [] ∧ PySem.W.keepIn K (.ref (He.ga K "greatest_gap")) = true) : C8.Cal P w K mg base (k + 1) "greatest_gap" sp [] := by
  obtain ⟨fd, F, b, kp⟩ := h
  exact ⟨_, fd, _, [], F, T.glo 40, kp, b, .nil⟩
theorem fn_difference (T : Tx K mg) {k : Nat} {sp : Sp} (len : ∀ vs H Q E, sp vs H Q E → vs.length = 3) (hb : ∀ (cdv : Value) (A : Around) (outer : List Env) (s : Shared) (H : Hp) (vs : List V) (Q : VK) (E : XK), Room k (A.deeper (envOfC "difference" (defScope s_difference) s.heap.objs.size (He.ga K "difference") cdv)) → sp vs H Q E → (∃ t, PSs (cxOf CX0 P w K mg base N_difference "difference" (defScope s_difference) (He.ga K "difference") cdv A outer s H E).nox (defBody s_difference) t ∧ t { nx := fun _ H1 => Q .non H1, rt := Q } (start N_difference vs) H)) : ∃ fd, FnOk P w K mg base CX0 (k + 1) (He.ga K "difference") fd ["one", "other", "bill"] sp ∧ Binds K fd ["one", "other", "bill"] [] ∧ PySem.W.keepIn K (.ref (He.ga K "difference")) = true := by
  obtain ⟨fd, F⟩ := T.s.def_ ix_difference (d := d_difference)
  exact ⟨fd, F.ok sc_difference len hb, F.binds fun _ _ _ _ _ _ us hl => match us, hl with | [_, _, _], _ => rfl, F.kp⟩
theorem mk_difference (T : Tx K mg) {k : Nat} {sp : Sp} (h : ∃ fd, FnOk P w K mg base CX0 (k + 1) (He.ga K "difference") fd ["one", "other", "bill"] sp ∧ Binds K fd ["one", "other", "bill"] [] ∧ PySem.W.keepIn K (.ref (He.ga K "difference")) = true) : C8.Cal P w K mg base (k + 1) "difference" sp [] := by
  obtain ⟨fd, F, b, kp⟩ := h
  exact ⟨_, fd, _, [], F, T.glo 41, kp, b, .nil⟩
theorem fn_check_greatest (T : Tx K mg) {k : Nat} {sp : Sp} (len : ∀ vs H Q E, sp vs H Q E → vs.length = 2) (hb : ∀ (cdv : Value) (A : Around) (outer : List Env) (s : Shared) (H : Hp) (vs : List V) (Q : VK) (E : XK), Room k (A.deeper (envOfC "check_greatest" (defScope s_check_greatest) s.heap.objs.size (He.ga K "check_greatest") cdv)) → sp vs H Q E → (∃ t, PSs (cxOf CX0 P w K mg base N_check_greatest "check_greatest" (defScope s_check_greatest) (He.ga K "check_greatest") cdv A outer s H E).nox (defBody s_check_greatest) t ∧ t { nx := fun _ H1 => Q .non H1, rt := Q } (start N_check_greatest vs) H)) : ∃ fd, FnOk P w K mg base CX0 (k + 1) (He.ga K "check_greatest") fd ["one", "other"] sp ∧ Binds K fd ["one", "other"] [] ∧ PySem.W.keepIn K (.ref (He.ga K "check_greatest")) = true := by
  obtain ⟨fd, F⟩ := T.s.def_ ix_check_greatest (d := d_check_greatest)
  exact ⟨fd, F.ok sc_check_greatest len hb, F.binds fun _ _ _ _ _ _ us hl => match us, hl with | [_, _], _ => rfl, F.kp⟩
theorem mk_check_greatest (T : Tx K mg) {k : Nat} {sp : Sp} (h : ∃ fd, FnOk P w K mg base CX0 (k + 1) (He.ga K "check_greatest") fd ["one", "other"] sp ∧ Binds K fd ["one", "other"] [] ∧ PySem.W.keepIn K (.ref (He.ga K "check_greatest")) = true) : C8.Cal P w K mg base (k + 1) "check_greatest" sp [] := by
  obtain ⟨fd, F, b, kp⟩ := h
  exact ⟨_, fd, _, [], F, T.glo 42, kp, b, .nil⟩
theorem fn_row_of (T : Tx K mg) {k : Nat} {sp : Sp} (len : ∀ vs H Q E, sp vs H Q E → vs.length = 2) (hb : ∀ (cdv : Value) (A : Around) (outer : List Env) (s : Shared) (H : Hp) (vs : List V) (Q : VK) (E : XK), Room k (A.deeper (envOfC "row_of" (defScope s_row_of) s.heap.objs.size (He.ga K "row_of") cdv)) → sp vs H Q E → (∃ t, PSs (cxOf CX0 P w K mg base N_row_of "row_of" (defScope s_row_of) (He.ga K "row_of") cdv A outer s H E).nox (defBody s_row_of) t ∧ t { nx := fun _ H1 => Q .non H1, rt := Q } (start N_row_of vs) H)) : ∃ fd, FnOk P w K mg base CX0 (k + 1) (He.ga K "row_of") fd ["one", "other"] sp ∧ Binds K fd ["one", "other"] [] ∧ PySem.W.keepIn K (.ref (He.ga K "row_of")) = true := by
  obtain ⟨fd, F⟩ := T.s.def_ ix_row_of (d := d_row_of)
  exact ⟨fd, F.ok sc_row_of len hb, F.binds fun _ _ _ _ _ _ us hl => match us, hl with | [_, _], _ => rfl, F.kp⟩
theorem mk_row_of (T : Tx K mg) {k : Nat} {sp : Sp} (h : ∃ fd, FnOk P w K mg base CX0 (k + 1) (He.ga K "row_of") fd ["one", "other"] sp ∧ Binds K fd ["one", "other"] [] ∧ PySem.W.keepIn K (.ref (He.ga K "row_of")) = true) : C8.Cal P w K mg base (k + 1) "row_of" sp [] := by
  obtain ⟨fd, F, b, kp⟩ := h
  exact ⟨_, fd, _, [], F, T.glo 43, kp, b, .nil⟩
theorem fn_is_led_on (T : Tx K mg) {k : Nat} {sp : Sp} (len : ∀ vs H Q E, sp vs H Q E → vs.length = 5) (hb : ∀ (cdv : Value) (A : Around) (outer : List Env) (s : Shared) (H : Hp) (vs : List V) (Q : VK) (E : XK), Room k (A.deeper (envOfC "is_led_on" (defScope s_is_led_on) s.heap.objs.size (He.ga K "is_led_on") cdv)) → sp vs H Q E → (∃ t, PSs (cxOf CX0 P w K mg base N_is_led_on "is_led_on" (defScope s_is_led_on) (He.ga K "is_led_on") cdv A outer s H E).nox (defBody s_is_led_on) t ∧ t { nx := fun _ H1 => Q .non H1, rt := Q } (start N_is_led_on vs) H)) : ∃ fd, FnOk P w K mg base CX0 (k + 1) (He.ga K "is_led_on") fd ["states", "sums", "later", "move", "most"] sp ∧ Binds K fd ["states", "sums", "later", "move", "most"] [] ∧ PySem.W.keepIn K (.ref (He.ga K "is_led_on")) = true := by
  obtain ⟨fd, F⟩ := T.s.def_ ix_is_led_on (d := d_is_led_on)
  exact ⟨fd, F.ok sc_is_led_on len hb, F.binds fun _ _ _ _ _ _ us hl => match us, hl with | [_, _, _, _, _], _ => rfl, F.kp⟩
theorem mk_is_led_on (T : Tx K mg) {k : Nat} {sp : Sp} (h : ∃ fd, FnOk P w K mg base CX0 (k + 1) (He.ga K "is_led_on") fd ["states", "sums", "later", "move", "most"] sp ∧ Binds K fd ["states", "sums", "later", "move", "most"] [] ∧ PySem.W.keepIn K (.ref (He.ga K "is_led_on")) = true) : C8.Cal P w K mg base (k + 1) "is_led_on" sp [] := by
  obtain ⟨fd, F, b, kp⟩ := h
  exact ⟨_, fd, _, [], F, T.glo 44, kp, b, .nil⟩
theorem fn_greatest (T : Tx K mg) {k : Nat} {sp : Sp} (len : ∀ vs H Q E, sp vs H Q E → vs.length = 2) (hb : ∀ (cdv : Value) (A : Around) (outer : List Env) (s : Shared) (H : Hp) (vs : List V) (Q : VK) (E : XK), Room k (A.deeper (envOfC "greatest" (defScope s_greatest) s.heap.objs.size (He.ga K "greatest") cdv)) → sp vs H Q E → (∃ t, PSs (cxOf CX0 P w K mg base N_greatest "greatest" (defScope s_greatest) (He.ga K "greatest") cdv A outer s H E).nox (defBody s_greatest) t ∧ t { nx := fun _ H1 => Q .non H1, rt := Q } (start N_greatest vs) H)) : ∃ fd, FnOk P w K mg base CX0 (k + 1) (He.ga K "greatest") fd ["one", "other"] sp ∧ Binds K fd ["one", "other"] [] ∧ PySem.W.keepIn K (.ref (He.ga K "greatest")) = true := by
  obtain ⟨fd, F⟩ := T.s.def_ ix_greatest (d := d_greatest)
  exact ⟨fd, F.ok sc_greatest len hb, F.binds fun _ _ _ _ _ _ us hl => match us, hl with | [_, _], _ => rfl, F.kp⟩
theorem mk_greatest (T : Tx K mg) {k : Nat} {sp : Sp} (h : ∃ fd, FnOk P w K mg base CX0 (k + 1) (He.ga K "greatest") fd ["one", "other"] sp ∧ Binds K fd ["one", "other"] [] ∧ PySem.W.keepIn K (.ref (He.ga K "greatest")) = true) : C8.Cal P w K mg base (k + 1) "greatest" sp [] := by
  obtain ⟨fd, F, b, kp⟩ := h
  exact ⟨_, fd, _, [], F, T.glo 45, kp, b, .nil⟩
theorem fn_turned (T : Tx K mg) {k : Nat} {sp : Sp} (len : ∀ vs H Q E, sp vs H Q E → vs.length = 1) (hb : ∀ (cdv : Value) (A : Around) (outer : List Env) (s : Shared) (H : Hp) (vs : List V) (Q : VK) (E : XK), Room k (A.deeper (envOfC "turned" (defScope s_turned) s.heap.objs.size (He.ga K "turned") cdv)) → sp vs H Q E → (∃ t, PSs (cxOf CX0 P w K mg base N_turned "turned" (defScope s_turned) (He.ga K "turned") cdv A outer s H E).nox (defBody s_turned) t ∧ t { nx := fun _ H1 => Q .non H1, rt := Q } (start N_turned vs) H)) : ∃ fd, FnOk P w K mg base CX0 (k + 1) (He.ga K "turned") fd ["row"] sp ∧ Binds K fd ["row"] [] ∧ PySem.W.keepIn K (.ref (He.ga K "turned")) = true := by
  obtain ⟨fd, F⟩ := T.s.def_ ix_turned (d := d_turned)
  exact ⟨fd, F.ok sc_turned len hb, F.binds fun _ _ _ _ _ _ us hl => match us, hl with | [_], _ => rfl, F.kp⟩
theorem mk_turned (T : Tx K mg) {k : Nat} {sp : Sp} (h : ∃ fd, FnOk P w K mg base CX0 (k + 1) (He.ga K "turned") fd ["row"] sp ∧ Binds K fd ["row"] [] ∧ PySem.W.keepIn K (.ref (He.ga K "turned")) = true) : C8.Cal P w K mg base (k + 1) "turned" sp [] := by
  obtain ⟨fd, F, b, kp⟩ := h
  exact ⟨_, fd, _, [], F, T.glo 46, kp, b, .nil⟩
theorem fn_least (T : Tx K mg) {k : Nat} {sp : Sp} (len : ∀ vs H Q E, sp vs H Q E → vs.length = 2) (hb : ∀ (cdv : Value) (A : Around) (outer : List Env) (s : Shared) (H : Hp) (vs : List V) (Q : VK) (E : XK), Room k (A.deeper (envOfC "least" (defScope s_least) s.heap.objs.size (He.ga K "least") cdv)) → sp vs H Q E → (∃ t, PSs (cxOf CX0 P w K mg base N_least "least" (defScope s_least) (He.ga K "least") cdv A outer s H E).nox (defBody s_least) t ∧ t { nx := fun _ H1 => Q .non H1, rt := Q } (start N_least vs) H)) : ∃ fd, FnOk P w K mg base CX0 (k + 1) (He.ga K "least") fd ["one", "other"] sp ∧ Binds K fd ["one", "other"] [] ∧ PySem.W.keepIn K (.ref (He.ga K "least")) = true := by
  obtain ⟨fd, F⟩ := T.s.def_ ix_least (d := d_least)
  exact ⟨fd, F.ok sc_least len hb, F.binds fun _ _ _ _ _ _ us hl => match us, hl with | [_, _], _ => rfl, F.kp⟩
theorem mk_least (T : Tx K mg) {k : Nat} {sp : Sp} (h : ∃ fd, FnOk P w K mg base CX0 (k + 1) (He.ga K "least") fd ["one", "other"] sp ∧ Binds K fd ["one", "other"] [] ∧ PySem.W.keepIn K (.ref (He.ga K "least")) = true) : C8.Cal P w K mg base (k + 1) "least" sp [] := by
  obtain ⟨fd, F, b, kp⟩ := h
  exact ⟨_, fd, _, [], F, T.glo 47, kp, b, .nil⟩
theorem fn_first_other (T : Tx K mg) {k : Nat} {sp : Sp} (len : ∀ vs H Q E, sp vs H Q E → vs.length = 1) (hb : ∀ (cdv : Value) (A : Around) (outer : List Env) (s : Shared) (H : Hp) (vs : List V) (Q : VK) (E : XK), Room k (A.deeper (envOfC "first_other" (defScope s_first_other) s.heap.objs.size (He.ga K "first_other") cdv)) → sp vs H Q E → (∃ t, PSs (cxOf CX0 P w K mg base N_first_other "first_other" (defScope s_first_other) (He.ga K "first_other") cdv A outer s H E).nox (defBody s_first_other) t ∧ t { nx := fun _ H1 => Q .non H1, rt := Q } (start N_first_other vs) H)) : ∃ fd, FnOk P w K mg base CX0 (k + 1) (He.ga K "first_other") fd ["row"] sp ∧ Binds K fd ["row"] [] ∧ PySem.W.keepIn K (.ref (He.ga K "first_other")) = true := by
  obtain ⟨fd, F⟩ := T.s.def_ ix_first_other (d := d_first_other)
  exact ⟨fd, F.ok sc_first_other len hb, F.binds fun _ _ _ _ _ _ us hl => match us, hl with | [_], _ => rfl, F.kp⟩
theorem mk_first_other (T : Tx K mg) {k : Nat} {sp : Sp} (h : ∃ fd, FnOk P w K mg base CX0 (k + 1) (He.ga K "first_other") fd ["row"] sp ∧ Binds K fd ["row"] [] ∧ PySem.W.keepIn K (.ref (He.ga K "first_other")) = true) : C8.Cal P w K mg base (k + 1) "first_other" sp [] := by
  obtain ⟨fd, F, b, kp⟩ := h
  exact ⟨_, fd, _, [], F, T.glo 48, kp, b, .nil⟩
theorem fn_parting (T : Tx K mg) {k : Nat} {sp : Sp} (len : ∀ vs H Q E, sp vs H Q E → vs.length = 2) (hb : ∀ (cdv : Value) (A : Around) (outer : List Env) (s : Shared) (H : Hp) (vs : List V) (Q : VK) (E : XK), Room k (A.deeper (envOfC "parting" (defScope s_parting) s.heap.objs.size (He.ga K "parting") cdv)) → sp vs H Q E → (∃ t, PSs (cxOf CX0 P w K mg base N_parting "parting" (defScope s_parting) (He.ga K "parting") cdv A outer s H E).nox (defBody s_parting) t ∧ t { nx := fun _ H1 => Q .non H1, rt := Q } (start N_parting vs) H)) : ∃ fd, FnOk P w K mg base CX0 (k + 1) (He.ga K "parting") fd ["one", "other"] sp ∧ Binds K fd ["one", "other"] [] ∧ PySem.W.keepIn K (.ref (He.ga K "parting")) = true := by
  obtain ⟨fd, F⟩ := T.s.def_ ix_parting (d := d_parting)
  exact ⟨fd, F.ok sc_parting len hb, F.binds fun _ _ _ _ _ _ us hl => match us, hl with | [_, _], _ => rfl, F.kp⟩
theorem mk_parting (T : Tx K mg) {k : Nat} {sp : Sp} (h : ∃ fd, FnOk P w K mg base CX0 (k + 1) (He.ga K "parting") fd ["one", "other"] sp ∧ Binds K fd ["one", "other"] [] ∧ PySem.W.keepIn K (.ref (He.ga K "parting")) = true) : C8.Cal P w K mg base (k + 1) "parting" sp [] := by
  obtain ⟨fd, F, b, kp⟩ := h
  exact ⟨_, fd, _, [], F, T.glo 49, kp, b, .nil⟩
theorem fn__law_cell (T : Tx K mg) {k : Nat} {sp : Sp} (len : ∀ vs H Q E, sp vs H Q E → vs.length = 2) (hb : ∀ (cdv : Value) (A : Around) (outer : List Env) (s : Shared) (H : Hp) (vs : List V) (Q : VK) (E : XK), Room k (A.deeper (envOfC "_law_cell" (defScope s__law_cell) s.heap.objs.size (He.ga K "_law_cell") cdv)) → sp vs H Q E → (∃ t, PSs (cxOf CX0 P w K mg base N__law_cell "_law_cell" (defScope s__law_cell) (He.ga K "_law_cell") cdv A outer s H E).nox (defBody s__law_cell) t ∧ t { nx := fun _ H1 => Q .non H1, rt := Q } (start N__law_cell vs) H)) : ∃ fd, FnOk P w K mg base CX0 (k + 1) (He.ga K "_law_cell") fd ["_law_cells", "_law_spot"] sp ∧ Binds K fd ["_law_cells", "_law_spot"] [] ∧ PySem.W.keepIn K (.ref (He.ga K "_law_cell")) = true := by
  obtain ⟨fd, F⟩ := T.s.def_ ix__law_cell (d := d__law_cell)
  exact ⟨fd, F.ok sc__law_cell len hb, F.binds fun _ _ _ _ _ _ us hl => match us, hl with | [_, _], _ => rfl, F.kp⟩
theorem mk__law_cell (T : Tx K mg) {k : Nat} {sp : Sp} (h : ∃ fd, FnOk P w K mg base CX0 (k + 1) (He.ga K "_law_cell") fd ["_law_cells", "_law_spot"] sp ∧ Binds K fd ["_law_cells", "_law_spot"] [] ∧ PySem.W.keepIn K (.ref (He.ga K "_law_cell")) = true) : C8.Cal P w K mg base (k + 1) "_law_cell" sp [] := by
  obtain ⟨fd, F, b, kp⟩ := h
  exact ⟨_, fd, _, [], F, T.glo 50, kp, b, .nil⟩
theorem fn__law_jar (T : Tx K mg) {k : Nat} {sp : Sp} (len : ∀ vs H Q E, sp vs H Q E → vs.length = 2) (hb : ∀ (cdv : Value) (A : Around) (outer : List Env) (s : Shared) (H : Hp) (vs : List V) (Q : VK) (E : XK), Room k (A.deeper (envOfC "_law_jar" (defScope s__law_jar) s.heap.objs.size (He.ga K "_law_jar") cdv)) → sp vs H Q E → (∃ t, PSs (cxOf CX0 P w K mg base N__law_jar "_law_jar" (defScope s__law_jar) (He.ga K "_law_jar") cdv A outer s H E).nox (defBody s__law_jar) t ∧ t { nx := fun _ H1 => Q .non H1, rt := Q } (start N__law_jar vs) H)) : ∃ fd, FnOk P w K mg base CX0 (k + 1) (He.ga K "_law_jar") fd ["_law_cells", "_law_spot"] sp ∧ Binds K fd ["_law_cells", "_law_spot"] [] ∧ PySem.W.keepIn K (.ref (He.ga K "_law_jar")) = true := by
  obtain ⟨fd, F⟩ := T.s.def_ ix__law_jar (d := d__law_jar)
  exact ⟨fd, F.ok sc__law_jar len hb, F.binds fun _ _ _ _ _ _ us hl => match us, hl with | [_, _], _ => rfl, F.kp⟩
theorem mk__law_jar (T : Tx K mg) {k : Nat} {sp : Sp} (h : ∃ fd, FnOk P w K mg base CX0 (k + 1) (He.ga K "_law_jar") fd ["_law_cells", "_law_spot"] sp ∧ Binds K fd ["_law_cells", "_law_spot"] [] ∧ PySem.W.keepIn K (.ref (He.ga K "_law_jar")) = true) : C8.Cal P w K mg base (k + 1) "_law_jar" sp [] := by
  obtain ⟨fd, F, b, kp⟩ := h
  exact ⟨_, fd, _, [], F, T.glo 51, kp, b, .nil⟩
theorem fn__law_dig (T : Tx K mg) {k : Nat} {sp : Sp} (len : ∀ vs H Q E, sp vs H Q E → vs.length = 2) (hb : ∀ (cdv : Value) (A : Around) (outer : List Env) (s : Shared) (H : Hp) (vs : List V) (Q : VK) (E : XK), Room k (A.deeper (envOfC "_law_dig" (defScope s__law_dig) s.heap.objs.size (He.ga K "_law_dig") cdv)) → sp vs H Q E → (∃ t, PSs (cxOf CX0 P w K mg base N__law_dig "_law_dig" (defScope s__law_dig) (He.ga K "_law_dig") cdv A outer s H E).nox (defBody s__law_dig) t ∧ t { nx := fun _ H1 => Q .non H1, rt := Q } (start N__law_dig vs) H)) : ∃ fd, FnOk P w K mg base CX0 (k + 1) (He.ga K "_law_dig") fd ["_law_jar_here", "_law_many_here"] sp ∧ Binds K fd ["_law_jar_here", "_law_many_here"] [] ∧ PySem.W.keepIn K (.ref (He.ga K "_law_dig")) = true := by
  obtain ⟨fd, F⟩ := T.s.def_ ix__law_dig (d := d__law_dig)
  exact ⟨fd, F.ok sc__law_dig len hb, F.binds fun _ _ _ _ _ _ us hl => match us, hl with | [_, _], _ => rfl, F.kp⟩
theorem mk__law_dig (T : Tx K mg) {k : Nat} {sp : Sp} (h : ∃ fd, FnOk P w K mg base CX0 (k + 1) (He.ga K "_law_dig") fd ["_law_jar_here", "_law_many_here"] sp ∧ Binds K fd ["_law_jar_here", "_law_many_here"] [] ∧ PySem.W.keepIn K (.ref (He.ga K "_law_dig")) = true) : C8.Cal P w K mg base (k + 1) "_law_dig" sp [] := by
  obtain ⟨fd, F, b, kp⟩ := h
  exact ⟨_, fd, _, [], F, T.glo 52, kp, b, .nil⟩
theorem fn__law_take (T : Tx K mg) {k : Nat} {sp : Sp} (len : ∀ vs H Q E, sp vs H Q E → vs.length = 2) (hb : ∀ (cdv : Value) (A : Around) (outer : List Env) (s : Shared) (H : Hp) (vs : List V) (Q : VK) (E : XK), Room k (A.deeper (envOfC "_law_take" (defScope s__law_take) s.heap.objs.size (He.ga K "_law_take") cdv)) → sp vs H Q E → (∃ t, PSs (cxOf CX0 P w K mg base N__law_take "_law_take" (defScope s__law_take) (He.ga K "_law_take") cdv A outer s H E).nox (defBody s__law_take) t ∧ t { nx := fun _ H1 => Q .non H1, rt := Q } (start N__law_take vs) H)) : ∃ fd, FnOk P w K mg base CX0 (k + 1) (He.ga K "_law_take") fd ["_law_jar_here", "_law_some"] sp ∧ Binds K fd ["_law_jar_here", "_law_some"] [] ∧ PySem.W.keepIn K (.ref (He.ga K "_law_take")) = true := by
  obtain ⟨fd, F⟩ := T.s.def_ ix__law_take (d := d__law_take)
  exact ⟨fd, F.ok sc__law_take len hb, F.binds fun _ _ _ _ _ _ us hl => match us, hl with | [_, _], _ => rfl, F.kp⟩
theorem mk__law_take (T : Tx K mg) {k : Nat} {sp : Sp} (h : ∃ fd, FnOk P w K mg base CX0 (k + 1) (He.ga K "_law_take") fd ["_law_jar_here", "_law_some"] sp ∧ Binds K fd ["_law_jar_here", "_law_some"] [] ∧ PySem.W.keepIn K (.ref (He.ga K "_law_take")) = true) : C8.Cal P w K mg base (k + 1) "_law_take" sp [] := by
  obtain ⟨fd, F, b, kp⟩ := h
  exact ⟨_, fd, _, [], F, T.glo 53, kp, b, .nil⟩
theorem fn__law_common (T : Tx K mg) {k : Nat} {sp : Sp} (len : ∀ vs H Q E, sp vs H Q E → vs.length = 2) (hb : ∀ (cdv : Value) (A : Around) (outer : List Env) (s : Shared) (H : Hp) (vs : List V) (Q : VK) (E : XK), Room k (A.deeper (envOfC "_law_common" (defScope s__law_common) s.heap.objs.size (He.ga K "_law_common") cdv)) → sp vs H Q E → (∃ t, PSs (cxOf CX0 P w K mg base N__law_common "_law_common" (defScope s__law_common) (He.ga K "_law_common") cdv A outer s H E).nox (defBody s__law_common) t ∧ t { nx := fun _ H1 => Q .non H1, rt := Q } (start N__law_common vs) H)) : ∃ fd, FnOk P w K mg base CX0 (k + 1) (He.ga K "_law_common") fd ["_law_large", "_law_small"] sp ∧ Binds K fd ["_law_large", "_law_small"] [] ∧ PySem.W.keepIn K (.ref (He.ga K "_law_common")) = true := by
  obtain ⟨fd, F⟩ := T.s.def_ ix__law_common (d := d__law_common)
  exact ⟨fd, F.ok sc__law_common len hb, F.binds fun _ _ _ _ _ _ us hl => match us, hl with | [_, _], _ => rfl, F.kp⟩
theorem mk__law_common (T : Tx K mg) {k : Nat} {sp : Sp} (h : ∃ fd, FnOk P w K mg base CX0 (k + 1) (He.ga K "_law_common") fd ["_law_large", "_law_small"] sp ∧ Binds K fd ["_law_large", "_law_small"] [] ∧ PySem.W.keepIn K (.ref (He.ga K "_law_common")) = true) : C8.Cal P w K mg base (k + 1) "_law_common" sp [] := by
  obtain ⟨fd, F, b, kp⟩ := h
  exact ⟨_, fd, _, [], F, T.glo 54, kp, b, .nil⟩
theorem fn__law_span (T : Tx K mg) {k : Nat} {sp : Sp} (len : ∀ vs H Q E, sp vs H Q E → vs.length = 1) (hb : ∀ (cdv : Value) (A : Around) (outer : List Env) (s : Shared) (H : Hp) (vs : List V) (Q : VK) (E : XK), Room k (A.deeper (envOfC "_law_span" (defScope s__law_span) s.heap.objs.size (He.ga K "_law_span") cdv)) → sp vs H Q E → (∃ t, PSs (cxOf CX0 P w K mg base N__law_span "_law_span" (defScope s__law_span) (He.ga K "_law_span") cdv A outer s H E).nox (defBody s__law_span) t ∧ t { nx := fun _ H1 => Q .non H1, rt := Q } (start N__law_span vs) H)) : ∃ fd, FnOk P w K mg base CX0 (k + 1) (He.ga K "_law_span") fd ["_law_steps"] sp ∧ Binds K fd ["_law_steps"] [] ∧ PySem.W.keepIn K (.ref (He.ga K "_law_span")) = true := by
  obtain ⟨fd, F⟩ := T.s.def_ ix__law_span (d := d__law_span)
  exact ⟨fd, F.ok sc__law_span len hb, F.binds fun _ _ _ _ _ _ us hl => match us, hl with | [_], _ => rfl, F.kp⟩
theorem mk__law_span (T : Tx K mg) {k : Nat} {sp : Sp} (h : ∃ fd, FnOk P w K mg base CX0 (k + 1) (He.ga K "_law_span") fd ["_law_steps"] sp ∧ Binds K fd ["_law_steps"] [] ∧ PySem.W.keepIn K (.ref (He.ga K "_law_span")) = true) : C8.Cal P w K mg base (k + 1) "_law_span" sp [] := by
  obtain ⟨fd, F, b, kp⟩ := h
  exact ⟨_, fd, _, [], F, T.glo 55, kp, b, .nil⟩
theorem fn__law_fit (T : Tx K mg) {k : Nat} {sp : Sp} (len : ∀ vs H Q E, sp vs H Q E → vs.length = 1) (hb : ∀ (cdv : Value) (A : Around) (outer : List Env) (s : Shared) (H : Hp) (vs : List V) (Q : VK) (E : XK), Room k (A.deeper (envOfC "_law_fit" (defScope s__law_fit) s.heap.objs.size (He.ga K "_law_fit") cdv)) → sp vs H Q E → (∃ t, PSs (cxOf CX0 P w K mg base N__law_fit "_law_fit" (defScope s__law_fit) (He.ga K "_law_fit") cdv A outer s H E).nox (defBody s__law_fit) t ∧ t { nx := fun _ H1 => Q .non H1, rt := Q } (start N__law_fit vs) H)) : ∃ fd, FnOk P w K mg base CX0 (k + 1) (He.ga K "_law_fit") fd ["_law_plan"] sp ∧ Binds K fd ["_law_plan"] [] ∧ PySem.W.keepIn K (.ref (He.ga K "_law_fit")) = true := by
  obtain ⟨fd, F⟩ := T.s.def_ ix__law_fit (d := d__law_fit)
  exact ⟨fd, F.ok sc__law_fit len hb, F.binds fun _ _ _ _ _ _ us hl => match us, hl with | [_], _ => rfl, F.kp⟩
theorem mk__law_fit (T : Tx K mg) {k : Nat} {sp : Sp} (h : ∃ fd, FnOk P w K mg base CX0 (k + 1) (He.ga K "_law_fit") fd ["_law_plan"] sp ∧ Binds K fd ["_law_plan"] [] ∧ PySem.W.keepIn K (.ref (He.ga K "_law_fit")) = true) : C8.Cal P w K mg base (k + 1) "_law_fit" sp [] := by
  obtain ⟨fd, F, b, kp⟩ := h
  exact ⟨_, fd, _, [], F, T.glo 56, kp, b, .nil⟩
theorem fn__law_many (T : Tx K mg) {k : Nat} {sp : Sp} (len : ∀ vs H Q E, sp vs H Q E → vs.length = 1) (hb : ∀ (cdv : Value) (A : Around) (outer : List Env) (s : Shared) (H : Hp) (vs : List V) (Q : VK) (E : XK), Room k (A.deeper (envOfC "_law_many" (defScope s__law_many) s.heap.objs.size (He.ga K "_law_many") cdv)) → sp vs H Q E → (∃ t, PSs (cxOf CX0 P w K mg base N__law_many "_law_many" (defScope s__law_many) (He.ga K "_law_many") cdv A outer s H E).nox (defBody s__law_many) t ∧ t { nx := fun _ H1 => Q .non H1, rt := Q } (start N__law_many vs) H)) : ∃ fd, FnOk P w K mg base CX0 (k + 1) (He.ga K "_law_many") fd ["_law_plans"] sp ∧ Binds K fd ["_law_plans"] [] ∧ PySem.W.keepIn K (.ref (He.ga K "_law_many")) = true := by
  obtain ⟨fd, F⟩ := T.s.def_ ix__law_many (d := d__law_many)
  exact ⟨fd, F.ok sc__law_many len hb, F.binds fun _ _ _ _ _ _ us hl => match us, hl with | [_], _ => rfl, F.kp⟩
theorem mk__law_many (T : Tx K mg) {k : Nat} {sp : Sp} (h : ∃ fd, FnOk P w K mg base CX0 (k + 1) (He.ga K "_law_many") fd ["_law_plans"] sp ∧ Binds K fd ["_law_plans"] [] ∧ PySem.W.keepIn K (.ref (He.ga K "_law_many")) = true) : C8.Cal P w K mg base (k + 1) "_law_many" sp [] := by
  obtain ⟨fd, F, b, kp⟩ := h
  exact ⟨_, fd, _, [], F, T.glo 57, kp, b, .nil⟩
theorem fn__law_way (T : Tx K mg) {k : Nat} {sp : Sp} (len : ∀ vs H Q E, sp vs H Q E → vs.length = 1) (hb : ∀ (cdv : Value) (A : Around) (outer : List Env) (s : Shared) (H : Hp) (vs : List V) (Q : VK) (E : XK), Room k (A.deeper (envOfC "_law_way" (defScope s__law_way) s.heap.objs.size (He.ga K "_law_way") cdv)) → sp vs H Q E → (∃ t, PSs (cxOf CX0 P w K mg base N__law_way "_law_way" (defScope s__law_way) (He.ga K "_law_way") cdv A outer s H E).nox (defBody s__law_way) t ∧ t { nx := fun _ H1 => Q .non H1, rt := Q } (start N__law_way vs) H)) : ∃ fd, FnOk P w K mg base CX0 (k + 1) (He.ga K "_law_way") fd ["_law_jar_here"] sp ∧ Binds K fd ["_law_jar_here"] [] ∧ PySem.W.keepIn K (.ref (He.ga K "_law_way")) = true := by
  obtain ⟨fd, F⟩ := T.s.def_ ix__law_way (d := d__law_way)
  exact ⟨fd, F.ok sc__law_way len hb, F.binds fun _ _ _ _ _ _ us hl => match us, hl with | [_], _ => rfl, F.kp⟩
theorem mk__law_way (T : Tx K mg) {k : Nat} {sp : Sp} (h : ∃ fd, FnOk P w K mg base CX0 (k + 1) (He.ga K "_law_way") fd ["_law_jar_here"] sp ∧ Binds K fd ["_law_jar_here"] [] ∧ PySem.W.keepIn K (.ref (He.ga K "_law_way")) = true) : C8.Cal P w K mg base (k + 1) "_law_way" sp [] := by
  obtain ⟨fd, F, b, kp⟩ := h
  exact ⟨_, fd, _, [], F, T.glo 58, kp, b, .nil⟩
theorem fn__law_factor (T : Tx K mg) {k : Nat} {sp : Sp} (len : ∀ vs H Q E, sp vs H Q E → vs.length = 1) (hb : ∀ (cdv : Value) (A : Around) (outer : List Env) (s : Shared) (H : Hp) (vs : List V) (Q : VK) (E : XK), Room k (A.deeper (envOfC "_law_factor" (defScope s__law_factor) s.heap.objs.size (He.ga K "_law_factor") cdv)) → sp vs H Q E → (∃ t, PSs (cxOf CX0 P w K mg base N__law_factor "_law_factor" (defScope s__law_factor) (He.ga K "_law_factor") cdv A outer s H E).nox (defBody s__law_factor) t ∧ t { nx := fun _ H1 => Q .non H1, rt := Q } (start N__law_factor vs) H)) : ∃ fd, FnOk P w K mg base CX0 (k + 1) (He.ga K "_law_factor") fd ["_law_jar_here"] sp ∧ Binds K fd ["_law_jar_here"] [] ∧ PySem.W.keepIn K (.ref (He.ga K "_law_factor")) = true := by
  obtain ⟨fd, F⟩ := T.s.def_ ix__law_factor (d := d__law_factor)
  exact ⟨fd, F.ok sc__law_factor len hb, F.binds fun _ _ _ _ _ _ us hl => match us, hl with | [_], _ => rfl, F.kp⟩
theorem mk__law_factor (T : Tx K mg) {k : Nat} {sp : Sp} (h : ∃ fd, FnOk P w K mg base CX0 (k + 1) (He.ga K "_law_factor") fd ["_law_jar_here"] sp ∧ Binds K fd ["_law_jar_here"] [] ∧ PySem.W.keepIn K (.ref (He.ga K "_law_factor")) = true) : C8.Cal P w K mg base (k + 1) "_law_factor" sp [] := by
  obtain ⟨fd, F, b, kp⟩ := h
  exact ⟨_, fd, _, [], F, T.glo 59, kp, b, .nil⟩
theorem fn__law_step (T : Tx K mg) {k : Nat} {sp : Sp} (len : ∀ vs H Q E, sp vs H Q E → vs.length = 2) (hb : ∀ (cdv : Value) (A : Around) (outer : List Env) (s : Shared) (H : Hp) (vs : List V) (Q : VK) (E : XK), Room k (A.deeper (envOfC "_law_step" (defScope s__law_step) s.heap.objs.size (He.ga K "_law_step") cdv)) → sp vs H Q E → (∃ t, PSs (cxOf CX0 P w K mg base N__law_step "_law_step" (defScope s__law_step) (He.ga K "_law_step") cdv A outer s H E).nox (defBody s__law_step) t ∧ t { nx := fun _ H1 => Q .non H1, rt := Q } (start N__law_step vs) H)) : ∃ fd, FnOk P w K mg base CX0 (k + 1) (He.ga K "_law_step") fd ["_law_jar_here", "_law_factor_here"] sp ∧ Binds K fd ["_law_jar_here", "_law_factor_here"] [] ∧ PySem.W.keepIn K (.ref (He.ga K "_law_step")) = true := by
  obtain ⟨fd, F⟩ := T.s.def_ ix__law_step (d := d__law_step)
  exact ⟨fd, F.ok sc__law_step len hb, F.binds fun _ _ _ _ _ _ us hl => match us, hl with | [_, _], _ => rfl, F.kp⟩
theorem mk__law_step (T : Tx K mg) {k : Nat} {sp : Sp} (h : ∃ fd, FnOk P w K mg base CX0 (k + 1) (He.ga K "_law_step") fd ["_law_jar_here", "_law_factor_here"] sp ∧ Binds K fd ["_law_jar_here", "_law_factor_here"] [] ∧ PySem.W.keepIn K (.ref (He.ga K "_law_step")) = true) : C8.Cal P w K mg base (k + 1) "_law_step" sp [] := by
  obtain ⟨fd, F, b, kp⟩ := h
  exact ⟨_, fd, _, [], F, T.glo 60, kp, b, .nil⟩
theorem fn__law_extra (T : Tx K mg) {k : Nat} {sp : Sp} (len : ∀ vs H Q E, sp vs H Q E → vs.length = 1) (hb : ∀ (cdv : Value) (A : Around) (outer : List Env) (s : Shared) (H : Hp) (vs : List V) (Q : VK) (E : XK), Room k (A.deeper (envOfC "_law_extra" (defScope s__law_extra) s.heap.objs.size (He.ga K "_law_extra") cdv)) → sp vs H Q E → (∃ t, PSs (cxOf CX0 P w K mg base N__law_extra "_law_extra" (defScope s__law_extra) (He.ga K "_law_extra") cdv A outer s H E).nox (defBody s__law_extra) t ∧ t { nx := fun _ H1 => Q .non H1, rt := Q } (start N__law_extra vs) H)) : ∃ fd, FnOk P w K mg base CX0 (k + 1) (He.ga K "_law_extra") fd ["_law_jar_here"] sp ∧ Binds K fd ["_law_jar_here"] [] ∧ PySem.W.keepIn K (.ref (He.ga K "_law_extra")) = true := by
  obtain ⟨fd, F⟩ := T.s.def_ ix__law_extra (d := d__law_extra)
  exact ⟨fd, F.ok sc__law_extra len hb, F.binds fun _ _ _ _ _ _ us hl => match us, hl with | [_], _ => rfl, F.kp⟩
theorem mk__law_extra (T : Tx K mg) {k : Nat} {sp : Sp} (h : ∃ fd, FnOk P w K mg base CX0 (k + 1) (He.ga K "_law_extra") fd ["_law_jar_here"] sp ∧ Binds K fd ["_law_jar_here"] [] ∧ PySem.W.keepIn K (.ref (He.ga K "_law_extra")) = true) : C8.Cal P w K mg base (k + 1) "_law_extra" sp [] := by
  obtain ⟨fd, F, b, kp⟩ := h
  exact ⟨_, fd, _, [], F, T.glo 61, kp, b, .nil⟩
theorem fn__law_laid (T : Tx K mg) {k : Nat} {sp : Sp} (len : ∀ vs H Q E, sp vs H Q E → vs.length = 4) (hb : ∀ (cdv : Value) (A : Around) (outer : List Env) (s : Shared) (H : Hp) (vs : List V) (Q : VK) (E : XK), Room k (A.deeper (envOfC "_law_laid" (defScope s__law_laid) s.heap.objs.size (He.ga K "_law_laid") cdv)) → sp vs H Q E → (∃ t, PSs (cxOf CX0 P w K mg base N__law_laid "_law_laid" (defScope s__law_laid) (He.ga K "_law_laid") cdv A outer s H E).nox (defBody s__law_laid) t ∧ t { nx := fun _ H1 => Q .non H1, rt := Q } (start N__law_laid vs) H)) : ∃ fd, FnOk P w K mg base CX0 (k + 1) (He.ga K "_law_laid") fd ["_law_jar_here", "_law_labels", "_law_factors", "_law_way_here"] sp ∧ Binds K fd ["_law_jar_here", "_law_labels", "_law_factors", "_law_way_here"] [] ∧ PySem.W.keepIn K (.ref (He.ga K "_law_laid")) = true := by
  obtain ⟨fd, F⟩ := T.s.def_ ix__law_laid (d := d__law_laid)
  exact ⟨fd, F.ok sc__law_laid len hb, F.binds fun _ _ _ _ _ _ us hl => match us, hl with | [_, _, _, _], _ => rfl, F.kp⟩
theorem mk__law_laid (T : Tx K mg) {k : Nat} {sp : Sp} (h : ∃ fd, FnOk P w K mg base CX0 (k + 1) (He.ga K "_law_laid") fd ["_law_jar_here", "_law_labels", "_law_factors", "_law_way_here"] sp ∧ Binds K fd ["_law_jar_here", "_law_labels", "_law_factors", "_law_way_here"] [] ∧ PySem.W.keepIn K (.ref (He.ga K "_law_laid")) = true) : C8.Cal P w K mg base (k + 1) "_law_laid" sp [] := by
  obtain ⟨fd, F, b, kp⟩ := h
  exact ⟨_, fd, _, [], F, T.glo 62, kp, b, .nil⟩
theorem fn__law_pair (T : Tx K mg) {k : Nat} {sp : Sp} (len : ∀ vs H Q E, sp vs H Q E → vs.length = 3) (hb : ∀ (cdv : Value) (A : Around) (outer : List Env) (s : Shared) (H : Hp) (vs : List V) (Q : VK) (E : XK), Room k (A.deeper (envOfC "_law_pair" (defScope s__law_pair) s.heap.objs.size (He.ga K "_law_pair") cdv)) → sp vs H Q E → (∃ t, PSs (cxOf CX0 P w K mg base N__law_pair "_law_pair" (defScope s__law_pair) (He.ga K "_law_pair") cdv A outer s H E).nox (defBody s__law_pair) t ∧ t { nx := fun _ H1 => Q .non H1, rt := Q } (start N__law_pair vs) H)) : ∃ fd, FnOk P w K mg base CX0 (k + 1) (He.ga K "_law_pair") fd ["_law_jar_here", "_law_states", "_law_most"] sp ∧ Binds K fd ["_law_jar_here", "_law_states", "_law_most"] [] ∧ PySem.W.keepIn K (.ref (He.ga K "_law_pair")) = true := by
  obtain ⟨fd, F⟩ := T.s.def_ ix__law_pair (d := d__law_pair)
  exact ⟨fd, F.ok sc__law_pair len hb, F.binds fun _ _ _ _ _ _ us hl => match us, hl with | [_, _, _], _ => rfl, F.kp⟩
theorem mk__law_pair (T : Tx K mg) {k : Nat} {sp : Sp} (h : ∃ fd, FnOk P w K mg base CX0 (k + 1) (He.ga K "_law_pair") fd ["_law_jar_here", "_law_states", "_law_most"] sp ∧ Binds K fd ["_law_jar_here", "_law_states", "_law_most"] [] ∧ PySem.W.keepIn K (.ref (He.ga K "_law_pair")) = true) : C8.Cal P w K mg base (k + 1) "_law_pair" sp [] := by
  obtain ⟨fd, F, b, kp⟩ := h
  exact ⟨_, fd, _, [], F, T.glo 63, kp, b, .nil⟩
theorem fn__law_books (T : Tx K mg) {k : Nat} {sp : Sp} (len : ∀ vs H Q E, sp vs H Q E → vs.length = 1) (hb : ∀ (cdv : Value) (A : Around) (outer : List Env) (s : Shared) (H : Hp) (vs : List V) (Q : VK) (E : XK), Room k (A.deeper (envOfC "_law_books" (defScope s__law_books) s.heap.objs.size (He.ga K "_law_books") cdv)) → sp vs H Q E → (∃ t, PSs (cxOf CX0 P w K mg base N__law_books "_law_books" (defScope s__law_books) (He.ga K "_law_books") cdv A outer s H E).nox (defBody s__law_books) t ∧ t { nx := fun _ H1 => Q .non H1, rt := Q } (start N__law_books vs) H)) : ∃ fd, FnOk P w K mg base CX0 (k + 1) (He.ga K "_law_books") fd ["_law_plans"] sp ∧ Binds K fd ["_law_plans"] [] ∧ PySem.W.keepIn K (.ref (He.ga K "_law_books")) = true := by
  obtain ⟨fd, F⟩ := T.s.def_ ix__law_books (d := d__law_books)
  exact ⟨fd, F.ok sc__law_books len hb, F.binds fun _ _ _ _ _ _ us hl => match us, hl with | [_], _ => rfl, F.kp⟩
theorem mk__law_books (T : Tx K mg) {k : Nat} {sp : Sp} (h : ∃ fd, FnOk P w K mg base CX0 (k + 1) (He.ga K "_law_books") fd ["_law_plans"] sp ∧ Binds K fd ["_law_plans"] [] ∧ PySem.W.keepIn K (.ref (He.ga K "_law_books")) = true) : C8.Cal P w K mg base (k + 1) "_law_books" sp [] := by
  obtain ⟨fd, F, b, kp⟩ := h
  exact ⟨_, fd, _, [], F, T.glo 64, kp, b, .nil⟩
theorem fn__law_right (T : Tx K mg) {k : Nat} {sp : Sp} (len : ∀ vs H Q E, sp vs H Q E → vs.length = 1) (hb : ∀ (cdv : Value) (A : Around) (outer : List Env) (s : Shared) (H : Hp) (vs : List V) (Q : VK) (E : XK), Room k (A.deeper (envOfC "_law_right" (defScope s__law_right) s.heap.objs.size (He.ga K "_law_right") cdv)) → sp vs H Q E → (∃ t, PSs (cxOf CX0 P w K mg base N__law_right "_law_right" (defScope s__law_right) (He.ga K "_law_right") cdv A outer s H E).nox (defBody s__law_right) t ∧ t { nx := fun _ H1 => Q .non H1, rt := Q } (start N__law_right vs) H)) : ∃ fd, FnOk P w K mg base CX0 (k + 1) (He.ga K "_law_right") fd ["_law_jar_here"] sp ∧ Binds K fd ["_law_jar_here"] [] ∧ PySem.W.keepIn K (.ref (He.ga K "_law_right")) = true := by
  obtain ⟨fd, F⟩ := T.s.def_ ix__law_right (d := d__law_right)
  exact ⟨fd, F.ok sc__law_right len hb, F.binds fun _ _ _ _ _ _ us hl => match us, hl with | [_], _ => rfl, F.kp⟩
theorem mk__law_right (T : Tx K mg) {k : Nat} {sp : Sp} (h : ∃ fd, FnOk P w K mg base CX0 (k + 1) (He.ga K "_law_right") fd ["_law_jar_here"] sp ∧ Binds K fd ["_law_jar_here"] [] ∧ PySem.W.keepIn K (.ref (He.ga K "_law_right")) = true) : C8.Cal P w K mg base (k + 1) "_law_right" sp [] := by
  obtain ⟨fd, F, b, kp⟩ := h
  exact ⟨_, fd, _, [], F, T.glo 65, kp, b, .nil⟩
theorem fn_law (T : Tx K mg) {k : Nat} {sp : Sp} (len : ∀ vs H Q E, sp vs H Q E → vs.length = 1) (hb : ∀ (cdv : Value) (A : Around) (outer : List Env) (s : Shared) (H : Hp) (vs : List V) (Q : VK) (E : XK), Room k (A.deeper (envOfC "law" (defScope s_law) s.heap.objs.size (He.ga K "law") cdv)) → sp vs H Q E → (∃ t, PSs (cxOf CX0 P w K mg base N_law "law" (defScope s_law) (He.ga K "law") cdv A outer s H E).nox (defBody s_law) t ∧ t { nx := fun _ H1 => Q .non H1, rt := Q } (start N_law vs) H)) : ∃ fd, FnOk P w K mg base CX0 (k + 1) (He.ga K "law") fd ["_law_cells"] sp ∧ Binds K fd ["_law_cells"] [] ∧ PySem.W.keepIn K (.ref (He.ga K "law")) = true := by
  obtain ⟨fd, F⟩ := T.s.def_ ix_law (d := d_law)
  exact ⟨fd, F.ok sc_law len hb, F.binds fun _ _ _ _ _ _ us hl => match us, hl with | [_], _ => rfl, F.kp⟩
theorem mk_law (T : Tx K mg) {k : Nat} {sp : Sp} (h : ∃ fd, FnOk P w K mg base CX0 (k + 1) (He.ga K "law") fd ["_law_cells"] sp ∧ Binds K fd ["_law_cells"] [] ∧ PySem.W.keepIn K (.ref (He.ga K "law")) = true) : C8.Cal P w K mg base (k + 1) "law" sp [] := by
  obtain ⟨fd, F, b, kp⟩ := h
  exact ⟨_, fd, _, [], F, T.glo 66, kp, b, .nil⟩
end
end Lf

set_option Elab.async false
set_option linter.all false
set_option maxRecDepth 100000
set_option maxHeartbeats 4000000
namespace Lf
open PySem PySem.Spec PyProof.Rows L2 Lc

def der_is_integer {P : Program} {w : World} {K : PySem.W.Frag} {mg : Str → Option Value} {base : Heap} (T : Tx K mg)   {cdv : Value} {A : Around} {outer : List Env} {s : Shared} {H : Hp} {E : XK} (hr : Room 0 (A.deeper (envOfC "is_integer" (defScope s_is_integer) s.heap.objs.size (He.ga K "is_integer") cdv))) :
    { t : TS // PSs (cxOf CX0 P w K mg base N_is_integer "is_integer" (defScope s_is_integer) (He.ga K "is_integer") cdv A outer s H E).nox (defBody s_is_integer) t } := ⟨_, (pss_one (ps_ret (pe_and (pe_callB call_isi (by rfl) (b_isinstance T) (by decide +kernel) (pa_cons (pv 0) (pa_cons (pe_bltn (v := .ty "int") rfl (b_int T) (by decide +kernel) rfl) pa_nil))) (pe_one (pe_not (pe_callB call_isi (by rfl) (b_isinstance T) (by decide +kernel) (pa_cons (pv 0) (pa_cons (pe_bltn (v := .ty "bool") rfl (b_bool T) (by decide +kernel) rfl) pa_nil))))))))⟩

def der_is_between {P : Program} {w : World} {K : PySem.W.Frag} {mg : Str → Option Value} {base : Heap} (T : Tx K mg) {sp_is_integer : Sp} (c_is_integer : C8.Cal P w K mg base 1 "is_integer" sp_is_integer []) {cdv : Value} {A : Around} {outer : List Env} {s : Shared} {H : Hp} {E : XK} (hr : Room 1 (A.deeper (envOfC "is_between" (defScope s_is_between) s.heap.objs.size (He.ga K "is_between") cdv))) :
    { t : TS // PSs (cxOf CX0 P w K mg base N_is_between "is_between" (defScope s_is_between) (He.ga K "is_between") cdv A outer s H E).nox (defBody s_is_between) t } := ⟨_, (pss_one (ps_ret (pe_and (C8.pe_c c_is_integer hr (by decide) rfl (pa_cons (pv 0) pa_nil)) (pe_and (pe_cmpR op_ge (pv 0) (pv 1) (nomark _)) (pe_one (pe_or (pe_cmpR op_isN (pv 2) pe_non (nomark _)) (pe_one (pe_cmpR op_le (pv 0) (pv 2) (nomark _)))))))))⟩

def der_check_number {P : Program} {w : World} {K : PySem.W.Frag} {mg : Str → Option Value} {base : Heap} (T : Tx K mg) {sp_is_between : Sp} (c_is_between : C8.Cal P w K mg base 2 "is_between" sp_is_between []) {cdv : Value} {A : Around} {outer : List Env} {s : Shared} {H : Hp} {E : XK} (hr : Room 2 (A.deeper (envOfC "check_number" (defScope s_check_number) s.heap.objs.size (He.ga K "check_number") cdv))) :
    { t : TS // PSs (cxOf CX0 P w K mg base N_check_number "check_number" (defScope s_check_number) (He.ga K "check_number") cdv A outer s H E).nox (defBody s_check_number) t } := ⟨_, (pss_one (ps_if (pt_not (pt_val (C8.pe_c c_is_between hr (by decide) rfl (pa_cons (pv 0) (pa_cons (pv 1) (pa_cons (pv 2) pa_nil))))))
  pss_never
  pss_nil))⟩

def der_is_name {P : Program} {w : World} {K : PySem.W.Frag} {mg : Str → Option Value} {base : Heap} (T : Tx K mg)   {cdv : Value} {A : Around} {outer : List Env} {s : Shared} {H : Hp} {E : XK} (hr : Room 0 (A.deeper (envOfC "is_name" (defScope s_is_name) s.heap.objs.size (He.ga K "is_name") cdv))) :
    { t : TS // PSs (cxOf CX0 P w K mg base N_is_name "is_name" (defScope s_is_name) (He.ga K "is_name") cdv A outer s H E).nox (defBody s_is_name) t } := ⟨_, (pss_cons (ps_if (PW.pt (pw_or (pt_not (pt_val (pe_callB call_isi (by rfl) (b_isinstance T) (by decide +kernel) (pa_cons (pv 0) (pa_cons (pe_bltn (v := .ty "str") rfl (b_str T) (by decide +kernel) rfl) pa_nil))))) (pw_or (pt_not (pt_chain op_le op_le pe_int (pe_callB call_len_str (by rfl) (b_len T) (by decide +kernel) (pa_cons (pv 0) pa_nil)) (C8.pe_gc rfl (q_LONGEST_NAME T)))) (pw_or1 (pt_cmpR op_notIn_sign (pe_ix ix_str (pv 0) pe_int (fun _ _ => rfl)) (C8.pe_gc rfl (q_LETTERS T)) rfl)))))
  (pss_one (ps_ret pe_bl))
  pss_nil)
  (pss_one (ps_ret (pe_callB (Lr.kall K rfl) (by rfl) (b_all T) (by decide +kernel) (pa_cons (Lr.pe_lcW (pe_lc (own := [("sign", 1)]) rfl sc_is_name.nd (pi_str (pv 0)) (blkOk_by (own := [("sign", 1)]) (N := N_is_name) (sc := defScope s_is_name) (by decide +kernel)) (fun _ _ _ _ _ => (pg_name (i := 1) sc_is_name.nd rfl (by first | exact Or.inl rfl | exact Or.inr rfl))) (fun _ _ _ _ _ => pts_nil) (fun _ _ _ _ _ => (pe_or (pe_cmpR op_in_sign (pv 1) (C8.pe_gc rfl (q_LETTERS T)) rfl) (pe_one (pe_cmpR op_in_sign (pv 1) (C8.pe_gc rfl (q_DIGITS T)) rfl)))))) pa_nil)))))⟩

def der_common_divisor {P : Program} {w : World} {K : PySem.W.Frag} {mg : Str → Option Value} {base : Heap} (T : Tx K mg)   {cdv : Value} {A : Around} {outer : List Env} {s : Shared} {H : Hp} {E : XK} (hr : Room 0 (A.deeper (envOfC "common_divisor" (defScope s_common_divisor) s.heap.objs.size (He.ga K "common_divisor") cdv))) :
    { t : TS // PSs (cxOf CX0 P w K mg base N_common_divisor "common_divisor" (defScope s_common_divisor) (He.ga K "common_divisor") cdv A outer s H E).nox (defBody s_common_divisor) t } := ⟨_, (pss_cons (ps_while PassesOwn.never (pt_cmpR op_gt (pv 1) pe_int (nomark _))
  (pss_one (ps_par (i := 0) (j := 1) rfl sc_common_divisor.nd rfl rfl (by decide) rfl rfl (pa_cons (pv 1) (pa_cons (pe_op op_mod (pv 0) (pv 1)) pa_nil)) (by rfl))))
  (pss_one (ps_ret (pv 0))))⟩

def der_common_multiple {P : Program} {w : World} {K : PySem.W.Frag} {mg : Str → Option Value} {base : Heap} (T : Tx K mg) {sp_common_divisor : Sp} (c_common_divisor : C8.Cal P w K mg base 1 "common_divisor" sp_common_divisor []) {cdv : Value} {A : Around} {outer : List Env} {s : Shared} {H : Hp} {E : XK} (hr : Room 1 (A.deeper (envOfC "common_multiple" (defScope s_common_multiple) s.heap.objs.size (He.ga K "common_multiple") cdv))) :
    { t : TS // PSs (cxOf CX0 P w K mg base N_common_multiple "common_multiple" (defScope s_common_multiple) (He.ga K "common_multiple") cdv A outer s H E).nox (defBody s_common_multiple) t } := ⟨_, (pss_one (ps_ret (pe_op Lr.op_mulE (pe_op op_fdivW (pv 0) (C8.pe_c c_common_divisor hr (by decide) rfl (pa_cons (pv 0) (pa_cons (pv 1) pa_nil)))) (pv 1))))⟩

def der_fraction {P : Program} {w : World} {K : PySem.W.Frag} {mg : Str → Option Value} {base : Heap} (T : Tx K mg) {sp_common_divisor : Sp} (c_common_divisor : C8.Cal P w K mg base 1 "common_divisor" sp_common_divisor []) {cdv : Value} {A : Around} {outer : List Env} {s : Shared} {H : Hp} {E : XK} (hr : Room 1 (A.deeper (envOfC "fraction" (defScope s_fraction) s.heap.objs.size (He.ga K "fraction") cdv))) :
    { t : TS // PSs (cxOf CX0 P w K mg base N_fraction "fraction" (defScope s_fraction) (He.ga K "fraction") cdv A outer s H E).nox (defBody s_fraction) t } := ⟨_, (pss_cons (ps_set (i := 2) sc_fraction.nd rfl (by first | exact Or.inl rfl | exact Or.inr rfl) (C8.pe_c c_common_divisor hr (by decide) rfl (pa_cons (pe_callB call_abs (by rfl) (b_abs T) (by decide +kernel) (pa_cons (pv 0) pa_nil)) (pa_cons (pv 1) pa_nil))))
  (pss_one (ps_ret (pe_tup (pa_cons (pe_op op_fdivW (pv 0) (pv 2)) (pa_cons (pe_op op_fdivW (pv 1) (pv 2)) pa_nil))))))⟩

def der_times {P : Program} {w : World} {K : PySem.W.Frag} {mg : Str → Option Value} {base : Heap} (T : Tx K mg) {sp_fraction : Sp} (c_fraction : C8.Cal P w K mg base 2 "fraction" sp_fraction []) {cdv : Value} {A : Around} {outer : List Env} {s : Shared} {H : Hp} {E : XK} (hr : Room 2 (A.deeper (envOfC "times" (defScope s_times) s.heap.objs.size (He.ga K "times") cdv))) :
    { t : TS // PSs (cxOf CX0 P w K mg base N_times "times" (defScope s_times) (He.ga K "times") cdv A outer s H E).nox (defBody s_times) t } := ⟨_, (pss_one (ps_ret (C8.pe_c c_fraction hr (by decide) rfl (pa_cons (pe_op Lr.op_mulE (pe_ix (Lr.kix_tup K) (pv 0) pe_int (fun _ _ => rfl)) (pe_ix (Lr.kix_tup K) (pv 1) pe_int (fun _ _ => rfl))) (pa_cons (pe_op Lr.op_mulE (pe_ix (Lr.kix_tup K) (pv 0) pe_int (fun _ _ => rfl)) (pe_ix (Lr.kix_tup K) (pv 1) pe_int (fun _ _ => rfl))) pa_nil)))))⟩

def der_less {P : Program} {w : World} {K : PySem.W.Frag} {mg : Str → Option Value} {base : Heap} (T : Tx K mg) {sp_fraction : Sp} (c_fraction : C8.Cal P w K mg base 2 "fraction" sp_fraction []) {cdv : Value} {A : Around} {outer : List Env} {s : Shared} {H : Hp} {E : XK} (hr : Room 2 (A.deeper (envOfC "less" (defScope s_less) s.heap.objs.size (He.ga K "less") cdv))) :
    { t : TS // PSs (cxOf CX0 P w K mg base N_less "less" (defScope s_less) (He.ga K "less") cdv A outer s H E).nox (defBody s_less) t } := ⟨_, (pss_one (ps_ret (C8.pe_c c_fraction hr (by decide) rfl (pa_cons (pe_op op_sub (pe_op Lr.op_mulE (pe_ix (Lr.kix_tup K) (pv 0) pe_int (fun _ _ => rfl)) (pe_ix (Lr.kix_tup K) (pv 1) pe_int (fun _ _ => rfl))) (pe_op Lr.op_mulE (pe_ix (Lr.kix_tup K) (pv 1) pe_int (fun _ _ => rfl)) (pe_ix (Lr.kix_tup K) (pv 0) pe_int (fun _ _ => rfl)))) (pa_cons (pe_op Lr.op_mulE (pe_ix (Lr.kix_tup K) (pv 0) pe_int (fun _ _ => rfl)) (pe_ix (Lr.kix_tup K) (pv 1) pe_int (fun _ _ => rfl))) pa_nil)))))⟩

def der_is_step {P : Program} {w : World} {K : PySem.W.Frag} {mg : Str → Option Value} {base : Heap} (T : Tx K mg) {sp_is_between : Sp} (c_is_between : C8.Cal P w K mg base 2 "is_between" sp_is_between []) {cdv : Value} {A : Around} {outer : List Env} {s : Shared} {H : Hp} {E : XK} (hr : Room 2 (A.deeper (envOfC "is_step" (defScope s_is_step) s.heap.objs.size (He.ga K "is_step") cdv))) :
    { t : TS // PSs (cxOf CX0 P w K mg base N_is_step "is_step" (defScope s_is_step) (He.ga K "is_step") cdv A outer s H E).nox (defBody s_is_step) t } := ⟨_, (pss_cons (ps_if (PW.pt (pw_or (pt_not (pt_val (pe_callB call_isi (by rfl) (b_isinstance T) (by decide +kernel) (pa_cons (pv 0) (pa_cons (pe_bltn (v := .ty "tuple") rfl (b_tuple T) (by decide +kernel) rfl) pa_nil))))) (pw_or (pt_cmpR op_eq (pe_callB (Lr.klen_seq K) (by rfl) (b_len T) (by decide +kernel) (pa_cons (pv 0) pa_nil)) pe_int (nomark _)) (pw_or1 (pt_not (pt_val (pe_callB call_isi (by rfl) (b_isinstance T) (by decide +kernel) (pa_cons (pe_ix (Lr.kix_tup K) (pv 0) pe_int (fun _ _ => rfl)) (pa_cons (pe_bltn (v := .ty "str") rfl (b_str T) (by decide +kernel) rfl) pa_nil)))))))))
  (pss_one (ps_ret pe_bl))
  pss_nil)
  (pss_cons (ps_if (pt_cmpR op_eq (pe_ix (Lr.kix_tup K) (pv 0) pe_int (fun _ _ => rfl)) pe_str (nomark _))
  (pss_one (ps_ret (pe_and (pe_cmpR op_eq (pe_callB (Lr.klen_seq K) (by rfl) (b_len T) (by decide +kernel) (pa_cons (pv 0) pa_nil)) (C8.pe_gc rfl (q_PLUS_SIZE T)) (nomark _)) (pe_one (C8.pe_c c_is_between hr (by decide) rfl (pa_cons (pe_ix (Lr.kix_tup K) (pv 0) pe_int (fun _ _ => rfl)) (pa_cons (pe_un un_neg (C8.pe_gc rfl (q_MOST_PLUS T))) (pa_cons (C8.pe_gc rfl (q_MOST_PLUS T)) pa_nil))))))))
  pss_nil)
  (pss_cons (ps_if (PW.pt (pw_or (pt_cmpR op_ne (pe_ix (Lr.kix_tup K) (pv 0) pe_int (fun _ _ => rfl)) pe_str (nomark _)) (pw_or (pt_cmpR op_ne (pe_callB (Lr.klen_seq K) (by rfl) (b_len T) (by decide +kernel) (pa_cons (pv 0) pa_nil)) (C8.pe_gc rfl (q_TIMES_SIZE T)) (nomark _)) (pw_or (pt_not (pt_val (pe_callB call_isi (by rfl) (b_isinstance T) (by decide +kernel) (pa_cons (pe_ix (Lr.kix_tup K) (pv 0) pe_int (fun _ _ => rfl)) (pa_cons (pe_bltn (v := .ty "str") rfl (b_str T) (by decide +kernel) rfl) pa_nil))))) (pw_or1 (pt_cmpR (Lr.knotIn_seq K) (pe_ix (Lr.kix_tup K) (pv 0) pe_int (fun _ _ => rfl)) (C8.pe_gc rfl (q_WAYS T)) rfl))))))
  (pss_one (ps_ret pe_bl))
  pss_nil)
  (pss_cons (ps_if (PW.pt (pw_or (pt_not (pt_val (C8.pe_c c_is_between hr (by decide) rfl (pa_cons (pe_ix (Lr.kix_tup K) (pv 0) pe_int (fun _ _ => rfl)) (pa_cons pe_int (pa_cons (C8.pe_gc rfl (q_MOST_FACTOR T)) pa_nil)))))) (pw_or1 (pt_not (pt_val (C8.pe_c c_is_between hr (by decide) rfl (pa_cons (pe_ix (Lr.kix_tup K) (pv 0) pe_int (fun _ _ => rfl)) (pa_cons pe_int (pa_cons (C8.pe_gc rfl (q_MOST_FACTOR T)) pa_nil)))))))))
  (pss_one (ps_ret pe_bl))
  pss_nil)
  (pss_one (ps_ret (C8.pe_c c_is_between hr (by decide) rfl (pa_cons (pe_ix (Lr.kix_tup K) (pv 0) pe_int (fun _ _ => rfl)) (pa_cons pe_int (pa_cons (C8.pe_gc rfl (q_MOST_UNIT T)) pa_nil))))))))))⟩

def der_wrong_step {P : Program} {w : World} {K : PySem.W.Frag} {mg : Str → Option Value} {base : Heap} (T : Tx K mg) {sp_is_step : Sp} (c_is_step : C8.Cal P w K mg base 3 "is_step" sp_is_step []) {cdv : Value} {A : Around} {outer : List Env} {s : Shared} {H : Hp} {E : XK} (hr : Room 3 (A.deeper (envOfC "wrong_step" (defScope s_wrong_step) s.heap.objs.size (He.ga K "wrong_step") cdv))) :
    { t : TS // PSs (cxOf CX0 P w K mg base N_wrong_step "wrong_step" (defScope s_wrong_step) (He.ga K "wrong_step") cdv A outer s H E).nox (defBody s_wrong_step) t } := ⟨_, (pss_cons (ps_for PassesOwn.never rfl (Lr.pi_En rfl (b_enumerate T) (pa_cons (pv 0) pa_nil)) (Lr.kpg_tup K (n := 2) rfl (pgs_cons (pg_name (i := 1) sc_wrong_step.nd rfl (by first | exact Or.inl rfl | exact Or.inr rfl)) (pgs_cons (pg_name (i := 2) sc_wrong_step.nd rfl (by first | exact Or.inl rfl | exact Or.inr rfl)) pgs_nil)))
  (pss_one (ps_if (PW.pt (pw_or (pt_cmpR op_eq (pv 1) (C8.pe_gc rfl (q_MOST_STEPS T)) (nomark _)) (pw_or1 (pt_not (pt_val (C8.pe_c c_is_step hr (by decide) rfl (pa_cons (pv 2) pa_nil)))))))
  (pss_one (ps_ret (pv 1)))
  pss_nil)))
  (pss_one (ps_ret pe_non)))⟩

def der_is_row_of_steps {P : Program} {w : World} {K : PySem.W.Frag} {mg : Str → Option Value} {base : Heap} (T : Tx K mg) {sp_wrong_step : Sp} (c_wrong_step : C8.Cal P w K mg base 4 "wrong_step" sp_wrong_step []) {cdv : Value} {A : Around} {outer : List Env} {s : Shared} {H : Hp} {E : XK} (hr : Room 4 (A.deeper (envOfC "is_row_of_steps" (defScope s_is_row_of_steps) s.heap.objs.size (He.ga K "is_row_of_steps") cdv))) :
    { t : TS // PSs (cxOf CX0 P w K mg base N_is_row_of_steps "is_row_of_steps" (defScope s_is_row_of_steps) (He.ga K "is_row_of_steps") cdv A outer s H E).nox (defBody s_is_row_of_steps) t } := ⟨_, (pss_one (ps_ret (pe_and (pe_callB call_isi (by rfl) (b_isinstance T) (by decide +kernel) (pa_cons (pv 0) (pa_cons (pe_bltn (v := .ty "tuple") rfl (b_tuple T) (by decide +kernel) rfl) pa_nil))) (pe_one (pe_cmpR op_isN (C8.pe_c c_wrong_step hr (by decide) rfl (pa_cons (pv 0) pa_nil)) pe_non (nomark _))))))⟩
end Lf

set_option Elab.async false
set_option linter.all false
set_option maxRecDepth 100000
set_option maxHeartbeats 4000000
namespace Lf
open PySem PySem.Spec PyProof.Rows L2 Lc

def der_rounded {P : Program} {w : World} {K : PySem.W.Frag} {mg : Str → Option Value} {base : Heap} (T : Tx K mg)   {cdv : Value} {A : Around} {outer : List Env} {s : Shared} {H : Hp} {E : XK} (hr : Room 0 (A.deeper (envOfC "rounded" (defScope s_rounded) s.heap.objs.size (He.ga K "rounded") cdv))) :
    { t : TS // PSs (cxOf CX0 P w K mg base N_rounded "rounded" (defScope s_rounded) (He.ga K "rounded") cdv A outer s H E).nox (defBody s_rounded) t } := ⟨_, (pss_cons (ps_asg (pe_callB call_divmod (by rfl) (b_divmod T) (by decide +kernel) (pa_cons (pv 0) (pa_cons (pv 1) pa_nil))) (Lr.kpg_tup K (n := 2) rfl (pgs_cons (pg_name (i := 3) sc_rounded.nd rfl (by first | exact Or.inl rfl | exact Or.inr rfl)) (pgs_cons (pg_name (i := 4) sc_rounded.nd rfl (by first | exact Or.inl rfl | exact Or.inr rfl)) pgs_nil))))
  (pss_cons (ps_if (PW.pt (pw_or (pt_cmpR op_eq (pv 2) pe_str (nomark _)) (pw_or1 (pt_cmpR op_eq (pv 4) pe_int (nomark _)))))
  (pss_one (ps_ret (pv 3)))
  pss_nil)
  (pss_cons (ps_if (pt_cmpR op_eq (pv 2) pe_str (nomark _))
  (pss_one (ps_ret (pe_op op_add (pv 3) pe_int)))
  pss_nil)
  (pss_cons (ps_if (pt_cmpR op_ne (pe_op Lr.op_mulE pe_int (pv 4)) (pv 1) (nomark _))
  (pss_one (ps_ret (pe_ifExp (pt_cmpR op_lt (pe_op Lr.op_mulE pe_int (pv 4)) (pv 1) (nomark _)) (pv 3) (pe_op op_add (pv 3) pe_int))))
  pss_nil)
  (pss_cons (ps_if (pt_cmpR op_eq (pv 2) pe_str (nomark _))
  (pss_one (ps_ret (pe_op op_add (pv 3) (pe_op op_mod (pv 3) pe_int))))
  pss_nil)
  (pss_one (ps_ret (pe_ifExp (pt_cmpR op_eq (pv 2) pe_str (nomark _)) (pv 3) (pe_op op_add (pv 3) pe_int)))))))))⟩

def der_led {P : Program} {w : World} {K : PySem.W.Frag} {mg : Str → Option Value} {base : Heap} (T : Tx K mg) {sp_rounded : Sp} (c_rounded : C8.Cal P w K mg base 1 "rounded" sp_rounded []) {cdv : Value} {A : Around} {outer : List Env} {s : Shared} {H : Hp} {E : XK} (hr : Room 1 (A.deeper (envOfC "led" (defScope s_led) s.heap.objs.size (He.ga K "led") cdv))) :
    { t : TS // PSs (cxOf CX0 P w K mg base N_led "led" (defScope s_led) (He.ga K "led") cdv A outer s H E).nox (defBody s_led) t } := ⟨_, (pss_cons (ps_for PassesOwn.never rfl (pi_tup (pv 0)) (pg_name (i := 2) sc_led.nd rfl (by first | exact Or.inl rfl | exact Or.inr rfl))
  (pss_one (ps_if (pt_cmpR op_eq (pe_ix (Lr.kix_tup K) (pv 2) pe_int (fun _ _ => rfl)) pe_str (nomark _))
  (pss_one (ps_set (i := 1) sc_led.nd rfl (by first | exact Or.inl rfl | exact Or.inr rfl) (pe_op op_add (pv 1) (pe_ix (Lr.kix_tup K) (pv 2) pe_int (fun _ _ => rfl)))))
  (pss_one (ps_set (i := 1) sc_led.nd rfl (by first | exact Or.inl rfl | exact Or.inr rfl) (pe_op Lr.op_mulE (C8.pe_c c_rounded hr (by decide) rfl (pa_cons (pe_op Lr.op_mulE (pv 1) (pe_ix (Lr.kix_tup K) (pv 2) pe_int (fun _ _ => rfl))) (pa_cons (pe_op Lr.op_mulE (pe_ix (Lr.kix_tup K) (pv 2) pe_int (fun _ _ => rfl)) (pe_ix (Lr.kix_tup K) (pv 2) pe_int (fun _ _ => rfl))) (pa_cons (pe_ix (Lr.kix_tup K) (pv 2) pe_int (fun _ _ => rfl)) pa_nil)))) (pe_ix (Lr.kix_tup K) (pv 2) pe_int (fun _ _ => rfl))))))))
  (pss_one (ps_ret (pv 1))))⟩

def der_rate_of {P : Program} {w : World} {K : PySem.W.Frag} {mg : Str → Option Value} {base : Heap} (T : Tx K mg) {sp_times : Sp} {sp_fraction : Sp} (c_times : C8.Cal P w K mg base 3 "times" sp_times []) (c_fraction : C8.Cal P w K mg base 2 "fraction" sp_fraction []) {cdv : Value} {A : Around} {outer : List Env} {s : Shared} {H : Hp} {E : XK} (hr : Room 3 (A.deeper (envOfC "rate_of" (defScope s_rate_of) s.heap.objs.size (He.ga K "rate_of") cdv))) :
    { t : TS // PSs (cxOf CX0 P w K mg base N_rate_of "rate_of" (defScope s_rate_of) (He.ga K "rate_of") cdv A outer s H E).nox (defBody s_rate_of) t } := ⟨_, (pss_cons (ps_set (i := 1) sc_rate_of.nd rfl (by first | exact Or.inl rfl | exact Or.inr rfl) (pe_tup (pa_cons pe_int (pa_cons pe_int pa_nil))))
  (pss_cons (ps_for PassesOwn.never rfl (pi_tup (pv 0)) (pg_name (i := 2) sc_rate_of.nd rfl (by first | exact Or.inl rfl | exact Or.inr rfl))
  (pss_one (ps_if (pt_cmpR op_eq (pe_ix (Lr.kix_tup K) (pv 2) pe_int (fun _ _ => rfl)) pe_str (nomark _))
  (pss_one (ps_set (i := 1) sc_rate_of.nd rfl (by first | exact Or.inl rfl | exact Or.inr rfl) (C8.pe_c c_times hr (by decide) rfl (pa_cons (pv 1) (pa_cons (C8.pe_c c_fraction hr (by decide) rfl (pa_cons (pe_ix (Lr.kix_tup K) (pv 2) pe_int (fun _ _ => rfl)) (pa_cons (pe_ix (Lr.kix_tup K) (pv 2) pe_int (fun _ _ => rfl)) pa_nil))) pa_nil)))))
  pss_nil)))
  (pss_one (ps_ret (pv 1)))))⟩

def der_period_of {P : Program} {w : World} {K : PySem.W.Frag} {mg : Str → Option Value} {base : Heap} (T : Tx K mg) {sp_common_divisor : Sp} (c_common_divisor : C8.Cal P w K mg base 1 "common_divisor" sp_common_divisor []) {cdv : Value} {A : Around} {outer : List Env} {s : Shared} {H : Hp} {E : XK} (hr : Room 1 (A.deeper (envOfC "period_of" (defScope s_period_of) s.heap.objs.size (He.ga K "period_of") cdv))) :
    { t : TS // PSs (cxOf CX0 P w K mg base N_period_of "period_of" (defScope s_period_of) (He.ga K "period_of") cdv A outer s H E).nox (defBody s_period_of) t } := ⟨_, (pss_cons (ps_asg (pe_tup (pa_cons pe_int (pa_cons pe_int pa_nil))) (Lr.kpg_tup K (n := 2) rfl (pgs_cons (pg_name (i := 1) sc_period_of.nd rfl (by first | exact Or.inl rfl | exact Or.inr rfl)) (pgs_cons (pg_name (i := 2) sc_period_of.nd rfl (by first | exact Or.inl rfl | exact Or.inr rfl)) pgs_nil))))
  (pss_cons (ps_for PassesOwn.never rfl (pi_tup (pv 0)) (pg_name (i := 3) sc_period_of.nd rfl (by first | exact Or.inl rfl | exact Or.inr rfl))
  (pss_one (ps_if (pt_cmpR op_eq (pe_ix (Lr.kix_tup K) (pv 3) pe_int (fun _ _ => rfl)) pe_str (nomark _))
  (pss_cons (ps_set (i := 4) sc_period_of.nd rfl (by first | exact Or.inl rfl | exact Or.inr rfl) (pe_op Lr.op_mulE (pe_op Lr.op_mulE (pe_ix (Lr.kix_tup K) (pv 3) pe_int (fun _ _ => rfl)) (pe_ix (Lr.kix_tup K) (pv 3) pe_int (fun _ _ => rfl))) (pe_ifExp (pt_cmpR op_eq (pe_ix (Lr.kix_tup K) (pv 3) pe_int (fun _ _ => rfl)) pe_str (nomark _)) pe_int pe_int)))
  (pss_cons (ps_set (i := 5) sc_period_of.nd rfl (by first | exact Or.inl rfl | exact Or.inr rfl) (pe_op op_fdivW (pv 4) (C8.pe_c c_common_divisor hr (by decide) rfl (pa_cons (pe_ix (Lr.kix_tup K) (pv 3) pe_int (fun _ _ => rfl)) (pa_cons (pv 4) pa_nil)))))
  (pss_cons (ps_set (i := 6) sc_period_of.nd rfl (by first | exact Or.inl rfl | exact Or.inr rfl) (pe_op op_fdivW (pv 5) (C8.pe_c c_common_divisor hr (by decide) rfl (pa_cons (pv 2) (pa_cons (pv 5) pa_nil)))))
  (pss_one (ps_par (i := 1) (j := 2) rfl sc_period_of.nd rfl rfl (by decide) rfl rfl (pa_cons (pe_op Lr.op_mulE (pv 1) (pv 6)) (pa_cons (pe_op op_fdivW (pe_op Lr.op_mulE (pe_op Lr.op_mulE (pv 2) (pv 6)) (pe_ix (Lr.kix_tup K) (pv 3) pe_int (fun _ _ => rfl))) (pe_ix (Lr.kix_tup K) (pv 3) pe_int (fun _ _ => rfl))) pa_nil)) (by rfl))))))
  pss_nil)))
  (pss_one (ps_ret (pv 1)))))⟩

def der_text_of_step {P : Program} {w : World} {K : PySem.W.Frag} {mg : Str → Option Value} {base : Heap} (T : Tx K mg)   {cdv : Value} {A : Around} {outer : List Env} {s : Shared} {H : Hp} {E : XK} (hr : Room 0 (A.deeper (envOfC "text_of_step" (defScope s_text_of_step) s.heap.objs.size (He.ga K "text_of_step") cdv))) :
    { t : TS // PSs (cxOf CX0 P w K mg base N_text_of_step "text_of_step" (defScope s_text_of_step) (He.ga K "text_of_step") cdv A outer s H E).nox (defBody s_text_of_step) t } := ⟨_, (pss_cons (ps_if (pt_cmpR op_eq (pe_ix (Lr.kix_tup K) (pv 0) pe_int (fun _ _ => rfl)) pe_str (nomark _))
  (pss_one (ps_ret (pe_joined (PJ.cons pe_str (PJ.cons (pe_fmt (pe_ix (Lr.kix_tup K) (pv 0) pe_int (fun _ _ => rfl))) PJ.nil)))))
  pss_nil)
  (pss_one (ps_ret (pe_joined (PJ.cons pe_str (PJ.cons (pe_fmt (pe_ix (Lr.kix_tup K) (pv 0) pe_int (fun _ _ => rfl))) (PJ.cons pe_str (PJ.cons (pe_fmt (pe_ix (Lr.kix_tup K) (pv 0) pe_int (fun _ _ => rfl))) (PJ.cons pe_str (PJ.cons (pe_fmt (pe_ix (Lr.kix_tup K) (pv 0) pe_int (fun _ _ => rfl))) (PJ.cons pe_str (PJ.cons (pe_fmt (pe_ix (Lr.kix_tup K) (pv 0) pe_int (fun _ _ => rfl))) PJ.nil))))))))))))⟩

def der_text_of_steps {P : Program} {w : World} {K : PySem.W.Frag} {mg : Str → Option Value} {base : Heap} (T : Tx K mg) {sp_text_of_step : Sp} (c_text_of_step : C8.Cal P w K mg base 1 "text_of_step" sp_text_of_step []) {cdv : Value} {A : Around} {outer : List Env} {s : Shared} {H : Hp} {E : XK} (hr : Room 1 (A.deeper (envOfC "text_of_steps" (defScope s_text_of_steps) s.heap.objs.size (He.ga K "text_of_steps") cdv))) :
    { t : TS // PSs (cxOf CX0 P w K mg base N_text_of_steps "text_of_steps" (defScope s_text_of_steps) (He.ga K "text_of_steps") cdv A outer s H E).nox (defBody s_text_of_steps) t } := ⟨_, (pss_one (ps_ret (pe_ifExp (pt_cmpR (Lr.kneD K hr.units) (pv 0) (pe_tup pa_nil) (nomark _)) (pe_op op_add_str pe_str (pe_join pe_str (Lr.pe_lcW (pe_lc (own := [("step", 1)]) rfl sc_text_of_steps.nd (pi_tup (pv 0)) (blkOk_by (own := [("step", 1)]) (N := N_text_of_steps) (sc := defScope s_text_of_steps) (by decide +kernel)) (fun _ _ _ _ _ => (pg_name (i := 1) sc_text_of_steps.nd rfl (by first | exact Or.inl rfl | exact Or.inr rfl))) (fun _ _ _ _ _ => pts_nil) (fun _ _ _ _ _ => (C8.pe_c c_text_of_step hr (by decide) rfl (pa_cons (pv 1) pa_nil))))))) pe_str)))⟩

def der_is_kind {P : Program} {w : World} {K : PySem.W.Frag} {mg : Str → Option Value} {base : Heap} (T : Tx K mg) {sp_is_name : Sp} {sp_is_between : Sp} {sp_is_row_of_steps : Sp} (c_is_name : C8.Cal P w K mg base 1 "is_name" sp_is_name []) (c_is_between : C8.Cal P w K mg base 2 "is_between" sp_is_between []) (c_is_row_of_steps : C8.Cal P w K mg base 5 "is_row_of_steps" sp_is_row_of_steps []) {cdv : Value} {A : Around} {outer : List Env} {s : Shared} {H : Hp} {E : XK} (hr : Room 5 (A.deeper (envOfC "is_kind" (defScope s_is_kind) s.heap.objs.size (He.ga K "is_kind") cdv))) :
    { t : TS // PSs (cxOf CX0 P w K mg base N_is_kind "is_kind" (defScope s_is_kind) (He.ga K "is_kind") cdv A outer s H E).nox (defBody s_is_kind) t } := ⟨_, (pss_cons (ps_if (PW.pt (pw_or (pt_not (pt_val (pe_callB call_isi (by rfl) (b_isinstance T) (by decide +kernel) (pa_cons (pv 0) (pa_cons (pe_bltn (v := .ty "tuple") rfl (b_tuple T) (by decide +kernel) rfl) pa_nil))))) (pw_or (pt_cmpR op_ne (pe_callB (Lr.klen_seq K) (by rfl) (b_len T) (by decide +kernel) (pa_cons (pv 0) pa_nil)) (C8.pe_gc rfl (q_KIND_SIZE T)) (nomark _)) (pw_or1 (pt_not (pt_val (C8.pe_c c_is_name hr (by decide) rfl (pa_cons (pe_ix (Lr.kix_tup K) (pv 0) pe_int (fun _ _ => rfl)) pa_nil))))))))
  (pss_one (ps_ret pe_bl))
  pss_nil)
  (pss_one (ps_ret (pe_and (C8.pe_c c_is_between hr (by decide) rfl (pa_cons (pe_ix (Lr.kix_tup K) (pv 0) pe_int (fun _ _ => rfl)) (pa_cons pe_int (pa_cons pe_non pa_nil)))) (pe_one (C8.pe_c c_is_row_of_steps hr (by decide) rfl (pa_cons (pe_ix (Lr.kix_tup K) (pv 0) pe_int (fun _ _ => rfl)) pa_nil)))))))⟩

def der_check_kinds {P : Program} {w : World} {K : PySem.W.Frag} {mg : Str → Option Value} {base : Heap} (T : Tx K mg) {sp_is_kind : Sp} (c_is_kind : C8.Cal P w K mg base 6 "is_kind" sp_is_kind []) {cdv : Value} {A : Around} {outer : List Env} {s : Shared} {H : Hp} {E : XK} (hr : Room 6 (A.deeper (envOfC "check_kinds" (defScope s_check_kinds) s.heap.objs.size (He.ga K "check_kinds") cdv))) :
    { t : TS // PSs (cxOf CX0 P w K mg base N_check_kinds "check_kinds" (defScope s_check_kinds) (He.ga K "check_kinds") cdv A outer s H E).nox (defBody s_check_kinds) t } := ⟨_, (pss_cons (ps_if (PW.pt (pw_or (pt_not (pt_val (pe_callB call_isi (by rfl) (b_isinstance T) (by decide +kernel) (pa_cons (pv 0) (pa_cons (pe_bltn (v := .ty "tuple") rfl (b_tuple T) (by decide +kernel) rfl) pa_nil))))) (pw_or1 (pt_cmpR (Lr.keqD K hr.units) (pv 0) (pe_tup pa_nil) (nomark _)))))
  pss_never
  pss_nil)
  (pss_cons (ps_set (i := 1) sc_check_kinds.nd rfl (by first | exact Or.inl rfl | exact Or.inr rfl) (pe_lst pa_nil))
  (pss_one (ps_for PassesOwn.never rfl (Lr.pi_En rfl (b_enumerate T) (pa_cons (pv 0) pa_nil)) (Lr.kpg_tup K (n := 2) rfl (pgs_cons (pg_name (i := 2) sc_check_kinds.nd rfl (by first | exact Or.inl rfl | exact Or.inr rfl)) (pgs_cons (pg_name (i := 3) sc_check_kinds.nd rfl (by first | exact Or.inl rfl | exact Or.inr rfl)) pgs_nil)))
  (pss_cons (ps_if (PW.pt (pw_or (pt_cmpR op_eq (pv 2) (C8.pe_gc rfl (q_MOST_KINDS T)) (nomark _)) (pw_or (pt_not (pt_val (C8.pe_c c_is_kind hr (by decide) rfl (pa_cons (pv 3) pa_nil)))) (pw_or1 (pt_cmpR (Lr.kin_seq K) (pe_ix (Lr.kix_tup K) (pv 3) pe_int (fun _ _ => rfl)) (pv 1) rfl)))))
  pss_never
  pss_nil)
  (pss_one (ps_expr (pe_bm PySem.F.plainAttrs_list PySem.F.slot_list_append PySem.F.type_list_append mt_append (pv 1) (pa_cons (pe_ix (Lr.kix_tup K) (pv 3) pe_int (fun _ _ => rfl)) pa_nil)))))))))⟩

def der_check_groups {P : Program} {w : World} {K : PySem.W.Frag} {mg : Str → Option Value} {base : Heap} (T : Tx K mg) {sp_is_row_of_steps : Sp} (c_is_row_of_steps : C8.Cal P w K mg base 5 "is_row_of_steps" sp_is_row_of_steps []) {cdv : Value} {A : Around} {outer : List Env} {s : Shared} {H : Hp} {E : XK} (hr : Room 5 (A.deeper (envOfC "check_groups" (defScope s_check_groups) s.heap.objs.size (He.ga K "check_groups") cdv))) :
    { t : TS // PSs (cxOf CX0 P w K mg base N_check_groups "check_groups" (defScope s_check_groups) (He.ga K "check_groups") cdv A outer s H E).nox (defBody s_check_groups) t } := ⟨_, (pss_cons (ps_if (PW.pt (pw_or (pt_not (pt_val (pe_callB call_isi (by rfl) (b_isinstance T) (by decide +kernel) (pa_cons (pv 0) (pa_cons (pe_bltn (v := .ty "tuple") rfl (b_tuple T) (by decide +kernel) rfl) pa_nil))))) (pw_or1 (pt_cmpR (Lr.keqD K hr.units) (pv 0) (pe_tup pa_nil) (nomark _)))))
  pss_never
  pss_nil)
  (pss_one (ps_for PassesOwn.never rfl (Lr.pi_En rfl (b_enumerate T) (pa_cons (pv 0) pa_nil)) (Lr.kpg_tup K (n := 2) rfl (pgs_cons (pg_name (i := 1) sc_check_groups.nd rfl (by first | exact Or.inl rfl | exact Or.inr rfl)) (pgs_cons (pg_name (i := 2) sc_check_groups.nd rfl (by first | exact Or.inl rfl | exact Or.inr rfl)) pgs_nil)))
  (pss_one (ps_if (PW.pt (pw_or (pt_cmpR op_eq (pv 1) (C8.pe_gc rfl (q_MOST_GROUPS T)) (nomark _)) (pw_or1 (pt_not (pt_val (C8.pe_c c_is_row_of_steps hr (by decide) rfl (pa_cons (pv 2) pa_nil)))))))
  pss_never
  pss_nil)))))⟩

def der_check_places {P : Program} {w : World} {K : PySem.W.Frag} {mg : Str → Option Value} {base : Heap} (T : Tx K mg)   {cdv : Value} {A : Around} {outer : List Env} {s : Shared} {H : Hp} {E : XK} (hr : Room 0 (A.deeper (envOfC "check_places" (defScope s_check_places) s.heap.objs.size (He.ga K "check_places") cdv))) :
    { t : TS // PSs (cxOf CX0 P w K mg base N_check_places "check_places" (defScope s_check_places) (He.ga K "check_places") cdv A outer s H E).nox (defBody s_check_places) t } := ⟨_, (pss_one (ps_for PassesOwn.never rfl (Lr.pi_En rfl (b_enumerate T) (pa_cons (pv 0) pa_nil)) (Lr.kpg_tup K (n := 2) rfl (pgs_cons (pg_name (i := 2) sc_check_places.nd rfl (by first | exact Or.inl rfl | exact Or.inr rfl)) (pgs_cons (pg_name (i := 3) sc_check_places.nd rfl (by first | exact Or.inl rfl | exact Or.inr rfl)) pgs_nil)))
  (pss_one (ps_if (pt_cmpR op_ge (pe_ix (Lr.kix_tup K) (pv 3) pe_int (fun _ _ => rfl)) (pv 1) (nomark _))
  pss_never
  pss_nil))))⟩

def der_check_whole {P : Program} {w : World} {K : PySem.W.Frag} {mg : Str → Option Value} {base : Heap} (T : Tx K mg) {sp_wrong_step : Sp} (c_wrong_step : C8.Cal P w K mg base 4 "wrong_step" sp_wrong_step []) {cdv : Value} {A : Around} {outer : List Env} {s : Shared} {H : Hp} {E : XK} (hr : Room 4 (A.deeper (envOfC "check_whole" (defScope s_check_whole) s.heap.objs.size (He.ga K "check_whole") cdv))) :
    { t : TS // PSs (cxOf CX0 P w K mg base N_check_whole "check_whole" (defScope s_check_whole) (He.ga K "check_whole") cdv A outer s H E).nox (defBody s_check_whole) t } := ⟨_, (pss_cons (ps_if (pt_not (pt_val (pe_callB call_isi (by rfl) (b_isinstance T) (by decide +kernel) (pa_cons (pv 0) (pa_cons (pe_bltn (v := .ty "tuple") rfl (b_tuple T) (by decide +kernel) rfl) pa_nil)))))
  pss_never
  pss_nil)
  (pss_cons (ps_set (i := 1) sc_check_whole.nd rfl (by first | exact Or.inl rfl | exact Or.inr rfl) (C8.pe_c c_wrong_step hr (by decide) rfl (pa_cons (pv 0) pa_nil)))
  (pss_one (ps_if (pt_cmpR op_notN (pv 1) pe_non (nomark _))
  pss_never
  pss_nil))))⟩

def der_text_of {P : Program} {w : World} {K : PySem.W.Frag} {mg : Str → Option Value} {base : Heap} (T : Tx K mg) {sp_text_of_steps : Sp} (c_text_of_steps : C8.Cal P w K mg base 2 "text_of_steps" sp_text_of_steps []) {cdv : Value} {A : Around} {outer : List Env} {s : Shared} {H : Hp} {E : XK} (hr : Room 2 (A.deeper (envOfC "text_of" (defScope s_text_of) s.heap.objs.size (He.ga K "text_of") cdv))) :
    { t : TS // PSs (cxOf CX0 P w K mg base N_text_of "text_of" (defScope s_text_of) (He.ga K "text_of") cdv A outer s H E).nox (defBody s_text_of) t } := ⟨_, (pss_cons (Lr.ps_lcW (ps_setLc (i := 3) (own := [("name", 4), ("group", 5), ("steps", 6)]) rfl sc_text_of.nd rfl rfl (sw_true rfl rfl rfl (by decide +kernel)) (pi_tup (pv 0)) (blkOk_by (own := [("name", 4), ("group", 5), ("steps", 6)]) (N := N_text_of) (sc := defScope s_text_of) (by decide +kernel)) (fun _ _ _ _ _ => (Lr.kpg_tup K (n := 3) rfl (pgs_cons (pg_name (i := 4) sc_text_of.nd rfl (by first | exact Or.inl rfl | exact Or.inr rfl)) (pgs_cons (pg_name (i := 5) sc_text_of.nd rfl (by first | exact Or.inl rfl | exact Or.inr rfl)) (pgs_cons (pg_name (i := 6) sc_text_of.nd rfl (by first | exact Or.inl rfl | exact Or.inr rfl)) pgs_nil))))) (fun _ _ _ _ _ => pts_nil) (fun _ _ _ _ _ => (pe_op op_add_str (pe_joined (PJ.cons pe_str (PJ.cons (pe_fmt (pv 4)) (PJ.cons pe_str (PJ.cons (pe_fmt (pv 5)) PJ.nil))))) (C8.pe_c c_text_of_steps hr (by decide) rfl (pa_cons (pv 6) pa_nil))))))
  (pss_cons (ps_expr (pe_bm PySem.F.plainAttrs_list PySem.F.slot_list_extend PySem.F.type_list_extend mt_extend (pv 3) (pa_cons (Lr.pe_lcW (pe_lc (own := [("at", 7), ("steps", 6)]) rfl sc_text_of.nd (Lr.pi_En rfl (b_enumerate T) (pa_cons (pv 1) pa_nil)) (blkOk_by (own := [("at", 7), ("steps", 6)]) (N := N_text_of) (sc := defScope s_text_of) (by decide +kernel)) (fun _ _ _ _ _ => (Lr.kpg_tup K (n := 2) rfl (pgs_cons (pg_name (i := 7) sc_text_of.nd rfl (by first | exact Or.inl rfl | exact Or.inr rfl)) (pgs_cons (pg_name (i := 6) sc_text_of.nd rfl (by first | exact Or.inl rfl | exact Or.inr rfl)) pgs_nil)))) (fun _ _ _ _ _ => pts_nil) (fun _ _ _ _ _ => (pe_op op_add_str (pe_joined (PJ.cons pe_str (PJ.cons (pe_fmt (pv 7)) PJ.nil))) (C8.pe_c c_text_of_steps hr (by decide) rfl (pa_cons (pv 6) pa_nil)))))) pa_nil)))
  (pss_one (ps_ret (pe_join pe_str (pe_lst (Lr.kpa_star K (pv 3) (pa_cons (pe_op op_add_str pe_str (C8.pe_c c_text_of_steps hr (by decide) rfl (pa_cons (pv 2) pa_nil))) pa_nil))))))))⟩
end Lf

set_option Elab.async false
set_option linter.all false
set_option maxRecDepth 100000
set_option maxHeartbeats 4000000
namespace Lf
open PySem PySem.Spec PyProof.Rows L2 Lc

def der_is_line {P : Program} {w : World} {K : PySem.W.Frag} {mg : Str → Option Value} {base : Heap} (T : Tx K mg) {sp_is_between : Sp} (c_is_between : C8.Cal P w K mg base 2 "is_between" sp_is_between []) {cdv : Value} {A : Around} {outer : List Env} {s : Shared} {H : Hp} {E : XK} (hr : Room 2 (A.deeper (envOfC "is_line" (defScope s_is_line) s.heap.objs.size (He.ga K "is_line") cdv))) :
    { t : TS // PSs (cxOf CX0 P w K mg base N_is_line "is_line" (defScope s_is_line) (He.ga K "is_line") cdv A outer s H E).nox (defBody s_is_line) t } := ⟨_, (pss_cons (ps_if (PW.pt (pw_or (pt_not (pt_val (pe_callB call_isi (by rfl) (b_isinstance T) (by decide +kernel) (pa_cons (pv 0) (pa_cons (pe_bltn (v := .ty "tuple") rfl (b_tuple T) (by decide +kernel) rfl) pa_nil))))) (pw_or (pt_cmpR op_ne (pe_callB (Lr.klen_seq K) (by rfl) (b_len T) (by decide +kernel) (pa_cons (pv 0) pa_nil)) pe_int (nomark _)) (pw_or1 (pt_not (pt_val (C8.pe_c c_is_between hr (by decide) rfl (pa_cons (pe_ix (Lr.kix_tup K) (pv 0) pe_int (fun _ _ => rfl)) (pa_cons pe_int (pa_cons pe_non pa_nil))))))))))
  (pss_one (ps_ret pe_bl))
  pss_nil)
  (pss_one (ps_ret (pe_and (pe_callB call_isi (by rfl) (b_isinstance T) (by decide +kernel) (pa_cons (pe_ix (Lr.kix_tup K) (pv 0) pe_int (fun _ _ => rfl)) (pa_cons (pe_bltn (v := .ty "str") rfl (b_str T) (by decide +kernel) rfl) pa_nil))) (pe_one (pe_cmpR (Lr.kin_seq K) (pe_ix (Lr.kix_tup K) (pv 0) pe_int (fun _ _ => rfl)) (pv 1) rfl))))))⟩

def der_check_bill {P : Program} {w : World} {K : PySem.W.Frag} {mg : Str → Option Value} {base : Heap} (T : Tx K mg) {sp_is_line : Sp} (c_is_line : C8.Cal P w K mg base 3 "is_line" sp_is_line []) {cdv : Value} {A : Around} {outer : List Env} {s : Shared} {H : Hp} {E : XK} (hr : Room 3 (A.deeper (envOfC "check_bill" (defScope s_check_bill) s.heap.objs.size (He.ga K "check_bill") cdv))) :
    { t : TS // PSs (cxOf CX0 P w K mg base N_check_bill "check_bill" (defScope s_check_bill) (He.ga K "check_bill") cdv A outer s H E).nox (defBody s_check_bill) t } := ⟨_, (pss_cons (ps_if (pt_not (pt_val (pe_callB call_isi (by rfl) (b_isinstance T) (by decide +kernel) (pa_cons (pv 0) (pa_cons (pe_bltn (v := .ty "tuple") rfl (b_tuple T) (by decide +kernel) rfl) pa_nil)))))
  pss_never
  pss_nil)
  (pss_one (ps_for PassesOwn.never rfl (Lr.pi_En rfl (b_enumerate T) (pa_cons (pv 0) pa_nil)) (Lr.kpg_tup K (n := 2) rfl (pgs_cons (pg_name (i := 2) sc_check_bill.nd rfl (by first | exact Or.inl rfl | exact Or.inr rfl)) (pgs_cons (pg_name (i := 3) sc_check_bill.nd rfl (by first | exact Or.inl rfl | exact Or.inr rfl)) pgs_nil)))
  (pss_one (ps_if (pt_not (pt_val (C8.pe_c c_is_line hr (by decide) rfl (pa_cons (pv 3) (pa_cons (pv 1) pa_nil)))))
  pss_never
  pss_nil)))))⟩

def der_Book_init {P : Program} {w : World} {K : PySem.W.Frag} {mg : Str → Option Value} {base : Heap} (T : Tx K mg) {sp_check_kinds : Sp} {sp_check_groups : Sp} {sp_check_places : Sp} {sp_check_whole : Sp} {sp_text_of : Sp} (c_check_kinds : C8.Cal P w K mg base 7 "check_kinds" sp_check_kinds []) (c_check_groups : C8.Cal P w K mg base 6 "check_groups" sp_check_groups []) (c_check_places : C8.Cal P w K mg base 1 "check_places" sp_check_places []) (c_check_whole : C8.Cal P w K mg base 5 "check_whole" sp_check_whole []) (c_text_of : C8.Cal P w K mg base 3 "text_of" sp_text_of []) {cdv : Value} {A : Around} {outer : List Env} {s : Shared} {H : Hp} {E : XK} (hr : Room 7 (A.deeper (envOfC "Book.__init__" (defScope s_Book_init) s.heap.objs.size (He.ma K (He.ga K "Book") "__init__") cdv))) :
    { t : TS // PSs (cxOf CX0 P w K mg base N_Book_init "Book.__init__" (defScope s_Book_init) (He.ma K (He.ga K "Book") "__init__") cdv A outer s H E).nox (defBody s_Book_init) t } := ⟨_, (pss_cons (ps_expr (C8.pe_c c_check_kinds hr (by decide) rfl (pa_cons (pv 1) pa_nil)))
  (pss_cons (ps_expr (C8.pe_c c_check_groups hr (by decide) rfl (pa_cons (pv 2) pa_nil)))
  (pss_cons (ps_expr (C8.pe_c c_check_places hr (by decide) rfl (pa_cons (pv 1) (pa_cons (pe_callB (Lr.klen_seq K) (by rfl) (b_len T) (by decide +kernel) (pa_cons (pv 2) pa_nil)) pa_nil))))
  (pss_cons (ps_expr (C8.pe_c c_check_whole hr (by decide) rfl (pa_cons (pv 3) pa_nil)))
  (pss_cons (ps_asg (pe_tup (pa_cons (pv 1) (pa_cons (pv 2) (pa_cons (pv 3) pa_nil)))) (Lr.kpg_tup K (n := 3) rfl (pgs_cons (Lr.pg_fld (pv 0)) (pgs_cons (Lr.pg_fld (pv 0)) (pgs_cons (Lr.pg_fld (pv 0)) pgs_nil)))))
  (pss_one (ps_fld (pv 0) (C8.pe_c c_text_of hr (by decide) rfl (pa_cons (pv 1) (pa_cons (pv 2) (pa_cons (pv 3) pa_nil)))) rfl)))))))⟩

def der_Book_kinds {P : Program} {w : World} {K : PySem.W.Frag} {mg : Str → Option Value} {base : Heap} (T : Tx K mg)   {cdv : Value} {A : Around} {outer : List Env} {s : Shared} {H : Hp} {E : XK} (hr : Room 0 (A.deeper (envOfC "Book.kinds" (defScope s_Book_kinds) s.heap.objs.size (gtr K "Book" "kinds") cdv))) :
    { t : TS // PSs (cxOf CX0 P w K mg base N_Book_kinds "Book.kinds" (defScope s_Book_kinds) (gtr K "Book" "kinds") cdv A outer s H E).nox (defBody s_Book_kinds) t } := ⟨_, (pss_one (ps_ret (Lr.kpe_fld K (pv 0) rfl)))⟩

def der_Book_groups {P : Program} {w : World} {K : PySem.W.Frag} {mg : Str → Option Value} {base : Heap} (T : Tx K mg)   {cdv : Value} {A : Around} {outer : List Env} {s : Shared} {H : Hp} {E : XK} (hr : Room 0 (A.deeper (envOfC "Book.groups" (defScope s_Book_groups) s.heap.objs.size (gtr K "Book" "groups") cdv))) :
    { t : TS // PSs (cxOf CX0 P w K mg base N_Book_groups "Book.groups" (defScope s_Book_groups) (gtr K "Book" "groups") cdv A outer s H E).nox (defBody s_Book_groups) t } := ⟨_, (pss_one (ps_ret (Lr.kpe_fld K (pv 0) rfl)))⟩

def der_Book_names {P : Program} {w : World} {K : PySem.W.Frag} {mg : Str → Option Value} {base : Heap} (T : Tx K mg)   {cdv : Value} {A : Around} {outer : List Env} {s : Shared} {H : Hp} {E : XK} (hr : Room 0 (A.deeper (envOfC "Book.names" (defScope s_Book_names) s.heap.objs.size (gtr K "Book" "names") cdv))) :
    { t : TS // PSs (cxOf CX0 P w K mg base N_Book_names "Book.names" (defScope s_Book_names) (gtr K "Book" "names") cdv A outer s H E).nox (defBody s_Book_names) t } := ⟨_, (pss_one (ps_ret (pe_callTy call_tuple_of (by rfl) (b_tuple T) (by decide +kernel) (pa_cons (Lr.pe_lcW (pe_lc (own := [("kind", 1)]) rfl sc_Book_names.nd (pi_tup (Lr.kpe_fld K (pv 0) rfl)) (blkOk_by (own := [("kind", 1)]) (N := N_Book_names) (sc := defScope s_Book_names) (by decide +kernel)) (fun _ _ _ _ _ => (pg_name (i := 1) sc_Book_names.nd rfl (by first | exact Or.inl rfl | exact Or.inr rfl))) (fun _ _ _ _ _ => pts_nil) (fun _ _ _ _ _ => (pe_ix (Lr.kix_tup K) (pv 1) pe_int (fun _ _ => rfl))))) pa_nil))))⟩

def der_Book_kind_at {P : Program} {w : World} {K : PySem.W.Frag} {mg : Str → Option Value} {base : Heap} (T : Tx K mg)   {cdv : Value} {A : Around} {outer : List Env} {s : Shared} {H : Hp} {E : XK} (hr : Room 0 (A.deeper (envOfC "Book.kind_at" (defScope s_Book_kind_at) s.heap.objs.size (He.ma K (He.ga K "Book") "kind_at") cdv))) :
    { t : TS // PSs (cxOf CX0 P w K mg base N_Book_kind_at "Book.kind_at" (defScope s_Book_kind_at) (He.ma K (He.ga K "Book") "kind_at") cdv A outer s H E).nox (defBody s_Book_kind_at) t } := ⟨_, (pss_cons (ps_for PassesOwn.never rfl (pi_tup (Lr.kpe_fld K (pv 0) rfl)) (pg_name (i := 2) sc_Book_kind_at.nd rfl (by first | exact Or.inl rfl | exact Or.inr rfl))
  (pss_one (ps_if (PW.pt (pw_and (pt_val (pe_callB call_isi (by rfl) (b_isinstance T) (by decide +kernel) (pa_cons (pv 1) (pa_cons (pe_bltn (v := .ty "str") rfl (b_str T) (by decide +kernel) rfl) pa_nil)))) (pw_and1 (pt_cmpR op_eq (pe_ix (Lr.kix_tup K) (pv 2) pe_int (fun _ _ => rfl)) (pv 1) (nomark _)))))
  (pss_one (ps_ret (pv 2)))
  pss_nil)))
  (pss_one ps_never))⟩

def der_Book_rate {P : Program} {w : World} {K : PySem.W.Frag} {mg : Str → Option Value} {base : Heap} (T : Tx K mg) {sp_Book_kind_at : Sp} {sp_rate_of : Sp} (c_Book_kind_at : C8.Met P w K mg base 1 (He.ga K "Book") "kind_at" sp_Book_kind_at []) (c_rate_of : C8.Cal P w K mg base 4 "rate_of" sp_rate_of []) {cdv : Value} {A : Around} {outer : List Env} {s : Shared} {H : Hp} {E : XK} (hr : Room 4 (A.deeper (envOfC "Book.rate" (defScope s_Book_rate) s.heap.objs.size (He.ma K (He.ga K "Book") "rate") cdv))) :
    { t : TS // PSs (cxOf CX0 P w K mg base N_Book_rate "Book.rate" (defScope s_Book_rate) (He.ma K (He.ga K "Book") "rate") cdv A outer s H E).nox (defBody s_Book_rate) t } := ⟨_, (pss_cons (ps_set (i := 2) sc_Book_rate.nd rfl (by first | exact Or.inl rfl | exact Or.inr rfl) (C8.pe_mt c_Book_kind_at hr (by decide) (pv 0) (pa_cons (pv 1) pa_nil)))
  (pss_one (ps_ret (C8.pe_c c_rate_of hr (by decide) rfl (pa_cons (pe_tup (Lr.kpa_star K (pe_ix (Lr.kix_tup K) (pv 2) pe_int (fun _ _ => rfl)) (Lr.kpa_star K (pe_ix (Lr.kix_tup K) (Lr.kpe_fld K (pv 0) rfl) (pe_ix (Lr.kix_tup K) (pv 2) pe_int (fun _ _ => rfl)) (fun _ _ => rfl)) (Lr.kpa_star K (Lr.kpe_fld K (pv 0) rfl) pa_nil)))) pa_nil)))))⟩

def der_Book_share {P : Program} {w : World} {K : PySem.W.Frag} {mg : Str → Option Value} {base : Heap} (T : Tx K mg) {sp_rate_of : Sp} {sp_Book_kind_at : Sp} (c_rate_of : C8.Cal P w K mg base 4 "rate_of" sp_rate_of []) (c_Book_kind_at : C8.Met P w K mg base 1 (He.ga K "Book") "kind_at" sp_Book_kind_at []) {cdv : Value} {A : Around} {outer : List Env} {s : Shared} {H : Hp} {E : XK} (hr : Room 4 (A.deeper (envOfC "Book.share" (defScope s_Book_share) s.heap.objs.size (He.ma K (He.ga K "Book") "share") cdv))) :
    { t : TS // PSs (cxOf CX0 P w K mg base N_Book_share "Book.share" (defScope s_Book_share) (He.ma K (He.ga K "Book") "share") cdv A outer s H E).nox (defBody s_Book_share) t } := ⟨_, (pss_one (ps_ret (C8.pe_c c_rate_of hr (by decide) rfl (pa_cons (pe_tup (Lr.kpa_star K (pe_ix (Lr.kix_tup K) (Lr.kpe_fld K (pv 0) rfl) (pe_ix (Lr.kix_tup K) (C8.pe_mt c_Book_kind_at hr (by decide) (pv 0) (pa_cons (pv 1) pa_nil)) pe_int (fun _ _ => rfl)) (fun _ _ => rfl)) (Lr.kpa_star K (Lr.kpe_fld K (pv 0) rfl) pa_nil))) pa_nil))))⟩

def der_Book_period {P : Program} {w : World} {K : PySem.W.Frag} {mg : Str → Option Value} {base : Heap} (T : Tx K mg) {sp_Book_kind_at : Sp} {sp_period_of : Sp} (c_Book_kind_at : C8.Met P w K mg base 1 (He.ga K "Book") "kind_at" sp_Book_kind_at []) (c_period_of : C8.Cal P w K mg base 2 "period_of" sp_period_of []) {cdv : Value} {A : Around} {outer : List Env} {s : Shared} {H : Hp} {E : XK} (hr : Room 2 (A.deeper (envOfC "Book.period" (defScope s_Book_period) s.heap.objs.size (He.ma K (He.ga K "Book") "period") cdv))) :
    { t : TS // PSs (cxOf CX0 P w K mg base N_Book_period "Book.period" (defScope s_Book_period) (He.ma K (He.ga K "Book") "period") cdv A outer s H E).nox (defBody s_Book_period) t } := ⟨_, (pss_cons (ps_set (i := 2) sc_Book_period.nd rfl (by first | exact Or.inl rfl | exact Or.inr rfl) (C8.pe_mt c_Book_kind_at hr (by decide) (pv 0) (pa_cons (pv 1) pa_nil)))
  (pss_one (ps_ret (C8.pe_c c_period_of hr (by decide) rfl (pa_cons (pe_tup (Lr.kpa_star K (pe_ix (Lr.kix_tup K) (pv 2) pe_int (fun _ _ => rfl)) (Lr.kpa_star K (pe_ix (Lr.kix_tup K) (Lr.kpe_fld K (pv 0) rfl) (pe_ix (Lr.kix_tup K) (pv 2) pe_int (fun _ _ => rfl)) (fun _ _ => rfl)) (Lr.kpa_star K (Lr.kpe_fld K (pv 0) rfl) pa_nil)))) pa_nil)))))⟩

def der_Book_periods {P : Program} {w : World} {K : PySem.W.Frag} {mg : Str → Option Value} {base : Heap} (T : Tx K mg) {sp_period_of : Sp} (c_period_of : C8.Cal P w K mg base 2 "period_of" sp_period_of []) {cdv : Value} {A : Around} {outer : List Env} {s : Shared} {H : Hp} {E : XK} (hr : Room 2 (A.deeper (envOfC "Book.periods" (defScope s_Book_periods) s.heap.objs.size (He.ma K (He.ga K "Book") "periods") cdv))) :
    { t : TS // PSs (cxOf CX0 P w K mg base N_Book_periods "Book.periods" (defScope s_Book_periods) (He.ma K (He.ga K "Book") "periods") cdv A outer s H E).nox (defBody s_Book_periods) t } := ⟨_, (pss_one (ps_ret (pe_callTy call_tuple_of (by rfl) (b_tuple T) (by decide +kernel) (pa_cons (Lr.pe_lcW (pe_lc (own := [("steps", 1)]) rfl sc_Book_periods.nd (pi_tup (Lr.kpe_fld K (pv 0) rfl)) (blkOk_by (own := [("steps", 1)]) (N := N_Book_periods) (sc := defScope s_Book_periods) (by decide +kernel)) (fun _ _ _ _ _ => (pg_name (i := 1) sc_Book_periods.nd rfl (by first | exact Or.inl rfl | exact Or.inr rfl))) (fun _ _ _ _ _ => pts_nil) (fun _ _ _ _ _ => (C8.pe_c c_period_of hr (by decide) rfl (pa_cons (pe_tup (Lr.kpa_star K (pv 1) (Lr.kpa_star K (Lr.kpe_fld K (pv 0) rfl) pa_nil))) pa_nil))))) pa_nil))))⟩

def der_Book_size {P : Program} {w : World} {K : PySem.W.Frag} {mg : Str → Option Value} {base : Heap} (T : Tx K mg) {sp_Book_periods : Sp} (c_Book_periods : C8.Met P w K mg base 3 (He.ga K "Book") "periods" sp_Book_periods []) {cdv : Value} {A : Around} {outer : List Env} {s : Shared} {H : Hp} {E : XK} (hr : Room 3 (A.deeper (envOfC "Book.size" (defScope s_Book_size) s.heap.objs.size (He.ma K (He.ga K "Book") "size") cdv))) :
    { t : TS // PSs (cxOf CX0 P w K mg base N_Book_size "Book.size" (defScope s_Book_size) (He.ma K (He.ga K "Book") "size") cdv A outer s H E).nox (defBody s_Book_size) t } := ⟨_, (pss_cons (ps_set (i := 1) sc_Book_size.nd rfl (by first | exact Or.inl rfl | exact Or.inr rfl) pe_int)
  (pss_cons (ps_for PassesOwn.never rfl (pi_tup (C8.pe_mt0 c_Book_periods hr (by decide) (pv 0))) (pg_name (i := 2) sc_Book_size.nd rfl (by first | exact Or.inl rfl | exact Or.inr rfl))
  (pss_one (ps_set (i := 1) sc_Book_size.nd rfl (by first | exact Or.inl rfl | exact Or.inr rfl) (pe_op Lr.op_mulE (pv 1) (pv 2)))))
  (pss_one (ps_ret (pv 1)))))⟩
end Lf

set_option Elab.async false
set_option linter.all false
set_option maxRecDepth 100000
set_option maxHeartbeats 4000000
namespace Lf
open PySem PySem.Spec PyProof.Rows L2 Lc

def der_Book_value {P : Program} {w : World} {K : PySem.W.Frag} {mg : Str → Option Value} {base : Heap} (T : Tx K mg) {sp_Book_kind_at : Sp} {sp_check_number : Sp} {sp_led : Sp} (c_Book_kind_at : C8.Met P w K mg base 1 (He.ga K "Book") "kind_at" sp_Book_kind_at []) (c_check_number : C8.Cal P w K mg base 3 "check_number" sp_check_number []) (c_led : C8.Cal P w K mg base 2 "led" sp_led []) {cdv : Value} {A : Around} {outer : List Env} {s : Shared} {H : Hp} {E : XK} (hr : Room 3 (A.deeper (envOfC "Book.value" (defScope s_Book_value) s.heap.objs.size (He.ma K (He.ga K "Book") "value") cdv))) :
    { t : TS // PSs (cxOf CX0 P w K mg base N_Book_value "Book.value" (defScope s_Book_value) (He.ma K (He.ga K "Book") "value") cdv A outer s H E).nox (defBody s_Book_value) t } := ⟨_, (pss_cons (ps_set (i := 3) sc_Book_value.nd rfl (by first | exact Or.inl rfl | exact Or.inr rfl) (C8.pe_mt c_Book_kind_at hr (by decide) (pv 0) (pa_cons (pv 1) pa_nil)))
  (pss_cons (ps_expr (C8.pe_c c_check_number hr (by decide) rfl (pa_cons (pv 2) (pa_cons pe_int (pa_cons pe_non pa_nil)))))
  (pss_one (ps_ret (C8.pe_c c_led hr (by decide) rfl (pa_cons (pe_ix (Lr.kix_tup K) (pv 3) pe_int (fun _ _ => rfl)) (pa_cons (pv 2) pa_nil)))))))⟩

def der_Book_sums {P : Program} {w : World} {K : PySem.W.Frag} {mg : Str → Option Value} {base : Heap} (T : Tx K mg) {sp_check_bill : Sp} {sp_Book_names : Sp} {sp_Book_kind_at : Sp} {sp_led : Sp} (c_check_bill : C8.Cal P w K mg base 4 "check_bill" sp_check_bill []) (c_Book_names : Lr.Prp P w K mg base 1 (He.ga K "Book") "names" sp_Book_names) (c_Book_kind_at : C8.Met P w K mg base 1 (He.ga K "Book") "kind_at" sp_Book_kind_at []) (c_led : C8.Cal P w K mg base 2 "led" sp_led []) {cdv : Value} {A : Around} {outer : List Env} {s : Shared} {H : Hp} {E : XK} (hr : Room 4 (A.deeper (envOfC "Book.sums" (defScope s_Book_sums) s.heap.objs.size (He.ma K (He.ga K "Book") "sums") cdv))) :
    { t : TS // PSs (cxOf CX0 P w K mg base N_Book_sums "Book.sums" (defScope s_Book_sums) (He.ma K (He.ga K "Book") "sums") cdv A outer s H E).nox (defBody s_Book_sums) t } := ⟨_, (pss_cons (ps_expr (C8.pe_c c_check_bill hr (by decide) rfl (pa_cons (pv 1) (pa_cons (Lr.pe_pr c_Book_names hr (by decide) (pv 0) rfl) pa_nil))))
  (pss_cons (ps_set (i := 2) sc_Book_sums.nd rfl (by first | exact Or.inl rfl | exact Or.inr rfl) (pe_op op_rep (pe_lst (pa_cons pe_int pa_nil)) (pe_callB (Lr.klen_seq K) (by rfl) (b_len T) (by decide +kernel) (pa_cons (Lr.kpe_fld K (pv 0) rfl) pa_nil))))
  (pss_cons (ps_for PassesOwn.never rfl (pi_tup (pv 1)) (Lr.kpg_tup K (n := 2) rfl (pgs_cons (pg_name (i := 3) sc_Book_sums.nd rfl (by first | exact Or.inl rfl | exact Or.inr rfl)) (pgs_cons (pg_name (i := 4) sc_Book_sums.nd rfl (by first | exact Or.inl rfl | exact Or.inr rfl)) pgs_nil)))
  (pss_cons (ps_set (i := 5) sc_Book_sums.nd rfl (by first | exact Or.inl rfl | exact Or.inr rfl) (C8.pe_mt c_Book_kind_at hr (by decide) (pv 0) (pa_cons (pv 3) pa_nil)))
  (pss_one (ps_augS (pv 2) (pe_ix (Lr.kix_tup K) (pv 5) pe_int (fun _ _ => rfl)) Lr.get_list (C8.pe_c c_led hr (by decide) rfl (pa_cons (pe_ix (Lr.kix_tup K) (pv 5) pe_int (fun _ _ => rfl)) (pa_cons (pv 4) pa_nil))) ip_add set_list))))
  (pss_one (ps_ret (pe_callTy call_tuple_of (by rfl) (b_tuple T) (by decide +kernel) (pa_cons (pv 2) pa_nil)))))))⟩

def der_Book_ask {P : Program} {w : World} {K : PySem.W.Frag} {mg : Str → Option Value} {base : Heap} (T : Tx K mg) {sp_Book_ask_of_sums : Sp} {sp_Book_sums : Sp} (c_Book_ask_of_sums : C8.Met P w K mg base 3 (He.ga K "Book") "ask_of_sums" sp_Book_ask_of_sums []) (c_Book_sums : C8.Met P w K mg base 5 (He.ga K "Book") "sums" sp_Book_sums []) {cdv : Value} {A : Around} {outer : List Env} {s : Shared} {H : Hp} {E : XK} (hr : Room 5 (A.deeper (envOfC "Book.ask" (defScope s_Book_ask) s.heap.objs.size (He.ma K (He.ga K "Book") "ask") cdv))) :
    { t : TS // PSs (cxOf CX0 P w K mg base N_Book_ask "Book.ask" (defScope s_Book_ask) (He.ma K (He.ga K "Book") "ask") cdv A outer s H E).nox (defBody s_Book_ask) t } := ⟨_, (pss_one (ps_ret (C8.pe_mt c_Book_ask_of_sums hr (by decide) (pv 0) (pa_cons (C8.pe_mt c_Book_sums hr (by decide) (pv 0) (pa_cons (pv 1) pa_nil)) pa_nil))))⟩

def der_Book_ask_of_sums {P : Program} {w : World} {K : PySem.W.Frag} {mg : Str → Option Value} {base : Heap} (T : Tx K mg) {sp_led : Sp} (c_led : C8.Cal P w K mg base 2 "led" sp_led []) {cdv : Value} {A : Around} {outer : List Env} {s : Shared} {H : Hp} {E : XK} (hr : Room 2 (A.deeper (envOfC "Book.ask_of_sums" (defScope s_Book_ask_of_sums) s.heap.objs.size (He.ma K (He.ga K "Book") "ask_of_sums") cdv))) :
    { t : TS // PSs (cxOf CX0 P w K mg base N_Book_ask_of_sums "Book.ask_of_sums" (defScope s_Book_ask_of_sums) (He.ma K (He.ga K "Book") "ask_of_sums") cdv A outer s H E).nox (defBody s_Book_ask_of_sums) t } := ⟨_, (pss_one (ps_ret (C8.pe_c c_led hr (by decide) rfl (pa_cons (Lr.kpe_fld K (pv 0) rfl) (pa_cons (pe_callB (cr_sum rfl) (by rfl) (b_sum T) (by decide +kernel) (pa_cons (Lr.pe_lcW (pe_lc (own := [("steps", 2), ("found", 3)]) rfl sc_Book_ask_of_sums.nd (Lr.pi_Z2 rfl (b_zip T) (pa_cons (Lr.kpe_fld K (pv 0) rfl) (pa_cons (pv 1) pa_nil))) (blkOk_by (own := [("steps", 2), ("found", 3)]) (N := N_Book_ask_of_sums) (sc := defScope s_Book_ask_of_sums) (by decide +kernel)) (fun _ _ _ _ _ => (Lr.kpg_tup K (n := 2) rfl (pgs_cons (pg_name (i := 2) sc_Book_ask_of_sums.nd rfl (by first | exact Or.inl rfl | exact Or.inr rfl)) (pgs_cons (pg_name (i := 3) sc_Book_ask_of_sums.nd rfl (by first | exact Or.inl rfl | exact Or.inr rfl)) pgs_nil)))) (fun _ _ _ _ _ => pts_nil) (fun _ _ _ _ _ => (C8.pe_c c_led hr (by decide) rfl (pa_cons (pv 2) (pa_cons (pv 3) pa_nil)))))) pa_nil)) pa_nil)))))⟩

def der_check_book {P : Program} {w : World} {K : PySem.W.Frag} {mg : Str → Option Value} {base : Heap} (T : Tx K mg)   {cdv : Value} {A : Around} {outer : List Env} {s : Shared} {H : Hp} {E : XK} (hr : Room 0 (A.deeper (envOfC "check_book" (defScope s_check_book) s.heap.objs.size (He.ga K "check_book") cdv))) :
    { t : TS // PSs (cxOf CX0 P w K mg base N_check_book "check_book" (defScope s_check_book) (He.ga K "check_book") cdv A outer s H E).nox (defBody s_check_book) t } := ⟨_, (pss_one (ps_if (pt_not (pt_val (pe_callB (C8.call_isC (ic_Book T)) (by rfl) (b_isinstance T) (by decide +kernel) (pa_cons (pv 0) (pa_cons (C8.pe_gc rfl (q_Book T)) pa_nil)))))
  pss_never
  pss_nil))⟩

def der_check_two {P : Program} {w : World} {K : PySem.W.Frag} {mg : Str → Option Value} {base : Heap} (T : Tx K mg) {sp_check_book : Sp} (c_check_book : C8.Cal P w K mg base 1 "check_book" sp_check_book []) {cdv : Value} {A : Around} {outer : List Env} {s : Shared} {H : Hp} {E : XK} (hr : Room 1 (A.deeper (envOfC "check_two" (defScope s_check_two) s.heap.objs.size (He.ga K "check_two") cdv))) :
    { t : TS // PSs (cxOf CX0 P w K mg base N_check_two "check_two" (defScope s_check_two) (He.ga K "check_two") cdv A outer s H E).nox (defBody s_check_two) t } := ⟨_, (pss_cons (ps_expr (C8.pe_c c_check_book hr (by decide) rfl (pa_cons (pv 0) pa_nil)))
  (pss_one (ps_expr (C8.pe_c c_check_book hr (by decide) rfl (pa_cons (pv 1) pa_nil)))))⟩

def der_check_fit {P : Program} {w : World} {K : PySem.W.Frag} {mg : Str → Option Value} {base : Heap} (T : Tx K mg) {sp_Book_names : Sp} (c_Book_names : Lr.Prp P w K mg base 1 (He.ga K "Book") "names" sp_Book_names) {cdv : Value} {A : Around} {outer : List Env} {s : Shared} {H : Hp} {E : XK} (hr : Room 2 (A.deeper (envOfC "check_fit" (defScope s_check_fit) s.heap.objs.size (He.ga K "check_fit") cdv))) :
    { t : TS // PSs (cxOf CX0 P w K mg base N_check_fit "check_fit" (defScope s_check_fit) (He.ga K "check_fit") cdv A outer s H E).nox (defBody s_check_fit) t } := ⟨_, (pss_one (ps_if (pt_cmpR (Lr.kneD K hr.units) (Lr.pe_pr c_Book_names hr (by decide) (pv 0) rfl) (Lr.pe_pr c_Book_names hr (by decide) (pv 1) rfl) (nomark _))
  pss_never
  pss_nil))⟩

def der_check_integers {P : Program} {w : World} {K : PySem.W.Frag} {mg : Str → Option Value} {base : Heap} (T : Tx K mg) {sp_is_integer : Sp} (c_is_integer : C8.Cal P w K mg base 1 "is_integer" sp_is_integer []) {cdv : Value} {A : Around} {outer : List Env} {s : Shared} {H : Hp} {E : XK} (hr : Room 1 (A.deeper (envOfC "check_integers" (defScope s_check_integers) s.heap.objs.size (He.ga K "check_integers") cdv))) :
    { t : TS // PSs (cxOf CX0 P w K mg base N_check_integers "check_integers" (defScope s_check_integers) (He.ga K "check_integers") cdv A outer s H E).nox (defBody s_check_integers) t } := ⟨_, (pss_one (ps_if (PW.pt (pw_or (pt_not (pt_val (pe_callB call_isi (by rfl) (b_isinstance T) (by decide +kernel) (pa_cons (pv 0) (pa_cons (pe_bltn (v := .ty "tuple") rfl (b_tuple T) (by decide +kernel) rfl) pa_nil))))) (pw_or (pt_cmpR op_lt (pe_callB (Lr.klen_seq K) (by rfl) (b_len T) (by decide +kernel) (pa_cons (pv 0) pa_nil)) (pv 1) (nomark _)) (pw_or1 (pt_not (pt_val (pe_callB (Lr.kall K rfl) (by rfl) (b_all T) (by decide +kernel) (pa_cons (Lr.pe_lcW (pe_lc (own := [("number", 2)]) rfl sc_check_integers.nd (pi_tup (pv 0)) (blkOk_by (own := [("number", 2)]) (N := N_check_integers) (sc := defScope s_check_integers) (by decide +kernel)) (fun _ _ _ _ _ => (pg_name (i := 2) sc_check_integers.nd rfl (by first | exact Or.inl rfl | exact Or.inr rfl))) (fun _ _ _ _ _ => pts_nil) (fun _ _ _ _ _ => (C8.pe_c c_is_integer hr (by decide) rfl (pa_cons (pv 2) pa_nil))))) pa_nil))))))))
  pss_never
  pss_nil))⟩

def der_goes_on {P : Program} {w : World} {K : PySem.W.Frag} {mg : Str → Option Value} {base : Heap} (T : Tx K mg)   {cdv : Value} {A : Around} {outer : List Env} {s : Shared} {H : Hp} {E : XK} (hr : Room 0 (A.deeper (envOfC "goes_on" (defScope s_goes_on) s.heap.objs.size (He.ga K "goes_on") cdv))) :
    { t : TS // PSs (cxOf CX0 P w K mg base N_goes_on "goes_on" (defScope s_goes_on) (He.ga K "goes_on") cdv A outer s H E).nox (defBody s_goes_on) t } := ⟨_, (pss_cons (ps_set (i := 3) sc_goes_on.nd rfl (by first | exact Or.inl rfl | exact Or.inr rfl) (pe_callB (Lr.klen_seq K) (by rfl) (b_len T) (by decide +kernel) (pa_cons (pv 0) pa_nil)))
  (pss_cons (ps_if (pt_cmpR op_ne (pe_op op_mod (pe_op Lr.op_mulE (pv 1) (pv 2)) (pv 3)) pe_int (nomark _))
  (pss_one (ps_ret pe_bl))
  pss_nil)
  (pss_cons (ps_set (i := 4) sc_goes_on.nd rfl (by first | exact Or.inl rfl | exact Or.inr rfl) (pe_op op_fdivW (pe_op Lr.op_mulE (pv 1) (pv 2)) (pv 3)))
  (pss_cons (ps_set (i := 5) sc_goes_on.nd rfl (by first | exact Or.inl rfl | exact Or.inr rfl) (pe_lst (Lr.kpa_star K (pv 0) (Lr.kpa_star K (Lr.pe_lcW (pe_lc (own := [("number", 6)]) rfl sc_goes_on.nd (pi_tup (pv 0)) (blkOk_by (own := [("number", 6)]) (N := N_goes_on) (sc := defScope s_goes_on) (by decide +kernel)) (fun _ _ _ _ _ => (pg_name (i := 6) sc_goes_on.nd rfl (by first | exact Or.inl rfl | exact Or.inr rfl))) (fun _ _ _ _ _ => pts_nil) (fun _ _ _ _ _ => (pe_op op_add (pv 6) (pv 1))))) pa_nil))))
  (pss_one (ps_ret (pe_callB (Lr.kall K rfl) (by rfl) (b_all T) (by decide +kernel) (pa_cons (Lr.pe_lcW (pe_lc (own := [("at", 7)]) rfl sc_goes_on.nd (pi_range1 rfl (b_range T) (pa_cons (pv 3) pa_nil)) (blkOk_by (own := [("at", 7)]) (N := N_goes_on) (sc := defScope s_goes_on) (by decide +kernel)) (fun _ _ _ _ _ => (pg_name (i := 7) sc_goes_on.nd rfl (by first | exact Or.inl rfl | exact Or.inr rfl))) (fun _ _ _ _ _ => pts_nil) (fun _ _ _ _ _ => (pe_cmpR op_eq (pe_ix (Lr.kix_list K) (pv 5) (pe_op op_add (pv 7) (pv 2)) (fun _ _ => rfl)) (pe_op op_add (pe_ix (Lr.kix_list K) (pv 5) (pv 7) (fun _ _ => rfl)) (pv 4)) (nomark _))))) pa_nil))))))))⟩

def der_Row_init {P : Program} {w : World} {K : PySem.W.Frag} {mg : Str → Option Value} {base : Heap} (T : Tx K mg) {sp_check_integers : Sp} {sp_is_integer : Sp} {sp_goes_on : Sp} (c_check_integers : C8.Cal P w K mg base 2 "check_integers" sp_check_integers []) (c_is_integer : C8.Cal P w K mg base 1 "is_integer" sp_is_integer []) (c_goes_on : C8.Cal P w K mg base 1 "goes_on" sp_goes_on []) {cdv : Value} {A : Around} {outer : List Env} {s : Shared} {H : Hp} {E : XK} (hr : Room 2 (A.deeper (envOfC "Row.__init__" (defScope s_Row_init) s.heap.objs.size (He.ma K (He.ga K "Row") "__init__") cdv))) :
    { t : TS // PSs (cxOf CX0 P w K mg base N_Row_init "Row.__init__" (defScope s_Row_init) (He.ma K (He.ga K "Row") "__init__") cdv A outer s H E).nox (defBody s_Row_init) t } := ⟨_, (pss_cons (ps_expr (C8.pe_c c_check_integers hr (by decide) rfl (pa_cons (pv 1) (pa_cons pe_int pa_nil))))
  (pss_cons (ps_expr (C8.pe_c c_check_integers hr (by decide) rfl (pa_cons (pv 2) (pa_cons pe_int pa_nil))))
  (pss_cons (ps_if (pt_not (pt_val (C8.pe_c c_is_integer hr (by decide) rfl (pa_cons (pv 3) pa_nil))))
  pss_never
  pss_nil)
  (pss_cons (ps_set (i := 4) sc_Row_init.nd rfl (by first | exact Or.inl rfl | exact Or.inr rfl) (pe_callB (Lr.klen_seq K) (by rfl) (b_len T) (by decide +kernel) (pa_cons (pv 2) pa_nil)))
  (pss_cons (ps_set (i := 5) sc_Row_init.nd rfl (by first | exact Or.inl rfl | exact Or.inr rfl) (pe_ix (Lr.kix_list K) (Lr.pe_lcW (pe_lc (own := [("part", 9)]) rfl sc_Row_init.nd (pi_range2 rfl (b_range T) (pa_cons pe_int (pa_cons (pe_op op_add (pv 4) pe_int) pa_nil))) (blkOk_by (own := [("part", 9)]) (N := N_Row_init) (sc := defScope s_Row_init) (by decide +kernel)) (fun _ _ _ _ _ => (pg_name (i := 9) sc_Row_init.nd rfl (by first | exact Or.inl rfl | exact Or.inr rfl))) (fun _ _ _ _ _ => (pts_one (PW.pt (pw_and (pt_cmpR op_eq (pe_op op_mod (pv 4) (pv 9)) pe_int (nomark _)) (pw_and1 (pt_val (C8.pe_c c_goes_on hr (by decide) rfl (pa_cons (pv 2) (pa_cons (pv 3) (pa_cons (pv 9) pa_nil)))))))))) (fun _ _ _ _ _ => (pv 9)))) pe_int (fun _ _ => rfl)))
  (pss_cons (ps_par3 (i := 6) (j := 7) (l := 8) rfl sc_Row_init.nd rfl rfl rfl (by decide) (by decide) (by decide) rfl rfl rfl (pa_cons (pe_callTy call_list_of (by rfl) (b_list T) (by decide +kernel) (pa_cons (pe_slice (Lr.ksl_tupA K) (pv 2) po_none (po_some (pv 5))) pa_nil)) (pa_cons (pe_op op_fdivW (pe_op Lr.op_mulE (pv 3) (pv 5)) (pv 4)) (pa_cons (pe_callB (Lr.klen_seq K) (by rfl) (b_len T) (by decide +kernel) (pa_cons (pv 1) pa_nil)) pa_nil))) (by rfl))
  (pss_cons (ps_while PassesOwn.never (PW.pt (pw_and (pt_cmpR op_gt (pv 8) pe_int (nomark _)) (pw_and1 (pt_cmpR op_eq (pe_ix (Lr.kix_tup K) (pv 1) (pe_op op_sub (pv 8) pe_int) (fun _ _ => rfl)) (pe_op op_sub (pe_ix (Lr.kix_list K) (pv 6) (pe_un un_neg pe_int) (fun _ _ => rfl)) (pv 7)) (nomark _)))))
  (pss_cons (ps_set (i := 8) sc_Row_init.nd rfl (by first | exact Or.inl rfl | exact Or.inr rfl) (pe_op op_sub (pv 8) pe_int))
  (pss_one (ps_set (i := 6) sc_Row_init.nd rfl (by first | exact Or.inl rfl | exact Or.inr rfl) (pe_lst (pa_cons (pe_ix (Lr.kix_tup K) (pv 1) (pv 8) (fun _ _ => rfl)) (Lr.kpa_star K (pe_slice (Lr.ksl_list K) (pv 6) po_none (po_some (pe_un un_neg pe_int))) pa_nil)))))))
  (pss_one (ps_asg (pe_tup (pa_cons (pe_slice (Lr.ksl_tupA K) (pv 1) po_none (po_some (pv 8))) (pa_cons (pe_callTy call_tuple_of (by rfl) (b_tuple T) (by decide +kernel) (pa_cons (pv 6) pa_nil)) (pa_cons (pv 7) pa_nil)))) (Lr.kpg_tup K (n := 3) rfl (pgs_cons (Lr.pg_fld (pv 0)) (pgs_cons (Lr.pg_fld (pv 0)) (pgs_cons (Lr.pg_fld (pv 0)) pgs_nil)))))))))))))⟩

def der_Row_early {P : Program} {w : World} {K : PySem.W.Frag} {mg : Str → Option Value} {base : Heap} (T : Tx K mg)   {cdv : Value} {A : Around} {outer : List Env} {s : Shared} {H : Hp} {E : XK} (hr : Room 0 (A.deeper (envOfC "Row.early" (defScope s_Row_early) s.heap.objs.size (gtr K "Row" "early") cdv))) :
    { t : TS // PSs (cxOf CX0 P w K mg base N_Row_early "Row.early" (defScope s_Row_early) (gtr K "Row" "early") cdv A outer s H E).nox (defBody s_Row_early) t } := ⟨_, (pss_one (ps_ret (Lr.kpe_fld K (pv 0) rfl)))⟩

def der_Row_again {P : Program} {w : World} {K : PySem.W.Frag} {mg : Str → Option Value} {base : Heap} (T : Tx K mg)   {cdv : Value} {A : Around} {outer : List Env} {s : Shared} {H : Hp} {E : XK} (hr : Room 0 (A.deeper (envOfC "Row.again" (defScope s_Row_again) s.heap.objs.size (gtr K "Row" "again") cdv))) :
    { t : TS // PSs (cxOf CX0 P w K mg base N_Row_again "Row.again" (defScope s_Row_again) (gtr K "Row" "again") cdv A outer s H E).nox (defBody s_Row_again) t } := ⟨_, (pss_one (ps_ret (Lr.kpe_fld K (pv 0) rfl)))⟩
end Lf

set_option Elab.async false
set_option linter.all false
set_option maxRecDepth 100000
set_option maxHeartbeats 4000000
namespace Lf
open PySem PySem.Spec PyProof.Rows L2 Lc

def der_Row_rise {P : Program} {w : World} {K : PySem.W.Frag} {mg : Str → Option Value} {base : Heap} (T : Tx K mg)   {cdv : Value} {A : Around} {outer : List Env} {s : Shared} {H : Hp} {E : XK} (hr : Room 0 (A.deeper (envOfC "Row.rise" (defScope s_Row_rise) s.heap.objs.size (gtr K "Row" "rise") cdv))) :
    { t : TS // PSs (cxOf CX0 P w K mg base N_Row_rise "Row.rise" (defScope s_Row_rise) (gtr K "Row" "rise") cdv A outer s H E).nox (defBody s_Row_rise) t } := ⟨_, (pss_one (ps_ret (Lr.kpe_fld K (pv 0) rfl)))⟩

def der_Row_at {P : Program} {w : World} {K : PySem.W.Frag} {mg : Str → Option Value} {base : Heap} (T : Tx K mg) {sp_check_number : Sp} (c_check_number : C8.Cal P w K mg base 3 "check_number" sp_check_number []) {cdv : Value} {A : Around} {outer : List Env} {s : Shared} {H : Hp} {E : XK} (hr : Room 3 (A.deeper (envOfC "Row.at" (defScope s_Row_at) s.heap.objs.size (He.ma K (He.ga K "Row") "at") cdv))) :
    { t : TS // PSs (cxOf CX0 P w K mg base N_Row_at "Row.at" (defScope s_Row_at) (He.ma K (He.ga K "Row") "at") cdv A outer s H E).nox (defBody s_Row_at) t } := ⟨_, (pss_cons (ps_expr (C8.pe_c c_check_number hr (by decide) rfl (pa_cons (pv 1) (pa_cons pe_int (pa_cons pe_non pa_nil)))))
  (pss_cons (ps_if (pt_cmpR op_lt (pv 1) (pe_callB (Lr.klen_seq K) (by rfl) (b_len T) (by decide +kernel) (pa_cons (Lr.kpe_fld K (pv 0) rfl) pa_nil)) (nomark _))
  (pss_one (ps_ret (pe_ix (Lr.kix_tup K) (Lr.kpe_fld K (pv 0) rfl) (pv 1) (fun _ _ => rfl))))
  pss_nil)
  (pss_cons (ps_asg (pe_callB call_divmod (by rfl) (b_divmod T) (by decide +kernel) (pa_cons (pe_op op_sub (pv 1) (pe_callB (Lr.klen_seq K) (by rfl) (b_len T) (by decide +kernel) (pa_cons (Lr.kpe_fld K (pv 0) rfl) pa_nil))) (pa_cons (pe_callB (Lr.klen_seq K) (by rfl) (b_len T) (by decide +kernel) (pa_cons (Lr.kpe_fld K (pv 0) rfl) pa_nil)) pa_nil))) (Lr.kpg_tup K (n := 2) rfl (pgs_cons (pg_name (i := 2) sc_Row_at.nd rfl (by first | exact Or.inl rfl | exact Or.inr rfl)) (pgs_cons (pg_name (i := 3) sc_Row_at.nd rfl (by first | exact Or.inl rfl | exact Or.inr rfl)) pgs_nil))))
  (pss_one (ps_ret (pe_op op_add (pe_ix (Lr.kix_tup K) (Lr.kpe_fld K (pv 0) rfl) (pv 3) (fun _ _ => rfl)) (pe_op Lr.op_mulE (pv 2) (Lr.kpe_fld K (pv 0) rfl))))))))⟩

def der_Row_eq {P : Program} {w : World} {K : PySem.W.Frag} {mg : Str → Option Value} {base : Heap} (T : Tx K mg)   {cdv : Value} {A : Around} {outer : List Env} {s : Shared} {H : Hp} {E : XK} (hr : Room 0 (A.deeper (envOfC "Row.__eq__" (defScope s_Row_eq) s.heap.objs.size (He.ma K (He.ga K "Row") "__eq__") cdv))) :
    { t : TS // PSs (cxOf CX0 P w K mg base N_Row_eq "Row.__eq__" (defScope s_Row_eq) (He.ma K (He.ga K "Row") "__eq__") cdv A outer s H E).nox (defBody s_Row_eq) t } := ⟨_, (pss_cons (ps_if (pt_not (pt_val (pe_callB (C8.call_isC (ic_Row T)) (by rfl) (b_isinstance T) (by decide +kernel) (pa_cons (pv 1) (pa_cons (C8.pe_gc rfl (q_Row T)) pa_nil)))))
  (pss_one (ps_ret pe_bl))
  pss_nil)
  (pss_one (ps_ret (pe_and (pe_cmpR (Lr.keqD K hr.units) (Lr.kpe_fld K (pv 0) rfl) (Lr.kpe_fld K (pv 1) rfl) (nomark _)) (pe_and (pe_cmpR (Lr.keqD K hr.units) (Lr.kpe_fld K (pv 0) rfl) (Lr.kpe_fld K (pv 1) rfl) (nomark _)) (pe_one (pe_cmpR op_eq (Lr.kpe_fld K (pv 0) rfl) (Lr.kpe_fld K (pv 1) rfl) (nomark _))))))))⟩

def der_sides_of {P : Program} {w : World} {K : PySem.W.Frag} {mg : Str → Option Value} {base : Heap} (T : Tx K mg)   {cdv : Value} {A : Around} {outer : List Env} {s : Shared} {H : Hp} {E : XK} (hr : Room 0 (A.deeper (envOfC "sides_of" (defScope s_sides_of) s.heap.objs.size (He.ga K "sides_of") cdv))) :
    { t : TS // PSs (cxOf CX0 P w K mg base N_sides_of "sides_of" (defScope s_sides_of) (He.ga K "sides_of") cdv A outer s H E).nox (defBody s_sides_of) t } := ⟨_, (pss_one (ps_ret (pe_lst (pa_cons (pe_tup (pa_cons (pv 0) (pa_cons pe_int pa_nil))) (pa_cons (pe_tup (pa_cons (pv 1) (pa_cons (pe_un un_neg pe_int) pa_nil))) pa_nil)))))⟩

def der_first_greater {P : Program} {w : World} {K : PySem.W.Frag} {mg : Str → Option Value} {base : Heap} (T : Tx K mg) {sp_Book_names : Sp} {sp_less : Sp} {sp_Book_rate : Sp} (c_Book_names : Lr.Prp P w K mg base 1 (He.ga K "Book") "names" sp_Book_names) (c_less : C8.Cal P w K mg base 3 "less" sp_less []) (c_Book_rate : C8.Met P w K mg base 5 (He.ga K "Book") "rate" sp_Book_rate []) {cdv : Value} {A : Around} {outer : List Env} {s : Shared} {H : Hp} {E : XK} (hr : Room 5 (A.deeper (envOfC "first_greater" (defScope s_first_greater) s.heap.objs.size (He.ga K "first_greater") cdv))) :
    { t : TS // PSs (cxOf CX0 P w K mg base N_first_greater "first_greater" (defScope s_first_greater) (He.ga K "first_greater") cdv A outer s H E).nox (defBody s_first_greater) t } := ⟨_, (pss_cons (ps_for PassesOwn.never rfl (pi_tup (Lr.pe_pr c_Book_names hr (by decide) (pv 0) rfl)) (pg_name (i := 2) sc_first_greater.nd rfl (by first | exact Or.inl rfl | exact Or.inr rfl))
  (pss_one (ps_if (pt_cmpR op_gt (pe_ix (Lr.kix_tup K) (C8.pe_c c_less hr (by decide) rfl (pa_cons (C8.pe_mt c_Book_rate hr (by decide) (pv 0) (pa_cons (pv 2) pa_nil)) (pa_cons (C8.pe_mt c_Book_rate hr (by decide) (pv 1) (pa_cons (pv 2) pa_nil)) pa_nil))) pe_int (fun _ _ => rfl)) pe_int (nomark _))
  (pss_one (ps_ret (pv 2)))
  pss_nil)))
  (pss_one (ps_ret pe_non)))⟩

def der_check_rates {P : Program} {w : World} {K : PySem.W.Frag} {mg : Str → Option Value} {base : Heap} (T : Tx K mg) {sp_first_greater : Sp} (c_first_greater : C8.Cal P w K mg base 6 "first_greater" sp_first_greater []) {cdv : Value} {A : Around} {outer : List Env} {s : Shared} {H : Hp} {E : XK} (hr : Room 6 (A.deeper (envOfC "check_rates" (defScope s_check_rates) s.heap.objs.size (He.ga K "check_rates") cdv))) :
    { t : TS // PSs (cxOf CX0 P w K mg base N_check_rates "check_rates" (defScope s_check_rates) (He.ga K "check_rates") cdv A outer s H E).nox (defBody s_check_rates) t } := ⟨_, (pss_cons (ps_set (i := 2) sc_check_rates.nd rfl (by first | exact Or.inl rfl | exact Or.inr rfl) (C8.pe_c c_first_greater hr (by decide) rfl (pa_cons (pv 0) (pa_cons (pv 1) pa_nil))))
  (pss_one (ps_if (pt_cmpR op_notN (pv 2) pe_non (nomark _))
  pss_never
  pss_nil)))⟩

def der_amounts_of {P : Program} {w : World} {K : PySem.W.Frag} {mg : Str → Option Value} {base : Heap} (T : Tx K mg) {sp_common_multiple : Sp} {sp_Book_period : Sp} (c_common_multiple : C8.Cal P w K mg base 2 "common_multiple" sp_common_multiple []) (c_Book_period : C8.Met P w K mg base 3 (He.ga K "Book") "period" sp_Book_period []) {cdv : Value} {A : Around} {outer : List Env} {s : Shared} {H : Hp} {E : XK} (hr : Room 3 (A.deeper (envOfC "amounts_of" (defScope s_amounts_of) s.heap.objs.size (He.ga K "amounts_of") cdv))) :
    { t : TS // PSs (cxOf CX0 P w K mg base N_amounts_of "amounts_of" (defScope s_amounts_of) (He.ga K "amounts_of") cdv A outer s H E).nox (defBody s_amounts_of) t } := ⟨_, (pss_cons (ps_set (i := 2) sc_amounts_of.nd rfl (by first | exact Or.inl rfl | exact Or.inr rfl) pe_int)
  (pss_cons (ps_for PassesOwn.never rfl (pi_list (pv 0)) (pg_name (i := 3) sc_amounts_of.nd rfl (by first | exact Or.inl rfl | exact Or.inr rfl))
  (pss_one (ps_set (i := 2) sc_amounts_of.nd rfl (by first | exact Or.inl rfl | exact Or.inr rfl) (C8.pe_c c_common_multiple hr (by decide) rfl (pa_cons (pv 2) (pa_cons (C8.pe_mt c_Book_period hr (by decide) (pv 3) (pa_cons (pv 1) pa_nil)) pa_nil))))))
  (pss_one (ps_ret (pv 2)))))⟩

def der_check_size {P : Program} {w : World} {K : PySem.W.Frag} {mg : Str → Option Value} {base : Heap} (T : Tx K mg) {sp_Book_size : Sp} {sp_Book_names : Sp} {sp_amounts_of : Sp} (c_Book_size : C8.Met P w K mg base 4 (He.ga K "Book") "size" sp_Book_size []) (c_Book_names : Lr.Prp P w K mg base 1 (He.ga K "Book") "names" sp_Book_names) (c_amounts_of : C8.Cal P w K mg base 4 "amounts_of" sp_amounts_of []) {cdv : Value} {A : Around} {outer : List Env} {s : Shared} {H : Hp} {E : XK} (hr : Room 4 (A.deeper (envOfC "check_size" (defScope s_check_size) s.heap.objs.size (He.ga K "check_size") cdv))) :
    { t : TS // PSs (cxOf CX0 P w K mg base N_check_size "check_size" (defScope s_check_size) (He.ga K "check_size") cdv A outer s H E).nox (defBody s_check_size) t } := ⟨_, (pss_cons (ps_set (i := 1) sc_check_size.nd rfl (by first | exact Or.inl rfl | exact Or.inr rfl) pe_int)
  (pss_cons (ps_for PassesOwn.never rfl (pi_list (pv 0)) (pg_name (i := 2) sc_check_size.nd rfl (by first | exact Or.inl rfl | exact Or.inr rfl))
  (pss_one (ps_set (i := 1) sc_check_size.nd rfl (by first | exact Or.inl rfl | exact Or.inr rfl) (pe_op Lr.op_mulE (pv 1) (C8.pe_mt0 c_Book_size hr (by decide) (pv 2))))))
  (pss_cons (ps_if (pt_cmpR op_gt (pv 1) (C8.pe_gc rfl (q_MOST_STATES T)) (nomark _))
  pss_never
  pss_nil)
  (pss_one (ps_for PassesOwn.never rfl (pi_tup (Lr.pe_pr c_Book_names hr (by decide) (pe_ix (Lr.kix_list K) (pv 0) pe_int (fun _ _ => rfl)) rfl)) (pg_name (i := 3) sc_check_size.nd rfl (by first | exact Or.inl rfl | exact Or.inr rfl))
  (pss_one (ps_if (pt_cmpR op_gt (C8.pe_c c_amounts_of hr (by decide) rfl (pa_cons (pv 0) (pa_cons (pv 3) pa_nil))) (C8.pe_gc rfl (q_MOST_AMOUNTS T)) (nomark _))
  pss_never
  pss_nil)))))))⟩

def der_States_init {P : Program} {w : World} {K : PySem.W.Frag} {mg : Str → Option Value} {base : Heap} (T : Tx K mg) {sp_Book_periods : Sp} {sp_Book_names : Sp} {sp_common_multiple : Sp} {sp_Book_share : Sp} (c_Book_periods : C8.Met P w K mg base 3 (He.ga K "Book") "periods" sp_Book_periods []) (c_Book_names : Lr.Prp P w K mg base 1 (He.ga K "Book") "names" sp_Book_names) (c_common_multiple : C8.Cal P w K mg base 2 "common_multiple" sp_common_multiple []) (c_Book_share : C8.Met P w K mg base 5 (He.ga K "Book") "share" sp_Book_share []) {cdv : Value} {A : Around} {outer : List Env} {s : Shared} {H : Hp} {E : XK} (hr : Room 5 (A.deeper (envOfC "States.__init__" (defScope s_States_init) s.heap.objs.size (He.ma K (He.ga K "States") "__init__") cdv))) :
    { t : TS // PSs (cxOf CX0 P w K mg base N_States_init "States.__init__" (defScope s_States_init) (He.ma K (He.ga K "States") "__init__") cdv A outer s H E).nox (defBody s_States_init) t } := ⟨_, (pss_cons (ps_fld (pv 0) (pv 1) rfl)
  (pss_cons (ps_asg (pe_tup (pa_cons (pe_lst pa_nil) (pa_cons pe_int pa_nil))) (Lr.kpg_tup K (n := 2) rfl (pgs_cons (Lr.pg_fld (pv 0)) (pgs_cons (Lr.pg_fld (pv 0)) pgs_nil))))
  (pss_one (ps_for PassesOwn.never rfl (pi_list (pv 1)) (Lr.kpg_tup K (n := 2) rfl (pgs_cons (pg_name (i := 2) sc_States_init.nd rfl (by first | exact Or.inl rfl | exact Or.inr rfl)) (pgs_cons (pg_name (i := 3) sc_States_init.nd rfl (by first | exact Or.inl rfl | exact Or.inr rfl)) pgs_nil)))
  (pss_cons (ps_expr (pe_bm PySem.F.plainAttrs_list PySem.F.slot_list_extend PySem.F.type_list_extend Lr.mt_extT (Lr.kpe_fld K (pv 0) rfl) (pa_cons (C8.pe_mt0 c_Book_periods hr (by decide) (pv 2)) pa_nil)))
  (pss_one (ps_for PassesOwn.never rfl (pi_tup (Lr.pe_pr c_Book_names hr (by decide) (pv 2) rfl)) (pg_name (i := 4) sc_States_init.nd rfl (by first | exact Or.inl rfl | exact Or.inr rfl))
  (pss_one (ps_fld (pv 0) (C8.pe_c c_common_multiple hr (by decide) rfl (pa_cons (Lr.kpe_fld K (pv 0) rfl) (pa_cons (pe_ix (Lr.kix_tup K) (C8.pe_mt c_Book_share hr (by decide) (pv 2) (pa_cons (pv 4) pa_nil)) pe_int (fun _ _ => rfl)) pa_nil))) rfl)))))))))⟩

def der_States_empty {P : Program} {w : World} {K : PySem.W.Frag} {mg : Str → Option Value} {base : Heap} (T : Tx K mg)   {cdv : Value} {A : Around} {outer : List Env} {s : Shared} {H : Hp} {E : XK} (hr : Room 0 (A.deeper (envOfC "States.empty" (defScope s_States_empty) s.heap.objs.size (He.ma K (He.ga K "States") "empty") cdv))) :
    { t : TS // PSs (cxOf CX0 P w K mg base N_States_empty "States.empty" (defScope s_States_empty) (He.ma K (He.ga K "States") "empty") cdv A outer s H E).nox (defBody s_States_empty) t } := ⟨_, (pss_one (ps_ret (pe_op op_repT (pe_tup (pa_cons pe_int pa_nil)) (pe_callB (Lr.klen_seq K) (by rfl) (b_len T) (by decide +kernel) (pa_cons (Lr.kpe_fld K (pv 0) rfl) pa_nil)))))⟩

def der_States_move {P : Program} {w : World} {K : PySem.W.Frag} {mg : Str → Option Value} {base : Heap} (T : Tx K mg) {sp_Book_sums : Sp} (c_Book_sums : C8.Met P w K mg base 5 (He.ga K "Book") "sums" sp_Book_sums []) {cdv : Value} {A : Around} {outer : List Env} {s : Shared} {H : Hp} {E : XK} (hr : Room 5 (A.deeper (envOfC "States.move" (defScope s_States_move) s.heap.objs.size (He.ma K (He.ga K "States") "move") cdv))) :
    { t : TS // PSs (cxOf CX0 P w K mg base N_States_move "States.move" (defScope s_States_move) (He.ma K (He.ga K "States") "move") cdv A outer s H E).nox (defBody s_States_move) t } := ⟨_, (pss_cons (ps_set (i := 3) sc_States_move.nd rfl (by first | exact Or.inl rfl | exact Or.inr rfl) (pe_lst pa_nil))
  (pss_cons (ps_for PassesOwn.never rfl (pi_list (Lr.kpe_fld K (pv 0) rfl)) (Lr.kpg_tup K (n := 2) rfl (pgs_cons (pg_name (i := 4) sc_States_move.nd rfl (by first | exact Or.inl rfl | exact Or.inr rfl)) (pgs_cons (pg_name (i := 5) sc_States_move.nd rfl (by first | exact Or.inl rfl | exact Or.inr rfl)) pgs_nil)))
  (pss_one (ps_expr (pe_bm PySem.F.plainAttrs_list PySem.F.slot_list_extend PySem.F.type_list_extend Lr.mt_extT (pv 3) (pa_cons (C8.pe_mt c_Book_sums hr (by decide) (pv 4) (pa_cons (pe_tup (pa_cons (pe_tup (pa_cons (pv 1) (pa_cons (pv 2) pa_nil))) pa_nil)) pa_nil)) pa_nil)))))
  (pss_one (ps_ret (pe_callTy call_tuple_of (by rfl) (b_tuple T) (by decide +kernel) (pa_cons (pv 3) pa_nil))))))⟩

def der_States_weight {P : Program} {w : World} {K : PySem.W.Frag} {mg : Str → Option Value} {base : Heap} (T : Tx K mg) {sp_Book_share : Sp} {sp_Book_value : Sp} (c_Book_share : C8.Met P w K mg base 5 (He.ga K "Book") "share" sp_Book_share []) (c_Book_value : C8.Met P w K mg base 4 (He.ga K "Book") "value" sp_Book_value []) {cdv : Value} {A : Around} {outer : List Env} {s : Shared} {H : Hp} {E : XK} (hr : Room 5 (A.deeper (envOfC "States.weight" (defScope s_States_weight) s.heap.objs.size (He.ma K (He.ga K "States") "weight") cdv))) :
    { t : TS // PSs (cxOf CX0 P w K mg base N_States_weight "States.weight" (defScope s_States_weight) (He.ma K (He.ga K "States") "weight") cdv A outer s H E).nox (defBody s_States_weight) t } := ⟨_, (pss_cons (ps_set (i := 3) sc_States_weight.nd rfl (by first | exact Or.inl rfl | exact Or.inr rfl) pe_int)
  (pss_cons (ps_for PassesOwn.never rfl (pi_list (Lr.kpe_fld K (pv 0) rfl)) (Lr.kpg_tup K (n := 2) rfl (pgs_cons (pg_name (i := 4) sc_States_weight.nd rfl (by first | exact Or.inl rfl | exact Or.inr rfl)) (pgs_cons (pg_name (i := 5) sc_States_weight.nd rfl (by first | exact Or.inl rfl | exact Or.inr rfl)) pgs_nil)))
  (pss_cons (ps_set (i := 6) sc_States_weight.nd rfl (by first | exact Or.inl rfl | exact Or.inr rfl) (C8.pe_mt c_Book_share hr (by decide) (pv 4) (pa_cons (pv 1) pa_nil)))
  (pss_one (ps_aug (i := 3) sc_States_weight.nd rfl (by first | exact Or.inl rfl | exact Or.inr rfl) (pe_op Lr.op_mulE (pe_op Lr.op_mulE (pe_op Lr.op_mulE (pv 5) (C8.pe_mt c_Book_value hr (by decide) (pv 4) (pa_cons (pv 1) (pa_cons (pv 2) pa_nil)))) (pe_ix (Lr.kix_tup K) (pv 6) pe_int (fun _ _ => rfl))) (pe_op op_fdivW (Lr.kpe_fld K (pv 0) rfl) (pe_ix (Lr.kix_tup K) (pv 6) pe_int (fun _ _ => rfl)))) ip_add))))
  (pss_one (ps_ret (pv 3)))))⟩
end Lf

set_option Elab.async false
set_option linter.all false
set_option maxRecDepth 100000
set_option maxHeartbeats 4000000
namespace Lf
open PySem PySem.Spec PyProof.Rows L2 Lc

def der_States_reduced {P : Program} {w : World} {K : PySem.W.Frag} {mg : Str → Option Value} {base : Heap} (T : Tx K mg)   {cdv : Value} {A : Around} {outer : List Env} {s : Shared} {H : Hp} {E : XK} (hr : Room 0 (A.deeper (envOfC "States.reduced" (defScope s_States_reduced) s.heap.objs.size (He.ma K (He.ga K "States") "reduced") cdv))) :
    { t : TS // PSs (cxOf CX0 P w K mg base N_States_reduced "States.reduced" (defScope s_States_reduced) (He.ma K (He.ga K "States") "reduced") cdv A outer s H E).nox (defBody s_States_reduced) t } := ⟨_, (pss_one (ps_ret (pe_callTy call_tuple_of (by rfl) (b_tuple T) (by decide +kernel) (pa_cons (Lr.pe_lcW (pe_lc (own := [("number", 2), ("span", 3)]) rfl sc_States_reduced.nd (Lr.pi_Z2 rfl (b_zip T) (pa_cons (pv 1) (pa_cons (Lr.kpe_fld K (pv 0) rfl) pa_nil))) (blkOk_by (own := [("number", 2), ("span", 3)]) (N := N_States_reduced) (sc := defScope s_States_reduced) (by decide +kernel)) (fun _ _ _ _ _ => (Lr.kpg_tup K (n := 2) rfl (pgs_cons (pg_name (i := 2) sc_States_reduced.nd rfl (by first | exact Or.inl rfl | exact Or.inr rfl)) (pgs_cons (pg_name (i := 3) sc_States_reduced.nd rfl (by first | exact Or.inl rfl | exact Or.inr rfl)) pgs_nil)))) (fun _ _ _ _ _ => pts_nil) (fun _ _ _ _ _ => (pe_op op_mod (pv 2) (pv 3))))) pa_nil))))⟩

def der_States_added {P : Program} {w : World} {K : PySem.W.Frag} {mg : Str → Option Value} {base : Heap} (T : Tx K mg)   {cdv : Value} {A : Around} {outer : List Env} {s : Shared} {H : Hp} {E : XK} (hr : Room 0 (A.deeper (envOfC "States.added" (defScope s_States_added) s.heap.objs.size (He.ma K (He.ga K "States") "added") cdv))) :
    { t : TS // PSs (cxOf CX0 P w K mg base N_States_added "States.added" (defScope s_States_added) (He.ma K (He.ga K "States") "added") cdv A outer s H E).nox (defBody s_States_added) t } := ⟨_, (pss_one (ps_ret (pe_callTy call_tuple_of (by rfl) (b_tuple T) (by decide +kernel) (pa_cons (Lr.pe_lcW (pe_lc (own := [("here", 3), ("more", 4), ("span", 5)]) rfl sc_States_added.nd (Lr.pi_Z3 rfl (b_zip T) (pa_cons (pv 1) (pa_cons (pv 2) (pa_cons (Lr.kpe_fld K (pv 0) rfl) pa_nil)))) (blkOk_by (own := [("here", 3), ("more", 4), ("span", 5)]) (N := N_States_added) (sc := defScope s_States_added) (by decide +kernel)) (fun _ _ _ _ _ => (Lr.kpg_tup K (n := 3) rfl (pgs_cons (pg_name (i := 3) sc_States_added.nd rfl (by first | exact Or.inl rfl | exact Or.inr rfl)) (pgs_cons (pg_name (i := 4) sc_States_added.nd rfl (by first | exact Or.inl rfl | exact Or.inr rfl)) (pgs_cons (pg_name (i := 5) sc_States_added.nd rfl (by first | exact Or.inl rfl | exact Or.inr rfl)) pgs_nil))))) (fun _ _ _ _ _ => pts_nil) (fun _ _ _ _ _ => (pe_op op_mod (pe_op op_add (pv 3) (pv 4)) (pv 5))))) pa_nil))))⟩

def der_States_gap {P : Program} {w : World} {K : PySem.W.Frag} {mg : Str → Option Value} {base : Heap} (T : Tx K mg) {sp_Book_groups : Sp} {sp_Book_ask_of_sums : Sp} (c_Book_groups : Lr.Prp P w K mg base 1 (He.ga K "Book") "groups" sp_Book_groups) (c_Book_ask_of_sums : C8.Met P w K mg base 3 (He.ga K "Book") "ask_of_sums" sp_Book_ask_of_sums []) {cdv : Value} {A : Around} {outer : List Env} {s : Shared} {H : Hp} {E : XK} (hr : Room 3 (A.deeper (envOfC "States.gap" (defScope s_States_gap) s.heap.objs.size (He.ma K (He.ga K "States") "gap") cdv))) :
    { t : TS // PSs (cxOf CX0 P w K mg base N_States_gap "States.gap" (defScope s_States_gap) (He.ma K (He.ga K "States") "gap") cdv A outer s H E).nox (defBody s_States_gap) t } := ⟨_, (pss_cons (ps_asg (pe_tup (pa_cons pe_int (pa_cons pe_int pa_nil))) (Lr.kpg_tup K (n := 2) rfl (pgs_cons (pg_name (i := 2) sc_States_gap.nd rfl (by first | exact Or.inl rfl | exact Or.inr rfl)) (pgs_cons (pg_name (i := 3) sc_States_gap.nd rfl (by first | exact Or.inl rfl | exact Or.inr rfl)) pgs_nil))))
  (pss_cons (ps_for PassesOwn.never rfl (pi_list (Lr.kpe_fld K (pv 0) rfl)) (Lr.kpg_tup K (n := 2) rfl (pgs_cons (pg_name (i := 4) sc_States_gap.nd rfl (by first | exact Or.inl rfl | exact Or.inr rfl)) (pgs_cons (pg_name (i := 5) sc_States_gap.nd rfl (by first | exact Or.inl rfl | exact Or.inr rfl)) pgs_nil)))
  (pss_cons (ps_set (i := 6) sc_States_gap.nd rfl (by first | exact Or.inl rfl | exact Or.inr rfl) (pe_callB (Lr.klen_seq K) (by rfl) (b_len T) (by decide +kernel) (pa_cons (Lr.pe_pr c_Book_groups hr (by decide) (pv 4) rfl) pa_nil)))
  (pss_cons (ps_aug (i := 2) sc_States_gap.nd rfl (by first | exact Or.inl rfl | exact Or.inr rfl) (pe_op Lr.op_mulE (pv 5) (C8.pe_mt c_Book_ask_of_sums hr (by decide) (pv 4) (pa_cons (pe_slice (Lr.ksl_tupA K) (pv 1) (po_some (pv 3)) (po_some (pe_op op_add (pv 3) (pv 6)))) pa_nil))) ip_add)
  (pss_one (ps_set (i := 3) sc_States_gap.nd rfl (by first | exact Or.inl rfl | exact Or.inr rfl) (pe_op op_add (pv 3) (pv 6)))))))
  (pss_one (ps_ret (pv 2)))))⟩

def der_States_base {P : Program} {w : World} {K : PySem.W.Frag} {mg : Str → Option Value} {base : Heap} (T : Tx K mg) {sp_States_gap : Sp} {sp_Book_groups : Sp} {sp_States_share_of_group : Sp} (c_States_gap : C8.Met P w K mg base 4 (He.ga K "States") "gap" sp_States_gap []) (c_Book_groups : Lr.Prp P w K mg base 1 (He.ga K "Book") "groups" sp_Book_groups) (c_States_share_of_group : C8.Met P w K mg base 6 (He.ga K "States") "share_of_group" sp_States_share_of_group []) {cdv : Value} {A : Around} {outer : List Env} {s : Shared} {H : Hp} {E : XK} (hr : Room 6 (A.deeper (envOfC "States.base" (defScope s_States_base) s.heap.objs.size (He.ma K (He.ga K "States") "base") cdv))) :
    { t : TS // PSs (cxOf CX0 P w K mg base N_States_base "States.base" (defScope s_States_base) (He.ma K (He.ga K "States") "base") cdv A outer s H E).nox (defBody s_States_base) t } := ⟨_, (pss_cons (ps_par (i := 2) (j := 3) rfl sc_States_base.nd rfl rfl (by decide) rfl rfl (pa_cons (pe_op Lr.op_mulE (C8.pe_mt c_States_gap hr (by decide) (pv 0) (pa_cons (pv 1) pa_nil)) (Lr.kpe_fld K (pv 0) rfl)) (pa_cons pe_int pa_nil)) (by rfl))
  (pss_cons (ps_for PassesOwn.never rfl (pi_list (Lr.kpe_fld K (pv 0) rfl)) (Lr.kpg_tup K (n := 2) rfl (pgs_cons (pg_name (i := 4) sc_States_base.nd rfl (by first | exact Or.inl rfl | exact Or.inr rfl)) (pgs_cons (pg_name (i := 5) sc_States_base.nd rfl (by first | exact Or.inl rfl | exact Or.inr rfl)) pgs_nil)))
  (pss_cons (Lr.ps_lcW (ps_setLc (i := 6) (own := [("group", 9)]) rfl sc_States_base.nd rfl rfl (sw_true rfl rfl rfl (by decide +kernel)) (pi_range1 rfl (b_range T) (pa_cons (pe_callB (Lr.klen_seq K) (by rfl) (b_len T) (by decide +kernel) (pa_cons (Lr.pe_pr c_Book_groups hr (by decide) (pv 4) rfl) pa_nil)) pa_nil)) (blkOk_by (own := [("group", 9)]) (N := N_States_base) (sc := defScope s_States_base) (by decide +kernel)) (fun _ _ _ _ _ => (pg_name (i := 9) sc_States_base.nd rfl (by first | exact Or.inl rfl | exact Or.inr rfl))) (fun _ _ _ _ _ => pts_nil) (fun _ _ _ _ _ => (C8.pe_mt c_States_share_of_group hr (by decide) (pv 0) (pa_cons (pv 4) (pa_cons (pv 9) pa_nil))))))
  (pss_cons (ps_for PassesOwn.never rfl (Lr.pi_Z2 rfl (b_zip T) (pa_cons (pv 6) (pa_cons (pe_slice (Lr.ksl_tupA K) (pv 1) (po_some (pv 3)) po_none) pa_nil))) (Lr.kpg_tup K (n := 2) rfl (pgs_cons (pg_name (i := 7) sc_States_base.nd rfl (by first | exact Or.inl rfl | exact Or.inr rfl)) (pgs_cons (pg_name (i := 8) sc_States_base.nd rfl (by first | exact Or.inl rfl | exact Or.inr rfl)) pgs_nil)))
  (pss_one (ps_aug (i := 2) sc_States_base.nd rfl (by first | exact Or.inl rfl | exact Or.inr rfl) (pe_op Lr.op_mulE (pe_op Lr.op_mulE (pv 5) (pv 7)) (pv 8)) ip_sub)))
  (pss_one (ps_set (i := 3) sc_States_base.nd rfl (by first | exact Or.inl rfl | exact Or.inr rfl) (pe_op op_add (pv 3) (pe_callB (Lr.klen_seq K) (by rfl) (b_len T) (by decide +kernel) (pa_cons (pv 6) pa_nil))))))))
  (pss_one (ps_ret (pv 2)))))⟩

def der_States_share_of_group {P : Program} {w : World} {K : PySem.W.Frag} {mg : Str → Option Value} {base : Heap} (T : Tx K mg) {sp_Book_kinds : Sp} {sp_Book_share : Sp} (c_Book_kinds : Lr.Prp P w K mg base 1 (He.ga K "Book") "kinds" sp_Book_kinds) (c_Book_share : C8.Met P w K mg base 5 (He.ga K "Book") "share" sp_Book_share []) {cdv : Value} {A : Around} {outer : List Env} {s : Shared} {H : Hp} {E : XK} (hr : Room 5 (A.deeper (envOfC "States.share_of_group" (defScope s_States_share_of_group) s.heap.objs.size (He.ma K (He.ga K "States") "share_of_group") cdv))) :
    { t : TS // PSs (cxOf CX0 P w K mg base N_States_share_of_group "States.share_of_group" (defScope s_States_share_of_group) (He.ma K (He.ga K "States") "share_of_group") cdv A outer s H E).nox (defBody s_States_share_of_group) t } := ⟨_, (pss_cons (ps_for PassesOwn.never rfl (pi_tup (Lr.pe_pr c_Book_kinds hr (by decide) (pv 1) rfl)) (Lr.kpg_tup K (n := 3) rfl (pgs_cons (pg_name (i := 3) sc_States_share_of_group.nd rfl (by first | exact Or.inl rfl | exact Or.inr rfl)) (pgs_cons (pg_name (i := 4) sc_States_share_of_group.nd rfl (by first | exact Or.inl rfl | exact Or.inr rfl)) (pgs_cons (pg_name (i := 5) sc_States_share_of_group.nd rfl (by first | exact Or.inl rfl | exact Or.inr rfl)) pgs_nil))))
  (pss_one (ps_if (pt_cmpR op_eq (pv 4) (pv 2) (nomark _))
  (pss_cons (ps_set (i := 6) sc_States_share_of_group.nd rfl (by first | exact Or.inl rfl | exact Or.inr rfl) (C8.pe_mt c_Book_share hr (by decide) (pv 1) (pa_cons (pv 3) pa_nil)))
  (pss_one (ps_ret (pe_op Lr.op_mulE (pe_ix (Lr.kix_tup K) (pv 6) pe_int (fun _ _ => rfl)) (pe_op op_fdivW (Lr.kpe_fld K (pv 0) rfl) (pe_ix (Lr.kix_tup K) (pv 6) pe_int (fun _ _ => rfl)))))))
  pss_nil)))
  (pss_one (ps_ret pe_int)))⟩

def der_States_lines {P : Program} {w : World} {K : PySem.W.Frag} {mg : Str → Option Value} {base : Heap} (T : Tx K mg) {sp_Book_names : Sp} {sp_amounts_of : Sp} {sp_States_reduced : Sp} {sp_States_move : Sp} {sp_States_weight : Sp} (c_Book_names : Lr.Prp P w K mg base 1 (He.ga K "Book") "names" sp_Book_names) (c_amounts_of : C8.Cal P w K mg base 4 "amounts_of" sp_amounts_of []) (c_States_reduced : C8.Met P w K mg base 1 (He.ga K "States") "reduced" sp_States_reduced []) (c_States_move : C8.Met P w K mg base 6 (He.ga K "States") "move" sp_States_move []) (c_States_weight : C8.Met P w K mg base 6 (He.ga K "States") "weight" sp_States_weight []) {cdv : Value} {A : Around} {outer : List Env} {s : Shared} {H : Hp} {E : XK} (hr : Room 6 (A.deeper (envOfC "States.lines" (defScope s_States_lines) s.heap.objs.size (He.ma K (He.ga K "States") "lines") cdv))) :
    { t : TS // PSs (cxOf CX0 P w K mg base N_States_lines "States.lines" (defScope s_States_lines) (He.ma K (He.ga K "States") "lines") cdv A outer s H E).nox (defBody s_States_lines) t } := ⟨_, (pss_cons (ps_par (i := 1) (j := 2) rfl sc_States_lines.nd rfl rfl (by decide) rfl rfl (pa_cons (Lr.pe_lcW (pe_lc (own := [("book", 7), ("sign", 8)]) rfl sc_States_lines.nd (pi_list (Lr.kpe_fld K (pv 0) rfl)) (blkOk_by (own := [("book", 7), ("sign", 8)]) (N := N_States_lines) (sc := defScope s_States_lines) (by decide +kernel)) (fun _ _ _ _ _ => (Lr.kpg_tup K (n := 2) rfl (pgs_cons (pg_name (i := 7) sc_States_lines.nd rfl (by first | exact Or.inl rfl | exact Or.inr rfl)) (pgs_cons (pg_name (i := 8) sc_States_lines.nd rfl (by first | exact Or.inl rfl | exact Or.inr rfl)) pgs_nil)))) (fun _ _ _ _ _ => pts_nil) (fun _ _ _ _ _ => (pv 7)))) (pa_cons (pe_lst pa_nil) pa_nil)) (by rfl))
  (pss_cons (ps_for PassesOwn.never rfl (Lr.pi_En rfl (b_enumerate T) (pa_cons (Lr.pe_pr c_Book_names hr (by decide) (pe_ix (Lr.kix_list K) (pv 1) pe_int (fun _ _ => rfl)) rfl) pa_nil)) (Lr.kpg_tup K (n := 2) rfl (pgs_cons (pg_name (i := 3) sc_States_lines.nd rfl (by first | exact Or.inl rfl | exact Or.inr rfl)) (pgs_cons (pg_name (i := 4) sc_States_lines.nd rfl (by first | exact Or.inl rfl | exact Or.inr rfl)) pgs_nil)))
  (pss_one (ps_for PassesOwn.never rfl (pi_range1 rfl (b_range T) (pa_cons (C8.pe_c c_amounts_of hr (by decide) rfl (pa_cons (pv 1) (pa_cons (pv 4) pa_nil))) pa_nil)) (pg_name (i := 5) sc_States_lines.nd rfl (by first | exact Or.inl rfl | exact Or.inr rfl))
  (pss_cons (ps_set (i := 6) sc_States_lines.nd rfl (by first | exact Or.inl rfl | exact Or.inr rfl) (C8.pe_mt c_States_reduced hr (by decide) (pv 0) (pa_cons (C8.pe_mt c_States_move hr (by decide) (pv 0) (pa_cons (pv 4) (pa_cons (pv 5) pa_nil))) pa_nil)))
  (pss_one (ps_expr (pe_bm PySem.F.plainAttrs_list PySem.F.slot_list_append PySem.F.type_list_append mt_append (pv 2) (pa_cons (pe_tup (pa_cons (pv 3) (pa_cons (pv 5) (pa_cons (pv 6) (pa_cons (C8.pe_mt c_States_weight hr (by decide) (pv 0) (pa_cons (pv 4) (pa_cons (pv 5) pa_nil))) pa_nil))))) pa_nil))))))))
  (pss_one (ps_ret (pv 2)))))⟩

def der_States_best_lines {P : Program} {w : World} {K : PySem.W.Frag} {mg : Str → Option Value} {base : Heap} (T : Tx K mg) {sp_States_lines : Sp} (c_States_lines : C8.Met P w K mg base 7 (He.ga K "States") "lines" sp_States_lines []) {cdv : Value} {A : Around} {outer : List Env} {s : Shared} {H : Hp} {E : XK} (hr : Room 7 (A.deeper (envOfC "States.best_lines" (defScope s_States_best_lines) s.heap.objs.size (He.ma K (He.ga K "States") "best_lines") cdv))) :
    { t : TS // PSs (cxOf CX0 P w K mg base N_States_best_lines "States.best_lines" (defScope s_States_best_lines) (He.ma K (He.ga K "States") "best_lines") cdv A outer s H E).nox (defBody s_States_best_lines) t } := ⟨_, (pss_cons (ps_set (i := 1) sc_States_best_lines.nd rfl (by first | exact Or.inl rfl | exact Or.inr rfl) pe_dnewT)
  (pss_cons (ps_for PassesOwn.never rfl (pi_list (C8.pe_mt0 c_States_lines hr (by decide) (pv 0))) (Lr.kpg_tup K (n := 4) rfl (pgs_cons (pg_name (i := 2) sc_States_best_lines.nd rfl (by first | exact Or.inl rfl | exact Or.inr rfl)) (pgs_cons (pg_name (i := 3) sc_States_best_lines.nd rfl (by first | exact Or.inl rfl | exact Or.inr rfl)) (pgs_cons (pg_name (i := 4) sc_States_best_lines.nd rfl (by first | exact Or.inl rfl | exact Or.inr rfl)) (pgs_cons (pg_name (i := 5) sc_States_best_lines.nd rfl (by first | exact Or.inl rfl | exact Or.inr rfl)) pgs_nil)))))
  (pss_one (ps_if (PW.pt (pw_or (pt_cmp (pc_dnotin (hu_of hr) (pv 4) (pv 1))) (pw_or1 (pt_cmpR op_lt (pe_ix (Lr.kix_tup K) (pe_dget (hu_of hr) (pv 1) (pv 4) (fun _ _ => rfl)) pe_int (fun _ _ => rfl)) (pv 5) (nomark _)))))
  (pss_one (ps_dput (hu_of hr) (pv 1) (pv 4) (pe_tup (pa_cons (pv 5) (pa_cons (pv 2) (pa_cons (pv 3) pa_nil)))) rfl))
  pss_nil)))
  (pss_one (ps_ret (pv 1)))))⟩

def der_States_order {P : Program} {w : World} {K : PySem.W.Frag} {mg : Str → Option Value} {base : Heap} (T : Tx K mg) {sp_common_multiple : Sp} {sp_common_divisor : Sp} (c_common_multiple : C8.Cal P w K mg base 2 "common_multiple" sp_common_multiple []) (c_common_divisor : C8.Cal P w K mg base 1 "common_divisor" sp_common_divisor []) {cdv : Value} {A : Around} {outer : List Env} {s : Shared} {H : Hp} {E : XK} (hr : Room 2 (A.deeper (envOfC "States.order" (defScope s_States_order) s.heap.objs.size (He.ma K (He.ga K "States") "order") cdv))) :
    { t : TS // PSs (cxOf CX0 P w K mg base N_States_order "States.order" (defScope s_States_order) (He.ma K (He.ga K "States") "order") cdv A outer s H E).nox (defBody s_States_order) t } := ⟨_, (pss_cons (ps_set (i := 2) sc_States_order.nd rfl (by first | exact Or.inl rfl | exact Or.inr rfl) pe_int)
  (pss_cons (ps_for PassesOwn.never rfl (Lr.pi_Z2 rfl (b_zip T) (pa_cons (pv 1) (pa_cons (Lr.kpe_fld K (pv 0) rfl) pa_nil))) (Lr.kpg_tup K (n := 2) rfl (pgs_cons (pg_name (i := 3) sc_States_order.nd rfl (by first | exact Or.inl rfl | exact Or.inr rfl)) (pgs_cons (pg_name (i := 4) sc_States_order.nd rfl (by first | exact Or.inl rfl | exact Or.inr rfl)) pgs_nil)))
  (pss_one (ps_set (i := 2) sc_States_order.nd rfl (by first | exact Or.inl rfl | exact Or.inr rfl) (C8.pe_c c_common_multiple hr (by decide) rfl (pa_cons (pv 2) (pa_cons (pe_op op_fdivW (pv 4) (C8.pe_c c_common_divisor hr (by decide) rfl (pa_cons (pv 3) (pa_cons (pv 4) pa_nil)))) pa_nil))))))
  (pss_one (ps_ret (pv 2)))))⟩

def der_one_more {P : Program} {w : World} {K : PySem.W.Frag} {mg : Str → Option Value} {base : Heap} (T : Tx K mg) {sp_States_added : Sp} (c_States_added : C8.Met P w K mg base 1 (He.ga K "States") "added" sp_States_added []) {cdv : Value} {A : Around} {outer : List Env} {s : Shared} {H : Hp} {E : XK} (hr : Room 1 (A.deeper (envOfC "one_more" (defScope s_one_more) s.heap.objs.size (He.ga K "one_more") cdv))) :
    { t : TS // PSs (cxOf CX0 P w K mg base N_one_more "one_more" (defScope s_one_more) (He.ga K "one_more") cdv A outer s H E).nox (defBody s_one_more) t } := ⟨_, (pss_cons (ps_set (i := 3) sc_one_more.nd rfl (by first | exact Or.inl rfl | exact Or.inr rfl) pe_dnewT)
  (pss_cons (ps_lock (ps_for PassesOwn.never rfl (Lr.pi_IT (pv 1)) (Lr.kpg_tup K (n := 2) rfl (pgs_cons (pg_name (i := 4) sc_one_more.nd rfl (by first | exact Or.inl rfl | exact Or.inr rfl)) (pgs_cons (pg_name (i := 5) sc_one_more.nd rfl (by first | exact Or.inl rfl | exact Or.inr rfl)) pgs_nil)))
  (pss_one (ps_lock (ps_for PassesOwn.never rfl (Lr.pi_IT (pv 2)) (Lr.kpg_tup K (n := 2) rfl (pgs_cons (pg_name (i := 6) sc_one_more.nd rfl (by first | exact Or.inl rfl | exact Or.inr rfl)) (pgs_cons (pg_name (i := 7) sc_one_more.nd rfl (by first | exact Or.inl rfl | exact Or.inr rfl)) pgs_nil)))
  (pss_cons (ps_par (i := 8) (j := 9) rfl sc_one_more.nd rfl rfl (by decide) rfl rfl (pa_cons (C8.pe_mt c_States_added hr (by decide) (pv 0) (pa_cons (pv 4) (pa_cons (pv 6) pa_nil))) (pa_cons (pe_op op_add (pv 5) (pe_ix (Lr.kix_tup K) (pv 7) pe_int (fun _ _ => rfl))) pa_nil)) (by rfl))
  (pss_one (ps_if (PW.pt (pw_or (pt_cmp (pc_dnotin (hu_of hr) (pv 8) (pv 3))) (pw_or1 (pt_cmpR op_lt (pe_dget (hu_of hr) (pv 3) (pv 8) (fun _ _ => rfl)) (pv 9) (nomark _)))))
  (pss_one (ps_dput (hu_of hr) (pv 3) (pv 8) (pv 9) rfl))
  pss_nil))))))))
  (pss_one (ps_ret (pv 3)))))⟩

def der_greatest_gap {P : Program} {w : World} {K : PySem.W.Frag} {mg : Str → Option Value} {base : Heap} (T : Tx K mg) {sp_States_base : Sp} (c_States_base : C8.Met P w K mg base 7 (He.ga K "States") "base" sp_States_base []) {cdv : Value} {A : Around} {outer : List Env} {s : Shared} {H : Hp} {E : XK} (hr : Room 7 (A.deeper (envOfC "greatest_gap" (defScope s_greatest_gap) s.heap.objs.size (He.ga K "greatest_gap") cdv))) :
    { t : TS // PSs (cxOf CX0 P w K mg base N_greatest_gap "greatest_gap" (defScope s_greatest_gap) (He.ga K "greatest_gap") cdv A outer s H E).nox (defBody s_greatest_gap) t } := ⟨_, (pss_one (ps_ret (pe_op op_fdivW (pe_callB (cr_max rfl) (by rfl) (b_max T) (by decide +kernel) (pa_cons (pe_lock (Lr.pe_lcW (pe_lc (own := [("state", 2), ("weight", 3)]) rfl sc_greatest_gap.nd (Lr.pi_IT (pv 1)) (blkOk_by (own := [("state", 2), ("weight", 3)]) (N := N_greatest_gap) (sc := defScope s_greatest_gap) (by decide +kernel)) (fun _ _ _ _ _ => (Lr.kpg_tup K (n := 2) rfl (pgs_cons (pg_name (i := 2) sc_greatest_gap.nd rfl (by first | exact Or.inl rfl | exact Or.inr rfl)) (pgs_cons (pg_name (i := 3) sc_greatest_gap.nd rfl (by first | exact Or.inl rfl | exact Or.inr rfl)) pgs_nil)))) (fun _ _ _ _ _ => pts_nil) (fun _ _ _ _ _ => (pe_op op_add (pv 3) (C8.pe_mt c_States_base hr (by decide) (pv 0) (pa_cons (pv 2) pa_nil))))))) pa_nil)) (Lr.kpe_fld K (pv 0) rfl))))⟩

def der_difference {P : Program} {w : World} {K : PySem.W.Frag} {mg : Str → Option Value} {base : Heap} (T : Tx K mg) {sp_check_two : Sp} {sp_check_bill : Sp} {sp_Book_names : Sp} {sp_check_fit : Sp} {sp_Book_ask : Sp} (c_check_two : C8.Cal P w K mg base 2 "check_two" sp_check_two []) (c_check_bill : C8.Cal P w K mg base 4 "check_bill" sp_check_bill []) (c_Book_names : Lr.Prp P w K mg base 1 (He.ga K "Book") "names" sp_Book_names) (c_check_fit : C8.Cal P w K mg base 3 "check_fit" sp_check_fit []) (c_Book_ask : C8.Met P w K mg base 6 (He.ga K "Book") "ask" sp_Book_ask []) {cdv : Value} {A : Around} {outer : List Env} {s : Shared} {H : Hp} {E : XK} (hr : Room 6 (A.deeper (envOfC "difference" (defScope s_difference) s.heap.objs.size (He.ga K "difference") cdv))) :
    { t : TS // PSs (cxOf CX0 P w K mg base N_difference "difference" (defScope s_difference) (He.ga K "difference") cdv A outer s H E).nox (defBody s_difference) t } := ⟨_, (pss_cons (ps_expr (C8.pe_c c_check_two hr (by decide) rfl (pa_cons (pv 0) (pa_cons (pv 1) pa_nil))))
  (pss_cons (ps_expr (C8.pe_c c_check_bill hr (by decide) rfl (pa_cons (pv 2) (pa_cons (Lr.pe_pr c_Book_names hr (by decide) (pv 0) rfl) pa_nil))))
  (pss_cons (ps_expr (C8.pe_c c_check_fit hr (by decide) rfl (pa_cons (pv 0) (pa_cons (pv 1) pa_nil))))
  (pss_one (ps_ret (pe_op op_sub (C8.pe_mt c_Book_ask hr (by decide) (pv 0) (pa_cons (pv 2) pa_nil)) (C8.pe_mt c_Book_ask hr (by decide) (pv 1) (pa_cons (pv 2) pa_nil))))))))⟩

def der_check_greatest {P : Program} {w : World} {K : PySem.W.Frag} {mg : Str → Option Value} {base : Heap} (T : Tx K mg) {sp_check_fit : Sp} {sp_check_rates : Sp} {sp_check_size : Sp} (c_check_fit : C8.Cal P w K mg base 3 "check_fit" sp_check_fit []) (c_check_rates : C8.Cal P w K mg base 7 "check_rates" sp_check_rates []) (c_check_size : C8.Cal P w K mg base 5 "check_size" sp_check_size []) {cdv : Value} {A : Around} {outer : List Env} {s : Shared} {H : Hp} {E : XK} (hr : Room 7 (A.deeper (envOfC "check_greatest" (defScope s_check_greatest) s.heap.objs.size (He.ga K "check_greatest") cdv))) :
    { t : TS // PSs (cxOf CX0 P w K mg base N_check_greatest "check_greatest" (defScope s_check_greatest) (He.ga K "check_greatest") cdv A outer s H E).nox (defBody s_check_greatest) t } := ⟨_, (pss_cons (ps_expr (C8.pe_c c_check_fit hr (by decide) rfl (pa_cons (pv 0) (pa_cons (pv 1) pa_nil))))
  (pss_cons (ps_expr (C8.pe_c c_check_rates hr (by decide) rfl (pa_cons (pv 0) (pa_cons (pv 1) pa_nil))))
  (pss_one (ps_expr (C8.pe_c c_check_size hr (by decide) rfl (pa_cons (pe_lst (pa_cons (pv 0) (pa_cons (pv 1) pa_nil))) pa_nil))))))⟩
end Lf

set_option Elab.async false
set_option linter.all false
set_option maxRecDepth 100000
set_option maxHeartbeats 4000000
namespace Lf
open PySem PySem.Spec PyProof.Rows L2 Lc

def der_row_of {P : Program} {w : World} {K : PySem.W.Frag} {mg : Str → Option Value} {base : Heap} (T : Tx K mg) {sp_States_init : Sp} {sp_sides_of : Sp} {sp_States_best_lines : Sp} {sp_States_empty : Sp} {sp_one_more : Sp} {sp_is_led_on : Sp} {sp_greatest_gap : Sp} {sp_States_order : Sp} {sp_States_added : Sp} {sp_Row_init : Sp} (c_States_init : C8.Mak P w K mg base 6 "States" (He.ga K "States") sp_States_init []) (c_sides_of : C8.Cal P w K mg base 1 "sides_of" sp_sides_of []) (c_States_best_lines : C8.Met P w K mg base 8 (He.ga K "States") "best_lines" sp_States_best_lines []) (c_States_empty : C8.Met P w K mg base 1 (He.ga K "States") "empty" sp_States_empty []) (c_one_more : C8.Cal P w K mg base 2 "one_more" sp_one_more []) (c_is_led_on : C8.Cal P w K mg base 2 "is_led_on" sp_is_led_on []) (c_greatest_gap : C8.Cal P w K mg base 8 "greatest_gap" sp_greatest_gap []) (c_States_order : C8.Met P w K mg base 3 (He.ga K "States") "order" sp_States_order []) (c_States_added : C8.Met P w K mg base 1 (He.ga K "States") "added" sp_States_added []) (c_Row_init : C8.Mak P w K mg base 3 "Row" (He.ga K "Row") sp_Row_init []) {cdv : Value} {A : Around} {outer : List Env} {s : Shared} {H : Hp} {E : XK} (hr : Room 8 (A.deeper (envOfC "row_of" (defScope s_row_of) s.heap.objs.size (He.ga K "row_of") cdv))) :
    { t : TS // PSs (cxOf CX0 P w K mg base N_row_of "row_of" (defScope s_row_of) (He.ga K "row_of") cdv A outer s H E).nox (defBody s_row_of) t } := ⟨_, (pss_cons (ps_set (i := 2) sc_row_of.nd rfl (by first | exact Or.inl rfl | exact Or.inr rfl) (C8.pe_mk c_States_init hr (by decide) rfl (pa_cons (C8.pe_c c_sides_of hr (by decide) rfl (pa_cons (pv 0) (pa_cons (pv 1) pa_nil))) pa_nil)))
  (pss_cons (ps_set (i := 3) sc_row_of.nd rfl (by first | exact Or.inl rfl | exact Or.inr rfl) (C8.pe_mt0 c_States_best_lines hr (by decide) (pv 2)))
  (pss_cons (ps_set (i := 4) sc_row_of.nd rfl (by first | exact Or.inl rfl | exact Or.inr rfl) (pe_callB (cr_max rfl) (by rfl) (b_max T) (by decide +kernel) (pa_cons (pe_lock (Lr.pe_lcW (pe_lc (own := [("told", 12)]) rfl sc_row_of.nd (Lr.pi_VT (pv 3)) (blkOk_by (own := [("told", 12)]) (N := N_row_of) (sc := defScope s_row_of) (by decide +kernel)) (fun _ _ _ _ _ => (pg_name (i := 12) sc_row_of.nd rfl (by first | exact Or.inl rfl | exact Or.inr rfl))) (fun _ _ _ _ _ => pts_nil) (fun _ _ _ _ _ => (pe_ix (Lr.kix_tup K) (pv 12) pe_int (fun _ _ => rfl)))))) pa_nil)))
  (pss_cons (ps_set (i := 5) sc_row_of.nd rfl (by first | exact Or.inl rfl | exact Or.inr rfl) (pe_ix (Lr.kix_list K) (pe_lock (Lr.pe_lcW (pe_lc (own := [("move", 5), ("told", 12)]) rfl sc_row_of.nd (Lr.pi_IT (pv 3)) (blkOk_by (own := [("move", 5), ("told", 12)]) (N := N_row_of) (sc := defScope s_row_of) (by decide +kernel)) (fun _ _ _ _ _ => (Lr.kpg_tup K (n := 2) rfl (pgs_cons (pg_name (i := 5) sc_row_of.nd rfl (by first | exact Or.inl rfl | exact Or.inr rfl)) (pgs_cons (pg_name (i := 12) sc_row_of.nd rfl (by first | exact Or.inl rfl | exact Or.inr rfl)) pgs_nil)))) (fun _ _ _ _ _ => (pts_one (pt_cmpR op_eq (pe_ix (Lr.kix_tup K) (pv 12) pe_int (fun _ _ => rfl)) (pv 4) (nomark _)))) (fun _ _ _ _ _ => (pv 5))))) pe_int (fun _ _ => rfl)))
  (pss_cons (ps_par (i := 6) (j := 7) rfl sc_row_of.nd rfl rfl (by decide) rfl rfl (pa_cons (Lr.pe_done1 hr.units0 (C8.pe_mt0 c_States_empty hr (by decide) (pv 2)) pe_int) (pa_cons (pe_lst pa_nil) pa_nil)) (by rfl))
  (pss_cons (ps_set (i := 8) sc_row_of.nd rfl (by first | exact Or.inl rfl | exact Or.inr rfl) (C8.pe_c c_one_more hr (by decide) rfl (pa_cons (pv 2) (pa_cons (pv 6) (pa_cons (pv 3) pa_nil)))))
  (pss_cons (ps_while PassesOwn.never (pt_not (pt_val (C8.pe_c c_is_led_on hr (by decide) rfl (pa_cons (pv 2) (pa_cons (pv 6) (pa_cons (pv 8) (pa_cons (pv 5) (pa_cons (pv 4) pa_nil))))))))
  (pss_cons (ps_expr (pe_bm PySem.F.plainAttrs_list PySem.F.slot_list_append PySem.F.type_list_append mt_append (pv 7) (pa_cons (C8.pe_c c_greatest_gap hr (by decide) rfl (pa_cons (pv 2) (pa_cons (pv 6) pa_nil))) pa_nil)))
  (pss_one (ps_par (i := 6) (j := 8) rfl sc_row_of.nd rfl rfl (by decide) rfl rfl (pa_cons (pv 8) (pa_cons (C8.pe_c c_one_more hr (by decide) rfl (pa_cons (pv 2) (pa_cons (pv 8) (pa_cons (pv 3) pa_nil)))) pa_nil)) (by rfl)))))
  (pss_cons (ps_par (i := 9) (j := 10) rfl sc_row_of.nd rfl rfl (by decide) rfl rfl (pa_cons (C8.pe_mt c_States_order hr (by decide) (pv 2) (pa_cons (pv 5) pa_nil)) (pa_cons (pe_lst pa_nil) pa_nil)) (by rfl))
  (pss_cons (ps_for PassesOwn.never rfl (pi_range1 rfl (b_range T) (pa_cons (pv 9) pa_nil)) (pg_name (i := 11) sc_row_of.nd rfl (by first | exact Or.inl rfl | exact Or.inr rfl))
  (pss_cons (ps_expr (pe_bm PySem.F.plainAttrs_list PySem.F.slot_list_append PySem.F.type_list_append mt_append (pv 10) (pa_cons (C8.pe_c c_greatest_gap hr (by decide) rfl (pa_cons (pv 2) (pa_cons (pv 6) pa_nil))) pa_nil)))
  (pss_one (ps_lock (Lr.ps_dcW (Lr.ps_setDcT (i := 6) (own := [("state", 13), ("total", 14)]) (Nat.lt_of_succ_lt (hu_of hr)) rfl sc_row_of.nd rfl rfl (Lr.sw_trueD rfl rfl rfl (by decide +kernel)) (Lr.pi_IT (pv 6)) (blkOk_by (own := [("state", 13), ("total", 14)]) (N := N_row_of) (sc := defScope s_row_of) (by decide +kernel)) (fun _ _ _ _ _ => (Lr.kpg_tup K (n := 2) rfl (pgs_cons (pg_name (i := 13) sc_row_of.nd rfl (by first | exact Or.inl rfl | exact Or.inr rfl)) (pgs_cons (pg_name (i := 14) sc_row_of.nd rfl (by first | exact Or.inl rfl | exact Or.inr rfl)) pgs_nil)))) (fun _ _ _ _ _ => (C8.pe_mt c_States_added hr (by decide) (pv 2) (pa_cons (pv 13) (pa_cons (pv 5) pa_nil)))) (fun _ _ _ _ _ => (pe_op op_add (pv 14) (pv 4)))))))))
  (pss_one (ps_ret (C8.pe_mk c_Row_init hr (by decide) rfl (pa_cons (pe_callTy call_tuple_of (by rfl) (b_tuple T) (by decide +kernel) (pa_cons (pv 7) pa_nil)) (pa_cons (pe_callTy call_tuple_of (by rfl) (b_tuple T) (by decide +kernel) (pa_cons (pv 10) pa_nil)) (pa_cons (pe_op op_fdivW (pe_op Lr.op_mulE (pv 9) (pv 4)) (Lr.kpe_fld K (pv 2) rfl)) pa_nil)))))))))))))))⟩

def der_is_led_on {P : Program} {w : World} {K : PySem.W.Frag} {mg : Str → Option Value} {base : Heap} (T : Tx K mg) {sp_States_added : Sp} (c_States_added : C8.Met P w K mg base 1 (He.ga K "States") "added" sp_States_added []) {cdv : Value} {A : Around} {outer : List Env} {s : Shared} {H : Hp} {E : XK} (hr : Room 1 (A.deeper (envOfC "is_led_on" (defScope s_is_led_on) s.heap.objs.size (He.ga K "is_led_on") cdv))) :
    { t : TS // PSs (cxOf CX0 P w K mg base N_is_led_on "is_led_on" (defScope s_is_led_on) (He.ga K "is_led_on") cdv A outer s H E).nox (defBody s_is_led_on) t } := ⟨_, (pss_cons (ps_if (pt_cmpR op_ne (pe_callB call_len_dT (by rfl) (b_len T) (by decide +kernel) (pa_cons (pv 1) pa_nil)) (pe_callB call_len_dT (by rfl) (b_len T) (by decide +kernel) (pa_cons (pv 2) pa_nil)) (nomark _))
  (pss_one (ps_ret pe_bl))
  pss_nil)
  (pss_one (ps_ret (pe_callB (Lr.kall K rfl) (by rfl) (b_all T) (by decide +kernel) (pa_cons (pe_lock (Lr.pe_lcW (pe_lc (own := [("state", 5), ("total", 6)]) rfl sc_is_led_on.nd (Lr.pi_IT (pv 1)) (blkOk_by (own := [("state", 5), ("total", 6)]) (N := N_is_led_on) (sc := defScope s_is_led_on) (by decide +kernel)) (fun _ _ _ _ _ => (Lr.kpg_tup K (n := 2) rfl (pgs_cons (pg_name (i := 5) sc_is_led_on.nd rfl (by first | exact Or.inl rfl | exact Or.inr rfl)) (pgs_cons (pg_name (i := 6) sc_is_led_on.nd rfl (by first | exact Or.inl rfl | exact Or.inr rfl)) pgs_nil)))) (fun _ _ _ _ _ => pts_nil) (fun _ _ _ _ _ => (pe_cmpR op_eq (pe_dget1 (hu_of hr) (pv 2) (C8.pe_mt c_States_added hr (by decide) (pv 0) (pa_cons (pv 5) (pa_cons (pv 3) pa_nil))) ⟨rfl, rfl, rfl, rfl⟩) (pe_op op_add (pv 6) (pv 4)) (nomark _)))))) pa_nil)))))⟩

def der_greatest {P : Program} {w : World} {K : PySem.W.Frag} {mg : Str → Option Value} {base : Heap} (T : Tx K mg) {sp_check_two : Sp} {sp_check_greatest : Sp} {sp_row_of : Sp} (c_check_two : C8.Cal P w K mg base 2 "check_two" sp_check_two []) (c_check_greatest : C8.Cal P w K mg base 8 "check_greatest" sp_check_greatest []) (c_row_of : C8.Cal P w K mg base 9 "row_of" sp_row_of []) {cdv : Value} {A : Around} {outer : List Env} {s : Shared} {H : Hp} {E : XK} (hr : Room 9 (A.deeper (envOfC "greatest" (defScope s_greatest) s.heap.objs.size (He.ga K "greatest") cdv))) :
    { t : TS // PSs (cxOf CX0 P w K mg base N_greatest "greatest" (defScope s_greatest) (He.ga K "greatest") cdv A outer s H E).nox (defBody s_greatest) t } := ⟨_, (pss_cons (ps_expr (C8.pe_c c_check_two hr (by decide) rfl (pa_cons (pv 0) (pa_cons (pv 1) pa_nil))))
  (pss_cons (ps_expr (C8.pe_c c_check_greatest hr (by decide) rfl (pa_cons (pv 0) (pa_cons (pv 1) pa_nil))))
  (pss_one (ps_ret (C8.pe_c c_row_of hr (by decide) rfl (pa_cons (pv 0) (pa_cons (pv 1) pa_nil)))))))⟩

def der_turned {P : Program} {w : World} {K : PySem.W.Frag} {mg : Str → Option Value} {base : Heap} (T : Tx K mg) {sp_Row_init : Sp} {sp_Row_early : Sp} {sp_Row_again : Sp} {sp_Row_rise : Sp} (c_Row_init : C8.Mak P w K mg base 3 "Row" (He.ga K "Row") sp_Row_init []) (c_Row_early : Lr.Prp P w K mg base 1 (He.ga K "Row") "early" sp_Row_early) (c_Row_again : Lr.Prp P w K mg base 1 (He.ga K "Row") "again" sp_Row_again) (c_Row_rise : Lr.Prp P w K mg base 1 (He.ga K "Row") "rise" sp_Row_rise) {cdv : Value} {A : Around} {outer : List Env} {s : Shared} {H : Hp} {E : XK} (hr : Room 4 (A.deeper (envOfC "turned" (defScope s_turned) s.heap.objs.size (He.ga K "turned") cdv))) :
    { t : TS // PSs (cxOf CX0 P w K mg base N_turned "turned" (defScope s_turned) (He.ga K "turned") cdv A outer s H E).nox (defBody s_turned) t } := ⟨_, (pss_one (ps_ret (C8.pe_mk c_Row_init hr (by decide) rfl (pa_cons (pe_callTy call_tuple_of (by rfl) (b_tuple T) (by decide +kernel) (pa_cons (Lr.pe_lcW (pe_lc (own := [("number", 1)]) rfl sc_turned.nd (pi_tup (Lr.pe_pr c_Row_early hr (by decide) (pv 0) rfl)) (blkOk_by (own := [("number", 1)]) (N := N_turned) (sc := defScope s_turned) (by decide +kernel)) (fun _ _ _ _ _ => (pg_name (i := 1) sc_turned.nd rfl (by first | exact Or.inl rfl | exact Or.inr rfl))) (fun _ _ _ _ _ => pts_nil) (fun _ _ _ _ _ => (pe_un un_neg (pv 1))))) pa_nil)) (pa_cons (pe_callTy call_tuple_of (by rfl) (b_tuple T) (by decide +kernel) (pa_cons (Lr.pe_lcW (pe_lc (own := [("number", 1)]) rfl sc_turned.nd (pi_tup (Lr.pe_pr c_Row_again hr (by decide) (pv 0) rfl)) (blkOk_by (own := [("number", 1)]) (N := N_turned) (sc := defScope s_turned) (by decide +kernel)) (fun _ _ _ _ _ => (pg_name (i := 1) sc_turned.nd rfl (by first | exact Or.inl rfl | exact Or.inr rfl))) (fun _ _ _ _ _ => pts_nil) (fun _ _ _ _ _ => (pe_un un_neg (pv 1))))) pa_nil)) (pa_cons (pe_un un_neg (Lr.pe_pr c_Row_rise hr (by decide) (pv 0) rfl)) pa_nil))))))⟩

def der_least {P : Program} {w : World} {K : PySem.W.Frag} {mg : Str → Option Value} {base : Heap} (T : Tx K mg) {sp_check_two : Sp} {sp_check_greatest : Sp} {sp_turned : Sp} {sp_row_of : Sp} (c_check_two : C8.Cal P w K mg base 2 "check_two" sp_check_two []) (c_check_greatest : C8.Cal P w K mg base 8 "check_greatest" sp_check_greatest []) (c_turned : C8.Cal P w K mg base 5 "turned" sp_turned []) (c_row_of : C8.Cal P w K mg base 9 "row_of" sp_row_of []) {cdv : Value} {A : Around} {outer : List Env} {s : Shared} {H : Hp} {E : XK} (hr : Room 9 (A.deeper (envOfC "least" (defScope s_least) s.heap.objs.size (He.ga K "least") cdv))) :
    { t : TS // PSs (cxOf CX0 P w K mg base N_least "least" (defScope s_least) (He.ga K "least") cdv A outer s H E).nox (defBody s_least) t } := ⟨_, (pss_cons (ps_expr (C8.pe_c c_check_two hr (by decide) rfl (pa_cons (pv 0) (pa_cons (pv 1) pa_nil))))
  (pss_cons (ps_expr (C8.pe_c c_check_greatest hr (by decide) rfl (pa_cons (pv 1) (pa_cons (pv 0) pa_nil))))
  (pss_one (ps_ret (C8.pe_c c_turned hr (by decide) rfl (pa_cons (C8.pe_c c_row_of hr (by decide) rfl (pa_cons (pv 1) (pa_cons (pv 0) pa_nil))) pa_nil))))))⟩

def der_first_other {P : Program} {w : World} {K : PySem.W.Frag} {mg : Str → Option Value} {base : Heap} (T : Tx K mg) {sp_Row_early : Sp} {sp_Row_again : Sp} {sp_Row_at : Sp} (c_Row_early : Lr.Prp P w K mg base 1 (He.ga K "Row") "early" sp_Row_early) (c_Row_again : Lr.Prp P w K mg base 1 (He.ga K "Row") "again" sp_Row_again) (c_Row_at : C8.Met P w K mg base 4 (He.ga K "Row") "at" sp_Row_at []) {cdv : Value} {A : Around} {outer : List Env} {s : Shared} {H : Hp} {E : XK} (hr : Room 4 (A.deeper (envOfC "first_other" (defScope s_first_other) s.heap.objs.size (He.ga K "first_other") cdv))) :
    { t : TS // PSs (cxOf CX0 P w K mg base N_first_other "first_other" (defScope s_first_other) (He.ga K "first_other") cdv A outer s H E).nox (defBody s_first_other) t } := ⟨_, (pss_cons (ps_for PassesOwn.never rfl (pi_range1 rfl (b_range T) (pa_cons (pe_op op_add (pe_callB (Lr.klen_seq K) (by rfl) (b_len T) (by decide +kernel) (pa_cons (Lr.pe_pr c_Row_early hr (by decide) (pv 0) rfl) pa_nil)) (pe_op Lr.op_mulE pe_int (pe_callB (Lr.klen_seq K) (by rfl) (b_len T) (by decide +kernel) (pa_cons (Lr.pe_pr c_Row_again hr (by decide) (pv 0) rfl) pa_nil)))) pa_nil)) (pg_name (i := 1) sc_first_other.nd rfl (by first | exact Or.inl rfl | exact Or.inr rfl))
  (pss_one (ps_if (pt_cmpR op_ne (C8.pe_mt c_Row_at hr (by decide) (pv 0) (pa_cons (pv 1) pa_nil)) pe_int (nomark _))
  (pss_one (ps_ret (pv 1)))
  pss_nil)))
  (pss_one (ps_ret pe_non)))⟩

def der_parting {P : Program} {w : World} {K : PySem.W.Frag} {mg : Str → Option Value} {base : Heap} (T : Tx K mg) {sp_check_two : Sp} {sp_check_fit : Sp} {sp_check_size : Sp} {sp_difference : Sp} {sp_first_greater : Sp} {sp_first_other : Sp} {sp_row_of : Sp} (c_check_two : C8.Cal P w K mg base 2 "check_two" sp_check_two []) (c_check_fit : C8.Cal P w K mg base 3 "check_fit" sp_check_fit []) (c_check_size : C8.Cal P w K mg base 5 "check_size" sp_check_size []) (c_difference : C8.Cal P w K mg base 7 "difference" sp_difference []) (c_first_greater : C8.Cal P w K mg base 6 "first_greater" sp_first_greater []) (c_first_other : C8.Cal P w K mg base 5 "first_other" sp_first_other []) (c_row_of : C8.Cal P w K mg base 9 "row_of" sp_row_of []) {cdv : Value} {A : Around} {outer : List Env} {s : Shared} {H : Hp} {E : XK} (hr : Room 9 (A.deeper (envOfC "parting" (defScope s_parting) s.heap.objs.size (He.ga K "parting") cdv))) :
    { t : TS // PSs (cxOf CX0 P w K mg base N_parting "parting" (defScope s_parting) (He.ga K "parting") cdv A outer s H E).nox (defBody s_parting) t } := ⟨_, (pss_cons (ps_expr (C8.pe_c c_check_two hr (by decide) rfl (pa_cons (pv 0) (pa_cons (pv 1) pa_nil))))
  (pss_cons (ps_expr (C8.pe_c c_check_fit hr (by decide) rfl (pa_cons (pv 0) (pa_cons (pv 1) pa_nil))))
  (pss_cons (ps_expr (C8.pe_c c_check_size hr (by decide) rfl (pa_cons (pe_lst (pa_cons (pv 0) (pa_cons (pv 1) pa_nil))) pa_nil)))
  (pss_cons (ps_if (pt_cmpR op_ne (C8.pe_c c_difference hr (by decide) rfl (pa_cons (pv 0) (pa_cons (pv 1) (pa_cons (pe_tup pa_nil) pa_nil)))) pe_int (nomark _))
  (pss_one (ps_ret (pe_tup pa_nil)))
  pss_nil)
  (pss_cons (ps_if (PW.pt (pw_or (pt_cmpR op_notN (C8.pe_c c_first_greater hr (by decide) rfl (pa_cons (pv 0) (pa_cons (pv 1) pa_nil))) pe_non (nomark _)) (pw_or1 (pt_cmpR op_notN (C8.pe_c c_first_greater hr (by decide) rfl (pa_cons (pv 1) (pa_cons (pv 0) pa_nil))) pe_non (nomark _)))))
  pss_never
  pss_nil)
  (pss_cons (ps_set (i := 2) sc_parting.nd rfl (by first | exact Or.inl rfl | exact Or.inr rfl) (pe_lst (pa_cons (C8.pe_c c_first_other hr (by decide) rfl (pa_cons (C8.pe_c c_row_of hr (by decide) rfl (pa_cons (pv 0) (pa_cons (pv 1) pa_nil))) pa_nil)) (pa_cons (C8.pe_c c_first_other hr (by decide) rfl (pa_cons (C8.pe_c c_row_of hr (by decide) rfl (pa_cons (pv 1) (pa_cons (pv 0) pa_nil))) pa_nil)) pa_nil))))
  (pss_cons (ps_if (pt_cmpR (Lr.keqD K hr.units) (pv 2) (pe_lst (pa_cons pe_non (pa_cons pe_non pa_nil))) (nomark _))
  (pss_one (ps_ret pe_non))
  pss_nil)
  pss_never)))))))⟩

def der__law_cell {P : Program} {w : World} {K : PySem.W.Frag} {mg : Str → Option Value} {base : Heap} (T : Tx K mg)   {cdv : Value} {A : Around} {outer : List Env} {s : Shared} {H : Hp} {E : XK} (hr : Room 0 (A.deeper (envOfC "_law_cell" (defScope s__law_cell) s.heap.objs.size (He.ga K "_law_cell") cdv))) :
    { t : TS // PSs (cxOf CX0 P w K mg base N__law_cell "_law_cell" (defScope s__law_cell) (He.ga K "_law_cell") cdv A outer s H E).nox (defBody s__law_cell) t } := ⟨_, (pss_cons (ps_if (pt_cmpR op_lt (pv 1) (pe_callB (Lr.klen_seq K) (by rfl) (b_len T) (by decide +kernel) (pa_cons (pv 0) pa_nil)) (nomark _))
  (pss_one (ps_ret (pe_callTy call_int1 (by rfl) (b_int T) (by decide +kernel) (pa_cons (pe_ix (Lr.kix_list K) (pv 0) (pv 1) (fun _ _ => rfl)) pa_nil))))
  pss_nil)
  (pss_cons (ps_set (i := 2) sc__law_cell.nd rfl (by first | exact Or.inl rfl | exact Or.inr rfl) (pe_op op_add (pe_op Lr.op_mulE pe_int (pv 1)) pe_int))
  (pss_cons (ps_for PassesOwn.never rfl (pi_list (pe_slice (Lr.ksl_list K) (pv 0) po_none (po_some pe_int))) (pg_name (i := 3) sc__law_cell.nd rfl (by first | exact Or.inl rfl | exact Or.inr rfl))
  (pss_one (ps_set (i := 2) sc__law_cell.nd rfl (by first | exact Or.inl rfl | exact Or.inr rfl) (pe_op op_mod (pe_callTy call_int1 (by rfl) (b_int T) (by decide +kernel) (pa_cons (pe_op op_add (pe_op op_add (pe_op Lr.op_mulE (pv 2) pe_int) (pv 3)) pe_int) pa_nil)) pe_int))))
  (pss_one (ps_ret (pv 2))))))⟩

def der__law_jar {P : Program} {w : World} {K : PySem.W.Frag} {mg : Str → Option Value} {base : Heap} (T : Tx K mg) {sp__law_cell : Sp} (c__law_cell : C8.Cal P w K mg base 1 "_law_cell" sp__law_cell []) {cdv : Value} {A : Around} {outer : List Env} {s : Shared} {H : Hp} {E : XK} (hr : Room 1 (A.deeper (envOfC "_law_jar" (defScope s__law_jar) s.heap.objs.size (He.ga K "_law_jar") cdv))) :
    { t : TS // PSs (cxOf CX0 P w K mg base N__law_jar "_law_jar" (defScope s__law_jar) (He.ga K "_law_jar") cdv A outer s H E).nox (defBody s__law_jar) t } := ⟨_, (pss_cons (ps_set (i := 2) sc__law_jar.nd rfl (by first | exact Or.inl rfl | exact Or.inr rfl) (pe_callB call_abs (by rfl) (b_abs T) (by decide +kernel) (pa_cons (C8.pe_c c__law_cell hr (by decide) rfl (pa_cons (pv 0) (pa_cons (pv 1) pa_nil))) pa_nil)))
  (pss_one (ps_ret (pe_lst (pa_cons (pv 2) (pa_cons (pe_op op_mod (pe_callTy call_int1 (by rfl) (b_int T) (by decide +kernel) (pa_cons (pe_op op_add (pv 2) (pe_op Lr.op_mulE pe_int (pv 1))) pa_nil)) pe_int) (pa_cons pe_int pa_nil)))))))⟩

def der__law_dig {P : Program} {w : World} {K : PySem.W.Frag} {mg : Str → Option Value} {base : Heap} (T : Tx K mg)   {cdv : Value} {A : Around} {outer : List Env} {s : Shared} {H : Hp} {E : XK} (hr : Room 0 (A.deeper (envOfC "_law_dig" (defScope s__law_dig) s.heap.objs.size (He.ga K "_law_dig") cdv))) :
    { t : TS // PSs (cxOf CX0 P w K mg base N__law_dig "_law_dig" (defScope s__law_dig) (He.ga K "_law_dig") cdv A outer s H E).nox (defBody s__law_dig) t } := ⟨_, (pss_cons (ps_asg (pe_op op_add (pe_ix (Lr.kix_list K) (pv 0) pe_int (fun _ _ => rfl)) pe_int) (pg_sub (pv 0) pe_int set_list))
  (pss_cons (ps_set (i := 2) sc__law_dig.nd rfl (by first | exact Or.inl rfl | exact Or.inr rfl) (pe_callTy call_int1 (by rfl) (b_int T) (by decide +kernel) (pa_cons (pe_ix (Lr.kix_list K) (pv 0) pe_int (fun _ _ => rfl)) pa_nil)))
  (pss_cons (ps_asg (pe_op op_mod (pe_callTy call_int1 (by rfl) (b_int T) (by decide +kernel) (pa_cons (pe_op op_add (pe_op op_add (pe_op Lr.op_mulE (pv 2) (pe_op op_add (pe_op op_mod (pe_callTy call_int1 (by rfl) (b_int T) (by decide +kernel) (pa_cons (pv 2) pa_nil)) pe_int) pe_int)) (pe_op Lr.op_mulE (pe_ix (Lr.kix_list K) (pv 0) pe_int (fun _ _ => rfl)) pe_int)) pe_int) pa_nil)) pe_int) (pg_sub (pv 0) pe_int set_list))
  (pss_cons (ps_if (pt_cmpR op_gt (pe_ix (Lr.kix_list K) (pv 0) pe_int (fun _ _ => rfl)) pe_int (nomark _))
  (pss_cons (ps_asg (pe_callB call_divmod (by rfl) (b_divmod T) (by decide +kernel) (pa_cons (pe_ix (Lr.kix_list K) (pv 0) pe_int (fun _ _ => rfl)) (pa_cons (pv 1) pa_nil))) (Lr.kpg_tup K (n := 2) rfl (pgs_cons (pg_sub (pv 0) pe_int set_list) (pgs_cons (pg_name (i := 3) sc__law_dig.nd rfl (by first | exact Or.inl rfl | exact Or.inr rfl)) pgs_nil))))
  (pss_one (ps_ret (pv 3))))
  pss_nil)
  (pss_one (ps_ret (pe_op op_mod (pe_callTy call_int1 (by rfl) (b_int T) (by decide +kernel) (pa_cons (pe_op op_fdivW (pe_ix (Lr.kix_list K) (pv 0) pe_int (fun _ _ => rfl)) pe_int) pa_nil)) (pv 1))))))))⟩

def der__law_take {P : Program} {w : World} {K : PySem.W.Frag} {mg : Str → Option Value} {base : Heap} (T : Tx K mg) {sp__law_dig : Sp} (c__law_dig : C8.Cal P w K mg base 1 "_law_dig" sp__law_dig []) {cdv : Value} {A : Around} {outer : List Env} {s : Shared} {H : Hp} {E : XK} (hr : Room 1 (A.deeper (envOfC "_law_take" (defScope s__law_take) s.heap.objs.size (He.ga K "_law_take") cdv))) :
    { t : TS // PSs (cxOf CX0 P w K mg base N__law_take "_law_take" (defScope s__law_take) (He.ga K "_law_take") cdv A outer s H E).nox (defBody s__law_take) t } := ⟨_, (pss_one (ps_ret (pe_ix (Lr.kix_list K) (pv 1) (C8.pe_c c__law_dig hr (by decide) rfl (pa_cons (pv 0) (pa_cons (pe_callB (Lr.klen_seq K) (by rfl) (b_len T) (by decide +kernel) (pa_cons (pv 1) pa_nil)) pa_nil))) (fun _ _ => rfl))))⟩

def der__law_common {P : Program} {w : World} {K : PySem.W.Frag} {mg : Str → Option Value} {base : Heap} (T : Tx K mg)   {cdv : Value} {A : Around} {outer : List Env} {s : Shared} {H : Hp} {E : XK} (hr : Room 0 (A.deeper (envOfC "_law_common" (defScope s__law_common) s.heap.objs.size (He.ga K "_law_common") cdv))) :
    { t : TS // PSs (cxOf CX0 P w K mg base N__law_common "_law_common" (defScope s__law_common) (He.ga K "_law_common") cdv A outer s H E).nox (defBody s__law_common) t } := ⟨_, (pss_cons (ps_while PassesOwn.never (pt_cmpR op_gt (pv 1) pe_int (nomark _))
  (pss_one (ps_par (i := 0) (j := 1) rfl sc__law_common.nd rfl rfl (by decide) rfl rfl (pa_cons (pv 1) (pa_cons (pe_op op_mod (pe_callTy call_int1 (by rfl) (b_int T) (by decide +kernel) (pa_cons (pv 0) pa_nil)) (pv 1)) pa_nil)) (by rfl))))
  (pss_one (ps_ret (pv 0))))⟩
end Lf

set_option Elab.async false
set_option linter.all false
set_option maxRecDepth 100000
set_option maxHeartbeats 4000000
namespace Lf
open PySem PySem.Spec PyProof.Rows L2 Lc

def der__law_span {P : Program} {w : World} {K : PySem.W.Frag} {mg : Str → Option Value} {base : Heap} (T : Tx K mg) {sp__law_common : Sp} (c__law_common : C8.Cal P w K mg base 1 "_law_common" sp__law_common []) {cdv : Value} {A : Around} {outer : List Env} {s : Shared} {H : Hp} {E : XK} (hr : Room 1 (A.deeper (envOfC "_law_span" (defScope s__law_span) s.heap.objs.size (He.ga K "_law_span") cdv))) :
    { t : TS // PSs (cxOf CX0 P w K mg base N__law_span "_law_span" (defScope s__law_span) (He.ga K "_law_span") cdv A outer s H E).nox (defBody s__law_span) t } := ⟨_, (pss_cons (ps_asg (pe_tup (pa_cons pe_int (pa_cons pe_int pa_nil))) (Lr.kpg_tup K (n := 2) rfl (pgs_cons (pg_name (i := 1) sc__law_span.nd rfl (by first | exact Or.inl rfl | exact Or.inr rfl)) (pgs_cons (pg_name (i := 2) sc__law_span.nd rfl (by first | exact Or.inl rfl | exact Or.inr rfl)) pgs_nil))))
  (pss_cons (ps_for PassesOwn.never rfl (pi_tup (pv 0)) (pg_name (i := 3) sc__law_span.nd rfl (by first | exact Or.inl rfl | exact Or.inr rfl))
  (pss_one (ps_if (pt_cmpR op_eq (pe_ix (Lr.kix_tup K) (pv 3) pe_int (fun _ _ => rfl)) pe_str (nomark _))
  (pss_cons (ps_set (i := 4) sc__law_span.nd rfl (by first | exact Or.inl rfl | exact Or.inr rfl) (pe_op Lr.op_mulE (pe_op Lr.op_mulE (pe_ix (Lr.kix_tup K) (pv 3) pe_int (fun _ _ => rfl)) (pe_ix (Lr.kix_tup K) (pv 3) pe_int (fun _ _ => rfl))) (pe_ix (Lr.kix_list K) (pe_lst (pa_cons pe_int (pa_cons pe_int pa_nil))) (pe_callTy call_int1 (by rfl) (b_int T) (by decide +kernel) (pa_cons (pe_cmpR op_eq (pe_ix (Lr.kix_tup K) (pv 3) pe_int (fun _ _ => rfl)) pe_str (nomark _)) pa_nil)) (fun _ _ => rfl))))
  (pss_cons (ps_set (i := 5) sc__law_span.nd rfl (by first | exact Or.inl rfl | exact Or.inr rfl) (pe_op op_fdivW (pv 4) (C8.pe_c c__law_common hr (by decide) rfl (pa_cons (pv 4) (pa_cons (pe_ix (Lr.kix_tup K) (pv 3) pe_int (fun _ _ => rfl)) pa_nil)))))
  (pss_cons (ps_set (i := 6) sc__law_span.nd rfl (by first | exact Or.inl rfl | exact Or.inr rfl) (pe_op op_fdivW (pv 5) (C8.pe_c c__law_common hr (by decide) rfl (pa_cons (pv 5) (pa_cons (pv 2) pa_nil)))))
  (pss_cons (ps_set (i := 1) sc__law_span.nd rfl (by first | exact Or.inl rfl | exact Or.inr rfl) (pe_op Lr.op_mulE (pv 1) (pv 6)))
  (pss_one (ps_set (i := 2) sc__law_span.nd rfl (by first | exact Or.inl rfl | exact Or.inr rfl) (pe_op op_fdivW (pe_op Lr.op_mulE (pe_op Lr.op_mulE (pv 2) (pv 6)) (pe_ix (Lr.kix_tup K) (pv 3) pe_int (fun _ _ => rfl))) (pe_ix (Lr.kix_tup K) (pv 3) pe_int (fun _ _ => rfl)))))))))
  pss_nil)))
  (pss_one (ps_ret (pv 1)))))⟩

def der__law_fit {P : Program} {w : World} {K : PySem.W.Frag} {mg : Str → Option Value} {base : Heap} (T : Tx K mg) {sp__law_span : Sp} (c__law_span : C8.Cal P w K mg base 2 "_law_span" sp__law_span []) {cdv : Value} {A : Around} {outer : List Env} {s : Shared} {H : Hp} {E : XK} (hr : Room 2 (A.deeper (envOfC "_law_fit" (defScope s__law_fit) s.heap.objs.size (He.ga K "_law_fit") cdv))) :
    { t : TS // PSs (cxOf CX0 P w K mg base N__law_fit "_law_fit" (defScope s__law_fit) (He.ga K "_law_fit") cdv A outer s H E).nox (defBody s__law_fit) t } := ⟨_, (pss_cons (ps_asg (pv 0) (Lr.kpg_tup K (n := 3) rfl (pgs_cons (pg_name (i := 1) sc__law_fit.nd rfl (by first | exact Or.inl rfl | exact Or.inr rfl)) (pgs_cons (pg_name (i := 2) sc__law_fit.nd rfl (by first | exact Or.inl rfl | exact Or.inr rfl)) (pgs_cons (pg_name (i := 3) sc__law_fit.nd rfl (by first | exact Or.inl rfl | exact Or.inr rfl)) pgs_nil)))))
  (pss_cons (Lr.ps_lcW (ps_setLc (i := 4) (own := [("_law_steps", 5)]) rfl sc__law_fit.nd rfl rfl (sw_true rfl rfl rfl (by decide +kernel)) (pi_tup (pv 2)) (blkOk_by (own := [("_law_steps", 5)]) (N := N__law_fit) (sc := defScope s__law_fit) (by decide +kernel)) (fun _ _ _ _ _ => (pg_name (i := 5) sc__law_fit.nd rfl (by first | exact Or.inl rfl | exact Or.inr rfl))) (fun _ _ _ _ _ => pts_nil) (fun _ _ _ _ _ => (C8.pe_c c__law_span hr (by decide) rfl (pa_cons (pe_op (Lr.kcatA K) (pv 5) (pv 3)) pa_nil)))))
  (pss_one (ps_ret (pe_tup (pa_cons (pv 4) (pa_cons (Lr.pe_lcW (pe_lc (own := [("_law_label", 6), ("_law_place", 7), ("_law_steps", 5)]) rfl sc__law_fit.nd (pi_tup (pv 1)) (blkOk_by (own := [("_law_label", 6), ("_law_place", 7), ("_law_steps", 5)]) (N := N__law_fit) (sc := defScope s__law_fit) (by decide +kernel)) (fun _ _ _ _ _ => (Lr.kpg_tup K (n := 3) rfl (pgs_cons (pg_name (i := 6) sc__law_fit.nd rfl (by first | exact Or.inl rfl | exact Or.inr rfl)) (pgs_cons (pg_name (i := 7) sc__law_fit.nd rfl (by first | exact Or.inl rfl | exact Or.inr rfl)) (pgs_cons (pg_name (i := 5) sc__law_fit.nd rfl (by first | exact Or.inl rfl | exact Or.inr rfl)) pgs_nil))))) (fun _ _ _ _ _ => pts_nil) (fun _ _ _ _ _ => (C8.pe_c c__law_span hr (by decide) rfl (pa_cons (pe_op (Lr.kcatA K) (pe_op (Lr.kcatA K) (pv 5) (pe_ix (Lr.kix_tup K) (pv 2) (pv 7) (fun _ _ => rfl))) (pv 3)) pa_nil))))) pa_nil)))))))⟩

def der__law_many {P : Program} {w : World} {K : PySem.W.Frag} {mg : Str → Option Value} {base : Heap} (T : Tx K mg) {sp__law_fit : Sp} {sp__law_common : Sp} (c__law_fit : C8.Cal P w K mg base 3 "_law_fit" sp__law_fit []) (c__law_common : C8.Cal P w K mg base 1 "_law_common" sp__law_common []) {cdv : Value} {A : Around} {outer : List Env} {s : Shared} {H : Hp} {E : XK} (hr : Room 3 (A.deeper (envOfC "_law_many" (defScope s__law_many) s.heap.objs.size (He.ga K "_law_many") cdv))) :
    { t : TS // PSs (cxOf CX0 P w K mg base N__law_many "_law_many" (defScope s__law_many) (He.ga K "_law_many") cdv A outer s H E).nox (defBody s__law_many) t } := ⟨_, (pss_cons (ps_par (i := 1) (j := 2) rfl sc__law_many.nd rfl rfl (by decide) rfl rfl (pa_cons pe_int (pa_cons (pe_op op_rep (pe_lst (pa_cons pe_int pa_nil)) (pe_callB (Lr.klen_seq K) (by rfl) (b_len T) (by decide +kernel) (pa_cons (pe_ix (Lr.kix_tup K) (pe_ix (Lr.kix_list K) (pv 0) pe_int (fun _ _ => rfl)) pe_int (fun _ _ => rfl)) pa_nil))) pa_nil)) (by rfl))
  (pss_cons (ps_for PassesOwn.never rfl (pi_list (pv 0)) (pg_name (i := 3) sc__law_many.nd rfl (by first | exact Or.inl rfl | exact Or.inr rfl))
  (pss_cons (ps_asg (C8.pe_c c__law_fit hr (by decide) rfl (pa_cons (pv 3) pa_nil)) (Lr.kpg_tup K (n := 2) rfl (pgs_cons (pg_name (i := 4) sc__law_many.nd rfl (by first | exact Or.inl rfl | exact Or.inr rfl)) (pgs_cons (pg_name (i := 5) sc__law_many.nd rfl (by first | exact Or.inl rfl | exact Or.inr rfl)) pgs_nil))))
  (pss_cons (ps_for PassesOwn.never rfl (pi_list (pv 4)) (pg_name (i := 6) sc__law_many.nd rfl (by first | exact Or.inl rfl | exact Or.inr rfl))
  (pss_one (ps_set (i := 1) sc__law_many.nd rfl (by first | exact Or.inl rfl | exact Or.inr rfl) (pe_op Lr.op_mulE (pv 1) (pv 6)))))
  (pss_one (Lr.ps_lcW (ps_setLc (i := 2) (own := [("_law_a", 7), ("_law_b", 8)]) rfl sc__law_many.nd rfl rfl (sw_true rfl rfl rfl (by decide +kernel)) (Lr.pi_Z2 rfl (b_zip T) (pa_cons (pv 2) (pa_cons (pv 5) pa_nil))) (blkOk_by (own := [("_law_a", 7), ("_law_b", 8)]) (N := N__law_many) (sc := defScope s__law_many) (by decide +kernel)) (fun _ _ _ _ _ => (Lr.kpg_tup K (n := 2) rfl (pgs_cons (pg_name (i := 7) sc__law_many.nd rfl (by first | exact Or.inl rfl | exact Or.inr rfl)) (pgs_cons (pg_name (i := 8) sc__law_many.nd rfl (by first | exact Or.inl rfl | exact Or.inr rfl)) pgs_nil)))) (fun _ _ _ _ _ => pts_nil) (fun _ _ _ _ _ => (pe_op Lr.op_mulE (pe_op op_fdivW (pv 7) (C8.pe_c c__law_common hr (by decide) rfl (pa_cons (pv 7) (pa_cons (pv 8) pa_nil)))) (pv 8)))))))))
  (pss_one (ps_ret (pe_tup (pa_cons (pv 1) (pa_cons (pv 2) pa_nil)))))))⟩

def der__law_way {P : Program} {w : World} {K : PySem.W.Frag} {mg : Str → Option Value} {base : Heap} (T : Tx K mg) {sp__law_take : Sp} (c__law_take : C8.Cal P w K mg base 2 "_law_take" sp__law_take []) {cdv : Value} {A : Around} {outer : List Env} {s : Shared} {H : Hp} {E : XK} (hr : Room 2 (A.deeper (envOfC "_law_way" (defScope s__law_way) s.heap.objs.size (He.ga K "_law_way") cdv))) :
    { t : TS // PSs (cxOf CX0 P w K mg base N__law_way "_law_way" (defScope s__law_way) (He.ga K "_law_way") cdv A outer s H E).nox (defBody s__law_way) t } := ⟨_, (pss_one (ps_ret (C8.pe_c c__law_take hr (by decide) rfl (pa_cons (pv 0) (pa_cons (pe_lst (pa_cons pe_str (pa_cons pe_str (pa_cons pe_str (pa_cons pe_str (pa_cons pe_str pa_nil)))))) pa_nil)))))⟩

def der__law_factor {P : Program} {w : World} {K : PySem.W.Frag} {mg : Str → Option Value} {base : Heap} (T : Tx K mg) {sp__law_take : Sp} (c__law_take : C8.Cal P w K mg base 2 "_law_take" sp__law_take []) {cdv : Value} {A : Around} {outer : List Env} {s : Shared} {H : Hp} {E : XK} (hr : Room 2 (A.deeper (envOfC "_law_factor" (defScope s__law_factor) s.heap.objs.size (He.ga K "_law_factor") cdv))) :
    { t : TS // PSs (cxOf CX0 P w K mg base N__law_factor "_law_factor" (defScope s__law_factor) (He.ga K "_law_factor") cdv A outer s H E).nox (defBody s__law_factor) t } := ⟨_, (pss_one (ps_ret (C8.pe_c c__law_take hr (by decide) rfl (pa_cons (pv 0) (pa_cons (pe_lst (pa_cons (pe_tup (pa_cons pe_int (pa_cons pe_int pa_nil))) (pa_cons (pe_tup (pa_cons pe_int (pa_cons pe_int pa_nil))) (pa_cons (pe_tup (pa_cons pe_int (pa_cons pe_int pa_nil))) (pa_cons (pe_tup (pa_cons pe_int (pa_cons pe_int pa_nil))) (pa_cons (pe_tup (pa_cons pe_int (pa_cons pe_int pa_nil))) (pa_cons (pe_tup (pa_cons pe_int (pa_cons pe_int pa_nil))) (pa_cons (pe_tup (pa_cons pe_int (pa_cons pe_int pa_nil))) (pa_cons (pe_tup (pa_cons pe_int (pa_cons pe_int pa_nil))) (pa_cons (pe_tup (pa_cons pe_int (pa_cons pe_int pa_nil))) pa_nil)))))))))) pa_nil)))))⟩

def der__law_step {P : Program} {w : World} {K : PySem.W.Frag} {mg : Str → Option Value} {base : Heap} (T : Tx K mg) {sp__law_way : Sp} {sp__law_take : Sp} (c__law_way : C8.Cal P w K mg base 3 "_law_way" sp__law_way []) (c__law_take : C8.Cal P w K mg base 2 "_law_take" sp__law_take []) {cdv : Value} {A : Around} {outer : List Env} {s : Shared} {H : Hp} {E : XK} (hr : Room 3 (A.deeper (envOfC "_law_step" (defScope s__law_step) s.heap.objs.size (He.ga K "_law_step") cdv))) :
    { t : TS // PSs (cxOf CX0 P w K mg base N__law_step "_law_step" (defScope s__law_step) (He.ga K "_law_step") cdv A outer s H E).nox (defBody s__law_step) t } := ⟨_, (pss_one (ps_ret (pe_tup (pa_cons pe_str (pa_cons (pe_ix (Lr.kix_tup K) (pv 1) pe_int (fun _ _ => rfl)) (pa_cons (pe_ix (Lr.kix_tup K) (pv 1) pe_int (fun _ _ => rfl)) (pa_cons (C8.pe_c c__law_way hr (by decide) rfl (pa_cons (pv 0) pa_nil)) (pa_cons (C8.pe_c c__law_take hr (by decide) rfl (pa_cons (pv 0) (pa_cons (pe_lst (pa_cons pe_int (pa_cons pe_int (pa_cons pe_int (pa_cons pe_int pa_nil))))) pa_nil))) pa_nil))))))))⟩

def der__law_extra {P : Program} {w : World} {K : PySem.W.Frag} {mg : Str → Option Value} {base : Heap} (T : Tx K mg) {sp__law_dig : Sp} {sp__law_way : Sp} {sp__law_take : Sp} (c__law_dig : C8.Cal P w K mg base 1 "_law_dig" sp__law_dig []) (c__law_way : C8.Cal P w K mg base 3 "_law_way" sp__law_way []) (c__law_take : C8.Cal P w K mg base 2 "_law_take" sp__law_take []) {cdv : Value} {A : Around} {outer : List Env} {s : Shared} {H : Hp} {E : XK} (hr : Room 3 (A.deeper (envOfC "_law_extra" (defScope s__law_extra) s.heap.objs.size (He.ga K "_law_extra") cdv))) :
    { t : TS // PSs (cxOf CX0 P w K mg base N__law_extra "_law_extra" (defScope s__law_extra) (He.ga K "_law_extra") cdv A outer s H E).nox (defBody s__law_extra) t } := ⟨_, (pss_cons (ps_set (i := 1) sc__law_extra.nd rfl (by first | exact Or.inl rfl | exact Or.inr rfl) (C8.pe_c c__law_dig hr (by decide) rfl (pa_cons (pv 0) (pa_cons pe_int pa_nil))))
  (pss_cons (ps_if (pt_cmpR op_eq (pv 1) pe_int (nomark _))
  (pss_one (ps_ret (pe_tup (pa_cons (pe_tup (pa_cons pe_str (pa_cons (pe_op op_sub (C8.pe_c c__law_dig hr (by decide) rfl (pa_cons (pv 0) (pa_cons pe_int pa_nil))) pe_int) pa_nil))) pa_nil))))
  pss_nil)
  (pss_one (ps_ret (pe_ifExp (pt_cmpR op_eq (pv 1) pe_int (nomark _)) (pe_tup (pa_cons (pe_tup (pa_cons pe_str (pa_cons pe_int (pa_cons pe_int (pa_cons (C8.pe_c c__law_way hr (by decide) rfl (pa_cons (pv 0) pa_nil)) (pa_cons (C8.pe_c c__law_take hr (by decide) rfl (pa_cons (pv 0) (pa_cons (pe_lst (pa_cons pe_int (pa_cons pe_int (pa_cons pe_int pa_nil)))) pa_nil))) pa_nil)))))) pa_nil)) (pe_tup pa_nil))))))⟩

def der__law_laid {P : Program} {w : World} {K : PySem.W.Frag} {mg : Str → Option Value} {base : Heap} (T : Tx K mg) {sp__law_extra : Sp} {sp__law_step : Sp} (c__law_extra : C8.Cal P w K mg base 4 "_law_extra" sp__law_extra []) (c__law_step : C8.Cal P w K mg base 4 "_law_step" sp__law_step []) {cdv : Value} {A : Around} {outer : List Env} {s : Shared} {H : Hp} {E : XK} (hr : Room 4 (A.deeper (envOfC "_law_laid" (defScope s__law_laid) s.heap.objs.size (He.ga K "_law_laid") cdv))) :
    { t : TS // PSs (cxOf CX0 P w K mg base N__law_laid "_law_laid" (defScope s__law_laid) (He.ga K "_law_laid") cdv A outer s H E).nox (defBody s__law_laid) t } := ⟨_, (pss_cons (ps_par3 (i := 4) (j := 5) (l := 6) rfl sc__law_laid.nd rfl rfl rfl (by decide) (by decide) (by decide) rfl rfl rfl (pa_cons (pe_lst pa_nil) (pa_cons (pe_lst pa_nil) (pa_cons (pe_slice (Lr.ksl_tupA K) (C8.pe_c c__law_extra hr (by decide) rfl (pa_cons (pv 0) pa_nil)) po_none (po_some pe_int)) pa_nil))) (by rfl))
  (pss_cons (ps_if (pt_cmpR op_eq (pv 3) pe_int (nomark _))
  (pss_cons (ps_for PassesOwn.never rfl (Lr.pi_Z2 rfl (b_zip T) (pa_cons (pv 1) (pa_cons (pv 2) pa_nil))) (Lr.kpg_tup K (n := 2) rfl (pgs_cons (pg_name (i := 7) sc__law_laid.nd rfl (by first | exact Or.inl rfl | exact Or.inr rfl)) (pgs_cons (pg_name (i := 8) sc__law_laid.nd rfl (by first | exact Or.inl rfl | exact Or.inr rfl)) pgs_nil)))
  (pss_one (ps_expr (pe_bm PySem.F.plainAttrs_list PySem.F.slot_list_append PySem.F.type_list_append mt_append (pv 4) (pa_cons (pe_tup (pa_cons (pv 7) (pa_cons pe_int (pa_cons (pe_op (Lr.kcatA K) (pe_tup (pa_cons (C8.pe_c c__law_step hr (by decide) rfl (pa_cons (pv 0) (pa_cons (pv 8) pa_nil))) pa_nil)) (C8.pe_c c__law_extra hr (by decide) rfl (pa_cons (pv 0) pa_nil))) pa_nil)))) pa_nil)))))
  (pss_one (ps_ret (pe_tup (pa_cons (pe_callTy call_tuple_of (by rfl) (b_tuple T) (by decide +kernel) (pa_cons (pv 4) pa_nil)) (pa_cons (pe_tup (pa_cons (C8.pe_c c__law_extra hr (by decide) rfl (pa_cons (pv 0) pa_nil)) pa_nil)) (pa_cons (pv 6) pa_nil)))))))
  pss_nil)
  (pss_cons (ps_if (PW.pt (pw_or (pt_cmpR op_eq (pv 3) pe_int (nomark _)) (pw_or1 (pt_cmpR (Lr.kneD K hr.units) (Lr.pe_lcW (pe_lc (own := [("_law_factor_here", 8)]) rfl sc__law_laid.nd (pi_list (pv 2)) (blkOk_by (own := [("_law_factor_here", 8)]) (N := N__law_laid) (sc := defScope s__law_laid) (by decide +kernel)) (fun _ _ _ _ _ => (pg_name (i := 8) sc__law_laid.nd rfl (by first | exact Or.inl rfl | exact Or.inr rfl))) (fun _ _ _ _ _ => (pts_one (pt_cmpR (Lr.kneD K hr.units) (pv 8) (pe_ix (Lr.kix_list K) (pv 2) pe_int (fun _ _ => rfl)) (nomark _)))) (fun _ _ _ _ _ => (pv 8)))) (pe_lst pa_nil) (nomark _)))))
  (pss_cons (ps_for PassesOwn.never rfl (pi_range1 rfl (b_range T) (pa_cons (pe_callB (Lr.klen_seq K) (by rfl) (b_len T) (by decide +kernel) (pa_cons (pv 1) pa_nil)) pa_nil)) (pg_name (i := 9) sc__law_laid.nd rfl (by first | exact Or.inl rfl | exact Or.inr rfl))
  (pss_cons (ps_expr (pe_bm PySem.F.plainAttrs_list PySem.F.slot_list_append PySem.F.type_list_append mt_append (pv 4) (pa_cons (pe_tup (pa_cons (pe_ix (Lr.kix_tup K) (pv 1) (pv 9) (fun _ _ => rfl)) (pa_cons (pv 9) (pa_cons (C8.pe_c c__law_extra hr (by decide) rfl (pa_cons (pv 0) pa_nil)) pa_nil)))) pa_nil)))
  (pss_one (ps_expr (pe_bm PySem.F.plainAttrs_list PySem.F.slot_list_append PySem.F.type_list_append mt_append (pv 5) (pa_cons (pe_tup (pa_cons (C8.pe_c c__law_step hr (by decide) rfl (pa_cons (pv 0) (pa_cons (pe_ix (Lr.kix_list K) (pv 2) (pv 9) (fun _ _ => rfl)) pa_nil))) pa_nil)) pa_nil))))))
  (pss_one (ps_ret (pe_tup (pa_cons (pe_callTy call_tuple_of (by rfl) (b_tuple T) (by decide +kernel) (pa_cons (pv 4) pa_nil)) (pa_cons (pe_callTy call_tuple_of (by rfl) (b_tuple T) (by decide +kernel) (pa_cons (pv 5) pa_nil)) (pa_cons (pv 6) pa_nil)))))))
  pss_nil)
  (pss_cons (ps_for PassesOwn.never rfl (pi_tup (pv 1)) (pg_name (i := 7) sc__law_laid.nd rfl (by first | exact Or.inl rfl | exact Or.inr rfl))
  (pss_one (ps_expr (pe_bm PySem.F.plainAttrs_list PySem.F.slot_list_append PySem.F.type_list_append mt_append (pv 4) (pa_cons (pe_tup (pa_cons (pv 7) (pa_cons pe_int (pa_cons (C8.pe_c c__law_extra hr (by decide) rfl (pa_cons (pv 0) pa_nil)) pa_nil)))) pa_nil)))))
  (pss_one (ps_ret (pe_tup (pa_cons (pe_callTy call_tuple_of (by rfl) (b_tuple T) (by decide +kernel) (pa_cons (pv 4) pa_nil)) (pa_cons (pe_tup (pa_cons (C8.pe_c c__law_extra hr (by decide) rfl (pa_cons (pv 0) pa_nil)) pa_nil)) (pa_cons (pe_op (Lr.kcatA K) (pe_tup (pa_cons (C8.pe_c c__law_step hr (by decide) rfl (pa_cons (pv 0) (pa_cons (pe_ix (Lr.kix_list K) (pv 2) pe_int (fun _ _ => rfl)) pa_nil))) pa_nil)) (pv 6)) pa_nil))))))))))⟩

def der__law_pair {P : Program} {w : World} {K : PySem.W.Frag} {mg : Str → Option Value} {base : Heap} (T : Tx K mg) {sp__law_take : Sp} {sp__law_factor : Sp} {sp__law_dig : Sp} {sp__law_laid : Sp} {sp__law_many : Sp} (c__law_take : C8.Cal P w K mg base 2 "_law_take" sp__law_take []) (c__law_factor : C8.Cal P w K mg base 3 "_law_factor" sp__law_factor []) (c__law_dig : C8.Cal P w K mg base 1 "_law_dig" sp__law_dig []) (c__law_laid : C8.Cal P w K mg base 5 "_law_laid" sp__law_laid []) (c__law_many : C8.Cal P w K mg base 4 "_law_many" sp__law_many []) {cdv : Value} {A : Around} {outer : List Env} {s : Shared} {H : Hp} {E : XK} (hr : Room 5 (A.deeper (envOfC "_law_pair" (defScope s__law_pair) s.heap.objs.size (He.ga K "_law_pair") cdv))) :
    { t : TS // PSs (cxOf CX0 P w K mg base N__law_pair "_law_pair" (defScope s__law_pair) (He.ga K "_law_pair") cdv A outer s H E).nox (defBody s__law_pair) t } := ⟨_, (pss_cons (ps_set (i := 3) sc__law_pair.nd rfl (by first | exact Or.inl rfl | exact Or.inr rfl) (C8.pe_c c__law_take hr (by decide) rfl (pa_cons (pv 0) (pa_cons (pe_lst (pa_cons (pe_tup (pa_cons pe_str pa_nil)) (pa_cons (pe_tup (pa_cons pe_str (pa_cons pe_str pa_nil))) (pa_cons (pe_tup (pa_cons pe_str pa_nil)) (pa_cons (pe_tup (pa_cons pe_str (pa_cons pe_str pa_nil))) (pa_cons (pe_tup (pa_cons pe_str pa_nil)) pa_nil)))))) pa_nil))))
  (pss_cons (ps_for PassesOwn.never rfl (pi_range1 rfl (b_range T) (pa_cons pe_int pa_nil)) (pg_name (i := 4) sc__law_pair.nd rfl (by first | exact Or.inl rfl | exact Or.inr rfl))
  (pss_cons (ps_set (i := 5) sc__law_pair.nd rfl (by first | exact Or.inl rfl | exact Or.inr rfl) (C8.pe_c c__law_factor hr (by decide) rfl (pa_cons (pv 0) pa_nil)))
  (pss_cons (Lr.ps_lcW (ps_setLc (i := 6) (own := [("_law_label", 11)]) rfl sc__law_pair.nd rfl rfl (sw_true rfl rfl rfl (by decide +kernel)) (pi_tup (pv 3)) (blkOk_by (own := [("_law_label", 11)]) (N := N__law_pair) (sc := defScope s__law_pair) (by decide +kernel)) (fun _ _ _ _ _ => (pg_name (i := 11) sc__law_pair.nd rfl (by first | exact Or.inl rfl | exact Or.inr rfl))) (fun _ _ _ _ _ => pts_nil) (fun _ _ _ _ _ => (pv 5))))
  (pss_cons (ps_if (pt_cmpR op_eq (C8.pe_c c__law_dig hr (by decide) rfl (pa_cons (pv 0) (pa_cons pe_int pa_nil))) pe_int (nomark _))
  (pss_one (Lr.ps_lcW (ps_setLc (i := 6) (own := [("_law_label", 11)]) rfl sc__law_pair.nd rfl rfl (sw_true rfl rfl rfl (by decide +kernel)) (pi_tup (pv 3)) (blkOk_by (own := [("_law_label", 11)]) (N := N__law_pair) (sc := defScope s__law_pair) (by decide +kernel)) (fun _ _ _ _ _ => (pg_name (i := 11) sc__law_pair.nd rfl (by first | exact Or.inl rfl | exact Or.inr rfl))) (fun _ _ _ _ _ => pts_nil) (fun _ _ _ _ _ => (C8.pe_c c__law_factor hr (by decide) rfl (pa_cons (pv 0) pa_nil))))))
  pss_nil)
  (pss_cons (ps_set (i := 7) sc__law_pair.nd rfl (by first | exact Or.inl rfl | exact Or.inr rfl) (pe_lst (pa_cons (C8.pe_c c__law_laid hr (by decide) rfl (pa_cons (pv 0) (pa_cons (pv 3) (pa_cons (pv 6) (pa_cons (C8.pe_c c__law_dig hr (by decide) rfl (pa_cons (pv 0) (pa_cons pe_int pa_nil))) pa_nil))))) (pa_cons (C8.pe_c c__law_laid hr (by decide) rfl (pa_cons (pv 0) (pa_cons (pv 3) (pa_cons (pv 6) (pa_cons (C8.pe_c c__law_dig hr (by decide) rfl (pa_cons (pv 0) (pa_cons pe_int pa_nil))) pa_nil))))) pa_nil))))
  (pss_cons (ps_set (i := 8) sc__law_pair.nd rfl (by first | exact Or.inl rfl | exact Or.inr rfl) (C8.pe_c c__law_many hr (by decide) rfl (pa_cons (pv 7) pa_nil)))
  (pss_one (ps_if (PW.pt (pw_and (pt_cmpR op_le (pe_ix (Lr.kix_tup K) (pv 8) pe_int (fun _ _ => rfl)) (pv 1) (nomark _)) (pw_and1 (pt_cmpR op_le (pe_callB (cr_max rfl) (by rfl) (b_max T) (by decide +kernel) (pa_cons (pe_ix (Lr.kix_tup K) (pv 8) pe_int (fun _ _ => rfl)) pa_nil)) (pv 2) (nomark _)))))
  (pss_one (ps_ret (pv 7)))
  pss_nil))))))))
  (pss_cons (ps_set (i := 9) sc__law_pair.nd rfl (by first | exact Or.inl rfl | exact Or.inr rfl) (pe_callTy call_tuple_of (by rfl) (b_tuple T) (by decide +kernel) (pa_cons (Lr.pe_lcW (pe_lc (own := [("_law_label", 11)]) rfl sc__law_pair.nd (pi_tup (pv 3)) (blkOk_by (own := [("_law_label", 11)]) (N := N__law_pair) (sc := defScope s__law_pair) (by decide +kernel)) (fun _ _ _ _ _ => (pg_name (i := 11) sc__law_pair.nd rfl (by first | exact Or.inl rfl | exact Or.inr rfl))) (fun _ _ _ _ _ => pts_nil) (fun _ _ _ _ _ => (pe_tup (pa_cons (pv 11) (pa_cons pe_int (pa_cons (pe_tup (pa_cons (pe_tup (pa_cons pe_str (pa_cons pe_int (pa_cons pe_int (pa_cons pe_str (pa_cons pe_int pa_nil)))))) pa_nil)) pa_nil))))))) pa_nil)))
  (pss_cons (ps_set (i := 10) sc__law_pair.nd rfl (by first | exact Or.inl rfl | exact Or.inr rfl) (pe_callTy call_tuple_of (by rfl) (b_tuple T) (by decide +kernel) (pa_cons (Lr.pe_lcW (pe_lc (own := [("_law_label", 11)]) rfl sc__law_pair.nd (pi_tup (pv 3)) (blkOk_by (own := [("_law_label", 11)]) (N := N__law_pair) (sc := defScope s__law_pair) (by decide +kernel)) (fun _ _ _ _ _ => (pg_name (i := 11) sc__law_pair.nd rfl (by first | exact Or.inl rfl | exact Or.inr rfl))) (fun _ _ _ _ _ => pts_nil) (fun _ _ _ _ _ => (pe_tup (pa_cons (pv 11) (pa_cons pe_int (pa_cons (pe_tup pa_nil) pa_nil))))))) pa_nil)))
  (pss_one (ps_ret (pe_lst (pa_cons (pe_tup (pa_cons (pv 9) (pa_cons (pe_tup (pa_cons (pe_tup pa_nil) pa_nil)) (pa_cons (pe_tup pa_nil) pa_nil)))) (pa_cons (pe_tup (pa_cons (pv 10) (pa_cons (pe_tup (pa_cons (pe_tup pa_nil) pa_nil)) (pa_cons (pe_tup (pa_cons (pe_tup (pa_cons pe_str (pa_cons pe_int (pa_cons pe_int (pa_cons pe_str (pa_cons pe_int pa_nil)))))) pa_nil)) pa_nil)))) pa_nil)))))))))⟩

def der__law_books {P : Program} {w : World} {K : PySem.W.Frag} {mg : Str → Option Value} {base : Heap} (T : Tx K mg) {sp_Book_init : Sp} (c_Book_init : C8.Mak P w K mg base 8 "Book" (He.ga K "Book") sp_Book_init []) {cdv : Value} {A : Around} {outer : List Env} {s : Shared} {H : Hp} {E : XK} (hr : Room 9 (A.deeper (envOfC "_law_books" (defScope s__law_books) s.heap.objs.size (He.ga K "_law_books") cdv))) :
    { t : TS // PSs (cxOf CX0 P w K mg base N__law_books "_law_books" (defScope s__law_books) (He.ga K "_law_books") cdv A outer s H E).nox (defBody s__law_books) t } := ⟨_, (pss_one (ps_ret (Lr.pe_lcW (pe_lc (own := [("_law_sorts", 1), ("_law_heaps", 2), ("_law_last", 3)]) rfl sc__law_books.nd (pi_list (pv 0)) (blkOk_by (own := [("_law_sorts", 1), ("_law_heaps", 2), ("_law_last", 3)]) (N := N__law_books) (sc := defScope s__law_books) (by decide +kernel)) (fun _ _ _ _ _ => (Lr.kpg_tup K (n := 3) rfl (pgs_cons (pg_name (i := 1) sc__law_books.nd rfl (by first | exact Or.inl rfl | exact Or.inr rfl)) (pgs_cons (pg_name (i := 2) sc__law_books.nd rfl (by first | exact Or.inl rfl | exact Or.inr rfl)) (pgs_cons (pg_name (i := 3) sc__law_books.nd rfl (by first | exact Or.inl rfl | exact Or.inr rfl)) pgs_nil))))) (fun _ _ _ _ _ => pts_nil) (fun _ _ _ _ _ => (C8.pe_mk c_Book_init hr (by decide) rfl (pa_cons (pv 1) (pa_cons (pv 2) (pa_cons (pv 3) pa_nil)))))))))⟩

def der__law_right {P : Program} {w : World} {K : PySem.W.Frag} {mg : Str → Option Value} {base : Heap} (T : Tx K mg) {sp__law_pair : Sp} {sp__law_books : Sp} {sp_Book_init : Sp} {sp_greatest : Sp} {sp_least : Sp} {sp_Row_at : Sp} {sp_Row_init : Sp} {R_Row : Addr → Addr → Hp → Prop} {sp_parting : Sp} (c__law_pair : C8.Cal P w K mg base 6 "_law_pair" sp__law_pair []) (c__law_books : C8.Cal P w K mg base 10 "_law_books" sp__law_books []) (c_Book_init : C8.Mak P w K mg base 8 "Book" (He.ga K "Book") sp_Book_init []) (c_greatest : C8.Cal P w K mg base 10 "greatest" sp_greatest []) (c_least : C8.Cal P w K mg base 10 "least" sp_least []) (c_Row_at : C8.Met P w K mg base 4 (He.ga K "Row") "at" sp_Row_at []) (c_Row_init : C8.Mak P w K mg base 3 "Row" (He.ga K "Row") sp_Row_init []) (c_Row_eq : Lr.Neq P w K mg base 1 (He.ga K "Row") R_Row) (c_parting : C8.Cal P w K mg base 10 "parting" sp_parting []) {cdv : Value} {A : Around} {outer : List Env} {s : Shared} {H : Hp} {E : XK} (hr : Room 10 (A.deeper (envOfC "_law_right" (defScope s__law_right) s.heap.objs.size (He.ga K "_law_right") cdv))) :
    { t : TS // PSs (cxOf CX0 P w K mg base N__law_right "_law_right" (defScope s__law_right) (He.ga K "_law_right") cdv A outer s H E).nox (defBody s__law_right) t } := ⟨_, (pss_cons (ps_set (i := 1) sc__law_right.nd rfl (by first | exact Or.inl rfl | exact Or.inr rfl) (C8.pe_c c__law_pair hr (by decide) rfl (pa_cons (pv 0) (pa_cons pe_int (pa_cons pe_int pa_nil)))))
  (pss_cons (ps_asg (C8.pe_c c__law_books hr (by decide) rfl (pa_cons (pv 1) pa_nil)) (pg_unl rfl (pgs_cons (pg_name (i := 2) sc__law_right.nd rfl (by first | exact Or.inl rfl | exact Or.inr rfl)) (pgs_cons (pg_name (i := 3) sc__law_right.nd rfl (by first | exact Or.inl rfl | exact Or.inr rfl)) pgs_nil))))
  (pss_cons (ps_set (i := 4) sc__law_right.nd rfl (by first | exact Or.inl rfl | exact Or.inr rfl) (pe_ifExp (pt_cmpR op_lt (pe_callB (Lr.klen_seq K) (by rfl) (b_len T) (by decide +kernel) (pa_cons (pe_ix (Lr.kix_tup K) (pe_ix (Lr.kix_list K) (pv 1) pe_int (fun _ _ => rfl)) pe_int (fun _ _ => rfl)) pa_nil)) pe_int (nomark _)) (C8.pe_mk c_Book_init hr (by decide) rfl (pa_cons (pe_ix (Lr.kix_tup K) (pe_ix (Lr.kix_list K) (pv 1) pe_int (fun _ _ => rfl)) pe_int (fun _ _ => rfl)) (pa_cons (pe_ix (Lr.kix_tup K) (pe_ix (Lr.kix_list K) (pv 1) pe_int (fun _ _ => rfl)) pe_int (fun _ _ => rfl)) (pa_cons (pe_op (Lr.kcatA K) (pe_ix (Lr.kix_tup K) (pe_ix (Lr.kix_list K) (pv 1) pe_int (fun _ _ => rfl)) pe_int (fun _ _ => rfl)) (pe_tup (pa_cons (pe_tup (pa_cons pe_str (pa_cons pe_int pa_nil))) pa_nil))) pa_nil)))) (pv 2)))
  (pss_cons (ps_asg (pe_tup (pa_cons (C8.pe_c c_greatest hr (by decide) rfl (pa_cons (pv 2) (pa_cons (pv 3) pa_nil))) (pa_cons (C8.pe_c c_least hr (by decide) rfl (pa_cons (pv 2) (pa_cons (pv 3) pa_nil))) pa_nil))) (Lr.kpg_tup K (n := 2) rfl (pgs_cons (pg_name (i := 5) sc__law_right.nd rfl (by first | exact Or.inl rfl | exact Or.inr rfl)) (pgs_cons (pg_name (i := 6) sc__law_right.nd rfl (by first | exact Or.inl rfl | exact Or.inr rfl)) pgs_nil))))
  (pss_cons (ps_set (i := 7) sc__law_right.nd rfl (by first | exact Or.inl rfl | exact Or.inr rfl) (pe_lst (pa_cons (C8.pe_c c_greatest hr (by decide) rfl (pa_cons (pv 3) (pa_cons (pv 2) pa_nil))) (pa_cons (C8.pe_c c_least hr (by decide) rfl (pa_cons (pv 3) (pa_cons (pv 2) pa_nil))) pa_nil))))
  (pss_cons (ps_for PassesOwn.never rfl (pi_list (pe_op op_cat (pe_listRg rfl rfl (b_list T) (prg_1 rfl (b_range T) pe_int)) (Lr.pe_lcW (pe_lc (own := [("_law_k", 8)]) rfl sc__law_right.nd (pi_range1 rfl (b_range T) (pa_cons pe_int pa_nil)) (blkOk_by (own := [("_law_k", 8)]) (N := N__law_right) (sc := defScope s__law_right) (by decide +kernel)) (fun _ _ _ _ _ => (pg_name (i := 8) sc__law_right.nd rfl (by first | exact Or.inl rfl | exact Or.inr rfl))) (fun _ _ _ _ _ => pts_nil) (fun _ _ _ _ _ => (pe_op op_add (pe_op op_pow pe_int pe_int) (pv 8))))))) (pg_name (i := 8) sc__law_right.nd rfl (by first | exact Or.inl rfl | exact Or.inr rfl))
  (pss_one (ps_if (PW.pt (pw_or (pt_cmpR op_ne (C8.pe_mt c_Row_at hr (by decide) (pe_ix (Lr.kix_list K) (pv 7) pe_int (fun _ _ => rfl)) (pa_cons (pv 8) pa_nil)) (pe_un un_neg (C8.pe_mt c_Row_at hr (by decide) (pv 6) (pa_cons (pv 8) pa_nil))) (nomark _)) (pw_or (pt_cmpR op_ne (C8.pe_mt c_Row_at hr (by decide) (pe_ix (Lr.kix_list K) (pv 7) pe_int (fun _ _ => rfl)) (pa_cons (pv 8) pa_nil)) (pe_un un_neg (C8.pe_mt c_Row_at hr (by decide) (pv 5) (pa_cons (pv 8) pa_nil))) (nomark _)) (pw_or1 (pt_cmpR op_gt (C8.pe_mt c_Row_at hr (by decide) (pv 6) (pa_cons (pv 8) pa_nil)) (C8.pe_mt c_Row_at hr (by decide) (pv 5) (pa_cons (pv 8) pa_nil)) (nomark _))))))
  (pss_one (ps_ret pe_bl))
  pss_nil)))
  (pss_cons (ps_if (PW.pt (pw_or (pt_cmpR (Lr.op_neRow c_Row_eq hr (by decide)) (C8.pe_c c_greatest hr (by decide) rfl (pa_cons (pv 2) (pa_cons (pv 2) pa_nil))) (C8.pe_mk c_Row_init hr (by decide) rfl (pa_cons (pe_tup pa_nil) (pa_cons (pe_tup (pa_cons pe_int pa_nil)) (pa_cons pe_int pa_nil)))) (nomark _)) (pw_or1 (pt_cmpR (Lr.op_neRow c_Row_eq hr (by decide)) (C8.pe_c c_least hr (by decide) rfl (pa_cons (pv 3) (pa_cons (pv 3) pa_nil))) (C8.pe_mk c_Row_init hr (by decide) rfl (pa_cons (pe_tup pa_nil) (pa_cons (pe_tup (pa_cons pe_int pa_nil)) (pa_cons pe_int pa_nil)))) (nomark _)))))
  (pss_one (ps_ret pe_bl))
  pss_nil)
  (pss_cons (ps_if (pt_cmpR op_notN (C8.pe_c c_parting hr (by decide) rfl (pa_cons (pv 2) (pa_cons (pv 2) pa_nil))) pe_non (nomark _))
  (pss_one (ps_ret pe_bl))
  pss_nil)
  (pss_cons (ps_asg (pe_tup (pa_cons (C8.pe_c c_greatest hr (by decide) rfl (pa_cons (pv 3) (pa_cons (pv 4) pa_nil))) (pa_cons (C8.pe_c c_greatest hr (by decide) rfl (pa_cons (pv 2) (pa_cons (pv 4) pa_nil))) pa_nil))) (Lr.kpg_tup K (n := 2) rfl (pgs_cons (pg_name (i := 9) sc__law_right.nd rfl (by first | exact Or.inl rfl | exact Or.inr rfl)) (pgs_cons (pg_name (i := 10) sc__law_right.nd rfl (by first | exact Or.inl rfl | exact Or.inr rfl)) pgs_nil))))
  (pss_one (ps_ret (pe_cmpR (Lr.keqD K hr.units) (Lr.pe_lcW (pe_lc (own := [("_law_k", 8)]) rfl sc__law_right.nd (pi_list (pe_op op_cat (pe_listRg rfl rfl (b_list T) (prg_1 rfl (b_range T) pe_int)) (pe_lst (pa_cons (pe_op op_pow pe_int pe_int) pa_nil)))) (blkOk_by (own := [("_law_k", 8)]) (N := N__law_right) (sc := defScope s__law_right) (by decide +kernel)) (fun _ _ _ _ _ => (pg_name (i := 8) sc__law_right.nd rfl (by first | exact Or.inl rfl | exact Or.inr rfl))) (fun _ _ _ _ _ => (pts_one (pt_cmpR op_gt (C8.pe_mt c_Row_at hr (by decide) (pv 10) (pa_cons (pv 8) pa_nil)) (pe_op op_add (C8.pe_mt c_Row_at hr (by decide) (pv 5) (pa_cons (pv 8) pa_nil)) (C8.pe_mt c_Row_at hr (by decide) (pv 9) (pa_cons (pv 8) pa_nil))) (nomark _)))) (fun _ _ _ _ _ => (pv 8)))) (pe_lst pa_nil) (nomark _)))))))))))))⟩

def der_law {P : Program} {w : World} {K : PySem.W.Frag} {mg : Str → Option Value} {base : Heap} (T : Tx K mg) {sp__law_right : Sp} {sp__law_jar : Sp} (c__law_right : C8.Cal P w K mg base 11 "_law_right" sp__law_right []) (c__law_jar : C8.Cal P w K mg base 2 "_law_jar" sp__law_jar []) {cdv : Value} {A : Around} {outer : List Env} {s : Shared} {H : Hp} {E : XK} (hr : Room 11 (A.deeper (envOfC "law" (defScope s_law) s.heap.objs.size (He.ga K "law") cdv))) :
    { t : TS // PSs (cxOf CX0 P w K mg base N_law "law" (defScope s_law) (He.ga K "law") cdv A outer s H E).nox (defBody s_law) t } := ⟨_, (pss_one (ps_ret (pe_callB (Lr.kall K rfl) (by rfl) (b_all T) (by decide +kernel) (pa_cons (Lr.pe_lcW (pe_lc (own := [("_law_k", 1)]) rfl sc_law.nd (pi_range1 rfl (b_range T) (pa_cons (pe_callB (call_max2 rfl) (by rfl) (b_max T) (by decide +kernel) (pa_cons pe_int (pa_cons (pe_callB (call_min2 rfl) (by rfl) (b_min T) (by decide +kernel) (pa_cons (pe_callB (Lr.klen_seq K) (by rfl) (b_len T) (by decide +kernel) (pa_cons (pv 0) pa_nil)) (pa_cons pe_int pa_nil))) pa_nil))) pa_nil)) (blkOk_by (own := [("_law_k", 1)]) (N := N_law) (sc := defScope s_law) (by decide +kernel)) (fun _ _ _ _ _ => (pg_name (i := 1) sc_law.nd rfl (by first | exact Or.inl rfl | exact Or.inr rfl))) (fun _ _ _ _ _ => pts_nil) (fun _ _ _ _ _ => (C8.pe_c c__law_right hr (by decide) rfl (pa_cons (C8.pe_c c__law_jar hr (by decide) rfl (pa_cons (pv 0) (pa_cons (pv 1) pa_nil))) pa_nil))))) pa_nil))))⟩
end Lf

set_option Elab.async false
set_option linter.all false
set_option maxRecDepth 100000
set_option maxHeartbeats 4000000
namespace Lf
open PySem PySem.Spec PyProof.Rows L2 Lc Lr Lm
theorem dT {p : Prop} [Decidable p] (h : decide p = true) : p := of_decide_eq_true h
theorem dF {p : Prop} [Decidable p] (h : ¬ decide p = true) : ¬ p := fun z => h (decide_eq_true z)
theorem dN {p : Prop} [Decidable p] (h : (!decide p) = true) : ¬ p := fun z => by rw [decide_eq_true z] at h; cases h
theorem dNN {p : Prop} [Decidable p] (h : ¬ (!decide p) = true) : p := Decidable.byContradiction fun z => h (by rw [decide_eq_false z]; rfl)
theorem cd_step {a b : Int} (ha : 0 ≤ a) (hb : 0 < b) : cd b (a % b) = cd a b := by
  unfold cd
  congr 1
  obtain ⟨n, rfl⟩ := Int.eq_ofNat_of_zero_le ha
  obtain ⟨m, rfl⟩ := Int.eq_ofNat_of_zero_le (Int.le_of_lt hb)
  rw [Int.ofNat_mod_ofNat]
  show Nat.gcd m (n % m) = Nat.gcd n m
  rw [Nat.gcd_comm n m, Nat.gcd_rec m n, Nat.gcd_comm]
theorem cd_zero {a : Int} (ha : 0 ≤ a) : cd a 0 = a := by
  unfold cd
  obtain ⟨n, rfl⟩ := Int.eq_ofNat_of_zero_le ha
  show ((Nat.gcd n 0 : Nat) : Int) = n
  rw [Nat.gcd_zero_right]
theorem cd_nonneg (a b : Int) : 0 ≤ cd a b := Int.natCast_nonneg _
theorem cd_dvd_l (a b : Int) : cd a b ∣ a := Int.gcd_dvd_left ..
theorem cd_dvd_r (a b : Int) : cd a b ∣ b := Int.gcd_dvd_right ..
theorem cd_pos {a b : Int} (h : 0 < b) : 0 < cd a b := by
  unfold cd
  have : 0 < Int.gcd a b := Int.gcd_pos_of_ne_zero_right _ (by omega)
  omega
theorem cd_le {a b : Int} (h : 0 < b) : cd a b ≤ b := Int.le_of_dvd h (cd_dvd_r a b)
theorem log2_le {a b : Int} (ha : 0 ≤ a) (h : a ≤ b) : a.natAbs.log2 ≤ b.natAbs.log2 := by
  by_cases z : a.natAbs = 0
  · rw [z] <;> simp
  · rw [Nat.le_log2 (by omega)]
    exact Nat.le_trans (Nat.log2_self_le z) (by omega)
section
variable {P : Program} {w : World} {K : PySem.W.Frag} {mg : Str → Option Value} {base : Heap}
theorem ty_int {H : Hp} {i : Int} : TyX K H (.int i) (.type "int") := .base (.int i)
def sp_is_integer : Sp := fun vs H Q _ => ∃ i : Int, vs = [.int i] ∧ Q (.bl true) H
theorem ok_is_integer (T : Tx K mg) : C8.Cal P w K mg base 1 "is_integer" sp_is_integer [] :=
  mk_is_integer T (fn_is_integer T (fun vs H Q E h => by obtain ⟨i, rfl, _⟩ := h; rfl) fun cdv A outer s H vs Q E hr h => ⟨_, (der_is_integer T hr).2, by
    obtain ⟨i, rfl, q⟩ := h
    exact ⟨_, rfl, _, _, _, _, true, rfl, .ty _, ty_int, rfl, true, rfl, _, rfl, _, _, _, _, false, rfl, .ty _, ty_int, rfl, false, rfl, q⟩⟩)
def sp_is_between : Sp := fun vs H Q _ => ∃ i lo : Int, ((∃ hi : Int, vs = [.int i, .int lo, .int hi] ∧ lo ≤ i ∧ i ≤ hi) ∨ (vs = [.int i, .int lo, .non] ∧ lo ≤ i)) ∧ Q (.bl true) H
theorem ok_is_between (T : Tx K mg) : C8.Cal P w K mg base 2 "is_between" sp_is_between [] :=
  mk_is_between T (fn_is_between T (fun vs H Q E h => by obtain ⟨i, lo, ⟨hi, rfl, _⟩ | ⟨rfl, _⟩, _⟩ := h <;> rfl) fun cdv A outer s H vs Q E hr h => ⟨_, (der_is_between T (ok_is_integer T) hr).2, by
    obtain ⟨i, lo, ⟨hi, rfl, h1, h2⟩ | ⟨rfl, h1⟩, q⟩ := h
    · refine ⟨_, rfl, _, rfl, true, rfl, _, rfl, _, rfl, _, _, rfl, rfl, _, rfl, ?_⟩
      rw [decide_eq_true h1]
      refine ⟨_, rfl, rfl, false, rfl, _, rfl, _, rfl, _, _, rfl, rfl, ?_⟩
      show Q (.bl (decide (i ≤ hi))) H
      rw [decide_eq_true h2]
      exact q
    · refine ⟨_, rfl, _, rfl, true, rfl, _, rfl, _, rfl, _, _, rfl, rfl, _, rfl, ?_⟩
      rw [decide_eq_true h1]
      exact ⟨_, rfl, rfl, true, rfl, q⟩⟩)
def sp_check_number : Sp := fun vs H Q _ => ∃ i lo : Int, ((∃ hi : Int, vs = [.int i, .int lo, .int hi] ∧ lo ≤ i ∧ i ≤ hi) ∨ (vs = [.int i, .int lo, .non] ∧ lo ≤ i)) ∧ Q .non H
theorem ok_check_number (T : Tx K mg) : C8.Cal P w K mg base 3 "check_number" sp_check_number [] :=
  mk_check_number T (fn_check_number T (fun vs H Q E h => by obtain ⟨i, lo, ⟨hi, rfl, _⟩ | ⟨rfl, _⟩, _⟩ := h <;> rfl) fun cdv A outer s H vs Q E hr h => ⟨_, (der_check_number T (ok_is_between T) hr).2, by
    obtain ⟨i, lo, ⟨hi, rfl, h1, h2⟩ | ⟨rfl, h1⟩, q⟩ := h
    · exact ⟨_, rfl, _, rfl, _, rfl, i, lo, .inl ⟨hi, rfl, h1, h2⟩, true, rfl, q⟩
    · exact ⟨_, rfl, _, rfl, _, rfl, i, lo, .inr ⟨rfl, h1⟩, true, rfl, q⟩⟩)
def sp_common_divisor : Sp := fun vs H Q _ => ∃ a b : Int, vs = [.int a, .int b] ∧ 0 ≤ a ∧ 0 ≤ b ∧ Q (.int (cd a b)) H
theorem ok_common_divisor (T : Tx K mg) : C8.Cal P w K mg base 1 "common_divisor" sp_common_divisor [] :=
  mk_common_divisor T (fn_common_divisor T (fun vs H Q E h => by obtain ⟨i, j, rfl, _⟩ := h; rfl) fun cdv A outer s H vs Q E hr h => ⟨_, (der_common_divisor T hr).2, by
    obtain ⟨a0, b0, rfl, ha, hb, q⟩ := h
    refine ⟨fun m σ H1 => H1 = H ∧ ∃ a b : Int, σ = [some (.int a), some (.int b)] ∧ 0 ≤ a ∧ 0 ≤ b ∧ m = b.toNat ∧ cd a b = cd a0 b0, ⟨_, rfl, a0, b0, rfl, ha, hb, rfl, rfl⟩, ?_⟩
    rintro m σ H1 ⟨rfl, a, b, rfl, h1, h2, rfl, he⟩
    refine ⟨_, rfl, _, _, rfl, rfl, _, rfl, ite2 (fun hc => ?_) (fun hc => ?_)⟩
    · have hc := dT hc
      have hm := Int.emod_lt_of_pos a hc
      have hn := Int.emod_nonneg a (Int.ne_of_gt hc)
      exact ⟨_, fun _ _ z => z, _, rfl, _, rfl, _, rfl, _, _, rfl, rfl, hc, _, _, rfl, _, by omega, rfl, _, _, rfl, h2, hn, rfl, (cd_step h1 hc).trans he⟩
    · have hc := dF hc
      have e : b = 0 := by omega
      subst e
      rw [cd_zero h1] at he
      subst he
      exact ⟨_, rfl, q⟩⟩)
def sp_common_multiple : Sp := fun vs H Q _ => ∃ a b : Int, vs = [.int a, .int b] ∧ 0 ≤ a ∧ 0 < b ∧ b < 2 ^ 64 ∧ Q (.int (cm a b)) H
theorem lt64 {a : Int} (h0 : 0 ≤ a) (h : a < 2 ^ 64) : a.natAbs.log2 < 9000 := by
  by_cases z : a.natAbs = 0
  · rw [z] <;> decide
  · have := (Nat.log2_lt (k := 64) z).mpr (by omega)
    omega
theorem mulR {a b : Int} (h0 : -(2 ^ 64) < b) (h : b < 2 ^ 64) : IntMulOk a b := CMul.ok (.inr ⟨h0, h⟩)
theorem mulL {a b : Int} (h0 : -(2 ^ 64) < a) (h : a < 2 ^ 64) : IntMulOk a b := CMul.ok (.inl ⟨h0, h⟩)
theorem ok_common_multiple (T : Tx K mg) : C8.Cal P w K mg base 2 "common_multiple" sp_common_multiple [] :=
  mk_common_multiple T (fn_common_multiple T (fun vs H Q E h => by obtain ⟨i, j, rfl, _⟩ := h; rfl) fun cdv A outer s H vs Q E hr h => ⟨_, (der_common_multiple T (ok_common_divisor T) hr).2, by
    obtain ⟨a, b, rfl, ha, hb, hl, q⟩ := h
    have h1 := cd_pos (a := a) hb
    have h2 := cd_le (a := a) hb
    exact ⟨_, rfl, _, rfl, _, rfl, a, b, rfl, ha, Int.le_of_lt hb, _, _, rfl, rfl, ⟨h1, lt64 (cd_nonneg _ _) (by omega)⟩, _, rfl, _, _, rfl, rfl, mulR (by omega) hl, q⟩⟩)
/-- a fraction: both parts positive (the upper one may be 0 or less) -/
abbrev pFr (K : PySem.W.Frag) : Pr Fr := pZip K pInt pInt
def sp_fraction (K : PySem.W.Frag) : Sp := fun vs H Q _ => ∃ a b : Int, vs = [.int a, .int b] ∧ 0 < b ∧ b < 2 ^ 64 ∧ Ret (pFr K) (frac a b) H Q
theorem cd_abs (a b : Int) : cd (if a < 0 then -a else a) b = cd a b := by
  unfold cd
  split
  · rw [Int.neg_gcd]
  · rfl
theorem ok_fraction (T : Tx K mg) : C8.Cal P w K mg base 2 "fraction" (sp_fraction K) [] :=
  mk_fraction T (fn_fraction T (fun vs H Q E h => by obtain ⟨i, j, rfl, _⟩ := h; rfl) fun cdv A outer s H vs Q E hr h => ⟨_, (der_fraction T (ok_common_divisor T) hr).2, by
    obtain ⟨a, b, rfl, hb, hl, q⟩ := h
    have h1 := cd_pos (a := a) hb
    have h2 := cd_le (a := a) hb
    have h3 : 0 < cd a b ∧ (cd a b).natAbs.log2 < 9000 := ⟨h1, lt64 (cd_nonneg _ _) (by omega)⟩
    refine ⟨_, rfl, a, rfl, _, rfl, _, b, rfl, by split <;> omega, Int.le_of_lt hb, ?_⟩
    rw [cd_abs]
    refine ⟨_, rfl, _, rfl, _, _, rfl, rfl, h3, _, rfl, _, rfl, _, _, rfl, rfl, h3, by rw [sizeLine_eq]; simp, fun p n => ?_⟩
    generalize hg : upd _ p _ = H1
    obtain ⟨e1, h4⟩ := gen_new n hg
    exact q _ _ e1 ⟨p, _, _, rfl, SqT.of h4, rfl, rfl⟩⟩)
end
end Lf

set_option Elab.async false
set_option linter.all false
set_option maxRecDepth 100000
set_option maxHeartbeats 4000000
namespace Lf
open PySem PySem.Spec PyProof.Rows L2 Lc Lr Lm
/-! ### what stands for steps, kinds, books -/
def wayT : Way → Str
  | .down => "down"
  | .up => "up"
  | .ndown => "near down"
  | .nup => "near up"
  | .neven => "near even"
theorem str_eq {a b : Str} : V.str a = V.str b ↔ a = b := ⟨fun h => by injection h, fun h => by rw [h]⟩
theorem way_down (w : Way) : wayT w = "down" ↔ w = .down := by cases w <;> decide +kernel
theorem way_up (w : Way) : wayT w = "up" ↔ w = .up := by cases w <;> decide +kernel
theorem way_ndown (w : Way) : wayT w = "near down" ↔ w = .ndown := by cases w <;> decide +kernel
theorem way_neven (w : Way) : wayT w = "near even" ↔ w = .neven := by cases w <;> decide +kernel
def pStp (K : PySem.W.Frag) : Pr Stp := fun H v s => match s with
  | .plus c => ∃ p, v = .ref p ∧ SqT K H p [.str "plus", .int c]
  | .times a b w u => ∃ p, v = .ref p ∧ SqT K H p [.str "times", .int a, .int b, .str (wayT w), .int u]
instance (K : PySem.W.Frag) : MonT (pStp K) := ⟨fun {H H' v x} e h => by
  cases x with
  | plus c => obtain ⟨p, a, b⟩ := h; exact ⟨p, a, lt_t e b⟩
  | times a b w u => obtain ⟨p, a, b⟩ := h; exact ⟨p, a, lt_t e b⟩⟩
abbrev pRow (K : PySem.W.Frag) : Pr (List Stp) := pTup K (pStp K)
section
variable {P : Program} {w : World} {K : PySem.W.Frag} {mg : Str → Option Value} {base : Heap}
theorem frac_pos {a b : Int} (hb : 0 < b) : 0 < (frac a b).2 := by
  show 0 < b / cd a b
  obtain ⟨k, hk⟩ := cd_dvd_r a b
  have h1 := cd_pos (a := a) hb
  have h2 : 0 < k := by
    rcases Int.lt_or_le 0 k with h | h
    · exact h
    · exfalso
      have : cd a b * k ≤ 0 := Int.mul_nonpos_of_nonneg_of_nonpos (Int.le_of_lt h1) h
      omega
  have e : b / cd a b = k := by
    conv => lhs; lhs; rw [hk]
    rw [Int.mul_ediv_cancel_left _ (Int.ne_of_gt h1)]
  rw [e]
  exact h2
def sp_times (K : PySem.W.Frag) : Sp := fun vs H Q _ => ∃ v u p q, vs = [v, u] ∧ pFr K H v p ∧ pFr K H u q ∧ 0 < p.2 ∧ 0 < q.2 ∧ -(2 ^ 64) < q.1 ∧ q.1 < 2 ^ 64 ∧ p.2 * q.2 < 2 ^ 64 ∧ q.2 < 2 ^ 64 ∧ Ret (pFr K) (tms p q) H Q
theorem ok_times (T : Tx K mg) : C8.Cal P w K mg base 3 "times" (sp_times K) [] :=
  mk_times T (fn_times T (fun vs H Q E h => by obtain ⟨v, u, p, q, rfl, _⟩ := h; rfl) fun cdv A outer s H vs Q E hr h => ⟨_, (der_times T (ok_fraction T) hr).2, by
    obtain ⟨v, u, p, q, rfl, ⟨a, _, _, rfl, ha, rfl, rfl⟩, ⟨b, _, _, rfl, hb, rfl, rfl⟩, h1, h2, h3, h4, h5, h6, k⟩ := h
    exact ⟨_, rfl, _, _, _, _, rfl, rfl, ha, rfl, _, rfl, _, _, _, _, rfl, rfl, hb, rfl, _, _, rfl, rfl, mulR h3 h4, _, rfl, _, _, _, _, rfl, rfl, ha, rfl, _, rfl, _, _, _, _, rfl, rfl, hb, rfl, _, _, rfl, rfl, mulR (by omega) h6,
      _, _, rfl, Int.mul_pos h1 h2, h5, k⟩⟩)
def sp_less (K : PySem.W.Frag) : Sp := fun vs H Q _ => ∃ v u p q, vs = [v, u] ∧ pFr K H v p ∧ pFr K H u q ∧ 0 < p.2 ∧ 0 < q.2 ∧ p.2 * q.2 < 2 ^ 64 ∧ p.2 < 2 ^ 64 ∧ q.2 < 2 ^ 64 ∧ Ret (pFr K) (lss p q) H Q
theorem ok_less (T : Tx K mg) : C8.Cal P w K mg base 3 "less" (sp_less K) [] :=
  mk_less T (fn_less T (fun vs H Q E h => by obtain ⟨v, u, p, q, rfl, _⟩ := h; rfl) fun cdv A outer s H vs Q E hr h => ⟨_, (der_less T (ok_fraction T) hr).2, by
    obtain ⟨v, u, p, q, rfl, ⟨a, _, _, rfl, ha, rfl, rfl⟩, ⟨b, _, _, rfl, hb, rfl, rfl⟩, h1, h2, h5, h6, h7, k⟩ := h
    exact ⟨_, rfl, _, _, _, _, rfl, rfl, ha, rfl, _, rfl, _, _, _, _, rfl, rfl, hb, rfl, _, _, rfl, rfl, mulR (by omega) h7, _, rfl, _, _, _, _, rfl, rfl, hb, rfl, _, rfl, _, _, _, _, rfl, rfl, ha, rfl, _, _, rfl, rfl, mulR (by omega) h6, _, _, rfl, rfl,
      _, rfl, _, _, _, _, rfl, rfl, ha, rfl, _, rfl, _, _, _, _, rfl, rfl, hb, rfl, _, _, rfl, rfl, mulR (by omega) h7, _, _, rfl, Int.mul_pos h1 h2, h5, k⟩⟩)
def sp_rounded : Sp := fun vs H Q _ => ∃ (t b : Int) (w : Way), vs = [.int t, .int b, .str (wayT w)] ∧ 0 < b ∧ b < 1073741824 ∧ Ret pInt (rnd t b w) H Q
theorem ok_rounded (T : Tx K mg) : C8.Cal P w K mg base 1 "rounded" sp_rounded [] :=
  mk_rounded T (fn_rounded T (fun vs H Q E h => by obtain ⟨v, u, p, rfl, _⟩ := h; rfl) fun cdv A outer s H vs Q E hr h => ⟨_, (der_rounded T hr).2, by
    obtain ⟨t, b, wy, rfl, h0, h1, k⟩ := h
    refine ⟨_, rfl, _, rfl, t, b, rfl, ⟨h0, h1⟩, fun p n => ?_⟩
    generalize hg : upd _ p _ = H1
    obtain ⟨e1, hp⟩ := gen_new n hg
    have fin : ∀ {x : Int}, x = rnd t b wy → Q (.int x) H1 := fun e => k _ _ e1 (by rw [e]; rfl)
    refine ⟨p, _, rfl, SqT.of hp, rfl, _, _, rfl, _, _, rfl, rfl, ?_⟩
    refine ⟨_, rfl, rfl, _, rfl, ite2 (fun c1 => ?_) (fun c1 => ?_)⟩
    · refine iteT ⟨_, rfl, fin ?_⟩
      have c1 := (way_down wy).mp (str_eq.mp (dT c1))
      unfold rnd
      rw [if_pos (.inl c1)]
    have c1 : ¬ wy = .down := fun z => dF c1 (str_eq.mpr ((way_down wy).mpr z))
    refine ⟨_, rfl, rfl, _, rfl, ite2 (fun c2 => ?_) (fun c2 => ?_)⟩
    · have c2 : t % b = 0 := by have := dT c2; injection this
      refine ⟨_, rfl, fin ?_⟩
      unfold rnd
      rw [if_pos (.inr c2)]
    have c2 : ¬ t % b = 0 := fun z => dF c2 (by rw [z])
    have c12 : ¬ (wy = .down ∨ t % b = 0) := fun z => z.elim c1 c2
    refine ⟨_, rfl, rfl, _, rfl, ite2 (fun c3 => ?_) (fun c3 => ?_)⟩
    · have c3 := (way_up wy).mp (str_eq.mp (dT c3))
      refine ⟨_, rfl, _, _, rfl, rfl, fin ?_⟩
      unfold rnd
      rw [if_neg c12, if_pos c3]
    have c3 : ¬ wy = .up := fun z => dF c3 (str_eq.mpr ((way_up wy).mpr z))
    refine ⟨_, rfl, _, _, rfl, rfl, mulL (by omega) (by omega), _, rfl, rfl, _, rfl, ite2 (fun c4 => ?_) (fun c4 => ?_)⟩
    · have c4 : 2 * (t % b) ≠ b := fun z => dN c4 (congrArg V.int z)
      refine ⟨_, rfl, _, _, rfl, rfl, mulL (by omega) (by omega), _, rfl, _, _, rfl, rfl, _, rfl, ite2 (fun c5 => ?_) (fun c5 => ?_)⟩
      · have c5 := dT c5
        refine ⟨_, rfl, fin ?_⟩
        unfold rnd
        rw [if_neg c12, if_neg c3, if_pos c4, if_pos c5]
      · have c5 := dF c5
        refine ⟨_, rfl, _, _, rfl, rfl, fin ?_⟩
        unfold rnd
        rw [if_neg c12, if_neg c3, if_pos c4, if_neg c5]
    have c4 : ¬ (2 * (t % b) ≠ b) := fun z => z (by have := dNN c4; injection this)
    refine ⟨_, rfl, rfl, _, rfl, ite2 (fun c5 => ?_) (fun c5 => ?_)⟩
    · have c5 := (way_neven wy).mp (str_eq.mp (dT c5))
      refine ⟨_, rfl, _, rfl, _, _, rfl, rfl, (by decide : (0 : Int) < 2), _, _, rfl, rfl, fin ?_⟩
      unfold rnd
      rw [if_neg c12, if_neg c3, if_neg c4, if_pos c5]
    have c5 : ¬ wy = .neven := fun z => dF c5 (str_eq.mpr ((way_neven wy).mpr z))
    refine ⟨_, rfl, rfl, _, rfl, ite2 (fun c6 => ?_) (fun c6 => ?_)⟩
    · have c6 := (way_ndown wy).mp (str_eq.mp (dT c6))
      refine ⟨_, rfl, fin ?_⟩
      unfold rnd
      rw [if_neg c12, if_neg c3, if_neg c4, if_neg c5, if_pos c6]
    · have c6 : ¬ wy = .ndown := fun z => dF c6 (str_eq.mpr ((way_ndown wy).mpr z))
      refine ⟨_, rfl, _, _, rfl, rfl, fin ?_⟩
      unfold rnd
      rw [if_neg c12, if_neg c3, if_neg c4, if_neg c5, if_neg c6]⟩)
end
end Lf

set_option Elab.async false
set_option linter.all false
set_option maxRecDepth 100000
set_option maxHeartbeats 4000000
namespace Lf
open PySem PySem.Spec PyProof.Rows L2 Lc Lr Lm
section
variable {P : Program} {w : World} {K : PySem.W.Frag} {mg : Str → Option Value} {base : Heap}
theorem led_snoc (ss : List Stp) (s : Stp) (v : Int) : led (ss ++ [s]) v = led1 s (led ss v) := by unfold led; rw [List.foldl_append] <;> rfl
theorem take_snoc {α : Type} {xs : List α} {i : Nat} {x : α} (e : xs[i]? = some x) : xs.take (i + 1) = xs.take i ++ [x] := by rw [List.take_add_one, e] <;> rfl
theorem times_plus : ¬ ("times" : Str) = "plus" := by decide +kernel
theorem plus_times : ¬ ("plus" : Str) = "times" := by decide +kernel
def sp_led (K : PySem.W.Frag) : Sp := fun vs H Q _ => ∃ v i ss, vs = [v, .int i] ∧ pRow K H v ss ∧ GoodR ss ∧ Ret pInt (led ss i) H Q
theorem ok_led (T : Tx K mg) : C8.Cal P w K mg base 2 "led" (sp_led K) [] :=
  mk_led T (fn_led T (fun vs H Q E h => by obtain ⟨v, u, p, rfl, _⟩ := h; rfl) fun cdv A outer s H vs Q E hr h => ⟨_, (der_led T ok_rounded' hr).2, by
    obtain ⟨v, i0, ss, rfl, ⟨p, vs, rfl, hp, pr⟩, good, k⟩ := h
    refine ⟨_, rfl, p, rfl, ⟨_, hp⟩, for_wk (P := pStp K) (wk_tup (K := K) (p := p) (vs := vs) (xs := ss) (paired_len pr)) (fun i σ H' => Ex H H' ∧ ∃ z, σ = [some (.ref p), some (.int (led (ss.take i) i0)), z]) ⟨Ex.rf H, _, rfl⟩
      (fun i σ H' _ q => ⟨lt_t (Ex.lt q.1) hp, paired_upT (Ex.lt q.1) pr⟩) (fun i x u σ H1 H2 hx q e2 px => ?_) (fun σ H' q => ?_)⟩
    · obtain ⟨e1, z, rfl⟩ := q
      rw [take_snoc hx, led_snoc]
      have gx := good x (List.mem_of_getElem? hx)
      cases x with
      | plus c =>
        obtain ⟨a, rfl, ha⟩ := px
        refine ⟨_, rfl, _, _, _, _, rfl, rfl, ha, rfl, rfl, _, rfl, ite2 (fun c1 => ?_) (fun c1 => (dF c1 rfl).elim)⟩
        exact ⟨_, rfl, _, rfl, _, _, _, _, rfl, rfl, ha, rfl, _, _, rfl, rfl, e1.tr e2, _, rfl⟩
      | times a b wy m =>
        obtain ⟨⟨g1, g2⟩, ⟨g3, g4⟩, g5, g6⟩ := gx
        obtain ⟨q, rfl, ha⟩ := px
        refine ⟨_, rfl, _, _, _, _, rfl, rfl, ha, rfl, rfl, _, rfl, ite2 (fun c1 => (times_plus (str_eq.mp (dT c1))).elim) (fun c1 => ?_)⟩
        have hbm : 0 < b * m := Int.mul_pos (by omega) (by omega)
        have hbm2 : b * m ≤ 15 := Int.mul_le_mul (a := b) (b := m) (c := 5) (d := 3) g4 g6 (by omega) (by omega)
        refine ⟨_, rfl, _, rfl, _, _, _, _, rfl, rfl, ha, rfl, _, _, rfl, rfl, mulR (by omega) (by omega), _, rfl, _, _, _, _, rfl, rfl, ha, rfl, _, rfl, _, _, _, _, rfl, rfl, ha, rfl, _, _, rfl, rfl, mulR (by omega) (by omega),
          _, rfl, _, _, _, _, rfl, rfl, ha, rfl, _, _, wy, rfl, hbm, by omega, fun y H3 e3 ey => ?_⟩
        cases ey
        have ha' := lt_t (Ex.lt e3) ha
        exact ⟨_, rfl, _, _, _, _, rfl, rfl, ha', rfl, _, _, rfl, rfl, mulR (by omega) (by omega), (e1.tr e2).tr e3, _, rfl⟩
    · obtain ⟨e1, z, rfl⟩ := q
      rw [List.take_length]
      exact ⟨_, rfl, k _ _ e1 rfl⟩⟩)
  where ok_rounded' {P : Program} {w : World} {base : Heap} : C8.Cal P w K mg base 1 "rounded" sp_rounded [] := ok_rounded T
end
end Lf

set_option Elab.async false
set_option linter.all false
set_option maxRecDepth 100000
set_option maxHeartbeats 4000000
namespace Lf
open PySem PySem.Spec PyProof.Rows L2 Lc Lr Lm
section
variable {P : Program} {w : World} {K : PySem.W.Frag} {mg : Str → Option Value} {base : Heap}
/-! ### data -/
theorem dpAll_of {α : Type} {F : V → α → Prop} {H : Hp} {f : α → PyData} (h : ∀ v x, F v x → Dp K H v (f x)) : ∀ {vs : List V} {xs : List α}, Paired F vs xs → DpAll K H vs (xs.map f)
  | _, _, .nil => .nil
  | _, _, .cons r t => .cons (h _ _ r) (dpAll_of h t)
theorem lay_of {α : Type} {f : α → PyData} : ∀ {xs : List α}, (∀ x ∈ xs, (f x).canLay0 = true) → PyData.canLayAll0 (xs.map f) = true
  | [], _ => by simp [PyData.canLayAll0]
  | x :: xs, h => by
    simp only [List.map_cons, PyData.canLayAll0, Bool.and_eq_true]
    exact ⟨h x (List.mem_cons_self ..), lay_of fun y hy => h y (List.mem_cons_of_mem _ hy)⟩
theorem depth_of {α : Type} {n : Nat} {f : α → PyData} : ∀ {xs : List α}, (∀ x ∈ xs, (f x).depth ≤ n) → PyData.depthAll (xs.map f) ≤ n
  | [], _ => by simp [PyData.depthAll]
  | x :: xs, h => by
    simp only [List.map_cons, PyData.depthAll]
    exact Nat.max_le.mpr ⟨h x (List.mem_cons_self ..), depth_of fun y hy => h y (List.mem_cons_of_mem _ hy)⟩
theorem shaped_tup {α : Type} {n : Nat} {f : α → PyData} {xs : List α} (h : ∀ x ∈ xs, (f x).canLay0 = true) (hd : ∀ x ∈ xs, (f x).depth ≤ n) (hn : n ≤ 60) : SeqAt.shaped (.tuple (xs.map f)) = true := by
  unfold SeqAt.shaped
  rw [Bool.and_eq_true]
  refine ⟨?_, decide_eq_true ?_⟩
  · simp only [PyData.canLay0]
    exact lay_of h
  · simp only [PyData.depth]
    have := depth_of hd
    omega
theorem shaped_lst {α : Type} {n : Nat} {f : α → PyData} {xs : List α} (h : ∀ x ∈ xs, (f x).canLay0 = true) (hd : ∀ x ∈ xs, (f x).depth ≤ n) (hn : n ≤ 60) : SeqAt.shaped (.list (xs.map f)) = true := by
  unfold SeqAt.shaped
  rw [Bool.and_eq_true]
  refine ⟨?_, decide_eq_true ?_⟩
  · simp only [PyData.canLay0]
    exact lay_of h
  · simp only [PyData.depth]
    have := depth_of hd
    omega
theorem shaped_nil : SeqAt.shaped (.tuple []) = true := by decide +kernel
theorem shaped_nilL : SeqAt.shaped (.list []) = true := by decide +kernel
theorem eqv_nil {α : Type} {f : α → PyData} {xs : List α} : PyData.eqv (.tuple (xs.map f)) (.tuple []) = xs.isEmpty := by
  cases xs <;> simp [PyData.eqv, PyData.eqvAll]
theorem eqv_nilL {α : Type} {f : α → PyData} {xs : List α} : PyData.eqv (.list (xs.map f)) (.list []) = xs.isEmpty := by
  cases xs <;> simp [PyData.eqv, PyData.eqvAll]
def dStp : Stp → PyData
  | .plus c => .tuple [.str "plus", .int c]
  | .times a b w u => .tuple [.str "times", .int a, .int b, .str (wayT w), .int u]
theorem dStp_dp {H : Hp} : ∀ {v : V} {s : Stp}, pStp K H v s → Dp K H v (dStp s)
  | _, .plus c, h => by
    obtain ⟨p, rfl, hp⟩ := h
    exact .tup hp (.cons (.str _) (.cons (.int _) .nil))
  | _, .times a b w u, h => by
    obtain ⟨p, rfl, hp⟩ := h
    exact .tup hp (.cons (.str _) (.cons (.int _) (.cons (.int _) (.cons (.str _) (.cons (.int _) .nil)))))
theorem way_ok (w : Way) : PyData.strOk (wayT w) = true := by cases w <;> decide +kernel
theorem dStp_lay (s : Stp) : (dStp s).canLay0 = true := by
  cases s with
  | plus c =>
    have h : PyData.strOk "plus" = true := by decide +kernel
    simp [dStp, PyData.canLay0, PyData.canLayAll0, h]
  | times a b w u =>
    have h : PyData.strOk "times" = true := by decide +kernel
    simp [dStp, PyData.canLay0, PyData.canLayAll0, h, way_ok]
theorem dStp_depth (s : Stp) : (dStp s).depth ≤ 1 := by
  cases s <;> simp [dStp, PyData.depth, PyData.depthAll]
/-! ### texts -/
theorem int_len {i : Int} (h : -1000 ≤ i) (h2 : i ≤ 1000) : (Str.ofString (toString i)).length ≤ 10 := by
  have e := int_text_length_le10 (a := i) (k := 4) (by decide) (by omega)
  rw [PySem.ofString_length]
  omega
theorem int_log {i : Int} (h : -1000 ≤ i) (h2 : i ≤ 1000) : i.natAbs.log2 < 1920 := by
  by_cases z : i.natAbs = 0
  · rw [z] <;> decide
  · have := (Nat.log2_lt (k := 10) z).mpr (by omega)
    omega
theorem way_len (w : Way) : (wayT w).length ≤ 9 := by cases w <;> decide +kernel
theorem len_app (a b : Str) : (a ++ b).length = a.length + b.length := by
  show (a.cps ++ b.cps).size = _
  rw [Array.size_append] <;> rfl
theorem len_empty : Str.empty.length = 0 := rfl
def sp_text_of_step (K : PySem.W.Frag) : Sp := fun vs H Q _ => ∃ v s, vs = [v] ∧ pStp K H v s ∧ s.Good ∧ ∀ y : Str, y.length ≤ 100 → Q (.str y) H
theorem z_sz {n : Nat} (h : n ≤ 100000) : n ≤ sizeLine := Evl.sz_of h
theorem ok_text_of_step (T : Tx K mg) : C8.Cal P w K mg base 1 "text_of_step" (sp_text_of_step K) [] :=
  mk_text_of_step T (fn_text_of_step T (fun vs H Q E h => by obtain ⟨v, s, rfl, _⟩ := h; rfl) fun cdv A outer s H vs Q E hr h => ⟨_, (der_text_of_step T hr).2, by
    obtain ⟨v, st, rfl, ps, good, k⟩ := h
    cases st with
    | plus c =>
      obtain ⟨p, rfl, hp⟩ := ps
      have l1 := int_len (i := c) (by have := good.1; omega) (by have := good.2; omega)
      have l0 : ("plus " : Str).length = 5 := by decide +kernel
      refine ⟨_, rfl, _, _, _, _, rfl, rfl, hp, rfl, rfl, _, rfl, ite2 (fun c1 => ?_) (fun c1 => (dF c1 rfl).elim)⟩
      refine ⟨_, rfl, z_sz ?_, _, rfl, _, _, _, _, rfl, rfl, hp, rfl, .inr ⟨_, rfl, int_log (by have := good.1; omega) (by have := good.2; omega), _, rfl, z_sz ?_, k _ ?_⟩⟩ <;> simp only [len_app, len_empty] <;> omega
    | times a b wy u =>
      obtain ⟨p, rfl, hp⟩ := ps
      obtain ⟨⟨g1, g2⟩, ⟨g3, g4⟩, g5, g6⟩ := good
      have l1 := int_len (i := a) (by omega) (by omega)
      have l2 := int_len (i := b) (by omega) (by omega)
      have l3 := int_len (i := u) (by omega) (by omega)
      have l4 := way_len wy
      have m1 : ("times " : Str).length = 6 := by decide +kernel
      have m2 : ("/" : Str).length = 1 := by decide +kernel
      have m3 : (" " : Str).length = 1 := by decide +kernel
      have m4 : (" to " : Str).length = 4 := by decide +kernel
      refine ⟨_, rfl, _, _, _, _, rfl, rfl, hp, rfl, rfl, _, rfl, ite2 (fun c1 => (times_plus (str_eq.mp (dT c1))).elim) (fun c1 => ?_)⟩
      refine ⟨_, rfl, z_sz ?_, _, rfl, _, _, _, _, rfl, rfl, hp, rfl, .inr ⟨_, rfl, int_log (by omega) (by omega), _, rfl, z_sz ?_, _, rfl, z_sz ?_, _, rfl, _, _, _, _, rfl, rfl, hp, rfl, .inr ⟨_, rfl, int_log (by omega) (by omega), _, rfl, z_sz ?_, _, rfl, z_sz ?_,
        _, rfl, _, _, _, _, rfl, rfl, hp, rfl, .inl ⟨_, rfl, z_sz (by omega), _, rfl, z_sz ?_, _, rfl, z_sz ?_, _, rfl, _, _, _, _, rfl, rfl, hp, rfl, .inr ⟨_, rfl, int_log (by omega) (by omega), _, rfl, z_sz ?_, k _ ?_⟩⟩⟩⟩⟩ <;> simp only [len_app, len_empty] <;> omega⟩)
end
end Lf

set_option Elab.async false
set_option linter.all false
set_option maxRecDepth 100000
set_option maxHeartbeats 4000000
namespace Lf
open PySem PySem.Spec PyProof.Rows L2 Lc Lr Lm
section
variable {P : Program} {w : World} {K : PySem.W.Frag} {mg : Str → Option Value} {base : Heap}
theorem div_bd {a d : Int} (ha : 0 < a) (hd : 0 < d) (hv : d ∣ a) : 0 < a / d ∧ a / d ≤ a := by
  obtain ⟨k, rfl⟩ := hv
  rw [Int.mul_ediv_cancel_left _ (Int.ne_of_gt hd)]
  have hk : 0 < k := by
    rcases Int.lt_or_le 0 k with h | h
    · exact h
    · have := Int.mul_nonpos_of_nonneg_of_nonpos (Int.le_of_lt hd) h
      omega
  refine ⟨hk, ?_⟩
  have : 1 * k ≤ d * k := Int.mul_le_mul_of_nonneg_right (by omega) (by omega)
  omega
theorem frac_bd {t b : Int} (ht : 0 < t) (hb : 0 < b) : (0 < (frac t b).1 ∧ (frac t b).1 ≤ t) ∧ 0 < (frac t b).2 ∧ (frac t b).2 ≤ b :=
  ⟨div_bd ht (cd_pos hb) (cd_dvd_l t b), div_bd hb (cd_pos hb) (cd_dvd_r t b)⟩
theorem rate_snoc (ss : List Stp) (s : Stp) : rateOf (ss ++ [s]) = rate1 (rateOf ss) s := by unfold rateOf; rw [List.foldl_append] <;> rfl
theorem rate_bd : ∀ (n : Nat) (ss : List Stp), ss.length = n → GoodR ss → (0 < (rateOf ss).1 ∧ (rateOf ss).1 ≤ 5 ^ n) ∧ 0 < (rateOf ss).2 ∧ (rateOf ss).2 ≤ 5 ^ n := by
  intro n
  induction n with
  | zero =>
    intro ss h _
    have : ss = [] := List.length_eq_zero_iff.mp h
    subst this
    exact ⟨⟨by decide, by decide⟩, by decide, by decide⟩
  | succ n ih =>
    intro ss h good
    have hne : ss ≠ [] := fun e => by rw [e] at h; cases h
    obtain ⟨ts, s, rfl⟩ : ∃ ts s, ss = ts ++ [s] := ⟨ss.dropLast, ss.getLast hne, (List.dropLast_concat_getLast hne).symm⟩
    have ht : ts.length = n := by simpa using h
    obtain ⟨⟨h1, h2⟩, h3, h4⟩ := ih ts ht fun x hx => good x (by simp [hx])
    have gs := good s (by simp)
    rw [rate_snoc]
    have e5 : (5 : Int) ^ (n + 1) = 5 ^ n * 5 := Int.pow_succ ..
    cases s with
    | plus c =>
      show (0 < (rateOf ts).1 ∧ _) ∧ 0 < (rateOf ts).2 ∧ _
      have : (0 : Int) < 5 ^ n := Int.pow_pos (by decide)
      exact ⟨⟨h1, by rw [e5]; show (rateOf ts).1 ≤ _; omega⟩, h3, by rw [e5]; show (rateOf ts).2 ≤ _; omega⟩
    | times a b wy u =>
      obtain ⟨⟨g1, g2⟩, ⟨g3, g4⟩, _⟩ := gs
      obtain ⟨⟨f1, f2⟩, f3, f4⟩ := frac_bd (t := a) (b := b) (by omega) (by omega)
      obtain ⟨⟨k1, k2⟩, k3, k4⟩ := frac_bd (t := (rateOf ts).1 * (frac a b).1) (b := (rateOf ts).2 * (frac a b).2) (Int.mul_pos h1 f1) (Int.mul_pos h3 f3)
      have m1 : (rateOf ts).1 * (frac a b).1 ≤ 5 ^ n * 5 := Int.mul_le_mul h2 (by omega) (by omega) (Int.le_of_lt (Int.pow_pos (by decide)))
      have m2 : (rateOf ts).2 * (frac a b).2 ≤ 5 ^ n * 5 := Int.mul_le_mul h4 (by omega) (by omega) (Int.le_of_lt (Int.pow_pos (by decide)))
      rw [e5]
      exact ⟨⟨k1, Int.le_trans k2 m1⟩, k3, Int.le_trans k4 m2⟩
theorem rate_small {ss : List Stp} (h : ss.length ≤ 8) (good : GoodR ss) : (0 < (rateOf ss).1 ∧ (rateOf ss).1 ≤ 390625) ∧ 0 < (rateOf ss).2 ∧ (rateOf ss).2 ≤ 390625 := by
  obtain ⟨⟨h1, h2⟩, h3, h4⟩ := rate_bd _ ss rfl good
  have h0 := Nat.pow_le_pow_right (n := 5) (by decide) h
  have e0 : ((5 ^ ss.length : Nat) : Int) = (5 : Int) ^ ss.length := by simp
  have : (5 : Int) ^ ss.length ≤ 5 ^ 8 := by rw [← e0]; exact Int.ofNat_le.mpr h0
  have e : (5 : Int) ^ 8 = 390625 := by decide
  omega
def sp_rate_of (K : PySem.W.Frag) : Sp := fun vs H Q _ => ∃ v ss, vs = [v] ∧ pRow K H v ss ∧ GoodR ss ∧ ss.length ≤ 8 ∧ Ret (pFr K) (rateOf ss) H Q
theorem ok_rate_of (T : Tx K mg) : C8.Cal P w K mg base 4 "rate_of" (sp_rate_of K) [] :=
  mk_rate_of T (fn_rate_of T (fun vs H Q E h => by obtain ⟨v, p, rfl, _⟩ := h; rfl) fun cdv A outer s H vs Q E hr h => ⟨_, (der_rate_of T (ok_times T) (ok_fraction T) hr).2, by
    obtain ⟨v, ss, rfl, ⟨p, vs, rfl, hp, pr⟩, good, hlen, k⟩ := h
    refine ⟨by rw [sizeLine_eq]; simp, fun q n => ?_⟩
    generalize hg : upd _ q _ = H0
    obtain ⟨e0, hq⟩ := gen_new n hg
    refine ⟨_, rfl, p, rfl, ⟨_, lt_t (Ex.lt e0) hp⟩, for_wk (P := pStp K) (wk_tup (K := K) (p := p) (vs := vs) (xs := ss) (paired_len pr)) (fun i σ H' => Ex H H' ∧ ∃ u z, σ = [some (.ref p), some u, z] ∧ pFr K H' u (rateOf (ss.take i))) ⟨e0, _, _, rfl, q, _, _, rfl, SqT.of hq, rfl, rfl⟩
      (fun i σ H' _ q => ⟨lt_t (Ex.lt q.1) hp, paired_upT (Ex.lt q.1) pr⟩) (fun i x u σ H1 H2 hx q e2 px => ?_) (fun σ H' q => ?_)⟩
    · obtain ⟨e1, y, z, rfl, py⟩ := q
      have py := MonT.up (Ex.lt e2) py
      rw [take_snoc hx, rate_snoc]
      have gx := good x (List.mem_of_getElem? hx)
      cases x with
      | plus c =>
        obtain ⟨a, rfl, ha⟩ := px
        refine ⟨_, rfl, _, _, _, _, rfl, rfl, ha, rfl, rfl, _, rfl, ite2 (fun c1 => (plus_times (str_eq.mp (dT c1))).elim) (fun c1 => ?_)⟩
        exact ⟨e1.tr e2, _, _, rfl, py⟩
      | times a b wy m =>
        obtain ⟨⟨g1, g2⟩, ⟨g3, g4⟩, g5, g6⟩ := gx
        obtain ⟨q, rfl, ha⟩ := px
        refine ⟨_, rfl, _, _, _, _, rfl, rfl, ha, rfl, rfl, _, rfl, ite2 (fun c1 => ?_) (fun c1 => (dF c1 rfl).elim)⟩
        refine ⟨_, rfl, _, rfl, _, _, _, _, rfl, rfl, ha, rfl, _, rfl, _, _, _, _, rfl, rfl, ha, rfl, a, b, rfl, by omega, by omega, fun y2 H3 e3 py2 => ?_⟩
        have h8 : (ss.take i).length ≤ 8 := by rw [List.length_take]; omega
        obtain ⟨⟨h1, h2⟩, h3, h4⟩ := rate_small h8 fun x hx => good x (List.mem_of_mem_take hx)
        obtain ⟨⟨f1, f2⟩, f3, f4⟩ := frac_bd (t := a) (b := b) (by omega) (by omega)
        have m2 : (rateOf (ss.take i)).2 * (frac a b).2 ≤ 390625 * 5 := Int.mul_le_mul h4 (by omega) (by omega) (by omega)
        refine ⟨_, _, _, _, rfl, MonT.up (Ex.lt e3) py, py2, h3, f3, by omega, by omega, by omega, by omega, fun y4 H4 e4 py4 => ?_⟩
        exact ⟨((e1.tr e2).tr e3).tr e4, _, _, rfl, py4⟩
    · obtain ⟨e1, y, z, rfl, py⟩ := q
      rw [List.take_length] at py
      exact ⟨_, rfl, k _ _ e1 py⟩⟩)
theorem per_snoc (ss : List Stp) (s : Stp) : perOf (ss ++ [s]) = per1 (perOf ss) s := by unfold perOf; rw [List.foldl_append] <;> rfl
theorem whole_bd {b u : Int} {wy : Way} (h1 : 1 ≤ b) (h2 : b ≤ 5) (h3 : 1 ≤ u) (h4 : u ≤ 3) : 0 < wholeOf b u wy ∧ wholeOf b u wy ≤ 30 := by
  have m1 : 0 < b * u := Int.mul_pos (by omega) (by omega)
  have m2 : b * u ≤ 5 * 3 := Int.mul_le_mul h2 h4 (by omega) (by omega)
  unfold wholeOf
  split <;> omega
/-- own, turns -/
theorem turns_bd {a wh r : Int} (h : 0 < wh) : (0 < wh / cd a wh ∧ wh / cd a wh ≤ wh) ∧ 0 < (wh / cd a wh) / cd r (wh / cd a wh) ∧ (wh / cd a wh) / cd r (wh / cd a wh) ≤ wh := by
  have h1 := div_bd h (cd_pos (a := a) h) (cd_dvd_r a wh)
  have h2 := div_bd h1.1 (cd_pos (a := r) h1.1) (cd_dvd_r r (wh / cd a wh))
  exact ⟨h1, h2.1, by omega⟩
theorem per_nonneg : ∀ (n : Nat) (ss : List Stp), ss.length = n → GoodR ss → 0 < (perOf ss).1 ∧ 0 ≤ (perOf ss).2 := by
  intro n
  induction n with
  | zero =>
    intro ss h _
    have : ss = [] := List.length_eq_zero_iff.mp h
    subst this
    exact ⟨by decide, by decide⟩
  | succ n ih =>
    intro ss h good
    have hne : ss ≠ [] := fun e => by rw [e] at h; cases h
    obtain ⟨ts, s, rfl⟩ : ∃ ts s, ss = ts ++ [s] := ⟨ss.dropLast, ss.getLast hne, (List.dropLast_concat_getLast hne).symm⟩
    obtain ⟨h1, h2⟩ := ih ts (by simpa using h) fun x hx => good x (by simp [hx])
    have gs := good s (by simp)
    rw [per_snoc]
    cases s with
    | plus c => exact ⟨h1, h2⟩
    | times a b wy u =>
      obtain ⟨⟨g1, g2⟩, ⟨g3, g4⟩, g5, g6⟩ := gs
      obtain ⟨_, t1, _⟩ := turns_bd (a := a) (r := (perOf ts).2) (whole_bd (wy := wy) g3 g4 g5 g6).1
      exact ⟨Int.mul_pos h1 t1, Int.ediv_nonneg (Int.mul_nonneg (Int.mul_nonneg h2 (Int.le_of_lt t1)) (by omega)) (by omega)⟩
def sp_period_of (K : PySem.W.Frag) : Sp := fun vs H Q _ => ∃ v ss, vs = [v] ∧ pRow K H v ss ∧ GoodR ss ∧ Ret pInt (periodOf ss) H Q
theorem ok_period_of (T : Tx K mg) : C8.Cal P w K mg base 2 "period_of" (sp_period_of K) [] :=
  mk_period_of T (fn_period_of T (fun vs H Q E h => by obtain ⟨v, p, rfl, _⟩ := h; rfl) fun cdv A outer s H vs Q E hr h => ⟨_, (der_period_of T (ok_common_divisor T) hr).2, by
    obtain ⟨v, ss, rfl, ⟨p, vs, rfl, hp, pr⟩, good, k⟩ := h
    refine ⟨by rw [sizeLine_eq]; simp, fun q n => ?_⟩
    generalize hg : upd _ q _ = H0
    obtain ⟨e0, hq⟩ := gen_new n hg
    refine ⟨q, _, rfl, SqT.of hq, rfl, _, _, rfl, _, _, rfl, rfl, ?_⟩
    refine ⟨_, rfl, p, rfl, ⟨_, lt_t (Ex.lt e0) hp⟩, for_wk (P := pStp K) (wk_tup (K := K) (p := p) (vs := vs) (xs := ss) (paired_len pr)) (fun i σ H' => Ex H H' ∧ ∃ z1 z2 z3 z4, σ = [some (.ref p), some (.int (perOf (ss.take i)).1), some (.int (perOf (ss.take i)).2), z1, z2, z3, z4]) ⟨e0, _, _, _, _, rfl⟩
      (fun i σ H' _ q => ⟨lt_t (Ex.lt q.1) hp, paired_upT (Ex.lt q.1) pr⟩) (fun i x u σ H1 H2 hx q e2 px => ?_) (fun σ H' q => ?_)⟩
    · obtain ⟨e1, z1, z2, z3, z4, rfl⟩ := q
      rw [take_snoc hx, per_snoc]
      have gx := good x (List.mem_of_getElem? hx)
      obtain ⟨h1, h2⟩ := per_nonneg _ (ss.take i) rfl fun x hx => good x (List.mem_of_mem_take hx)
      cases x with
      | plus c =>
        obtain ⟨a, rfl, ha⟩ := px
        refine ⟨_, rfl, _, _, _, _, rfl, rfl, ha, rfl, rfl, _, rfl, ite2 (fun c1 => (plus_times (str_eq.mp (dT c1))).elim) (fun c1 => ?_)⟩
        exact ⟨e1.tr e2, _, _, _, _, rfl⟩
      | times a b wy m =>
        obtain ⟨⟨g1, g2⟩, ⟨g3, g4⟩, g5, g6⟩ := gx
        obtain ⟨q, rfl, ha⟩ := px
        have hbm2 : b * m ≤ 15 := Int.mul_le_mul (a := b) (b := m) (c := 5) (d := 3) g4 g6 (by omega) (by omega)
        obtain ⟨w1, w2⟩ := whole_bd (wy := wy) g3 g4 g5 g6
        obtain ⟨⟨o1, o2⟩, t1, t2⟩ := turns_bd (a := a) (r := (perOf (ss.take i)).2) w1
        have c1 := cd_pos (a := a) w1
        have c2 := cd_le (a := a) w1
        have c3 := cd_pos (a := (perOf (ss.take i)).2) o1
        have c4 := cd_le (a := (perOf (ss.take i)).2) o1
        refine ⟨_, rfl, _, _, _, _, rfl, rfl, ha, rfl, rfl, _, rfl, ite2 (fun d0 => ?_) (fun d0 => (dF d0 rfl).elim)⟩
        refine ⟨_, rfl, _, _, _, _, rfl, rfl, ha, rfl, _, rfl, _, _, _, _, rfl, rfl, ha, rfl, _, _, rfl, rfl, mulR (by omega) (by omega), ?_⟩
        refine ⟨_, rfl, _, _, _, _, rfl, rfl, ha, rfl, rfl, _, rfl, ite2 (fun d1 => ?_) (fun d1 => ?_)⟩
        · have ew : b * m * 2 = wholeOf b m wy := by unfold wholeOf; rw [if_pos ((way_neven wy).mp (str_eq.mp (dT d1)))]
          refine ⟨_, _, rfl, rfl, mulR (by omega) (by omega), ?_⟩
          simp only [ew]
          refine ⟨_, rfl, _, rfl, _, _, _, _, rfl, rfl, ha, rfl, _, rfl, a, _, rfl, by omega, by omega, _, _, rfl, rfl, ⟨c1, lt64 (by omega) (by omega)⟩, ?_⟩
          refine ⟨_, rfl, _, rfl, _, rfl, _, _, rfl, h2, by omega, _, _, rfl, rfl, ⟨c3, lt64 (by omega) (by omega)⟩, ?_⟩
          exact ⟨_, rfl, _, rfl, _, _, rfl, rfl, mulR (by omega) (by omega), _, rfl, _, rfl, _, _, rfl, rfl, mulR (by omega) (by omega), _, rfl, _, _, _, _, rfl, rfl, ha, rfl, _, _, rfl, rfl, mulR (by omega) (by omega),
            _, rfl, _, _, _, _, rfl, rfl, ha, rfl, _, _, rfl, rfl, ⟨by omega, lt64 (by omega) (by omega)⟩, _, _, rfl, e1.tr e2, _, _, _, _, rfl⟩
        · have ew : b * m * 1 = wholeOf b m wy := by unfold wholeOf; rw [if_neg fun z => dF d1 (str_eq.mpr ((way_neven wy).mpr z))]
          refine ⟨_, _, rfl, rfl, mulR (by omega) (by omega), ?_⟩
          simp only [ew]
          refine ⟨_, rfl, _, rfl, _, _, _, _, rfl, rfl, ha, rfl, _, rfl, a, _, rfl, by omega, by omega, _, _, rfl, rfl, ⟨c1, lt64 (by omega) (by omega)⟩, ?_⟩
          refine ⟨_, rfl, _, rfl, _, rfl, _, _, rfl, h2, by omega, _, _, rfl, rfl, ⟨c3, lt64 (by omega) (by omega)⟩, ?_⟩
          exact ⟨_, rfl, _, rfl, _, _, rfl, rfl, mulR (by omega) (by omega), _, rfl, _, rfl, _, _, rfl, rfl, mulR (by omega) (by omega), _, rfl, _, _, _, _, rfl, rfl, ha, rfl, _, _, rfl, rfl, mulR (by omega) (by omega),
            _, rfl, _, _, _, _, rfl, rfl, ha, rfl, _, _, rfl, rfl, ⟨by omega, lt64 (by omega) (by omega)⟩, _, _, rfl, e1.tr e2, _, _, _, _, rfl⟩
    · obtain ⟨e1, z1, z2, z3, z4, rfl⟩ := q
      rw [List.take_length]
      exact ⟨_, rfl, k _ _ e1 rfl⟩⟩)
end
end Lf

set_option Elab.async false
set_option linter.all false
set_option maxRecDepth 100000
set_option maxHeartbeats 4000000
namespace Lf
open PySem PySem.Spec PyProof.Rows L2 Lc Lr Lm
def LETS : List Nat := ("abcdefghijklmnopqrstuvwxyz" : Str).cps.toList
def DIGS : List Nat := ("0123456789" : Str).cps.toList
structure NameOk (z : Str) : Prop where
  lo : 1 ≤ z.length
  hi : z.length ≤ 8
  hd : ∃ c, z.cps.toList[0]? = some c ∧ c ∈ LETS
  al : ∀ c ∈ z.cps.toList, c ∈ LETS ∨ c ∈ DIGS
structure KndOk (k : Knd) : Prop where
  nm : NameOk k.name
  good : GoodR k.steps
  len : k.steps.length ≤ 2
def pKnd (K : PySem.W.Frag) : Pr Knd := fun H v k => ∃ p q, v = .ref p ∧ SqT K H p [.str k.name, .int k.grp, q] ∧ pRow K H q k.steps
instance (K : PySem.W.Frag) : MonT (pKnd K) := ⟨fun e ⟨p, q, a, b, c⟩ => ⟨p, q, a, lt_t e b, MonT.up e c⟩⟩
section
variable {P : Program} {w : World} {K : PySem.W.Frag} {mg : Str → Option Value} {base : Heap}
theorem ty_tup {H : Hp} {p : Addr} {xs : List V} (h : SqT K H p xs) : TyX K H (.ref p) (.type "tuple") := by
  rcases h with (h | ⟨o, h⟩) | ⟨o, _, _, h, c, _⟩
  · exact .base (.tup h)
  · exact .fTuple h
  · exact .kTuple h c
theorem ty_str {H : Hp} {z : Str} : TyX K H (.str z) (.type "str") := .base (.str z)
theorem rng_of {lo : Int} {n i : Nat} {a : Int} (h : (rng lo n)[i]? = some a) : a = lo + (i : Nat) ∧ i < n := by
  have hi : i < n := by
    have := (List.getElem?_eq_some_iff.mp h).1
    rwa [rng_len] at this
  rw [rng_at hi] at h
  exact ⟨(Option.some.inj h).symm, hi⟩
theorem en_at {α : Type} {xs : List α} {i : Nat} {z : Int × α} (h : ((rng 0 xs.length).zip xs)[i]? = some z) : z.1 = (i : Nat) ∧ xs[i]? = some z.2 ∧ i < xs.length := by
  obtain ⟨h1, h2⟩ := List.getElem?_zip_eq_some.mp h
  obtain ⟨h3, h4⟩ := rng_of h1
  exact ⟨by omega, h2, h4⟩
/-- a tuple as an iterable of enumerate, zip -/
theorem sqF {H : Hp} {p : Addr} {xs : List V} (h : SqT K H p xs) : SqK false K H p xs := h
theorem sqL {H : Hp} {p : Addr} {xs : List V} (h : SqL K H p xs) : SqK true K H p xs := h
def sp_is_step (K : PySem.W.Frag) : Sp := fun vs H Q _ => ∃ v s, vs = [v] ∧ pStp K H v s ∧ s.Good ∧ Q (.bl true) H
theorem ways_in (T : Tx K mg) (wy : Way) : inV (.str (wayT wy)) (([.str "down", .str "up", .str "near down", .str "near up", .str "near even"] : List He.Dv).map (He.Dv.v K)) = true := by
  have e : inV (.str (wayT wy)) [.str "down", .str "up", .str "near down", .str "near up", .str "near even"] = true := by cases wy <;> decide +kernel
  exact e
theorem ok_is_step (T : Tx K mg) : C8.Cal P w K mg base 3 "is_step" (sp_is_step K) [] :=
  mk_is_step T (fn_is_step T (fun vs H Q E h => by obtain ⟨v, s, rfl, _⟩ := h; rfl) fun cdv A outer s H vs Q E hr h => ⟨_, (der_is_step T (ok_is_between T) hr).2, by
    obtain ⟨v, st, rfl, ps, good, k⟩ := h
    cases st with
    | plus c =>
      obtain ⟨p, rfl, hp⟩ := ps
      obtain ⟨g1, g2⟩ := good
      refine ⟨_, rfl, _, _, _, _, true, rfl, .ty _, ty_tup hp, rfl, true, rfl, iteF ?_⟩
      refine ⟨_, rfl, p, _, rfl, .inr hp, rfl, _, rfl, iteF ?_⟩
      refine ⟨_, rfl, _, _, _, _, rfl, rfl, hp, rfl, _, _, _, _, true, rfl, .ty _, ty_str, rfl, true, rfl, iteF ?_⟩
      refine ⟨_, rfl, _, _, _, _, rfl, rfl, hp, rfl, rfl, _, rfl, ite2 (fun c1 => ?_) (fun c1 => (dF c1 rfl).elim)⟩
      exact ⟨_, rfl, p, _, rfl, .inr hp, rfl, true, rfl, iteT ⟨_, rfl, _, _, _, _, rfl, rfl, hp, rfl, _, rfl, c, _, .inl ⟨_, rfl, by omega, by omega⟩, k⟩⟩
    | times a b wy u =>
      obtain ⟨p, rfl, hp⟩ := ps
      obtain ⟨⟨g1, g2⟩, ⟨g3, g4⟩, g5, g6⟩ := good
      refine ⟨_, rfl, _, _, _, _, true, rfl, .ty _, ty_tup hp, rfl, true, rfl, iteF ?_⟩
      refine ⟨_, rfl, p, _, rfl, .inr hp, rfl, _, rfl, iteF ?_⟩
      refine ⟨_, rfl, _, _, _, _, rfl, rfl, hp, rfl, _, _, _, _, true, rfl, .ty _, ty_str, rfl, true, rfl, iteF ?_⟩
      refine ⟨_, rfl, _, _, _, _, rfl, rfl, hp, rfl, rfl, _, rfl, ite2 (fun c1 => (times_plus (str_eq.mp (dT c1))).elim) (fun c1 => ?_)⟩
      refine ⟨_, rfl, _, _, _, _, rfl, rfl, hp, rfl, rfl, _, rfl, iteNS rfl ?_⟩
      refine ⟨_, rfl, p, _, rfl, .inr hp, rfl, _, rfl, iteF ?_⟩
      refine ⟨_, rfl, _, _, _, _, rfl, rfl, hp, rfl, _, _, _, _, true, rfl, .ty _, ty_str, rfl, true, rfl, iteF ?_⟩
      refine ⟨_, rfl, _, _, _, _, rfl, rfl, hp, rfl, _, _, rfl, .inr (ways T H), rfl, rfl, _, rfl, ite2 (fun d => ?_) (fun d => ?_)⟩
      · have e := ways_in T wy
        have d' : (!inV (.str (wayT wy)) (([.str "down", .str "up", .str "near down", .str "near up", .str "near even"] : List He.Dv).map (He.Dv.v K))) = true := d
        rw [e] at d'
        cases d'
      refine ⟨_, rfl, _, _, _, _, rfl, rfl, hp, rfl, a, _, .inl ⟨_, rfl, by omega, by omega⟩, true, rfl, iteF ?_⟩
      refine ⟨_, rfl, _, _, _, _, rfl, rfl, hp, rfl, b, _, .inl ⟨_, rfl, by omega, by omega⟩, true, rfl, iteF ?_⟩
      exact ⟨_, rfl, _, _, _, _, rfl, rfl, hp, rfl, u, _, .inl ⟨_, rfl, by omega, by omega⟩, k⟩⟩)
def sp_wrong_step (K : PySem.W.Frag) : Sp := fun vs H Q _ => ∃ v ss, vs = [v] ∧ pRow K H v ss ∧ GoodR ss ∧ ss.length ≤ 2 ∧ RetV .non H Q
theorem ok_wrong_step (T : Tx K mg) : C8.Cal P w K mg base 4 "wrong_step" (sp_wrong_step K) [] :=
  mk_wrong_step T (fn_wrong_step T (fun vs H Q E h => by obtain ⟨v, s, rfl, _⟩ := h; rfl) fun cdv A outer s H vs Q E hr h => ⟨_, (der_wrong_step T (ok_is_step T) hr).2, by
    obtain ⟨v, ss, rfl, ⟨p, vs, rfl, hp, pr⟩, good, hl, k⟩ := h
    refine ⟨_, rfl, false, p, _, rfl, hp, for_wk (P := pZip K pInt (pStp K)) (wk_En (K := K) (k := false) (a := p) (us := vs) (xs := ss) (paired_len pr)) (fun i σ H' => Ex H H' ∧ ∃ z1 z2, σ = [some (.ref p), z1, z2]) ⟨Ex.rf _, _, _, rfl⟩
      (fun i σ H' _ q => ⟨lt_t (Ex.lt q.1) hp, paired_upT (Ex.lt q.1) pr⟩) (fun i x u σ H1 H2 hx q e2 px => ?_) (fun σ H' q => k _ q.1)⟩
    obtain ⟨e1, z1, z2, rfl⟩ := q
    obtain ⟨hx1, hx2, hx3⟩ := en_at hx
    obtain ⟨r, a, b, rfl, hr', pa, pb⟩ := px
    cases pa
    refine ⟨r, _, rfl, hr', rfl, _, _, rfl, _, _, rfl, rfl, ?_⟩
    refine ⟨_, rfl, rfl, _, rfl, ite2 (fun c => ?_) (fun c => ?_)⟩
    · have c := dT c
      injection c with c
      omega
    exact ⟨_, rfl, _, _, rfl, pb, good _ (List.mem_of_getElem? hx2), true, rfl, iteF ⟨e1.tr e2, _, _, rfl⟩⟩⟩)
def sp_is_row_of_steps (K : PySem.W.Frag) : Sp := fun vs H Q _ => ∃ v ss, vs = [v] ∧ pRow K H v ss ∧ GoodR ss ∧ ss.length ≤ 2 ∧ RetV (.bl true) H Q
theorem ok_is_row_of_steps (T : Tx K mg) : C8.Cal P w K mg base 5 "is_row_of_steps" (sp_is_row_of_steps K) [] :=
  mk_is_row_of_steps T (fn_is_row_of_steps T (fun vs H Q E h => by obtain ⟨v, s, rfl, _⟩ := h; rfl) fun cdv A outer s H vs Q E hr h => ⟨_, (der_is_row_of_steps T (ok_wrong_step T) hr).2, by
    obtain ⟨v, ss, rfl, pr, good, hl, k⟩ := h
    have pr' := pr
    obtain ⟨p, vs, rfl, hp, _⟩ := pr
    refine ⟨_, rfl, _, _, _, _, true, rfl, .ty _, ty_tup hp, rfl, true, rfl, iteT ⟨_, rfl, _, _, rfl, pr', good, hl, fun H' e => ?_⟩⟩
    exact ⟨rfl, k _ e⟩⟩)
def sp_check_whole (K : PySem.W.Frag) : Sp := fun vs H Q _ => ∃ v ss, vs = [v] ∧ pRow K H v ss ∧ GoodR ss ∧ ss.length ≤ 2 ∧ RetV .non H Q
theorem ok_check_whole (T : Tx K mg) : C8.Cal P w K mg base 5 "check_whole" (sp_check_whole K) [] :=
  mk_check_whole T (fn_check_whole T (fun vs H Q E h => by obtain ⟨v, s, rfl, _⟩ := h; rfl) fun cdv A outer s H vs Q E hr h => ⟨_, (der_check_whole T (ok_wrong_step T) hr).2, by
    obtain ⟨v, ss, rfl, pr, good, hl, k⟩ := h
    have pr' := pr
    obtain ⟨p, vs, rfl, hp, _⟩ := pr
    refine ⟨_, rfl, _, _, _, _, true, rfl, .ty _, ty_tup hp, rfl, true, rfl, iteF ⟨_, rfl, _, _, rfl, pr', good, hl, fun H' e => ?_⟩⟩
    exact ⟨_, rfl, rfl, _, rfl, iteF (k _ e)⟩⟩)
def sp_check_places (K : PySem.W.Frag) : Sp := fun vs H Q _ => ∃ v ks n, vs = [v, .int n] ∧ pTup K (pKnd K) H v ks ∧ (∀ k ∈ ks, (k.grp : Int) < n) ∧ RetV .non H Q
theorem ok_check_places (T : Tx K mg) : C8.Cal P w K mg base 1 "check_places" (sp_check_places K) [] :=
  mk_check_places T (fn_check_places T (fun vs H Q E h => by obtain ⟨v, s, n, rfl, _⟩ := h; rfl) fun cdv A outer s H vs Q E hr h => ⟨_, (der_check_places T hr).2, by
    obtain ⟨v, ks, n, rfl, ⟨p, vs, rfl, hp, pr⟩, hk, k⟩ := h
    refine ⟨_, rfl, false, p, _, rfl, hp, for_wk (P := pZip K pInt (pKnd K)) (wk_En (K := K) (k := false) (a := p) (us := vs) (xs := ks) (paired_len pr)) (fun i σ H' => Ex H H' ∧ ∃ z1 z2, σ = [some (.ref p), some (.int n), z1, z2]) ⟨Ex.rf _, _, _, rfl⟩
      (fun i σ H' _ q => ⟨lt_t (Ex.lt q.1) hp, paired_upT (Ex.lt q.1) pr⟩) (fun i x u σ H1 H2 hx q e2 px => ?_) (fun σ H' q => k _ q.1)⟩
    obtain ⟨e1, z1, z2, rfl⟩ := q
    obtain ⟨hx1, hx2, hx3⟩ := en_at hx
    obtain ⟨r, a, b, rfl, hr', pa, c, d, rfl, hc, _⟩ := px
    cases pa
    refine ⟨r, _, rfl, hr', rfl, _, _, rfl, _, _, rfl, rfl, ?_⟩
    refine ⟨_, rfl, _, _, _, _, rfl, rfl, hc, rfl, _, rfl, _, _, rfl, rfl, _, rfl, ite2 (fun c => ?_) (fun c => ?_)⟩
    · have c := dT c
      have := hk _ (List.mem_of_getElem? hx2)
      omega
    exact ⟨e1.tr e2, _, _, rfl⟩⟩)
def sp_check_groups (K : PySem.W.Frag) : Sp := fun vs H Q _ => ∃ v gs, vs = [v] ∧ pTup K (pRow K) H v gs ∧ gs ≠ [] ∧ gs.length ≤ 3 ∧ (∀ g ∈ gs, GoodR g ∧ g.length ≤ 2) ∧ RetV .non H Q
def dRow (ss : List Stp) : PyData := .tuple (ss.map dStp)
theorem dp_row {H : Hp} {v : V} {ss : List Stp} (h : pRow K H v ss) : Dp K H v (dRow ss) := by
  obtain ⟨p, vs, rfl, hp, pr⟩ := h
  exact .tup hp (dpAll_of (f := dStp) (fun _ _ h => dStp_dp h) pr)
theorem row_lay (ss : List Stp) : (dRow ss).canLay0 = true := by
  simp only [dRow, PyData.canLay0]
  exact lay_of fun x _ => dStp_lay x
theorem row_depth (ss : List Stp) : (dRow ss).depth ≤ 2 := by
  simp only [dRow, PyData.depth]
  have := depth_of (n := 1) (f := dStp) (xs := ss) fun x _ => dStp_depth x
  omega
theorem ok_check_groups (T : Tx K mg) : C8.Cal P w K mg base 6 "check_groups" (sp_check_groups K) [] :=
  mk_check_groups T (fn_check_groups T (fun vs H Q E h => by obtain ⟨v, s, rfl, _⟩ := h; rfl) fun cdv A outer s H vs Q E hr h => ⟨_, (der_check_groups T (ok_is_row_of_steps T) hr).2, by
    obtain ⟨v, gs, rfl, ⟨p, vs, rfl, hp, pr⟩, hne, hl, hk, k⟩ := h
    refine ⟨_, rfl, _, _, _, _, true, rfl, .ty _, ty_tup hp, rfl, true, rfl, iteF ⟨_, rfl, by rw [sizeLine_eq]; simp, fun q n => ?_⟩⟩
    generalize hg : upd _ q _ = H0
    obtain ⟨e0, hq⟩ := gen_new n hg
    have hp0 := lt_t (Ex.lt e0) hp
    have pr0 := paired_upT (Ex.lt e0) pr
    refine ⟨_, _, .tup hp0 (dpAll_of (f := dRow) (fun _ _ h => dp_row h) pr0), .tup (SqT.of hq) .nil, shaped_tup (n := 2) (f := dRow) (fun x _ => row_lay x) (fun x _ => row_depth x) (by decide), shaped_nil, _, rfl, ?_⟩
    rw [eqv_nil]
    refine ite2 (fun c => absurd (List.isEmpty_iff.mp c) hne) (fun _ => ?_)
    refine ⟨_, rfl, false, p, _, rfl, hp0, for_wk (P := pZip K pInt (pRow K)) (wk_En (K := K) (k := false) (a := p) (us := vs) (xs := gs) (paired_len pr)) (fun i σ H' => Ex H H' ∧ ∃ z1 z2, σ = [some (.ref p), z1, z2]) ⟨e0, _, _, rfl⟩
      (fun i σ H' _ q => ⟨lt_t (Ex.lt q.1) hp, paired_upT (Ex.lt q.1) pr⟩) (fun i x u σ H1 H2 hx q e2 px => ?_) (fun σ H' q => k _ q.1)⟩
    obtain ⟨e1, z1, z2, rfl⟩ := q
    obtain ⟨hx1, hx2, hx3⟩ := en_at hx
    obtain ⟨r, a, b, rfl, hr', pa, pb⟩ := px
    cases pa
    refine ⟨r, _, rfl, hr', rfl, _, _, rfl, _, _, rfl, rfl, ?_⟩
    refine ⟨_, rfl, rfl, _, rfl, ite2 (fun c => ?_) (fun c => ?_)⟩
    · have c := dT c
      injection c with c
      omega
    obtain ⟨h1, h2⟩ := hk _ (List.mem_of_getElem? hx2)
    exact ⟨_, rfl, _, _, rfl, pb, h1, h2, fun H' e3 => ⟨true, rfl, iteF ⟨(e1.tr e2).tr e3, _, _, rfl⟩⟩⟩⟩)
end
end Lf

set_option Elab.async false
set_option linter.all false
set_option maxRecDepth 100000
set_option maxHeartbeats 4000000
namespace Lf
open PySem PySem.Spec PyProof.Rows L2 Lc Lr Lm
section
variable {P : Program} {w : World} {K : PySem.W.Frag} {mg : Str → Option Value} {base : Heap}
def pChr : Pr Nat := fun _ v c => v = .str ⟨#[c]⟩
instance : MonT pChr := ⟨fun _ h => h⟩
theorem wk_str {z : Str} : Wk pChr (Its z) (fun _ => True) z.cps.toList where
  goes := fun i H hi _ => show i < z.cps.size by simpa using hi
  stops := fun H _ => by show z.cps.size ≤ z.cps.toList.length; simp
  yields := fun i H x H' hi _ y => by
    obtain ⟨rfl, c, hc, rfl⟩ := y
    exact ⟨c, by rw [← hc]; simp, Ex.rf _, rfl⟩
theorem paired_bl {H : Hp} {vs : List V} {xs : List Bool} (h : Paired (pBl H) vs xs) : vs = xs.map V.bl := by
  induction h with
  | nil => rfl
  | cons r t ih =>
    have r' : _ = V.bl _ := r
    rw [r', ih] <;> rfl
theorem atI_0 {α : Type} {l : List α} {c : α} (h : l[0]? = some c) : atI l 0 = some c := by
  cases l with
  | nil => cases h
  | cons x t =>
    have e : ixN (x :: t).length 0 = some 0 := by
      unfold ixN
      simp
    unfold atI
    rw [e]
    exact h
theorem tyL {H : Hp} {l : Addr} {xs : List V} (h : H l = some (.lst xs)) : tyV K "list" (.ref l) H := .inl ⟨rfl, _, SqL.of h⟩
def sp_is_name : Sp := fun vs H Q _ => ∃ z, vs = [.str z] ∧ NameOk z ∧ RetV (.bl true) H Q
theorem ok_is_name (T : Tx K mg) : C8.Cal P w K mg base 1 "is_name" sp_is_name [] :=
  mk_is_name T (fn_is_name T (fun vs H Q E h => by obtain ⟨v, rfl, _⟩ := h; rfl) fun cdv A outer s H vs Q E hr h => ⟨_, (der_is_name T hr).2, by
    obtain ⟨z, rfl, ⟨h1, h8, ⟨c, hc, hcl⟩, hal⟩, k⟩ := h
    have hsz : z.length ≤ sizeLine := Evl.sz_of (by omega)
    refine ⟨_, rfl, _, _, _, _, true, rfl, .ty _, ty_str, rfl, true, rfl, iteF ?_⟩
    refine ⟨_, rfl, z, rfl, hsz, _, _, rfl, rfl, _, rfl, ite2 (fun _ => ?_) (fun d => (dF d (by omega)).elim)⟩
    refine ⟨_, _, rfl, rfl, _, rfl, ite2 (fun d => ?_) (fun _ => ?_)⟩
    · have d' : (!decide ((z.length : Int) ≤ 8)) = true := d
      exact absurd (by omega) (dN d')
    refine ⟨_, rfl, z, _, c, rfl, rfl, hsz, atI_0 hc, c, _, rfl, rfl, _, rfl, ite2 (fun d => absurd hcl (dN d)) (fun _ => ?_)⟩
    refine ⟨_, rfl, z, rfl, ⟨lc_map (R := pBl) (wk_str (z := z)) (fun c => decide (c ∈ LETS) || decide (c ∈ DIGS)) (by simp; exact Nat.le_trans h8 (by decide)) (fun _ _ => trivial) (fun i x v H1 hx e pv N Z kz => ?_) (fun L H1 ws hL e hl pw => ?_)⟩⟩
    · cases pv
      refine ⟨rfl, _, rfl, x, _, rfl, rfl, decide (x ∈ LETS), rfl, ite2 (fun d => ?_) (fun d => ?_)⟩
      · exact kz _ _ (Ex.rf _) (by show V.bl true = V.bl _; rw [d]; rfl)
      · exact ⟨_, rfl, x, _, rfl, rfl, kz _ _ (Ex.rf _) (by show V.bl (decide (x ∈ DIGS)) = V.bl _; rw [Bool.not_eq_true _ |>.mp d]; rfl)⟩
    · rw [paired_bl pw] at hl
      refine ⟨_, _, rfl, SqL.of hl, ?_⟩
      have ea : ((z.cps.toList.map fun c => decide (c ∈ LETS) || decide (c ∈ DIGS)).all id) = true := by
        rw [List.all_map, List.all_eq_true]
        intro x hx
        rcases hal x hx with h | h <;> simp [h]
      rw [ea]
      exact k _ e⟩)
def sp_is_kind (K : PySem.W.Frag) : Sp := fun vs H Q _ => ∃ v x, vs = [v] ∧ pKnd K H v x ∧ KndOk x ∧ RetV (.bl true) H Q
theorem ok_is_kind (T : Tx K mg) : C8.Cal P w K mg base 6 "is_kind" (sp_is_kind K) [] :=
  mk_is_kind T (fn_is_kind T (fun vs H Q E h => by obtain ⟨v, s, rfl, _⟩ := h; rfl) fun cdv A outer s H vs Q E hr h => ⟨_, (der_is_kind T (ok_is_name T) (ok_is_between T) (ok_is_row_of_steps T) hr).2, by
    obtain ⟨v, x, rfl, ⟨p, q, rfl, hp, pr⟩, ⟨nm, good, hl⟩, k⟩ := h
    refine ⟨_, rfl, _, _, _, _, true, rfl, .ty _, ty_tup hp, rfl, true, rfl, iteF ?_⟩
    refine ⟨_, rfl, p, _, rfl, .inr hp, rfl, _, rfl, iteF ?_⟩
    refine ⟨_, rfl, _, _, _, _, rfl, rfl, hp, rfl, _, rfl, nm, fun H1 e1 => ⟨true, rfl, iteF ?_⟩⟩
    have hp1 := lt_t (Ex.lt e1) hp
    refine ⟨_, rfl, _, _, _, _, rfl, rfl, hp1, rfl, _, _, .inr ⟨rfl, by omega⟩, true, rfl, iteT ?_⟩
    exact ⟨_, rfl, _, _, _, _, rfl, rfl, hp1, rfl, _, _, rfl, MonT.up (Ex.lt e1) pr, good, hl, fun H2 e2 => k _ (e1.tr e2)⟩⟩)
def dKnd (k : Knd) : PyData := .tuple [.str k.name, .int k.grp, dRow k.steps]
theorem dKnd_dp {H : Hp} {v : V} {k : Knd} (h : pKnd K H v k) : Dp K H v (dKnd k) := by
  obtain ⟨p, q, rfl, hp, pr⟩ := h
  exact .tup hp (.cons (.str _) (.cons (.int _) (.cons (dp_row pr) .nil)))
theorem let_lt : ∀ c, c ∈ LETS ∨ c ∈ DIGS → c < 0x110000 := by
  have h1 : LETS.all (fun c => decide (c < 0x110000)) = true := by decide +kernel
  have h2 : DIGS.all (fun c => decide (c < 0x110000)) = true := by decide +kernel
  intro c h
  rcases h with h | h
  · exact of_decide_eq_true (List.all_eq_true.mp h1 c h)
  · exact of_decide_eq_true (List.all_eq_true.mp h2 c h)
theorem name_ok {z : Str} (h : NameOk z) : PyData.strOk z = true := by
  unfold PyData.strOk
  rw [← Array.all_toList, List.all_eq_true]
  intro c hc
  exact decide_eq_true (let_lt c (h.al c hc))
theorem dKnd_lay {k : Knd} (h : NameOk k.name) : (dKnd k).canLay0 = true := by
  simp only [dKnd, PyData.canLay0, PyData.canLayAll0, name_ok h, row_lay, Bool.and_self]
theorem dKnd_depth (k : Knd) : (dKnd k).depth ≤ 3 := by
  have := row_depth k.steps
  simp only [dKnd, PyData.depth, PyData.depthAll]
  omega
def sp_check_kinds (K : PySem.W.Frag) : Sp := fun vs H Q _ => ∃ v ks, vs = [v] ∧ pTup K (pKnd K) H v ks ∧ ks ≠ [] ∧ ks.length ≤ 4 ∧ (∀ x ∈ ks, KndOk x) ∧ (ks.map Knd.name).Nodup ∧ RetV .non H Q
theorem inV_str {z : Str} {zs : List Str} (h : z ∉ zs) : inV (.str z) (zs.map V.str) = false := by
  unfold inV
  rw [List.any_map, List.any_eq_false]
  intro y hy
  show ¬ (y == z) = true
  intro e
  exact h (by rw [← eq_of_beq e]; exact hy)
theorem all_flat (zs : List Str) : (zs.map V.str).all flatV = true := by
  rw [List.all_map, List.all_eq_true]
  intro _ _
  rfl
theorem ok_check_kinds (T : Tx K mg) : C8.Cal P w K mg base 7 "check_kinds" (sp_check_kinds K) [] :=
  mk_check_kinds T (fn_check_kinds T (fun vs H Q E h => by obtain ⟨v, s, rfl, _⟩ := h; rfl) fun cdv A outer s H vs Q E hr h => ⟨_, (der_check_kinds T (ok_is_kind T) hr).2, by
    obtain ⟨v, ks, rfl, ⟨p, vs, rfl, hp, pr⟩, hne, hl, hk, hnd, k⟩ := h
    refine ⟨_, rfl, _, _, _, _, true, rfl, .ty _, ty_tup hp, rfl, true, rfl, iteF ⟨_, rfl, by rw [sizeLine_eq]; simp, fun q n => ?_⟩⟩
    generalize hg : upd _ q _ = H0
    obtain ⟨e0, hq⟩ := gen_new n hg
    have hp0 := lt_t (Ex.lt e0) hp
    have pr0 := paired_upT (Ex.lt e0) pr
    refine ⟨_, _, .tup hp0 (dpAll_of (f := dKnd) (fun _ _ h => dKnd_dp h) pr0), .tup (SqT.of hq) .nil, shaped_tup (n := 3) (f := dKnd) (fun x hx => dKnd_lay (hk x hx).nm) (fun x _ => dKnd_depth x) (by decide), shaped_nil, _, rfl, ?_⟩
    rw [eqv_nil]
    refine ite2 (fun c => absurd (List.isEmpty_iff.mp c) hne) (fun _ => ?_)
    refine ⟨by rw [sizeLine_eq]; simp, fun l nl => ?_⟩
    have nH : H l = none := by
      cases z : H l with
      | none => rfl
      | some o => rw [e0 l o z] at nl; cases nl
    have e00 : Ex H (upd H0 l (.lst [])) := Evl.Ex.mut e0 nH
    refine ⟨_, rfl, false, p, _, rfl, lt_t (Ex.lt e00) hp, for_wk (P := pZip K pInt (pKnd K)) (wk_En (K := K) (k := false) (a := p) (us := vs) (xs := ks) (paired_len pr)) (fun i σ H' => Ex H H' ∧ H' l = some (.lst (((ks.take i).map Knd.name).map V.str)) ∧ ∃ z1 z2, σ = [some (.ref p), some (.ref l), z1, z2]) ⟨e00, upd_same, _, _, rfl⟩
      (fun i σ H' _ q => ⟨lt_t (Ex.lt q.1) hp, paired_upT (Ex.lt q.1) pr⟩) (fun i x u σ H1 H2 hx q e2 px => ?_) (fun σ H' q => k _ q.1)⟩
    obtain ⟨e1, hl1, z1, z2, rfl⟩ := q
    obtain ⟨hx1, hx2, hx3⟩ := en_at hx
    obtain ⟨r, a, b, rfl, hr', pa, pb⟩ := px
    cases pa
    have hkx := hk _ (List.mem_of_getElem? hx2)
    refine ⟨r, _, rfl, hr', rfl, _, _, rfl, _, _, rfl, rfl, ?_⟩
    refine ⟨_, rfl, rfl, _, rfl, ite2 (fun c => ?_) (fun c => ?_)⟩
    · have c := dT c
      injection c with c
      omega
    refine ⟨_, rfl, _, _, rfl, pb, hkx, fun H3 e3 => ⟨true, rfl, iteF ?_⟩⟩
    obtain ⟨c, d, rfl, hc, _⟩ := MonT.up (Ex.lt e3) pb
    have hl3 := e3 _ _ (e2 _ _ hl1)
    have hnot : x.2.name ∉ (ks.take i).map Knd.name := by
      intro hm
      have hn2 := hnd
      rw [← List.take_append_drop i ks, List.map_append, List.nodup_append] at hn2
      refine hn2.2.2 _ hm x.2.name ?_ rfl
      refine List.mem_map_of_mem ?_
      rw [List.mem_iff_getElem?]
      exact ⟨0, by rw [List.getElem?_drop]; simpa using hx2⟩
    refine ⟨_, rfl, _, _, _, _, rfl, rfl, hc, rfl, _, rfl, l, _, rfl, .inl (SqL.of hl3), rfl, all_flat _, _, rfl, ?_⟩
    refine ite2 (fun c => ?_) (fun c => ?_)
    · have c' : inV (.str x.2.name) (((ks.take i).map Knd.name).map V.str) = true := c
      rw [inV_str hnot] at c'
      cases c'
    refine ⟨_, rfl, tyL hl3, _, rfl, _, _, _, _, rfl, rfl, hc, rfl, l, _, _, rfl, rfl, hl3, ?_, ?_⟩
    · simp only [List.length_map]
      rw [List.length_take, sizeLine_eq]
      omega
    refine ⟨Evl.Ex.mut ((e1.tr e2).tr e3) nH, ?_, _, _, rfl⟩
    rw [upd_same, take_snoc hx2]
    simp⟩)
end
end Lf

set_option Elab.async false
set_option linter.all false
set_option maxRecDepth 100000
set_option maxHeartbeats 4000000
namespace Lf
open PySem PySem.Spec PyProof.Rows L2 Lc Lr Lm
structure BkOk (b : Bk) : Prop where
  k0 : b.kinds ≠ []
  k4 : b.kinds.length ≤ 4
  g0 : b.groups ≠ []
  g3 : b.groups.length ≤ 3
  nd : (b.kinds.map Knd.name).Nodup
  ko : ∀ k ∈ b.kinds, KndOk k
  kg : ∀ k ∈ b.kinds, k.grp < b.groups.length
  go : ∀ g ∈ b.groups, GoodR g ∧ g.length ≤ 2
  wo : GoodR b.whole ∧ b.whole.length ≤ 2
def noKnd : Knd := ⟨Str.empty, 0, []⟩
def kAt (b : Bk) (nm : Str) : Knd := (b.kinds.find? fun k => decide (k.name = nm)).getD noKnd
theorem kAt_of {b : Bk} {nm : Str} {i : Nat} {x : Knd} (hx : b.kinds[i]? = some x) (hn : x.name = nm) (hb : ∀ y ∈ b.kinds.take i, y.name ≠ nm) : kAt b nm = x := by
  unfold kAt
  have e : b.kinds = b.kinds.take i ++ x :: b.kinds.drop (i + 1) := by
    have hi := (List.getElem?_eq_some_iff.mp hx)
    obtain ⟨h1, h2⟩ := hi
    rw [← h2, ← List.drop_eq_getElem_cons h1, List.take_append_drop]
  rw [e, List.find?_append]
  have e1 : (b.kinds.take i).find? (fun k => decide (k.name = nm)) = none := by
    rw [List.find?_eq_none]
    intro y hy
    simpa using hb y hy
  rw [e1]
  simp [hn]
theorem kAt_mem {b : Bk} {nm : Str} (h : nm ∈ b.names) : kAt b nm ∈ b.kinds ∧ (kAt b nm).name = nm := by
  obtain ⟨k, hk, e⟩ := List.mem_map.mp h
  unfold kAt
  cases q : b.kinds.find? (fun k => decide (k.name = nm)) with
  | none =>
    rw [List.find?_eq_none] at q
    exact absurd e (by simpa using q k hk)
  | some x =>
    have := List.find?_some q
    exact ⟨List.mem_of_find?_eq_some q, by simpa using this⟩
def pBk (K : PySem.W.Frag) : Pr Bk := fun H v b => ∃ a dx wt ks gs ls, v = .ref a ∧ H a = some (.ins (He.ga K "Book") dx [("sorts", ks), ("heaps", gs), ("last", ls), ("words", .str wt)]) ∧ pTup K (pKnd K) H ks b.kinds ∧ pTup K (pRow K) H gs b.groups ∧ pRow K H ls b.whole
instance (K : PySem.W.Frag) : MonT (pBk K) := ⟨fun e ⟨a, dx, wt, ks, gs, ls, h1, h2, h3, h4, h5⟩ => ⟨a, dx, wt, ks, gs, ls, h1, e _ _ trivial h2, MonT.up e h3, MonT.up e h4, MonT.up e h5⟩⟩
section
variable {P : Program} {w : World} {K : PySem.W.Frag} {mg : Str → Option Value} {base : Heap}
/-! ### texts -/
theorem joinL_len (S : List Nat) : ∀ l : List (List Nat), (TL.joinL S l).length ≤ (l.map List.length).sum + l.length * S.length
  | [] => by simp [TL.joinL]
  | [p] => by simp [TL.joinL]
  | p :: q :: r => by
    have := joinL_len S (q :: r)
    simp only [TL.joinL, List.length_append, List.map_cons, List.sum_cons, List.length_cons] at *
    rw [show (r.length + 1 + 1) * S.length = (r.length + 1) * S.length + S.length by rw [Nat.add_mul (r.length + 1) 1, Nat.one_mul]]
    omega
theorem join_len (a : Str) (ys : List Str) : (Txt.join a ys).length ≤ (ys.map (·.length)).sum + ys.length * a.length := by
  have e := TL.tl_join a ys
  have e2 : TL.tl (Txt.join a ys) = TL.joinL (TL.tl a) (ys.map TL.tl) := (congrArg TL.tl (TL.join_eq a ys)).trans e
  have h1 : (Txt.join a ys).length = (TL.tl (Txt.join a ys)).length := by simp [TL.tl, Str.length]
  rw [h1, e2]
  have := joinL_len (TL.tl a) (ys.map TL.tl)
  have h2 : ((ys.map TL.tl).map List.length) = ys.map (·.length) := by
    rw [List.map_map]
    refine List.map_congr_left fun y _ => ?_
    simp [TL.tl, Str.length]
  have h3 : (TL.tl a).length = a.length := by simp [TL.tl, Str.length]
  rw [h2, h3, List.length_map] at this
  exact this
/-- texts of at most n signs -/
def pShort (n : Nat) : Pr Unit := fun _ v _ => ∃ y : Str, v = .str y ∧ y.length ≤ n
instance (n : Nat) : MonT (pShort n) := ⟨fun _ h => h⟩
theorem short_of {n : Nat} {H : Hp} {vs : List V} {xs : List Unit} (h : Paired (pShort n H) vs xs) : ∃ ys : List Str, vs = ys.map V.str ∧ ys.length = xs.length ∧ ∀ y ∈ ys, y.length ≤ n := by
  induction h with
  | nil => exact ⟨[], rfl, rfl, fun _ h => by simp at h⟩
  | cons r t ih =>
    obtain ⟨y, rfl, hy⟩ := r
    obtain ⟨ys, rfl, hl, hn⟩ := ih
    exact ⟨y :: ys, rfl, by simp [hl], fun z hz => by
      rcases List.mem_cons.mp hz with h | h
      · rw [h]; exact hy
      · exact hn z h⟩
theorem sum_le (n : Nat) : ∀ ys : List Str, (∀ y ∈ ys, y.length ≤ n) → (ys.map (·.length)).sum ≤ ys.length * n
  | [], _ => by simp
  | y :: ys, h => by
    have := sum_le n ys fun z hz => h z (List.mem_cons_of_mem _ hz)
    have h1 := h y (List.mem_cons_self ..)
    simp only [List.map_cons, List.sum_cons, List.length_cons, Nat.add_mul, Nat.one_mul]
    omega
def sp_text_of_steps (K : PySem.W.Frag) : Sp := fun vs H Q _ => ∃ v ss, vs = [v] ∧ pRow K H v ss ∧ GoodR ss ∧ ss.length ≤ 2 ∧ ∀ (y : Str) H', Ex H H' → y.length ≤ 300 → Q (.str y) H'
theorem ok_text_of_steps (T : Tx K mg) : C8.Cal P w K mg base 2 "text_of_steps" (sp_text_of_steps K) [] :=
  mk_text_of_steps T (fn_text_of_steps T (fun vs H Q E h => by obtain ⟨v, s, rfl, _⟩ := h; rfl) fun cdv A outer s H vs Q E hr h => ⟨_, (der_text_of_steps T (ok_text_of_step T) hr).2, by
    obtain ⟨v, ss, rfl, pr, good, hl, k⟩ := h
    have dp := dp_row pr
    obtain ⟨p, vs, rfl, hp, pr⟩ := pr
    refine ⟨_, rfl, by rw [sizeLine_eq]; simp, fun q n => ?_⟩
    generalize hg : upd _ q _ = H0
    obtain ⟨e0, hq⟩ := gen_new n hg
    have hp0 := lt_t (Ex.lt e0) hp
    have pr0 := paired_upT (Ex.lt e0) pr
    refine ⟨_, _, .tup hp0 (dpAll_of (f := dStp) (fun _ _ h => dStp_dp h) pr0), .tup (SqT.of hq) .nil, shaped_tup (n := 1) (f := dStp) (fun x _ => dStp_lay x) (fun x _ => dStp_depth x) (by decide), shaped_nil, _, rfl, ite2 (fun _ => ?_) (fun _ => k _ _ e0 (by decide +kernel))⟩
    refine ⟨⟨_, rfl⟩, _, rfl, p, rfl, ⟨_, hp0⟩, ⟨lc_map (P := pStp K) (R := pShort 100) (wk_tup (K := K) (p := p) (vs := vs) (xs := ss) (paired_len pr)) (fun _ => ()) (by omega) (fun H' e => ⟨lt_t (Ex.lt e) hp0, paired_upT (Ex.lt e) pr0⟩) (fun i x v H1 hx e pv N Z kz => ?_) (fun L H1 ws hL e hl pw => ?_)⟩⟩
    · exact ⟨rfl, _, rfl, _, _, rfl, pv, good x (List.mem_of_getElem? hx), fun y hy => kz _ _ (Ex.rf _) ⟨y, rfl, hy⟩⟩
    · obtain ⟨ys, rfl, hyl, hyn⟩ := short_of pw
      rw [List.length_map] at hyl
      have h1 := sum_le 100 ys hyn
      have h2 : (", " : Str).length = 2 := by decide +kernel
      have h3 := join_len ", " ys
      have h4 : ys.length * 100 ≤ 200 := by omega
      rw [h2] at h3
      refine ⟨_, L, ys, rfl, rfl, .inl (SqL.of hl), by rw [h2]; omega, _, _, rfl, rfl, Evl.sz_of ?_, k _ _ (e0.tr e) ?_⟩
      · have : (": " : Str).length = 2 := by decide +kernel
        omega
      · rw [len_app]
        have : (": " : Str).length = 2 := by decide +kernel
        omega⟩)
end
end Lf

set_option Elab.async false
set_option linter.all false
set_option maxRecDepth 100000
set_option maxHeartbeats 4000000
namespace Lf
open PySem PySem.Spec PyProof.Rows L2 Lc Lr Lm
section
variable {P : Program} {w : World} {K : PySem.W.Frag} {mg : Str → Option Value} {base : Heap}
theorem ex_none {H H1 : Hp} (e : Ex H H1) {p : Addr} (n : H1 p = none) : H p = none := by
  cases z : H p with
  | none => rfl
  | some o => rw [e p o z] at n; cases n
def sp_text_of (K : PySem.W.Frag) : Sp := fun vs H Q _ => ∃ a b c ks gs ls, vs = [a, b, c] ∧ pTup K (pKnd K) H a ks ∧ pTup K (pRow K) H b gs ∧ pRow K H c ls ∧ ks.length ≤ 4 ∧ gs.length ≤ 3 ∧ (∀ k ∈ ks, KndOk k ∧ k.grp < 3) ∧ (∀ g ∈ gs, GoodR g ∧ g.length ≤ 2) ∧ GoodR ls ∧ ls.length ≤ 2 ∧ ∀ (y : Str) H', Ex H H' → Q (.str y) H'
theorem ok_text_of (T : Tx K mg) : C8.Cal P w K mg base 3 "text_of" (sp_text_of K) [] :=
  mk_text_of T (fn_text_of T (fun vs H Q E h => by obtain ⟨a, b, c, _, _, _, rfl, _⟩ := h; rfl) fun cdv A outer s H vs Q E hr h => ⟨_, (der_text_of T (ok_text_of_steps T) hr).2, by
    obtain ⟨a, b, c, ks, gs, ls, rfl, pk, pg, pl, hk4, hg3, hk, hg, hl1, hl2, k⟩ := h
    obtain ⟨p, vs, rfl, hp, pr⟩ := pk
    obtain ⟨q, us, rfl, hq, qr⟩ := pg
    have m1 : ("kind " : Str).length = 5 := by decide +kernel
    have m2 : (" group " : Str).length = 7 := by decide +kernel
    have m3 : ("group " : Str).length = 6 := by decide +kernel
    have m4 : ("whole" : Str).length = 5 := by decide +kernel
    have m5 : ("\n" : Str).length = 1 := by decide +kernel
    refine ⟨_, rfl, p, rfl, ⟨_, hp⟩, ⟨lc_map (P := pKnd K) (R := pShort 500) (wk_tup (K := K) (p := p) (vs := vs) (xs := ks) (paired_len pr)) (fun _ => ()) (by omega) (fun H' e => ⟨lt_t (Ex.lt e) hp, paired_upT (Ex.lt e) pr⟩) (fun i x v H1 hx e pv N Z kz => ?_) (fun L H1 ws hL e hl pw => ?_)⟩⟩
    · obtain ⟨r, t, rfl, hr', pt⟩ := pv
      obtain ⟨⟨nm, gd, ln⟩, g3⟩ := hk x (List.mem_of_getElem? hx)
      have hn := nm.hi
      have il := int_len (i := (x.grp : Int)) (by omega) (by omega)
      refine ⟨r, _, rfl, hr', rfl, _, _, rfl, _, _, rfl, _, _, rfl, rfl, rfl, ?_⟩
      refine ⟨_, rfl, z_sz ?_, _, rfl, .inl ⟨_, rfl, z_sz ?_, _, rfl, z_sz ?_, _, rfl, z_sz ?_, _, rfl, .inr ⟨_, rfl, int_log (by omega) (by omega), _, rfl, z_sz ?_, _, rfl, _, _, rfl, pt, gd, ln, fun y H2 e2 hy => ⟨_, _, rfl, rfl, z_sz ?_, kz _ _ e2 ⟨_, rfl, ?_⟩⟩⟩⟩⟩ <;> (try simp only [len_app, len_empty]) <;> omega
    obtain ⟨ys, rfl, hyl, hyn⟩ := short_of pw
    rw [List.length_map] at hyl
    have hq1 := lt_t (Ex.lt e) hq
    have qr1 := paired_upT (Ex.lt e) qr
    refine ⟨_, rfl, tyL hl, _, rfl, false, q, _, rfl, hq1, ⟨lc_map (P := pZip K pInt (pRow K)) (R := pShort 500) (wk_En (K := K) (k := false) (a := q) (us := us) (xs := gs) (paired_len qr)) (fun _ => ()) ?_ (fun H' e => ⟨lt_t (Ex.lt e) hq1, paired_upT (Ex.lt e) qr1⟩) (fun i x v H2 hx e2 pv N Z kz => ?_) (fun M H2 ws hM e2 hm pw2 => ?_)⟩⟩
    · rw [List.length_zip, rng_len]; omega
    · obtain ⟨hx1, hx2, hx3⟩ := en_at hx
      obtain ⟨r, a, b, rfl, hr', pa, pb⟩ := pv
      cases pa
      obtain ⟨gd, ln⟩ := hg _ (List.mem_of_getElem? hx2)
      have il := int_len (i := x.1) (by omega) (by omega)
      refine ⟨r, _, rfl, hr', rfl, _, _, rfl, _, _, rfl, rfl, rfl, ?_⟩
      refine ⟨_, rfl, z_sz ?_, _, rfl, .inr ⟨_, rfl, int_log (by omega) (by omega), _, rfl, z_sz ?_, _, rfl, _, _, rfl, pb, gd, ln, fun y H3 e3 hy => ⟨_, _, rfl, rfl, z_sz ?_, kz _ _ e3 ⟨_, rfl, ?_⟩⟩⟩⟩ <;> (try simp only [len_app, len_empty]) <;> omega
    obtain ⟨zs, rfl, hzl, hzn⟩ := short_of pw2
    rw [List.length_map, List.length_zip, rng_len] at hzl
    refine ⟨L, M, _, _, rfl, rfl, e2 _ _ hl, hm, by rw [List.length_map, List.length_map]; exact Evl.sz_of (by omega), ?_⟩
    generalize hG : upd H2 L _ = H3
    have e3 : Ex H H3 := by subst hG; exact Evl.Ex.mut (e.tr e2) hL
    have h3 : H3 L = some (.lst (ys.map V.str ++ zs.map V.str)) := by subst hG; exact upd_same
    refine ⟨⟨_, rfl⟩, _, rfl, L, _, rfl, .inl (SqL.of h3), _, rfl, _, _, rfl, MonT.up (Ex.lt e3) pl, hl1, hl2, fun y H4 e4 hy => ⟨_, _, rfl, rfl, z_sz ?_, ?_⟩⟩
    · omega
    refine ⟨z_sz ?_, fun r nr => ?_⟩
    · simp only [List.length_append, List.length_map, List.length_cons, List.length_nil]; omega
    generalize hG5 : upd H4 r _ = H5
    obtain ⟨e5, h5⟩ := gen_new nr hG5
    refine ⟨_, r, ys ++ zs ++ [("whole" : Str) ++ y], rfl, rfl, .inl (SqL.of (by rw [h5]; simp)), ?_, k _ _ ((e3.tr e4).tr e5)⟩
    have s1 := sum_le 500 ys hyn
    have s2 := sum_le 500 zs hzn
    have s3 : ys.length * 500 ≤ 2000 := by omega
    have s4 : zs.length * 500 ≤ 1500 := by omega
    simp only [List.map_append, List.sum_append, List.length_append, List.map_cons, List.map_nil, List.sum_cons, List.sum_nil, List.length_cons, List.length_nil, len_app, m4, m5]
    omega⟩)
def sp_Book_init (K : PySem.W.Frag) : Sp := fun vs H Q _ => ∃ x dx ks gs ls b, vs = [.ref x, ks, gs, ls] ∧ H x = some (.ins (He.ga K "Book") dx []) ∧ pTup K (pKnd K) H ks b.kinds ∧ pTup K (pRow K) H gs b.groups ∧ pRow K H ls b.whole ∧ BkOk b ∧
  ∀ H' wt, (∀ a o, a ≠ x → H a = some o → H' a = some o) → H' x = some (.ins (He.ga K "Book") dx [("sorts", ks), ("heaps", gs), ("last", ls), ("words", .str wt)]) → Q .non H'
theorem ok_Book_init (T : Tx K mg) : C8.Mak P w K mg base 8 "Book" (He.ga K "Book") (sp_Book_init K) [] :=
  mk_Book_init T (fn_Book_init T (fun vs H Q E h => by obtain ⟨_, _, _, _, _, _, rfl, _⟩ := h; rfl) fun cdv A outer s H vs Q E hr h => ⟨_, (der_Book_init T (ok_check_kinds T) (ok_check_groups T) (ok_check_places T) (ok_check_whole T) (ok_text_of T) hr).2, by
    obtain ⟨x, dx, ks, gs, ls, b, rfl, hx, pk, pg, pl, ok, k⟩ := h
    refine ⟨_, rfl, _, _, rfl, pk, ok.k0, ok.k4, ok.ko, ok.nd, fun H1 e1 => ?_⟩
    have pk1 := MonT.up (Ex.lt e1) pk
    have pg1 := MonT.up (Ex.lt e1) pg
    refine ⟨_, rfl, _, _, rfl, pg1, ok.g0, ok.g3, ok.go, fun H2 e2 => ?_⟩
    have pk2 := MonT.up (Ex.lt e2) pk1
    have pg2 := MonT.up (Ex.lt e2) pg1
    have pg2' := pg2
    obtain ⟨q, us, rfl, hq, qr⟩ := pg2'
    have hlen := paired_len qr
    refine ⟨_, rfl, _, rfl, q, _, rfl, .inr hq, _, _, _, rfl, pk2, fun k hk => by have := ok.kg k hk; omega, fun H3 e3 => ?_⟩
    have e13 := (e1.tr e2).tr e3
    refine ⟨_, rfl, _, _, rfl, MonT.up (Ex.lt e13) pl, ok.wo.1, ok.wo.2, fun H4 e4 => ?_⟩
    have e14 := e13.tr e4
    refine ⟨_, rfl, _, rfl, _, rfl, by rw [sizeLine_eq]; simp, fun r nr => ?_⟩
    generalize hG : upd H4 r _ = H5
    obtain ⟨e5, h5⟩ := gen_new nr hG
    have e15 := e14.tr e5
    have hx5 := e15 _ _ hx
    refine ⟨r, _, rfl, SqT.of h5, rfl, _, _, rfl, _, rfl, x, _, dx, _, rfl, hx5, k_Book T, a_Book_sorts T, by simp, ?_⟩
    refine ⟨_, _, rfl, _, rfl, x, _, dx, _, rfl, upd_same, k_Book T, a_Book_heaps T, (by decide : 1 < 1000), ?_⟩
    refine ⟨_, _, rfl, _, rfl, x, _, dx, _, rfl, upd_same, k_Book T, a_Book_last T, (by decide : 2 < 1000), rfl, ?_⟩
    generalize hG6 : upd (upd (upd H5 x _) x _) x _ = H6
    have hx6 : H6 x = some (.ins (He.ga K "Book") dx [("sorts", ks), ("heaps", .ref q), ("last", ls)]) := by
      subst hG6
      rw [upd_same]
      rfl
    have ne6 : ∀ a o, a ≠ x → H a = some o → H6 a = some o := fun a o ha h => by
      subst hG6
      rw [upd_ne ha, upd_ne ha, upd_ne ha]
      exact e15 a o h
    have lt6 : Lt H5 H6 ∨ True := .inr trivial
    have up6 : ∀ a xs, SqT K H5 a xs → SqT K H6 a xs := fun a xs h => by
      rcases h with (h | ⟨o, h⟩) | h
      · refine .inl (.inl ?_)
        have : a ≠ x := fun e => by rw [e, hx5] at h; cases h
        subst hG6
        rw [upd_ne this, upd_ne this, upd_ne this]
        exact h
      · refine .inl (.inr ⟨o, ?_⟩)
        have : a ≠ x := fun e => by rw [e, hx5] at h; cases h
        subst hG6
        rw [upd_ne this, upd_ne this, upd_ne this]
        exact h
      · exact .inr h
    have upS : ∀ v s, pStp K H5 v s → pStp K H6 v s := fun v s h => by
      cases s with
      | plus c => obtain ⟨p, a, b⟩ := h; exact ⟨p, a, up6 _ _ b⟩
      | times a b w u => obtain ⟨p, a, b⟩ := h; exact ⟨p, a, up6 _ _ b⟩
    have upR : ∀ v s, pRow K H5 v s → pRow K H6 v s := fun v s ⟨p, us, a, b, c⟩ => ⟨p, us, a, up6 _ _ b, pimp c upS⟩
    have upK : ∀ v s, pKnd K H5 v s → pKnd K H6 v s := fun v s ⟨p, us, a, b, c⟩ => ⟨p, us, a, up6 _ _ b, upR _ _ c⟩
    obtain ⟨pa1, pa2, pa3, pa4, pa5⟩ := MonT.up (Ex.lt e15) pk
    obtain ⟨pb1, pb2, pb3, pb4, pb5⟩ := MonT.up (Ex.lt e15) pg
    refine ⟨_, rfl, _, rfl, _, rfl, _, _, _, _, _, _, rfl, ⟨pa1, pa2, pa3, up6 _ _ pa4, pimp pa5 upK⟩, ⟨pb1, pb2, pb3, up6 _ _ pb4, pimp pb5 upR⟩, upR _ _ (MonT.up (Ex.lt e15) pl), ok.k4, ok.g3, fun k hk => ⟨ok.ko k hk, by have := ok.kg k hk; have := ok.g3; omega⟩, ok.go, ok.wo.1, ok.wo.2, fun y H7 e7 => ?_⟩
    refine ⟨_, rfl, x, _, dx, _, rfl, e7 _ _ hx6, k_Book T, a_Book_words T, (by decide : 3 < 1000), ?_⟩
    refine k _ y (fun a o ha h => ?_) ?_
    · rw [upd_ne ha]
      exact e7 _ _ (ne6 a o ha h)
    · rw [upd_same]
      rfl⟩)
end
end Lf

set_option Elab.async false
set_option linter.all false
set_option maxRecDepth 100000
set_option maxHeartbeats 4000000
namespace Lf
open PySem PySem.Spec PyProof.Rows L2 Lc Lr Lm
section
variable {P : Program} {w : World} {K : PySem.W.Frag} {mg : Str → Option Value} {base : Heap}
theorem atI_nat {α : Type} {l : List α} {n : Nat} {c : α} (h : l[n]? = some c) : atI l (n : Int) = some c := by
  have hn := (List.getElem?_eq_some_iff.mp h).1
  have e : ixN l.length (n : Int) = some n := by
    unfold ixN
    rw [if_pos (by omega), if_pos (by omega)]
    simp
  unfold atI
  rw [e]
  exact h
theorem paired_str {H : Hp} {vs : List V} {xs : List Str} (h : Paired (pStr H) vs xs) : vs = xs.map V.str := by
  induction h with
  | nil => rfl
  | cons r t ih =>
    have r' : _ = V.str _ := r
    rw [r', ih] <;> rfl
theorem pStrs {H : Hp} {v : V} {xs : List Str} (h : pTup K pStr H v xs) : ∃ p, v = .ref p ∧ SqT K H p (xs.map V.str) := by
  obtain ⟨p, vs, a, b, c⟩ := h
  rw [paired_str c] at b
  exact ⟨p, a, b⟩
theorem str_paired {H : Hp} (xs : List Str) : Paired (pStr H) (xs.map V.str) xs := by
  induction xs with
  | nil => exact .nil
  | cons x t ih => exact .cons rfl ih
/-! ### the properties -/
def sp_Book_kinds (K : PySem.W.Frag) : Sp := fun vs H Q _ => ∃ v b, vs = [v] ∧ pBk K H v b ∧ Ret (pTup K (pKnd K)) b.kinds H Q
theorem ok_Book_kinds (T : Tx K mg) : Prp P w K mg base 1 (He.ga K "Book") "kinds" (sp_Book_kinds K) :=
  mk_Book_kinds T (fn_Book_kinds T (fun vs H Q E h => by obtain ⟨_, _, rfl, _⟩ := h; rfl) fun cdv A outer s H vs Q E hr h => ⟨_, (der_Book_kinds T hr).2, by
    obtain ⟨v, b, rfl, ⟨a, dx, wt, ks, gs, ls, rfl, ha, pk, pg, pl⟩, k⟩ := h
    exact ⟨_, rfl, a, _, dx, _, _, rfl, ha, k_Book T, a_Book_sorts T, rfl, k _ _ (Ex.rf _) pk⟩⟩)
def sp_Book_groups (K : PySem.W.Frag) : Sp := fun vs H Q _ => ∃ v b, vs = [v] ∧ pBk K H v b ∧ Ret (pTup K (pRow K)) b.groups H Q
theorem ok_Book_groups (T : Tx K mg) : Prp P w K mg base 1 (He.ga K "Book") "groups" (sp_Book_groups K) :=
  mk_Book_groups T (fn_Book_groups T (fun vs H Q E h => by obtain ⟨_, _, rfl, _⟩ := h; rfl) fun cdv A outer s H vs Q E hr h => ⟨_, (der_Book_groups T hr).2, by
    obtain ⟨v, b, rfl, ⟨a, dx, wt, ks, gs, ls, rfl, ha, pk, pg, pl⟩, k⟩ := h
    exact ⟨_, rfl, a, _, dx, _, _, rfl, ha, k_Book T, a_Book_heaps T, rfl, k _ _ (Ex.rf _) pg⟩⟩)
def sp_Book_names (K : PySem.W.Frag) : Sp := fun vs H Q _ => ∃ v b, vs = [v] ∧ pBk K H v b ∧ b.kinds.length ≤ 4 ∧ Ret (pTup K pStr) b.names H Q
theorem ok_Book_names (T : Tx K mg) : Prp P w K mg base 1 (He.ga K "Book") "names" (sp_Book_names K) :=
  mk_Book_names T (fn_Book_names T (fun vs H Q E h => by obtain ⟨_, _, rfl, _⟩ := h; rfl) fun cdv A outer s H vs Q E hr h => ⟨_, (der_Book_names T hr).2, by
    obtain ⟨v, b, rfl, ⟨a, dx, wt, ks, gs, ls, rfl, ha, ⟨p, us, rfl, hp, pr⟩, pg, pl⟩, h4, k⟩ := h
    refine ⟨_, rfl, a, _, dx, _, _, rfl, ha, k_Book T, a_Book_sorts T, rfl, p, rfl, ⟨_, hp⟩, ⟨lc_map (P := pKnd K) (R := pStr) (wk_tup (K := K) (p := p) (vs := us) (xs := b.kinds) (paired_len pr)) Knd.name (by omega) (fun H' e => ⟨lt_t (Ex.lt e) hp, paired_upT (Ex.lt e) pr⟩) (fun i x v H1 hx e pv N Z kz => ?_) (fun L H1 ws hL e hl pw => ?_)⟩⟩
    · obtain ⟨q, r, rfl, hq, _⟩ := pv
      exact ⟨rfl, _, rfl, _, _, _, _, rfl, rfl, hq, rfl, kz _ _ (Ex.rf _) rfl⟩
    · refine ⟨L, ws, rfl, .inl ⟨SqL.of hl, fun l n => ?_⟩⟩
      generalize hG : upd H1 l _ = H2
      obtain ⟨e2, h2⟩ := gen_new n hG
      exact k _ _ (e.tr e2) ⟨l, _, rfl, SqT.of h2, paired_upT (Ex.lt e2) pw⟩⟩)
def sp_kind_at (K : PySem.W.Frag) : Sp := fun vs H Q _ => ∃ v b nm, vs = [v, .str nm] ∧ pBk K H v b ∧ nm ∈ b.names ∧ Ret (pKnd K) (kAt b nm) H Q
theorem ok_kind_at (T : Tx K mg) : C8.Met P w K mg base 1 (He.ga K "Book") "kind_at" (sp_kind_at K) [] :=
  mk_Book_kind_at T (fn_Book_kind_at T (fun vs H Q E h => by obtain ⟨_, _, _, rfl, _⟩ := h; rfl) fun cdv A outer s H vs Q E hr h => ⟨_, (der_Book_kind_at T hr).2, by
    obtain ⟨v, b, nm, rfl, ⟨a, dx, wt, ks, gs, ls, rfl, ha, ⟨p, us, rfl, hp, pr⟩, pg, pl⟩, hm, k⟩ := h
    refine ⟨_, rfl, a, _, dx, _, _, rfl, ha, k_Book T, a_Book_sorts T, rfl, p, rfl, ⟨_, hp⟩, for_wk (P := pKnd K) (wk_tup (K := K) (p := p) (vs := us) (xs := b.kinds) (paired_len pr)) (fun i σ H' => Ex H H' ∧ (∀ y ∈ b.kinds.take i, y.name ≠ nm) ∧ ∃ z, σ = [some (.ref a), some (.str nm), z]) ⟨Ex.rf _, by simp, _, rfl⟩
      (fun i σ H' _ q => ⟨lt_t (Ex.lt q.1) hp, paired_upT (Ex.lt q.1) pr⟩) (fun i x u σ H1 H2 hx q e2 px => ?_) (fun σ H' q => ?_)⟩
    · obtain ⟨e1, hb, z, rfl⟩ := q
      have px' := px
      obtain ⟨q, r, rfl, hq, _⟩ := px
      refine ⟨_, rfl, _, _, _, _, true, rfl, .ty _, ty_str, rfl, true, rfl, _, rfl, _, _, _, _, rfl, rfl, hq, rfl, _, rfl, rfl, _, rfl, ite2 (fun c => ?_) (fun c => ?_)⟩
      · have c := str_eq.mp (dT c)
        rw [kAt_of hx c hb] at k
        exact ⟨_, rfl, k _ _ (e1.tr e2) px'⟩
      · refine ⟨e1.tr e2, fun y hy => ?_, _, rfl⟩
        rw [take_snoc hx] at hy
        rcases List.mem_append.mp hy with h | h
        · exact hb y h
        · rw [List.mem_singleton.mp h]
          exact fun z => dF c (str_eq.mpr z)
    · obtain ⟨_, hb, _⟩ := q
      rw [List.take_length] at hb
      obtain ⟨k, hk, e⟩ := List.mem_map.mp hm
      exact absurd e (hb k hk)⟩)
theorem grp_at {b : Bk} (ok : BkOk b) {nm : Str} (hm : nm ∈ b.names) : (kAt b nm) ∈ b.kinds ∧ b.groups[(kAt b nm).grp]? = some (b.grpOf (kAt b nm)) ∧ b.grpOf (kAt b nm) ∈ b.groups := by
  have h1 := (kAt_mem hm).1
  have h2 := ok.kg _ h1
  have e : b.groups[(kAt b nm).grp]? = some (b.grpOf (kAt b nm)) := by
    unfold Bk.grpOf
    rw [List.getD_eq_getElem?_getD, List.getElem?_eq_getElem h2]
    rfl
  exact ⟨h1, e, List.mem_of_getElem? e⟩
theorem good_app {a b : List Stp} (ha : GoodR a) (hb : GoodR b) : GoodR (a ++ b) := fun x hx => (List.mem_append.mp hx).elim (ha x) (hb x)
def sp_Book_rate (K : PySem.W.Frag) : Sp := fun vs H Q _ => ∃ v b nm, vs = [v, .str nm] ∧ pBk K H v b ∧ BkOk b ∧ nm ∈ b.names ∧ Ret (pFr K) (b.rate (kAt b nm)) H Q
theorem ok_Book_rate (T : Tx K mg) : C8.Met P w K mg base 5 (He.ga K "Book") "rate" (sp_Book_rate K) [] :=
  mk_Book_rate T (fn_Book_rate T (fun vs H Q E h => by obtain ⟨_, _, _, rfl, _⟩ := h; rfl) fun cdv A outer s H vs Q E hr h => ⟨_, (der_Book_rate T (ok_kind_at T) (ok_rate_of T) hr).2, by
    obtain ⟨v, b, nm, rfl, pb, ok, hm, k⟩ := h
    have pb' := pb
    obtain ⟨a, dx, wt, ks, gs, ls, rfl, ha, pk, pg, pl⟩ := pb'
    obtain ⟨km, kg, gm⟩ := grp_at ok hm
    obtain ⟨nmo, gd, ln⟩ := ok.ko _ km
    obtain ⟨gg, gl⟩ := ok.go _ gm
    refine ⟨_, rfl, a, dx, _, rfl, ha, rfl, _, rfl, _, _, _, rfl, pb, hm, fun u H1 e1 pu => ?_⟩
    obtain ⟨p, q, rfl, hp, r, vs1, rfl, hr1, pr1⟩ := pu
    obtain ⟨_, _, _, _, _, _, h0, ha1, _, ⟨g, us, rfl, hg, pgr⟩, l, us3, rfl, hl, plr⟩ := MonT.up (Ex.lt e1) pb
    cases h0
    obtain ⟨gv, hgv, t, vs2, rfl, ht, pr2⟩ := paired_at' pgr kg
    refine ⟨_, rfl, _, _, _, _, rfl, rfl, hp, rfl, _, _, rfl, .inr hr1, ?_⟩
    refine ⟨_, rfl, a, _, _, _, _, rfl, ha1, k_Book T, a_Book_heaps T, rfl, _, rfl, _, _, _, _, rfl, rfl, hp, rfl, _, _, _, _, rfl, rfl, hg, atI_nat hgv, _, _, rfl, .inr ht, ?_⟩
    refine ⟨_, rfl, a, _, _, _, _, rfl, ha1, k_Book T, a_Book_last T, rfl, _, _, rfl, .inr hl, ?_⟩
    have l1 := paired_len pr1
    have l2 := paired_len pr2
    have l3 := paired_len plr
    refine ⟨z_sz (by have := ok.wo.2; simp only [List.length_append, List.length_nil]; omega), fun z nz => ?_⟩
    generalize hG : upd H1 z _ = H2
    obtain ⟨e2, h2⟩ := gen_new nz hG
    refine ⟨_, (kAt b nm).steps ++ b.grpOf (kAt b nm) ++ b.whole, rfl, ⟨z, _, rfl, SqT.of h2, ?_⟩, good_app (good_app gd gg) ok.wo.1, by have := ok.wo.2; simp only [List.length_append]; omega, fun v H3 e3 pv => k _ _ ((e1.tr e2).tr e3) pv⟩
    rw [List.append_nil, List.append_assoc]
    exact paired_upT (Ex.lt e2) (paired_app pr1 (paired_app pr2 plr))⟩)
def sp_Book_period (K : PySem.W.Frag) : Sp := fun vs H Q _ => ∃ v b nm, vs = [v, .str nm] ∧ pBk K H v b ∧ BkOk b ∧ nm ∈ b.names ∧ Ret pInt (b.period (kAt b nm)) H Q
theorem ok_Book_period (T : Tx K mg) : C8.Met P w K mg base 3 (He.ga K "Book") "period" (sp_Book_period K) [] :=
  mk_Book_period T (fn_Book_period T (fun vs H Q E h => by obtain ⟨_, _, _, rfl, _⟩ := h; rfl) fun cdv A outer s H vs Q E hr h => ⟨_, (der_Book_period T (ok_kind_at T) (ok_period_of T) hr).2, by
    obtain ⟨v, b, nm, rfl, pb, ok, hm, k⟩ := h
    have pb' := pb
    obtain ⟨a, dx, wt, ks, gs, ls, rfl, ha, pk, pg, pl⟩ := pb'
    obtain ⟨km, kg, gm⟩ := grp_at ok hm
    obtain ⟨nmo, gd, ln⟩ := ok.ko _ km
    obtain ⟨gg, gl⟩ := ok.go _ gm
    refine ⟨_, rfl, a, dx, _, rfl, ha, rfl, _, rfl, _, _, _, rfl, pb, hm, fun u H1 e1 pu => ?_⟩
    obtain ⟨p, q, rfl, hp, r, vs1, rfl, hr1, pr1⟩ := pu
    obtain ⟨_, _, _, _, _, _, h0, ha1, _, ⟨g, us, rfl, hg, pgr⟩, l, us3, rfl, hl, plr⟩ := MonT.up (Ex.lt e1) pb
    cases h0
    obtain ⟨gv, hgv, t, vs2, rfl, ht, pr2⟩ := paired_at' pgr kg
    refine ⟨_, rfl, _, _, _, _, rfl, rfl, hp, rfl, _, _, rfl, .inr hr1, ?_⟩
    refine ⟨_, rfl, a, _, _, _, _, rfl, ha1, k_Book T, a_Book_heaps T, rfl, _, rfl, _, _, _, _, rfl, rfl, hp, rfl, _, _, _, _, rfl, rfl, hg, atI_nat hgv, _, _, rfl, .inr ht, ?_⟩
    refine ⟨_, rfl, a, _, _, _, _, rfl, ha1, k_Book T, a_Book_last T, rfl, _, _, rfl, .inr hl, ?_⟩
    have l1 := paired_len pr1
    have l2 := paired_len pr2
    have l3 := paired_len plr
    refine ⟨z_sz (by have := ok.wo.2; simp only [List.length_append, List.length_nil]; omega), fun z nz => ?_⟩
    generalize hG : upd H1 z _ = H2
    obtain ⟨e2, h2⟩ := gen_new nz hG
    refine ⟨_, (kAt b nm).steps ++ b.grpOf (kAt b nm) ++ b.whole, rfl, ⟨z, _, rfl, SqT.of h2, ?_⟩, good_app (good_app gd gg) ok.wo.1, fun v H3 e3 pv => k _ _ ((e1.tr e2).tr e3) pv⟩
    rw [List.append_nil, List.append_assoc]
    exact paired_upT (Ex.lt e2) (paired_app pr1 (paired_app pr2 plr))⟩)
def sp_Book_share (K : PySem.W.Frag) : Sp := fun vs H Q _ => ∃ v b nm, vs = [v, .str nm] ∧ pBk K H v b ∧ BkOk b ∧ nm ∈ b.names ∧ Ret (pFr K) (b.share (kAt b nm)) H Q
theorem ok_Book_share (T : Tx K mg) : C8.Met P w K mg base 5 (He.ga K "Book") "share" (sp_Book_share K) [] :=
  mk_Book_share T (fn_Book_share T (fun vs H Q E h => by obtain ⟨_, _, _, rfl, _⟩ := h; rfl) fun cdv A outer s H vs Q E hr h => ⟨_, (der_Book_share T (ok_rate_of T) (ok_kind_at T) hr).2, by
    obtain ⟨v, b, nm, rfl, pb, ok, hm, k⟩ := h
    have pb' := pb
    obtain ⟨a, dx, wt, ks, gs, ls, rfl, ha, pk, ⟨g0, us0, rfl, hg0, pgr0⟩, pl⟩ := pb'
    obtain ⟨km, kg, gm⟩ := grp_at ok hm
    obtain ⟨nmo, gd, ln⟩ := ok.ko _ km
    obtain ⟨gg, gl⟩ := ok.go _ gm
    refine ⟨_, rfl, a, _, _, _, _, rfl, ha, k_Book T, a_Book_heaps T, rfl, _, rfl, a, dx, _, rfl, ha, rfl, _, rfl, _, _, _, rfl, pb, hm, fun u H1 e1 pu => ?_⟩
    obtain ⟨p, q, rfl, hp, r, vs1, rfl, hr1, pr1⟩ := pu
    obtain ⟨_, _, _, _, _, _, h0, ha1, _, _, l, us3, rfl, hl, plr⟩ := MonT.up (Ex.lt e1) pb
    cases h0
    have hg := lt_t (Ex.lt e1) hg0
    obtain ⟨gv, hgv, t, vs2, rfl, ht, pr2⟩ := paired_at' (paired_upT (Ex.lt e1) pgr0) kg
    refine ⟨_, _, _, _, rfl, rfl, hp, rfl, _, _, _, _, rfl, rfl, hg, atI_nat hgv, _, _, rfl, .inr ht, ?_⟩
    refine ⟨_, rfl, a, _, _, _, _, rfl, ha1, k_Book T, a_Book_last T, rfl, _, _, rfl, .inr hl, ?_⟩
    have l2 := paired_len pr2
    have l3 := paired_len plr
    refine ⟨z_sz (by have := ok.wo.2; simp only [List.length_append, List.length_nil]; omega), fun z nz => ?_⟩
    generalize hG : upd H1 z _ = H2
    obtain ⟨e2, h2⟩ := gen_new nz hG
    refine ⟨_, b.grpOf (kAt b nm) ++ b.whole, rfl, ⟨z, _, rfl, SqT.of h2, ?_⟩, good_app gg ok.wo.1, by have := ok.wo.2; simp only [List.length_append]; omega, fun v H3 e3 pv => k _ _ ((e1.tr e2).tr e3) pv⟩
    rw [List.append_nil]
    exact paired_upT (Ex.lt e2) (paired_app pr2 plr)⟩)
end
end Lf

set_option Elab.async false
set_option linter.all false
set_option maxRecDepth 100000
set_option maxHeartbeats 4000000
namespace Lf
open PySem PySem.Spec PyProof.Rows L2 Lc Lr Lm
section
variable {P : Program} {w : World} {K : PySem.W.Frag} {mg : Str → Option Value} {base : Heap}
theorem per_bd : ∀ (n : Nat) (ss : List Stp), ss.length = n → GoodR ss → 0 < (perOf ss).1 ∧ (perOf ss).1 ≤ 30 ^ n := by
  intro n
  induction n with
  | zero =>
    intro ss h _
    have : ss = [] := List.length_eq_zero_iff.mp h
    subst this
    exact ⟨by decide, by decide⟩
  | succ n ih =>
    intro ss h good
    have hne : ss ≠ [] := fun e => by rw [e] at h; cases h
    obtain ⟨ts, s, rfl⟩ : ∃ ts s, ss = ts ++ [s] := ⟨ss.dropLast, ss.getLast hne, (List.dropLast_concat_getLast hne).symm⟩
    obtain ⟨h1, h2⟩ := ih ts (by simpa using h) fun x hx => good x (by simp [hx])
    have gs := good s (by simp)
    have e5 : (30 : Int) ^ (n + 1) = 30 ^ n * 30 := Int.pow_succ ..
    have hp : (0 : Int) < 30 ^ n := Int.pow_pos (by decide)
    rw [per_snoc, e5]
    cases s with
    | plus c => exact ⟨h1, by show (perOf ts).1 ≤ _; omega⟩
    | times a b wy u =>
      obtain ⟨⟨g1, g2⟩, ⟨g3, g4⟩, g5, g6⟩ := gs
      obtain ⟨w1, w2⟩ := whole_bd (wy := wy) g3 g4 g5 g6
      obtain ⟨_, t1, t2⟩ := turns_bd (a := a) (r := (perOf ts).2) w1
      exact ⟨Int.mul_pos h1 t1, Int.mul_le_mul h2 (by omega) (Int.le_of_lt t1) (Int.le_of_lt hp)⟩
theorem per_small {ss : List Stp} (h : ss.length ≤ 6) (good : GoodR ss) : 0 < periodOf ss ∧ periodOf ss ≤ 729000000 := by
  obtain ⟨h3, h4⟩ := per_bd _ ss rfl good
  have h0 := Nat.pow_le_pow_right (n := 30) (by decide) h
  have e0 : ((30 ^ ss.length : Nat) : Int) = (30 : Int) ^ ss.length := by simp
  have : (30 : Int) ^ ss.length ≤ 30 ^ 6 := by rw [← e0]; exact Int.ofNat_le.mpr h0
  have e : (30 : Int) ^ 6 = 729000000 := by decide
  unfold periodOf
  omega
def sp_Book_periods (K : PySem.W.Frag) : Sp := fun vs H Q _ => ∃ v b, vs = [v] ∧ pBk K H v b ∧ BkOk b ∧ Ret pKey b.periods H Q
theorem ok_Book_periods (T : Tx K mg) : C8.Met P w K mg base 3 (He.ga K "Book") "periods" (sp_Book_periods K) [] :=
  mk_Book_periods T (fn_Book_periods T (fun vs H Q E h => by obtain ⟨_, _, rfl, _⟩ := h; rfl) fun cdv A outer s H vs Q E hr h => ⟨_, (der_Book_periods T (ok_period_of T) hr).2, by
    obtain ⟨v, b, rfl, pb, ok, k⟩ := h
    have pb' := pb
    obtain ⟨a, dx, wt, ks, gs, ls, rfl, ha, pk, ⟨p, us, rfl, hp, pr⟩, l, us3, rfl, hl, plr⟩ := pb'
    refine ⟨_, rfl, a, _, dx, _, _, rfl, ha, k_Book T, a_Book_heaps T, rfl, p, rfl, ⟨_, hp⟩, ⟨lc_map (P := pRow K) (R := pInt) (wk_tup (K := K) (p := p) (vs := us) (xs := b.groups) (paired_len pr)) (fun g => periodOf (g ++ b.whole)) (by have := ok.g3; omega) (fun H' e => ⟨lt_t (Ex.lt e) hp, paired_upT (Ex.lt e) pr⟩) (fun i x v H1 hx e pv N Z kz => ?_) (fun L H1 ws hL e hl pw => ?_)⟩⟩
    · obtain ⟨q, vs1, rfl, hq, pr1⟩ := pv
      obtain ⟨gg, gl⟩ := ok.go _ (List.mem_of_getElem? hx)
      have ha1 := e _ _ ha
      have hl1 := lt_t (Ex.lt e) hl
      have plr1 := paired_upT (Ex.lt e) plr
      refine ⟨rfl, _, rfl, _, _, rfl, .inr hq, _, rfl, a, _, _, _, _, rfl, ha1, k_Book T, a_Book_last T, rfl, _, _, rfl, .inr hl1, ?_⟩
      have l2 := paired_len pr1
      have l3 := paired_len plr
      refine ⟨z_sz (by have := ok.wo.2; simp only [List.length_append, List.length_nil]; omega), fun z nz => ?_⟩
      generalize hG : upd H1 z _ = H2
      obtain ⟨e2, h2⟩ := gen_new nz hG
      refine ⟨_, x ++ b.whole, rfl, ⟨z, _, rfl, SqT.of h2, ?_⟩, good_app gg ok.wo.1, fun v H3 e3 pv => kz _ _ (e2.tr e3) pv⟩
      rw [List.append_nil]
      exact paired_upT (Ex.lt e2) (paired_app pr1 plr1)
    · refine ⟨L, ws, rfl, .inl ⟨SqL.of hl, fun l n => ?_⟩⟩
      generalize hG : upd H1 l _ = H2
      obtain ⟨e2, h2⟩ := gen_new n hG
      rw [paired_int pw] at h2
      exact k _ _ (e.tr e2) ⟨l, rfl, h2⟩⟩)
def sp_Book_size (K : PySem.W.Frag) : Sp := fun vs H Q _ => ∃ v b, vs = [v] ∧ pBk K H v b ∧ BkOk b ∧ Ret pInt b.size H Q
theorem foldl_snoc {α β : Type} (f : β → α → β) (b : β) (l : List α) (x : α) : (l ++ [x]).foldl f b = f (l.foldl f b) x := by rw [List.foldl_append] <;> rfl
theorem ok_Book_size (T : Tx K mg) : C8.Met P w K mg base 4 (He.ga K "Book") "size" (sp_Book_size K) [] :=
  mk_Book_size T (fn_Book_size T (fun vs H Q E h => by obtain ⟨_, _, rfl, _⟩ := h; rfl) fun cdv A outer s H vs Q E hr h => ⟨_, (der_Book_size T (ok_Book_periods T) hr).2, by
    obtain ⟨v, b, rfl, pb, ok, k⟩ := h
    have pb' := pb
    obtain ⟨a, dx, wt, ks, gs, ls, rfl, ha, _⟩ := pb'
    refine ⟨_, rfl, a, dx, _, rfl, ha, rfl, _, _, rfl, pb, ok, fun v H1 e1 pv => ?_⟩
    obtain ⟨p, rfl, hp⟩ := pv
    refine ⟨p, rfl, ⟨_, SqT.of hp⟩, for_wk (P := pInt) (wk_tup (K := K) (p := p) (vs := b.periods.map V.int) (xs := b.periods) (by simp)) (fun i σ H' => Ex H1 H' ∧ ∃ z, σ = [some (.ref a), some (.int ((b.periods.take i).foldl (fun a p => a * p) 1)), z]) ⟨Ex.rf _, _, rfl⟩
      (fun i σ H' _ q => ⟨SqT.of (q.1 _ _ hp), int_paired _⟩) (fun i x u σ H2 H3 hx q e2 px => ?_) (fun σ H' q => ?_)⟩
    · obtain ⟨e3, z, rfl⟩ := q
      cases px
      have hm := List.mem_of_getElem? hx
      obtain ⟨g, hg, rfl⟩ := List.mem_map.mp hm
      obtain ⟨gg, gl⟩ := ok.go _ hg
      obtain ⟨b1, b2⟩ := per_small (ss := g ++ b.whole) (by have := ok.wo.2; simp only [List.length_append]; omega) (good_app gg ok.wo.1)
      rw [take_snoc hx, foldl_snoc]
      exact ⟨_, rfl, _, rfl, _, _, rfl, rfl, mulR (by omega) (by omega), e3.tr e2, _, rfl⟩
    · obtain ⟨e3, z, rfl⟩ := q
      rw [List.take_length]
      exact ⟨_, rfl, k _ _ (e1.tr e3) rfl⟩⟩)
def sp_Book_value (K : PySem.W.Frag) : Sp := fun vs H Q _ => ∃ v b nm i, vs = [v, .str nm, .int i] ∧ pBk K H v b ∧ BkOk b ∧ nm ∈ b.names ∧ 0 ≤ i ∧ Ret pInt (led (kAt b nm).steps i) H Q
theorem ok_Book_value (T : Tx K mg) : C8.Met P w K mg base 4 (He.ga K "Book") "value" (sp_Book_value K) [] :=
  mk_Book_value T (fn_Book_value T (fun vs H Q E h => by obtain ⟨_, _, _, _, rfl, _⟩ := h; rfl) fun cdv A outer s H vs Q E hr h => ⟨_, (der_Book_value T (ok_kind_at T) (ok_check_number T) (ok_led T) hr).2, by
    obtain ⟨v, b, nm, i, rfl, pb, ok, hm, hi, k⟩ := h
    have pb' := pb
    obtain ⟨a, dx, wt, ks, gs, ls, rfl, ha, pk, pg, pl⟩ := pb'
    obtain ⟨km, kg, gm⟩ := grp_at ok hm
    obtain ⟨nmo, gd, ln⟩ := ok.ko _ km
    refine ⟨_, rfl, a, dx, _, rfl, ha, rfl, _, rfl, _, _, _, rfl, pb, hm, fun u H1 e1 pu => ?_⟩
    obtain ⟨p, q, rfl, hp, pr⟩ := pu
    exact ⟨_, rfl, _, _, .inr ⟨rfl, hi⟩, _, rfl, _, _, _, _, rfl, rfl, hp, rfl, _, rfl, _, _, _, rfl, pr, gd, fun v H2 e2 pv => k _ _ (e1.tr e2) pv⟩⟩)
/-! ### bills -/
abbrev pLine (K : PySem.W.Frag) : Pr (Str × Int) := pZip K pStr pInt
theorem inV_mem {z : Str} {zs : List Str} (h : z ∈ zs) : inV (.str z) (zs.map V.str) = true := by
  unfold inV
  rw [List.any_map, List.any_eq_true]
  exact ⟨z, h, beq_self_eq_true z⟩
def sp_is_line (K : PySem.W.Frag) : Sp := fun vs H Q _ => ∃ v u x ns, vs = [v, u] ∧ pLine K H v x ∧ pTup K pStr H u ns ∧ x.1 ∈ ns ∧ 0 ≤ x.2 ∧ Q (.bl true) H
theorem ok_is_line (T : Tx K mg) : C8.Cal P w K mg base 3 "is_line" (sp_is_line K) [] :=
  mk_is_line T (fn_is_line T (fun vs H Q E h => by obtain ⟨_, _, _, _, rfl, _⟩ := h; rfl) fun cdv A outer s H vs Q E hr h => ⟨_, (der_is_line T (ok_is_between T) hr).2, by
    obtain ⟨v, u, ⟨nm, i⟩, ns, rfl, ⟨p, _, _, rfl, hp, rfl, rfl⟩, pn, hm, hi, k⟩ := h
    obtain ⟨q, rfl, hq⟩ := pStrs pn
    refine ⟨_, rfl, _, _, _, _, true, rfl, .ty _, ty_tup hp, rfl, true, rfl, iteF ?_⟩
    refine ⟨_, rfl, p, _, rfl, .inr hp, rfl, _, rfl, iteF ?_⟩
    refine ⟨_, rfl, _, _, _, _, rfl, rfl, hp, rfl, _, _, .inr ⟨rfl, hi⟩, true, rfl, iteF ?_⟩
    refine ⟨_, rfl, _, _, _, _, rfl, rfl, hp, rfl, _, _, _, _, true, rfl, .ty _, ty_str, rfl, true, rfl, iteT ?_⟩
    refine ⟨_, rfl, _, _, _, _, rfl, rfl, hp, rfl, _, rfl, q, _, rfl, .inr hq, rfl, all_flat _, ?_⟩
    show Q (.bl (inV (.str nm) (ns.map V.str))) H
    rw [inV_mem hm]
    exact k⟩)
def sp_check_bill (K : PySem.W.Frag) : Sp := fun vs H Q _ => ∃ v u bl ns, vs = [v, u] ∧ pTup K (pLine K) H v bl ∧ pTup K pStr H u ns ∧ (∀ x ∈ bl, x.1 ∈ ns ∧ 0 ≤ x.2) ∧ RetV .non H Q
theorem ok_check_bill (T : Tx K mg) : C8.Cal P w K mg base 4 "check_bill" (sp_check_bill K) [] :=
  mk_check_bill T (fn_check_bill T (fun vs H Q E h => by obtain ⟨_, _, _, _, rfl, _⟩ := h; rfl) fun cdv A outer s H vs Q E hr h => ⟨_, (der_check_bill T (ok_is_line T) hr).2, by
    obtain ⟨v, u, bl, ns, rfl, ⟨p, vs, rfl, hp, pr⟩, pn, hb, k⟩ := h
    refine ⟨_, rfl, _, _, _, _, true, rfl, .ty _, ty_tup hp, rfl, true, rfl, iteF ?_⟩
    refine ⟨_, rfl, false, p, _, rfl, hp, for_wk (P := pZip K pInt (pLine K)) (wk_En (K := K) (k := false) (a := p) (us := vs) (xs := bl) (paired_len pr)) (fun i σ H' => Ex H H' ∧ ∃ z1 z2, σ = [some (.ref p), some u, z1, z2]) ⟨Ex.rf _, _, _, rfl⟩
      (fun i σ H' _ q => ⟨lt_t (Ex.lt q.1) hp, paired_upT (Ex.lt q.1) pr⟩) (fun i x u σ H1 H2 hx q e2 px => ?_) (fun σ H' q => k _ q.1)⟩
    obtain ⟨e1, z1, z2, rfl⟩ := q
    obtain ⟨hx1, hx2, hx3⟩ := en_at hx
    obtain ⟨r, a, b, rfl, hr', pa, pb⟩ := px
    cases pa
    obtain ⟨h1, h2⟩ := hb _ (List.mem_of_getElem? hx2)
    refine ⟨r, _, rfl, hr', rfl, _, _, rfl, _, _, rfl, rfl, ?_⟩
    exact ⟨_, rfl, _, rfl, _, _, _, _, rfl, pb, MonT.up (Ex.lt (e1.tr e2)) pn, h1, h2, true, rfl, iteF ⟨e1.tr e2, _, _, rfl⟩⟩⟩)
/-- the sums of a bill by names -/
def bsums (b : Bk) (bill : List (Str × Int)) : List Int := b.sums (bill.map fun l => (kAt b l.1, l.2))
theorem bsums_snoc (b : Bk) (bill : List (Str × Int)) (x : Str × Int) : bsums b (bill ++ [x]) = (bsums b bill).set (kAt b x.1).grp ((bsums b bill).getD (kAt b x.1).grp 0 + led (kAt b x.1).steps x.2) := by
  unfold bsums Bk.sums
  rw [List.map_append, List.map_cons, List.map_nil, foldl_snoc]
theorem bsums_len (b : Bk) : ∀ (n : Nat) (bill : List (Str × Int)), bill.length = n → (bsums b bill).length = b.groups.length := by
  intro n
  induction n with
  | zero =>
    intro bill h
    have : bill = [] := List.length_eq_zero_iff.mp h
    subst this
    show (List.replicate b.groups.length (0 : Int)).length = _
    simp
  | succ n ih =>
    intro ss h
    have hne : ss ≠ [] := fun e => by rw [e] at h; cases h
    obtain ⟨ts, s, rfl⟩ : ∃ ts s, ss = ts ++ [s] := ⟨ss.dropLast, ss.getLast hne, (List.dropLast_concat_getLast hne).symm⟩
    rw [bsums_snoc, List.length_set]
    exact ih ts (by simpa using h)
theorem rep_flat (n : Nat) : (List.replicate n [V.int 0]).flatten = (List.replicate n (0 : Int)).map V.int := by
  induction n with
  | zero => rfl
  | succ n ih =>
    rw [List.replicate_succ, List.flatten_cons, ih, List.replicate_succ, List.map_cons]
    rfl
def sp_Book_sums (K : PySem.W.Frag) : Sp := fun vs H Q _ => ∃ v u b bl, vs = [v, u] ∧ pBk K H v b ∧ BkOk b ∧ pTup K (pLine K) H u bl ∧ (∀ x ∈ bl, x.1 ∈ b.names ∧ 0 ≤ x.2) ∧ Ret pKey (bsums b bl) H Q
theorem ixN_nat {n i : Nat} (h : i < n) : ixN n (i : Int) = some i := by
  unfold ixN
  rw [if_pos (by omega), if_pos (by omega)]
  simp
theorem ok_Book_sums (T : Tx K mg) : C8.Met P w K mg base 5 (He.ga K "Book") "sums" (sp_Book_sums K) [] :=
  mk_Book_sums T (fn_Book_sums T (fun vs H Q E h => by obtain ⟨_, _, _, _, rfl, _⟩ := h; rfl) fun cdv A outer s H vs Q E hr h => ⟨_, (der_Book_sums T (ok_check_bill T) (ok_Book_names T) (ok_kind_at T) (ok_led T) hr).2, by
    obtain ⟨v, u, b, bl, rfl, pb, ok, pbl, hb, k⟩ := h
    have pb' := pb
    obtain ⟨a, dx, wt, ks, gs, ls, rfl, ha, _⟩ := pb'
    refine ⟨_, rfl, _, rfl, a, dx, _, rfl, ha, _, _, rfl, pb, ok.k4, fun n1 H1 e1 pn => ?_⟩
    refine ⟨_, _, _, _, rfl, MonT.up (Ex.lt e1) pbl, pn, hb, fun H2 e2 => ?_⟩
    have e12 := e1.tr e2
    obtain ⟨_, _, _, _, _, _, h0, ha2, _, ⟨g, us, rfl, hg, pgr⟩, _⟩ := MonT.up (Ex.lt e12) pb
    cases h0
    refine ⟨by rw [sizeLine_eq]; simp, fun l0 n0 => ?_⟩
    generalize hG : upd H2 l0 _ = H3
    obtain ⟨e3, h3⟩ := gen_new n0 hG
    have hgl := paired_len pgr
    have hg3 := ok.g3
    refine ⟨_, rfl, a, _, _, _, _, rfl, e3 _ _ ha2, k_Book T, a_Book_heaps T, rfl, g, _, rfl, .inr (lt_t (Ex.lt e3) hg), l0, _, _, rfl, rfl, h3, by omega, by omega, z_sz ?_, fun l nl => ?_⟩
    · simp only [List.length_cons, List.length_nil, Int.toNat_natCast]; omega
    generalize hG4 : upd H3 l _ = H4
    obtain ⟨e4, h4⟩ := gen_new nl hG4
    have e14 := (e12.tr e3).tr e4
    have nH : H l = none := ex_none (e12.tr e3) nl
    obtain ⟨q, ws, rfl, hq, qr⟩ := pbl
    rw [Int.toNat_natCast, rep_flat, hgl] at h4
    refine ⟨_, rfl, q, rfl, ⟨_, lt_t (Ex.lt e14) hq⟩, for_wk (P := pLine K) (wk_tup (K := K) (p := q) (vs := ws) (xs := bl) (paired_len qr)) (fun i σ H' => Ex H H' ∧ H' l = some (.lst ((bsums b (bl.take i)).map V.int)) ∧ ∃ z1 z2 z3, σ = [some (.ref a), some (.ref q), some (.ref l), z1, z2, z3]) ⟨e14, h4, _, _, _, rfl⟩
      (fun i σ H' _ q => ⟨lt_t (Ex.lt q.1) hq, paired_upT (Ex.lt q.1) qr⟩) (fun i x u σ H5 H6 hx q e6 px => ?_) (fun σ H' q => ?_)⟩
    · obtain ⟨e5, h5, z1, z2, z3, rfl⟩ := q
      obtain ⟨r, _, _, rfl, hr', rfl, rfl⟩ := px
      obtain ⟨hn, hi⟩ := hb _ (List.mem_of_getElem? hx)
      obtain ⟨km, kg, gm⟩ := grp_at ok hn
      obtain ⟨nmo, gd, ln⟩ := ok.ko _ km
      have e56 := e5.tr e6
      refine ⟨r, _, rfl, hr', rfl, _, _, rfl, _, _, rfl, rfl, ?_⟩
      refine ⟨_, rfl, a, dx, _, rfl, e56 _ _ ha, rfl, _, rfl, _, _, _, rfl, MonT.up (Ex.lt e56) pb, hn, fun u H7 e7 pu => ?_⟩
      obtain ⟨p, t, rfl, hp, pr⟩ := pu
      have h7 := e7 _ _ (e6 _ _ h5)
      have hlen := bsums_len b _ (bl.take i) rfl
      have hgr := ok.kg _ km
      have hat : ((bsums b (bl.take i)).map V.int)[(kAt b x.1).grp]? = some (.int ((bsums b (bl.take i)).getD (kAt b x.1).grp 0)) := by
        rw [List.getElem?_map, List.getD_eq_getElem?_getD, List.getElem?_eq_getElem (by omega)]
        rfl
      refine ⟨_, rfl, _, rfl, _, _, _, _, rfl, rfl, hp, rfl, _, _, _, _, rfl, rfl, SqL.of h7, atI_nat hat, ?_⟩
      refine ⟨_, rfl, _, _, _, _, rfl, rfl, hp, rfl, _, rfl, _, _, _, rfl, pr, gd, fun v H8 e8 pv => ?_⟩
      cases pv
      refine ⟨_, _, rfl, rfl, l, _, _, _, rfl, rfl, e8 _ _ h7, ixN_nat (by rw [List.length_map]; omega), Evl.Ex.mut ((e56.tr e7).tr e8) nH, ?_, _, _, _, rfl⟩
      rw [upd_same, take_snoc hx, bsums_snoc, List.map_set]
    · obtain ⟨e5, h5, z1, z2, z3, rfl⟩ := q
      rw [List.take_length] at h5
      refine ⟨_, rfl, l, _, rfl, .inl ⟨SqL.of h5, fun m n => ?_⟩⟩
      generalize hG7 : upd H' m _ = H7
      obtain ⟨e7, h7⟩ := gen_new n hG7
      exact k _ _ (e5.tr e7) ⟨m, rfl, h7⟩⟩)
end
end Lf

set_option Elab.async false
set_option linter.all false
/-! Rows of numbers that go on with a period and a rise: what they tell, made shorter without a change of what they tell. -/
namespace Lm
def tell (e a : List Int) (r : Int) (k : Nat) : Int := if k < e.length then e.getD k 0 else a.getD ((k - e.length) % a.length) 0 + ((k - e.length) / a.length : Nat) * r
structure Rw where
  head : List Int
  cycle : List Int
  step : Int
  deriving DecidableEq
def Rw.tell (x : Rw) (k : Nat) : Int := Lm.tell x.head x.cycle x.step k
def longer (a : List Int) (r : Int) : List Int := a ++ a.map fun n => n + r
def gson (a : List Int) (r : Int) (size : Int) : Bool := decide (r * size % (a.length : Int) = 0) && (List.range a.length).all fun i => decide ((longer a r).getD (i + size.toNat) 0 = (longer a r).getD i 0 + r * size / (a.length : Int))
theorem getD_app_l {l m : List Int} {i : Nat} (h : i < l.length) : (l ++ m).getD i 0 = l.getD i 0 := by
  simp [List.getD_eq_getElem?_getD, List.getElem?_append_left h]
theorem getD_app_r {l m : List Int} {i : Nat} (h : l.length ≤ i) : (l ++ m).getD i 0 = m.getD (i - l.length) 0 := by
  simp [List.getD_eq_getElem?_getD, List.getElem?_append_right h]
/-- the row itself, with nothing ahead -/
def cyc (a : List Int) (r : Int) (i : Nat) : Int := a.getD (i % a.length) 0 + (i / a.length : Nat) * r
theorem tell_cyc (e a : List Int) (r : Int) (k : Nat) : tell e a r k = if k < e.length then e.getD k 0 else cyc a r (k - e.length) := rfl
theorem cyc_add {a : List Int} (h : 0 < a.length) (r : Int) (i : Nat) : cyc a r (i + a.length) = cyc a r i + r := by
  unfold cyc
  rw [Nat.add_mod_right, Nat.add_div_right _ h]
  have : ((i / a.length + 1 : Nat) : Int) = (i / a.length : Nat) + 1 := by omega
  rw [this, Int.add_mul]
  omega
theorem longer_cyc {a : List Int} {r : Int} {i : Nat} (h : i < 2 * a.length) : (longer a r).getD i 0 = cyc a r i := by
  have h0 : 0 < a.length := by omega
  unfold longer
  by_cases hi : i < a.length
  · rw [getD_app_l hi]
    unfold cyc
    rw [Nat.mod_eq_of_lt hi, Nat.div_eq_of_lt hi]
    simp
  · rw [getD_app_r (by omega)]
    have e : cyc a r i = cyc a r (i - a.length) + r := by
      rw [← cyc_add h0]
      congr 1
      omega
    rw [e]
    unfold cyc
    rw [Nat.mod_eq_of_lt (show i - a.length < a.length by omega), Nat.div_eq_of_lt (show i - a.length < a.length by omega)]
    have hj : i - a.length < a.length := by omega
    simp [List.getD_eq_getElem?_getD, List.getElem?_map, List.getElem?_eq_getElem hj]
theorem cyc_step {a : List Int} {r s : Int} {z : Nat} (h0 : 0 < a.length) (hz : z ≤ a.length) (h : ∀ i, i < a.length → (longer a r).getD (i + z) 0 = (longer a r).getD i 0 + s) : ∀ (n i : Nat), i < n * a.length → cyc a r (i + z) = cyc a r i + s := by
  intro n
  induction n with
  | zero => intro i hi; omega
  | succ n ih =>
    intro i hi
    by_cases hs : i < a.length
    · have := h i hs
      rw [longer_cyc (by omega), longer_cyc (by omega)] at this
      exact this
    · have hi2 : i - a.length < n * a.length := by
        rw [Nat.add_mul, Nat.one_mul] at hi
        omega
      have := ih (i - a.length) hi2
      have e1 := cyc_add h0 r (i - a.length)
      have e2 := cyc_add h0 r (i - a.length + z)
      rw [show i - a.length + a.length = i by omega] at e1
      rw [show i - a.length + z + a.length = i + z by omega] at e2
      omega
theorem cyc_all {a : List Int} {r s : Int} {z : Nat} (h0 : 0 < a.length) (hz : z ≤ a.length) (h : ∀ i, i < a.length → (longer a r).getD (i + z) 0 = (longer a r).getD i 0 + s) (i : Nat) : cyc a r (i + z) = cyc a r i + s :=
  cyc_step h0 hz h (i + 1) i (by
    rw [Nat.add_mul, Nat.one_mul]
    have : i * 1 ≤ i * a.length := Nat.mul_le_mul_left i h0
    omega)
theorem cyc_mul {a : List Int} {r s : Int} {z : Nat} (h : ∀ i, cyc a r (i + z) = cyc a r i + s) (j : Nat) : ∀ q : Nat, cyc a r (j + q * z) = cyc a r j + q * s := by
  intro q
  induction q with
  | zero => simp
  | succ q ih =>
    rw [show j + (q + 1) * z = j + q * z + z by rw [Nat.add_mul]; omega, h, ih]
    have : ((q + 1 : Nat) : Int) = (q : Nat) + 1 := by omega
    rw [this, Int.add_mul]
    omega
theorem cyc_short {a : List Int} {r s : Int} {z : Nat} (hz0 : 0 < z) (hz : z ≤ a.length) (h : ∀ i, i < a.length → (longer a r).getD (i + z) 0 = (longer a r).getD i 0 + s) (i : Nat) : cyc (a.take z) s i = cyc a r i := by
  have e := cyc_mul (cyc_all (by omega) hz h) (i % z) (i / z)
  rw [show i % z + i / z * z = i by rw [Nat.mul_comm]; exact Nat.mod_add_div i z] at e
  rw [e]
  have hl : (a.take z).length = z := by rw [List.length_take]; omega
  unfold cyc
  rw [hl]
  have hm : i % z < z := Nat.mod_lt _ hz0
  have hm2 : i % z < a.length := by omega
  rw [Nat.mod_eq_of_lt hm2, Nat.div_eq_of_lt hm2]
  simp [List.getD_eq_getElem?_getD, List.getElem?_take, hm]
theorem gson_tell {e a : List Int} {r : Int} {z : Int} (h1 : 1 ≤ z) (h2 : z ≤ a.length) (h : gson a r z = true) (k : Nat) : tell e (a.take z.toNat) (r * z / a.length) k = tell e a r k := by
  unfold gson at h
  rw [Bool.and_eq_true, List.all_eq_true] at h
  rw [tell_cyc, tell_cyc]
  split
  · rfl
  · exact cyc_short (by omega) (by omega) (fun i hi => by simpa using h.2 i (by simpa using hi)) _
theorem gson_full {a : List Int} (h0 : a ≠ []) (r : Int) : gson a r a.length = true := by
  have hl : 0 < a.length := List.length_pos_iff.mpr h0
  unfold gson
  rw [Bool.and_eq_true, List.all_eq_true]
  refine ⟨by rw [decide_eq_true_eq]; exact Int.mul_emod_left r _, fun i hi => ?_⟩
  have hi : i < a.length := by simpa using hi
  rw [decide_eq_true_eq, Int.toNat_natCast, longer_cyc (by omega), longer_cyc (by omega), cyc_add hl, Int.mul_ediv_cancel _ (by omega)]
theorem tell_rot {e c : List Int} {y z s : Int} (h : y = z - s) (k : Nat) : tell e (y :: c) s k = tell (e ++ [y]) (c ++ [z]) s k := by
  unfold tell
  have hl1 : (y :: c).length = c.length + 1 := rfl
  have hl2 : (c ++ [z]).length = c.length + 1 := by simp
  have hl3 : (e ++ [y]).length = e.length + 1 := by simp
  rw [hl1, hl2, hl3]
  by_cases h1 : k < e.length
  · rw [if_pos h1, if_pos (by omega), getD_app_l h1]
  · rw [if_neg h1]
    by_cases h2 : k < e.length + 1
    · rw [if_pos h2, getD_app_r (by omega)]
      have : k - e.length = 0 := by omega
      rw [this]
      simp
    · rw [if_neg h2]
      obtain ⟨j, hj⟩ : ∃ j, k = e.length + 1 + j := ⟨k - (e.length + 1), by omega⟩
      rw [show k - e.length = j + 1 by omega, show k - (e.length + 1) = j by omega]
      have hm : j % (c.length + 1) < c.length + 1 := Nat.mod_lt _ (by omega)
      have hd := Nat.div_add_mod j (c.length + 1)
      by_cases h3 : j % (c.length + 1) = c.length
      · have e1 : j + 1 = (c.length + 1) * (j / (c.length + 1) + 1) := by rw [Nat.mul_add]; omega
        have e2 : (j + 1) % (c.length + 1) = 0 := by rw [e1]; exact Nat.mul_mod_right _ _
        have e3 : (j + 1) / (c.length + 1) = j / (c.length + 1) + 1 := by
          conv => lhs; rw [e1]
          exact Nat.mul_div_cancel_left _ (by omega)
        rw [e2, e3, h3, getD_app_r (Nat.le_refl _)]
        have : ((j / (c.length + 1) + 1 : Nat) : Int) = (j / (c.length + 1) : Nat) + 1 := by omega
        rw [this, Int.add_mul]
        simp
        omega
      · have hlt : j % (c.length + 1) < c.length := by omega
        have e1 : j + 1 = (j % (c.length + 1) + 1) + (c.length + 1) * (j / (c.length + 1)) := by omega
        have e2 : (j + 1) % (c.length + 1) = j % (c.length + 1) + 1 := by
          conv => lhs; rw [e1]
          rw [Nat.add_mul_mod_self_left, Nat.mod_eq_of_lt (by omega)]
        have e3 : (j + 1) / (c.length + 1) = j / (c.length + 1) := by
          conv => lhs; rw [e1]
          rw [Nat.add_mul_div_left _ _ (by omega), Nat.div_eq_of_lt (by omega)]
          omega
        rw [e2, e3, getD_app_l hlt]
        simp [List.getD_eq_getElem?_getD]
/-- the same with the other sign -/
theorem tell_neg (e a : List Int) (r : Int) (k : Nat) : tell (e.map fun n => -n) (a.map fun n => -n) (-r) k = -tell e a r k := by
  have g : ∀ (l : List Int) (i : Nat), (l.map fun n => -n).getD i 0 = -(l.getD i 0) := by
    intro l i
    simp only [List.getD_eq_getElem?_getD, List.getElem?_map]
    cases l[i]? <;> simp
  unfold tell
  rw [List.length_map, List.length_map]
  split
  · exact g _ _
  · rw [g, Int.mul_neg]
    omega
theorem step_bd {r z m : Int} (h1 : 1 ≤ z) (h2 : z ≤ m) {B : Int} (hb1 : -B ≤ r) (hb2 : r ≤ B) : -B ≤ r * z / m ∧ r * z / m ≤ B := by
  have hm : 0 < m := by omega
  rcases Int.le_total 0 r with h | h
  · have e1 : 0 ≤ r * z := Int.mul_nonneg h (by omega)
    have e2 : r * z ≤ r * m := Int.mul_le_mul_of_nonneg_left h2 h
    have e3 : r * z / m ≤ r := by
      have := Int.ediv_le_ediv hm e2
      rwa [Int.mul_ediv_cancel _ (by omega)] at this
    have e4 := Int.ediv_nonneg e1 (Int.le_of_lt hm)
    omega
  · have e2 : r * m ≤ r * z := Int.mul_le_mul_of_nonpos_left h h2
    have e1 : r * z ≤ 0 := Int.mul_nonpos_of_nonpos_of_nonneg h (by omega)
    have e3 : r ≤ r * z / m := by
      have := Int.ediv_le_ediv hm e2
      rwa [Int.mul_ediv_cancel _ (by omega)] at this
    have e4 : r * z / m ≤ 0 := by
      have := Int.ediv_le_ediv hm e1
      rwa [Int.zero_ediv] at this
    omega
end Lm

set_option Elab.async false
set_option linter.all false
set_option maxRecDepth 100000
set_option maxHeartbeats 4000000
namespace Lf
open PySem PySem.Spec PyProof.Rows L2 Lc Lr Lm
section
variable {P : Program} {w : World} {K : PySem.W.Frag} {mg : Str → Option Value} {base : Heap}
theorem zip_map {α β γ : Type} (f : α → β → γ) : ∀ (l : List α) (m : List β), (l.zip m).map (fun x => f x.1 x.2) = List.zipWith f l m
  | [], _ => by simp
  | _ :: _, [] => by simp
  | x :: l, y :: m => by simp [zip_map f l m]
def sp_ask_of_sums (K : PySem.W.Frag) : Sp := fun vs H Q _ => ∃ v u b s, vs = [v, u] ∧ pBk K H v b ∧ BkOk b ∧ pTup K pInt H u s ∧ Ret pInt (b.askS s) H Q
theorem ok_ask_of_sums (T : Tx K mg) : C8.Met P w K mg base 3 (He.ga K "Book") "ask_of_sums" (sp_ask_of_sums K) [] :=
  mk_Book_ask_of_sums T (fn_Book_ask_of_sums T (fun vs H Q E h => by obtain ⟨_, _, _, _, rfl, _⟩ := h; rfl) fun cdv A outer s H vs Q E hr h => ⟨_, (der_Book_ask_of_sums T (ok_led T) hr).2, by
    obtain ⟨v, u, b, ss, rfl, pb, ok, ps, k⟩ := h
    have pb' := pb
    obtain ⟨a, dx, wt, ks, gs, ls, rfl, ha, pk, ⟨g, us, rfl, hg, pgr⟩, pl⟩ := pb'
    obtain ⟨p, rfl, hp⟩ := pInts ps
    refine ⟨_, rfl, a, _, _, _, _, rfl, ha, k_Book T, a_Book_last T, rfl, _, rfl, a, _, _, _, _, rfl, ha, k_Book T, a_Book_heaps T, rfl, _, rfl, false, false, g, p, us, ss.map V.int, rfl, hg, hp,
      ⟨lc_map (P := pZip K (pRow K) pInt) (R := pInt) (wk_Z2 (K := K) (P := pRow K) (R := pInt) (k1 := false) (k2 := false) (a := g) (b := p) (us := us) (vs := ss.map V.int) (xs := b.groups) (ys := ss) (paired_len pgr) (by simp)) (fun x => led x.1 x.2) (by rw [List.length_zip]; have := ok.g3; omega) (fun H' e => ⟨⟨lt_t (Ex.lt e) hg, lt_t (Ex.lt e) hp⟩, paired_upT (Ex.lt e) pgr, int_paired _⟩) (fun i x v H1 hx e pv N Z kz => ?_) (fun L H1 ws hL e hl pw => ?_)⟩⟩
    · obtain ⟨q, _, _, rfl, hq, pr, rfl⟩ := pv
      obtain ⟨gg, gl⟩ := ok.go x.1 (List.of_mem_zip (List.mem_of_getElem? hx)).1
      exact ⟨q, _, rfl, hq, rfl, _, _, rfl, _, _, rfl, rfl, rfl, _, rfl, _, rfl, _, _, _, rfl, pr, gg, kz⟩
    · rw [paired_int pw] at hl
      refine ⟨L, _, rfl, SqL.of hl, _, _, b.whole, rfl, MonT.up (Ex.lt e) pl, ok.wo.1, fun v H2 e2 pv => k _ _ (e.tr e2) ?_⟩
      unfold Bk.askS
      rw [← zip_map]
      exact pv⟩)
def askN (b : Bk) (bl : List (Str × Int)) : Int := b.askS (bsums b bl)
def sp_Book_ask (K : PySem.W.Frag) : Sp := fun vs H Q _ => ∃ v u b bl, vs = [v, u] ∧ pBk K H v b ∧ BkOk b ∧ pTup K (pLine K) H u bl ∧ (∀ x ∈ bl, x.1 ∈ b.names ∧ 0 ≤ x.2) ∧ Ret pInt (askN b bl) H Q
theorem ok_Book_ask (T : Tx K mg) : C8.Met P w K mg base 6 (He.ga K "Book") "ask" (sp_Book_ask K) [] :=
  mk_Book_ask T (fn_Book_ask T (fun vs H Q E h => by obtain ⟨_, _, _, _, rfl, _⟩ := h; rfl) fun cdv A outer s H vs Q E hr h => ⟨_, (der_Book_ask T (ok_ask_of_sums T) (ok_Book_sums T) hr).2, by
    obtain ⟨v, u, b, bl, rfl, pb, ok, pbl, hb, k⟩ := h
    have pb' := pb
    obtain ⟨a, dx, wt, ks, gs, ls, rfl, ha, _⟩ := pb'
    refine ⟨_, rfl, a, dx, _, rfl, ha, rfl, _, rfl, a, dx, _, rfl, ha, rfl, _, rfl, _, _, _, _, rfl, pb, ok, pbl, hb, fun u1 H1 e1 pu => ?_⟩
    exact ⟨_, _, _, _, rfl, MonT.up (Ex.lt e1) pb, ok, pu.t, fun v H2 e2 pv => k _ _ (e1.tr e2) pv⟩⟩)
def sp_check_book (K : PySem.W.Frag) : Sp := fun vs H Q _ => ∃ v b, vs = [v] ∧ pBk K H v b ∧ Q .non H
theorem ok_check_book (T : Tx K mg) : C8.Cal P w K mg base 1 "check_book" (sp_check_book K) [] :=
  mk_check_book T (fn_check_book T (fun vs H Q E h => by obtain ⟨_, _, rfl, _⟩ := h; rfl) fun cdv A outer s H vs Q E hr h => ⟨_, (der_check_book T hr).2, by
    obtain ⟨v, b, rfl, ⟨a, dx, wt, ks, gs, ls, rfl, ha, _⟩, k⟩ := h
    exact ⟨_, rfl, a, dx, _, rfl, ha, true, rfl, iteF k⟩⟩)
def sp_check_two (K : PySem.W.Frag) : Sp := fun vs H Q _ => ∃ v b u c, vs = [v, u] ∧ pBk K H v b ∧ pBk K H u c ∧ Q .non H
theorem ok_check_two (T : Tx K mg) : C8.Cal P w K mg base 2 "check_two" (sp_check_two K) [] :=
  mk_check_two T (fn_check_two T (fun vs H Q E h => by obtain ⟨_, _, _, _, rfl, _⟩ := h; rfl) fun cdv A outer s H vs Q E hr h => ⟨_, (der_check_two T (ok_check_book T) hr).2, by
    obtain ⟨v, b, u, c, rfl, pb, pc, k⟩ := h
    exact ⟨_, rfl, _, _, rfl, pb, _, rfl, _, _, rfl, pc, k⟩⟩)
theorem eqv_strs (l : List Str) : PyData.eqv (.tuple (l.map PyData.str)) (.tuple (l.map PyData.str)) = true := by
  simp only [PyData.eqv]
  induction l with
  | nil => simp [PyData.eqvAll]
  | cons x l ih => simp [PyData.eqvAll, PyData.eqv, ih]
def sp_check_fit (K : PySem.W.Frag) : Sp := fun vs H Q _ => ∃ v b u c, vs = [v, u] ∧ pBk K H v b ∧ pBk K H u c ∧ BkOk b ∧ BkOk c ∧ b.names = c.names ∧ RetV .non H Q
theorem names_ok {b : Bk} (ok : BkOk b) : ∀ x ∈ b.names, NameOk x := by
  intro x hx
  obtain ⟨k, hk, rfl⟩ := List.mem_map.mp hx
  exact (ok.ko k hk).nm
theorem names_shaped {b : Bk} (ok : BkOk b) : SeqAt.shaped (.tuple (b.names.map PyData.str)) = true :=
  shaped_tup (n := 0) (f := PyData.str) (fun x hx => by simp only [PyData.canLay0]; exact name_ok (names_ok ok x hx)) (fun x _ => by simp [PyData.depth]) (by decide)
theorem dp_names {H : Hp} {v : V} {l : List Str} (h : pTup K pStr H v l) : Dp K H v (.tuple (l.map PyData.str)) := by
  obtain ⟨p, vs, rfl, hp, pr⟩ := h
  exact .tup hp (dpAll_of (f := PyData.str) (fun v x h => by cases (show v = V.str x from h); exact .str _) pr)
theorem ok_check_fit (T : Tx K mg) : C8.Cal P w K mg base 3 "check_fit" (sp_check_fit K) [] :=
  mk_check_fit T (fn_check_fit T (fun vs H Q E h => by obtain ⟨_, _, _, _, rfl, _⟩ := h; rfl) fun cdv A outer s H vs Q E hr h => ⟨_, (der_check_fit T (ok_Book_names T) hr).2, by
    obtain ⟨v, b, u, c, rfl, pb, pc, okb, okc, en, k⟩ := h
    have pb' := pb
    have pc' := pc
    obtain ⟨a, dx, _, _, _, _, rfl, ha, _⟩ := pb'
    obtain ⟨a2, dx2, _, _, _, _, rfl, ha2, _⟩ := pc'
    refine ⟨_, rfl, a, dx, _, rfl, ha, _, _, rfl, pb, okb.k4, fun n1 H1 e1 p1 => ?_⟩
    refine ⟨_, rfl, a2, dx2, _, rfl, e1 _ _ ha2, _, _, rfl, MonT.up (Ex.lt e1) pc, okc.k4, fun n2 H2 e2 p2 => ?_⟩
    refine ⟨_, _, dp_names (MonT.up (Ex.lt e2) p1), dp_names p2, names_shaped okb, names_shaped okc, _, rfl, ?_⟩
    rw [← en, eqv_strs]
    exact iteF (k _ (e1.tr e2))⟩)
def sp_difference (K : PySem.W.Frag) : Sp := fun vs H Q _ => ∃ v b u c t bl, vs = [v, u, t] ∧ pBk K H v b ∧ pBk K H u c ∧ BkOk b ∧ BkOk c ∧ b.names = c.names ∧ pTup K (pLine K) H t bl ∧ (∀ x ∈ bl, x.1 ∈ b.names ∧ 0 ≤ x.2) ∧ Ret pInt (askN b bl - askN c bl) H Q
theorem ok_difference (T : Tx K mg) : C8.Cal P w K mg base 7 "difference" (sp_difference K) [] :=
  mk_difference T (fn_difference T (fun vs H Q E h => by obtain ⟨_, _, _, _, _, _, rfl, _⟩ := h; rfl) fun cdv A outer s H vs Q E hr h => ⟨_, (der_difference T (ok_check_two T) (ok_check_bill T) (ok_Book_names T) (ok_check_fit T) (ok_Book_ask T) hr).2, by
    obtain ⟨v, b, u, c, t, bl, rfl, pb, pc, okb, okc, en, pt, hb, k⟩ := h
    have pb' := pb
    have pc' := pc
    obtain ⟨a, dx, _, _, _, _, rfl, ha, _⟩ := pb'
    obtain ⟨a2, dx2, _, _, _, _, rfl, ha2, _⟩ := pc'
    refine ⟨_, rfl, _, rfl, _, _, _, _, rfl, pb, pc, ?_⟩
    refine ⟨_, rfl, _, rfl, a, dx, _, rfl, ha, _, _, rfl, pb, okb.k4, fun n1 H1 e1 p1 => ⟨_, _, _, _, rfl, MonT.up (Ex.lt e1) pt, p1, hb, fun H2 e2 => ?_⟩⟩
    have e12 := e1.tr e2
    refine ⟨_, rfl, _, rfl, _, _, _, _, rfl, MonT.up (Ex.lt e12) pb, MonT.up (Ex.lt e12) pc, okb, okc, en, fun H3 e3 => ?_⟩
    have e13 := e12.tr e3
    refine ⟨_, rfl, a, dx, _, rfl, e13 _ _ ha, rfl, _, rfl, _, _, _, _, rfl, MonT.up (Ex.lt e13) pb, okb, MonT.up (Ex.lt e13) pt, hb, fun x H4 e4 px => ?_⟩
    cases px
    have e14 := e13.tr e4
    refine ⟨_, rfl, a2, dx2, _, rfl, e14 _ _ ha2, rfl, _, rfl, _, _, _, _, rfl, MonT.up (Ex.lt e14) pc, okc, MonT.up (Ex.lt e14) pt, fun x hx => ⟨en ▸ (hb x hx).1, (hb x hx).2⟩, fun y H5 e5 py => ?_⟩
    cases py
    exact ⟨_, _, rfl, rfl, k _ _ (e14.tr e5) rfl⟩⟩)
end
end Lf

set_option Elab.async false
set_option linter.all false
set_option maxRecDepth 100000
set_option maxHeartbeats 4000000
namespace Lf
open PySem PySem.Spec PyProof.Rows L2 Lc Lr Lm
structure RwOk (x : Rw) : Prop where
  c0 : x.cycle ≠ []
  c1 : x.cycle.length ≤ 1000
  h1 : x.head.length ≤ 1000
  s1 : -1000000000000000 ≤ x.step
  s2 : x.step ≤ 1000000000000000
def pRw (K : PySem.W.Frag) : Pr Rw := fun H v x => ∃ a dx h c, v = .ref a ∧ H a = some (.ins (He.ga K "Row") dx [("head", h), ("cycle", c), ("step", .int x.step)]) ∧ pTup K pInt H h x.head ∧ pTup K pInt H c x.cycle
instance (K : PySem.W.Frag) : MonT (pRw K) := ⟨fun e ⟨a, dx, h, c, h1, h2, h3, h4⟩ => ⟨a, dx, h, c, h1, e _ _ trivial h2, MonT.up e h3, MonT.up e h4⟩⟩
section
variable {P : Program} {w : World} {K : PySem.W.Frag} {mg : Str → Option Value} {base : Heap}
def sp_check_integers (K : PySem.W.Frag) : Sp := fun vs H Q _ => ∃ v n xs, vs = [v, .int n] ∧ pTup K pInt H v xs ∧ n ≤ xs.length ∧ xs.length ≤ 1000000 ∧ RetV .non H Q
theorem ok_check_integers (T : Tx K mg) : C8.Cal P w K mg base 2 "check_integers" (sp_check_integers K) [] :=
  mk_check_integers T (fn_check_integers T (fun vs H Q E h => by obtain ⟨_, _, _, rfl, _⟩ := h; rfl) fun cdv A outer s H vs Q E hr h => ⟨_, (der_check_integers T (ok_is_integer T) hr).2, by
    obtain ⟨v, n, xs, rfl, pv, hn, hz, k⟩ := h
    obtain ⟨p, rfl, hp⟩ := pInts pv
    refine ⟨_, rfl, _, _, _, _, true, rfl, .ty _, ty_tup hp, rfl, true, rfl, iteF ?_⟩
    refine ⟨_, rfl, p, _, rfl, .inr hp, _, rfl, _, _, rfl, rfl, _, rfl, ite2 (fun c => ?_) (fun _ => ?_)⟩
    · have c := dT c
      rw [List.length_map] at c
      omega
    refine ⟨_, rfl, p, rfl, ⟨_, hp⟩, ⟨lc_map (P := pInt) (R := pBl) (wk_tup (K := K) (p := p) (vs := xs.map V.int) (xs := xs) (by simp)) (fun _ => true) hz (fun H' e => ⟨lt_t (Ex.lt e) hp, int_paired _⟩) (fun i x v H1 hx e pv N Z kz => ?_) (fun L H1 ws hL e hl pw => ?_)⟩⟩
    · cases pv
      exact ⟨rfl, _, rfl, _, rfl, kz _ _ (Ex.rf _) rfl⟩
    · rw [paired_bl pw] at hl
      refine ⟨L, _, rfl, SqL.of hl, true, ?_, iteF (k _ e)⟩
      congr 1
      rw [List.all_map, List.all_eq_true]
      intro x hx
      rfl⟩)
def sp_goes_on (K : PySem.W.Frag) : Sp := fun vs H Q _ => ∃ v xs r z, vs = [v, .int r, .int z] ∧ pTup K pInt H v xs ∧ xs ≠ [] ∧ xs.length ≤ 1000 ∧ 1 ≤ z ∧ z ≤ xs.length ∧ Ret pBl (gson xs r z) H Q
theorem ok_goes_on (T : Tx K mg) : C8.Cal P w K mg base 1 "goes_on" (sp_goes_on K) [] :=
  mk_goes_on T (fn_goes_on T (fun vs H Q E h => by obtain ⟨_, _, _, _, rfl, _⟩ := h; rfl) fun cdv A outer s H vs Q E hr h => ⟨_, (der_goes_on T hr).2, by
    obtain ⟨v, xs, r, z, rfl, pv, hne, hl, hz1, hz2, k⟩ := h
    obtain ⟨p, rfl, hp⟩ := pInts pv
    have hl0 : 0 < xs.length := List.length_pos_iff.mpr hne
    have hm : (xs.map V.int).length = xs.length := List.length_map ..
    refine ⟨_, rfl, p, _, rfl, .inr hp, ?_⟩
    rw [hm]
    refine ⟨_, rfl, _, rfl, _, _, rfl, rfl, mulR (by omega) (by omega), _, rfl, _, _, rfl, rfl, (by omega : (0 : Int) < xs.length), rfl, _, rfl, ite2 (fun c => ?_) (fun c => ?_)⟩
    · refine k _ _ (Ex.rf _) ?_
      show V.bl false = V.bl (gson xs r z)
      have c : ¬ r * z % (xs.length : Int) = 0 := fun e => dN c (congrArg V.int e)
      unfold gson
      rw [decide_eq_false c]
      rfl
    have c : r * z % (xs.length : Int) = 0 := by have := dNN c; injection this
    refine ⟨_, rfl, _, rfl, _, _, rfl, rfl, mulR (by omega) (by omega), _, rfl, _, _, rfl, rfl, ⟨by omega, lt64 (by omega) (by omega)⟩, ?_⟩
    refine ⟨_, rfl, p, _, rfl, .inr hp, _, rfl, p, rfl, ⟨_, hp⟩, ⟨lc_map (P := pInt) (R := pInt) (wk_tup (K := K) (p := p) (vs := xs.map V.int) (xs := xs) (by simp)) (fun n => n + r) (by omega) (fun H' e => ⟨lt_t (Ex.lt e) hp, int_paired _⟩) (fun i x v H1 hx e pv N Z kz => ?_) (fun L H1 ws hL e hl => ?_)⟩⟩
    · cases pv
      exact ⟨rfl, _, rfl, _, rfl, _, _, rfl, rfl, kz _ _ (Ex.rf _) rfl⟩
    intro pw
    rw [paired_int pw] at hl
    refine ⟨L, _, rfl, .inl (SqL.of hl), ?_⟩
    have el : xs.map V.int ++ ((xs.map fun n => n + r).map V.int ++ []) = (longer xs r).map V.int := by unfold longer; simp
    have ll : (longer xs r).length = 2 * xs.length := by unfold longer; simp; omega
    refine ⟨by rw [el, List.length_map, ll]; exact z_sz (by omega), fun l nl => ?_⟩
    generalize hG : upd H1 l _ = H2
    obtain ⟨e2, h2⟩ := gen_new nl hG
    rw [el] at h2
    have e12 := e.tr e2
    have hn0 : ((xs.length : Int)).toNat = xs.length := by simp
    refine ⟨_, rfl, _, rfl, by omega, by omega, ?_⟩
    refine ⟨lc_map (P := pInt) (R := pBl) (wk_rng (lo := 0) (n := (xs.length : Int).toNat)) (fun i => decide ((longer xs r).getD (i.toNat + z.toNat) 0 = (longer xs r).getD i.toNat 0 + r * z / (xs.length : Int))) (by rw [rng_len]; omega) (fun _ _ => trivial) (fun i x v H3 hx e3 pv N Z kz => ?_) (fun L2 H3 ws hL2 e3 hl2 pw2 => ?_)⟩
    · cases pv
      obtain ⟨hx1, hx2⟩ := rng_of hx
      have hi : i < xs.length := by omega
      have at1 : atI ((longer xs r).map V.int) (x + z) = some (.int ((longer xs r).getD (x.toNat + z.toNat) 0)) := by
        have e : x + z = ((x.toNat + z.toNat : Nat) : Int) := by omega
        rw [e]
        refine atI_nat ?_
        rw [List.getElem?_map, List.getD_eq_getElem?_getD, List.getElem?_eq_getElem (by omega)]
        rfl
      have at2 : atI ((longer xs r).map V.int) x = some (.int ((longer xs r).getD x.toNat 0)) := by
        have e : x = ((x.toNat : Nat) : Int) := by omega
        conv => lhs; rw [e]
        refine atI_nat ?_
        rw [List.getElem?_map, List.getD_eq_getElem?_getD, List.getElem?_eq_getElem (by omega)]
        rfl
      refine ⟨rfl, _, rfl, _, rfl, _, rfl, _, _, rfl, rfl, _, _, _, _, rfl, rfl, SqL.of (e3 _ _ h2), at1, _, rfl, _, rfl, _, _, _, _, rfl, rfl, SqL.of (e3 _ _ h2), at2, _, rfl, _, _, rfl, rfl, rfl, ?_⟩
      refine kz _ _ (Ex.rf _) ?_
      show V.bl (decide (V.int _ = V.int _)) = V.bl _
      rw [dec_int]
      congr 1
    · rw [paired_bl pw2] at hl2
      refine ⟨L2, _, rfl, SqL.of hl2, k _ _ (e12.tr e3) ?_⟩
      show V.bl _ = V.bl _
      congr 1
      unfold gson
      rw [decide_eq_true c, Bool.true_and, hn0]
      unfold rng
      rw [List.map_map, List.all_map]
      rw [List.all_eq, List.all_eq]
      congr 1
      refine propext (forall_congr' fun i => forall_congr' fun hi => ?_)
      simp⟩)
end
end Lf

set_option Elab.async false
set_option linter.all false
set_option maxRecDepth 100000
set_option maxHeartbeats 4000000
namespace Lf
open PySem PySem.Spec PyProof.Rows L2 Lc Lr Lm
section
variable {P : Program} {w : World} {K : PySem.W.Frag} {mg : Str → Option Value} {base : Heap}
theorem cut_to {l : List V} {n : Nat} (h : n ≤ l.length) : cutV l none (some (n : Int)) = l.take n := by
  unfold cutV
  rw [HT.sIx_none, HT.sIx_nat, List.drop_zero, Nat.min_eq_left h]
  simp
theorem cut_last (l : List V) (z : V) : cutV (l ++ [z]) none (some (-1)) = l := by
  unfold cutV
  have : HT.sIx (l ++ [z]).length (l ++ [z]).length (some (-1)) = l.length := by
    show (if (-1 : Int) < 0 then ((-1 : Int) + ((l ++ [z]).length : Int)).toNat else min (-1 : Int).toNat (l ++ [z]).length) = _
    rw [if_pos (by decide)]
    simp only [List.length_append, List.length_cons, List.length_nil]
    omega
  rw [HT.sIx_none, List.drop_zero, this, Nat.sub_zero]
  exact List.take_left
theorem atI_last {α : Type} (l : List α) (z : α) : atI (l ++ [z]) (-1) = some z := by
  have e : ixN (l ++ [z]).length (-1) = some l.length := by
    unfold ixN
    rw [if_neg (by decide), if_pos (by simp; omega)]
    congr 1
    simp only [List.length_append, List.length_cons, List.length_nil]
    omega
  unfold atI
  rw [e]
  simp
/-- the first part of a tuple, cut off -/
theorem cut_tup {H : Hp} {p : Addr} {xs : List Int} {n : Nat} {Q : VK} (hp : SqT K H p (xs.map V.int)) (hn : n ≤ xs.length) (h : ∀ q H1, Ex H H1 → SqT K H1 q ((xs.take n).map V.int) → Q (.ref q) H1) : rSlA K (.ref p) none (some (n : Int)) H Q := by
  have hl : (xs.map V.int).length = xs.length := List.length_map ..
  refine ⟨p, _, rfl, hp, fun ⟨_, h2⟩ => ?_, fun _ q nq => ?_⟩
  · rw [HT.sIx_nat, hl, Nat.min_eq_left hn] at h2
    refine h p H (Ex.rf _) ?_
    rw [h2, List.take_length]
    exact hp
  · generalize hG : upd H q _ = H1
    obtain ⟨e1, h1⟩ := gen_new nq hG
    rw [cut_to (by rw [hl]; exact hn), ← List.map_take] at h1
    exact h q H1 e1 (SqT.of h1)
def sp_Row_init (K : PySem.W.Frag) : Sp := fun vs H Q _ => ∃ x dx ev av es as r, vs = [.ref x, ev, av, .int r] ∧ H x = some (.ins (He.ga K "Row") dx []) ∧ pTup K pInt H ev es ∧ pTup K pInt H av as ∧ as ≠ [] ∧ as.length ≤ 1000 ∧ es.length ≤ 1000 ∧ -1000000000000000 ≤ r ∧ r ≤ 1000000000000000 ∧
  ∀ H' rw h c, RwOk rw → (∀ k, rw.tell k = tell es as r k) → ((∀ y ∈ es, y = 0) → (∀ y ∈ as, y = 0) → r = 0 → rw = ⟨[], [0], 0⟩) → (∀ a o, a ≠ x → H a = some o → H' a = some o) → H' x = some (.ins (He.ga K "Row") dx [("head", h), ("cycle", c), ("step", .int rw.step)]) → pTup K pInt H' h rw.head → pTup K pInt H' c rw.cycle → Q .non H'
theorem atI_nat' {α : Type} {l : List α} {n : Nat} {i : Int} {c : α} (h : l[n]? = some c) (e : i = (n : Nat)) : atI l i = some c := by
  subst e
  exact atI_nat h
theorem sql_up {H H' : Hp} {a : Addr} {xs : List V} (e : Ex H H') (h : SqL K H a xs) : SqL K H' a xs := le_l (Ex.le e) h
theorem sqt_ne {H H' : Hp} {x C dx a : Addr} {fs : List (Str × V)} {xs : List V} (h : ∀ a o, a ≠ x → H a = some o → H' a = some o) (hx : H x = some (.ins C dx fs)) (s : SqT K H a xs) : SqT K H' a xs := by
  rcases s with (s | ⟨o, s⟩) | s
  · exact .inl (.inl (h _ _ (fun e => by rw [e, hx] at s; cases s) s))
  · exact .inl (.inr ⟨o, h _ _ (fun e => by rw [e, hx] at s; cases s) s⟩)
  · exact .inr s
theorem and_go {t u : TT} {σ : L2.St} {H : Hp} {F : Bool → Hp → Prop} (b c : Bool) (h1 : ∀ G : Bool → Hp → Prop, G b H → t σ H G) (h2 : b = true → ∀ G : Bool → Hp → Prop, G c H → u σ H G) (h : F (b && c) H) : tAnd t u σ H F := by
  refine h1 _ ?_
  cases b with
  | true => exact h2 rfl _ h
  | false => exact h
theorem snoc_of {α : Type} {l : List α} (h : l ≠ []) : ∃ t z, l = t ++ [z] := ⟨l.dropLast, l.getLast h, (List.dropLast_concat_getLast h).symm⟩
theorem ok_Row_init (T : Tx K mg) : C8.Mak P w K mg base 3 "Row" (He.ga K "Row") (sp_Row_init K) [] :=
  mk_Row_init T (fn_Row_init T (fun vs H Q E h => by obtain ⟨_, _, _, _, _, _, _, rfl, _⟩ := h; rfl) fun cdv A outer s H vs Q E hr h => ⟨_, (der_Row_init T (ok_check_integers T) (ok_is_integer T) (ok_goes_on T) hr).2, by
    obtain ⟨x, dx, ev, av, es, as, r, rfl, hx, pe, pa, ha0, ha1, he1, hr1, hr2, k⟩ := h
    have hal : 0 < as.length := List.length_pos_iff.mpr ha0
    refine ⟨_, rfl, _, _, _, rfl, pe, by omega, by omega, fun H1 e1 => ?_⟩
    refine ⟨_, rfl, _, _, _, rfl, MonT.up (Ex.lt e1) pa, by omega, by omega, fun H2 e2 => ?_⟩
    have e12 := e1.tr e2
    have pa2 := MonT.up (Ex.lt e12) pa
    obtain ⟨pav, rfl, hpa⟩ := pInts pa2
    obtain ⟨pev, rfl, hpe⟩ := pInts (MonT.up (Ex.lt e12) pe)
    refine ⟨_, rfl, r, rfl, true, rfl, iteF ?_⟩
    refine ⟨_, rfl, pav, _, rfl, .inr hpa, ?_⟩
    rw [show (as.map V.int).length = as.length from List.length_map ..]
    refine ⟨_, rfl, _, _, rfl, rfl, 1, _, rfl, ⟨by decide, by decide, by omega, by omega⟩, ⟨lc_wk (P := pInt) (R := pInt) (wk_rng (lo := 1) (n := ((as.length : Int) + 1 - 1).toNat)) (fun z => decide ((as.length : Int) % z = 0) && gson as r z) (fun z => z) (by rw [rng_len]; omega) (fun _ _ => trivial) (fun i z v H3 hz e3 pv N Z kn kz => ?_) (fun L H3 ws hL e3 hl pw => ?_)⟩⟩
    · cases pv
      obtain ⟨hz1, hz2⟩ := rng_of hz
      have b1 : 1 ≤ z := by omega
      have b2 : z ≤ as.length := by omega
      refine ⟨rfl, _, rfl, _, rfl, _, _, rfl, rfl, (by omega : 0 < z), rfl, _, rfl, ite2 (fun c => ?_) (fun c => ?_)⟩
      · have c : (as.length : Int) % z = 0 := by have := dT c; injection this
        refine ⟨_, rfl, _, rfl, _, rfl, _, _, _, _, rfl, MonT.up (Ex.lt e3) pa2, ha0, ha1, b1, b2, fun y H4 e4 py => ?_⟩
        cases py
        refine ⟨_, rfl, ite2 (fun d => ?_) (fun d => ?_)⟩
        · exact ⟨_, rfl, kz (by rw [decide_eq_true c, d]; rfl) _ _ e4 rfl⟩
        · exact kn (by rw [Bool.not_eq_true _ |>.mp d, Bool.and_false]) _ e4
      · have c : ¬ (as.length : Int) % z = 0 := fun h => dF c (congrArg V.int h)
        exact kn (by rw [decide_eq_false c, Bool.false_and]) _ (Ex.rf _)
    rw [paired_int pw, List.map_id'] at hl
    generalize hls : (rng 1 ((as.length : Int) + 1 - 1).toNat).filter (fun z => decide ((as.length : Int) % z = 0) && gson as r z) = ls at hl
    have hlen1 : ((as.length : Int) + 1 - 1).toNat = as.length := by omega
    have hfull : (as.length : Int) ∈ ls := by
      rw [← hls, List.mem_filter]
      refine ⟨?_, ?_⟩
      · rw [List.mem_iff_getElem?, hlen1]
        exact ⟨as.length - 1, by rw [rng_at (by omega)]; congr 1; omega⟩
      · rw [gson_full ha0, Bool.and_true]
        exact decide_eq_true (Int.emod_self ..)
    obtain ⟨z, rest, rfl⟩ : ∃ z rest, ls = z :: rest := by
      cases ls with
      | nil => simp at hfull
      | cons z rest => exact ⟨z, rest, rfl⟩
    have hz : z ∈ (rng 1 ((as.length : Int) + 1 - 1).toNat).filter (fun z => decide ((as.length : Int) % z = 0) && gson as r z) := by rw [hls]; simp
    obtain ⟨hzr, hzg⟩ := List.mem_filter.mp hz
    obtain ⟨iz, hiz⟩ := List.mem_iff_getElem?.mp hzr
    obtain ⟨hz1, hz2⟩ := rng_of hiz
    have b1 : 1 ≤ z := by omega
    have b2 : z ≤ as.length := by omega
    have hg : gson as r z = true := (Bool.and_eq_true_iff.mp hzg).2
    have hone : gson as r 1 = true → z = 1 := fun g1 => by
      rw [hlen1] at hls
      obtain ⟨m, hm⟩ : ∃ m, as.length = m + 1 := ⟨as.length - 1, by omega⟩
      have er : rng 1 as.length = 1 :: (List.range m).map (fun i => 1 + ((i + 1 : Nat) : Int)) := by
        unfold rng
        rw [hm, List.range_succ_eq_map, List.map_cons, List.map_map]
        rfl
      rw [er, List.filter_cons, if_pos (by rw [g1, Bool.and_true]; exact decide_eq_true (Int.emod_one _))] at hls
      injection hls with h _
      exact h.symm
    have e13 := e12.tr e3
    have hpa3 := lt_t (Ex.lt e3) hpa
    have hpe3 := lt_t (Ex.lt e3) hpe
    obtain ⟨zn, hzn⟩ : ∃ zn : Nat, z = (zn : Int) := ⟨z.toNat, by omega⟩
    subst hzn
    refine ⟨L, _, 0, .int zn, rfl, rfl, SqL.of hl, atI_0 rfl, ?_⟩
    refine ⟨_, rfl, _, rfl, _, rfl, cut_tup hpa3 (by omega) fun q H4 e4 hq => ?_⟩
    refine ⟨q, _, rfl, .inr hq, fun l nl => ?_⟩
    generalize hG : upd H4 l _ = H5
    obtain ⟨e5, h5⟩ := gen_new nl hG
    have e15 := (e13.tr e4).tr e5
    refine ⟨_, rfl, _, rfl, _, _, rfl, rfl, mulR (by omega) (by omega), _, rfl, _, _, rfl, rfl, ⟨by omega, lt64 (by omega) (by omega)⟩, ?_⟩
    have hpe5 := lt_t (Ex.lt (e4.tr e5)) hpe3
    refine ⟨_, rfl, pev, _, rfl, .inr hpe5, _, _, _, rfl, ?_⟩
    rw [show (es.map V.int).length = es.length from List.length_map ..]
    obtain ⟨s1, s2⟩ := step_bd b1 b2 (B := 1000000000000000) hr1 hr2
    generalize hst : r * (zn : Int) / (as.length : Int) = st at s1 s2
    have htell : ∀ k, tell es (as.take zn) st k = tell es as r k := fun k => by
      rw [← hst]
      have := gson_tell (e := es) b1 b2 hg k
      rwa [Int.toNat_natCast] at this
    have hzero : (∀ y ∈ es, y = 0) → (∀ y ∈ as, y = 0) → r = 0 → as.take zn = [0] ∧ st = 0 := fun z1 z2 z3 => by
      subst z3
      have gl : ∀ i, (longer as 0).getD i 0 = 0 := fun i => by
        rw [List.getD_eq_getElem?_getD]
        cases q : (longer as 0)[i]? with
        | none => rfl
        | some y =>
          have hm := List.mem_of_getElem? q
          unfold longer at hm
          rcases List.mem_append.mp hm with h | h
          · exact z2 y h
          · obtain ⟨u, hu, rfl⟩ := List.mem_map.mp h
            show u + 0 = 0
            rw [z2 u hu] <;> rfl
      have g1 : gson as 0 1 = true := by
        unfold gson
        rw [Bool.and_eq_true, List.all_eq_true]
        refine ⟨by simp, fun i _ => ?_⟩
        rw [gl, gl]
        simp
      have := hone g1
      have hz1 : zn = 1 := by omega
      subst hz1
      refine ⟨?_, by rw [← hst]; simp⟩
      cases as with
      | nil => exact absurd rfl ha0
      | cons y t => simp [z2 y (by simp)]
    have nl1 : H1 l = none := ex_none (e2.tr (e3.tr e4)) nl
    refine ⟨fun m σ H' => ∃ (last : Nat) (cy : List Int) (lc : Addr) (zz : Option V), Ex H5 H' ∧ σ = [some (.ref x), some (.ref pev), some (.ref pav), some (.int r), some (.int as.length), some (.int zn), some (.ref lc), some (.int st), some (.int last), zz] ∧ SqL K H' lc (cy.map V.int) ∧ cy ≠ [] ∧ cy.length = zn ∧ last ≤ es.length ∧ m = last ∧ (∀ k, tell (es.take last) cy st k = tell es as r k) ∧ ((∀ y ∈ es, y = 0) → (∀ y ∈ as, y = 0) → r = 0 → cy = [0]),
      ⟨_, es.length, as.take zn, l, none, Ex.rf _, by rw [← hst]; rfl, SqL.of h5, ?_, ?_, Nat.le_refl _, rfl, ?_, fun a b c => (hzero a b c).1⟩, ?_⟩
    · intro h
      have : (as.take zn).length = 0 := by rw [h]; rfl
      rw [List.length_take] at this
      omega
    · rw [List.length_take]; omega
    · intro k
      rw [List.take_length]
      exact htell k
    rintro m σ H6 ⟨last, cy, lc, zz, e6, rfl, hlc, hcy, hcl, hlast, hmm, htl, hze⟩
    obtain ⟨ct, cz, rfl⟩ := snoc_of hcy
    have hpe6 := lt_t (Ex.lt e6) hpe5
    refine and_go (decide (0 < (last : Int))) (decide ((es.map V.int)[last - 1]? = some (.int (cz - st)))) (fun G g => ⟨_, rfl, _, _, rfl, rfl, _, rfl, g⟩) (fun hb G g => ?_) ?_
    · have hb := dT hb
      have hle : last - 1 < es.length := by omega
      have hat : (es.map V.int)[last - 1]? = some (.int (es[last - 1])) := by rw [List.getElem?_map, List.getElem?_eq_getElem hle] <;> rfl
      refine ⟨_, rfl, _, rfl, _, _, rfl, rfl, pev, _, _, _, rfl, rfl, hpe6, atI_nat' hat (by omega), _, rfl, _, rfl, lc, _, _, _, rfl, rfl, hlc, by rw [List.map_append]; exact atI_last _ _, _, rfl, _, _, rfl, rfl, rfl, _, rfl, ?_⟩
      have e : decide (V.int es[last - 1] = V.int (cz - st)) = decide ((es.map V.int)[last - 1]? = some (.int (cz - st))) := by
        rw [hat]
        simp
      show G (decide (V.int es[last - 1] = V.int (cz - st))) H6
      rw [e]
      exact g
    refine ite2 (fun c => ?_) (fun c => ?_)
    · obtain ⟨c1, c2⟩ := Bool.and_eq_true_iff.mp c
      have c1 := dT c1
      have c2 := dT c2
      obtain ⟨l1, rfl⟩ : ∃ l1, last = l1 + 1 := ⟨last - 1, by omega⟩
      rw [Nat.add_sub_cancel] at c2
      have hle : l1 < es.length := by omega
      have hy : es[l1]? = some (cz - st) := by
        rw [List.getElem?_map] at c2
        cases q : es[l1]? with
        | none => rw [q] at c2; cases c2
        | some y =>
          rw [q] at c2
          have : V.int y = V.int (cz - st) := Option.some.inj c2
          injection this with this
          rw [this]
      have hat : (es.map V.int)[l1]? = some (.int (cz - st)) := by rw [List.getElem?_map, hy] <;> rfl
      refine ⟨_, fun _ _ z => z, _, rfl, _, _, rfl, rfl, ?_⟩
      have el : ((l1 + 1 : Nat) : Int) - 1 = (l1 : Nat) := by omega
      refine ⟨_, rfl, _, rfl, pev, _, _, _, rfl, rfl, hpe6, atI_nat' hat (by omega), _, rfl, _, rfl, _, rfl, lc, _, rfl, hlc, fun p np => ?_⟩
      generalize hG6 : upd H6 p _ = H7
      obtain ⟨e7, h7⟩ := gen_new np hG6
      rw [List.map_append, List.map_cons, List.map_nil, cut_last] at h7
      refine ⟨p, _, rfl, .inl (SqL.of h7), ?_⟩
      have hcl' : ct.length + 1 = zn := by rw [← hcl]; simp
      refine ⟨z_sz (by simp only [List.length_cons, List.length_append, List.length_map, List.length_nil]; omega), fun p2 np2 => ?_⟩
      generalize hG7 : upd H7 p2 _ = H8
      obtain ⟨e8, h8⟩ := gen_new np2 hG7
      refine ⟨l1, by omega, l1, (cz - st) :: ct, p2, zz, (e6.tr e7).tr e8, ?_, SqL.of (by rw [h8]; simp), by simp, by simp [hcl'], by omega, rfl, fun k => ?_, fun z1 z2 z3 => ?_⟩
      · rw [← el]
        rfl
      · rw [tell_rot (z := cz) rfl, ← take_snoc hy]
        exact htl k
      · have h0 := hze z1 z2 z3
        have hs := (hzero z1 z2 z3).2
        cases ct with
        | nil =>
          have : cz = 0 := by simpa using h0
          rw [this, hs] <;> rfl
        | cons y t => simp at h0
    have hz0 : (∀ y ∈ es, y = 0) → (∀ y ∈ as, y = 0) → r = 0 → last = 0 := fun z1 z2 z3 => by
      rcases Nat.eq_zero_or_pos last with h | h
      · exact h
      · exfalso
        have h0 := hze z1 z2 z3
        have hs := (hzero z1 z2 z3).2
        have hcz : cz = 0 := by
          cases ct with
          | nil => simpa using h0
          | cons y t => simp at h0
        refine c ?_
        rw [Bool.and_eq_true]
        have hle : last - 1 < es.length := by omega
        refine ⟨decide_eq_true (by omega), decide_eq_true ?_⟩
        rw [List.getElem?_map, List.getElem?_eq_getElem hle, hcz, hs, z1 _ (List.getElem_mem hle)]
        rfl
    refine ⟨_, rfl, _, rfl, _, rfl, cut_tup hpe6 hlast fun q1 H7 e7 hq1 => ?_⟩
    refine ⟨_, rfl, lc, _, rfl, .inl ⟨sql_up e7 hlc, fun l2 nl2 => ?_⟩⟩
    generalize hG7 : upd H7 l2 _ = H8
    obtain ⟨e8, h8⟩ := gen_new nl2 hG7
    refine ⟨_, rfl, by rw [sizeLine_eq]; simp, fun l3 nl3 => ?_⟩
    generalize hG8 : upd H8 l3 _ = H9
    obtain ⟨e9, h9⟩ := gen_new nl3 hG8
    have e19 := (((e15.tr e6).tr e7).tr e8).tr e9
    have hx9 := e19 _ _ hx
    have hq9 := lt_t (Ex.lt (e8.tr e9)) hq1
    have hc9 := e9 _ _ h8
    refine ⟨l3, _, rfl, SqT.of h9, rfl, _, _, rfl, _, rfl, x, _, dx, _, rfl, hx9, k_Row T, a_Row_head T, (by decide : 0 < 1000), ?_⟩
    refine ⟨_, _, rfl, _, rfl, x, _, dx, _, rfl, upd_same, k_Row T, a_Row_cycle T, (by decide : 1 < 1000), ?_⟩
    refine ⟨_, _, rfl, _, rfl, x, _, dx, _, rfl, upd_same, k_Row T, a_Row_step T, (by decide : 2 < 1000), rfl, ?_⟩
    generalize hGA : upd (upd (upd H9 x _) x _) x _ = HA
    have hxA : HA x = some (.ins (He.ga K "Row") dx [("head", .ref q1), ("cycle", .ref l2), ("step", .int st)]) := by
      subst hGA
      rw [upd_same]
      rfl
    have neA : ∀ a o, a ≠ x → H9 a = some o → HA a = some o := fun a o ha h => by
      subst hGA
      rw [upd_ne ha, upd_ne ha, upd_ne ha]
      exact h
    refine k HA ⟨es.take last, ct ++ [cz], st⟩ (.ref q1) (.ref l2) ⟨hcy, by show (ct ++ [cz]).length ≤ 1000; omega, by show (es.take last).length ≤ 1000; rw [List.length_take]; omega, s1, s2⟩ htl (fun z1 z2 z3 => ?_) (fun a o ha h => neA a o ha (e19 a o h)) hxA (ofInts (sqt_ne neA hx9 hq9)) (ofInts (sqt_ne neA hx9 (SqT.of hc9)))
    have h1 := hz0 z1 z2 z3
    have h2 := hze z1 z2 z3
    have h3 := (hzero z1 z2 z3).2
    subst h1
    rw [h2, h3, List.take_zero]⟩)
end
end Lf

set_option Elab.async false
set_option linter.all false
set_option maxRecDepth 100000
set_option maxHeartbeats 4000000
namespace Lf
open PySem PySem.Spec PyProof.Rows L2 Lc Lr Lm
section
variable {P : Program} {w : World} {K : PySem.W.Frag} {mg : Str → Option Value} {base : Heap}
/-! ### new instances -/
theorem ins_ex {H1 : Hp} {x dx C : Addr} (n : H1 x = none) (nd : H1 dx = none) (ne : dx ≠ x) : Ex H1 (upd (upd H1 dx (.own x)) x (.ins C dx [])) := by
  refine Ex.tr (Evl.Ex.new nd) (Evl.Ex.new ?_)
  rw [upd_ne (Ne.symm ne)]
  exact n
theorem ins_ex2 {H1 H' : Hp} {x dx C : Addr} (n : H1 x = none) (nd : H1 dx = none) (ne : dx ≠ x) (h : ∀ a o, a ≠ x → upd (upd H1 dx (.own x)) x (.ins C dx []) a = some o → H' a = some o) : Ex H1 H' := fun a o e =>
  h a o (fun z => by rw [z, n] at e; cases e) (ins_ex n nd ne a o e)
theorem row_made {H1 : Hp} {ev av : V} {es as : List Int} {r : Int} {Q : VK} {E : XK} (pe : pTup K pInt H1 ev es) (pa : pTup K pInt H1 av as) (ha0 : as ≠ []) (ha1 : as.length ≤ 1000) (he1 : es.length ≤ 1000) (r1 : -1000000000000000 ≤ r) (r2 : r ≤ 1000000000000000)
    (k : ∀ v H' rw, Ex H1 H' → pRw K H' v rw → RwOk rw → (∀ k, rw.tell k = tell es as r k) → ((∀ y ∈ es, y = 0) → (∀ y ∈ as, y = 0) → r = 0 → rw = ⟨[], [0], 0⟩) → Q v H') :
    ∀ x dx, H1 x = none → H1 dx = none → dx ≠ x → sp_Row_init K [.ref x, ev, av, .int r] (upd (upd H1 dx (.own x)) x (.ins (He.ga K "Row") dx [])) (fun v H2 => v = .non ∧ Q (.ref x) H2) E := fun x dx n nd ne =>
  ⟨x, dx, ev, av, es, as, r, rfl, upd_same, MonT.up (Ex.lt (ins_ex n nd ne)) pe, MonT.up (Ex.lt (ins_ex n nd ne)) pa, ha0, ha1, he1, r1, r2, fun H' rw h c ok t z hne hx ph pc =>
    ⟨rfl, k _ H' rw (ins_ex2 n nd ne hne) ⟨x, dx, h, c, rfl, hx, ph, pc⟩ ok t z⟩⟩
theorem book_made {H1 : Hp} {kv gv lv : V} {b : Bk} {Q : VK} {E : XK} (pk : pTup K (pKnd K) H1 kv b.kinds) (pg : pTup K (pRow K) H1 gv b.groups) (pl : pRow K H1 lv b.whole) (ok : BkOk b) (k : ∀ v H', Ex H1 H' → pBk K H' v b → Q v H') :
    ∀ x dx, H1 x = none → H1 dx = none → dx ≠ x → sp_Book_init K [.ref x, kv, gv, lv] (upd (upd H1 dx (.own x)) x (.ins (He.ga K "Book") dx [])) (fun v H2 => v = .non ∧ Q (.ref x) H2) E := fun x dx n nd ne => by
  have e := ins_ex (C := He.ga K "Book") n nd ne
  refine ⟨x, dx, kv, gv, lv, b, rfl, upd_same, MonT.up (Ex.lt e) pk, MonT.up (Ex.lt e) pg, MonT.up (Ex.lt e) pl, ok, fun H' wt hne hx => ⟨rfl, ?_⟩⟩
  have e2 := ins_ex2 n nd ne hne
  exact k _ H' e2 ⟨x, dx, wt, kv, gv, lv, rfl, hx, MonT.up (Ex.lt e2) pk, MonT.up (Ex.lt e2) pg, MonT.up (Ex.lt e2) pl⟩
/-! ### rows -/
def sp_Row_early (K : PySem.W.Frag) : Sp := fun vs H Q _ => ∃ v x, vs = [v] ∧ pRw K H v x ∧ Ret (pTup K pInt) x.head H Q
theorem ok_Row_early (T : Tx K mg) : Prp P w K mg base 1 (He.ga K "Row") "early" (sp_Row_early K) :=
  mk_Row_early T (fn_Row_early T (fun vs H Q E h => by obtain ⟨_, _, rfl, _⟩ := h; rfl) fun cdv A outer s H vs Q E hr h => ⟨_, (der_Row_early T hr).2, by
    obtain ⟨v, x, rfl, ⟨a, dx, h, c, rfl, ha, ph, pc⟩, k⟩ := h
    exact ⟨_, rfl, a, _, dx, _, _, rfl, ha, k_Row T, a_Row_head T, rfl, k _ _ (Ex.rf _) ph⟩⟩)
def sp_Row_again (K : PySem.W.Frag) : Sp := fun vs H Q _ => ∃ v x, vs = [v] ∧ pRw K H v x ∧ Ret (pTup K pInt) x.cycle H Q
theorem ok_Row_again (T : Tx K mg) : Prp P w K mg base 1 (He.ga K "Row") "again" (sp_Row_again K) :=
  mk_Row_again T (fn_Row_again T (fun vs H Q E h => by obtain ⟨_, _, rfl, _⟩ := h; rfl) fun cdv A outer s H vs Q E hr h => ⟨_, (der_Row_again T hr).2, by
    obtain ⟨v, x, rfl, ⟨a, dx, h, c, rfl, ha, ph, pc⟩, k⟩ := h
    exact ⟨_, rfl, a, _, dx, _, _, rfl, ha, k_Row T, a_Row_cycle T, rfl, k _ _ (Ex.rf _) pc⟩⟩)
def sp_Row_rise (K : PySem.W.Frag) : Sp := fun vs H Q _ => ∃ v x, vs = [v] ∧ pRw K H v x ∧ Ret pInt x.step H Q
theorem ok_Row_rise (T : Tx K mg) : Prp P w K mg base 1 (He.ga K "Row") "rise" (sp_Row_rise K) :=
  mk_Row_rise T (fn_Row_rise T (fun vs H Q E h => by obtain ⟨_, _, rfl, _⟩ := h; rfl) fun cdv A outer s H vs Q E hr h => ⟨_, (der_Row_rise T hr).2, by
    obtain ⟨v, x, rfl, ⟨a, dx, h, c, rfl, ha, ph, pc⟩, k⟩ := h
    exact ⟨_, rfl, a, _, dx, _, _, rfl, ha, k_Row T, a_Row_step T, rfl, k _ _ (Ex.rf _) rfl⟩⟩)
theorem int_at {l : List Int} {i : Nat} (h : i < l.length) : (l.map V.int)[i]? = some (.int (l.getD i 0)) := by
  rw [List.getElem?_map, List.getD_eq_getElem?_getD, List.getElem?_eq_getElem h]
  rfl
def sp_Row_at (K : PySem.W.Frag) : Sp := fun vs H Q _ => ∃ v x k, vs = [v, .int k] ∧ pRw K H v x ∧ RwOk x ∧ 0 ≤ k ∧ Ret pInt (x.tell k.toNat) H Q
theorem ok_Row_at (T : Tx K mg) : C8.Met P w K mg base 4 (He.ga K "Row") "at" (sp_Row_at K) [] :=
  mk_Row_at T (fn_Row_at T (fun vs H Q E h => by obtain ⟨_, _, _, rfl, _⟩ := h; rfl) fun cdv A outer s H vs Q E hr h => ⟨_, (der_Row_at T (ok_check_number T) hr).2, by
    obtain ⟨v, x, n, rfl, ⟨a, dx, h, c, rfl, ha, ph, pc⟩, ok, hn, k⟩ := h
    obtain ⟨p, rfl, hp⟩ := pInts ph
    obtain ⟨q, rfl, hq⟩ := pInts pc
    have lh : (x.head.map V.int).length = x.head.length := List.length_map ..
    have lc : (x.cycle.map V.int).length = x.cycle.length := List.length_map ..
    have c0 : 0 < x.cycle.length := List.length_pos_iff.mpr ok.c0
    have c1 := ok.c1
    refine ⟨_, rfl, n, 0, .inr ⟨rfl, hn⟩, ?_⟩
    refine ⟨_, rfl, _, rfl, a, _, dx, _, _, rfl, ha, k_Row T, a_Row_head T, rfl, p, _, rfl, .inr hp, _, _, rfl, rfl, _, rfl, ite2 (fun d => ?_) (fun d => ?_)⟩
    · have d := dT d
      rw [lh] at d
      refine ⟨_, rfl, a, _, dx, _, _, rfl, ha, k_Row T, a_Row_head T, rfl, _, rfl, p, _, _, _, rfl, rfl, hp, atI_nat' (int_at (i := n.toNat) (by omega)) (by omega), k _ _ (Ex.rf _) ?_⟩
      show V.int _ = V.int _
      unfold Rw.tell tell
      rw [if_pos (by omega)]
    have d := dF d
    rw [lh] at d
    refine ⟨_, rfl, _, rfl, a, _, dx, _, _, rfl, ha, k_Row T, a_Row_head T, rfl, p, _, rfl, .inr hp, _, _, rfl, rfl, _, rfl, a, _, dx, _, _, rfl, ha, k_Row T, a_Row_cycle T, rfl, q, _, rfl, .inr hq, ?_⟩
    rw [lh, lc]
    refine ⟨_, _, rfl, ⟨by omega, by omega⟩, fun r nr => ?_⟩
    generalize hG : upd H r _ = H1
    obtain ⟨e1, h1⟩ := gen_new nr hG
    obtain ⟨j, hj⟩ : ∃ j : Nat, n - (x.head.length : Int) = (j : Int) := ⟨(n - (x.head.length : Int)).toNat, by omega⟩
    rw [hj] at h1
    have hm : j % x.cycle.length < x.cycle.length := Nat.mod_lt _ c0
    have s1 := ok.s1
    have s2 := ok.s2
    refine ⟨r, _, rfl, SqT.of h1, rfl, _, _, rfl, _, _, rfl, rfl, ?_⟩
    refine ⟨_, rfl, a, _, dx, _, _, rfl, e1 _ _ ha, k_Row T, a_Row_cycle T, rfl, _, rfl, q, _, _, _, rfl, rfl, lt_t (Ex.lt e1) hq, atI_nat' (int_at hm) (by omega), _, rfl, _, rfl, a, _, dx, _, _, rfl, e1 _ _ ha, k_Row T, a_Row_step T, rfl, _, _, rfl, rfl, mulR (by omega) (by omega), _, _, rfl, rfl, k _ _ e1 ?_⟩
    show V.int _ = V.int _
    unfold Rw.tell tell
    rw [if_neg (by omega), show n.toNat - x.head.length = j by omega]
    congr 1⟩)
theorem eqv_ints (l : List Int) : PyData.eqv (.tuple (l.map PyData.int)) (.tuple (l.map PyData.int)) = true := by
  simp only [PyData.eqv]
  induction l with
  | nil => simp [PyData.eqvAll]
  | cons x l ih => simp [PyData.eqvAll, PyData.eqv, ih]
theorem ints_shaped (l : List Int) : SeqAt.shaped (.tuple (l.map PyData.int)) = true :=
  shaped_tup (n := 0) (f := PyData.int) (fun x hx => by simp only [PyData.canLay0]) (fun x _ => by simp [PyData.depth]) (by decide)
theorem dp_ints {H : Hp} {v : V} {l : List Int} (h : pTup K pInt H v l) : Dp K H v (.tuple (l.map PyData.int)) := by
  obtain ⟨p, vs, rfl, hp, pr⟩ := h
  exact .tup hp (dpAll_of (f := PyData.int) (fun v x h => by cases (show v = V.int x from h); exact .int _) pr)
def R_Row (K : PySem.W.Frag) : Addr → Addr → Hp → Prop := fun a b H => ∃ x, pRw K H (.ref a) x ∧ pRw K H (.ref b) x
theorem ok_Row_eq (T : Tx K mg) : Neq P w K mg base 1 (He.ga K "Row") (R_Row K) :=
  mk_Row_eq T (fn_Row_eq T (fun vs H Q E h => by obtain ⟨_, _, rfl, _⟩ := h; rfl) fun cdv A outer s H vs Q E hr h => ⟨_, (der_Row_eq T hr).2, by
    obtain ⟨a, b, rfl, ⟨x, ⟨a1, dx, h, c, e0, ha, ph, pc⟩, ⟨b1, dx2, h2, c2, e1, hb, ph2, pc2⟩⟩, k⟩ := h
    cases e0
    cases e1
    refine ⟨_, rfl, b, dx2, _, rfl, hb, true, rfl, iteF ?_⟩
    refine ⟨_, rfl, a, _, dx, _, _, rfl, ha, k_Row T, a_Row_head T, rfl, _, rfl, b, _, dx2, _, _, rfl, hb, k_Row T, a_Row_head T, rfl, _, _, dp_ints ph, dp_ints ph2, ints_shaped _, ints_shaped _, _, rfl, ?_⟩
    rw [eqv_ints]
    refine iteT ⟨_, rfl, a, _, dx, _, _, rfl, ha, k_Row T, a_Row_cycle T, rfl, _, rfl, b, _, dx2, _, _, rfl, hb, k_Row T, a_Row_cycle T, rfl, _, _, dp_ints pc, dp_ints pc2, ints_shaped _, ints_shaped _, _, rfl, ?_⟩
    rw [eqv_ints]
    refine iteT ⟨_, rfl, a, _, dx, _, _, rfl, ha, k_Row T, a_Row_step T, rfl, _, rfl, b, _, dx2, _, _, rfl, hb, k_Row T, a_Row_step T, rfl, rfl, ?_⟩
    rw [decide_eq_true (rfl : V.int x.step = V.int x.step)]
    exact k _ Ext.rfl'⟩)
def sp_turned (K : PySem.W.Frag) : Sp := fun vs H Q _ => ∃ v x, vs = [v] ∧ pRw K H v x ∧ RwOk x ∧ ∀ u H' y, Ex H H' → pRw K H' u y → RwOk y → (∀ k, y.tell k = -x.tell k) → (x = ⟨[], [0], 0⟩ → y = ⟨[], [0], 0⟩) → Q u H'
theorem ok_turned (T : Tx K mg) : C8.Cal P w K mg base 5 "turned" (sp_turned K) [] :=
  mk_turned T (fn_turned T (fun vs H Q E h => by obtain ⟨_, _, rfl, _⟩ := h; rfl) fun cdv A outer s H vs Q E hr h => ⟨_, (der_turned T (ok_Row_init T) (ok_Row_early T) (ok_Row_again T) (ok_Row_rise T) hr).2, by
    obtain ⟨v, x, rfl, px, ok, k⟩ := h
    have px' := px
    obtain ⟨a, dx, h, c, rfl, ha, _⟩ := px'
    have ok1 := ok.c1
    have ok2 := ok.h1
    have s1 := ok.s1
    have s2 := ok.s2
    refine ⟨_, rfl, a, dx, _, rfl, ha, _, _, rfl, px, fun u H1 e1 pu => ?_⟩
    obtain ⟨p, rfl, hp⟩ := pInts pu
    refine ⟨p, rfl, ⟨_, hp⟩, ⟨lc_map (P := pInt) (R := pInt) (wk_tup (K := K) (p := p) (vs := x.head.map V.int) (xs := x.head) (by simp)) (fun n => -n) (by omega) (fun H' e => ⟨lt_t (Ex.lt e) hp, int_paired _⟩) (fun i y v H2 hx e2 pv N Z kz => ?_) (fun L H2 ws hL e2 hl pw => ?_)⟩⟩
    · cases pv
      exact ⟨rfl, _, rfl, _, rfl, kz _ _ (Ex.rf _) rfl⟩
    refine ⟨L, _, rfl, .inl ⟨SqL.of hl, fun l nl => ?_⟩⟩
    generalize hG : upd H2 l _ = H3
    obtain ⟨e3, h3⟩ := gen_new nl hG
    rw [paired_int pw] at h3
    have e13 := (e1.tr e2).tr e3
    refine ⟨_, rfl, a, dx, _, rfl, e13 _ _ ha, _, _, rfl, MonT.up (Ex.lt e13) px, fun u H4 e4 pu4 => ?_⟩
    obtain ⟨q, rfl, hq⟩ := pInts pu4
    refine ⟨q, rfl, ⟨_, hq⟩, ⟨lc_map (P := pInt) (R := pInt) (wk_tup (K := K) (p := q) (vs := x.cycle.map V.int) (xs := x.cycle) (by simp)) (fun n => -n) (by omega) (fun H' e => ⟨lt_t (Ex.lt e) hq, int_paired _⟩) (fun i y v H5 hx e5 pv N Z kz => ?_) (fun M H5 ws hM e5 hm pw2 => ?_)⟩⟩
    · cases pv
      exact ⟨rfl, _, rfl, _, rfl, kz _ _ (Ex.rf _) rfl⟩
    refine ⟨M, _, rfl, .inl ⟨SqL.of hm, fun l2 nl2 => ?_⟩⟩
    generalize hG : upd H5 l2 _ = H6
    obtain ⟨e6, h6⟩ := gen_new nl2 hG
    rw [paired_int pw2] at h6
    have e16 := ((e13.tr e4).tr e5).tr e6
    refine ⟨_, rfl, a, dx, _, rfl, e16 _ _ ha, _, _, rfl, MonT.up (Ex.lt e16) px, fun u H7 e7 pu7 => ?_⟩
    cases pu7
    refine ⟨_, rfl, ?_⟩
    refine row_made (ofInts (lt_t (Ex.lt (((e4.tr e5).tr e6).tr e7)) (SqT.of h3))) (ofInts (lt_t (Ex.lt e7) (SqT.of h6))) (by intro h; exact ok.c0 (List.map_eq_nil_iff.mp h)) (by rw [List.length_map]; exact ok1) (by rw [List.length_map]; exact ok2) (by omega) (by omega) (fun v H8 rw e8 prw okr tl hz => k v H8 rw (e16.tr (e7.tr e8)) prw okr (fun n => ?_) (fun hx => hz ?_ ?_ ?_))
    · rw [tl n]
      exact tell_neg _ _ _ _
    · intro y hy; rw [hx] at hy; simp at hy
    · intro y hy; rw [hx] at hy; simpa using hy
    · rw [hx]; rfl⟩)
def sp_first_other (K : PySem.W.Frag) : Sp := fun vs H Q _ => ∃ v x, vs = [v] ∧ pRw K H v x ∧ RwOk x ∧ (∀ k, x.tell k = 0) ∧ RetV .non H Q
theorem ok_first_other (T : Tx K mg) : C8.Cal P w K mg base 5 "first_other" (sp_first_other K) [] :=
  mk_first_other T (fn_first_other T (fun vs H Q E h => by obtain ⟨_, _, rfl, _⟩ := h; rfl) fun cdv A outer s H vs Q E hr h => ⟨_, (der_first_other T (ok_Row_early T) (ok_Row_again T) (ok_Row_at T) hr).2, by
    obtain ⟨v, x, rfl, px, ok, hz, k⟩ := h
    have px' := px
    obtain ⟨a, dx, h, c, rfl, ha, _⟩ := px'
    have ok1 := ok.c1
    have ok2 := ok.h1
    refine ⟨_, rfl, a, dx, _, rfl, ha, _, _, rfl, px, fun u H1 e1 pu => ?_⟩
    obtain ⟨p, rfl, hp⟩ := pInts pu
    refine ⟨p, _, rfl, .inr hp, ?_⟩
    refine ⟨_, rfl, a, dx, _, rfl, e1 _ _ ha, _, _, rfl, MonT.up (Ex.lt e1) px, fun u H2 e2 pu2 => ?_⟩
    obtain ⟨q, rfl, hq⟩ := pInts pu2
    refine ⟨q, _, rfl, .inr hq, ?_⟩
    rw [show (x.head.map V.int).length = x.head.length from List.length_map .., show (x.cycle.map V.int).length = x.cycle.length from List.length_map ..]
    refine ⟨_, _, rfl, rfl, mulL (by omega) (by omega), _, _, rfl, rfl, _, rfl, by omega, by omega, ?_⟩
    refine for_wk (P := pInt) wk_rng (fun i σ H' => Ex H H' ∧ ∃ z, σ = [some (.ref a), z]) ⟨e1.tr e2, _, rfl⟩ (fun _ _ _ _ _ => trivial) (fun i y u σ H3 H4 hx q e4 px4 => ?_) (fun σ H' q => k _ q.1)
    obtain ⟨e3, z, rfl⟩ := q
    cases px4
    obtain ⟨hx1, hx2⟩ := rng_of hx
    have e := e3.tr e4
    refine ⟨_, rfl, a, dx, _, rfl, e _ _ ha, rfl, _, rfl, _, _, _, rfl, MonT.up (Ex.lt e) px, ok, by omega, fun w H5 e5 pw => ?_⟩
    cases pw
    refine ⟨rfl, _, rfl, ?_⟩
    rw [hz]
    exact iteNS rfl ⟨e.tr e5, _, rfl⟩⟩)
end
end Lf

set_option Elab.async false
set_option linter.all false
set_option maxRecDepth 100000
set_option maxHeartbeats 4000000
namespace Lf
open PySem PySem.Spec PyProof.Rows L2 Lc Lr Lm
section
variable {P : Program} {w : World} {K : PySem.W.Frag} {mg : Str → Option Value} {base : Heap}
/-! ### pairs of books -/
abbrev Sides := List (Bk × Int)
abbrev pSide (K : PySem.W.Frag) : Pr (Bk × Int) := pZip K (pBk K) pInt
structure SOk (N : List Str) (S : Sides) : Prop where
  len : S.length ≤ 2
  ok : ∀ x ∈ S, BkOk x.1
  k2 : ∀ x ∈ S, x.1.kinds.length ≤ 2
  sg : ∀ x ∈ S, x.2 = 1 ∨ x.2 = -1
  nm : ∀ x ∈ S, x.1.names = N
def spansS (S : Sides) : List Int := S.flatMap fun x => x.1.periods
def shd (b : Bk) (nm : Str) : Fr := b.share (kAt b nm)
def bot1 (t : Int) (x : Bk × Int) : Int := x.1.names.foldl (fun t nm => cm t (shd x.1 nm).2) t
def botS (S : Sides) : Int := S.foldl bot1 1
theorem shd_bd {b : Bk} (ok : BkOk b) {nm : Str} (h : nm ∈ b.names) : (0 < (shd b nm).1 ∧ (shd b nm).1 ≤ 625) ∧ 0 < (shd b nm).2 ∧ (shd b nm).2 ≤ 625 := by
  obtain ⟨km, kg, gm⟩ := grp_at ok h
  obtain ⟨gg, gl⟩ := ok.go _ gm
  have hl : (b.grpOf (kAt b nm) ++ b.whole).length ≤ 4 := by have := ok.wo.2; simp only [List.length_append]; omega
  obtain ⟨⟨h1, h2⟩, h3, h4⟩ := rate_bd _ (b.grpOf (kAt b nm) ++ b.whole) rfl (good_app gg ok.wo.1)
  have h0 := Nat.pow_le_pow_right (n := 5) (by decide) hl
  have e0 : ((5 ^ (b.grpOf (kAt b nm) ++ b.whole).length : Nat) : Int) = (5 : Int) ^ (b.grpOf (kAt b nm) ++ b.whole).length := by simp
  have : (5 : Int) ^ (b.grpOf (kAt b nm) ++ b.whole).length ≤ 5 ^ 4 := by rw [← e0]; exact Int.ofNat_le.mpr h0
  have e : (5 : Int) ^ 4 = 625 := by decide
  unfold shd Bk.share
  omega
theorem cm_pos {a b : Int} (ha : 0 < a) (hb : 0 < b) : 0 < cm a b ∧ cm a b ≤ a * b := by
  obtain ⟨h1, h2⟩ := div_bd ha (cd_pos (a := a) hb) (cd_dvd_l a b)
  exact ⟨Int.mul_pos h1 hb, Int.mul_le_mul_of_nonneg_right h2 (Int.le_of_lt hb)⟩
theorem fold_cm {α : Type} {f : α → Int} {B : Int} (hB : 1 ≤ B) : ∀ (l : List α) (a : Int), 0 < a → (∀ x ∈ l, 0 < f x ∧ f x ≤ B) → 0 < l.foldl (fun t x => cm t (f x)) a ∧ l.foldl (fun t x => cm t (f x)) a ≤ a * B ^ l.length
  | [], a, ha, _ => ⟨ha, by simp⟩
  | x :: l, a, ha, h => by
    obtain ⟨h1, h2⟩ := h x (List.mem_cons_self ..)
    obtain ⟨c1, c2⟩ := cm_pos ha h1
    obtain ⟨r1, r2⟩ := fold_cm hB l (cm a (f x)) c1 fun y hy => h y (List.mem_cons_of_mem _ hy)
    refine ⟨r1, Int.le_trans r2 ?_⟩
    rw [List.length_cons, Int.pow_succ, Int.mul_comm (B ^ l.length) B, ← Int.mul_assoc]
    have e1 : a * f x ≤ a * B := Int.mul_le_mul_of_nonneg_left h2 (Int.le_of_lt ha)
    exact Int.mul_le_mul_of_nonneg_right (by omega) (Int.le_of_lt (Int.pow_pos (by omega)))
theorem bot_bd1 {b : Bk} (ok : BkOk b) (k2 : b.kinds.length ≤ 2) {t : Int} (ht : 0 < t) (sg : Int) : 0 < bot1 t (b, sg) ∧ bot1 t (b, sg) ≤ t * 390625 := by
  obtain ⟨h1, h2⟩ := fold_cm (f := fun nm => (shd b nm).2) (B := 625) (by decide) b.names t ht fun nm h => ⟨(shd_bd ok h).2.1, (shd_bd ok h).2.2⟩
  refine ⟨h1, Int.le_trans h2 (Int.mul_le_mul_of_nonneg_left ?_ (Int.le_of_lt ht))⟩
  have hl : b.names.length ≤ 2 := by unfold Bk.names; rw [List.length_map]; exact k2
  have h0 := Nat.pow_le_pow_right (n := 625) (by decide) hl
  have e0 : ((625 ^ b.names.length : Nat) : Int) = (625 : Int) ^ b.names.length := by simp
  rw [← e0]
  exact Int.ofNat_le.mpr h0
theorem bot_bd {N : List Str} {S : Sides} (ok : SOk N S) : 0 < botS S ∧ botS S ≤ 152587890625 := by
  obtain ⟨hl, h1, h2, _, _⟩ := ok
  unfold botS
  match S, hl, h1, h2 with
  | [], _, _, _ => exact ⟨by decide, by decide⟩
  | [(b, s)], _, h1, h2 =>
    have a : 0 < bot1 1 (b, s) ∧ bot1 1 (b, s) ≤ 1 * 390625 := bot_bd1 (h1 (b, s) (by simp)) (h2 (b, s) (by simp)) (t := 1) (by decide) s
    show 0 < bot1 1 (b, s) ∧ bot1 1 (b, s) ≤ _
    omega
  | [(b, s), (c, u)], _, h1, h2 =>
    have a : 0 < bot1 1 (b, s) ∧ bot1 1 (b, s) ≤ 1 * 390625 := bot_bd1 (h1 (b, s) (by simp)) (h2 (b, s) (by simp)) (t := 1) (by decide) s
    have hh : 0 < bot1 (bot1 1 (b, s)) (c, u) ∧ bot1 (bot1 1 (b, s)) (c, u) ≤ bot1 1 (b, s) * 390625 := bot_bd1 (h1 (c, u) (by simp)) (h2 (c, u) (by simp)) a.1 u
    show 0 < bot1 (bot1 1 (b, s)) (c, u) ∧ bot1 (bot1 1 (b, s)) (c, u) ≤ _
    omega
def pSt (K : PySem.W.Frag) : Pr Sides := fun H v S => ∃ a dx l1 vs l2, v = .ref a ∧ H a = some (.ins (He.ga K "States") dx [("sides", .ref l1), ("spans", .ref l2), ("bottom", .int (botS S))]) ∧ SqL K H l1 vs ∧ Paired (pSide K H) vs S ∧ SqL K H l2 ((spansS S).map V.int)
instance (K : PySem.W.Frag) : Mon (pSt K) := ⟨fun e ⟨a, dx, l1, vs, l2, h1, h2, h3, h4, h5⟩ => ⟨a, dx, l1, vs, l2, h1, e.o _ _ trivial h2, le_l e h3, pimp h4 fun _ _ q => MonT.up e.lt q, le_l e h5⟩⟩
def sp_sides_of (K : PySem.W.Frag) : Sp := fun vs H Q _ => ∃ v b u c, vs = [v, u] ∧ pBk K H v b ∧ pBk K H u c ∧ ∀ l H', Ex H H' → H l = none → pLst K (pSide K) H' (.ref l) [(b, 1), (c, -1)] → Q (.ref l) H'
theorem ok_sides_of (T : Tx K mg) : C8.Cal P w K mg base 1 "sides_of" (sp_sides_of K) [] :=
  mk_sides_of T (fn_sides_of T (fun vs H Q E h => by obtain ⟨_, _, _, _, rfl, _⟩ := h; rfl) fun cdv A outer s H vs Q E hr h => ⟨_, (der_sides_of T hr).2, by
    obtain ⟨v, b, u, c, rfl, pb, pc, k⟩ := h
    refine ⟨_, rfl, by rw [sizeLine_eq]; simp, fun p1 n1 => ?_⟩
    generalize hG : upd H p1 _ = H1
    obtain ⟨e1, h1⟩ := gen_new n1 hG
    refine ⟨_, rfl, _, rfl, by rw [sizeLine_eq]; simp, fun p2 n2 => ?_⟩
    generalize hG2 : upd H1 p2 _ = H2
    obtain ⟨e2, h2⟩ := gen_new n2 hG2
    refine ⟨by rw [sizeLine_eq]; simp, fun l nl => ?_⟩
    generalize hG3 : upd H2 l _ = H3
    obtain ⟨e3, h3⟩ := gen_new nl hG3
    refine k l H3 ((e1.tr e2).tr e3) (ex_none (e1.tr e2) nl) ⟨l, _, rfl, SqL.of h3, .cons ⟨p1, v, _, rfl, SqT.of (e3 _ _ (e2 _ _ h1)), MonT.up (Ex.lt ((e1.tr e2).tr e3)) pb, rfl⟩ (.cons ⟨p2, u, _, rfl, SqT.of (e3 _ _ h2), MonT.up (Ex.lt ((e1.tr e2).tr e3)) pc, rfl⟩ .nil)⟩⟩)
def RatesEq (b c : Bk) : Prop := ∀ nm ∈ b.names, b.rate (kAt b nm) = c.rate (kAt c nm)
theorem rate_bk {b : Bk} (ok : BkOk b) {nm : Str} (h : nm ∈ b.names) : (0 < (b.rate (kAt b nm)).1 ∧ (b.rate (kAt b nm)).1 ≤ 390625) ∧ 0 < (b.rate (kAt b nm)).2 ∧ (b.rate (kAt b nm)).2 ≤ 390625 := by
  obtain ⟨km, kg, gm⟩ := grp_at ok h
  obtain ⟨gg, gl⟩ := ok.go _ gm
  obtain ⟨_, gd, ln⟩ := ok.ko _ km
  exact rate_small (by have := ok.wo.2; simp only [List.length_append]; omega) (good_app (good_app gd gg) ok.wo.1)
def sp_first_greater (K : PySem.W.Frag) : Sp := fun vs H Q _ => ∃ v b u c, vs = [v, u] ∧ pBk K H v b ∧ pBk K H u c ∧ BkOk b ∧ BkOk c ∧ b.names = c.names ∧ RatesEq b c ∧ RetV .non H Q
theorem ok_first_greater (T : Tx K mg) : C8.Cal P w K mg base 6 "first_greater" (sp_first_greater K) [] :=
  mk_first_greater T (fn_first_greater T (fun vs H Q E h => by obtain ⟨_, _, _, _, rfl, _⟩ := h; rfl) fun cdv A outer s H vs Q E hr h => ⟨_, (der_first_greater T (ok_Book_names T) (ok_less T) (ok_Book_rate T) hr).2, by
    obtain ⟨v, b, u, c, rfl, pb, pc, okb, okc, en, re, k⟩ := h
    have pb' := pb
    have pc' := pc
    obtain ⟨a, dx, _, _, _, _, rfl, ha, _⟩ := pb'
    obtain ⟨a2, dx2, _, _, _, _, rfl, ha2, _⟩ := pc'
    refine ⟨_, rfl, a, dx, _, rfl, ha, _, _, rfl, pb, okb.k4, fun n1 H1 e1 p1 => ?_⟩
    obtain ⟨p, rfl, hp⟩ := pStrs p1
    refine ⟨p, rfl, ⟨_, hp⟩, for_wk (P := pStr) (wk_tup (K := K) (p := p) (vs := b.names.map V.str) (xs := b.names) (by simp)) (fun i σ H' => Ex H1 H' ∧ ∃ z, σ = [some (.ref a), some (.ref a2), z]) ⟨Ex.rf _, _, rfl⟩
      (fun i σ H' _ q => ⟨lt_t (Ex.lt q.1) hp, str_paired _⟩) (fun i x u σ H2 H3 hx q e3 px => ?_) (fun σ H' q => k _ (e1.tr q.1))⟩
    obtain ⟨e2, z, rfl⟩ := q
    cases px
    have hm := List.mem_of_getElem? hx
    have e13 := (e1.tr e2).tr e3
    obtain ⟨r1, r2, r3⟩ := rate_bk okb hm
    obtain ⟨q1, q2, q3⟩ := rate_bk okc (en ▸ hm)
    refine ⟨_, rfl, a, dx, _, rfl, e13 _ _ ha, rfl, _, rfl, _, _, _, rfl, MonT.up (Ex.lt e13) pb, okb, hm, fun f1 H4 e4 pf1 => ?_⟩
    refine ⟨_, rfl, a2, dx2, _, rfl, e4 _ _ (e13 _ _ ha2), rfl, _, rfl, _, _, _, rfl, MonT.up (Ex.lt (e13.tr e4)) pc, okc, en ▸ hm, fun f2 H5 e5 pf2 => ?_⟩
    have mb : (b.rate (kAt b x)).2 * (c.rate (kAt c x)).2 ≤ 390625 * 390625 := Int.mul_le_mul r3 q3 (by omega) (by omega)
    refine ⟨_, _, _, _, rfl, MonT.up (Ex.lt e5) pf1, pf2, r2, q2, by omega, by omega, by omega, fun f3 H6 e6 pf3 => ?_⟩
    obtain ⟨t, _, _, rfl, ht, rfl, rfl⟩ := pf3
    refine ⟨t, _, _, _, rfl, rfl, ht, rfl, _, _, rfl, rfl, _, rfl, ite2 (fun d => ?_) (fun d => ?_)⟩
    · have d := dT d
      rw [re x hm] at d
      have e0 : (lss (c.rate (kAt c x)) (c.rate (kAt c x))).1 = 0 := by
        show (_ - _) / _ = (0 : Int)
        rw [Int.sub_self, Int.zero_ediv]
      rw [e0] at d
      exact absurd d (by decide)
    · exact ⟨((e2.tr e3).tr e4).tr (e5.tr e6), _, rfl⟩⟩)
def sp_check_rates (K : PySem.W.Frag) : Sp := fun vs H Q _ => ∃ v b u c, vs = [v, u] ∧ pBk K H v b ∧ pBk K H u c ∧ BkOk b ∧ BkOk c ∧ b.names = c.names ∧ RatesEq b c ∧ RetV .non H Q
theorem ok_check_rates (T : Tx K mg) : C8.Cal P w K mg base 7 "check_rates" (sp_check_rates K) [] :=
  mk_check_rates T (fn_check_rates T (fun vs H Q E h => by obtain ⟨_, _, _, _, rfl, _⟩ := h; rfl) fun cdv A outer s H vs Q E hr h => ⟨_, (der_check_rates T (ok_first_greater T) hr).2, by
    obtain ⟨v, b, u, c, rfl, pb, pc, okb, okc, en, re, k⟩ := h
    exact ⟨_, rfl, _, rfl, _, _, _, _, rfl, pb, pc, okb, okc, en, re, fun H1 e1 => ⟨_, rfl, rfl, _, rfl, iteF (k _ e1)⟩⟩⟩)
def amts (bs : List Bk) (nm : Str) : Int := bs.foldl (fun t b => cm t (b.period (kAt b nm))) 1
theorem per_bk {b : Bk} (ok : BkOk b) {nm : Str} (h : nm ∈ b.names) : 0 < b.period (kAt b nm) ∧ b.period (kAt b nm) ≤ 729000000 := by
  obtain ⟨km, kg, gm⟩ := grp_at ok h
  obtain ⟨gg, gl⟩ := ok.go _ gm
  obtain ⟨_, gd, ln⟩ := ok.ko _ km
  exact per_small (by have := ok.wo.2; simp only [List.length_append]; omega) (good_app (good_app gd gg) ok.wo.1)
def sp_amounts_of (K : PySem.W.Frag) : Sp := fun vs H Q _ => ∃ v bs nm, vs = [v, .str nm] ∧ pLst K (pBk K) H v bs ∧ (∀ b ∈ bs, BkOk b ∧ nm ∈ b.names) ∧ Ret pInt (amts bs nm) H Q
theorem amts_pos {nm : Str} : ∀ {bs : List Bk}, (∀ b ∈ bs, BkOk b ∧ nm ∈ b.names) → 0 < amts bs nm := fun {bs} h => by
  unfold amts
  exact (fold_cm (f := fun b => b.period (kAt b nm)) (B := 729000000) (by decide) bs 1 (by decide) fun b hb => per_bk (h b hb).1 (h b hb).2).1
theorem ok_amounts_of (T : Tx K mg) : C8.Cal P w K mg base 4 "amounts_of" (sp_amounts_of K) [] :=
  mk_amounts_of T (fn_amounts_of T (fun vs H Q E h => by obtain ⟨_, _, _, rfl, _⟩ := h; rfl) fun cdv A outer s H vs Q E hr h => ⟨_, (der_amounts_of T (ok_common_multiple T) (ok_Book_period T) hr).2, by
    obtain ⟨v, bs, nm, rfl, ⟨l, vs, rfl, hl, pr⟩, hb, k⟩ := h
    refine ⟨_, rfl, l, rfl, ⟨_, hl⟩, for_wk (P := pBk K) (wk_lst (K := K) (p := l) (vs := vs) (xs := bs) (paired_len pr)) (fun i σ H' => Ex H H' ∧ ∃ z, σ = [some (.ref l), some (.str nm), some (.int (amts (bs.take i) nm)), z]) ⟨Ex.rf _, _, rfl⟩
      (fun i σ H' _ q => ⟨sql_up' q.1 hl, paired_upT (Ex.lt q.1) pr⟩) (fun i x u σ H1 H2 hx q e2 px => ?_) (fun σ H' q => ?_)⟩
    · obtain ⟨e1, z, rfl⟩ := q
      have px' := px
      obtain ⟨a, dx, _, _, _, _, rfl, ha, _⟩ := px'
      obtain ⟨ok, hn⟩ := hb x (List.mem_of_getElem? hx)
      obtain ⟨p1, p2⟩ := per_bk ok hn
      have hp := amts_pos (nm := nm) (bs := bs.take i) fun b h => hb b (List.mem_of_mem_take h)
      refine ⟨_, rfl, _, rfl, a, dx, _, rfl, ha, rfl, _, rfl, _, _, _, rfl, px, ok, hn, fun w H3 e3 pw => ?_⟩
      cases pw
      have ea : amts (bs.take (i + 1)) nm = cm (amts (bs.take i) nm) (x.period (kAt x nm)) := by
        rw [take_snoc hx]
        unfold amts
        rw [foldl_snoc]
      rw [ea]
      exact ⟨_, _, rfl, Int.le_of_lt hp, p1, by omega, (e1.tr e2).tr e3, _, rfl⟩
    · obtain ⟨e1, z, rfl⟩ := q
      rw [List.take_length]
      exact ⟨_, rfl, k _ _ e1 rfl⟩⟩)
  where sql_up' {H H' : Hp} {a : Addr} {xs : List V} (e : Ex H H') (h : SqL K H a xs) : SqL K H' a xs := le_l (Ex.le e) h
end
end Lf

set_option Elab.async false
set_option linter.all false
set_option maxRecDepth 100000
set_option maxHeartbeats 4000000
namespace Lf
open PySem PySem.Spec PyProof.Rows L2 Lc Lr Lm
section
variable {P : Program} {w : World} {K : PySem.W.Frag} {mg : Str → Option Value} {base : Heap}
def sizes (bs : List Bk) : Int := bs.foldl (fun t b => t * b.size) 1
def sp_check_size (K : PySem.W.Frag) : Sp := fun vs H Q _ => ∃ v bs N, vs = [v] ∧ pLst K (pBk K) H v bs ∧ bs ≠ [] ∧ (∀ b ∈ bs, BkOk b ∧ b.names = N ∧ 0 < b.size ∧ b.size ≤ 200) ∧ sizes bs ≤ 200 ∧ (∀ nm ∈ N, amts bs nm ≤ 400) ∧ RetV .non H Q
theorem ok_check_size (T : Tx K mg) : C8.Cal P w K mg base 5 "check_size" (sp_check_size K) [] :=
  mk_check_size T (fn_check_size T (fun vs H Q E h => by obtain ⟨_, _, _, rfl, _⟩ := h; rfl) fun cdv A outer s H vs Q E hr h => ⟨_, (der_check_size T (ok_Book_size T) (ok_Book_names T) (ok_amounts_of T) hr).2, by
    obtain ⟨v, bs, N, rfl, pbs, hne, hb, hs, ha, k⟩ := h
    have pbs' := pbs
    obtain ⟨l, vs, rfl, hl, pr⟩ := pbs'
    refine ⟨_, rfl, l, rfl, ⟨_, hl⟩, for_wk (P := pBk K) (wk_lst (K := K) (p := l) (vs := vs) (xs := bs) (paired_len pr)) (fun i σ H' => Ex H H' ∧ ∃ z1 z2, σ = [some (.ref l), some (.int (sizes (bs.take i))), z1, z2]) ⟨Ex.rf _, _, _, rfl⟩
      (fun i σ H' _ q => ⟨sql_up q.1 hl, paired_upT (Ex.lt q.1) pr⟩) (fun i x u σ H1 H2 hx q e2 px => ?_) (fun σ H' q => ?_)⟩
    · obtain ⟨e1, z1, z2, rfl⟩ := q
      have px' := px
      obtain ⟨a, dx, _, _, _, _, rfl, ha, _⟩ := px'
      obtain ⟨ok, hn, s1, s2⟩ := hb x (List.mem_of_getElem? hx)
      have ea : sizes (bs.take (i + 1)) = sizes (bs.take i) * x.size := by
        rw [take_snoc hx]
        unfold sizes
        rw [foldl_snoc]
      rw [ea]
      refine ⟨_, rfl, _, rfl, a, dx, _, rfl, ha, rfl, _, _, rfl, px, ok, fun w H3 e3 pw => ?_⟩
      cases pw
      exact ⟨_, _, rfl, rfl, mulR (by omega) (by omega), (e1.tr e2).tr e3, _, _, rfl⟩
    · obtain ⟨e1, z1, z2, rfl⟩ := q
      rw [List.take_length]
      refine ⟨_, rfl, _, _, rfl, rfl, _, rfl, ite2 (fun d => ?_) (fun _ => ?_)⟩
      · have := dT d
        omega
      obtain ⟨b0, bt, rfl⟩ : ∃ b0 bt, bs = b0 :: bt := by
        cases bs with
        | nil => exact absurd rfl hne
        | cons b t => exact ⟨b, t, rfl⟩
      have pr1 := paired_upT (Ex.lt e1) pr
      obtain ⟨v0, hv0, p0⟩ := paired_at' pr1 (i := 0) (y := b0) rfl
      have p0' := p0
      obtain ⟨a, dx, _, _, _, _, rfl, ha0, _⟩ := p0'
      obtain ⟨ok, hn, _, _⟩ := hb b0 (by simp)
      refine ⟨_, rfl, l, _, _, _, rfl, rfl, sql_up e1 hl, atI_0 hv0, a, dx, _, rfl, ha0, _, _, rfl, p0, ok.k4, fun n1 H1 e2 p1 => ?_⟩
      obtain ⟨p, rfl, hp⟩ := pStrs p1
      refine ⟨p, rfl, ⟨_, hp⟩, for_wk (P := pStr) (wk_tup (K := K) (p := p) (vs := b0.names.map V.str) (xs := b0.names) (by simp)) (fun i σ H' => Ex H1 H' ∧ ∃ t z1 z2, σ = [some (.ref l), t, z1, z2]) ⟨Ex.rf _, _, _, _, rfl⟩
        (fun i σ H' _ q => ⟨lt_t (Ex.lt q.1) hp, str_paired _⟩) (fun i x u σ H2 H3 hx q e3 px => ?_) (fun σ H' q => k _ ((e1.tr e2).tr q.1))⟩
      obtain ⟨e4, t, z1, z2, rfl⟩ := q
      cases px
      have hm := List.mem_of_getElem? hx
      rw [hn] at hm
      refine ⟨_, rfl, _, rfl, _, _, _, rfl, Mon.up (Ex.le (((e1.tr e2).tr e4).tr e3)) pbs, fun b h => ⟨(hb b h).1, by rw [(hb b h).2.1]; exact hm⟩, fun w H5 e5 pw => ?_⟩
      cases pw
      refine ⟨_, _, rfl, rfl, _, rfl, ite2 (fun d => ?_) (fun _ => ⟨(e4.tr e3).tr e5, _, _, _, rfl⟩)⟩
      have := dT d
      have := ha x hm
      omega⟩)
def sp_check_greatest (K : PySem.W.Frag) : Sp := fun vs H Q _ => ∃ v b u c, vs = [v, u] ∧ pBk K H v b ∧ pBk K H u c ∧ BkOk b ∧ BkOk c ∧ b.names = c.names ∧ RatesEq b c ∧ (0 < b.size ∧ b.size ≤ 200) ∧ (0 < c.size ∧ c.size ≤ 200) ∧ sizes [b, c] ≤ 200 ∧ (∀ nm ∈ b.names, amts [b, c] nm ≤ 400) ∧ RetV .non H Q
theorem ok_check_greatest (T : Tx K mg) : C8.Cal P w K mg base 8 "check_greatest" (sp_check_greatest K) [] :=
  mk_check_greatest T (fn_check_greatest T (fun vs H Q E h => by obtain ⟨_, _, _, _, rfl, _⟩ := h; rfl) fun cdv A outer s H vs Q E hr h => ⟨_, (der_check_greatest T (ok_check_fit T) (ok_check_rates T) (ok_check_size T) hr).2, by
    obtain ⟨v, b, u, c, rfl, pb, pc, okb, okc, en, re, sb, sc, ss, sa, k⟩ := h
    refine ⟨_, rfl, _, rfl, _, _, _, _, rfl, pb, pc, okb, okc, en, fun H1 e1 => ?_⟩
    have pb1 := MonT.up (Ex.lt e1) pb
    have pc1 := MonT.up (Ex.lt e1) pc
    refine ⟨_, rfl, _, rfl, _, _, _, _, rfl, pb1, pc1, okb, okc, en, re, fun H2 e2 => ?_⟩
    have pb2 := MonT.up (Ex.lt e2) pb1
    have pc2 := MonT.up (Ex.lt e2) pc1
    refine ⟨_, rfl, _, rfl, by rw [sizeLine_eq]; simp, fun l nl => ?_⟩
    generalize hG : upd H2 l _ = H3
    obtain ⟨e3, h3⟩ := gen_new nl hG
    refine ⟨_, [b, c], b.names, rfl, ⟨l, _, rfl, SqL.of h3, .cons (MonT.up (Ex.lt e3) pb2) (.cons (MonT.up (Ex.lt e3) pc2) .nil)⟩, by simp, fun x hx => ?_, ss, sa, fun H4 e4 => k _ (((e1.tr e2).tr e3).tr e4)⟩
    rcases List.mem_cons.mp hx with h | h
    · rw [h]; exact ⟨okb, rfl, sb⟩
    · rw [List.mem_singleton.mp h]; exact ⟨okc, en.symm, sc⟩⟩)
/-! ### States -/
theorem spans_snoc (S : Sides) (x : Bk × Int) : spansS (S ++ [x]) = spansS S ++ x.1.periods := by unfold spansS; simp
theorem bot_snoc (S : Sides) (x : Bk × Int) : botS (S ++ [x]) = bot1 (botS S) x := by unfold botS; rw [foldl_snoc]
theorem spans_len {N : List Str} {S : Sides} (ok : SOk N S) : (spansS S).length ≤ 6 := by
  have h : ∀ x ∈ S, x.1.periods.length ≤ 3 := fun x hx => by unfold Bk.periods; rw [List.length_map]; exact (ok.ok x hx).g3
  unfold spansS
  match S, ok.len, h with
  | [], _, _ => simp
  | [x], _, h => have := h x (by simp); simp; omega
  | [x, y], _, h => have := h x (by simp); have := h y (by simp); simp; omega
theorem SOk.take {N : List Str} {S : Sides} (ok : SOk N S) (i : Nat) : SOk N (S.take i) :=
  ⟨by have := ok.len; rw [List.length_take]; omega, fun x hx => ok.ok x (List.mem_of_mem_take hx), fun x hx => ok.k2 x (List.mem_of_mem_take hx), fun x hx => ok.sg x (List.mem_of_mem_take hx), fun x hx => ok.nm x (List.mem_of_mem_take hx)⟩
def sp_States_init (K : PySem.W.Frag) : Sp := fun vs H Q _ => ∃ x dx l1 us N S H0, vs = [.ref x, .ref l1] ∧ H x = some (.ins (He.ga K "States") dx []) ∧ Ex H0 H ∧ H0 x = none ∧ SqL K H0 l1 us ∧ Paired (pSide K H0) us S ∧ SOk N S ∧
  ∀ v H', Ex H0 H' → v = .ref x → pSt K H' v S → Q .non H'
theorem ok_States_init (T : Tx K mg) : C8.Mak P w K mg base 6 "States" (He.ga K "States") (sp_States_init K) [] :=
  mk_States_init T (fn_States_init T (fun vs H Q E h => by obtain ⟨_, _, _, _, _, _, _, rfl, _⟩ := h; rfl) fun cdv A outer s H vs Q E hr h => ⟨_, (der_States_init T (ok_Book_periods T) (ok_Book_names T) (ok_common_multiple T) (ok_Book_share T) hr).2, by
    obtain ⟨x, dx, l1, us, N, S, H0, rfl, hx, e0, nx, hl1, prs, ok, k⟩ := h
    refine ⟨_, rfl, _, rfl, x, _, dx, _, rfl, hx, k_States T, a_States_sides T, (by decide : 0 < 1000), ?_⟩
    generalize hG1 : upd H x _ = H1
    have e1 : Ex H0 H1 := by subst hG1; exact Evl.Ex.mut e0 nx
    have hx1 : H1 x = some (.ins (He.ga K "States") dx [("sides", .ref l1)]) := by subst hG1; rw [upd_same]; rfl
    refine ⟨by rw [sizeLine_eq]; simp, fun l2 nl2 => ?_⟩
    generalize hG2 : upd H1 l2 _ = H2
    obtain ⟨e2, h2⟩ := gen_new nl2 hG2
    have n2 : H0 l2 = none := ex_none e1 nl2
    have ne2 : x ≠ l2 := fun e => by rw [← e, hx1] at nl2; cases nl2
    refine ⟨by rw [sizeLine_eq]; simp, fun p np => ?_⟩
    generalize hG3 : upd H2 p _ = H3
    obtain ⟨e3, h3⟩ := gen_new np hG3
    have e13 := (e1.tr e2).tr e3
    have hx3 := e3 _ _ (e2 _ _ hx1)
    refine ⟨p, _, rfl, SqT.of h3, rfl, _, _, rfl, _, rfl, x, _, dx, _, rfl, hx3, k_States T, a_States_spans T, (by decide : 1 < 1000), ?_⟩
    refine ⟨_, _, rfl, _, rfl, x, _, dx, _, rfl, upd_same, k_States T, a_States_bottom T, (by decide : 2 < 1000), rfl, ?_⟩
    generalize hG4 : upd (upd H3 x _) x _ = H4
    have e4 : Ex H0 H4 := by subst hG4; exact Evl.Ex.mut (Evl.Ex.mut e13 nx) nx
    have hx4 : H4 x = some (.ins (He.ga K "States") dx [("sides", .ref l1), ("spans", .ref l2), ("bottom", .int 1)]) := by subst hG4; rw [upd_same]; rfl
    have h4 : H4 l2 = some (.lst []) := by subst hG4; rw [upd_ne (Ne.symm ne2), upd_ne (Ne.symm ne2)]; exact e3 _ _ h2
    refine ⟨_, rfl, l1, rfl, ⟨_, sql_up e4 hl1⟩, for_wk (P := fun _ v y => pSide K H0 v y) (wk_lst (P := fun _ v y => pSide K H0 v y) (K := K) (p := l1) (vs := us) (xs := S) (paired_len prs)) (fun i σ H' => Ex H0 H' ∧ H' x = some (.ins (He.ga K "States") dx [("sides", .ref l1), ("spans", .ref l2), ("bottom", .int (botS (S.take i)))]) ∧ H' l2 = some (.lst ((spansS (S.take i)).map V.int)) ∧ ∃ z1 z2 z3, σ = [some (.ref x), some (.ref l1), z1, z2, z3]) ⟨e4, hx4, h4, _, _, _, rfl⟩
      (fun i σ H' _ q => ⟨sql_up q.1 hl1, prs⟩) (fun i y u σ H5 H6 hy q e6 py => ?_) (fun σ H' q => ?_)⟩
    · obtain ⟨e5, hx5, h5, z1, z2, z3, rfl⟩ := q
      obtain ⟨r, bv, _, rfl, hr', pb, rfl⟩ := py
      have hys := List.mem_of_getElem? hy
      have okb := ok.ok y hys
      have hx6 := e6 _ _ hx5
      have h6 := e6 _ _ h5
      have e06 := e5.tr e6
      have pb' := pb
      obtain ⟨ab, dxb, _, _, _, _, rfl, hab, _⟩ := pb'
      refine ⟨r, _, rfl, lt_t (Ex.lt e06) hr', rfl, _, _, rfl, _, _, rfl, rfl, ?_⟩
      refine ⟨_, rfl, x, _, dx, _, _, rfl, hx6, k_States T, a_States_spans T, rfl, tyL h6, _, rfl, ab, dxb, _, rfl, e06 _ _ hab, rfl, _, _, rfl, MonT.up (Ex.lt e06) pb, okb, fun w H7 e7 pw => ?_⟩
      obtain ⟨q, rfl, hq⟩ := pw
      have hx7 := e7 _ _ hx6
      have h7 := e7 _ _ h6
      have sl := spans_len (ok.take i)
      have pl : y.1.periods.length ≤ 3 := by unfold Bk.periods; rw [List.length_map]; exact okb.g3
      refine ⟨l2, q, _, _, rfl, rfl, h7, SqT.of hq, by rw [List.length_map, List.length_map]; exact z_sz (by omega), ?_⟩
      generalize hG8 : upd H7 l2 _ = H8
      have e8 : Ex H0 H8 := by subst hG8; exact Evl.Ex.mut (e06.tr e7) n2
      have hx8 : H8 x = some (.ins (He.ga K "States") dx [("sides", .ref l1), ("spans", .ref l2), ("bottom", .int (botS (S.take i)))]) := by subst hG8; rw [upd_ne ne2]; exact hx7
      have h8 : H8 l2 = some (.lst ((spansS (S.take (i + 1))).map V.int)) := by subst hG8; rw [upd_same, take_snoc hy, spans_snoc, List.map_append]
      refine ⟨_, rfl, ab, dxb, _, rfl, e8 _ _ hab, _, _, rfl, MonT.up (Ex.lt e8) pb, okb.k4, fun n1 H9 e9 p9 => ?_⟩
      obtain ⟨pn, rfl, hpn⟩ := pStrs p9
      refine ⟨pn, rfl, ⟨_, hpn⟩, for_wk (P := pStr) (wk_tup (K := K) (p := pn) (vs := y.1.names.map V.str) (xs := y.1.names) (by simp)) (fun j σ H' => Ex H0 H' ∧ (∀ a o, a ≠ x → H9 a = some o → H' a = some o) ∧ H' x = some (.ins (He.ga K "States") dx [("sides", .ref l1), ("spans", .ref l2), ("bottom", .int ((y.1.names.take j).foldl (fun t nm => cm t (shd y.1 nm).2) (botS (S.take i))))]) ∧ ∃ z, σ = [some (.ref x), some (.ref l1), some (.ref ab), some (.int y.2), z]) ⟨e8.tr e9, fun _ _ _ h => h, e9 _ _ hx8, _, rfl⟩
        (fun j σ H' _ q => ⟨sqt_ne q.2.1 (e9 _ _ hx8) hpn, str_paired _⟩) (fun j nm u σ Ha Hb hnm q eb pnm => ?_) (fun σ H' q => ?_)⟩
      · obtain ⟨ea, hne, hxa, z, rfl⟩ := q
        cases pnm
        have hm := List.mem_of_getElem? hnm
        have hxb := eb _ _ hxa
        have e0b := ea.tr eb
        obtain ⟨s1, s2, s3⟩ := shd_bd okb hm
        have hpos : 0 < (y.1.names.take j).foldl (fun t nm => cm t (shd y.1 nm).2) (botS (S.take i)) :=
          (fold_cm (f := fun nm => (shd y.1 nm).2) (B := 625) (by decide) _ _ (bot_bd (ok.take i)).1 fun nm h => ⟨(shd_bd okb (List.mem_of_mem_take h)).2.1, (shd_bd okb (List.mem_of_mem_take h)).2.2⟩).1
        refine ⟨_, rfl, x, _, dx, _, _, rfl, hxb, k_States T, a_States_bottom T, rfl, _, rfl, ab, dxb, _, rfl, e0b _ _ hab, rfl, _, rfl, _, _, _, rfl, MonT.up (Ex.lt e0b) pb, okb, hm, fun w Hc ec pw => ?_⟩
        obtain ⟨t, _, _, rfl, ht, rfl, rfl⟩ := pw
        refine ⟨t, _, _, _, rfl, rfl, ht, rfl, _, _, rfl, Int.le_of_lt hpos, s2, by show (shd y.1 nm).2 < _; omega, ?_⟩
        refine ⟨_, rfl, x, _, dx, _, rfl, ec _ _ hxb, k_States T, a_States_bottom T, (by decide : 3 < 1000), ?_⟩
        refine ⟨Evl.Ex.mut (e0b.tr ec) nx, fun a o h1 h2 => by rw [upd_ne h1]; exact ec _ _ (eb _ _ (hne a o h1 h2)), ?_, _, rfl⟩
        rw [upd_same, take_snoc hnm, foldl_snoc]
        rfl
      · obtain ⟨ea, hne, hxa, z, rfl⟩ := q
        rw [List.take_length] at hxa
        refine ⟨ea, ?_, hne _ _ (Ne.symm ne2) (e9 _ _ h8), _, _, _, rfl⟩
        rw [hxa, take_snoc hy, bot_snoc]
        rfl
    · obtain ⟨e5, hx5, h5, z1, z2, z3, rfl⟩ := q
      rw [List.take_length] at hx5 h5
      exact k _ _ e5 rfl ⟨x, dx, l1, us, l2, rfl, hx5, sql_up e5 hl1, paired_upT (Ex.lt e5) prs, SqL.of h5⟩⟩)
end
end Lf

set_option Elab.async false
set_option linter.all false
set_option maxRecDepth 100000
set_option maxHeartbeats 4000000
namespace Lf
open PySem PySem.Spec PyProof.Rows L2 Lc Lr Lm
section
variable {P : Program} {w : World} {K : PySem.W.Frag} {mg : Str → Option Value} {base : Heap}
/-! ### slices of tuples of ints -/
theorem cut_gen {H : Hp} {p : Addr} {xs : List Int} {lo hi : Option Int} {i j : Nat} {Q : VK} (hp : SqT K H p (xs.map V.int)) (h1 : HT.sIx xs.length 0 lo = i) (h2 : HT.sIx xs.length xs.length hi = j) (h : ∀ q H1, Ex H H1 → SqT K H1 q (((xs.drop i).take (j - i)).map V.int) → Q (.ref q) H1) : rSlA K (.ref p) lo hi H Q := by
  have hl : (xs.map V.int).length = xs.length := List.length_map ..
  refine ⟨p, _, rfl, hp, fun ⟨h3, h4⟩ => ?_, fun _ q nq => ?_⟩
  · rw [hl] at h3 h4
    rw [h1] at h3
    rw [h2] at h4
    refine h p H (Ex.rf _) ?_
    rw [h3, h4, List.drop_zero, Nat.sub_zero, List.take_length]
    exact hp
  · generalize hG : upd H q _ = H1
    obtain ⟨e1, h5⟩ := gen_new nq hG
    unfold cutV at h5
    rw [hl, h1, h2, ← List.map_drop, ← List.map_take] at h5
    exact h q H1 e1 (SqT.of h5)
theorem per_all {N : List Str} {S : Sides} (ok : SOk N S) : ∀ p ∈ spansS S, 0 < p ∧ p ≤ 729000000 := by
  intro p hp
  obtain ⟨x, hx, h⟩ := List.mem_flatMap.mp hp
  obtain ⟨g, hg, rfl⟩ := List.mem_map.mp h
  have okb := ok.ok x hx
  obtain ⟨gg, gl⟩ := okb.go _ hg
  exact per_small (by have := okb.wo.2; simp only [List.length_append]; omega) (good_app gg okb.wo.1)
def sp_empty (K : PySem.W.Frag) : Sp := fun vs H Q _ => ∃ v S, vs = [v] ∧ pSt K H v S ∧ 2 ≤ (spansS S).length ∧ (spansS S).length ≤ 1000 ∧ Ret pKey (zerov (spansS S)) H Q
theorem ok_empty (T : Tx K mg) : C8.Met P w K mg base 1 (He.ga K "States") "empty" (sp_empty K) [] :=
  mk_States_empty T (fn_States_empty T (fun vs H Q E h => by obtain ⟨_, _, rfl, _⟩ := h; rfl) fun cdv A outer s H vs Q E hr h => ⟨_, (der_States_empty T hr).2, by
    obtain ⟨v, S, rfl, ⟨a, dx, l1, us, l2, rfl, ha, hl1, prs, hl2⟩, hs, hs2, k⟩ := h
    refine ⟨by rw [sizeLine_eq]; simp, fun p np => ?_⟩
    generalize hG : upd H p _ = H1
    obtain ⟨e1, h1⟩ := gen_new np hG
    refine ⟨_, rfl, a, _, dx, _, _, rfl, e1 _ _ ha, k_States T, a_States_spans T, rfl, l2, _, rfl, .inl (sql_up e1 hl2), ?_⟩
    rw [show ((spansS S).map V.int).length = (spansS S).length from List.length_map ..]
    refine ⟨p, _, _, rfl, rfl, SqT.of h1, by simp, by omega, by omega, by simp, fun q nq => ?_⟩
    generalize hG2 : upd H1 q _ = H2
    obtain ⟨e2, h2⟩ := gen_new nq hG2
    rw [Int.toNat_natCast, rep_flat] at h2
    exact k _ _ (e1.tr e2) ⟨q, rfl, h2⟩⟩)
def sp_reduced (K : PySem.W.Frag) : Sp := fun vs H Q _ => ∃ v u S N s, vs = [v, u] ∧ pSt K H v S ∧ SOk N S ∧ pTup K pInt H u s ∧ Ret pKey (redv (spansS S) s) H Q
theorem ok_reduced (T : Tx K mg) : C8.Met P w K mg base 1 (He.ga K "States") "reduced" (sp_reduced K) [] :=
  mk_States_reduced T (fn_States_reduced T (fun vs H Q E h => by obtain ⟨_, _, _, _, _, rfl, _⟩ := h; rfl) fun cdv A outer s H vs Q E hr h => ⟨_, (der_States_reduced T hr).2, by
    obtain ⟨v, u, S, N, ss, rfl, ⟨a, dx, l1, us, l2, rfl, ha, hl1, prs, hl2⟩, ok, pu, k⟩ := h
    obtain ⟨p, rfl, hp⟩ := pInts pu
    refine ⟨_, rfl, _, rfl, a, _, dx, _, _, rfl, ha, k_States T, a_States_spans T, rfl, false, true, p, l2, ss.map V.int, (spansS S).map V.int, rfl, hp, hl2,
      ⟨lc_map (P := pZip K pInt pInt) (R := pInt) (wk_Z2 (K := K) (P := pInt) (R := pInt) (k1 := false) (k2 := true) (a := p) (b := l2) (us := ss.map V.int) (vs := (spansS S).map V.int) (xs := ss) (ys := spansS S) (by simp) (by simp)) (fun x => x.1 % x.2) (by rw [List.length_zip]; have := spans_len ok; omega) (fun H' e => ⟨⟨lt_t (Ex.lt e) hp, sql_up e hl2⟩, int_paired _, int_paired _⟩) (fun i x v H1 hx e pv N Z kz => ?_) (fun L H1 ws hL e hl pw => ?_)⟩⟩
    · obtain ⟨q, _, _, rfl, hq, rfl, rfl⟩ := pv
      have hpos := (per_all ok x.2 (List.of_mem_zip (List.mem_of_getElem? hx)).2).1
      exact ⟨q, _, rfl, hq, rfl, _, _, rfl, _, _, rfl, rfl, rfl, _, rfl, _, rfl, _, _, rfl, rfl, hpos, kz _ _ (Ex.rf _) rfl⟩
    · rw [paired_int pw] at hl
      refine ⟨L, _, rfl, .inl ⟨SqL.of hl, fun l n => ?_⟩⟩
      generalize hG : upd H1 l _ = H2
      obtain ⟨e2, h2⟩ := gen_new n hG
      exact k _ _ (e.tr e2) ⟨l, rfl, h2⟩⟩)
def sp_added (K : PySem.W.Frag) : Sp := fun vs H Q _ => ∃ v u t S N s m, vs = [v, u, t] ∧ pSt K H v S ∧ SOk N S ∧ pTup K pInt H u s ∧ pTup K pInt H t m ∧ Ret pKey (addv (spansS S) s m) H Q
theorem ok_added (T : Tx K mg) : C8.Met P w K mg base 1 (He.ga K "States") "added" (sp_added K) [] :=
  mk_States_added T (fn_States_added T (fun vs H Q E h => by obtain ⟨_, _, _, _, _, _, _, rfl, _⟩ := h; rfl) fun cdv A outer s H vs Q E hr h => ⟨_, (der_States_added T hr).2, by
    obtain ⟨v, u, t, S, N, ss, m, rfl, ⟨a, dx, l1, us, l2, rfl, ha, hl1, prs, hl2⟩, ok, pu, pt, k⟩ := h
    obtain ⟨p, rfl, hp⟩ := pInts pu
    obtain ⟨q, rfl, hq⟩ := pInts pt
    refine ⟨_, rfl, _, rfl, _, rfl, a, _, dx, _, _, rfl, ha, k_States T, a_States_spans T, rfl, false, false, true, p, q, l2, ss.map V.int, m.map V.int, (spansS S).map V.int, rfl, hp, hq, hl2,
      ⟨lc_map (P := pZip3 K pInt pInt pInt) (R := pInt) (wk_Z3 (K := K) (P := pInt) (R := pInt) (S := pInt) (k1 := false) (k2 := false) (k3 := true) (a := p) (b := q) (c := l2) (us := ss.map V.int) (vs := m.map V.int) (ws := (spansS S).map V.int) (xs := ss) (ys := m) (zs := spansS S) (by simp) (by simp) (by simp)) (fun x => (x.1 + x.2.1) % x.2.2) (by rw [List.length_zip, List.length_zip]; have := spans_len ok; omega) (fun H' e => ⟨⟨lt_t (Ex.lt e) hp, lt_t (Ex.lt e) hq, sql_up e hl2⟩, int_paired _, int_paired _, int_paired _⟩) (fun i x v H1 hx e pv N Z kz => ?_) (fun L H1 ws hL e hl pw => ?_)⟩⟩
    · obtain ⟨r, _, _, _, rfl, hr', rfl, rfl, rfl⟩ := pv
      have hpos := (per_all ok x.2.2 (List.of_mem_zip (List.of_mem_zip (List.mem_of_getElem? hx)).2).2).1
      exact ⟨r, _, rfl, hr', rfl, _, _, rfl, _, _, rfl, _, _, rfl, rfl, rfl, _, rfl, _, rfl, _, _, rfl, rfl, _, rfl, _, _, rfl, rfl, hpos, kz _ _ (Ex.rf _) rfl⟩
    · rw [paired_int pw] at hl
      refine ⟨L, _, rfl, .inl ⟨SqL.of hl, fun l n => ?_⟩⟩
      generalize hG : upd H1 l _ = H2
      obtain ⟨e2, h2⟩ := gen_new n hG
      exact k _ _ (e.tr e2) ⟨l, rfl, h2⟩⟩)
def moveS (S : Sides) (nm : Str) (a : Int) : List Int := S.flatMap fun x => bsums x.1 [(nm, a)]
theorem move_snoc (S : Sides) (x : Bk × Int) (nm : Str) (a : Int) : moveS (S ++ [x]) nm a = moveS S nm a ++ bsums x.1 [(nm, a)] := by unfold moveS; simp
theorem move_len {S : Sides} {nm : Str} {a : Int} : (moveS S nm a).length = (spansS S).length := by
  unfold moveS spansS
  rw [List.length_flatMap, List.length_flatMap]
  congr 1
  refine List.map_congr_left fun x _ => ?_
  rw [bsums_len x.1 _ _ rfl]
  unfold Bk.periods
  rw [List.length_map]
def sp_move (K : PySem.W.Frag) : Sp := fun vs H Q _ => ∃ v S N nm a, vs = [v, .str nm, .int a] ∧ pSt K H v S ∧ SOk N S ∧ nm ∈ N ∧ 0 ≤ a ∧ Ret pKey (moveS S nm a) H Q
theorem ok_move (T : Tx K mg) : C8.Met P w K mg base 6 (He.ga K "States") "move" (sp_move K) [] :=
  mk_States_move T (fn_States_move T (fun vs H Q E h => by obtain ⟨_, _, _, _, _, rfl, _⟩ := h; rfl) fun cdv A outer s H vs Q E hr h => ⟨_, (der_States_move T (ok_Book_sums T) hr).2, by
    obtain ⟨v, S, N, nm, am, rfl, ⟨a, dx, l1, us, l2, rfl, ha, hl1, prs, hl2⟩, ok, hn, ha0, k⟩ := h
    refine ⟨by rw [sizeLine_eq]; simp, fun l nl => ?_⟩
    generalize hG : upd H l _ = H1
    obtain ⟨e1, h1⟩ := gen_new nl hG
    refine ⟨_, rfl, a, _, dx, _, _, rfl, e1 _ _ ha, k_States T, a_States_sides T, rfl, l1, rfl, ⟨_, sql_up e1 hl1⟩, for_wk (P := fun _ v y => pSide K H v y) (wk_lst (P := fun _ v y => pSide K H v y) (K := K) (p := l1) (vs := us) (xs := S) (paired_len prs)) (fun i σ H' => Ex H H' ∧ H' l = some (.lst ((moveS (S.take i) nm am).map V.int)) ∧ ∃ z1 z2, σ = [some (.ref a), some (.str nm), some (.int am), some (.ref l), z1, z2]) ⟨e1, h1, _, _, rfl⟩
      (fun i σ H' _ q => ⟨sql_up q.1 hl1, prs⟩) (fun i y u σ H2 H3 hy q e3 py => ?_) (fun σ H' q => ?_)⟩
    · obtain ⟨e2, h2, z1, z2, rfl⟩ := q
      obtain ⟨r, bv, _, rfl, hr', pb, rfl⟩ := py
      have hys := List.mem_of_getElem? hy
      have okb := ok.ok y hys
      have e23 := e2.tr e3
      have pb' := pb
      obtain ⟨ab, dxb, _, _, _, _, rfl, hab, _⟩ := pb'
      have h3 := e3 _ _ h2
      refine ⟨r, _, rfl, lt_t (Ex.lt e23) hr', rfl, _, _, rfl, _, _, rfl, rfl, ?_⟩
      refine ⟨_, rfl, tyL h3, _, rfl, ab, dxb, _, rfl, e23 _ _ hab, rfl, _, rfl, _, rfl, by rw [sizeLine_eq]; simp, fun p np => ?_⟩
      generalize hG4 : upd H3 p _ = H4
      obtain ⟨e4, h4⟩ := gen_new np hG4
      refine ⟨by rw [sizeLine_eq]; simp, fun p2 np2 => ?_⟩
      generalize hG5 : upd H4 p2 _ = H5
      obtain ⟨e5, h5⟩ := gen_new np2 hG5
      refine ⟨_, _, _, [(nm, am)], rfl, MonT.up (Ex.lt ((e23.tr e4).tr e5)) pb, okb, ⟨p2, _, rfl, SqT.of h5, .cons ⟨p, _, _, rfl, SqT.of (e5 _ _ h4), rfl, rfl⟩ .nil⟩, fun x hx => by rw [List.mem_singleton.mp hx]; exact ⟨by rw [ok.nm y hys]; exact hn, ha0⟩, fun w H6 e6 pw => ?_⟩
      obtain ⟨q, rfl, hq⟩ := pw
      have h6 := e6 _ _ (e5 _ _ (e4 _ _ h3))
      have sl := spans_len (ok.take i)
      have bl : (bsums y.1 [(nm, am)]).length ≤ 3 := by rw [bsums_len y.1 _ _ rfl]; exact okb.g3
      refine ⟨l, q, _, _, rfl, rfl, h6, SqT.of hq, by rw [List.length_map, List.length_map, move_len]; exact z_sz (by omega), Evl.Ex.mut (((e23.tr e4).tr e5).tr e6) nl, ?_, _, _, rfl⟩
      rw [upd_same, take_snoc hy, move_snoc, List.map_append]
    · obtain ⟨e2, h2, z1, z2, rfl⟩ := q
      rw [List.take_length] at h2
      refine ⟨_, rfl, l, _, rfl, .inl ⟨SqL.of h2, fun m n => ?_⟩⟩
      generalize hG7 : upd H' m _ = H7
      obtain ⟨e7, h7⟩ := gen_new n hG7
      exact k _ _ (e2.tr e7) ⟨m, rfl, h7⟩⟩)
def wgt1 (B : Int) (x : Bk × Int) (nm : Str) (a : Int) : Int := x.2 * led (kAt x.1 nm).steps a * (shd x.1 nm).1 * (B / (shd x.1 nm).2)
def wgtS (B : Int) (S : Sides) (nm : Str) (a : Int) : Int := S.foldl (fun t x => t + wgt1 B x nm a) 0
def sp_weight (K : PySem.W.Frag) : Sp := fun vs H Q _ => ∃ v S N nm a, vs = [v, .str nm, .int a] ∧ pSt K H v S ∧ SOk N S ∧ nm ∈ N ∧ 0 ≤ a ∧ Ret pInt (wgtS (botS S) S nm a) H Q
theorem bot_div {N : List Str} {S : Sides} (ok : SOk N S) {d : Int} (hd : 0 < d) : 0 ≤ botS S / d ∧ botS S / d ≤ 152587890625 := by
  obtain ⟨h1, h2⟩ := bot_bd ok
  have h3 := Int.ediv_nonneg (Int.le_of_lt h1) (Int.le_of_lt hd)
  have h4 : botS S / d ≤ botS S := Int.ediv_le_self _ (Int.le_of_lt h1)
  omega
theorem ok_weight (T : Tx K mg) : C8.Met P w K mg base 6 (He.ga K "States") "weight" (sp_weight K) [] :=
  mk_States_weight T (fn_States_weight T (fun vs H Q E h => by obtain ⟨_, _, _, _, _, rfl, _⟩ := h; rfl) fun cdv A outer s H vs Q E hr h => ⟨_, (der_States_weight T (ok_Book_share T) (ok_Book_value T) hr).2, by
    obtain ⟨v, S, N, nm, am, rfl, ⟨a, dx, l1, us, l2, rfl, ha, hl1, prs, hl2⟩, ok, hn, ha0, k⟩ := h
    refine ⟨_, rfl, a, _, dx, _, _, rfl, ha, k_States T, a_States_sides T, rfl, l1, rfl, ⟨_, hl1⟩, for_wk (P := fun _ v y => pSide K H v y) (wk_lst (P := fun _ v y => pSide K H v y) (K := K) (p := l1) (vs := us) (xs := S) (paired_len prs)) (fun i σ H' => Ex H H' ∧ ∃ z1 z2 z3, σ = [some (.ref a), some (.str nm), some (.int am), some (.int (wgtS (botS S) (S.take i) nm am)), z1, z2, z3]) ⟨Ex.rf _, _, _, _, rfl⟩
      (fun i σ H' _ q => ⟨sql_up q.1 hl1, prs⟩) (fun i y u σ H2 H3 hy q e3 py => ?_) (fun σ H' q => ?_)⟩
    · obtain ⟨e2, z1, z2, z3, rfl⟩ := q
      obtain ⟨r, bv, _, rfl, hr', pb, rfl⟩ := py
      have hys := List.mem_of_getElem? hy
      have okb := ok.ok y hys
      have hnm : nm ∈ y.1.names := by rw [ok.nm y hys]; exact hn
      have e23 := e2.tr e3
      have pb' := pb
      obtain ⟨ab, dxb, _, _, _, _, rfl, hab, _⟩ := pb'
      obtain ⟨⟨s1, s2⟩, s3, s4⟩ := shd_bd okb hnm
      obtain ⟨d1, d2⟩ := bot_div ok s3
      have sg := ok.sg y hys
      refine ⟨r, _, rfl, lt_t (Ex.lt e23) hr', rfl, _, _, rfl, _, _, rfl, rfl, ?_⟩
      refine ⟨_, rfl, ab, dxb, _, rfl, e23 _ _ hab, rfl, _, rfl, _, _, _, rfl, MonT.up (Ex.lt e23) pb, okb, hnm, fun w H4 e4 pw => ?_⟩
      obtain ⟨t, _, _, rfl, ht, rfl, rfl⟩ := pw
      have e24 := e23.tr e4
      refine ⟨_, rfl, _, rfl, _, rfl, ab, dxb, _, rfl, e24 _ _ hab, rfl, _, rfl, _, rfl, _, _, _, _, rfl, MonT.up (Ex.lt e24) pb, okb, hnm, ha0, fun w H5 e5 pw => ?_⟩
      cases pw
      have ht5 := lt_t (Ex.lt e5) ht
      have e25 := e24.tr e5
      have ew : wgtS (botS S) (S.take (i + 1)) nm am = wgtS (botS S) (S.take i) nm am + wgt1 (botS S) y nm am := by
        rw [take_snoc hy]
        unfold wgtS
        rw [foldl_snoc]
      rw [ew]
      refine ⟨_, _, rfl, rfl, mulL (by omega) (by omega), _, rfl, _, _, _, _, rfl, rfl, ht5, rfl, _, _, rfl, rfl, mulR (by show _ < (shd y.1 nm).1; omega) (by show (shd y.1 nm).1 < _; omega), _, rfl, a, _, dx, _, _, rfl, e25 _ _ ha, k_States T, a_States_bottom T, rfl, _, rfl, _, _, _, _, rfl, rfl, ht5, rfl, _, _, rfl, rfl, ⟨s3, lt64 (Int.le_of_lt s3) (by show (shd y.1 nm).2 < _; omega)⟩, _, _, rfl, rfl, mulR (by show _ < botS S / (shd y.1 nm).2; omega) (by show botS S / (shd y.1 nm).2 < _; omega), _, _, rfl, rfl, e25, _, _, _, rfl⟩
    · obtain ⟨e2, z1, z2, z3, rfl⟩ := q
      rw [List.take_length]
      exact ⟨_, rfl, k _ _ e2 rfl⟩⟩)
end
end Lf

set_option Elab.async false
set_option linter.all false
set_option maxRecDepth 100000
set_option maxHeartbeats 4000000
namespace Lf
open PySem PySem.Spec PyProof.Rows L2 Lc Lr Lm
section
variable {P : Program} {w : World} {K : PySem.W.Frag} {mg : Str → Option Value} {base : Heap}
def gap1 (s : Vec) (q : Int × Nat) (x : Bk × Int) : Int × Nat := (q.1 + x.2 * x.1.askS ((s.drop q.2).take x.1.groups.length), q.2 + x.1.groups.length)
def gapF (S : Sides) (s : Vec) : Int × Nat := S.foldl (gap1 s) (0, 0)
def gapS (S : Sides) (s : Vec) : Int := (gapF S s).1
theorem gapF_snoc (S : Sides) (x : Bk × Int) (s : Vec) : gapF (S ++ [x]) s = gap1 s (gapF S s) x := by unfold gapF; rw [foldl_snoc]
theorem gapF_at (s : Vec) : ∀ (n : Nat) (S : Sides), S.length = n → (gapF S s).2 = (spansS S).length := by
  intro n
  induction n with
  | zero => intro S h; rw [List.length_eq_zero_iff.mp h]; rfl
  | succ n ih =>
    intro S h
    obtain ⟨T, x, rfl⟩ := snoc_of (l := S) (fun e => by rw [e] at h; cases h)
    rw [gapF_snoc, spans_snoc, List.length_append, ← ih T (by simpa using h)]
    show _ + x.1.groups.length = _
    unfold Bk.periods
    rw [List.length_map]
def sp_gap (K : PySem.W.Frag) : Sp := fun vs H Q _ => ∃ v u S N s, vs = [v, u] ∧ pSt K H v S ∧ SOk N S ∧ pTup K pInt H u s ∧ s.length = (spansS S).length ∧ Ret pInt (gapS S s) H Q
theorem spans_take_le (S : Sides) (i : Nat) : (spansS (S.take i)).length ≤ (spansS S).length := by
  conv => rhs; rw [← List.take_append_drop i S]
  unfold spansS
  rw [List.flatMap_append, List.length_append]
  omega
theorem ok_gap (T : Tx K mg) : C8.Met P w K mg base 4 (He.ga K "States") "gap" (sp_gap K) [] :=
  mk_States_gap T (fn_States_gap T (fun vs H Q E h => by obtain ⟨_, _, _, _, _, rfl, _⟩ := h; rfl) fun cdv A outer s H vs Q E hr h => ⟨_, (der_States_gap T (ok_Book_groups T) (ok_ask_of_sums T) hr).2, by
    obtain ⟨v, u, S, N, ss, rfl, ⟨a, dx, l1, us, l2, rfl, ha, hl1, prs, hl2⟩, ok, pu, hsl, k⟩ := h
    obtain ⟨p, rfl, hp⟩ := pInts pu
    refine ⟨by rw [sizeLine_eq]; simp, fun q0 n0 => ?_⟩
    generalize hG : upd H q0 _ = H1
    obtain ⟨e1, h1⟩ := gen_new n0 hG
    refine ⟨q0, _, rfl, SqT.of h1, rfl, _, _, rfl, _, _, rfl, rfl, ?_⟩
    refine ⟨_, rfl, a, _, dx, _, _, rfl, e1 _ _ ha, k_States T, a_States_sides T, rfl, l1, rfl, ⟨_, sql_up e1 hl1⟩, for_wk (P := fun _ v y => pSide K H v y) (wk_lst (P := fun _ v y => pSide K H v y) (K := K) (p := l1) (vs := us) (xs := S) (paired_len prs)) (fun i σ H' => Ex H H' ∧ ∃ z1 z2 z3, σ = [some (.ref a), some (.ref p), some (.int (gapF (S.take i) ss).1), some (.int ((gapF (S.take i) ss).2 : Nat)), z1, z2, z3]) ⟨e1, _, _, _, rfl⟩
      (fun i σ H' _ q => ⟨sql_up q.1 hl1, prs⟩) (fun i y u σ H2 H3 hy q e3 py => ?_) (fun σ H' q => ?_)⟩
    · obtain ⟨e2, z1, z2, z3, rfl⟩ := q
      obtain ⟨r, bv, _, rfl, hr', pb, rfl⟩ := py
      have hys := List.mem_of_getElem? hy
      have okb := ok.ok y hys
      have e23 := e2.tr e3
      have pb' := pb
      obtain ⟨ab, dxb, _, _, _, _, rfl, hab, _⟩ := pb'
      have sg := ok.sg y hys
      have hat := gapF_at ss _ (S.take i) rfl
      have hle := spans_take_le S (i + 1)
      rw [take_snoc hy, spans_snoc, List.length_append] at hle
      have hpl : y.1.periods.length = y.1.groups.length := by unfold Bk.periods; rw [List.length_map]
      refine ⟨r, _, rfl, lt_t (Ex.lt e23) hr', rfl, _, _, rfl, _, _, rfl, rfl, ?_⟩
      refine ⟨_, rfl, ab, dxb, _, rfl, e23 _ _ hab, _, _, rfl, MonT.up (Ex.lt e23) pb, fun w H4 e4 pw => ?_⟩
      obtain ⟨g, vs4, rfl, hg, prg⟩ := pw
      have e24 := e23.tr e4
      refine ⟨g, _, rfl, .inr hg, ?_⟩
      rw [paired_len prg]
      refine ⟨_, rfl, _, rfl, _, rfl, ab, dxb, _, rfl, e24 _ _ hab, rfl, _, rfl, _, rfl, _, rfl, _, rfl, _, rfl, _, _, rfl, rfl, _, rfl, ?_⟩
      refine cut_gen (i := (gapF (S.take i) ss).2) (j := (gapF (S.take i) ss).2 + y.1.groups.length) (lt_t (Ex.lt e24) hp) ?_ ?_ fun q H5 e5 hq => ?_
      · rw [HT.sIx_nat]
        omega
      · have e : (((gapF (S.take i) ss).2 : Nat) : Int) + (y.1.groups.length : Nat) = (((gapF (S.take i) ss).2 + y.1.groups.length : Nat) : Int) := by omega
        show HT.sIx _ _ (some ((((gapF (S.take i) ss).2 : Nat) : Int) + (y.1.groups.length : Nat))) = _
        rw [e, HT.sIx_nat]
        omega
      have e25 := e24.tr e5
      refine ⟨_, _, _, _, rfl, MonT.up (Ex.lt e25) pb, okb, ofInts hq, fun w H6 e6 pw => ?_⟩
      cases pw
      rw [take_snoc hy, gapF_snoc]
      rw [show (gapF (S.take i) ss).2 + y.1.groups.length - (gapF (S.take i) ss).2 = y.1.groups.length by omega]
      refine ⟨_, _, rfl, rfl, mulL (by omega) (by omega), _, _, rfl, rfl, _, rfl, _, rfl, _, _, rfl, rfl, e25.tr e6, some (.ref ab), some (.int y.2), some (.int (y.1.groups.length : Nat)), ?_⟩
      have e : ((((gap1 ss (gapF (S.take i) ss) y).2 : Nat)) : Int) = (((gapF (S.take i) ss).2 : Nat) : Int) + (y.1.groups.length : Nat) := by
        show (((gapF (S.take i) ss).2 + y.1.groups.length : Nat) : Int) = _
        omega
      rw [e]
      rfl
    · obtain ⟨e2, z1, z2, z3, rfl⟩ := q
      rw [List.take_length]
      exact ⟨_, rfl, k _ _ e2 rfl⟩⟩)
def sog (B : Int) (b : Bk) (g : Int) : Int := match b.kinds.find? (fun k => decide ((k.grp : Int) = g)) with
  | some k => (shd b k.name).1 * (B / (shd b k.name).2)
  | none => 0
def sp_sog (K : PySem.W.Frag) : Sp := fun vs H Q _ => ∃ v u S N b g, vs = [v, u, .int g] ∧ pSt K H v S ∧ SOk N S ∧ pBk K H u b ∧ BkOk b ∧ Ret pInt (sog (botS S) b g) H Q
theorem find_at {α : Type} {f : α → Bool} {l : List α} {i : Nat} {x : α} (hx : l[i]? = some x) (hn : f x = true) (hb : ∀ y ∈ l.take i, f y = false) : l.find? f = some x := by
  have hi := (List.getElem?_eq_some_iff.mp hx)
  obtain ⟨h1, h2⟩ := hi
  have e : l = l.take i ++ x :: l.drop (i + 1) := by rw [← h2, ← List.drop_eq_getElem_cons h1, List.take_append_drop]
  rw [e, List.find?_append]
  have e1 : (l.take i).find? f = none := by
    rw [List.find?_eq_none]
    intro y hy
    rw [hb y hy]
    exact Bool.false_ne_true
  rw [e1]
  simp [hn]
theorem ok_sog (T : Tx K mg) : C8.Met P w K mg base 6 (He.ga K "States") "share_of_group" (sp_sog K) [] :=
  mk_States_share_of_group T (fn_States_share_of_group T (fun vs H Q E h => by obtain ⟨_, _, _, _, _, _, rfl, _⟩ := h; rfl) fun cdv A outer s H vs Q E hr h => ⟨_, (der_States_share_of_group T (ok_Book_kinds T) (ok_Book_share T) hr).2, by
    obtain ⟨v, u, S, N, b, g, rfl, ⟨a, dx, l1, us, l2, rfl, ha, hl1, prs, hl2⟩, ok, pb, okb, k⟩ := h
    have pb' := pb
    obtain ⟨ab, dxb, _, _, _, _, rfl, hab, _⟩ := pb'
    refine ⟨_, rfl, ab, dxb, _, rfl, hab, _, _, rfl, pb, fun w H1 e1 pw => ?_⟩
    obtain ⟨p, vs1, rfl, hp, pr⟩ := pw
    refine ⟨p, rfl, ⟨_, hp⟩, for_wk (P := pKnd K) (wk_tup (K := K) (p := p) (vs := vs1) (xs := b.kinds) (paired_len pr)) (fun i σ H' => Ex H1 H' ∧ (∀ y ∈ b.kinds.take i, decide ((y.grp : Int) = g) = false) ∧ ∃ z1 z2 z3 z4, σ = [some (.ref a), some (.ref ab), some (.int g), z1, z2, z3, z4]) ⟨Ex.rf _, by simp, _, _, _, _, rfl⟩
      (fun i σ H' _ q => ⟨lt_t (Ex.lt q.1) hp, paired_upT (Ex.lt q.1) pr⟩) (fun i x u σ H2 H3 hx q e3 px => ?_) (fun σ H' q => ?_)⟩
    · obtain ⟨e2, hb, z1, z2, z3, z4, rfl⟩ := q
      obtain ⟨r, t, rfl, hr', _⟩ := px
      have e13 := (e1.tr e2).tr e3
      have hm := List.mem_of_getElem? hx
      have hnm : x.name ∈ b.names := List.mem_map_of_mem hm
      refine ⟨r, _, rfl, hr', rfl, _, _, rfl, _, _, rfl, _, _, rfl, rfl, ?_⟩
      refine ⟨_, rfl, _, rfl, rfl, _, rfl, ite2 (fun c => ?_) (fun c => ?_)⟩
      · have c : (x.grp : Int) = g := by have := dT c; injection this
        have ef : sog (botS S) b g = (shd b x.name).1 * (botS S / (shd b x.name).2) := by
          unfold sog
          rw [find_at hx (decide_eq_true c) hb]
        rw [ef] at k
        obtain ⟨⟨s1, s2⟩, s3, s4⟩ := shd_bd okb hnm
        refine ⟨_, rfl, ab, dxb, _, rfl, e13 _ _ hab, rfl, _, rfl, _, _, _, rfl, MonT.up (Ex.lt e13) pb, okb, hnm, fun w H4 e4 pw => ?_⟩
        obtain ⟨t, _, _, rfl, ht, rfl, rfl⟩ := pw
        have e14 := e13.tr e4
        exact ⟨_, rfl, _, _, _, _, rfl, rfl, ht, rfl, _, rfl, a, _, dx, _, _, rfl, e14 _ _ ha, k_States T, a_States_bottom T, rfl, _, rfl, _, _, _, _, rfl, rfl, ht, rfl, _, _, rfl, rfl, ⟨s3, lt64 (Int.le_of_lt s3) (by show (shd b x.name).2 < _; omega)⟩, _, _, rfl, rfl, mulL (by show _ < (shd b x.name).1; omega) (by show (shd b x.name).1 < _; omega), k _ _ e14 rfl⟩
      · have c := dF c
        refine ⟨e2.tr e3, fun y hy => ?_, _, _, _, _, rfl⟩
        rw [take_snoc hx] at hy
        rcases List.mem_append.mp hy with h | h
        · exact hb y h
        · rw [List.mem_singleton.mp h]
          exact decide_eq_false fun z => c (congrArg V.int z)
    · obtain ⟨e2, hb, _⟩ := q
      rw [List.take_length] at hb
      refine k _ _ (e1.tr e2) ?_
      have : b.kinds.find? (fun k => decide ((k.grp : Int) = g)) = none := by
        rw [List.find?_eq_none]
        intro y hy
        rw [hb y hy]
        exact Bool.false_ne_true
      unfold sog
      rw [this]
      rfl⟩)
def ordS (ps m : Vec) : Int := (m.zip ps).foldl (fun t x => cm t (x.2 / cd x.1 x.2)) 1
def sp_order (K : PySem.W.Frag) : Sp := fun vs H Q _ => ∃ v u S N m, vs = [v, u] ∧ pSt K H v S ∧ SOk N S ∧ pTup K pInt H u m ∧ (∀ x ∈ m, 0 ≤ x) ∧ Ret pInt (ordS (spansS S) m) H Q
theorem ok_order (T : Tx K mg) : C8.Met P w K mg base 3 (He.ga K "States") "order" (sp_order K) [] :=
  mk_States_order T (fn_States_order T (fun vs H Q E h => by obtain ⟨_, _, _, _, _, rfl, _⟩ := h; rfl) fun cdv A outer s H vs Q E hr h => ⟨_, (der_States_order T (ok_common_multiple T) (ok_common_divisor T) hr).2, by
    obtain ⟨v, u, S, N, m, rfl, ⟨a, dx, l1, us, l2, rfl, ha, hl1, prs, hl2⟩, ok, pu, hm0, k⟩ := h
    obtain ⟨p, rfl, hp⟩ := pInts pu
    refine ⟨_, rfl, _, rfl, a, _, dx, _, _, rfl, ha, k_States T, a_States_spans T, rfl, false, true, p, l2, m.map V.int, (spansS S).map V.int, rfl, hp, hl2,
      for_wk (P := pZip K pInt pInt) (wk_Z2 (K := K) (P := pInt) (R := pInt) (k1 := false) (k2 := true) (a := p) (b := l2) (us := m.map V.int) (vs := (spansS S).map V.int) (xs := m) (ys := spansS S) (by simp) (by simp)) (fun i σ H' => Ex H H' ∧ ∃ z1 z2, σ = [some (.ref a), some (.ref p), some (.int (((m.zip (spansS S)).take i).foldl (fun t x => cm t (x.2 / cd x.1 x.2)) 1)), z1, z2]) ⟨Ex.rf _, _, _, rfl⟩
      (fun i σ H' _ q => ⟨⟨lt_t (Ex.lt q.1) hp, sql_up q.1 hl2⟩, int_paired _, int_paired _⟩) (fun i x u σ H2 H3 hx q e3 px => ?_) (fun σ H' q => ?_)⟩
    · obtain ⟨e2, z1, z2, rfl⟩ := q
      obtain ⟨r, _, _, rfl, hr', rfl, rfl⟩ := px
      have hmem := List.of_mem_zip (List.mem_of_getElem? hx)
      obtain ⟨p1, p2⟩ := per_all ok x.2 hmem.2
      have m0 := hm0 x.1 hmem.1
      have c1 := cd_pos (a := x.1) p1
      have c2 := cd_le (a := x.1) p1
      obtain ⟨d1, d2⟩ := div_bd p1 c1 (cd_dvd_r x.1 x.2)
      have hpos : 0 < ((m.zip (spansS S)).take i).foldl (fun t x => cm t (x.2 / cd x.1 x.2)) 1 := (fold_cm (f := fun x : Int × Int => x.2 / cd x.1 x.2) (B := 729000000) (by decide) _ 1 (by decide) fun y hy => by
        obtain ⟨q1, q2⟩ := per_all ok y.2 (List.of_mem_zip (List.mem_of_mem_take hy)).2
        obtain ⟨r1, r2⟩ := div_bd q1 (cd_pos (a := y.1) q1) (cd_dvd_r y.1 y.2)
        omega).1
      refine ⟨r, _, rfl, hr', rfl, _, _, rfl, _, _, rfl, rfl, ?_⟩
      rw [take_snoc hx, foldl_snoc]
      exact ⟨_, rfl, _, rfl, _, rfl, _, rfl, _, _, rfl, m0, Int.le_of_lt p1, _, _, rfl, rfl, ⟨c1, lt64 (Int.le_of_lt c1) (by omega)⟩, _, _, rfl, Int.le_of_lt hpos, d1, by omega, e2.tr e3, _, _, rfl⟩
    · obtain ⟨e2, z1, z2, rfl⟩ := q
      rw [List.take_of_length_le (Nat.le_refl _)]
      exact ⟨_, rfl, k _ _ e2 rfl⟩⟩)
end
end Lf

set_option Elab.async false
set_option linter.all false
set_option maxRecDepth 100000
set_option maxHeartbeats 4000000
namespace Lf
open PySem PySem.Spec PyProof.Rows L2 Lc Lr Lm
section
variable {P : Program} {w : World} {K : PySem.W.Frag} {mg : Str → Option Value} {base : Heap}
def shs (B : Int) (b : Bk) : List Int := (rng 0 b.groups.length).map (sog B b)
def base1 (B : Int) (s : Vec) (q : Int × Nat) (x : Bk × Int) : Int × Nat := (((shs B x.1).zip (s.drop q.2)).foldl (fun t y => t - x.2 * y.1 * y.2) q.1, q.2 + x.1.groups.length)
def baseF (B : Int) (S : Sides) (s : Vec) (g : Int) : Int × Nat := S.foldl (base1 B s) (g, 0)
def baseS (S : Sides) (s : Vec) : Int := (baseF (botS S) S s (gapS S s * botS S)).1
theorem baseF_snoc (B : Int) (S : Sides) (x : Bk × Int) (s : Vec) (g : Int) : baseF B (S ++ [x]) s g = base1 B s (baseF B S s g) x := by unfold baseF; rw [foldl_snoc]
theorem baseF_at (B : Int) (s : Vec) (g : Int) : ∀ (n : Nat) (S : Sides), S.length = n → (baseF B S s g).2 = (spansS S).length := by
  intro n
  induction n with
  | zero => intro S h; rw [List.length_eq_zero_iff.mp h]; rfl
  | succ n ih =>
    intro S h
    obtain ⟨T, x, rfl⟩ := snoc_of (l := S) (fun e => by rw [e] at h; cases h)
    rw [baseF_snoc, spans_snoc, List.length_append, ← ih T (by simpa using h)]
    show _ + x.1.groups.length = _
    unfold Bk.periods
    rw [List.length_map]
theorem sog_bd {N : List Str} {S : Sides} (ok : SOk N S) {b : Bk} (okb : BkOk b) (g : Int) : 0 ≤ sog (botS S) b g ∧ sog (botS S) b g ≤ 625 * 152587890625 := by
  unfold sog
  split
  · rename_i k hk
    have hm : k.name ∈ b.names := List.mem_map_of_mem (List.mem_of_find?_eq_some hk)
    obtain ⟨⟨s1, s2⟩, s3, s4⟩ := shd_bd okb hm
    obtain ⟨d1, d2⟩ := bot_div ok s3
    exact ⟨Int.mul_nonneg (Int.le_of_lt s1) d1, Int.mul_le_mul s2 d2 d1 (by decide)⟩
  · omega
def sp_base (K : PySem.W.Frag) : Sp := fun vs H Q _ => ∃ v u S N s, vs = [v, u] ∧ pSt K H v S ∧ SOk N S ∧ pTup K pInt H u s ∧ s.length = (spansS S).length ∧ Ret pInt (baseS S s) H Q
theorem ok_base (T : Tx K mg) : C8.Met P w K mg base 7 (He.ga K "States") "base" (sp_base K) [] :=
  mk_States_base T (fn_States_base T (fun vs H Q E h => by obtain ⟨_, _, _, _, _, rfl, _⟩ := h; rfl) fun cdv A outer s H vs Q E hr h => ⟨_, (der_States_base T (ok_gap T) (ok_Book_groups T) (ok_sog T) hr).2, by
    obtain ⟨v, u, S, N, ss, rfl, pst, ok, pu, hsl, k⟩ := h
    have pst' := pst
    obtain ⟨a, dx, l1, us, l2, rfl, ha, hl1, prs, hl2⟩ := pst'
    obtain ⟨p, rfl, hp⟩ := pInts pu
    obtain ⟨b1, b2⟩ := bot_bd ok
    refine ⟨_, rfl, a, dx, _, rfl, ha, rfl, _, rfl, _, _, _, _, _, rfl, pst, ok, pu, hsl, fun w H1 e1 pw => ?_⟩
    cases pw
    refine ⟨_, rfl, a, _, dx, _, _, rfl, e1 _ _ ha, k_States T, a_States_bottom T, rfl, _, _, rfl, rfl, mulR (by omega) (by omega), _, _, rfl, ?_⟩
    refine ⟨_, rfl, a, _, dx, _, _, rfl, e1 _ _ ha, k_States T, a_States_sides T, rfl, l1, rfl, ⟨_, sql_up e1 hl1⟩, for_wk (P := fun _ v y => pSide K H v y) (wk_lst (P := fun _ v y => pSide K H v y) (K := K) (p := l1) (vs := us) (xs := S) (paired_len prs)) (fun i σ H' => Ex H H' ∧ ∃ z1 z2 z3 z4 z5 z6, σ = [some (.ref a), some (.ref p), some (.int (baseF (botS S) (S.take i) ss (gapS S ss * botS S)).1), some (.int ((baseF (botS S) (S.take i) ss (gapS S ss * botS S)).2 : Nat)), z1, z2, z3, z4, z5, z6]) ⟨e1, _, _, _, _, _, _, rfl⟩
      (fun i σ H' _ q => ⟨sql_up q.1 hl1, prs⟩) (fun i y u σ H2 H3 hy q e3 py => ?_) (fun σ H' q => ?_)⟩
    · obtain ⟨e2, z1, z2, z3, z4, z5, z6, rfl⟩ := q
      obtain ⟨r, bv, _, rfl, hr', pb, rfl⟩ := py
      have hys := List.mem_of_getElem? hy
      have okb := ok.ok y hys
      have e23 := e2.tr e3
      have pb' := pb
      obtain ⟨ab, dxb, _, _, _, _, rfl, hab, _⟩ := pb'
      have sg := ok.sg y hys
      have hat := baseF_at (botS S) ss (gapS S ss * botS S) _ (S.take i) rfl
      have hle := spans_take_le S i
      rw [take_snoc hy, baseF_snoc]
      generalize hF : baseF (botS S) (S.take i) ss (gapS S ss * botS S) = F at hat
      refine ⟨r, _, rfl, lt_t (Ex.lt e23) hr', rfl, _, _, rfl, _, _, rfl, rfl, ?_⟩
      refine ⟨_, rfl, ab, dxb, _, rfl, e23 _ _ hab, _, _, rfl, MonT.up (Ex.lt e23) pb, fun w H4 e4 pw => ?_⟩
      obtain ⟨g, vs4, rfl, hg, prg⟩ := pw
      have e24 := e23.tr e4
      have hg3 := okb.g3
      refine ⟨g, _, rfl, .inr hg, ?_⟩
      rw [paired_len prg]
      refine ⟨_, rfl, by omega, by omega, ⟨lc_map (P := pInt) (R := pInt) (wk_rng (lo := 0) (n := ((y.1.groups.length : Nat) : Int).toNat)) (sog (botS S) y.1) (by rw [rng_len]; omega) (fun _ _ => trivial) (fun j gi v H5 hx e5 pv Nx Z kz => ?_) (fun L H5 ws hL e5 hl pw => ?_)⟩⟩
      · cases pv
        refine ⟨rfl, _, rfl, a, dx, _, rfl, e5 _ _ (e24 _ _ ha), rfl, _, rfl, _, rfl, _, _, _, _, _, _, rfl, Mon.up (Ex.le (e24.tr e5)) pst, ok, MonT.up (Ex.lt (e24.tr e5)) pb, okb, kz⟩
      rw [paired_int pw] at hl
      have hl : H5 L = some (.lst ((shs (botS S) y.1).map V.int)) := by rw [hl, Int.toNat_natCast]; rfl
      have e25 := e24.tr e5
      refine ⟨_, rfl, _, rfl, _, rfl, _, rfl, ?_⟩
      unfold tNoPart
      refine cut_gen (hi := none) (i := F.2) (j := ss.length) (lt_t (Ex.lt e25) hp) ?_ rfl fun q H6 e6 hq => ?_
      · rw [HT.sIx_nat]
        omega
      have e26 := e25.tr e6
      have hl6 := e6 _ _ hl
      have edr : (ss.drop F.2).take (ss.length - F.2) = ss.drop F.2 := List.take_of_length_le (by rw [List.length_drop]; omega)
      rw [edr] at hq
      have shl : (shs (botS S) y.1).length = y.1.groups.length := by unfold shs; rw [List.length_map, rng_len]
      refine ⟨true, false, L, q, (shs (botS S) y.1).map V.int, (ss.drop F.2).map V.int, rfl, SqL.of hl6, hq,
        for_wk (P := pZip K pInt pInt) (wk_Z2 (K := K) (P := pInt) (R := pInt) (k1 := true) (k2 := false) (a := L) (b := q) (us := (shs (botS S) y.1).map V.int) (vs := (ss.drop F.2).map V.int) (xs := shs (botS S) y.1) (ys := ss.drop F.2) (by simp) (by simp)) (fun j σ H' => Ex H6 H' ∧ ∃ z1 z2 z3, σ = [some (.ref a), some (.ref p), some (.int ((((shs (botS S) y.1).zip (ss.drop F.2)).take j).foldl (fun t z => t - y.2 * z.1 * z.2) F.1)), some (.int (F.2 : Nat)), some (.ref ab), some (.int y.2), some (.ref L), z1, z2, z3]) ⟨Ex.rf _, _, _, _, by rw [← hF]; rfl⟩
        (fun j σ H' _ q' => ⟨⟨sql_up q'.1 (SqL.of hl6), lt_t (Ex.lt q'.1) hq⟩, int_paired _, int_paired _⟩) (fun j z u σ H7 H8 hz q' e8 pz => ?_) (fun σ H' q' => ?_)⟩
      · obtain ⟨e7, z1, z2, z3, rfl⟩ := q'
        obtain ⟨rr, _, _, rfl, hrr, rfl, rfl⟩ := pz
        have hsz : 0 ≤ z.1 ∧ z.1 ≤ 625 * 152587890625 := by
          have := (List.of_mem_zip (List.mem_of_getElem? hz)).1
          obtain ⟨gi, _, h⟩ := List.mem_map.mp this
          rw [← h]
          exact sog_bd ok okb gi
        have hb : -(2 ^ 64) < y.2 * z.1 ∧ y.2 * z.1 < 2 ^ 64 := by
          rcases sg with h | h <;> rw [h] <;> omega
        rw [take_snoc hz, foldl_snoc]
        refine ⟨rr, _, rfl, hrr, rfl, _, _, rfl, _, _, rfl, rfl, ?_⟩
        exact ⟨_, rfl, _, rfl, _, rfl, _, _, rfl, rfl, mulL (by omega) (by omega), _, rfl, _, _, rfl, rfl, mulL hb.1 hb.2, _, _, rfl, rfl, e7.tr e8, _, _, _, rfl⟩
      · obtain ⟨e7, z1, z2, z3, rfl⟩ := q'
        rw [List.take_of_length_le (Nat.le_refl _)]
        refine ⟨_, rfl, _, rfl, L, _, rfl, .inl (SqL.of (e7 _ _ hl6)), ?_⟩
        rw [List.length_map, shl]
        refine ⟨_, _, rfl, rfl, e26.tr e7, some (.ref ab), some (.int y.2), some (.ref L), z1, z2, z3, ?_⟩
        have e : ((((base1 (botS S) ss F y).2 : Nat)) : Int) = ((F.2 : Nat) : Int) + (y.1.groups.length : Nat) := by
          show (((F.2 + y.1.groups.length : Nat)) : Int) = _
          omega
        rw [e]
        rfl
    · obtain ⟨e2, z1, z2, z3, z4, z5, z6, rfl⟩ := q
      rw [List.take_length]
      exact ⟨_, rfl, k _ _ e2 rfl⟩⟩)
end
end Lf

set_option Elab.async false
set_option linter.all false
set_option maxRecDepth 100000
set_option maxHeartbeats 4000000
namespace Lf
open PySem PySem.Spec PyProof.Rows L2 Lc Lr Lm
section
variable {P : Program} {w : World} {K : PySem.W.Frag} {mg : Str → Option Value} {base : Heap}
/-! ### dicts with tuples of ints as keys -/
theorem inl_inj {a b : List Int} : (a.map Sum.inl : List Key) = b.map Sum.inl ↔ a = b := ⟨fun h => by
  have := congrArg (List.map fun k : Key => match k with | .inl i => i | .inr _ => 0) h
  simpa [List.map_map, Function.comp_def] using this, fun h => by rw [h]⟩
theorem dic_len {β : Type} {R : Pr β} {H : Hp} {kvs : List (List Key × V)} {xs : List (List Int × β)} (h : pDic R H kvs xs) : kvs.length = xs.length := paired_len h
theorem dic_up {β : Type} {R : Pr β} [MonT R] {H H' : Hp} {kvs : List (List Key × V)} {xs : List (List Int × β)} (e : Lt H H') (h : pDic R H kvs xs) : pDic R H' kvs xs := pimp h fun _ _ q => ⟨q.1, MonT.up e q.2⟩
theorem dic_get {β : Type} {R : Pr β} {H : Hp} {kvs : List (List Key × V)} {xs : List (List Int × β)} (h : pDic R H kvs xs) (k : Vec) : (aget xs k = none ∧ valV kvs (k.map Sum.inl) = none) ∨ ∃ v x, valV kvs (k.map Sum.inl) = some v ∧ aget xs k = some x ∧ R H v x := by
  induction h with
  | nil => exact .inl ⟨rfl, rfl⟩
  | @cons p q ps qs r t ih =>
    by_cases e : q.1 = k
    · right
      refine ⟨p.2, q.2, valV_pos (by rw [r.1, e]), ?_, r.2⟩
      unfold aget
      rw [List.find?_cons]
      simp [e]
    · have e2 : ¬ p.1 = (k.map Sum.inl : List Key) := fun z => e (inl_inj.mp (r.1.symm.trans z))
      rw [valV_neg e2]
      have e3 : aget (q :: qs) k = aget qs k := by
        unfold aget
        rw [List.find?_cons]
        simp [e]
      rw [e3]
      exact ih
theorem dic_any {β : Type} {R : Pr β} {H : Hp} {kvs : List (List Key × V)} {xs : List (List Int × β)} (h : pDic R H kvs xs) (k : Vec) : (kvs.any fun kv => decide (kv.1 = (k.map Sum.inl : List Key))) = xs.any fun kv => decide (kv.1 = k) := by
  induction h with
  | nil => rfl
  | @cons p q ps qs r t ih =>
    rw [List.any_cons, List.any_cons, ih, r.1]
    congr 1
    exact decide_eq_decide.mpr inl_inj
theorem dic_map {β : Type} {R : Pr β} {H : Hp} {kvs : List (List Key × V)} {xs : List (List Int × β)} (h : pDic R H kvs xs) (k : Vec) {v : V} {x : β} (hv : R H v x) : pDic R H (kvs.map fun kv => if kv.1 = (k.map Sum.inl : List Key) then (kv.1, v) else kv) (xs.map fun kv => if kv.1 = k then (kv.1, x) else kv) := by
  induction h with
  | nil => exact .nil
  | @cons p q ps qs r t ih =>
    refine .cons ?_ ih
    show (if p.1 = (k.map Sum.inl : List Key) then (p.1, v) else p).1 = ((if q.1 = k then (q.1, x) else q).1).map Sum.inl ∧ R H (if p.1 = (k.map Sum.inl : List Key) then (p.1, v) else p).2 (if q.1 = k then (q.1, x) else q).2
    by_cases e : q.1 = k
    · rw [if_pos (by rw [r.1, e]), if_pos e]
      exact ⟨r.1, hv⟩
    · rw [if_neg fun z => e (inl_inj.mp (r.1.symm.trans z)), if_neg e]
      exact r
theorem dic_put {β : Type} {R : Pr β} {H : Hp} {kvs : List (List Key × V)} {xs : List (List Int × β)} (h : pDic R H kvs xs) (k : Vec) {v : V} {x : β} (hv : R H v x) : pDic R H (putK kvs (k.map Sum.inl) v) (aput xs k x) := by
  unfold putK aput
  rw [dic_any h k]
  split
  · exact dic_map h k hv
  · exact paired_snoc h ⟨rfl, hv⟩
theorem aput_len {β : Type} (xs : List (Vec × β)) (k : Vec) (x : β) : (aput xs k x).length ≤ xs.length + 1 := by
  unfold aput
  split <;> simp
/-! ### lines -/
structure Ln where
  at_ : Int
  amt : Int
  mv : Vec
  wt : Int
def pLn (K : PySem.W.Frag) : Pr Ln := fun H v x => ∃ p m, v = .ref p ∧ SqT K H p [.int x.at_, .int x.amt, m, .int x.wt] ∧ pKey H m x.mv
instance (K : PySem.W.Frag) : MonT (pLn K) := ⟨fun e ⟨p, m, a, b, c⟩ => ⟨p, m, a, lt_t e b, MonT.up e c⟩⟩
def lnOf (S : Sides) (at_ : Int) (nm : Str) (a : Int) : Ln := ⟨at_, a, redv (spansS S) (moveS S nm a), wgtS (botS S) S nm a⟩
def lnsOf (S : Sides) (z : Int × Str) : List Ln := (rng 0 (amts (S.map (·.1)) z.2).toNat).map fun a => lnOf S z.1 z.2 a
def linesS (N : List Str) (S : Sides) : List Ln := ((rng 0 N.length).zip N).flatMap (lnsOf S)
def sp_lines (K : PySem.W.Frag) : Sp := fun vs H Q _ => ∃ v S N, vs = [v] ∧ pSt K H v S ∧ SOk N S ∧ S ≠ [] ∧ (∀ nm ∈ N, amts (S.map (·.1)) nm ≤ 400) ∧ ∀ l H' ws, Ex H H' → H' l = some (.lst ws) → Paired (pLn K H') ws (linesS N S) → Q (.ref l) H'
theorem flat_len {α β : Type} {f : α → List β} {n : Nat} : ∀ (l : List α), (∀ x ∈ l, (f x).length ≤ n) → (l.flatMap f).length ≤ l.length * n
  | [], _ => by simp
  | x :: l, h => by
    have h1 := h x (List.mem_cons_self ..)
    have h2 := flat_len l fun y hy => h y (List.mem_cons_of_mem _ hy)
    rw [List.flatMap_cons, List.length_append, List.length_cons, Nat.add_mul, Nat.one_mul]
    omega
theorem names_le {N : List Str} {S : Sides} (ok : SOk N S) (hne : S ≠ []) : N.length ≤ 2 := by
  cases S with
  | nil => exact absurd rfl hne
  | cons x S =>
    have := ok.k2 x (by simp)
    have e := ok.nm x (by simp)
    rw [← e]
    unfold Bk.names
    rw [List.length_map]
    exact this
theorem ok_lines (T : Tx K mg) : C8.Met P w K mg base 7 (He.ga K "States") "lines" (sp_lines K) [] :=
  mk_States_lines T (fn_States_lines T (fun vs H Q E h => by obtain ⟨_, _, _, rfl, _⟩ := h; rfl) fun cdv A outer s H vs Q E hr h => ⟨_, (der_States_lines T (ok_Book_names T) (ok_amounts_of T) (ok_reduced T) (ok_move T) (ok_weight T) hr).2, by
    obtain ⟨v, S, N, rfl, pst, ok, hne, ham, k⟩ := h
    have pst' := pst
    obtain ⟨a, dx, l1, us, l2, rfl, ha, hl1, prs, hl2⟩ := pst'
    have sl := ok.len
    have hN := names_le ok hne
    refine ⟨_, rfl, a, _, dx, _, _, rfl, ha, k_States T, a_States_sides T, rfl, l1, rfl, ⟨_, hl1⟩, ⟨lc_map (P := fun _ v y => pSide K H v y) (R := pBk K) (wk_lst (P := fun _ v y => pSide K H v y) (K := K) (p := l1) (vs := us) (xs := S) (paired_len prs)) (fun y => y.1) (by omega) (fun H' e => ⟨sql_up e hl1, prs⟩) (fun i y v H1 hy e pv N Z kz => ?_) (fun L H1 ws hL e1 hl pw => ?_)⟩⟩
    · obtain ⟨r, bv, _, rfl, hr', pb, rfl⟩ := pv
      exact ⟨r, _, rfl, lt_t (Ex.lt e) hr', rfl, _, _, rfl, _, _, rfl, rfl, rfl, _, rfl, kz _ _ (Ex.rf _) (MonT.up (Ex.lt e) pb)⟩
    refine ⟨by rw [sizeLine_eq]; simp, fun l nl => ?_⟩
    generalize hG : upd H1 l _ = H2
    obtain ⟨e2, h2⟩ := gen_new nl hG
    have e12 := e1.tr e2
    have nH : H l = none := ex_none e1 nl
    have hL2 := e2 _ _ hl
    refine ⟨_, _, rfl, ?_⟩
    have pbs : pLst K (pBk K) H1 (.ref L) (S.map fun y => y.1) := ⟨L, ws, rfl, SqL.of hl, pw⟩
    obtain ⟨y0, hy0⟩ : ∃ y0, S[0]? = some y0 := by
      cases S with
      | nil => exact absurd rfl hne
      | cons y t => exact ⟨y, rfl⟩
    have my0 := List.mem_of_getElem? hy0
    obtain ⟨v0, hv0, p0⟩ := paired_at' pw (i := 0) (y := y0.1) (by rw [List.getElem?_map, hy0] <;> rfl)
    have ok0 := ok.ok y0 my0
    have nm0 := ok.nm y0 my0
    have p0' := p0
    obtain ⟨ab, dxb, _, _, _, _, rfl, hab, _⟩ := p0'
    refine ⟨_, rfl, _, _, _, _, rfl, rfl, SqL.of hL2, atI_0 hv0, ab, dxb, _, rfl, e2 _ _ hab, _, _, rfl, MonT.up (Ex.lt e2) p0, ok0.k4, fun n1 H3 e3 p3 => ?_⟩
    rw [nm0] at p3
    obtain ⟨pn, rfl, hpn⟩ := pStrs p3
    have e13 := e12.tr e3
    have h3 := e3 _ _ h2
    -- all but l, from H1 on
    refine ⟨false, pn, N.map V.str, rfl, hpn, for_wk (P := pZip K pInt pStr) (wk_En (K := K) (k := false) (a := pn) (us := N.map V.str) (xs := N) (by simp)) (fun i σ H' => Ex H H' ∧ Ex H1 H' ∧ SqT K H' pn (N.map V.str) ∧ (∃ ws, H' l = some (.lst ws) ∧ Paired (pLn K H') ws ((((rng 0 N.length).zip N).take i).flatMap (lnsOf S))) ∧ ∃ z1 z2 z3 z4 z5 z6, σ = [some (.ref a), some (.ref L), some (.ref l), z1, z2, z3, z4, z5, z6]) ⟨e13, e2.tr e3, hpn, ⟨[], h3, .nil⟩, _, _, _, _, _, _, rfl⟩
      (fun i σ H' _ q => ⟨q.2.2.1, str_paired _⟩) (fun i z u σ H4 H5 hz q e5 pz => ?_) (fun σ H' q => ?_)⟩
    · obtain ⟨e4, e41, hpn4, ⟨ws4, h4, pw4⟩, z1, z2, z3, z4, z5, z6, rfl⟩ := q
      obtain ⟨hz1, hz2, hz3⟩ := en_at hz
      obtain ⟨r, _, _, rfl, hr', rfl, rfl⟩ := pz
      have hmN := List.mem_of_getElem? hz2
      have hall : ∀ b ∈ (S.map fun y => y.1), BkOk b ∧ z.2 ∈ b.names := fun b hb => by
        obtain ⟨y, hy, rfl⟩ := List.mem_map.mp hb
        exact ⟨ok.ok y hy, by rw [ok.nm y hy]; exact hmN⟩
      have hamz := ham z.2 hmN
      have hap := amts_pos hall
      have e45 := e4.tr e5
      have e415 := e41.tr e5
      rw [take_snoc hz, List.flatMap_append]
      simp only [List.flatMap_cons, List.flatMap_nil, List.append_nil]
      refine ⟨r, _, rfl, hr', rfl, _, _, rfl, _, _, rfl, rfl, ?_⟩
      refine ⟨_, rfl, _, rfl, _, _, _, rfl, Mon.up (Ex.le e415) pbs, hall, fun w H6 e6 pw6 => ?_⟩
      cases pw6
      refine ⟨_, rfl, by omega, by omega, for_wk (P := pInt) (wk_rng (lo := 0) (n := (amts (S.map fun y => y.1) z.2).toNat)) (fun j σ H' => Ex H H' ∧ Ex H1 H' ∧ SqT K H' pn (N.map V.str) ∧ (∃ ws, H' l = some (.lst ws) ∧ Paired (pLn K H') ws ((((rng 0 N.length).zip N).take i).flatMap (lnsOf S) ++ (lnsOf S z).take j)) ∧ ∃ z5 z6 z7 z8, σ = [some (.ref a), some (.ref L), some (.ref l), some (.int z.1), some (.str z.2), z5, z6, z7, z8]) ⟨e45.tr e6, e415.tr e6, lt_t (Ex.lt (e5.tr e6)) hpn4, ⟨ws4, e6 _ _ (e5 _ _ h4), by simpa using paired_upT (Ex.lt (e5.tr e6)) pw4⟩, _, _, _, _, rfl⟩ (fun _ _ _ _ _ => trivial) (fun j am u σ H7 H8 haj q e8 pa => ?_) (fun σ H' q => ?_)⟩
      · obtain ⟨e7, e71, hpn7, ⟨ws7, h7, pw7⟩, y5, y6, y7, y8, rfl⟩ := q
        cases pa
        obtain ⟨ha1, ha2⟩ := rng_of haj
        have e78 := e7.tr e8
        have a0 : 0 ≤ am := by omega
        refine ⟨_, rfl, a, dx, _, rfl, e78 _ _ ha, rfl, _, rfl, a, dx, _, rfl, e78 _ _ ha, rfl, _, rfl, _, rfl, _, _, _, _, _, rfl, Mon.up (Ex.le e78) pst, ok, hmN, a0, fun w H9 e9 pw9 => ?_⟩
        have e79 := e78.tr e9
        refine ⟨_, _, _, _, _, rfl, Mon.up (Ex.le e79) pst, ok, pw9.t, fun w HA eA pwA => ?_⟩
        have e7A := e79.tr eA
        have hlA := eA _ _ (e9 _ _ (e8 _ _ h7))
        refine ⟨_, rfl, tyL hlA, _, rfl, _, rfl, _, rfl, _, rfl, a, dx, _, rfl, e7A _ _ ha, rfl, _, rfl, _, rfl, _, _, _, _, _, rfl, Mon.up (Ex.le e7A) pst, ok, hmN, a0, fun w2 HB eB pwB => ?_⟩
        cases pwB
        refine ⟨by rw [sizeLine_eq]; simp, fun t nt => ?_⟩
        generalize hGC : upd HB t _ = HC
        obtain ⟨eC, hC⟩ := gen_new nt hGC
        have e8C := (((e8.tr e9).tr eA).tr eB).tr eC
        have hlC := e8C _ _ h7
        have hlen : ws7.length ≤ 3000 := by
          rw [paired_len pw7, List.length_append, List.length_take]
          have f1 := flat_len (f := lnsOf S) (n := 400) (((rng 0 N.length).zip N).take i) fun x hx => by
            have := List.of_mem_zip (List.mem_of_mem_take hx)
            have := ham x.2 this.2
            unfold lnsOf
            rw [List.length_map, rng_len]
            omega
          have f2 : (((rng 0 N.length).zip N).take i).length ≤ 2 := by rw [List.length_take, List.length_zip, rng_len]; omega
          have f3 : (((rng 0 N.length).zip N).take i).length * 400 ≤ 800 := by omega
          have f4 : (lnsOf S z).length ≤ 400 := by
            unfold lnsOf
            rw [List.length_map, rng_len]
            omega
          omega
        refine ⟨l, _, _, rfl, rfl, hlC, Nat.lt_of_le_of_lt hlen (by rw [sizeLine_eq]; decide), ?_⟩
        generalize hGD : upd HC l _ = HD
        have lD : Lt HC HD := by subst hGD; exact Lt.set hlC
        have e7C := e7.tr e8C
        refine ⟨by subst hGD; exact Evl.Ex.mut e7C nH, by subst hGD; exact Evl.Ex.mut (e71.tr e8C) nl, lt_t ((Ex.lt e8C).trans lD) hpn7, ⟨_, by subst hGD; exact upd_same, ?_⟩, _, _, _, _, rfl⟩
        have htk : (lnsOf S z).take (j + 1) = (lnsOf S z).take j ++ [lnOf S z.1 z.2 am] := by
          refine take_snoc ?_
          unfold lnsOf
          rw [List.getElem?_map, haj]
          rfl
        rw [htk, ← List.append_assoc]
        exact paired_snoc (paired_upT ((Ex.lt e8C).trans lD) pw7) ⟨t, _, rfl, lt_t lD (SqT.of hC), MonT.up (((Ex.lt eB).trans (Ex.lt eC)).trans lD) pwA⟩
      · obtain ⟨e7, e71, hpn7, ⟨ws7, h7, pw7⟩, y5, y6, y7, y8, rfl⟩ := q
        refine ⟨e7, e71, hpn7, ⟨ws7, h7, ?_⟩, _, _, _, _, _, _, rfl⟩
        have e : (lnsOf S z).take (rng 0 (amts (S.map fun y => y.1) z.2).toNat).length = lnsOf S z := List.take_of_length_le (by unfold lnsOf; rw [List.length_map]; exact Nat.le_refl _)
        rw [e] at pw7
        exact pw7
    · obtain ⟨e4, e41, hpn4, ⟨ws4, h4, pw4⟩, z1, z2, z3, z4, z5, z6, rfl⟩ := q
      rw [List.take_of_length_le (Nat.le_refl _)] at pw4
      exact ⟨_, rfl, k l _ ws4 e4 h4 pw4⟩⟩)
end
end Lf

set_option Elab.async false
set_option linter.all false
set_option maxRecDepth 100000
set_option maxHeartbeats 4000000
namespace Lf
open PySem PySem.Spec PyProof.Rows L2 Lc Lr Lm
section
variable {P : Program} {w : World} {K : PySem.W.Frag} {mg : Str → Option Value} {base : Heap}
theorem lt_setD {H : Hp} {d : Addr} {k k' : List (List Key × V)} (h : H d = some (.dT k)) : Lt H (upd H d (.dT k')) := fun a o n e => by
  have ne : a ≠ d := fun q => by
    subst q
    rw [h] at e
    cases e
    exact n
  rw [upd_ne ne]
  exact e
theorem ex_lock {H H1 : Hp} {d : Addr} {o : HO} (e : Ex H H1) : Ex (upd H d o) (upd H1 d o) := fun a u h => by
  by_cases q : a = d
  · subst q
    rw [upd_same] at h
    rw [← h]
    exact upd_same
  · rw [upd_ne q] at h
    rw [upd_ne q]
    exact e a u h
abbrev pTri (K : PySem.W.Frag) : Pr (Int × Int × Int) := pZip3 K pInt pInt pInt
theorem amax_none {β : Type} {f : β → Int} {xs : List (Vec × β)} {k : Vec} {v : β} (h : aget xs k = none) : amax f xs k v = aput xs k v := by unfold amax; rw [h]
theorem amax_some {β : Type} {f : β → Int} {xs : List (Vec × β)} {k : Vec} {v u : β} (h : aget xs k = some u) : amax f xs k v = if f u < f v then aput xs k v else xs := by unfold amax; rw [h]
theorem amax_len {β : Type} (f : β → Int) (xs : List (Vec × β)) (k : Vec) (v : β) : (amax f xs k v).length ≤ xs.length + 1 := by
  have := aput_len xs k v
  cases h : aget xs k with
  | none => rw [amax_none h]; exact this
  | some u =>
    rw [amax_some h]
    split <;> omega
def best1 (f : List (Vec × (Int × Int × Int))) (x : Ln) : List (Vec × (Int × Int × Int)) := amax (fun t => t.1) f x.mv (x.wt, x.at_, x.amt)
def bestS (N : List Str) (S : Sides) : List (Vec × (Int × Int × Int)) := (linesS N S).foldl best1 []
theorem lines_len {N : List Str} {S : Sides} (hN : N.length ≤ 2) (ham : ∀ nm ∈ N, amts (S.map (·.1)) nm ≤ 400) : (linesS N S).length ≤ 800 := by
  have f1 := flat_len (f := lnsOf S) (n := 400) ((rng 0 N.length).zip N) fun x hx => by
    have := ham x.2 (List.of_mem_zip hx).2
    unfold lnsOf
    rw [List.length_map, rng_len]
    omega
  have f2 : ((rng 0 N.length).zip N).length ≤ 2 := by rw [List.length_zip, rng_len]; omega
  unfold linesS
  omega
def sp_best_lines (K : PySem.W.Frag) : Sp := fun vs H Q _ => ∃ v S N, vs = [v] ∧ pSt K H v S ∧ SOk N S ∧ S ≠ [] ∧ (∀ nm ∈ N, amts (S.map (·.1)) nm ≤ 400) ∧ ∀ d H' kvs, Ex H H' → H d = none → H' d = some (.dT kvs) → pDic (pTri K) H' kvs (bestS N S) → Q (.ref d) H'
theorem ok_best_lines (T : Tx K mg) : C8.Met P w K mg base 8 (He.ga K "States") "best_lines" (sp_best_lines K) [] :=
  mk_States_best_lines T (fn_States_best_lines T (fun vs H Q E h => by obtain ⟨_, _, _, rfl, _⟩ := h; rfl) fun cdv A outer s H vs Q E hr h => ⟨_, (der_States_best_lines T (ok_lines T) hr).2, by
    obtain ⟨v, S, N, rfl, pst, ok, hne, ham, k⟩ := h
    have pst' := pst
    obtain ⟨a, dx, l1, us, l2, rfl, ha, hl1, prs, hl2⟩ := pst'
    have hN := names_le ok hne
    have hln := lines_len hN ham
    refine fun d nd => ?_
    generalize hG : upd H d _ = H1
    obtain ⟨e1, h1⟩ := gen_new nd hG
    refine ⟨_, rfl, a, dx, _, rfl, e1 _ _ ha, rfl, _, _, _, rfl, Mon.up (Ex.le e1) pst, ok, hne, ham, fun L H2 ws e2 hL pw => ?_⟩
    have e12 := e1.tr e2
    have hd2 := e2 _ _ h1
    have neL : L ≠ d := fun e => by rw [e, hd2] at hL; cases hL
    refine ⟨L, rfl, ⟨_, SqL.of hL⟩, for_wk (P := pLn K) (wk_lst (K := K) (p := L) (vs := ws) (xs := linesS N S) (paired_len pw)) (fun i σ H' => Ex H H' ∧ Lt H2 H' ∧ H' L = some (.lst ws) ∧ (∃ kvs, H' d = some (.dT kvs) ∧ pDic (pTri K) H' kvs (((linesS N S).take i).foldl best1 [])) ∧ (((linesS N S).take i).foldl best1 []).length ≤ i ∧ ∃ z1 z2 z3 z4, σ = [some (.ref a), some (.ref d), z1, z2, z3, z4]) ⟨e12, Lt.refl _, hL, ⟨[], hd2, .nil⟩, Nat.le_refl _, _, _, _, _, rfl⟩
      (fun i σ H' _ q => ⟨SqL.of q.2.2.1, paired_upT q.2.1 pw⟩) (fun i x u σ H3 H4 hx q e4 px => ?_) (fun σ H' q => ?_)⟩
    · obtain ⟨e3, l3, hL3, ⟨kvs, hd3, pd3⟩, hlen, z1, z2, z3, z4, rfl⟩ := q
      obtain ⟨r, m, rfl, hr', pm⟩ := px
      obtain ⟨pm0, rfl, hpm⟩ := pm
      have hpk : H4 pm0 = some (.tup ((x.mv.map Sum.inl : List Key).map kV)) := by rw [key_map]; exact hpm
      have hd4 := e4 _ _ hd3
      have pd4 := dic_up (Ex.lt e4) pd3
      have e34 := e3.tr e4
      have l34 := l3.trans (Ex.lt e4)
      have hL4 := e4 _ _ hL3
      rw [take_snoc hx, foldl_snoc]
      generalize hF : ((linesS N S).take i).foldl best1 [] = F at hlen pd4
      have hkl : kvs.length < sizeLine := by
        rw [dic_len pd4, sizeLine_eq]
        have : i < (linesS N S).length := (List.getElem?_eq_some_iff.mp hx).1
        omega
      have hput : ∀ (n : aget F x.mv = none ∨ ∃ t, aget F x.mv = some t ∧ t.1 < x.wt), best1 F x = aput F x.mv (x.wt, x.at_, x.amt) := fun n => by
        unfold best1
        rcases n with n | ⟨t, n, h⟩
        · exact amax_none n
        · rw [amax_some n, if_pos h]
      have go : ∀ (n : aget F x.mv = none ∨ ∃ t, aget F x.mv = some t ∧ t.1 < x.wt), ∀ t5, H4 t5 = none → ∀ H5, upd H4 t5 (.tup [.int x.wt, .int x.at_, .int x.amt]) = H5 →
          DPut H5 d (.ref pm0) (.ref t5) (upd H5 d (.dT (putK kvs (x.mv.map Sum.inl) (.ref t5)))) ∧ (Ex H (upd H5 d (.dT (putK kvs (x.mv.map Sum.inl) (.ref t5)))) ∧ Lt H2 (upd H5 d (.dT (putK kvs (x.mv.map Sum.inl) (.ref t5)))) ∧ upd H5 d (.dT (putK kvs (x.mv.map Sum.inl) (.ref t5))) L = some (.lst ws) ∧ (∃ kvs', upd H5 d (.dT (putK kvs (x.mv.map Sum.inl) (.ref t5))) d = some (.dT kvs') ∧ pDic (pTri K) (upd H5 d (.dT (putK kvs (x.mv.map Sum.inl) (.ref t5)))) kvs' (best1 F x)) ∧ (best1 F x).length ≤ i + 1) := fun n t5 nt H5 hG5 => by
        obtain ⟨e5, h5⟩ := gen_new nt hG5
        have hd5 := e5 _ _ hd4
        have l5 := lt_setD (k' := putK kvs (x.mv.map Sum.inl) (.ref t5)) hd5
        refine ⟨DPut.t hd5 (e5 _ _ hpk) hkl, Evl.Ex.mut (e34.tr e5) nd, (l34.trans (Ex.lt e5)).trans l5, by rw [upd_ne neL]; exact e5 _ _ hL4, ⟨_, upd_same, ?_⟩, ?_⟩
        · rw [hput n]
          exact dic_put (dic_up ((Ex.lt e5).trans l5) pd4) _ ⟨t5, _, _, _, rfl, lt_t l5 (SqT.of h5), rfl, rfl, rfl⟩
        · have := amax_len (fun t : Int × Int × Int => t.1) F x.mv (x.wt, x.at_, x.amt)
          unfold best1
          omega
      refine ⟨r, _, rfl, hr', rfl, _, _, rfl, _, _, rfl, _, _, rfl, _, _, rfl, rfl, ?_⟩
      rcases dic_get pd4 x.mv with ⟨g1, g2⟩ | ⟨gv, t, g1, g2, g3⟩
      · refine ⟨_, rfl, _, rfl, d, none, rfl, by rw [← g2]; exact DGet.t hd4 hpk, true, rfl, ?_⟩
        refine ⟨_, rfl, _, rfl, _, rfl, by rw [sizeLine_eq]; simp, fun t5 nt => ?_⟩
        generalize hG5 : upd H4 t5 _ = H5
        obtain ⟨g5, q1, q2, q3, q4, q5⟩ := go (.inl g1) t5 nt H5 hG5
        exact ⟨_, rfl, _, rfl, d, _, rfl, g5, q1, q2, q3, q4, q5, _, _, _, _, rfl⟩
      · refine ⟨_, rfl, _, rfl, d, some gv, rfl, by rw [← g1]; exact DGet.t hd4 hpk, false, rfl, ?_⟩
        obtain ⟨gp, _, _, _, rfl, hgp, rfl, rfl, rfl⟩ := g3
        refine ⟨_, rfl, _, rfl, d, _, rfl, by rw [← g1]; exact DGet.t hd4 hpk, _, _, _, _, rfl, rfl, hgp, rfl, _, rfl, _, _, rfl, rfl, _, rfl, ite2 (fun c => ?_) (fun c => ?_)⟩
        · have c := dT c
          refine ⟨_, rfl, _, rfl, _, rfl, by rw [sizeLine_eq]; simp, fun t5 nt => ?_⟩
          generalize hG5 : upd H4 t5 _ = H5
          obtain ⟨g5, q1, q2, q3, q4, q5⟩ := go (.inr ⟨t, g2, c⟩) t5 nt H5 hG5
          exact ⟨_, rfl, _, rfl, d, _, rfl, g5, q1, q2, q3, q4, q5, _, _, _, _, rfl⟩
        · have c := dF c
          have eb : best1 F x = F := by
            unfold best1
            rw [amax_some g2, if_neg c]
          rw [eb]
          exact ⟨e34, l34, hL4, ⟨kvs, hd4, pd4⟩, by omega, _, _, _, _, rfl⟩
    · obtain ⟨e3, l3, hL3, ⟨kvs, hd3, pd3⟩, hlen, z1, z2, z3, z4, rfl⟩ := q
      rw [List.take_length] at pd3
      exact ⟨_, rfl, k d _ kvs e3 nd hd3 pd3⟩⟩)
end
end Lf

set_option Elab.async false
set_option linter.all false
set_option maxRecDepth 100000
set_option maxHeartbeats 4000000
namespace Lf
open PySem PySem.Spec PyProof.Rows L2 Lc Lr Lm
section
variable {P : Program} {w : World} {K : PySem.W.Frag} {mg : Str → Option Value} {base : Heap}
abbrev Sums := List (Vec × Int)
abbrev Best := List (Vec × (Int × Int × Int))
def om2 (ps s : Vec) (w : Int) (f : Sums) (m : Vec × (Int × Int × Int)) : Sums := amax id f (addv ps s m.1) (w + m.2.1)
def om1 (ps : Vec) (best : Best) (f : Sums) (x : Vec × Int) : Sums := best.foldl (om2 ps x.1 x.2) f
def oneMore (ps : Vec) (sums : Sums) (best : Best) : Sums := sums.foldl (om1 ps best) []
theorem om2_fold_len (ps s : Vec) (w : Int) : ∀ (l : Best) (f : Sums), (l.foldl (om2 ps s w) f).length ≤ f.length + l.length
  | [], f => by simp
  | m :: l, f => by
    have h1 := om2_fold_len ps s w l (om2 ps s w f m)
    have h2 := amax_len id f (addv ps s m.1) (w + m.2.1)
    rw [List.foldl_cons, List.length_cons]
    unfold om2 at *
    omega
theorem om1_fold_len (ps : Vec) (best : Best) : ∀ (l : Sums) (f : Sums), (l.foldl (om1 ps best) f).length ≤ f.length + l.length * best.length
  | [], f => by simp
  | x :: l, f => by
    have h1 := om1_fold_len ps best l (om1 ps best f x)
    have h2 := om2_fold_len ps x.1 x.2 best f
    rw [List.foldl_cons, List.length_cons, Nat.add_mul, Nat.one_mul]
    unfold om1 at *
    omega
def sp_one_more (K : PySem.W.Frag) : Sp := fun vs H Q _ => ∃ v ds db S N ks kb sums best, vs = [v, .ref ds, .ref db] ∧ pSt K H v S ∧ SOk N S ∧ H ds = some (.dT ks) ∧ pDic pInt H ks sums ∧ H db = some (.dT kb) ∧ pDic (pTri K) H kb best ∧ ds ≠ db ∧ sums.length ≤ 1000 ∧ best.length ≤ 1000 ∧
  ∀ d H' kvs, Ex H H' → H d = none → H' d = some (.dT kvs) → pDic pInt H' kvs (oneMore (spansS S) sums best) → Q (.ref d) H'
theorem ok_one_more (T : Tx K mg) : C8.Cal P w K mg base 2 "one_more" (sp_one_more K) [] :=
  mk_one_more T (fn_one_more T (fun vs H Q E h => by obtain ⟨_, _, _, _, _, _, _, _, _, rfl, _⟩ := h; rfl) fun cdv A outer s H vs Q E hr h => ⟨_, (der_one_more T (ok_added T) hr).2, by
    obtain ⟨v, ds, db, S, N, ks, kb, sums, best, rfl, pst, ok, hds, pds, hdb, pdb, hne, hs1, hb1, k⟩ := h
    have pst' := pst
    obtain ⟨a, dx, l1, us, l2, rfl, ha, _⟩ := pst'
    refine fun d nd => ?_
    generalize hG : upd H d _ = H1
    obtain ⟨e1, h1⟩ := gen_new nd hG
    refine ⟨ds, _, e1 _ _ hds, trivial, fun od => ?_⟩
    have eL : Ex (upd H ds (.frz od (.dT ks))) (upd H1 ds (.frz od (.dT ks))) := ex_lock e1
    have leL : Le H (upd H ds (.frz od (.dT ks))) := Le.lock hds
    have hddb : upd H ds (.frz od (.dT ks)) db = some (.dT kb) := by rw [upd_ne (Ne.symm hne)]; exact hdb
    have ned : d ≠ ds := fun e => by rw [e, hds] at nd; cases nd
    have nedb : d ≠ db := fun e => by rw [e, hdb] at nd; cases nd
    have hd2 : upd H1 ds (.frz od (.dT ks)) d = some (.dT []) := by rw [upd_ne ned]; exact h1
    have nL : upd H ds (.frz od (.dT ks)) d = none := by rw [upd_ne ned]; exact nd
    have hdsL : upd H ds (.frz od (.dT ks)) ds = some (.frz od (.dT ks)) := upd_same
    generalize hHl : upd H ds (.frz od (.dT ks)) = Hl at eL leL hddb nL hdsL
    have pdsL : pDic pInt Hl ks sums := pimp pds fun _ _ q => q
    have pdbL : pDic (pTri K) Hl kb best := dic_up leL.lt pdb
    have pstL := Mon.up leL pst
    have haL := leL.o a (.ins _ _ _) trivial ha
    refine ⟨_, rfl, ds, od, ks, rfl, upd_same, for_wk (P := pZip K (pTup K pInt) pInt) (wk_IT (K := K) (R := pInt) (d := ds) (o := od) (kvs := ks) (xs := sums) (dic_len pds)) (fun i σ H' => Ex Hl H' ∧ (∃ kvs, H' d = some (.dT kvs) ∧ pDic pInt H' kvs ((sums.take i).foldl (om1 (spansS S) best) [])) ∧ ∃ z1 z2 z3 z4 z5 z6, σ = [some (.ref a), some (.ref ds), some (.ref db), some (.ref d), z1, z2, z3, z4, z5, z6]) ⟨eL, ⟨[], hd2, .nil⟩, _, _, _, _, _, _, rfl⟩
      (fun i σ H' _ q => ⟨q.1 _ _ hdsL, pimp pdsL fun _ _ q => q⟩) (fun i x u σ H3 H4 hx q e4 px => ?_) (fun σ H' q => ?_)⟩
    · obtain ⟨e3, ⟨kvs3, hd3, pd3⟩, z1, z2, z3, z4, z5, z6, rfl⟩ := q
      obtain ⟨r, sv, _, rfl, hr', psv, rfl⟩ := px
      have e34 := e3.tr e4
      have hd4 := e4 _ _ hd3
      have hdb4 := e34 _ _ hddb
      rw [take_snoc hx, foldl_snoc]
      have hflen := om1_fold_len (spansS S) best (sums.take i) []
      generalize hF : (sums.take i).foldl (om1 (spansS S) best) [] = F at hflen pd3
      have hflen : F.length ≤ 1000000 := by
        have : (sums.take i).length * best.length ≤ 1000 * 1000 := Nat.mul_le_mul (by rw [List.length_take]; omega) hb1
        simp only [List.length_nil] at hflen
        omega
      refine ⟨r, _, rfl, hr', rfl, _, _, rfl, _, _, rfl, rfl, ?_⟩
      refine ⟨db, _, hdb4, trivial, fun od2 => ?_⟩
      have eL2 : Ex (upd Hl db (.frz od2 (.dT kb))) (upd H4 db (.frz od2 (.dT kb))) := ex_lock e34
      have leL2 : Le Hl (upd Hl db (.frz od2 (.dT kb))) := Le.lock hddb
      have le4 : Le H4 (upd H4 db (.frz od2 (.dT kb))) := Le.lock hdb4
      have hd5 : upd H4 db (.frz od2 (.dT kb)) d = some (.dT kvs3) := by rw [upd_ne nedb]; exact hd4
      have nL2 : upd Hl db (.frz od2 (.dT kb)) d = none := by rw [upd_ne nedb]; exact nL
      have hdbL2 : upd Hl db (.frz od2 (.dT kb)) db = some (.frz od2 (.dT kb)) := upd_same
      have psv5 := MonT.up le4.lt psv
      generalize hH5 : upd H4 db (.frz od2 (.dT kb)) = H5 at eL2 le4 hd5 psv5
      have hdb5 : H5 db = some (.frz od2 (.dT kb)) := by rw [← hH5]; exact upd_same
      generalize hHl2 : upd Hl db (.frz od2 (.dT kb)) = Hl2 at eL2 leL2 nL2 hdbL2
      have pdbL2 := dic_up leL2.lt pdbL
      have pstL2 := Mon.up leL2 pstL
      have haL2 := leL2.o a (.ins _ _ _) trivial haL
      refine ⟨_, rfl, db, od2, kb, rfl, hdb5, for_wk (P := pZip K (pTup K pInt) (pTri K)) (wk_IT (K := K) (R := pTri K) (d := db) (o := od2) (kvs := kb) (xs := best) (dic_len pdb)) (fun j σ H' => Ex Hl2 H' ∧ Lt H5 H' ∧ (∃ kvs, H' d = some (.dT kvs) ∧ pDic pInt H' kvs ((best.take j).foldl (om2 (spansS S) x.1 x.2) F)) ∧ ∃ z3 z4 z5 z6, σ = [some (.ref a), some (.ref ds), some (.ref db), some (.ref d), some sv, some (.int x.2), z3, z4, z5, z6]) ⟨eL2, Lt.refl _, ⟨kvs3, hd5, pimp pd3 fun _ _ q => q⟩, _, _, _, _, rfl⟩
        (fun j σ H' _ q => ⟨q.1 _ _ hdbL2, dic_up (Ex.lt q.1) pdbL2⟩) (fun j m u σ H6 H7 hm q e7 pm => ?_) (fun σ H' q => ?_)⟩
      · obtain ⟨e6, l6, ⟨kvs6, hd6, pd6⟩, y3, y4, y5, y6, rfl⟩ := q
        obtain ⟨r2, mv, tv, rfl, hr2, pmv, ptv⟩ := pm
        have e67 := e6.tr e7
        rw [take_snoc hm, foldl_snoc]
        have hglen := om2_fold_len (spansS S) x.1 x.2 (best.take j) F
        generalize hGG : (best.take j).foldl (om2 (spansS S) x.1 x.2) F = G at hglen pd6
        have hglen : G.length ≤ 1001000 := by rw [List.length_take] at hglen; omega
        refine ⟨r2, _, rfl, hr2, rfl, _, _, rfl, _, _, rfl, rfl, ?_⟩
        refine ⟨_, rfl, a, dx, _, rfl, e67 _ _ haL2, rfl, _, rfl, _, rfl, _, _, _, _, _, _, _, rfl, Mon.up (Ex.le e67) pstL2, ok, MonT.up (l6.trans (Ex.lt e7)) psv5, pmv, fun th H8 e8 pth => ?_⟩
        obtain ⟨q1, _, _, _, rfl, hq1, rfl, rfl, rfl⟩ := MonT.up (Ex.lt e8) ptv
        have e68 := e67.tr e8
        obtain ⟨pt, rfl, hpt⟩ := pth
        have hpk : H8 pt = some (.tup (((addv (spansS S) x.1 m.1).map Sum.inl : List Key).map kV)) := by rw [key_map]; exact hpt
        have hd8 := e8 _ _ (e7 _ _ hd6)
        have pd8 : pDic pInt H8 kvs6 G := pimp pd6 fun _ _ q => q
        have hkl : kvs6.length < sizeLine := by rw [dic_len pd8, sizeLine_eq]; omega
        have l68 := (l6.trans (Ex.lt e7)).trans (Ex.lt e8)
        refine ⟨_, rfl, _, rfl, _, _, _, _, rfl, rfl, hq1, rfl, _, _, rfl, rfl, _, _, rfl, ?_⟩
        have hput : ∀ (n : aget G (addv (spansS S) x.1 m.1) = none ∨ ∃ t, aget G (addv (spansS S) x.1 m.1) = some t ∧ t < x.2 + m.2.1), om2 (spansS S) x.1 x.2 G m = aput G (addv (spansS S) x.1 m.1) (x.2 + m.2.1) := fun n => by
          unfold om2
          rcases n with n | ⟨t, n, h⟩
          · exact amax_none n
          · rw [amax_some n]
            exact if_pos h
        have go : ∀ (n : aget G (addv (spansS S) x.1 m.1) = none ∨ ∃ t, aget G (addv (spansS S) x.1 m.1) = some t ∧ t < x.2 + m.2.1), DPut H8 d (.ref pt) (.int (x.2 + m.2.1)) (upd H8 d (.dT (putK kvs6 ((addv (spansS S) x.1 m.1).map Sum.inl) (.int (x.2 + m.2.1))))) ∧
            Ex Hl2 (upd H8 d (.dT (putK kvs6 ((addv (spansS S) x.1 m.1).map Sum.inl) (.int (x.2 + m.2.1))))) ∧ Lt H5 (upd H8 d (.dT (putK kvs6 ((addv (spansS S) x.1 m.1).map Sum.inl) (.int (x.2 + m.2.1))))) ∧
            (∃ kvs, upd H8 d (.dT (putK kvs6 ((addv (spansS S) x.1 m.1).map Sum.inl) (.int (x.2 + m.2.1)))) d = some (.dT kvs) ∧ pDic pInt (upd H8 d (.dT (putK kvs6 ((addv (spansS S) x.1 m.1).map Sum.inl) (.int (x.2 + m.2.1))))) kvs (om2 (spansS S) x.1 x.2 G m)) := fun n => by
          refine ⟨DPut.t hd8 hpk hkl, Evl.Ex.mut e68 nL2, l68.trans (lt_setD hd8), _, upd_same, ?_⟩
          rw [hput n]
          exact dic_put (R := pInt) (pimp pd8 fun _ _ q => q) _ rfl
        rcases dic_get pd8 (addv (spansS S) x.1 m.1) with ⟨g1, g2⟩ | ⟨gv, t, g1, g2, g3⟩
        · obtain ⟨g5, q2, q3, q4⟩ := go (.inl g1)
          exact ⟨_, rfl, _, rfl, d, none, rfl, by rw [← g2]; exact DGet.t hd8 hpk, true, rfl, _, rfl, _, rfl, _, rfl, d, _, rfl, g5, q2, q3, q4, _, _, _, _, rfl⟩
        · cases g3
          have hget : DGet H8 d (.ref pt) (some (.int t)) := by
            have := DGet.t hd8 hpk
            rw [g1] at this
            exact this
          refine ⟨_, rfl, _, rfl, d, _, rfl, hget, false, rfl, ?_⟩
          refine ⟨_, rfl, _, rfl, d, _, rfl, hget, _, rfl, _, _, rfl, rfl, _, rfl, ite2 (fun c => ?_) (fun c => ?_)⟩
          · have c := dT c
            obtain ⟨g5, q2, q3, q4⟩ := go (.inr ⟨t, g2, c⟩)
            exact ⟨_, rfl, _, rfl, _, rfl, d, _, rfl, g5, q2, q3, q4, _, _, _, _, rfl⟩
          · have c := dF c
            have eb : om2 (spansS S) x.1 x.2 G m = G := by
              unfold om2
              rw [amax_some g2]
              exact if_neg c
            rw [eb]
            exact ⟨e68, l68, ⟨kvs6, hd8, pd8⟩, _, _, _, _, rfl⟩
      · obtain ⟨e6, l6, ⟨kvs6, hd6, pd6⟩, y3, y4, y5, y6, rfl⟩ := q
        rw [List.take_length] at pd6
        refine ⟨e6 _ _ hdbL2, ?_⟩
        subst hHl2
        exact ⟨Ex.unlock hddb e6, ⟨kvs6, by rw [upd_ne nedb]; exact hd6, pimp pd6 fun _ _ q => q⟩, _, _, _, _, _, _, rfl⟩
    · obtain ⟨e3, ⟨kvs3, hd3, pd3⟩, z1, z2, z3, z4, z5, z6, rfl⟩ := q
      rw [List.take_length] at pd3
      refine ⟨e3 _ _ hdsL, _, rfl, ?_⟩
      subst hHl
      exact k d _ kvs3 (Ex.unlock hds e3) nd (by rw [upd_ne ned]; exact hd3) (pimp pd3 fun _ _ q => q)⟩)
end
end Lf

set_option Elab.async false
set_option linter.all false
set_option maxRecDepth 100000
set_option maxHeartbeats 4000000
namespace Lf
open PySem PySem.Spec PyProof.Rows L2 Lc Lr Lm
def mx : List Int → Int
  | [] => 0
  | [x] => x
  | x :: y :: r => max x (mx (y :: r))
theorem mx_mem : ∀ {l : List Int}, l ≠ [] → mx l ∈ l ∧ ∀ y ∈ l, y ≤ mx l
  | [], h => absurd rfl h
  | [x], _ => ⟨by simp [mx], fun y hy => by rw [List.mem_singleton.mp hy]; exact Int.le_refl _⟩
  | x :: y :: r, _ => by
    obtain ⟨h1, h2⟩ := mx_mem (l := y :: r) (by simp)
    have e : mx (x :: y :: r) = max x (mx (y :: r)) := rfl
    rw [e]
    refine ⟨?_, fun z hz => ?_⟩
    · rcases Int.le_total x (mx (y :: r)) with h | h
      · rw [Int.max_eq_right h]; exact List.mem_cons_of_mem _ h1
      · rw [Int.max_eq_left h]; exact List.mem_cons_self ..
    · rcases List.mem_cons.mp hz with h | h
      · rw [h]; exact Int.le_max_left ..
      · exact Int.le_trans (h2 z h) (Int.le_max_right ..)
theorem mx_uniq {l : List Int} {m : Int} (h : m ∈ l) (hm : ∀ y ∈ l, y ≤ m) : m = mx l := by
  have hne : l ≠ [] := fun e => by rw [e] at h; cases h
  obtain ⟨h1, h2⟩ := mx_mem hne
  exact Int.le_antisymm (h2 m h) (hm _ h1)
section
variable {P : Program} {w : World} {K : PySem.W.Frag} {mg : Str → Option Value} {base : Heap}
def ggv (S : Sides) (f : Sums) : Int := mx (f.map fun x => x.2 + baseS S x.1) / botS S
/-- keys of the length of the spans -/
structure SmOk (S : Sides) (f : Sums) : Prop where
  ne : f ≠ []
  len : f.length ≤ 1000
  kl : ∀ x ∈ f, x.1.length = (spansS S).length
def sp_greatest_gap (K : PySem.W.Frag) : Sp := fun vs H Q _ => ∃ v ds S N ks sums, vs = [v, .ref ds] ∧ pSt K H v S ∧ SOk N S ∧ H ds = some (.dT ks) ∧ pDic pInt H ks sums ∧ SmOk S sums ∧ Ret pInt (ggv S sums) H Q
theorem ok_greatest_gap (T : Tx K mg) : C8.Cal P w K mg base 8 "greatest_gap" (sp_greatest_gap K) [] :=
  mk_greatest_gap T (fn_greatest_gap T (fun vs H Q E h => by obtain ⟨_, _, _, _, _, _, rfl, _⟩ := h; rfl) fun cdv A outer s H vs Q E hr h => ⟨_, (der_greatest_gap T (ok_base T) hr).2, by
    obtain ⟨v, ds, S, N, ks, sums, rfl, pst, ok, hds, pds, sm, k⟩ := h
    have pst' := pst
    obtain ⟨a, dx, l1, us, l2, rfl, ha, _⟩ := pst'
    refine ⟨ds, _, hds, trivial, fun od => ?_⟩
    have leL : Le H (upd H ds (.frz od (.dT ks))) := Le.lock hds
    have hdsL : upd H ds (.frz od (.dT ks)) ds = some (.frz od (.dT ks)) := upd_same
    generalize hHl : upd H ds (.frz od (.dT ks)) = Hl at leL hdsL
    have pstL := Mon.up leL pst
    have haL := leL.o a (.ins _ _ _) trivial ha
    refine ⟨_, rfl, ds, od, ks, rfl, hdsL, ⟨lc_map (P := pZip K (pTup K pInt) pInt) (R := pInt) (wk_IT (K := K) (R := pInt) (d := ds) (o := od) (kvs := ks) (xs := sums) (dic_len pds)) (fun x => x.2 + baseS S x.1) (by have := sm.len; omega) (fun H' e => ⟨e _ _ hdsL, pimp pds fun _ _ q => q⟩) (fun i x v H1 hx e pv Nx Z kz => ?_) (fun L H1 ws hL e hl pw => ?_)⟩⟩
    · obtain ⟨r, sv, _, rfl, hr', psv, rfl⟩ := pv
      refine ⟨r, _, rfl, hr', rfl, _, _, rfl, _, _, rfl, rfl, rfl, ?_⟩
      refine ⟨_, rfl, _, rfl, a, dx, _, rfl, e _ _ haL, rfl, _, rfl, _, _, _, _, _, rfl, Mon.up (Ex.le e) pstL, ok, psv, sm.kl x (List.mem_of_getElem? hx), fun w H2 e2 pw => ?_⟩
      cases pw
      exact ⟨_, _, rfl, rfl, kz _ _ e2 rfl⟩
    rw [paired_int pw] at hl
    have hds1 := e _ _ hdsL
    refine ⟨hds1, ?_⟩
    subst hHl
    have e2 := Ex.unlock hds e
    have neL : L ≠ ds := fun z => by rw [z, hds1] at hl; cases hl
    generalize hG : upd H1 ds (.dT ks) = H2 at e2
    have hl2 : H2 L = some (.lst ((sums.map fun x => x.2 + baseS S x.1).map V.int)) := by subst hG; rw [upd_ne neL]; exact hl
    refine ⟨L, _, rfl, SqL.of hl2, ?_, fun m hm1 hm2 => ?_⟩
    · rw [List.length_map]; exact List.length_pos_iff.mpr sm.ne
    · rw [mx_uniq hm1 hm2]
      obtain ⟨b1, b2⟩ := bot_bd ok
      exact ⟨_, rfl, a, _, dx, _, _, rfl, e2 _ _ ha, k_States T, a_States_bottom T, rfl, _, _, rfl, rfl, ⟨b1, lt64 (Int.le_of_lt b1) (by omega)⟩, k _ _ e2 rfl⟩⟩)
def ledOn (ps : Vec) (sums later : Sums) (mv : Vec) (most : Int) : Bool := decide (sums.length = later.length) && sums.all fun x => decide (aget later (addv ps x.1 mv) = some (x.2 + most))
def sp_is_led_on (K : PySem.W.Frag) : Sp := fun vs H Q _ => ∃ v ds dl u S N ks kl sums later mv most, vs = [v, .ref ds, .ref dl, u, .int most] ∧ pSt K H v S ∧ SOk N S ∧ H ds = some (.dT ks) ∧ pDic pInt H ks sums ∧ H dl = some (.dT kl) ∧ pDic pInt H kl later ∧ ds ≠ dl ∧ pTup K pInt H u mv ∧ sums.length ≤ 1000 ∧ Ret pBl (ledOn (spansS S) sums later mv most) H Q
theorem ok_is_led_on (T : Tx K mg) : C8.Cal P w K mg base 2 "is_led_on" (sp_is_led_on K) [] :=
  mk_is_led_on T (fn_is_led_on T (fun vs H Q E h => by obtain ⟨_, _, _, _, _, _, _, _, _, _, _, _, rfl, _⟩ := h; rfl) fun cdv A outer s H vs Q E hr h => ⟨_, (der_is_led_on T (ok_added T) hr).2, by
    obtain ⟨v, ds, dl, u, S, N, ks, kl, sums, later, mv, most, rfl, pst, ok, hds, pds, hdl, pdl, hne, pu, hs1, k⟩ := h
    have pst' := pst
    obtain ⟨a, dx, l1, us, l2, rfl, ha, _⟩ := pst'
    refine ⟨_, rfl, ds, ks, rfl, hds, _, rfl, dl, kl, rfl, hdl, rfl, _, rfl, ite2 (fun c => ?_) (fun c => ?_)⟩
    · refine k _ _ (Ex.rf _) ?_
      show V.bl false = V.bl _
      have c := dN c
      rw [dic_len pds, dic_len pdl] at c
      unfold ledOn
      rw [decide_eq_false fun z => c (by rw [z]), Bool.false_and]
    have hlen : sums.length = later.length := by
      have c := dNN c
      rw [dic_len pds, dic_len pdl] at c
      injection c with c
      omega
    refine ⟨ds, _, hds, trivial, fun od => ?_⟩
    have leL : Le H (upd H ds (.frz od (.dT ks))) := Le.lock hds
    have hdsL : upd H ds (.frz od (.dT ks)) ds = some (.frz od (.dT ks)) := upd_same
    have hdlL : upd H ds (.frz od (.dT ks)) dl = some (.dT kl) := by rw [upd_ne (Ne.symm hne)]; exact hdl
    generalize hHl : upd H ds (.frz od (.dT ks)) = Hl at leL hdsL hdlL
    have pstL := Mon.up leL pst
    have puL := MonT.up leL.lt pu
    have haL := leL.o a (.ins _ _ _) trivial ha
    refine ⟨_, rfl, ds, od, ks, rfl, hdsL, ⟨lc_map (P := pZip K (pTup K pInt) pInt) (R := pBl) (wk_IT (K := K) (R := pInt) (d := ds) (o := od) (kvs := ks) (xs := sums) (dic_len pds)) (fun x => decide (aget later (addv (spansS S) x.1 mv) = some (x.2 + most))) (by omega) (fun H' e => ⟨e _ _ hdsL, pimp pds fun _ _ q => q⟩) (fun i x v H1 hx e pv Nx Z kz => ?_) (fun L H1 ws hL e hl pw => ?_)⟩⟩
    · obtain ⟨r, sv, _, rfl, hr', psv, rfl⟩ := pv
      refine ⟨r, _, rfl, hr', rfl, _, _, rfl, _, _, rfl, rfl, rfl, ?_⟩
      refine ⟨_, rfl, dl, rfl, .inr ⟨kl, .inl (e _ _ hdlL)⟩, _, rfl, a, dx, _, rfl, e _ _ haL, rfl, _, rfl, _, rfl, _, _, _, _, _, _, _, rfl, Mon.up (Ex.le e) pstL, ok, psv, MonT.up (Ex.lt e) puL, fun th H2 e2 pth => ?_⟩
      obtain ⟨pt, rfl, hpt⟩ := pth
      have hpk : H2 pt = some (.tup (((addv (spansS S) x.1 mv).map Sum.inl : List Key).map kV)) := by rw [key_map]; exact hpt
      have hdl2 := (e.tr e2) _ _ hdlL
      have pd2 : pDic pInt H2 kl later := pimp pdl fun _ _ q => q
      have hget := DGet.t hdl2 hpk
      rcases dic_get pd2 (addv (spansS S) x.1 mv) with ⟨g1, g2⟩ | ⟨gv, t, g1, g2, g3⟩
      · rw [g2] at hget
        refine ⟨none, hget, _, rfl, _, rfl, _, _, rfl, rfl, rfl, kz _ _ e2 ?_⟩
        show V.bl _ = V.bl _
        rw [g1]
        rfl
      · cases g3
        rw [g1] at hget
        refine ⟨some (.int t), hget, _, rfl, _, rfl, _, _, rfl, rfl, rfl, kz _ _ e2 ?_⟩
        show V.bl (decide (V.int t = V.int (x.2 + most))) = V.bl _
        rw [g2]
        congr 1
        refine decide_eq_decide.mpr ⟨fun h => by injection h with h; rw [h], fun h => by injection h with h; rw [h]⟩
    rw [paired_bl pw] at hl
    have hds1 := e _ _ hdsL
    refine ⟨hds1, ?_⟩
    subst hHl
    have e2 := Ex.unlock hds e
    have neL : L ≠ ds := fun z => by rw [z, hds1] at hl; cases hl
    generalize hG : upd H1 ds (.dT ks) = H2 at e2
    have hl2 : H2 L = some (.lst ((sums.map fun x => decide (aget later (addv (spansS S) x.1 mv) = some (x.2 + most))).map V.bl)) := by subst hG; rw [upd_ne neL]; exact hl
    refine ⟨L, _, rfl, SqL.of hl2, k _ _ e2 ?_⟩
    show V.bl _ = V.bl _
    congr 1
    unfold ledOn
    rw [decide_eq_true hlen, Bool.true_and, List.all_map]
    rfl⟩)
end
end Lf

set_option Elab.async false
set_option linter.all false
set_option maxRecDepth 100000
set_option maxHeartbeats 4000000
namespace Lf
open PySem PySem.Spec PyProof.Rows L2 Lc Lr Lm
def mostS (best : Best) : Int := mx ((best.map Prod.snd).map fun t => t.1)
def mvL (best : Best) : List Vec := (best.filter fun x => decide (x.2.1 = mostS best)).map fun x => x.1
def mvS (best : Best) : Vec := (mvL best).headD []
def FF (ps : Vec) (best : Best) : Nat → Sums
  | 0 => [(zerov ps, 0)]
  | n + 1 => oneMore ps (FF ps best n) best
def shiftD (ps : Vec) (f : Sums) (mv : Vec) (most : Int) : Sums := f.foldl (fun g x => aput g (addv ps x.1 mv) (x.2 + most)) []
def GG (ps : Vec) (best : Best) (n0 : Nat) : Nat → Sums
  | 0 => FF ps best n0
  | j + 1 => shiftD ps (GG ps best n0 j) (mvS best) (mostS best)
def ledAt (ps : Vec) (best : Best) (n : Nat) : Bool := ledOn ps (FF ps best n) (FF ps best (n + 1)) (mvS best) (mostS best)
def turnS (S : Sides) (best : Best) : Int := ordS (spansS S) (mvS best)
def riseS (S : Sides) (best : Best) : Int := turnS S best * mostS best / botS S
def numsS (S : Sides) (best : Best) (n0 : Nat) : List Int := (List.range n0).map fun n => ggv S (FF (spansS S) best n)
def againS (S : Sides) (best : Best) (n0 : Nat) : List Int := (List.range (turnS S best).toNat).map fun j => ggv S (GG (spansS S) best n0 j)
structure RowHyp (N : List Str) (S : Sides) (best : Best) (n0 : Nat) : Prop where
  ok : SOk N S
  ne : S ≠ []
  ham : ∀ nm ∈ N, amts (S.map (·.1)) nm ≤ 400
  sp : 2 ≤ (spansS S).length
  b0 : best ≠ []
  b1 : best.length ≤ 1000
  no : n0 ≤ 1000
  led0 : ∀ n, n < n0 → ledAt (spansS S) best n = false
  led1 : ledAt (spansS S) best n0 = true
  fok : ∀ n, n ≤ n0 + 1 → SmOk S (FF (spansS S) best n)
  t0 : 1 ≤ turnS S best
  t1 : turnS S best ≤ 1000
  gok : ∀ j : Nat, (j : Int) ≤ turnS S best → SmOk S (GG (spansS S) best n0 j)
  mv0 : ∀ x ∈ mvS best, 0 ≤ x
  r0 : -1000000000000000 ≤ riseS S best
  r1 : riseS S best ≤ 1000000000000000
section
variable {P : Program} {w : World} {K : PySem.W.Frag} {mg : Str → Option Value} {base : Heap}
theorem mvL_ne {best : Best} (h : best ≠ []) : mvL best ≠ [] := by
  have hne : ((best.map Prod.snd).map fun t => t.1) ≠ [] := by simpa using h
  obtain ⟨h1, _⟩ := mx_mem hne
  obtain ⟨t, ht, e⟩ := List.mem_map.mp h1
  obtain ⟨x, hx, rfl⟩ := List.mem_map.mp ht
  intro z
  unfold mvL at z
  rw [List.map_eq_nil_iff, List.filter_eq_nil_iff] at z
  exact z x hx (decide_eq_true e)
theorem shift_len (ps mv : Vec) (most : Int) : ∀ (l : Sums) (g : Sums), (l.foldl (fun g x => aput g (addv ps x.1 mv) (x.2 + most)) g).length ≤ g.length + l.length
  | [], g => by simp
  | x :: l, g => by
    have h1 := shift_len ps mv most l (aput g (addv ps x.1 mv) (x.2 + most))
    have h2 := aput_len g (addv ps x.1 mv) (x.2 + most)
    rw [List.foldl_cons, List.length_cons]
    omega
def sp_row_of (K : PySem.W.Frag) : Sp := fun vs H Q _ => ∃ v b u c n0, vs = [v, u] ∧ pBk K H v b ∧ pBk K H u c ∧ RowHyp b.names [(b, 1), (c, -1)] (bestS b.names [(b, 1), (c, -1)]) n0 ∧
  ∀ t H' rw, Ex H H' → pRw K H' t rw → RwOk rw → (∀ k, rw.tell k = tell (numsS [(b, 1), (c, -1)] (bestS b.names [(b, 1), (c, -1)]) n0) (againS [(b, 1), (c, -1)] (bestS b.names [(b, 1), (c, -1)]) n0) (riseS [(b, 1), (c, -1)] (bestS b.names [(b, 1), (c, -1)])) k) →
    ((∀ y ∈ numsS [(b, 1), (c, -1)] (bestS b.names [(b, 1), (c, -1)]) n0, y = 0) → (∀ y ∈ againS [(b, 1), (c, -1)] (bestS b.names [(b, 1), (c, -1)]) n0, y = 0) → riseS [(b, 1), (c, -1)] (bestS b.names [(b, 1), (c, -1)]) = 0 → rw = ⟨[], [0], 0⟩) → Q t H'
theorem ok_row_of (T : Tx K mg) : C8.Cal P w K mg base 9 "row_of" (sp_row_of K) [] :=
  mk_row_of T (fn_row_of T (fun vs H Q E h => by obtain ⟨_, _, _, _, _, rfl, _⟩ := h; rfl) fun cdv A outer s H vs Q E hr h => ⟨_, (der_row_of T (ok_States_init T) (ok_sides_of T) (ok_best_lines T) (ok_empty T) (ok_one_more T) (ok_is_led_on T) (ok_greatest_gap T) (ok_order T) (ok_added T) (ok_Row_init T) hr).2, by
    obtain ⟨v, b, u, c, n0, rfl, pb, pc, hyp, k⟩ := h
    generalize hS : [(b, (1 : Int)), (c, -1)] = S at hyp k
    generalize hN : b.names = N at hyp k
    generalize hB : bestS N S = best at hyp k
    obtain ⟨ok, hne, ham, hsp, hb0, hb1, hno, hled0, hled1, hfok, ht0, ht1, hgok, hmv0, hr0, hr1⟩ := hyp
    refine ⟨_, rfl, _, rfl, _, _, _, _, rfl, pb, pc, fun l1 H1 e1 nl1 pl => ?_⟩
    rw [hS] at pl
    obtain ⟨_, us, e0, hl1, prs⟩ := pl
    cases e0
    intro x dx nx ndx ned
    refine ⟨x, dx, l1, us, N, S, H1, rfl, upd_same, ins_ex nx ndx ned, nx, hl1, prs, ok, fun vv H2 e2 hvv pst => ?_⟩
    subst hvv
    refine ⟨rfl, ?_⟩
    have pstx := pst
    obtain ⟨_, dx2, _, _, _, e0, hx2, _⟩ := pstx
    cases e0
    refine ⟨_, rfl, x, dx2, _, rfl, hx2, rfl, _, _, _, rfl, pst, ok, hne, ham, fun db H3 kb e3 ndb hdb pdb => ?_⟩
    rw [hB] at pdb
    have e13 := (e1.tr e2).tr e3
    have pst3 := Mon.up (Ex.le e3) pst
    have hx3 := e3 _ _ hx2
    -- most
    refine ⟨db, _, hdb, trivial, fun od => ?_⟩
    have leA : Le H3 (upd H3 db (.frz od (.dT kb))) := Le.lock hdb
    have hdbA : upd H3 db (.frz od (.dT kb)) db = some (.frz od (.dT kb)) := upd_same
    generalize hHA : upd H3 db (.frz od (.dT kb)) = HA at leA hdbA
    have pdbA := dic_up leA.lt pdb
    refine ⟨_, rfl, db, od, kb, rfl, hdbA, ⟨lc_map (P := pTri K) (R := pInt) (wk_VT (R := pTri K) (d := db) (o := od) (kvs := kb) (xs := best) (dic_len pdb)) (fun t => t.1) (by rw [List.length_map]; omega) (fun H' e => ⟨e _ _ hdbA, dic_up (Ex.lt e) pdbA⟩) (fun i t v H4 ht e pv Nx Z kz => ?_) (fun L H4 ws hL e hl pw => ?_)⟩⟩
    · obtain ⟨q, _, _, _, rfl, hq, rfl, rfl, rfl⟩ := pv
      exact ⟨rfl, _, rfl, _, _, _, _, rfl, rfl, hq, rfl, kz _ _ (Ex.rf _) rfl⟩
    rw [paired_int pw] at hl
    have hdb4 := e _ _ hdbA
    refine ⟨hdb4, ?_⟩
    subst hHA
    have e4 := Ex.unlock hdb e
    have neL : L ≠ db := fun z => by rw [z, hdb4] at hl; cases hl
    generalize hG : upd H4 db (.dT kb) = H5 at e4
    have hl5 : H5 L = some (.lst (((best.map Prod.snd).map fun t => t.1).map V.int)) := by subst hG; rw [upd_ne neL]; exact hl
    refine ⟨L, _, rfl, SqL.of hl5, by rw [List.length_map, List.length_map]; exact List.length_pos_iff.mpr hb0, fun m hm1 hm2 => ?_⟩
    rw [mx_uniq hm1 hm2]
    have e15 := e13.tr e4
    have pst5 := Mon.up (Ex.le e4) pst3
    have hdb5 := e4 _ _ hdb
    have pdb5 := dic_up (Ex.lt e4) pdb
    have hx5 := e4 _ _ hx3
    -- move
    refine ⟨db, _, hdb5, trivial, fun od2 => ?_⟩
    have leB : Le H5 (upd H5 db (.frz od2 (.dT kb))) := Le.lock hdb5
    have hdbB : upd H5 db (.frz od2 (.dT kb)) db = some (.frz od2 (.dT kb)) := upd_same
    generalize hHB : upd H5 db (.frz od2 (.dT kb)) = HB at leB hdbB
    have pdbB := dic_up leB.lt pdb5
    refine ⟨_, rfl, db, od2, kb, rfl, hdbB, ⟨lc_wk (P := pZip K (pTup K pInt) (pTri K)) (R := pTup K pInt) (wk_IT (K := K) (R := pTri K) (d := db) (o := od2) (kvs := kb) (xs := best) (dic_len pdb)) (fun y => decide (y.2.1 = mostS best)) (fun y => y.1) (by omega) (fun H' e => ⟨e _ _ hdbB, dic_up (Ex.lt e) pdbB⟩) (fun i t v H6 ht e pv Nx Z kn kz => ?_) (fun M H6 ws6 hM e6 hm6 pw6 => ?_)⟩⟩
    · obtain ⟨r, mvv, tv, rfl, hr', pmv, ptv⟩ := pv
      obtain ⟨q, _, _, _, rfl, hq, rfl, rfl, rfl⟩ := ptv
      refine ⟨r, _, rfl, hr', rfl, _, _, rfl, _, _, rfl, rfl, rfl, ?_⟩
      refine ⟨_, rfl, _, _, _, _, rfl, rfl, hq, rfl, _, rfl, rfl, _, rfl, ite2 (fun c => ?_) (fun c => ?_)⟩
      · have c : t.2.1 = mostS best := by have := dT c; injection this
        exact ⟨_, rfl, kz (decide_eq_true c) _ _ (Ex.rf _) pmv⟩
      · have c : ¬ t.2.1 = mostS best := fun h => dF c (congrArg V.int h)
        exact kn (decide_eq_false c) _ (Ex.rf _)
    have hdb6 := e6 _ _ hdbB
    refine ⟨hdb6, ?_⟩
    subst hHB
    have e56 := Ex.unlock hdb5 e6
    have neM : M ≠ db := fun z => by rw [z, hdb6] at hm6; cases hm6
    have lu : Le H6 (upd H6 db (.dT kb)) := Le.unlock hdb6
    generalize hG7 : upd H6 db (.dT kb) = H7 at e56 lu
    have hm7 : H7 M = some (.lst ws6) := by subst hG7; rw [upd_ne neM]; exact hm6
    have pw7 : Paired (pTup K pInt H7) ws6 (mvL best) := paired_upT lu.lt pw6
    obtain ⟨mv, rest, hmv⟩ : ∃ mv rest, mvL best = mv :: rest := by
      cases q : mvL best with
      | nil => exact absurd q (mvL_ne hb0)
      | cons y t => exact ⟨y, t, rfl⟩
    have emv : mvS best = mv := by unfold mvS; rw [hmv]; rfl
    rw [hmv] at pw7
    obtain ⟨um, hum, pum⟩ := paired_at' pw7 (i := 0) (y := mv) rfl
    rw [← emv] at pum
    refine ⟨M, _, _, _, rfl, rfl, SqL.of hm7, atI_0 hum, ?_⟩
    have e17 := e15.tr e56
    have pst7 := Mon.up (Ex.le e56) pst5
    have hdb7 := e56 _ _ hdb5
    have pdb7 := dic_up (Ex.lt e56) pdb5
    have hx7 := e56 _ _ hx5
    -- sums, numbers
    intro d0 nd0
    generalize hG8 : upd H7 d0 _ = H8
    obtain ⟨e8, h8⟩ := gen_new nd0 hG8
    refine ⟨_, rfl, x, dx2, _, rfl, e8 _ _ hx7, rfl, _, _, rfl, Mon.up (Ex.le e8) pst7, hsp, by have := spans_len ok; omega, fun z H9 e9 pz => ?_⟩
    obtain ⟨pz0, hz1, hz2⟩ := pz.k
    cases hz1
    have hd9 := e9 _ _ h8
    refine ⟨hd9, _, pz0, rfl, hz2, ?_⟩
    generalize hGA : upd H9 d0 _ = HC
    have eC : Ex H7 HC := by subst hGA; exact Evl.Ex.mut (e8.tr e9) nd0
    have hdC : HC d0 = some (.dT [((zerov (spansS S)).map Sum.inl, .int 0)]) := by subst hGA; exact upd_same
    refine ⟨by rw [sizeLine_eq]; simp, fun ln nln => ?_⟩
    generalize hGD : upd HC ln _ = HD
    obtain ⟨eD, hD⟩ := gen_new nln hGD
    have e7D := eC.tr eD
    have nln7 : H7 ln = none := ex_none eC nln
    refine ⟨_, _, rfl, ?_⟩
    have nedb0 : d0 ≠ db := fun z => by rw [z, hdb7] at nd0; cases nd0
    have hF0 : pDic pInt HD [((zerov (spansS S)).map Sum.inl, .int 0)] (FF (spansS S) best 0) := .cons ⟨rfl, rfl⟩ .nil
    refine ⟨_, rfl, _, rfl, _, rfl, _, d0, db, _, _, _, _, _, _, rfl, Mon.up (Ex.le e7D) pst7, ok, eD _ _ hdC, hF0, e7D _ _ hdb7, dic_up (Ex.lt e7D) pdb7, nedb0, (hfok 0 (by omega)).len, hb1, fun dl HE kl eE ndl hdl pdl => ?_⟩
    have e7E := e7D.tr eE
    have nedl : dl ≠ db := fun z => by rw [z, e7D _ _ hdb7] at ndl; cases ndl
    have ned0l : d0 ≠ dl := fun z => by rw [← z, eD _ _ hdC] at ndl; cases ndl
    refine ⟨fun m σ H' => ∃ (n : Nat) (ds dl : Addr) (ks kl : List (List Key × V)) (z9 z10 z11 z12 z13 z14 : Option V), Ex H7 H' ∧ σ = [some v, some u, some (.ref x), some (.ref db), some (.int (mostS best)), some um, some (.ref ds), some (.ref ln), some (.ref dl), z9, z10, z11, z12, z13, z14] ∧ H' ds = some (.dT ks) ∧ pDic pInt H' ks (FF (spansS S) best n) ∧ H' dl = some (.dT kl) ∧ pDic pInt H' kl (FF (spansS S) best (n + 1)) ∧ ds ≠ dl ∧ ds ≠ db ∧ dl ≠ db ∧ H' ln = some (.lst (((List.range n).map fun n => ggv S (FF (spansS S) best n)).map V.int)) ∧ n ≤ n0 ∧ m = n0 - n,
      ⟨_, 0, d0, dl, _, kl, _, _, _, _, _, _, e7E, rfl, eE _ _ (eD _ _ hdC), pimp hF0 fun _ _ q => q, hdl, pdl, ned0l, nedb0, nedl, eE _ _ hD, Nat.zero_le _, rfl⟩, ?_⟩
    clear hF0 hdl pdl ned0l nedl e7E eE ndl hD hdC eD e7D hGD nln eC hGA hd9 hz2 e9 e8 h8 hG8 nedb0 nd0
    rintro m σ HE ⟨n, ds, dl, ks, kl, z9, z10, z11, z12, z13, z14, e7E, rfl, hds, pds, hdl, pdl, ndsl, ndsb, ndlb, hln, hn, hm⟩
    have pstE := Mon.up (Ex.le e7E) pst7
    have pumE := MonT.up (Ex.lt e7E) pum
    refine ⟨_, rfl, _, rfl, _, rfl, _, rfl, _, rfl, _, ds, dl, _, S, N, ks, kl, _, _, mvS best, _, rfl, pstE, ok, hds, pds, hdl, pdl, ndsl, pumE, (hfok n (by omega)).len, fun y HF eF py => ?_⟩
    cases py
    have e7F := e7E.tr eF
    have pstF := Mon.up (Ex.le e7F) pst7
    have hdsF := eF _ _ hds
    have hdlF := eF _ _ hdl
    have hlnF := eF _ _ hln
    refine ⟨_, rfl, ite2 (fun cc => ?_) (fun cc => ?_)⟩
    · have hlt : n < n0 := by
        rcases Nat.lt_or_eq_of_le hn with h | h
        · exact h
        · exfalso
          have c' : (!ledAt (spansS S) best n) = true := cc
          rw [h, hled1] at c'
          cases c'
      refine ⟨_, fun _ _ z => z, _, rfl, tyL hlnF, _, rfl, _, rfl, _, ds, S, N, ks, _, rfl, pstF, ok, hdsF, pimp pds fun _ _ q => q, hfok n (by omega), fun y HG eG py => ?_⟩
      cases py
      have hlnG := eG _ _ hlnF
      refine ⟨ln, _, _, rfl, rfl, hlnG, Nat.lt_of_le_of_lt (by rw [List.length_map, List.length_map, List.length_range]; exact Nat.le_trans hn hno) (by rw [sizeLine_eq]; decide), ?_⟩
      have n1 : dl ≠ ln := fun z => by rw [z, hlnF] at hdlF; cases hdlF
      have n2 : db ≠ ln := fun z => by rw [z] at hdb7; rw [hdb7] at nln7; cases nln7
      generalize hGI : upd HG ln _ = HI
      have e7I : Ex H7 HI := by subst hGI; exact Evl.Ex.mut (e7F.tr eG) nln7
      have hdlI : HI dl = some (.dT kl) := by subst hGI; rw [upd_ne n1]; exact eG _ _ hdlF
      have hlnI : HI ln = some (.lst (((List.range (n + 1)).map fun n => ggv S (FF (spansS S) best n)).map V.int)) := by subst hGI; rw [upd_same, List.range_succ]; simp
      refine ⟨_, rfl, _, rfl, _, rfl, _, rfl, _, dl, db, S, N, kl, kb, FF (spansS S) best (n + 1), best, rfl, Mon.up (Ex.le e7I) pst7, ok, hdlI, pimp pdl fun _ _ q => q, e7I _ _ hdb7, dic_up (Ex.lt e7I) pdb7, ndlb, (hfok (n + 1) (by omega)).len, hb1, fun d2 HJ k2 eJ nd2 hd2 pd2 => ?_⟩
      refine ⟨_, _, rfl, n0 - (n + 1), by omega, n + 1, dl, d2, kl, k2, _, _, _, _, _, _, e7I.tr eJ, rfl, eJ _ _ hdlI, pimp pdl fun _ _ q => q, hd2, pd2, fun z => ?_, ndlb, fun z => ?_, eJ _ _ hlnI, hlt, rfl⟩
      · rw [← z, hdlI] at nd2; cases nd2
      · rw [z, e7I _ _ hdb7] at nd2; cases nd2
    have heq : n = n0 := by
      rcases Nat.lt_or_eq_of_le hn with h | h
      · exfalso
        have c' : ¬ (!ledAt (spansS S) best n) = true := cc
        rw [hled0 n h] at c'
        exact c' rfl
      · exact h
    subst heq
    have hxF := e7F _ _ hx7
    have pumF := MonT.up (Ex.lt e7F) pum
    refine ⟨_, rfl, x, dx2, _, rfl, hxF, rfl, _, rfl, _, _, S, N, mvS best, rfl, pstF, ok, pumF, hmv0, fun y HG eG py => ?_⟩
    cases py
    refine ⟨by rw [sizeLine_eq]; simp, fun la nla => ?_⟩
    generalize hGH : upd HG la _ = HH
    obtain ⟨eH, hH⟩ := gen_new nla hGH
    have e7G := e7F.tr eG
    have hdsG := eG _ _ hdsF
    have hlnG := eG _ _ hlnF
    refine ⟨_, _, rfl, ?_⟩
    have htn : ((turnS S best).toNat : Int) = turnS S best := Int.toNat_of_nonneg (by omega)
    refine ⟨_, rfl, _, rfl, by show -(2 ^ 62) ≤ turnS S best; omega, by show turnS S best < 2 ^ 62; omega, for_wk (P := pInt) (wk_rng (lo := 0) (n := (turnS S best).toNat)) (fun j σ H' => Ex HG H' ∧ H' la = some (.lst (((List.range j).map fun j => ggv S (GG (spansS S) best n j)).map V.int)) ∧ ∃ (ds : Addr) (ks : List (List Key × V)) (z11 z12 z13 z14 : Option V), H' ds = some (.dT ks) ∧ pDic pInt H' ks (GG (spansS S) best n j) ∧ σ = [some v, some u, some (.ref x), some (.ref db), some (.int (mostS best)), some um, some (.ref ds), some (.ref ln), some (.ref dl), some (.int (turnS S best)), some (.ref la), z11, z12, z13, z14]) ⟨eH, hH, ds, ks, _, _, _, _, eH _ _ hdsG, pimp pds fun _ _ q => q, rfl⟩ (fun _ _ _ _ _ => trivial) (fun j y w σ HI HJ hy q eJ py => ?_) (fun σ H' q => ?_)⟩
    · obtain ⟨eI, hlaI, es, ks, y11, y12, y13, y14, hdsI, pdsI, rfl⟩ := q
      cases py
      obtain ⟨hj1, hj2⟩ := rng_of hy
      have eGJ := eI.tr eJ
      have e7J := e7G.tr eGJ
      have hdsJ := eJ _ _ hdsI
      have hlaJ := eJ _ _ hlaI
      refine ⟨_, rfl, tyL hlaJ, _, rfl, _, rfl, _, es, S, N, ks, _, rfl, Mon.up (Ex.le e7J) pst7, ok, hdsJ, pimp pdsI fun _ _ q => q, hgok j (by omega), fun y2 HK eK py2 => ?_⟩
      cases py2
      have hlaK := eK _ _ hlaJ
      refine ⟨la, _, _, rfl, rfl, hlaK, Nat.lt_of_le_of_lt (by rw [List.length_map, List.length_map, List.length_range]; omega) (by rw [sizeLine_eq]; decide : (1000 : Nat) < sizeLine), ?_⟩
      have n1 : es ≠ la := fun z => by rw [z, hlaJ] at hdsJ; cases hdsJ
      generalize hGL : upd HK la _ = HL
      have eGL : Ex HG HL := by subst hGL; exact Evl.Ex.mut (eGJ.tr eK) nla
      have hdsL : HL es = some (.dT ks) := by subst hGL; rw [upd_ne n1]; exact eK _ _ hdsJ
      have hlaL : HL la = some (.lst (((List.range (j + 1)).map fun j => ggv S (GG (spansS S) best n j)).map V.int)) := by subst hGL; rw [upd_same, List.range_succ]; simp
      have e7L := e7G.tr eGL
      refine ⟨es, _, hdsL, trivial, fun od3 => ?_⟩
      have leM : Le HL (upd HL es (.frz od3 (.dT ks))) := Le.lock hdsL
      have hdsM : upd HL es (.frz od3 (.dT ks)) es = some (.frz od3 (.dT ks)) := upd_same
      generalize hHM : upd HL es (.frz od3 (.dT ks)) = HM at leM hdsM
      have pstM := Mon.up leM (Mon.up (Ex.le e7L) pst7)
      have pumM := MonT.up leM.lt (MonT.up (Ex.lt e7L) pum)
      have hxM := leM.o x (.ins _ _ _) trivial (e7L _ _ hx7)
      refine ⟨_, rfl, es, od3, ks, rfl, hdsM, ⟨fun D nD => ?_⟩⟩
      have nDM : HM D = none := nD
      refine dc_IT (fun i H' => Ex HM H' ∧ ∃ kvs, H' D = some (.dT kvs) ∧ pDic pInt H' kvs (((GG (spansS S) best n j).take i).foldl (fun g x => aput g (addv (spansS S) x.1 (mvS best)) (x.2 + mostS best)) [])) ⟨Evl.Ex.new nD, [], upd_same, .nil⟩ (fun i H' _ q => q.1 _ _ hdsM) (fun i Tq q kk vv H' hkv hPv nT hq => ?_) (fun H' hPv => ?_)
      · obtain ⟨eP, kvs, hD, pD⟩ := hPv
        obtain ⟨yy, hyy, ek, ev⟩ := paired_at pdsI hkv
        have ek' : kk = yy.1.map Sum.inl := ek
        cases ev
        have eT : Ex H' (upd H' Tq (.tup [.ref q, .int yy.2])) := Evl.Ex.new nT
        have hT : upd H' Tq (.tup [.ref q, .int yy.2]) Tq = some (.tup [.ref q, .int yy.2]) := upd_same
        generalize hGT : upd H' Tq (.tup [.ref q, .int yy.2]) = HT at eT hT
        have eMT := eP.tr eT
        have hqT := eT _ _ hq
        rw [ek', key_map] at hqT
        refine ⟨Tq, _, rfl, SqT.of hT, rfl, _, _, rfl, _, _, rfl, rfl, rfl, ?_⟩
        refine ⟨_, rfl, x, dx2, _, rfl, eMT _ _ hxM, rfl, _, rfl, _, rfl, _, _, _, S, N, yy.1, mvS best, rfl, Mon.up (Ex.le eMT) pstM, ok, ofInts (SqT.of hqT), MonT.up (Ex.lt eMT) pumM, fun th HU eU pth => ?_⟩
        obtain ⟨pt, rfl, hpt⟩ := pth
        have hDU := eU _ _ (eT _ _ hD)
        have hpk : HU pt = some (.tup (((addv (spansS S) yy.1 (mvS best)).map Sum.inl : List Key).map kV)) := by rw [key_map]; exact hpt
        refine ⟨_, rfl, _, rfl, _, _, rfl, rfl, kvs, _, pt, rfl, hpk, hDU, ?_, Evl.Ex.mut (eMT.tr eU) nDM, _, upd_same, ?_⟩
        · have h2 := (hgok j (by omega)).len
          have h3 : kvs.length ≤ 1000 := by
            rw [dic_len pD]
            exact Nat.le_trans (shift_len (spansS S) (mvS best) (mostS best) _ []) (by rw [List.length_take, List.length_nil]; omega)
          exact Nat.lt_of_le_of_lt h3 (by rw [sizeLine_eq]; decide)
        · rw [take_snoc hyy, foldl_snoc]
          exact dic_put (R := pInt) (pimp pD fun _ _ q => q) _ rfl
      · obtain ⟨eP, kvs, hD, pD⟩ := hPv
        rw [List.take_of_length_le (by rw [dic_len pdsI]; exact Nat.le_refl _)] at pD
        refine ⟨eP _ _ hdsM, ?_⟩
        subst hHM
        have eQ := Ex.unlock hdsL eP
        have nDs : D ≠ es := fun z => by rw [z, upd_same] at nDM; cases nDM
        exact ⟨eGL.tr eQ, eQ _ _ hlaL, D, kvs, _, _, _, _, by rw [upd_ne nDs]; exact hD, pimp pD fun _ _ q => q, rfl⟩
    · obtain ⟨eI, hlaI, es, ks, y11, y12, y13, y14, hdsI, pdsI, rfl⟩ := q
      rw [rng_len] at hlaI
      have hlnI := eI _ _ hlnG
      refine ⟨_, rfl, ln, _, rfl, .inl ⟨SqL.of hlnI, fun t1 nt1 => ?_⟩⟩
      generalize hG1 : upd H' t1 _ = K1
      obtain ⟨g1, j1⟩ := gen_new nt1 hG1
      refine ⟨_, rfl, la, _, rfl, .inl ⟨SqL.of (g1 _ _ hlaI), fun t2 nt2 => ?_⟩⟩
      generalize hG2 : upd K1 t2 _ = K2
      obtain ⟨g2, j2⟩ := gen_new nt2 hG2
      have e72 := ((e7G.tr eI).tr g1).tr g2
      obtain ⟨b1, b2⟩ := bot_bd ok
      refine ⟨_, rfl, _, rfl, _, _, rfl, rfl, mulL (by omega) (by omega), _, rfl, x, _, dx2, _, _, rfl, e72 _ _ hx7, k_States T, a_States_bottom T, rfl, _, _, rfl, rfl, ⟨b1, lt64 (Int.le_of_lt b1) (by omega)⟩, ?_⟩
      refine row_made (es := numsS S best n) (as := againS S best n) (r := riseS S best) (ofInts (SqT.of (g2 _ _ j1))) (ofInts (SqT.of j2)) ?_ ?_ ?_ hr0 hr1 (fun w HZ rw eZ prw okr tl zz => k w HZ rw ?_ prw okr tl zz)
      · intro z
        have : (againS S best n).length = 0 := by rw [z]; rfl
        unfold againS at this
        rw [List.length_map, List.length_range] at this
        omega
      · unfold againS
        rw [List.length_map, List.length_range]
        omega
      · unfold numsS
        rw [List.length_map, List.length_range]
        exact hno
      · exact (e17.tr e72).tr eZ⟩)
end
end Lf

set_option Elab.async false
set_option linter.all false
set_option maxRecDepth 100000
set_option maxHeartbeats 4000000
namespace Lf
open PySem PySem.Spec PyProof.Rows L2 Lc Lr Lm
abbrev RD (b c : Bk) : Sides := [(b, 1), (c, -1)]
structure PairOk (b c : Bk) : Prop where
  okb : BkOk b
  okc : BkOk c
  en : b.names = c.names
  re : RatesEq b c
  sb : 0 < b.size ∧ b.size ≤ 200
  sc : 0 < c.size ∧ c.size ≤ 200
  ss : sizes [b, c] ≤ 200
  sa : ∀ nm ∈ b.names, amts [b, c] nm ≤ 400
  row : ∃ n0, RowHyp b.names (RD b c) (bestS b.names (RD b c)) n0
/-- the row is what row_of makes of the two -/
def Told (b c : Bk) (x : Rw) : Prop := ∃ n0, RowHyp b.names (RD b c) (bestS b.names (RD b c)) n0 ∧ (∀ k, x.tell k = tell (numsS (RD b c) (bestS b.names (RD b c)) n0) (againS (RD b c) (bestS b.names (RD b c)) n0) (riseS (RD b c) (bestS b.names (RD b c))) k) ∧
  ((∀ y ∈ numsS (RD b c) (bestS b.names (RD b c)) n0, y = 0) → (∀ y ∈ againS (RD b c) (bestS b.names (RD b c)) n0, y = 0) → riseS (RD b c) (bestS b.names (RD b c)) = 0 → x = ⟨[], [0], 0⟩)
section
variable {P : Program} {w : World} {K : PySem.W.Frag} {mg : Str → Option Value} {base : Heap}
def sp_greatest (K : PySem.W.Frag) : Sp := fun vs H Q _ => ∃ v b u c, vs = [v, u] ∧ pBk K H v b ∧ pBk K H u c ∧ PairOk b c ∧ ∀ t H' x, Ex H H' → pRw K H' t x → RwOk x → Told b c x → Q t H'
theorem ok_greatest (T : Tx K mg) : C8.Cal P w K mg base 10 "greatest" (sp_greatest K) [] :=
  mk_greatest T (fn_greatest T (fun vs H Q E h => by obtain ⟨_, _, _, _, rfl, _⟩ := h; rfl) fun cdv A outer s H vs Q E hr h => ⟨_, (der_greatest T (ok_check_two T) (ok_check_greatest T) (ok_row_of T) hr).2, by
    obtain ⟨v, b, u, c, rfl, pb, pc, ok, k⟩ := h
    obtain ⟨n0, hyp⟩ := ok.row
    refine ⟨_, rfl, _, rfl, _, _, _, _, rfl, pb, pc, ?_⟩
    refine ⟨_, rfl, _, rfl, _, _, _, _, rfl, pb, pc, ok.okb, ok.okc, ok.en, ok.re, ok.sb, ok.sc, ok.ss, ok.sa, fun H1 e1 => ?_⟩
    exact ⟨_, rfl, _, rfl, _, b, _, c, n0, rfl, MonT.up (Ex.lt e1) pb, MonT.up (Ex.lt e1) pc, hyp, fun t H2 x e2 px okx tl zz => k t H2 x (e1.tr e2) px okx ⟨n0, hyp, tl, zz⟩⟩⟩)
def sp_least (K : PySem.W.Frag) : Sp := fun vs H Q _ => ∃ v b u c, vs = [v, u] ∧ pBk K H v b ∧ pBk K H u c ∧ PairOk c b ∧ ∀ t H' y x, Ex H H' → pRw K H' t y → RwOk y → Told c b x → (∀ k, y.tell k = -x.tell k) → (x = ⟨[], [0], 0⟩ → y = ⟨[], [0], 0⟩) → Q t H'
theorem ok_least (T : Tx K mg) : C8.Cal P w K mg base 10 "least" (sp_least K) [] :=
  mk_least T (fn_least T (fun vs H Q E h => by obtain ⟨_, _, _, _, rfl, _⟩ := h; rfl) fun cdv A outer s H vs Q E hr h => ⟨_, (der_least T (ok_check_two T) (ok_check_greatest T) (ok_turned T) (ok_row_of T) hr).2, by
    obtain ⟨v, b, u, c, rfl, pb, pc, ok, k⟩ := h
    obtain ⟨n0, hyp⟩ := ok.row
    refine ⟨_, rfl, _, rfl, _, _, _, _, rfl, pb, pc, ?_⟩
    refine ⟨_, rfl, _, rfl, _, _, _, _, rfl, pc, pb, ok.okb, ok.okc, ok.en, ok.re, ok.sb, ok.sc, ok.ss, ok.sa, fun H1 e1 => ?_⟩
    refine ⟨_, rfl, _, rfl, _, c, _, b, n0, rfl, MonT.up (Ex.lt e1) pc, MonT.up (Ex.lt e1) pb, hyp, fun t H2 x e2 px okx tl zz => ?_⟩
    exact ⟨_, x, rfl, px, okx, fun u2 H3 y e3 py oky ty tz => k u2 H3 y x ((e1.tr e2).tr e3) py oky ⟨n0, hyp, tl, zz⟩ ty tz⟩⟩)
def sp_parting (K : PySem.W.Frag) : Sp := fun vs H Q _ => ∃ v b, vs = [v, v] ∧ pBk K H v b ∧ PairOk b b ∧ (∀ x, Told b b x → ∀ k, x.tell k = 0) ∧ RetV .non H Q
theorem ok_parting (T : Tx K mg) : C8.Cal P w K mg base 10 "parting" (sp_parting K) [] :=
  mk_parting T (fn_parting T (fun vs H Q E h => by obtain ⟨_, _, rfl, _⟩ := h; rfl) fun cdv A outer s H vs Q E hr h => ⟨_, (der_parting T (ok_check_two T) (ok_check_fit T) (ok_check_size T) (ok_difference T) (ok_first_greater T) (ok_first_other T) (ok_row_of T) hr).2, by
    obtain ⟨v, b, rfl, pb, ok, hz, k⟩ := h
    obtain ⟨n0, hyp⟩ := ok.row
    refine ⟨_, rfl, _, rfl, _, _, _, _, rfl, pb, pb, ?_⟩
    refine ⟨_, rfl, _, rfl, _, _, _, _, rfl, pb, pb, ok.okb, ok.okb, rfl, fun H1 e1 => ?_⟩
    refine ⟨_, rfl, _, rfl, by rw [sizeLine_eq]; simp, fun l nl => ?_⟩
    generalize hG : upd H1 l _ = H2
    obtain ⟨e2, h2⟩ := gen_new nl hG
    have e12 := e1.tr e2
    have pb2 := MonT.up (Ex.lt e12) pb
    refine ⟨_, [b, b], b.names, rfl, ⟨l, _, rfl, SqL.of h2, .cons pb2 (.cons pb2 .nil)⟩, by simp, fun x hx => ?_, ok.ss, ok.sa, fun H3 e3 => ?_⟩
    · have : x = b := by simpa using hx
      rw [this]
      exact ⟨ok.okb, rfl, ok.sb⟩
    have e13 := e12.tr e3
    refine ⟨_, rfl, _, rfl, by rw [sizeLine_eq]; simp, fun q nq => ?_⟩
    generalize hG4 : upd H3 q _ = H4
    obtain ⟨e4, h4⟩ := gen_new nq hG4
    have e14 := e13.tr e4
    have pb4 := MonT.up (Ex.lt e14) pb
    refine ⟨_, b, _, b, _, [], rfl, pb4, pb4, ok.okb, ok.okb, rfl, ⟨q, [], rfl, SqT.of h4, .nil⟩, fun x hx => by simp at hx, fun y H5 e5 py => ?_⟩
    have py' : y = .int (askN b [] - askN b []) := py
    rw [Int.sub_self] at py'
    subst py'
    have e15 := e14.tr e5
    have pb5 := MonT.up (Ex.lt e15) pb
    refine ⟨rfl, _, rfl, iteNS rfl ?_⟩
    refine ⟨_, rfl, _, rfl, _, _, _, _, rfl, pb5, pb5, ok.okb, ok.okb, rfl, ok.re, fun H6 e6 => ⟨rfl, _, rfl, iteF ?_⟩⟩
    have e16 := e15.tr e6
    have pb6 := MonT.up (Ex.lt e16) pb
    refine ⟨_, rfl, _, rfl, _, _, _, _, rfl, pb6, pb6, ok.okb, ok.okb, rfl, ok.re, fun H7 e7 => ⟨rfl, _, rfl, iteF ?_⟩⟩
    have e17 := e16.tr e7
    have pb7 := MonT.up (Ex.lt e17) pb
    refine ⟨_, rfl, _, rfl, _, b, _, b, n0, rfl, pb7, pb7, hyp, fun t H8 x e8 px okx tl zz => ?_⟩
    refine ⟨_, x, rfl, px, okx, hz x ⟨n0, hyp, tl, zz⟩, fun H9 e9 => ?_⟩
    have e19 := (e17.tr e8).tr e9
    have pb9 := MonT.up (Ex.lt e19) pb
    refine ⟨_, rfl, _, rfl, _, b, _, b, n0, rfl, pb9, pb9, hyp, fun t HA x eA px okx tl zz => ?_⟩
    refine ⟨_, x, rfl, px, okx, hz x ⟨n0, hyp, tl, zz⟩, fun HB eB => ?_⟩
    refine ⟨by rw [sizeLine_eq]; simp, fun m nm => ?_⟩
    generalize hGC : upd HB m _ = HC
    obtain ⟨eC, hC⟩ := gen_new nm hGC
    refine ⟨_, rfl, by rw [sizeLine_eq]; simp, fun m2 nm2 => ?_⟩
    generalize hGD : upd HC m2 _ = HD
    obtain ⟨eD, hD⟩ := gen_new nm2 hGD
    refine ⟨.list [.none, .none], .list [.none, .none], .lst (SqL.of (eD _ _ hC)) (.cons .non (.cons .non .nil)), .lst (SqL.of hD) (.cons .non (.cons .non .nil)), by decide +kernel, by decide +kernel, _, rfl, ?_⟩
    have e1D := (((e19.tr eA).tr eB).tr eC).tr eD
    refine ite2 (fun _ => k _ e1D) (fun c => ?_)
    exact absurd (by decide +kernel : PyData.eqv (.list [.none, .none]) (.list [.none, .none]) = true) c⟩)
end
end Lf

set_option Elab.async false
set_option linter.all false
set_option maxRecDepth 100000
set_option maxHeartbeats 4000000
namespace Lf
open PySem PySem.Spec PyProof.Rows L2 Lc Lr Lm
/-- the jar: three numbers -/
def pJ (H : Hp) (j : Addr) : Prop := ∃ c m k : Int, H j = some (.lst [.int c, .int m, .int k]) ∧ 0 ≤ c ∧ 0 ≤ m ∧ m < 2147483587 ∧ 0 ≤ k
/-- all but the jar stands -/
def Jx (j : Addr) (H H' : Hp) : Prop := ∀ a o, a ≠ j → H a = some o → H' a = some o
theorem Jx.rf (j : Addr) (H : Hp) : Jx j H H := fun _ _ _ h => h
theorem Jx.tr {j : Addr} {H H1 H2 : Hp} (a : Jx j H H1) (b : Jx j H1 H2) : Jx j H H2 := fun x o n h => b x o n (a x o n h)
theorem Ex.jx {j : Addr} {H H' : Hp} (e : Ex H H') : Jx j H H' := fun a o _ h => e a o h
theorem Jx.lt {j : Addr} {H H' : Hp} (e : Jx j H H') (p : pJ H j) : Lt H H' := fun a o n h => e a o (fun z => by
  obtain ⟨_, _, _, hj, _⟩ := p
  rw [z, hj] at h
  cases h
  exact n) h
theorem pJ.ex {H H' : Hp} {j : Addr} (e : Ex H H') (p : pJ H j) : pJ H' j := by
  obtain ⟨c, m, k, h, r⟩ := p
  exact ⟨c, m, k, e _ _ h, r⟩
theorem pJ.ne {H : Hp} {j p : Addr} (h : pJ H j) (n : H p = none) : p ≠ j := fun z => by
  obtain ⟨_, _, _, hj, _⟩ := h
  rw [z, hj] at n
  cases n
section
variable {P : Program} {w : World} {K : PySem.W.Frag} {mg : Str → Option Value} {base : Heap}
theorem ex_none' {H H1 : Hp} (e : Ex H H1) {p : Addr} (n : H1 p = none) : H p = none := by
  cases z : H p with
  | none => rfl
  | some o => rw [e p o z] at n; cases n
def sp_cell (K : PySem.W.Frag) : Sp := fun vs H Q _ => ∃ (a : Addr) (ns : List Int) (i : Int), vs = [.ref a, .int i] ∧ SqL K H a (ns.map V.int) ∧ 0 ≤ i ∧ i ≤ 1000 ∧ ∀ (z : Int) H', Ex H H' → Q (.int z) H'
theorem ok_cell (T : Tx K mg) : C8.Cal P w K mg base 1 "_law_cell" (sp_cell K) [] :=
  mk__law_cell T (fn__law_cell T (fun vs H Q E h => by obtain ⟨_, _, _, rfl, _⟩ := h; rfl) fun cdv A outer s H vs Q E hr h => ⟨_, (der__law_cell T hr).2, by
    obtain ⟨a, ns, i, rfl, ha, hi0, hi1, k⟩ := h
    refine ⟨_, rfl, _, rfl, a, _, rfl, .inl ha, _, _, rfl, rfl, _, rfl, ite2 (fun c => ?_) (fun c => ?_)⟩
    · have c := dT c
      rw [List.length_map] at c
      have hat : (ns.map V.int)[i.toNat]? = some (.int (ns.getD i.toNat 0)) := by
        rw [List.getElem?_map, List.getD_eq_getElem?_getD, List.getElem?_eq_getElem (by omega)]
        rfl
      have hat2 : atI (ns.map V.int) i = some (.int (ns.getD i.toNat 0)) := by
        have e : i = ((i.toNat : Nat) : Int) := by omega
        conv => lhs; rw [e]
        exact atI_nat hat
      exact ⟨_, rfl, _, rfl, a, _, i, _, rfl, rfl, ha, hat2, .inl ⟨_, rfl, k _ _ (Ex.rf _)⟩⟩
    refine ⟨_, rfl, _, _, rfl, rfl, mulL (by omega) (by omega), _, _, rfl, rfl, ?_⟩
    refine ⟨_, rfl, _, rfl, a, _, rfl, ha, fun p np => ?_⟩
    generalize hG : upd H p _ = H1
    obtain ⟨e1, h1⟩ := gen_new np hG
    have h1' : H1 p = some (.lst ((ns.take 4).map V.int)) := by
      rw [h1]
      congr 2
      unfold cutV
      rw [HT.sIx_none]
      show ((ns.map V.int).drop 0).take (HT.sIx _ _ (some ((4 : Nat) : Int)) - 0) = _
      rw [HT.sIx_nat, List.drop_zero, Nat.sub_zero, List.map_take]
      by_cases hl : 4 ≤ (ns.map V.int).length
      · rw [Nat.min_eq_left hl]
      · rw [Nat.min_eq_right (by omega), List.take_length, List.take_of_length_le (by omega)]
    refine ⟨p, rfl, ⟨_, SqL.of h1'⟩, for_wk (P := pInt) (wk_lst (K := K) (p := p) (vs := (ns.take 4).map V.int) (xs := ns.take 4) (by simp)) (fun j σ H' => Ex H1 H' ∧ ∃ (m : Int) (z : Option V), 0 ≤ m ∧ m < 2 ^ 60 ∧ σ = [some (.ref a), some (.int i), some (.int m), z]) ⟨Ex.rf _, _, _, by omega, by omega, rfl⟩
      (fun j σ H' _ q => ⟨SqL.of (q.1 _ _ h1'), int_paired _⟩) (fun j x u σ H2 H3 hx q e3 px => ?_) (fun σ H' q => ?_)⟩
    · obtain ⟨e2, m, z, m0, m1, rfl⟩ := q
      cases px
      have b0 := Int.emod_nonneg (m * 48337 + x + 59) (show (2147483587 : Int) ≠ 0 by decide)
      have b1 := Int.emod_lt_of_pos (m * 48337 + x + 59) (show (0 : Int) < 2147483587 by decide)
      exact ⟨_, rfl, _, _, rfl, rfl, mulL (by omega) (by omega), _, rfl, _, _, rfl, rfl, _, _, rfl, rfl, .inl ⟨_, rfl, _, _, rfl, rfl, (by decide : (0 : Int) < 2147483587), e2.tr e3, _, _, b0, by omega, rfl⟩⟩
    · obtain ⟨e2, m, z, m0, m1, rfl⟩ := q
      exact ⟨_, rfl, k _ _ (e1.tr e2)⟩⟩)
def sp_jar (K : PySem.W.Frag) : Sp := fun vs H Q _ => ∃ (a : Addr) (ns : List Int) (i : Int), vs = [.ref a, .int i] ∧ SqL K H a (ns.map V.int) ∧ 0 ≤ i ∧ i ≤ 1000 ∧ ∀ j H', Ex H H' → H j = none → pJ H' j → Q (.ref j) H'
theorem ok_jar (T : Tx K mg) : C8.Cal P w K mg base 2 "_law_jar" (sp_jar K) [] :=
  mk__law_jar T (fn__law_jar T (fun vs H Q E h => by obtain ⟨_, _, _, rfl, _⟩ := h; rfl) fun cdv A outer s H vs Q E hr h => ⟨_, (der__law_jar T (ok_cell T) hr).2, by
    obtain ⟨a, ns, i, rfl, ha, hi0, hi1, k⟩ := h
    refine ⟨_, rfl, _, rfl, a, ns, i, rfl, ha, hi0, hi1, fun z H1 e1 => ⟨z, rfl, ?_⟩⟩
    have hz : 0 ≤ (if z < 0 then -z else z) := by split <;> omega
    generalize (if z < 0 then -z else z) = c at hz
    refine ⟨_, rfl, _, rfl, _, rfl, _, _, rfl, rfl, mulL (by decide) (by decide), _, _, rfl, rfl, .inl ⟨_, rfl, _, _, rfl, rfl, (by decide : (0 : Int) < 2147483587), by rw [sizeLine_eq]; simp, fun j nj => ?_⟩⟩
    generalize hG : upd H1 j _ = H2
    obtain ⟨e2, h2⟩ := gen_new nj hG
    exact k j H2 (e1.tr e2) (ex_none' e1 nj) ⟨_, _, _, h2, hz, Int.emod_nonneg _ (by decide), Int.emod_lt_of_pos _ (by decide), by decide⟩⟩)
def sp_dig : Sp := fun vs H Q _ => ∃ j many, vs = [.ref j, .int many] ∧ pJ H j ∧ 1 ≤ many ∧ many ≤ 1000 ∧ ∀ d H', 0 ≤ d → d < many → Jx j H H' → pJ H' j → Q (.int d) H'
theorem jx_upd {j : Addr} {H H' : Hp} {o : HO} (e : Jx j H H') : Jx j H (upd H' j o) := fun a u n h => by rw [upd_ne n]; exact e a u n h
theorem ok_dig (T : Tx K mg) : C8.Cal P w K mg base 1 "_law_dig" sp_dig [] :=
  mk__law_dig T (fn__law_dig T (fun vs H Q E h => by obtain ⟨_, _, rfl, _⟩ := h; rfl) fun cdv A outer s H vs Q E hr h => ⟨_, (der__law_dig T hr).2, by
    obtain ⟨j, many, rfl, ⟨c, m, n, hj, c0, m0, m1, n0⟩, h1, h2, k⟩ := h
    refine ⟨_, rfl, j, _, 2, _, rfl, rfl, SqL.of hj, rfl, _, _, rfl, rfl, _, rfl, j, _, 2, 2, rfl, rfl, hj, rfl, ?_⟩
    generalize hG1 : upd H j _ = H1
    have hj1 : H1 j = some (.lst [.int c, .int m, .int (n + 1)]) := by subst hG1; exact upd_same
    have x1 : Jx j H H1 := by subst hG1; exact jx_upd (Jx.rf _ _)
    refine ⟨_, rfl, j, _, 1, _, rfl, rfl, SqL.of hj1, rfl, .inl ⟨_, rfl, ?_⟩⟩
    have a0 := Int.emod_nonneg m (show (29989 : Int) ≠ 0 by decide)
    have a1 := Int.emod_lt_of_pos m (show (0 : Int) < 29989 by decide)
    refine ⟨_, rfl, _, rfl, .inl ⟨_, rfl, _, _, rfl, rfl, (by decide : (0 : Int) < 29989), _, _, rfl, rfl, _, _, rfl, rfl, mulL (by omega) (by omega), _, rfl, j, _, 2, _, rfl, rfl, SqL.of hj1, rfl, _, _, rfl, rfl, mulR (by decide) (by decide), _, _, rfl, rfl, _, _, rfl, rfl, .inl ⟨_, rfl, _, _, rfl, rfl, (by decide : (0 : Int) < 2147483587), _, rfl, j, _, 1, 1, rfl, rfl, hj1, rfl, ?_⟩⟩⟩
    generalize hm' : (m * (m % 29989 + 40013) + (n + 1) * 65521 + 7) % 2147483587 = m'
    have b0 : 0 ≤ m' := by rw [← hm']; exact Int.emod_nonneg _ (by decide)
    have b1 : m' < 2147483587 := by rw [← hm']; exact Int.emod_lt_of_pos _ (by decide)
    generalize hG2 : upd H1 j _ = H2
    have hj2 : H2 j = some (.lst [.int c, .int m', .int (n + 1)]) := by subst hG2; rw [← hm']; exact upd_same
    have x2 : Jx j H H2 := by subst hG2; exact jx_upd x1
    refine ⟨_, rfl, j, _, 0, _, rfl, rfl, SqL.of hj2, rfl, _, _, rfl, rfl, _, rfl, ite2 (fun d => ?_) (fun d => ?_)⟩
    · refine ⟨_, rfl, j, _, 0, _, rfl, rfl, SqL.of hj2, rfl, _, rfl, c, many, rfl, ⟨by omega, by omega⟩, fun p np => ?_⟩
      generalize hG3 : upd H2 p _ = H3
      obtain ⟨e3, h3⟩ := gen_new np hG3
      refine ⟨p, _, rfl, SqT.of h3, rfl, _, _, rfl, _, rfl, j, _, 0, 0, rfl, rfl, e3 _ _ hj2, rfl, _, _, rfl, rfl, ?_⟩
      exact ⟨_, rfl, k _ _ (Int.emod_nonneg _ (by omega)) (Int.emod_lt_of_pos _ (by omega)) (jx_upd (x2.tr (Ex.jx e3))) ⟨_, _, _, upd_same, Int.ediv_nonneg c0 (by omega), b0, b1, by omega⟩⟩
    · exact ⟨_, rfl, j, _, 1, _, rfl, rfl, SqL.of hj2, rfl, _, _, rfl, rfl, ⟨by decide, by decide⟩, .inl ⟨_, rfl, _, rfl, _, _, rfl, rfl, (by omega : 0 < many), k _ _ (Int.emod_nonneg _ (by omega)) (Int.emod_lt_of_pos _ (by omega)) x2 ⟨_, _, _, hj2, c0, b0, b1, by omega⟩⟩⟩⟩)
def sp_take : Sp := fun vs H Q _ => ∃ j a xs, vs = [.ref j, .ref a] ∧ pJ H j ∧ a ≠ j ∧ H a = some (.lst xs) ∧ xs ≠ [] ∧ xs.length ≤ 1000 ∧ ∀ v H', v ∈ xs → Jx j H H' → pJ H' j → Q v H'
theorem ok_take (T : Tx K mg) : C8.Cal P w K mg base 2 "_law_take" sp_take [] :=
  mk__law_take T (fn__law_take T (fun vs H Q E h => by obtain ⟨_, _, _, rfl, _⟩ := h; rfl) fun cdv A outer s H vs Q E hr h => ⟨_, (der__law_take T (ok_dig T) hr).2, by
    obtain ⟨j, a, xs, rfl, hj, hne, ha, hx0, hx1, k⟩ := h
    have hl := List.length_pos_iff.mpr hx0
    refine ⟨_, rfl, _, rfl, _, rfl, a, _, rfl, .inl (SqL.of ha), _, _, rfl, hj, by omega, by omega, fun d H1 d0 d1 x1 p1 => ?_⟩
    have hd : d.toNat < xs.length := by omega
    have hat : atI xs d = some xs[d.toNat] := by
      have e : d = ((d.toNat : Nat) : Int) := by omega
      conv => lhs; rw [e]
      exact atI_nat (List.getElem?_eq_getElem hd)
    exact ⟨a, xs, d, _, rfl, rfl, SqL.of (x1 _ _ hne ha), hat, k _ _ (List.getElem_mem hd) x1 p1⟩⟩)
def sp_way : Sp := fun vs H Q _ => ∃ j, vs = [.ref j] ∧ pJ H j ∧ ∀ (y : Way) H', Jx j H H' → pJ H' j → Q (.str (wayT y)) H'
theorem ok_way (T : Tx K mg) : C8.Cal P w K mg base 3 "_law_way" sp_way [] :=
  mk__law_way T (fn__law_way T (fun vs H Q E h => by obtain ⟨_, rfl, _⟩ := h; rfl) fun cdv A outer s H vs Q E hr h => ⟨_, (der__law_way T (ok_take T) hr).2, by
    obtain ⟨j, rfl, hj, k⟩ := h
    refine ⟨_, rfl, by rw [sizeLine_eq]; simp, fun p np => ?_⟩
    generalize hG : upd H p _ = H1
    obtain ⟨e1, h1⟩ := gen_new np hG
    refine ⟨j, p, _, rfl, pJ.ex e1 hj, pJ.ne hj np, h1, by simp, by simp, fun v H2 hv x2 p2 => ?_⟩
    have x := (Ex.jx (j := j) e1).tr x2
    simp only [List.mem_cons, List.not_mem_nil, or_false] at hv
    rcases hv with rfl | rfl | rfl | rfl | rfl
    · exact k .down H2 x p2
    · exact k .up H2 x p2
    · exact k .ndown H2 x p2
    · exact k .nup H2 x p2
    · exact k .neven H2 x p2⟩)
end
end Lf

set_option Elab.async false
set_option linter.all false
set_option maxRecDepth 100000
set_option maxHeartbeats 4000000
namespace Lf
open PySem PySem.Spec PyProof.Rows L2 Lc Lr Lm
def facs : List (Int × Int) := [(1, 2), (1, 3), (2, 3), (3, 2), (1, 4), (3, 4), (5, 2), (1, 1), (2, 5)]
section
variable {P : Program} {w : World} {K : PySem.W.Frag} {mg : Str → Option Value} {base : Heap}
theorem paired_mem {α β : Type} {F : α → β → Prop} {xs : List α} {ys : List β} (h : Paired F xs ys) {x : α} (hx : x ∈ xs) : ∃ y, y ∈ ys ∧ F x y := by
  induction h with
  | nil => cases hx
  | cons r t ih =>
    rcases List.mem_cons.mp hx with e | e
    · rw [e]; exact ⟨_, List.mem_cons_self .., r⟩
    · obtain ⟨y, hy, f⟩ := ih e
      exact ⟨y, List.mem_cons_of_mem _ hy, f⟩
def sp_factor (K : PySem.W.Frag) : Sp := fun vs H Q _ => ∃ j, vs = [.ref j] ∧ pJ H j ∧ ∀ v f H', f ∈ facs → pFr K H' v f → Jx j H H' → pJ H' j → Q v H'
theorem ok_factor (T : Tx K mg) : C8.Cal P w K mg base 3 "_law_factor" (sp_factor K) [] :=
  mk__law_factor T (fn__law_factor T (fun vs H Q E h => by obtain ⟨_, rfl, _⟩ := h; rfl) fun cdv A outer s H vs Q E hr h => ⟨_, (der__law_factor T (ok_take T) hr).2, by
    obtain ⟨j, rfl, hj, k⟩ := h
    refine ⟨_, rfl, ?_⟩
    refine ⟨by rw [sizeLine_eq]; simp, fun p0 n0 => ?_⟩
    generalize hG : upd H p0 _ = H0
    obtain ⟨e0, h0⟩ := gen_new n0 hG
    clear hG
    refine ⟨by rw [sizeLine_eq]; simp, fun p1 n1 => ?_⟩
    generalize hG : upd H0 p1 _ = H1
    obtain ⟨e1, h1⟩ := gen_new n1 hG
    clear hG
    refine ⟨by rw [sizeLine_eq]; simp, fun p2 n2 => ?_⟩
    generalize hG : upd H1 p2 _ = H2
    obtain ⟨e2, h2⟩ := gen_new n2 hG
    clear hG
    refine ⟨by rw [sizeLine_eq]; simp, fun p3 n3 => ?_⟩
    generalize hG : upd H2 p3 _ = H3
    obtain ⟨e3, h3⟩ := gen_new n3 hG
    clear hG
    refine ⟨by rw [sizeLine_eq]; simp, fun p4 n4 => ?_⟩
    generalize hG : upd H3 p4 _ = H4
    obtain ⟨e4, h4⟩ := gen_new n4 hG
    clear hG
    refine ⟨by rw [sizeLine_eq]; simp, fun p5 n5 => ?_⟩
    generalize hG : upd H4 p5 _ = H5
    obtain ⟨e5, h5⟩ := gen_new n5 hG
    clear hG
    refine ⟨by rw [sizeLine_eq]; simp, fun p6 n6 => ?_⟩
    generalize hG : upd H5 p6 _ = H6
    obtain ⟨e6, h6⟩ := gen_new n6 hG
    clear hG
    refine ⟨by rw [sizeLine_eq]; simp, fun p7 n7 => ?_⟩
    generalize hG : upd H6 p7 _ = H7
    obtain ⟨e7, h7⟩ := gen_new n7 hG
    clear hG
    refine ⟨by rw [sizeLine_eq]; simp, fun p8 n8 => ?_⟩
    generalize hG : upd H7 p8 _ = H8
    obtain ⟨e8, h8⟩ := gen_new n8 hG
    clear hG
    refine ⟨by rw [sizeLine_eq]; simp, fun l nl => ?_⟩
    generalize hG : upd H8 l _ = H9
    obtain ⟨e9, h9⟩ := gen_new nl hG
    clear hG
    have g8 : Ex H8 H9 := e9
    have g7 : Ex H7 H9 := e8.tr g8
    have g6 : Ex H6 H9 := e7.tr g7
    have g5 : Ex H5 H9 := e6.tr g6
    have g4 : Ex H4 H9 := e5.tr g5
    have g3 : Ex H3 H9 := e4.tr g4
    have g2 : Ex H2 H9 := e3.tr g3
    have g1 : Ex H1 H9 := e2.tr g2
    have g0 : Ex H0 H9 := e1.tr g1
    have gg : Ex H H9 := e0.tr g0
    have pr : Paired (pFr K H9) [.ref p0, .ref p1, .ref p2, .ref p3, .ref p4, .ref p5, .ref p6, .ref p7, .ref p8] facs := .cons ⟨p0, _, _, rfl, SqT.of (g0 _ _ h0), rfl, rfl⟩ (.cons ⟨p1, _, _, rfl, SqT.of (g1 _ _ h1), rfl, rfl⟩ (.cons ⟨p2, _, _, rfl, SqT.of (g2 _ _ h2), rfl, rfl⟩ (.cons ⟨p3, _, _, rfl, SqT.of (g3 _ _ h3), rfl, rfl⟩ (.cons ⟨p4, _, _, rfl, SqT.of (g4 _ _ h4), rfl, rfl⟩ (.cons ⟨p5, _, _, rfl, SqT.of (g5 _ _ h5), rfl, rfl⟩ (.cons ⟨p6, _, _, rfl, SqT.of (g6 _ _ h6), rfl, rfl⟩ (.cons ⟨p7, _, _, rfl, SqT.of (g7 _ _ h7), rfl, rfl⟩ (.cons ⟨p8, _, _, rfl, SqT.of (g8 _ _ h8), rfl, rfl⟩ .nil))))))))
    refine ⟨j, l, _, rfl, pJ.ex gg hj, fun z => ?_, h9, by simp, by simp, fun v H2 hv x2 p2 => ?_⟩
    · have := pJ.ex (e0.tr (e1.tr (e2.tr (e3.tr (e4.tr (e5.tr (e6.tr (e7.tr e8)))))))) hj
      exact pJ.ne this nl z
    obtain ⟨f, hf, pf⟩ := paired_mem pr hv
    exact k v f H2 hf (MonT.up (Jx.lt x2 (pJ.ex gg hj)) pf) ((Ex.jx gg).tr x2) p2⟩)
def sp_common : Sp := fun vs H Q _ => ∃ a b : Int, vs = [.int a, .int b] ∧ 0 ≤ a ∧ 0 ≤ b ∧ Q (.int (cd a b)) H
theorem ok_common (T : Tx K mg) : C8.Cal P w K mg base 1 "_law_common" sp_common [] :=
  mk__law_common T (fn__law_common T (fun vs H Q E h => by obtain ⟨i, j, rfl, _⟩ := h; rfl) fun cdv A outer s H vs Q E hr h => ⟨_, (der__law_common T hr).2, by
    obtain ⟨a0, b0, rfl, ha, hb, q⟩ := h
    refine ⟨fun m σ H1 => H1 = H ∧ ∃ a b : Int, σ = [some (.int a), some (.int b)] ∧ 0 ≤ a ∧ 0 ≤ b ∧ m = b.toNat ∧ cd a b = cd a0 b0, ⟨_, rfl, a0, b0, rfl, ha, hb, rfl, rfl⟩, ?_⟩
    rintro m σ H1 ⟨rfl, a, b, rfl, h1, h2, rfl, he⟩
    refine ⟨_, rfl, _, _, rfl, rfl, _, rfl, ite2 (fun hc => ?_) (fun hc => ?_)⟩
    · have hc := dT hc
      have hm := Int.emod_lt_of_pos a hc
      have hn := Int.emod_nonneg a (Int.ne_of_gt hc)
      exact ⟨_, fun _ _ z => z, _, rfl, _, rfl, .inl ⟨_, rfl, _, rfl, _, _, rfl, rfl, hc, _, _, rfl, _, by omega, rfl, _, _, rfl, h2, hn, rfl, (cd_step h1 hc).trans he⟩⟩
    · have hc := dF hc
      have e : b = 0 := by omega
      subst e
      rw [cd_zero h1] at he
      subst he
      exact ⟨_, rfl, q⟩⟩)
theorem cd_comm (a b : Int) : cd a b = cd b a := by unfold cd; rw [Int.gcd_comm]
def sp_span (K : PySem.W.Frag) : Sp := fun vs H Q _ => ∃ v ss, vs = [v] ∧ pRow K H v ss ∧ GoodR ss ∧ Ret pInt (periodOf ss) H Q
theorem ok_span (T : Tx K mg) : C8.Cal P w K mg base 2 "_law_span" (sp_span K) [] :=
  mk__law_span T (fn__law_span T (fun vs H Q E h => by obtain ⟨v, p, rfl, _⟩ := h; rfl) fun cdv A outer s H vs Q E hr h => ⟨_, (der__law_span T (ok_common T) hr).2, by
    obtain ⟨v, ss, rfl, ⟨p, vs, rfl, hp, pr⟩, good, k⟩ := h
    refine ⟨by rw [sizeLine_eq]; simp, fun q n => ?_⟩
    generalize hg : upd _ q _ = H0
    obtain ⟨e0, hq⟩ := gen_new n hg
    refine ⟨q, _, rfl, SqT.of hq, rfl, _, _, rfl, _, _, rfl, rfl, ?_⟩
    refine ⟨_, rfl, p, rfl, ⟨_, lt_t (Ex.lt e0) hp⟩, for_wk (P := pStp K) (wk_tup (K := K) (p := p) (vs := vs) (xs := ss) (paired_len pr)) (fun i σ H' => Ex H H' ∧ ∃ z1 z2 z3 z4, σ = [some (.ref p), some (.int (perOf (ss.take i)).1), some (.int (perOf (ss.take i)).2), z1, z2, z3, z4]) ⟨e0, _, _, _, _, rfl⟩
      (fun i σ H' _ q => ⟨lt_t (Ex.lt q.1) hp, paired_upT (Ex.lt q.1) pr⟩) (fun i x u σ H1 H2 hx q e2 px => ?_) (fun σ H' q => ?_)⟩
    · obtain ⟨e1, z1, z2, z3, z4, rfl⟩ := q
      rw [take_snoc hx, per_snoc]
      have gx := good x (List.mem_of_getElem? hx)
      obtain ⟨h1, h2⟩ := per_nonneg _ (ss.take i) rfl fun x hx => good x (List.mem_of_mem_take hx)
      cases x with
      | plus c =>
        obtain ⟨a, rfl, ha⟩ := px
        refine ⟨_, rfl, _, _, _, _, rfl, rfl, ha, rfl, rfl, _, rfl, ite2 (fun c1 => (plus_times (str_eq.mp (dT c1))).elim) (fun c1 => ?_)⟩
        exact ⟨e1.tr e2, _, _, _, _, rfl⟩
      | times a b wy m =>
        obtain ⟨⟨g1, g2⟩, ⟨g3, g4⟩, g5, g6⟩ := gx
        obtain ⟨q, rfl, ha⟩ := px
        have hbm2 : b * m ≤ 15 := Int.mul_le_mul (a := b) (b := m) (c := 5) (d := 3) g4 g6 (by omega) (by omega)
        obtain ⟨w1, w2⟩ := whole_bd (wy := wy) g3 g4 g5 g6
        obtain ⟨⟨o1, o2⟩, t1, t2⟩ := turns_bd (a := a) (r := (perOf (ss.take i)).2) w1
        have c1 := cd_pos (a := a) w1
        have c2 := cd_le (a := a) w1
        have c3 := cd_pos (a := (perOf (ss.take i)).2) o1
        have c4 := cd_le (a := (perOf (ss.take i)).2) o1
        have d1 := cd_comm a (wholeOf b m wy)
        have d2 := cd_comm (perOf (ss.take i)).2 (wholeOf b m wy / cd a (wholeOf b m wy))
        refine ⟨_, rfl, _, _, _, _, rfl, rfl, ha, rfl, rfl, _, rfl, ite2 (fun d0 => ?_) (fun d0 => (dF d0 rfl).elim)⟩
        refine ⟨_, rfl, _, _, _, _, rfl, rfl, ha, rfl, _, rfl, _, _, _, _, rfl, rfl, ha, rfl, _, _, rfl, rfl, mulR (by omega) (by omega), ?_⟩
        refine ⟨by rw [sizeLine_eq]; simp, fun l nl => ?_⟩
        generalize hgl : upd H2 l _ = H3
        obtain ⟨e3, hl⟩ := gen_new nl hgl
        have ha3 := lt_t (Ex.lt e3) ha
        have e13 := (e1.tr e2).tr e3
        refine ⟨_, rfl, _, _, _, _, rfl, rfl, ha3, rfl, rfl, .inr ⟨_, rfl, ?_⟩⟩
        by_cases hn : wy = .neven
        · have ed : decide (V.str (wayT wy) = V.str "near even") = true := decide_eq_true (str_eq.mpr ((way_neven wy).mpr hn))
          rw [ed]
          have ew : b * m * 2 = wholeOf b m wy := by unfold wholeOf; rw [if_pos hn]
          refine ⟨l, _, 1, .int 2, rfl, rfl, SqL.of hl, rfl, _, _, rfl, rfl, mulR (by decide) (by decide), ?_⟩
          simp only [ew]
          refine ⟨_, rfl, _, rfl, _, rfl, _, _, _, _, rfl, rfl, ha3, rfl, _, a, rfl, by omega, by omega, ?_⟩
          simp only [← d1]
          refine ⟨_, _, rfl, rfl, ⟨c1, lt64 (by omega) (by omega)⟩, ?_⟩
          refine ⟨_, rfl, _, rfl, _, rfl, _, _, rfl, by omega, h2, ?_⟩
          simp only [← d2]
          refine ⟨_, _, rfl, rfl, ⟨c3, lt64 (by omega) (by omega)⟩, ?_⟩
          exact ⟨_, rfl, _, rfl, _, _, rfl, rfl, mulR (by omega) (by omega), _, rfl, _, rfl, _, _, rfl, rfl, mulR (by omega) (by omega), _, rfl, _, _, _, _, rfl, rfl, ha3, rfl, _, _, rfl, rfl, mulR (by omega) (by omega),
            _, rfl, _, _, _, _, rfl, rfl, ha3, rfl, _, _, rfl, rfl, ⟨by omega, lt64 (by omega) (by omega)⟩, e13, _, _, _, _, rfl⟩
        · have ed : decide (V.str (wayT wy) = V.str "near even") = false := decide_eq_false fun z => hn ((way_neven wy).mp (str_eq.mp z))
          rw [ed]
          have ew : b * m * 1 = wholeOf b m wy := by unfold wholeOf; rw [if_neg hn]
          refine ⟨l, _, 0, .int 1, rfl, rfl, SqL.of hl, rfl, _, _, rfl, rfl, mulR (by decide) (by decide), ?_⟩
          simp only [ew]
          refine ⟨_, rfl, _, rfl, _, rfl, _, _, _, _, rfl, rfl, ha3, rfl, _, a, rfl, by omega, by omega, ?_⟩
          simp only [← d1]
          refine ⟨_, _, rfl, rfl, ⟨c1, lt64 (by omega) (by omega)⟩, ?_⟩
          refine ⟨_, rfl, _, rfl, _, rfl, _, _, rfl, by omega, h2, ?_⟩
          simp only [← d2]
          refine ⟨_, _, rfl, rfl, ⟨c3, lt64 (by omega) (by omega)⟩, ?_⟩
          exact ⟨_, rfl, _, rfl, _, _, rfl, rfl, mulR (by omega) (by omega), _, rfl, _, rfl, _, _, rfl, rfl, mulR (by omega) (by omega), _, rfl, _, _, _, _, rfl, rfl, ha3, rfl, _, _, rfl, rfl, mulR (by omega) (by omega),
            _, rfl, _, _, _, _, rfl, rfl, ha3, rfl, _, _, rfl, rfl, ⟨by omega, lt64 (by omega) (by omega)⟩, e13, _, _, _, _, rfl⟩
    · obtain ⟨e1, z1, z2, z3, z4, rfl⟩ := q
      rw [List.take_length]
      exact ⟨_, rfl, k _ _ e1 rfl⟩⟩)
end
end Lf

set_option Elab.async false
set_option linter.all false
set_option maxRecDepth 100000
set_option maxHeartbeats 4000000
namespace Lf
open PySem PySem.Spec PyProof.Rows L2 Lc Lr Lm
section
variable {P : Program} {w : World} {K : PySem.W.Frag} {mg : Str → Option Value} {base : Heap}
theorem jx_lt2 {j : Addr} {H H1 : Hp} (p : pJ H j) (x : Jx j H H1) : Lt H H1 := Jx.lt x p
def sp_step (K : PySem.W.Frag) : Sp := fun vs H Q _ => ∃ j fv f, vs = [.ref j, fv] ∧ pJ H j ∧ pFr K H fv f ∧ ∀ v (y : Way) (u : Int) H', 1 ≤ u → u ≤ 3 → pStp K H' v (.times f.1 f.2 y u) → Jx j H H' → pJ H' j → Q v H'
theorem ok_step (T : Tx K mg) : C8.Cal P w K mg base 4 "_law_step" (sp_step K) [] :=
  mk__law_step T (fn__law_step T (fun vs H Q E h => by obtain ⟨_, _, _, rfl, _⟩ := h; rfl) fun cdv A outer s H vs Q E hr h => ⟨_, (der__law_step T (ok_way T) (ok_take T) hr).2, by
    obtain ⟨j, fv, f, rfl, hj, ⟨p, _, _, rfl, hp, rfl, rfl⟩, k⟩ := h
    refine ⟨_, rfl, _, _, _, _, rfl, rfl, hp, rfl, _, rfl, _, _, _, _, rfl, rfl, hp, rfl, _, rfl, j, rfl, hj, fun y H1 x1 p1 => ?_⟩
    refine ⟨_, rfl, by rw [sizeLine_eq]; simp, fun l nl => ?_⟩
    generalize hG : upd H1 l _ = H2
    obtain ⟨e2, h2⟩ := gen_new nl hG
    refine ⟨j, l, _, rfl, pJ.ex e2 p1, pJ.ne p1 nl, h2, by simp, by simp, fun v H3 hv x3 p3 => ?_⟩
    have x13 := (x1.tr (Ex.jx e2)).tr x3
    obtain ⟨u, rfl, u1, u3⟩ : ∃ u : Int, v = .int u ∧ 1 ≤ u ∧ u ≤ 3 := by
      simp only [List.mem_cons, List.not_mem_nil, or_false] at hv
      rcases hv with rfl | rfl | rfl | rfl
      · exact ⟨1, rfl, by decide, by decide⟩
      · exact ⟨1, rfl, by decide, by decide⟩
      · exact ⟨2, rfl, by decide, by decide⟩
      · exact ⟨3, rfl, by decide, by decide⟩
    refine ⟨by rw [sizeLine_eq]; simp, fun t nt => ?_⟩
    generalize hG4 : upd H3 t _ = H4
    obtain ⟨e4, h4⟩ := gen_new nt hG4
    exact k _ y u H4 u1 u3 ⟨t, rfl, SqT.of h4⟩ (x13.tr (Ex.jx e4)) (pJ.ex e4 p3)⟩)
def ExtraOk (ss : List Stp) : Prop := ss = [] ∨ (∃ c : Int, ss = [.plus c] ∧ -20 ≤ c ∧ c ≤ 20) ∨ ∃ (y : Way) (u : Int), ss = [.times 1 1 y u] ∧ 1 ≤ u ∧ u ≤ 3
theorem ExtraOk.good {ss : List Stp} (h : ExtraOk ss) : GoodR ss := by
  rcases h with rfl | ⟨c, rfl, h1, h2⟩ | ⟨y, u, rfl, h1, h2⟩
  · intro s hs; cases hs
  · intro s hs
    rw [List.mem_singleton.mp hs]
    exact ⟨h1, h2⟩
  · intro s hs
    rw [List.mem_singleton.mp hs]
    exact ⟨⟨by decide, by decide⟩, ⟨by decide, by decide⟩, h1, h2⟩
theorem ExtraOk.len {ss : List Stp} (h : ExtraOk ss) : ss.length ≤ 1 := by
  rcases h with rfl | ⟨c, rfl, h1, h2⟩ | ⟨y, u, rfl, h1, h2⟩ <;> simp
def sp_extra (K : PySem.W.Frag) : Sp := fun vs H Q _ => ∃ j, vs = [.ref j] ∧ pJ H j ∧ ∀ v ss H', ExtraOk ss → pRow K H' v ss → Jx j H H' → pJ H' j → Q v H'
theorem ok_extra (T : Tx K mg) : C8.Cal P w K mg base 4 "_law_extra" (sp_extra K) [] :=
  mk__law_extra T (fn__law_extra T (fun vs H Q E h => by obtain ⟨_, rfl, _⟩ := h; rfl) fun cdv A outer s H vs Q E hr h => ⟨_, (der__law_extra T (ok_dig T) (ok_way T) (ok_take T) hr).2, by
    obtain ⟨j, rfl, hj, k⟩ := h
    refine ⟨_, rfl, j, 5, rfl, hj, by decide, by decide, fun d H1 d0 d1 x1 p1 => ?_⟩
    refine ⟨_, rfl, rfl, _, rfl, ite2 (fun c => ?_) (fun c => ?_)⟩
    · refine ⟨_, rfl, j, 41, rfl, p1, by decide, by decide, fun z H2 z0 z1 x2 p2 => ?_⟩
      refine ⟨_, _, rfl, rfl, by rw [sizeLine_eq]; simp, fun t nt => ?_⟩
      generalize hG3 : upd H2 t _ = H3
      obtain ⟨e3, h3⟩ := gen_new nt hG3
      refine ⟨by rw [sizeLine_eq]; simp, fun q nq => ?_⟩
      generalize hG4 : upd H3 q _ = H4
      obtain ⟨e4, h4⟩ := gen_new nq hG4
      exact k _ [.plus (z - 20)] H4 (.inr (.inl ⟨_, rfl, by omega, by omega⟩)) ⟨q, _, rfl, SqT.of h4, .cons ⟨t, rfl, SqT.of (e4 _ _ h3)⟩ .nil⟩ ((x1.tr x2).tr (Ex.jx (e3.tr e4))) (pJ.ex (e3.tr e4) p2)
    refine ⟨_, rfl, rfl, _, rfl, ite2 (fun c => ?_) (fun c => ?_)⟩
    · refine ⟨_, rfl, j, rfl, p1, fun y H2 x2 p2 => ?_⟩
      refine ⟨_, rfl, by rw [sizeLine_eq]; simp, fun l nl => ?_⟩
      generalize hG : upd H2 l _ = H3
      obtain ⟨e3, h3⟩ := gen_new nl hG
      refine ⟨j, l, _, rfl, pJ.ex e3 p2, pJ.ne p2 nl, h3, by simp, by simp, fun v H4 hv x4 p4 => ?_⟩
      obtain ⟨u, rfl, u1, u3⟩ : ∃ u : Int, v = .int u ∧ 1 ≤ u ∧ u ≤ 3 := by
        simp only [List.mem_cons, List.not_mem_nil, or_false] at hv
        rcases hv with rfl | rfl | rfl
        · exact ⟨1, rfl, by decide, by decide⟩
        · exact ⟨2, rfl, by decide, by decide⟩
        · exact ⟨3, rfl, by decide, by decide⟩
      refine ⟨by rw [sizeLine_eq]; simp, fun t nt => ?_⟩
      generalize hG5 : upd H4 t _ = H5
      obtain ⟨e5, h5⟩ := gen_new nt hG5
      refine ⟨by rw [sizeLine_eq]; simp, fun q nq => ?_⟩
      generalize hG6 : upd H5 q _ = H6
      obtain ⟨e6, h6⟩ := gen_new nq hG6
      exact k _ [.times 1 1 y u] H6 (.inr (.inr ⟨y, u, rfl, u1, u3⟩)) ⟨q, _, rfl, SqT.of h6, .cons ⟨t, rfl, SqT.of (e6 _ _ h5)⟩ .nil⟩ (((x1.tr x2).tr ((Ex.jx e3).tr x4)).tr (Ex.jx (e5.tr e6))) (pJ.ex (e5.tr e6) p4)
    · refine ⟨by rw [sizeLine_eq]; simp, fun q nq => ?_⟩
      generalize hG6 : upd H1 q _ = H6
      obtain ⟨e6, h6⟩ := gen_new nq hG6
      exact k _ [] H6 (.inl rfl) ⟨q, _, rfl, SqT.of h6, .nil⟩ (x1.tr (Ex.jx e6)) (pJ.ex e6 p1)⟩)
/-! ### plans -/
def pPlan (K : PySem.W.Frag) : Pr Bk := fun H v b => ∃ p ks gs ls, v = .ref p ∧ SqT K H p [ks, gs, ls] ∧ pTup K (pKnd K) H ks b.kinds ∧ pTup K (pRow K) H gs b.groups ∧ pRow K H ls b.whole
instance (K : PySem.W.Frag) : MonT (pPlan K) := ⟨fun e ⟨p, a, b, c, h1, h2, h3, h4, h5⟩ => ⟨p, a, b, c, h1, lt_t e h2, MonT.up e h3, MonT.up e h4, MonT.up e h5⟩⟩
theorem cat_row {H : Hp} {v u : V} {s t : List Stp} {Q : VK} (hv : pRow K H v s) (hu : pRow K H u t) (hl : s.length + t.length ≤ 1000) (k : ∀ w H', Ex H H' → pRow K H' w (s ++ t) → Q w H') : rCatA K v u H Q := by
  obtain ⟨p, xs, rfl, hp, pr⟩ := hv
  obtain ⟨q, ys, rfl, hq, qr⟩ := hu
  have l1 := paired_len pr
  have l2 := paired_len qr
  refine ⟨p, q, xs, ys, rfl, rfl, hp, hq, z_sz (by omega), fun e => ?_, fun _ e => ?_, fun _ _ r nr => ?_⟩
  · subst e
    have : s = [] := List.length_eq_zero_iff.mp l1.symm
    subst this
    exact k _ _ (Ex.rf _) ⟨q, ys, rfl, hq, qr⟩
  · subst e
    have : t = [] := List.length_eq_zero_iff.mp l2.symm
    subst this
    exact k _ _ (Ex.rf _) ⟨p, xs, rfl, hp, by rw [List.append_nil]; exact pr⟩
  · generalize hG : upd H r _ = H1
    obtain ⟨e1, h1⟩ := gen_new nr hG
    exact k _ _ e1 ⟨r, _, rfl, SqT.of h1, paired_upT (Ex.lt e1) (paired_app pr qr)⟩
theorem kat_at {b : Bk} {k : Knd} (hk : k.grp < b.groups.length) : b.groups[k.grp]? = some (b.grpOf k) ∧ b.grpOf k ∈ b.groups := by
  have e : b.groups[k.grp]? = some (b.grpOf k) := by
    unfold Bk.grpOf
    rw [List.getD_eq_getElem?_getD, List.getElem?_eq_getElem hk]
    rfl
  exact ⟨e, List.mem_of_getElem? e⟩
def sp_fit (K : PySem.W.Frag) : Sp := fun vs H Q _ => ∃ v b, vs = [v] ∧ pPlan K H v b ∧ BkOk b ∧ ∀ p l1 l2 H', Ex H H' → SqT K H' p [.ref l1, .ref l2] → H' l1 = some (.lst (b.periods.map V.int)) → H' l2 = some (.lst ((b.kinds.map b.period).map V.int)) → Q (.ref p) H'
theorem ok_fit (T : Tx K mg) : C8.Cal P w K mg base 3 "_law_fit" (sp_fit K) [] :=
  mk__law_fit T (fn__law_fit T (fun vs H Q E h => by obtain ⟨_, _, rfl, _⟩ := h; rfl) fun cdv A outer s H vs Q E hr h => ⟨_, (der__law_fit T (ok_span T) hr).2, by
    obtain ⟨v, b, rfl, ⟨p, ks, gs, ls, rfl, hp, ⟨pk, uk, rfl, hk, prk⟩, ⟨pg, ug, rfl, hg, prg⟩, pl⟩, ok, k⟩ := h
    refine ⟨_, rfl, p, _, rfl, hp, rfl, _, _, rfl, _, _, rfl, _, _, rfl, rfl, ?_⟩
    refine ⟨_, rfl, pg, rfl, ⟨_, hg⟩, ⟨lc_map (P := pRow K) (R := pInt) (wk_tup (K := K) (p := pg) (vs := ug) (xs := b.groups) (paired_len prg)) (fun g => periodOf (g ++ b.whole)) (by have := ok.g3; omega) (fun H' e => ⟨lt_t (Ex.lt e) hg, paired_upT (Ex.lt e) prg⟩) (fun i x v H1 hx e pv N Z kz => ?_) (fun L H1 ws hL e1 hl pw => ?_)⟩⟩
    · obtain ⟨gg, gl⟩ := ok.go _ (List.mem_of_getElem? hx)
      refine ⟨rfl, _, rfl, _, rfl, cat_row pv (MonT.up (Ex.lt e) pl) (by have := ok.wo.2; omega) fun w H2 e2 pw => ?_⟩
      exact ⟨_, _, rfl, pw, good_app gg ok.wo.1, fun y H3 e3 py => kz _ _ (e2.tr e3) py⟩
    rw [paired_int pw] at hl
    refine ⟨_, rfl, _, rfl, pk, rfl, ⟨_, lt_t (Ex.lt e1) hk⟩, ⟨lc_map (P := pKnd K) (R := pInt) (wk_tup (K := K) (p := pk) (vs := uk) (xs := b.kinds) (paired_len prk)) b.period (by have := ok.k4; omega) (fun H' e => ⟨lt_t (Ex.lt (e1.tr e)) hk, paired_upT (Ex.lt (e1.tr e)) prk⟩) (fun i x v H2 hx e pv N Z kz => ?_) (fun M H2 ws2 hM e2 hm pw2 => ?_)⟩⟩
    · obtain ⟨r, t, rfl, hr', pt⟩ := pv
      have hxm := List.mem_of_getElem? hx
      obtain ⟨nm, gd, ln⟩ := ok.ko _ hxm
      obtain ⟨ga, gm⟩ := kat_at (b := b) (ok.kg _ hxm)
      obtain ⟨gg, gl⟩ := ok.go _ gm
      have e12 := e1.tr e
      obtain ⟨gv, hgv, pgv⟩ := paired_at' (paired_upT (Ex.lt e12) prg) ga
      refine ⟨r, _, rfl, hr', rfl, _, _, rfl, _, _, rfl, _, _, rfl, rfl, rfl, ?_⟩
      refine ⟨_, rfl, _, rfl, _, rfl, _, _, _, _, rfl, rfl, lt_t (Ex.lt e12) hg, atI_nat hgv, cat_row pt pgv (by omega) fun w H3 e3 pw => ?_⟩
      refine ⟨_, rfl, cat_row pw (MonT.up (Ex.lt (e12.tr e3)) pl) (by have := ok.wo.2; simp only [List.length_append]; omega) fun w2 H4 e4 pw2 => ?_⟩
      exact ⟨_, _, rfl, pw2, good_app (good_app gd gg) ok.wo.1, fun y H5 e5 py => kz _ _ ((e3.tr e4).tr e5) py⟩
    rw [paired_int pw2] at hm
    refine ⟨by rw [sizeLine_eq]; simp, fun t nt => ?_⟩
    generalize hG : upd H2 t _ = H3
    obtain ⟨e3, h3⟩ := gen_new nt hG
    exact k t L M H3 ((e1.tr e2).tr e3) (SqT.of h3) (e3 _ _ (e2 _ _ hl)) (e3 _ _ hm)⟩)
def statesP (bs : List Bk) : Int := bs.foldl (fun t b => b.periods.foldl (fun t p => t * p) t) 1
def am1 (am : List Int) (b : Bk) : List Int := (am.zip (b.kinds.map b.period)).map fun x => cm x.1 x.2
def amtsP (bs : List Bk) (n : Nat) : List Int := bs.foldl am1 (List.replicate n 1)
theorem rep_flat1 (n : Nat) : (List.replicate n [V.int 1]).flatten = (List.replicate n (1 : Int)).map V.int := by
  induction n with
  | zero => rfl
  | succ n ih =>
    rw [List.replicate_succ, List.flatten_cons, ih, List.replicate_succ, List.map_cons]
    rfl
theorem period_k {b : Bk} (ok : BkOk b) {k : Knd} (hk : k ∈ b.kinds) : 0 < b.period k ∧ b.period k ≤ 729000000 := by
  obtain ⟨nm, gd, ln⟩ := ok.ko _ hk
  obtain ⟨ga, gm⟩ := kat_at (b := b) (ok.kg _ hk)
  obtain ⟨gg, gl⟩ := ok.go _ gm
  exact per_small (by have := ok.wo.2; simp only [List.length_append]; omega) (good_app (good_app gd gg) ok.wo.1)
theorem am1_pos {am : List Int} {b : Bk} (ok : BkOk b) (h : ∀ x ∈ am, 0 < x) : ∀ x ∈ am1 am b, 0 < x := by
  intro x hx
  obtain ⟨y, hy, rfl⟩ := List.mem_map.mp hx
  obtain ⟨h1, h2⟩ := List.of_mem_zip hy
  obtain ⟨k, hk, e⟩ := List.mem_map.mp h2
  have := (period_k ok hk).1
  rw [← e]
  exact (cm_pos (h _ h1) this).1
theorem amtsP_pos (n : Nat) : ∀ (m : Nat) (bs : List Bk), bs.length = m → (∀ b ∈ bs, BkOk b) → ∀ x ∈ amtsP bs n, 0 < x := by
  intro m
  induction m with
  | zero =>
    intro bs h _ x hx
    rw [List.length_eq_zero_iff.mp h] at hx
    have hx' : x ∈ List.replicate n (1 : Int) := hx
    rw [List.eq_of_mem_replicate hx']
    decide
  | succ m ih =>
    intro bs h hb
    have hne : bs ≠ [] := fun e => by rw [e] at h; cases h
    obtain ⟨ts, s, rfl⟩ : ∃ ts s, bs = ts ++ [s] := ⟨bs.dropLast, bs.getLast hne, (List.dropLast_concat_getLast hne).symm⟩
    unfold amtsP
    rw [foldl_snoc]
    exact am1_pos (hb s (by simp)) (ih ts (by simpa using h) fun b hb' => hb b (by simp [hb']))
end
end Lf

set_option Elab.async false
set_option linter.all false
set_option maxRecDepth 100000
set_option maxHeartbeats 4000000
namespace Lf
open PySem PySem.Spec PyProof.Rows L2 Lc Lr Lm
section
variable {P : Program} {w : World} {K : PySem.W.Frag} {mg : Str → Option Value} {base : Heap}
theorem amtsP_len (n : Nat) : ∀ (m : Nat) (bs : List Bk), bs.length = m → (∀ b ∈ bs, b.kinds.length = n) → (amtsP bs n).length = n := by
  intro m
  induction m with
  | zero =>
    intro bs h _
    rw [List.length_eq_zero_iff.mp h]
    show (List.replicate n (1 : Int)).length = n
    simp
  | succ m ih =>
    intro bs h hb
    obtain ⟨ts, s, rfl⟩ := snoc_of (l := bs) (fun e => by rw [e] at h; cases h)
    have := ih ts (by simpa using h) fun b hb' => hb b (by simp [hb'])
    have e : amtsP (ts ++ [s]) n = am1 (amtsP ts n) s := by unfold amtsP; rw [foldl_snoc]
    rw [e]
    show (((amtsP ts n).zip (s.kinds.map s.period)).map fun x => cm x.1 x.2).length = n
    rw [List.length_map, List.length_zip, this, List.length_map, hb s (by simp)]
    omega
def sp_many (K : PySem.W.Frag) : Sp := fun vs H Q _ => ∃ a us bs n, vs = [.ref a] ∧ H a = some (.lst us) ∧ Paired (pPlan K H) us bs ∧ bs ≠ [] ∧ (∀ b ∈ bs, BkOk b ∧ b.kinds.length = n) ∧ n ≤ 4 ∧ ∀ p l H', Ex H H' → SqT K H' p [.int (statesP bs), .ref l] → H' l = some (.lst ((amtsP bs n).map V.int)) → Q (.ref p) H'
theorem ok_many (T : Tx K mg) : C8.Cal P w K mg base 4 "_law_many" (sp_many K) [] :=
  mk__law_many T (fn__law_many T (fun vs H Q E h => by obtain ⟨_, _, _, _, rfl, _⟩ := h; rfl) fun cdv A outer s H vs Q E hr h => ⟨_, (der__law_many T (ok_fit T) (ok_common T) hr).2, by
    obtain ⟨a, us, bs, n, rfl, ha, pr, hne, hb, hn4, k⟩ := h
    obtain ⟨b0, hb0⟩ : ∃ b0, bs[0]? = some b0 := by
      cases bs with
      | nil => exact absurd rfl hne
      | cons b t => exact ⟨b, rfl⟩
    refine ⟨by rw [sizeLine_eq]; simp, fun l0 nl0 => ?_⟩
    generalize hG : upd H l0 _ = H1
    obtain ⟨e1, h1⟩ := gen_new nl0 hG
    obtain ⟨v0, hv0, p0, k0, g0, w0, rfl, hp0, ⟨pk0, uk0, rfl, hk0, prk0⟩, _, _⟩ := paired_at' (paired_upT (Ex.lt e1) pr) hb0
    have hbn := hb b0 (List.mem_of_getElem? hb0)
    refine ⟨_, rfl, a, us, 0, .ref p0, rfl, rfl, SqL.of (e1 _ _ ha), atI_0 hv0, p0, _, 0, .ref pk0, rfl, rfl, hp0, rfl, pk0, _, rfl, .inr hk0, ?_⟩
    rw [paired_len prk0, hbn.2]
    refine ⟨l0, _, _, rfl, rfl, h1, by omega, by omega, z_sz ?_, fun la nla => ?_⟩
    · simp only [List.length_cons, List.length_nil, Int.toNat_natCast]; omega
    generalize hG2 : upd H1 la _ = H2
    obtain ⟨e2, h2⟩ := gen_new nla hG2
    rw [Int.toNat_natCast, rep_flat1] at h2
    have e12 := e1.tr e2
    refine ⟨_, _, rfl, ?_⟩
    refine ⟨_, rfl, a, rfl, ⟨_, SqL.of (e12 _ _ ha)⟩, for_wk (P := pPlan K) (wk_lst (K := K) (p := a) (vs := us) (xs := bs) (paired_len pr)) (fun i σ H' => Ex H H' ∧ ∃ lx z3 z4 z5 z6 z7 z8, H' lx = some (.lst ((amtsP (bs.take i) n).map V.int)) ∧ σ = [some (.ref a), some (.int (statesP (bs.take i))), some (.ref lx), z3, z4, z5, z6, z7, z8]) ⟨e12, la, _, _, _, _, _, _, h2, rfl⟩
      (fun i σ H' _ q => ⟨SqL.of (q.1 _ _ ha), paired_upT (Ex.lt q.1) pr⟩) (fun i b u σ H3 H4 hx q e4 px => ?_) (fun σ H' q => ?_)⟩
    · obtain ⟨e3, lx, z3, z4, z5, z6, z7, z8, hlx, rfl⟩ := q
      obtain ⟨ok, hkn⟩ := hb b (List.mem_of_getElem? hx)
      have e34 := e3.tr e4
      have hlx4 := e4 _ _ hlx
      have hap := amtsP_pos n _ (bs.take i) rfl fun b h => (hb b (List.mem_of_mem_take h)).1
      have hal := amtsP_len n _ (bs.take i) rfl fun b h => (hb b (List.mem_of_mem_take h)).2
      refine ⟨_, rfl, _, b, rfl, px, ok, fun p l1 l2 H5 e5 hp hl1 hl2 => ?_⟩
      refine ⟨p, _, rfl, hp, rfl, _, _, rfl, _, _, rfl, rfl, ?_⟩
      refine ⟨_, rfl, l1, rfl, ⟨_, SqL.of hl1⟩, for_wk (P := pInt) (wk_lst (K := K) (p := l1) (vs := b.periods.map V.int) (xs := b.periods) (by simp)) (fun j σ H' => Ex H5 H' ∧ ∃ z6 z7 z8, σ = [some (.ref a), some (.int ((b.periods.take j).foldl (fun t p => t * p) (statesP (bs.take i)))), some (.ref lx), some u, some (.ref l1), some (.ref l2), z6, z7, z8]) ⟨Ex.rf _, _, _, _, rfl⟩
        (fun j σ H' _ q => ⟨SqL.of (q.1 _ _ hl1), int_paired _⟩) (fun j x u σ H6 H7 hxj q e7 px => ?_) (fun σ H' q => ?_)⟩
      · obtain ⟨e6, y6, y7, y8, rfl⟩ := q
        cases px
        obtain ⟨g, hg, rfl⟩ := List.mem_map.mp (List.mem_of_getElem? hxj)
        obtain ⟨gg, gl⟩ := ok.go _ hg
        obtain ⟨b1, b2⟩ := per_small (ss := g ++ b.whole) (by have := ok.wo.2; simp only [List.length_append]; omega) (good_app gg ok.wo.1)
        rw [take_snoc hxj, foldl_snoc]
        exact ⟨_, rfl, _, rfl, _, _, rfl, rfl, mulR (by omega) (by omega), e6.tr e7, _, _, _, rfl⟩
      · obtain ⟨e6, y6, y7, y8, rfl⟩ := q
        rw [List.take_length]
        have hlx5 := e6 _ _ (e5 _ _ hlx4)
        have hl25 := e6 _ _ hl2
        refine ⟨_, rfl, _, rfl, true, true, lx, l2, _, _, rfl, SqL.of hlx5, SqL.of hl25,
          ⟨lc_map (P := pZip K pInt pInt) (R := pInt) (wk_Z2 (K := K) (P := pInt) (R := pInt) (k1 := true) (k2 := true) (a := lx) (b := l2) (us := (amtsP (bs.take i) n).map V.int) (vs := (b.kinds.map b.period).map V.int) (xs := amtsP (bs.take i) n) (ys := b.kinds.map b.period) (by simp) (by simp)) (fun x => cm x.1 x.2) (by rw [List.length_zip]; omega) (fun H' e => ⟨⟨SqL.of (e _ _ hlx5), SqL.of (e _ _ hl25)⟩, int_paired _, int_paired _⟩) (fun j x v H8 hxj e8 pv Nx Z kz => ?_) (fun L H8 ws hL e8 hl pw => ?_)⟩⟩
        · obtain ⟨q, _, _, rfl, hq, rfl, rfl⟩ := pv
          obtain ⟨m1, m2⟩ := List.of_mem_zip (List.mem_of_getElem? hxj)
          have x0 := hap _ m1
          obtain ⟨kk, hkk, ek⟩ := List.mem_map.mp m2
          obtain ⟨q1, q2⟩ := period_k ok hkk
          rw [ek] at q1 q2
          have c1 := cd_pos (a := x.1) q1
          have c2 := cd_le (a := x.1) q1
          exact ⟨q, _, rfl, hq, rfl, _, _, rfl, _, _, rfl, rfl, rfl, _, rfl, _, rfl, _, rfl, _, _, rfl, Int.le_of_lt x0, Int.le_of_lt q1, _, _, rfl, rfl, ⟨c1, lt64 (Int.le_of_lt c1) (by omega)⟩, _, rfl, _, _, rfl, rfl, mulR (by omega) (by omega), kz _ _ (Ex.rf _) rfl⟩
        · rw [paired_int pw] at hl
          have es : statesP (bs.take (i + 1)) = b.periods.foldl (fun t p => t * p) (statesP (bs.take i)) := by
            rw [take_snoc hx]
            unfold statesP
            rw [foldl_snoc]
          have ea : amtsP (bs.take (i + 1)) n = ((amtsP (bs.take i) n).zip (b.kinds.map b.period)).map fun x => cm x.1 x.2 := by
            rw [take_snoc hx]
            unfold amtsP
            rw [foldl_snoc]
            rfl
          rw [es, ea]
          exact ⟨((e34.tr e5).tr e6).tr e8, L, _, _, _, _, _, _, hl, rfl⟩
    · obtain ⟨e3, lx, z3, z4, z5, z6, z7, z8, hlx, rfl⟩ := q
      rw [List.take_length] at hlx ⊢
      refine ⟨_, rfl, _, rfl, by rw [sizeLine_eq]; simp, fun t nt => ?_⟩
      generalize hGt : upd H' t _ = H6
      obtain ⟨e6, h6⟩ := gen_new nt hGt
      exact k t lx H6 (e3.tr e6) (SqT.of h6) (e6 _ _ hlx)⟩)
def sp_books (K : PySem.W.Frag) : Sp := fun vs H Q _ => ∃ a us bs, vs = [.ref a] ∧ H a = some (.lst us) ∧ Paired (pPlan K H) us bs ∧ bs.length ≤ 1000 ∧ (∀ b ∈ bs, BkOk b) ∧ ∀ l ws H', Ex H H' → H' l = some (.lst ws) → Paired (pBk K H') ws bs → Q (.ref l) H'
theorem ok_books (T : Tx K mg) : C8.Cal P w K mg base 10 "_law_books" (sp_books K) [] :=
  mk__law_books T (fn__law_books T (fun vs H Q E h => by obtain ⟨_, _, _, rfl, _⟩ := h; rfl) fun cdv A outer s H vs Q E hr h => ⟨_, (der__law_books T (ok_Book_init T) hr).2, by
    obtain ⟨a, us, bs, rfl, ha, pr, hl, hb, k⟩ := h
    refine ⟨_, rfl, a, rfl, ⟨_, SqL.of ha⟩, ⟨lc_map (P := pPlan K) (R := pBk K) (wk_lst (K := K) (p := a) (vs := us) (xs := bs) (paired_len pr)) (fun b => b) (by omega) (fun H' e => ⟨SqL.of (e _ _ ha), paired_upT (Ex.lt e) pr⟩) (fun i b v H1 hx e pv N Z kz => ?_) (fun L H1 ws hL e hl pw => ?_)⟩⟩
    · obtain ⟨p, ks, gs, ls, rfl, hp, pk, pg, pl⟩ := pv
      refine ⟨p, _, rfl, hp, rfl, _, _, rfl, _, _, rfl, _, _, rfl, rfl, rfl, ?_⟩
      exact ⟨_, rfl, _, rfl, _, rfl, book_made pk pg pl (hb b (List.mem_of_getElem? hx)) fun v H2 e2 pv => kz _ _ e2 pv⟩
    · rw [List.map_id'] at pw
      exact k L ws H1 e hl pw⟩)
end
end Lf

set_option Elab.async false
set_option linter.all false
set_option maxRecDepth 100000
set_option maxHeartbeats 4000000
namespace Lf
open PySem PySem.Spec PyProof.Rows L2 Lc Lr Lm
/-- one step with the factor, the others without one -/
def Neu (ss : List Stp) : Prop := ∀ s ∈ ss, (∃ c, s = .plus c) ∨ ∃ y u, s = .times 1 1 y u
def RateIs (ss : List Stp) (f : Int × Int) : Prop := ∃ pre y u post, ss = pre ++ .times f.1 f.2 y u :: post ∧ Neu pre ∧ Neu post
theorem ExtraOk.neu {ss : List Stp} (h : ExtraOk ss) : Neu ss := by
  rcases h with rfl | ⟨c, rfl, _⟩ | ⟨y, u, rfl, _⟩
  · intro s hs; cases hs
  · intro s hs; exact .inl ⟨c, List.mem_singleton.mp hs⟩
  · intro s hs; exact .inr ⟨y, u, List.mem_singleton.mp hs⟩
theorem Neu.app {a b : List Stp} (ha : Neu a) (hb : Neu b) : Neu (a ++ b) := fun s hs => (List.mem_append.mp hs).elim (ha s) (hb s)
theorem Neu.nil : Neu [] := fun _ hs => by cases hs
structure PlanOf (labels : List Str) (fs : List (Int × Int)) (b : Bk) : Prop where
  ok : BkOk b
  nm : b.names = labels
  rt : ∀ (i : Nat) k f, b.kinds[i]? = some k → fs[i]? = some f → RateIs (k.steps ++ b.grpOf k ++ b.whole) f
  gk : ∀ g : Nat, g < b.groups.length → ∃ k ∈ b.kinds, k.grp = g
structure LabOk (labels : List Str) (fs : List (Int × Int)) : Prop where
  len : labels.length = fs.length
  l1 : 1 ≤ labels.length
  l2 : labels.length ≤ 2
  nd : labels.Nodup
  nm : ∀ z ∈ labels, NameOk z
  fa : ∀ f ∈ fs, (1 ≤ f.1 ∧ f.1 ≤ 5) ∧ 1 ≤ f.2 ∧ f.2 ≤ 5
theorem stp_good {f : Int × Int} {y : Way} {u : Int} (h : (1 ≤ f.1 ∧ f.1 ≤ 5) ∧ 1 ≤ f.2 ∧ f.2 ≤ 5) (u1 : 1 ≤ u) (u3 : u ≤ 3) : GoodR [.times f.1 f.2 y u] := fun s hs => by
  rw [List.mem_singleton.mp hs]
  exact ⟨h.1, h.2, u1, u3⟩
/-- kinds of a plan of the first shape: the step stands with the kind -/
structure K0 (labels : List Str) (fs : List (Int × Int)) (i : Nat) (ks : List Knd) : Prop where
  nm : ks.map Knd.name = labels.take i
  st : ∀ (m : Nat) k, ks[m]? = some k → ∃ f, fs[m]? = some f ∧ k.grp = 0 ∧ ∃ y u ss, k.steps = .times f.1 f.2 y u :: ss ∧ (1 ≤ u ∧ u ≤ 3) ∧ ExtraOk ss
structure K1 (labels : List Str) (i : Nat) (ks : List Knd) : Prop where
  nm : ks.map Knd.name = labels.take i
  st : ∀ (m : Nat) k, ks[m]? = some k → k.grp = m ∧ ExtraOk k.steps
structure G1 (fs : List (Int × Int)) (i : Nat) (gs : List (List Stp)) : Prop where
  len : gs.length = i
  st : ∀ (m : Nat) g, gs[m]? = some g → ∃ f, fs[m]? = some f ∧ ∃ y u, g = [.times f.1 f.2 y u] ∧ 1 ≤ u ∧ u ≤ 3
structure K2 (labels : List Str) (i : Nat) (ks : List Knd) : Prop where
  nm : ks.map Knd.name = labels.take i
  st : ∀ (m : Nat) k, ks[m]? = some k → k.grp = 0 ∧ ExtraOk k.steps
theorem kn_len {labels : List Str} {i : Nat} {ks : List Knd} (h : ks.map Knd.name = labels.take i) (hi : i ≤ labels.length) : ks.length = i := by
  have := congrArg List.length h
  rw [List.length_map, List.length_take] at this
  omega
theorem snoc_at {α : Type} {l : List α} {x y : α} {m : Nat} (h : (l ++ [x])[m]? = some y) : (m < l.length ∧ l[m]? = some y) ∨ (m = l.length ∧ y = x) := by
  rcases Nat.lt_or_ge m l.length with hl | hl
  · rw [List.getElem?_append_left hl] at h
    exact .inl ⟨hl, h⟩
  · rw [List.getElem?_append_right hl] at h
    have : m - l.length = 0 := by
      have := (List.getElem?_eq_some_iff.mp h).1
      simpa using this
    rw [this] at h
    exact .inr ⟨by omega, by simpa using h.symm⟩
theorem good_times {f : Int × Int} {y : Way} {u : Int} {ss : List Stp} (h : (1 ≤ f.1 ∧ f.1 ≤ 5) ∧ 1 ≤ f.2 ∧ f.2 ≤ 5) (u1 : 1 ≤ u) (u3 : u ≤ 3) (e : ExtraOk ss) : GoodR (.times f.1 f.2 y u :: ss) := good_app (stp_good h u1 u3) e.good
theorem plan0 {labels : List Str} {fs : List (Int × Int)} {ks : List Knd} {gx last : List Stp} (lab : LabOk labels fs) (h : K0 labels fs labels.length ks) (hg : ExtraOk gx) (hl : ExtraOk last) : PlanOf labels fs ⟨ks, [gx], last⟩ := by
  have hn : ks.map Knd.name = labels := by rw [h.nm, List.take_length]
  have hlen := kn_len h.nm (Nat.le_refl _)
  have hk0 : ∀ k ∈ ks, k.grp = 0 := fun k hk => by
    obtain ⟨m, hm⟩ := List.mem_iff_getElem?.mp hk
    obtain ⟨f, _, hg, _⟩ := h.st m k hm
    exact hg
  refine ⟨⟨fun e => ?_, ?_, by simp, by simp, by rw [hn]; exact lab.nd, fun k hk => ?_, fun k hk => by rw [hk0 k hk]; simp, fun g hg' => ?_, hl.good, Nat.le_trans hl.len (by decide)⟩, hn, fun i k f hk hf => ?_, fun g hg' => ?_⟩
  · have e' : ks = [] := e
    rw [e'] at hlen
    have := lab.l1
    simp at hlen
    omega
  · show ks.length ≤ 4
    have := lab.l2
    omega
  · obtain ⟨m, hm⟩ := List.mem_iff_getElem?.mp hk
    obtain ⟨f, hf, _, y, u, ss, es, hu, he⟩ := h.st m k hm
    refine ⟨lab.nm _ (by rw [← hn]; exact List.mem_map_of_mem hk), ?_, ?_⟩
    · rw [es]; exact good_times (lab.fa f (List.mem_of_getElem? hf)) hu.1 hu.2 he
    · rw [es, List.length_cons]; have := he.len; omega
  · rw [List.mem_singleton.mp hg']
    exact ⟨hg.good, Nat.le_trans hg.len (by decide)⟩
  · obtain ⟨f', hf', hg0, y, u, ss, es, hu, he⟩ := h.st i k hk
    rw [hf] at hf'
    cases hf'
    refine ⟨[], y, u, ss ++ gx ++ last, ?_, Neu.nil, (he.neu.app hg.neu).app hl.neu⟩
    have eg : (⟨ks, [gx], last⟩ : Bk).grpOf k = gx := by unfold Bk.grpOf; rw [hg0]; rfl
    rw [eg, es]
    simp
  · have : g = 0 := by simpa using hg'
    subst this
    obtain ⟨k, hk⟩ : ∃ k, k ∈ ks := by
      cases ks with
      | nil => simp at hlen; have := lab.l1; omega
      | cons k t => exact ⟨k, by simp⟩
    exact ⟨k, hk, hk0 k hk⟩
theorem plan1 {labels : List Str} {fs : List (Int × Int)} {ks : List Knd} {gs : List (List Stp)} {last : List Stp} (lab : LabOk labels fs) (h : K1 labels labels.length ks) (hg : G1 fs labels.length gs) (hl : ExtraOk last) : PlanOf labels fs ⟨ks, gs, last⟩ := by
  have hn : ks.map Knd.name = labels := by rw [h.nm, List.take_length]
  have hlen := kn_len h.nm (Nat.le_refl _)
  have hgl := hg.len
  have l1 := lab.l1
  have l2 := lab.l2
  refine ⟨⟨fun e => ?_, ?_, fun e => ?_, ?_, by rw [hn]; exact lab.nd, fun k hk => ?_, fun k hk => ?_, fun g hg' => ?_, hl.good, Nat.le_trans hl.len (by decide)⟩, hn, fun i k f hk hf => ?_, fun g hg' => ?_⟩
  · have e' : ks = [] := e
    rw [e'] at hlen
    simp at hlen
    omega
  · show ks.length ≤ 4
    omega
  · have e' : gs = [] := e
    rw [e'] at hgl
    simp at hgl
    omega
  · show gs.length ≤ 3
    omega
  · obtain ⟨m, hm⟩ := List.mem_iff_getElem?.mp hk
    obtain ⟨_, he⟩ := h.st m k hm
    exact ⟨lab.nm _ (by rw [← hn]; exact List.mem_map_of_mem hk), he.good, Nat.le_trans he.len (by decide)⟩
  · obtain ⟨m, hm⟩ := List.mem_iff_getElem?.mp hk
    obtain ⟨hgm, _⟩ := h.st m k hm
    have := (List.getElem?_eq_some_iff.mp hm).1
    show k.grp < gs.length
    have hm' : m < ks.length := this
    omega
  · obtain ⟨m, hm⟩ := List.mem_iff_getElem?.mp hg'
    obtain ⟨f, hf, y, u, rfl, u1, u3⟩ := hg.st m g hm
    exact ⟨stp_good (lab.fa f (List.mem_of_getElem? hf)) u1 u3, by simp⟩
  · obtain ⟨hgi, he⟩ := h.st i k hk
    have hi : i < ks.length := (List.getElem?_eq_some_iff.mp hk).1
    have hig : gs[i]? = some (gs[i]'(by omega)) := List.getElem?_eq_getElem (by omega)
    obtain ⟨f', hf', y, u, eg, u1, u3⟩ := hg.st i _ hig
    rw [hf] at hf'
    cases hf'
    have eg2 : (⟨ks, gs, last⟩ : Bk).grpOf k = [.times f.1 f.2 y u] := by
      unfold Bk.grpOf
      rw [hgi, List.getD_eq_getElem?_getD, hig, eg]
      rfl
    rw [eg2]
    exact ⟨k.steps, y, u, last, by simp, he.neu, hl.neu⟩
  · have hg'' : g < gs.length := hg'
    have hk : ks[g]? = some (ks[g]'(by omega)) := List.getElem?_eq_getElem (by omega)
    exact ⟨_, List.mem_of_getElem? hk, (h.st g _ hk).1⟩
theorem plan2 {labels : List Str} {fs : List (Int × Int)} {ks : List Knd} {gx last : List Stp} {f0 : Int × Int} {y : Way} {u : Int} (lab : LabOk labels fs) (h : K2 labels labels.length ks) (hg : ExtraOk gx) (hl : ExtraOk last) (hf : ∀ f ∈ fs, f = f0) (u1 : 1 ≤ u) (u3 : u ≤ 3) : PlanOf labels fs ⟨ks, [gx], .times f0.1 f0.2 y u :: last⟩ := by
  have hn : ks.map Knd.name = labels := by rw [h.nm, List.take_length]
  have hlen := kn_len h.nm (Nat.le_refl _)
  have l1 := lab.l1
  have l2 := lab.l2
  have hk0 : ∀ k ∈ ks, k.grp = 0 := fun k hk => by
    obtain ⟨m, hm⟩ := List.mem_iff_getElem?.mp hk
    exact (h.st m k hm).1
  have hf0 : f0 ∈ fs := by
    cases fs with
    | nil => have := lab.len; rw [List.length_nil] at this; omega
    | cons f t => rw [← hf f (by simp)]; simp
  refine ⟨⟨fun e => ?_, ?_, by simp, by simp, by rw [hn]; exact lab.nd, fun k hk => ?_, fun k hk => by rw [hk0 k hk]; simp, fun g hg' => ?_, good_times (lab.fa f0 hf0) u1 u3 hl, by have := hl.len; simp; omega⟩, hn, fun i k f hk hff => ?_, fun g hg' => ?_⟩
  · have e' : ks = [] := e
    rw [e'] at hlen
    simp at hlen
    omega
  · show ks.length ≤ 4
    omega
  · obtain ⟨m, hm⟩ := List.mem_iff_getElem?.mp hk
    obtain ⟨_, he⟩ := h.st m k hm
    exact ⟨lab.nm _ (by rw [← hn]; exact List.mem_map_of_mem hk), he.good, Nat.le_trans he.len (by decide)⟩
  · rw [List.mem_singleton.mp hg']
    exact ⟨hg.good, Nat.le_trans hg.len (by decide)⟩
  · obtain ⟨hg0, he⟩ := h.st i k hk
    have ef := hf f (List.mem_of_getElem? hff)
    have eg : (⟨ks, [gx], .times f0.1 f0.2 y u :: last⟩ : Bk).grpOf k = gx := by unfold Bk.grpOf; rw [hg0]; rfl
    rw [eg, ef]
    exact ⟨k.steps ++ gx, y, u, last, rfl, he.neu.app hg.neu, hl.neu⟩
  · have : g = 0 := by simpa using hg'
    subst this
    obtain ⟨k, hk⟩ : ∃ k, k ∈ ks := by
      cases ks with
      | nil => simp at hlen; omega
      | cons k t => exact ⟨k, by simp⟩
    exact ⟨k, hk, hk0 k hk⟩
end Lf

set_option Elab.async false
set_option linter.all false
set_option maxRecDepth 100000
set_option maxHeartbeats 4000000
namespace Lf
open PySem PySem.Spec PyProof.Rows L2 Lc Lr Lm
section
variable {P : Program} {w : World} {K : PySem.W.Frag} {mg : Str → Option Value} {base : Heap}
theorem jx_mut {j l : Addr} {H H' : Hp} {o : HO} (e : Jx j H H') (n : H l = none) : Jx j H (upd H' l o) := fun a u ne h => by
  rw [upd_ne (fun z => by rw [z, n] at h; cases h)]
  exact e a u ne h
theorem pJ.mut {j l : Addr} {H : Hp} {o : HO} (p : pJ H j) (ne : l ≠ j) : pJ (upd H l o) j := by
  obtain ⟨c, m, k, h, r⟩ := p
  exact ⟨c, m, k, by rw [upd_ne (Ne.symm ne)]; exact h, r⟩
theorem or_go {t u : TT} {σ : L2.St} {H : Hp} {F : Bool → Hp → Prop} (b c : Bool) (h1 : ∀ G : Bool → Hp → Prop, G b H → t σ H G) (h2 : b = false → ∀ G : Bool → Hp → Prop, (∀ H2, Ex H H2 → G c H2) → u σ H G) (h : ∀ H2, Ex H H2 → F (b || c) H2) : tOr t u σ H F := by
  refine h1 _ ?_
  cases b with
  | true => exact h H (Ex.rf _)
  | false => exact h2 rfl _ fun H2 e => h H2 e
def dFr (f : Int × Int) : PyData := .tuple [.int f.1, .int f.2]
theorem dFr_dp {H : Hp} {v : V} {f : Int × Int} (h : pFr K H v f) : Dp K H v (dFr f) := by
  obtain ⟨p, _, _, rfl, hp, rfl, rfl⟩ := h
  exact .tup hp (.cons (.int _) (.cons (.int _) .nil))
theorem dFr_sh (f : Int × Int) : SeqAt.shaped (dFr f) = true := by
  unfold SeqAt.shaped dFr
  simp [PyData.canLay0, PyData.canLayAll0, PyData.depth, PyData.depthAll]
theorem dFr_eq (f g : Int × Int) : PyData.eqv (dFr f) (dFr g) = decide (f = g) := by
  simp only [dFr, PyData.eqv, PyData.eqvAll, Bool.and_true]
  rw [Bool.eq_iff_iff]
  simp [Prod.ext_iff]
def sp_laid (K : PySem.W.Frag) : Sp := fun vs H Q _ => ∃ j lv lf us way labels fs, vs = [.ref j, lv, .ref lf, .int way] ∧ pJ H j ∧ pTup K pStr H lv labels ∧ H lf = some (.lst us) ∧ lf ≠ j ∧ Paired (pFr K H) us fs ∧ LabOk labels fs ∧ ∀ v b H', PlanOf labels fs b → pPlan K H' v b → Jx j H H' → pJ H' j → Q v H'
theorem ok_laid (T : Tx K mg) : C8.Cal P w K mg base 5 "_law_laid" (sp_laid K) [] :=
  mk__law_laid T (fn__law_laid T (fun vs H Q E h => by obtain ⟨_, _, _, _, _, _, _, rfl, _⟩ := h; rfl) fun cdv A outer s H vs Q E hr h => ⟨_, (der__law_laid T (ok_extra T) (ok_step T) hr).2, by
    obtain ⟨j, lv, lf, us, way, labels, fs, rfl, hj, plab, hlf, nlf, pus, lab, k⟩ := h
    obtain ⟨pl, rfl, hpl⟩ := pStrs plab
    have l2 := lab.l2
    have l1 := lab.l1
    have lfs := lab.len
    have lus := paired_len pus
    refine ⟨by rw [sizeLine_eq]; simp, fun ls nls => ?_⟩
    generalize hG1 : upd H ls _ = H1
    obtain ⟨e1, h1⟩ := gen_new nls hG1
    refine ⟨by rw [sizeLine_eq]; simp, fun lh nlh => ?_⟩
    generalize hG2 : upd H1 lh _ = H2
    obtain ⟨e2, h2⟩ := gen_new nlh hG2
    have e12 := e1.tr e2
    have nls' : ls ≠ j := pJ.ne hj nls
    have nlh0 : H lh = none := ex_none e1 nlh
    have nlh' : lh ≠ j := pJ.ne hj nlh0
    have nsh : ls ≠ lh := fun z => by rw [← z, h1] at nlh; cases nlh
    refine ⟨_, rfl, j, rfl, pJ.ex e12 hj, fun lv last H3 hle prl x3 p3 => ?_⟩
    have prl' := prl
    obtain ⟨pq, uq, rfl, hq, prq⟩ := prl'
    have hsl : HT.sIx uq.length uq.length (some 1) = uq.length := by
      have hl := paired_len prq
      have hl1 := hle.len
      show HT.sIx uq.length uq.length (some ((1 : Nat) : Int)) = uq.length
      rw [HT.sIx_nat]
      omega
    refine ⟨_, rfl, pq, uq, rfl, hq, fun _ => ?_, fun nh => (nh ⟨rfl, hsl⟩).elim⟩
    refine ⟨_, _, _, rfl, ?_⟩
    have x03 : Jx j H H3 := (Ex.jx e12).tr x3
    have hls3 : H3 ls = some (.lst []) := x3 _ _ nls' (e2 _ _ h1)
    have hlh3 : H3 lh = some (.lst []) := x3 _ _ nlh' h2
    -- what stands through a walk
    have up : ∀ {H'}, Jx j H H' → SqT K H' pl (labels.map V.str) ∧ H' lf = some (.lst us) ∧ Paired (pFr K H') us fs := fun {H'} x => ⟨lt_t (Jx.lt x hj) hpl, x _ _ nlf hlf, paired_upT (Jx.lt x hj) pus⟩
    refine ⟨_, rfl, rfl, _, rfl, ite2 (fun c0 => ?_) (fun c0 => ?_)⟩
    · -- the step with the kind
      obtain ⟨u1, u2, u3⟩ := up x03
      refine ⟨_, rfl, _, rfl, false, true, pl, lf, labels.map V.str, us, rfl, u1, SqL.of u2, for_wk (P := pZip K pStr (pFr K)) (wk_Z2 (K := K) (P := pStr) (R := pFr K) (k1 := false) (k2 := true) (a := pl) (b := lf) (us := labels.map V.str) (vs := us) (xs := labels) (ys := fs) (by simp) lus)
        (fun i σ H' => Jx j H H' ∧ pJ H' j ∧ (∃ ws ks, H' ls = some (.lst ws) ∧ Paired (pKnd K H') ws ks ∧ K0 labels fs i ks) ∧ pRow K H' (.ref pq) last ∧ ∃ z7 z8 z9, σ = [some (.ref j), some (.ref pl), some (.ref lf), some (.int way), some (.ref ls), some (.ref lh), some (.ref pq), z7, z8, z9]) ⟨x03, p3, ⟨[], [], hls3, .nil, ⟨rfl, fun m k h => by simp at h⟩⟩, prl, _, _, _, rfl⟩
        (fun i σ H' _ q => ⟨⟨(up q.1).1, SqL.of (up q.1).2.1⟩, str_paired _, (up q.1).2.2⟩) (fun i x u σ H4 H5 hx q e5 px => ?_) (fun σ H' q => ?_)⟩
      · obtain ⟨x4, p4, ⟨ws, ks, hls, pks, k0⟩, pr4, z7, z8, z9, rfl⟩ := q
        obtain ⟨r, _, fv, rfl, hr', rfl, pf⟩ := px
        obtain ⟨hx1, hx2⟩ := List.getElem?_zip_eq_some.mp hx
        have hi : i < labels.length := (List.getElem?_eq_some_iff.mp hx1).1
        have x5 := x4.tr (Ex.jx e5)
        have p5 := pJ.ex e5 p4
        have hls5 := e5 _ _ hls
        refine ⟨r, _, rfl, hr', rfl, _, _, rfl, _, _, rfl, rfl, ?_⟩
        refine ⟨_, rfl, tyL hls5, _, rfl, _, rfl, _, rfl, j, fv, x.2, rfl, p5, pf, fun sv y u H6 uu1 uu3 pst x6 p6 => ?_⟩
        refine ⟨by rw [sizeLine_eq]; simp, fun t nt => ?_⟩
        generalize hG7 : upd H6 t _ = H7
        obtain ⟨e7, h7⟩ := gen_new nt hG7
        have p7 := pJ.ex e7 p6
        refine ⟨_, rfl, j, rfl, p7, fun ev ss H8 hE pe x8 p8 => ?_⟩
        have l78 := Jx.lt x8 p7
        refine cat_row (s := [.times x.2.1 x.2.2 y u]) ⟨t, _, rfl, lt_t l78 (SqT.of h7), .cons (MonT.up ((Ex.lt e7).trans l78) pst) .nil⟩ pe (by have := hE.len; simp; omega) fun wv H9 e9 pw => ?_
        refine ⟨by rw [sizeLine_eq]; simp, fun t2 nt2 => ?_⟩
        generalize hGA : upd H9 t2 _ = HA
        obtain ⟨eA, hA⟩ := gen_new nt2 hGA
        have x5A : Jx j H5 HA := ((x6.tr (Ex.jx e7)).tr x8).tr (Ex.jx (e9.tr eA))
        have pA := pJ.ex (e9.tr eA) p8
        have hlsA := x5A _ _ nls' hls5
        have l5A := Jx.lt x5A p5
        have hkl := kn_len k0.nm (by omega)
        refine ⟨ls, ws, _, rfl, rfl, hlsA, Nat.lt_of_le_of_lt (show ws.length ≤ 1000 by rw [paired_len pks]; omega) (by rw [sizeLine_eq]; decide), ?_⟩
        have lB := Lt.set (ws' := ws ++ [.ref t2]) hlsA
        refine ⟨jx_mut (x5.tr x5A) nls, pA.mut nls', ⟨_, ks ++ [⟨x.1, 0, .times x.2.1 x.2.2 y u :: ss⟩], upd_same, ?_, ?_, fun m kk hm => ?_⟩, MonT.up ((Ex.lt e5).trans (l5A.trans lB)) pr4, _, _, _, rfl⟩
        · exact paired_snoc (paired_upT ((Ex.lt e5).trans (l5A.trans lB)) pks) ⟨t2, wv, rfl, lt_t lB (SqT.of hA), MonT.up ((Ex.lt eA).trans lB) pw⟩
        · rw [take_snoc hx1, List.map_append, k0.nm]
          rfl
        · rcases snoc_at hm with ⟨_, h⟩ | ⟨h, rfl⟩
          · exact k0.st m kk h
          · rw [hkl] at h
            subst h
            exact ⟨x.2, hx2, rfl, y, u, ss, rfl, ⟨uu1, uu3⟩, hE⟩
      · obtain ⟨x4, p4, ⟨ws, ks, hls, pks, k0⟩, pr4, z7, z8, z9, rfl⟩ := q
        have hzl : (labels.zip fs).length = labels.length := by rw [List.length_zip]; omega
        rw [hzl] at k0
        refine ⟨_, rfl, ls, _, rfl, .inl ⟨SqL.of hls, fun t nt => ?_⟩⟩
        generalize hG5 : upd H' t _ = H5
        obtain ⟨e5, h5⟩ := gen_new nt hG5
        have p5 := pJ.ex e5 p4
        refine ⟨_, rfl, j, rfl, p5, fun ev gx H6 hE pe x6 p6 => ?_⟩
        have l56 := Jx.lt x6 p5
        refine ⟨by rw [sizeLine_eq]; simp, fun t2 nt2 => ?_⟩
        generalize hG7 : upd H6 t2 _ = H7
        obtain ⟨e7, h7⟩ := gen_new nt2 hG7
        refine ⟨_, rfl, by rw [sizeLine_eq]; simp, fun t3 nt3 => ?_⟩
        generalize hG8 : upd H7 t3 _ = H8
        obtain ⟨e8, h8⟩ := gen_new nt3 hG8
        have l58 := l56.trans (Ex.lt (e7.tr e8))
        refine k _ ⟨ks, [gx], last⟩ H8 (plan0 lab k0 hE hle) ⟨t3, _, _, _, rfl, SqT.of h8, ⟨t, _, rfl, lt_t l58 (SqT.of h5), paired_upT ((Ex.lt e5).trans l58) pks⟩, ⟨t2, _, rfl, SqT.of (e8 _ _ h7), .cons (MonT.up (Ex.lt (e7.tr e8)) pe) .nil⟩, MonT.up ((Ex.lt e5).trans l58) pr4⟩ (((x4.tr (Ex.jx e5)).tr x6).tr (Ex.jx (e7.tr e8))) (pJ.ex (e7.tr e8) p6)
    obtain ⟨f0, hf0⟩ : ∃ f0, fs[0]? = some f0 := by
      cases fs with
      | nil => rw [List.length_nil] at lfs; omega
      | cons f t => exact ⟨f, rfl⟩
    dsimp only [tNext, tSeq, tIfS]
    refine or_go (decide (V.int way = V.int 1)) (!(fs.filter fun f => !decide (f = f0)).isEmpty) (fun G g => ⟨_, rfl, rfl, _, rfl, g⟩) (fun _ G g => ?_) (fun H4 e4 => ite2 (fun cc => ?_) (fun cc => ?_))
    · obtain ⟨u1, u2, u3⟩ := up x03
      refine ⟨_, rfl, lf, rfl, ⟨_, SqL.of u2⟩, ⟨lc_wk (P := pFr K) (R := pFr K) (wk_lst (K := K) (p := lf) (vs := us) (xs := fs) lus) (fun f => !decide (f = f0)) (fun f => f) (by omega) (fun H' e => ⟨SqL.of (e _ _ u2), paired_upT (Ex.lt e) u3⟩) (fun i f v H4 hf e pv N Z kn kz => ?_) (fun L H4 ws hL e hl pw => ?_)⟩⟩
      · obtain ⟨v0, hv0, pv0⟩ := paired_at' (paired_upT (Ex.lt e) u3) hf0
        refine ⟨rfl, _, rfl, _, rfl, lf, us, 0, v0, rfl, rfl, SqL.of (e _ _ u2), atI_0 hv0, _, _, dFr_dp pv, dFr_dp pv0, dFr_sh _, dFr_sh _, _, rfl, ?_⟩
        rw [dFr_eq]
        exact ite2 (fun d => ⟨_, rfl, kz d _ _ (Ex.rf _) pv⟩) (fun d => kn (Bool.not_eq_true _ |>.mp d) _ (Ex.rf _))
      rw [List.map_id'] at pw
      refine ⟨by rw [sizeLine_eq]; simp, fun m nm => ?_⟩
      generalize hG5 : upd H4 m _ = H5
      obtain ⟨e5, h5⟩ := gen_new nm hG5
      refine ⟨.list ((fs.filter fun f => !decide (f = f0)).map dFr), .list [], .lst (SqL.of (e5 _ _ hl)) (dpAll_of (f := dFr) (fun _ _ h => dFr_dp h) (paired_upT (Ex.lt e5) pw)), .lst (SqL.of h5) .nil, shaped_lst (n := 1) (f := dFr) (fun f _ => by simp [dFr, PyData.canLay0, PyData.canLayAll0]) (fun f _ => by simp [dFr, PyData.depth, PyData.depthAll]) (by decide), shaped_nilL, _, rfl, ?_⟩
      rw [eqv_nilL]
      exact g H5 (e.tr e5)
    · -- a group a kind
      have x4 := x03.tr (Ex.jx e4)
      have p4 := pJ.ex e4 p3
      obtain ⟨u1, u2, u3⟩ := up x4
      refine ⟨_, rfl, pl, _, rfl, .inr u1, ?_⟩
      rw [List.length_map]
      refine ⟨_, rfl, by omega, by omega, for_wk (P := pInt) (wk_rng (lo := 0) (n := ((labels.length : Nat) : Int).toNat))
        (fun i σ H' => Jx j H H' ∧ pJ H' j ∧ (∃ ws ks, H' ls = some (.lst ws) ∧ Paired (pKnd K H') ws ks ∧ K1 labels i ks) ∧ (∃ vs gs, H' lh = some (.lst vs) ∧ Paired (pRow K H') vs gs ∧ G1 fs i gs) ∧ pRow K H' (.ref pq) last ∧ ∃ z7 z8 z9, σ = [some (.ref j), some (.ref pl), some (.ref lf), some (.int way), some (.ref ls), some (.ref lh), some (.ref pq), z7, z8, z9]) ⟨x4, p4, ⟨[], [], e4 _ _ hls3, .nil, ⟨rfl, fun m k h => by simp at h⟩⟩, ⟨[], [], e4 _ _ hlh3, .nil, ⟨rfl, fun m k h => by simp at h⟩⟩, MonT.up (Ex.lt e4) prl, _, _, _, rfl⟩
        (fun _ _ _ _ _ => trivial) (fun i y w σ H5 H6 hx q e6 px => ?_) (fun σ H' q => ?_)⟩
      · obtain ⟨x5, p5, ⟨ws, ks, hls, pks, k1⟩, ⟨vs, gs, hlh, pgs, g1⟩, pr5, z7, z8, z9, rfl⟩ := q
        cases px
        obtain ⟨hy1, hy2⟩ := rng_of hx
        have hi : i < labels.length := by omega
        have hyi : y = (i : Nat) := by omega
        have x6 := x5.tr (Ex.jx e6)
        have p6 := pJ.ex e6 p5
        obtain ⟨v1, v2, v3⟩ := up x6
        have hls6 := e6 _ _ hls
        have hlh6 := e6 _ _ hlh
        have hlab : labels[i]? = some labels[i] := List.getElem?_eq_getElem hi
        have hlabv : (labels.map V.str)[i]? = some (.str labels[i]) := by rw [List.getElem?_map, hlab] <;> rfl
        have hfi : fs[i]? = some (fs[i]'(by omega)) := List.getElem?_eq_getElem (by omega)
        have hkl := kn_len k1.nm (by omega)
        refine ⟨_, rfl, tyL hls6, _, rfl, _, rfl, pl, _, _, _, rfl, rfl, v1, atI_nat' hlabv hyi, _, rfl, _, rfl, j, rfl, p6, fun ev ss H7 hE pe x7 p7 => ?_⟩
        refine ⟨by rw [sizeLine_eq]; simp, fun t nt => ?_⟩
        generalize hG8 : upd H7 t _ = H8
        obtain ⟨e8, h8⟩ := gen_new nt hG8
        have p8 := pJ.ex e8 p7
        have l78 := (Jx.lt x7 p6).trans (Ex.lt e8)
        have hls8 := e8 _ _ (x7 _ _ nls' hls6)
        have hlh8 := e8 _ _ (x7 _ _ nlh' hlh6)
        refine ⟨ls, ws, _, rfl, rfl, hls8, Nat.lt_of_le_of_lt (show ws.length ≤ 1000 by rw [paired_len pks]; omega) (by rw [sizeLine_eq]; decide), ?_⟩
        have lB := Lt.set (ws' := ws ++ [.ref t]) hls8
        generalize hG9 : upd H8 ls _ = H9 at lB
        have hls9 : H9 ls = some (.lst (ws ++ [.ref t])) := by subst hG9; exact upd_same
        have hlh9 : H9 lh = some (.lst vs) := by subst hG9; rw [upd_ne (Ne.symm nsh)]; exact hlh8
        have p9 : pJ H9 j := by subst hG9; exact p8.mut nls'
        have x9 : Jx j H H9 := by subst hG9; exact jx_mut ((x6.tr x7).tr (Ex.jx e8)) nls
        have l69 := l78.trans lB
        obtain ⟨w1, w2, w3⟩ := up x9
        obtain ⟨fv, hfv, pfv⟩ := paired_at' w3 hfi
        have pk9 : Paired (pKnd K H9) (ws ++ [.ref t]) (ks ++ [⟨labels[i], i, ss⟩]) := paired_snoc (paired_upT ((Ex.lt e6).trans l69) pks) ⟨t, ev, rfl, by rw [← hyi]; exact lt_t lB (SqT.of h8), MonT.up ((Ex.lt e8).trans lB) pe⟩
        refine ⟨_, rfl, tyL hlh9, _, rfl, _, rfl, _, rfl, lf, us, _, fv, rfl, rfl, SqL.of w2, atI_nat' hfv hyi, j, fv, _, rfl, p9, pfv, fun sv yy u HA uu1 uu3 pst xA pA => ?_⟩
        refine ⟨by rw [sizeLine_eq]; simp, fun t2 nt2 => ?_⟩
        generalize hGB : upd HA t2 _ = HB
        obtain ⟨eB, hB⟩ := gen_new nt2 hGB
        have pB := pJ.ex eB pA
        have l9B := (Jx.lt xA p9).trans (Ex.lt eB)
        have hlsB := eB _ _ (xA _ _ nls' hls9)
        have hlhB := eB _ _ (xA _ _ nlh' hlh9)
        refine ⟨lh, vs, _, rfl, rfl, hlhB, Nat.lt_of_le_of_lt (show vs.length ≤ 1000 by rw [paired_len pgs, g1.len]; omega) (by rw [sizeLine_eq]; decide), ?_⟩
        have lC := Lt.set (ws' := vs ++ [.ref t2]) hlhB
        generalize hGC : upd HB lh _ = HC at lC
        have xC : Jx j H HC := by subst hGC; exact jx_mut ((x9.tr xA).tr (Ex.jx eB)) nlh0
        have pC : pJ HC j := by subst hGC; exact pB.mut nlh'
        have hlsC : HC ls = some (.lst (ws ++ [.ref t])) := by subst hGC; rw [upd_ne nsh]; exact hlsB
        have hlhC : HC lh = some (.lst (vs ++ [.ref t2])) := by subst hGC; exact upd_same
        have l9C := l9B.trans lC
        refine ⟨xC, pC, ⟨_, _, hlsC, paired_upT l9C pk9, ⟨?_, fun m kk hm => ?_⟩⟩, ⟨_, gs ++ [[.times (fs[i]'(by omega)).1 (fs[i]'(by omega)).2 yy u]], hlhC, paired_snoc (paired_upT (((Ex.lt e6).trans l69).trans l9C) pgs) ⟨t2, _, rfl, lt_t lC (SqT.of hB), .cons (MonT.up ((Ex.lt eB).trans lC) pst) .nil⟩, ⟨by rw [List.length_append, g1.len]; rfl, fun m g hm => ?_⟩⟩, MonT.up (((Ex.lt e6).trans l69).trans l9C) pr5, _, _, _, rfl⟩
        · rw [take_snoc hlab, List.map_append, k1.nm]
          rfl
        · rcases snoc_at hm with ⟨_, h⟩ | ⟨h, rfl⟩
          · exact k1.st m kk h
          · rw [hkl] at h
            exact ⟨h.symm, hE⟩
        · rcases snoc_at hm with ⟨_, h⟩ | ⟨h, rfl⟩
          · exact g1.st m g h
          · rw [g1.len] at h
            subst h
            exact ⟨_, hfi, yy, u, rfl, uu1, uu3⟩
      · obtain ⟨x5, p5, ⟨ws, ks, hls, pks, k1⟩, ⟨vs, gs, hlh, pgs, g1⟩, pr5, z7, z8, z9, rfl⟩ := q
        rw [rng_len, Int.toNat_natCast] at k1 g1
        refine ⟨_, rfl, ls, _, rfl, .inl ⟨SqL.of hls, fun t nt => ?_⟩⟩
        generalize hG5 : upd H' t _ = H5
        obtain ⟨e5, h5⟩ := gen_new nt hG5
        refine ⟨_, rfl, lh, _, rfl, .inl ⟨SqL.of (e5 _ _ hlh), fun t2 nt2 => ?_⟩⟩
        generalize hG6 : upd H5 t2 _ = H6
        obtain ⟨e6, h6⟩ := gen_new nt2 hG6
        refine ⟨_, rfl, by rw [sizeLine_eq]; simp, fun t3 nt3 => ?_⟩
        generalize hG7 : upd H6 t3 _ = H7
        obtain ⟨e7, h7⟩ := gen_new nt3 hG7
        exact k _ ⟨ks, gs, last⟩ H7 (plan1 lab k1 g1 hle) ⟨t3, _, _, _, rfl, SqT.of h7, ⟨t, _, rfl, SqT.of (e7 _ _ (e6 _ _ h5)), paired_upT (Ex.lt ((e5.tr e6).tr e7)) pks⟩, ⟨t2, _, rfl, SqT.of (e7 _ _ h6), paired_upT (Ex.lt ((e5.tr e6).tr e7)) pgs⟩, MonT.up (Ex.lt ((e5.tr e6).tr e7)) pr5⟩ (x5.tr (Ex.jx ((e5.tr e6).tr e7))) (pJ.ex ((e5.tr e6).tr e7) p5)
    · -- the step at the whole
      have hall : ∀ f ∈ fs, f = f0 := fun f hf => by
        have hc : (!(fs.filter fun f => !decide (f = f0)).isEmpty) = false := by
          have := Bool.not_eq_true _ |>.mp cc
          exact (Bool.or_eq_false_iff.mp this).2
        have hc2 : (fs.filter fun f => !decide (f = f0)) = [] := by simpa using hc
        rw [List.filter_eq_nil_iff] at hc2
        have := hc2 f hf
        simpa using this
      have x4 := x03.tr (Ex.jx e4)
      have p4 := pJ.ex e4 p3
      obtain ⟨u1, u2, u3⟩ := up x4
      refine ⟨_, rfl, pl, rfl, ⟨_, u1⟩, for_wk (P := pStr) (wk_tup (K := K) (p := pl) (vs := labels.map V.str) (xs := labels) (by simp))
        (fun i σ H' => Jx j H H' ∧ pJ H' j ∧ (∃ ws ks, H' ls = some (.lst ws) ∧ Paired (pKnd K H') ws ks ∧ K2 labels i ks) ∧ pRow K H' (.ref pq) last ∧ ∃ z7 z8 z9, σ = [some (.ref j), some (.ref pl), some (.ref lf), some (.int way), some (.ref ls), some (.ref lh), some (.ref pq), z7, z8, z9]) ⟨x4, p4, ⟨[], [], e4 _ _ hls3, .nil, ⟨rfl, fun m k h => by simp at h⟩⟩, MonT.up (Ex.lt e4) prl, _, _, _, rfl⟩
        (fun i σ H' _ q => ⟨(up q.1).1, str_paired _⟩) (fun i x w σ H5 H6 hx q e6 px => ?_) (fun σ H' q => ?_)⟩
      · obtain ⟨x5, p5, ⟨ws, ks, hls, pks, k2⟩, pr5, z7, z8, z9, rfl⟩ := q
        cases px
        have hi : i < labels.length := (List.getElem?_eq_some_iff.mp hx).1
        have x6 := x5.tr (Ex.jx e6)
        have p6 := pJ.ex e6 p5
        have hls6 := e6 _ _ hls
        have hkl := kn_len k2.nm (by omega)
        refine ⟨_, rfl, tyL hls6, _, rfl, _, rfl, j, rfl, p6, fun ev ss H7 hE pe x7 p7 => ?_⟩
        refine ⟨by rw [sizeLine_eq]; simp, fun t nt => ?_⟩
        generalize hG8 : upd H7 t _ = H8
        obtain ⟨e8, h8⟩ := gen_new nt hG8
        have p8 := pJ.ex e8 p7
        have l68 := (Jx.lt x7 p6).trans (Ex.lt e8)
        have hls8 := e8 _ _ (x7 _ _ nls' hls6)
        refine ⟨ls, ws, _, rfl, rfl, hls8, Nat.lt_of_le_of_lt (show ws.length ≤ 1000 by rw [paired_len pks]; omega) (by rw [sizeLine_eq]; decide), ?_⟩
        have lB := Lt.set (ws' := ws ++ [.ref t]) hls8
        refine ⟨jx_mut ((x6.tr x7).tr (Ex.jx e8)) nls, p8.mut nls', ⟨_, ks ++ [⟨x, 0, ss⟩], upd_same, paired_snoc (paired_upT ((Ex.lt e6).trans (l68.trans lB)) pks) ⟨t, ev, rfl, lt_t lB (SqT.of h8), MonT.up ((Ex.lt e8).trans lB) pe⟩, ⟨?_, fun m kk hm => ?_⟩⟩, MonT.up ((Ex.lt e6).trans (l68.trans lB)) pr5, _, _, _, rfl⟩
        · rw [take_snoc hx, List.map_append, k2.nm]
          rfl
        · rcases snoc_at hm with ⟨_, h⟩ | ⟨h, rfl⟩
          · exact k2.st m kk h
          · exact ⟨rfl, hE⟩
      · obtain ⟨x5, p5, ⟨ws, ks, hls, pks, k2⟩, pr5, z7, z8, z9, rfl⟩ := q
        refine ⟨_, rfl, ls, _, rfl, .inl ⟨SqL.of hls, fun t nt => ?_⟩⟩
        generalize hG5 : upd H' t _ = H5
        obtain ⟨e5, h5⟩ := gen_new nt hG5
        have p5' := pJ.ex e5 p5
        refine ⟨_, rfl, j, rfl, p5', fun ev gx H6 hE pe x6 p6 => ?_⟩
        have l56 := Jx.lt x6 p5'
        refine ⟨by rw [sizeLine_eq]; simp, fun t2 nt2 => ?_⟩
        generalize hG7 : upd H6 t2 _ = H7
        obtain ⟨e7, h7⟩ := gen_new nt2 hG7
        have p7 := pJ.ex e7 p6
        have x7 := ((x5.tr (Ex.jx e5)).tr x6).tr (Ex.jx e7)
        obtain ⟨w1, w2, w3⟩ := up x7
        obtain ⟨fv, hfv, pfv⟩ := paired_at' w3 hf0
        refine ⟨_, rfl, _, rfl, lf, us, 0, fv, rfl, rfl, SqL.of w2, atI_0 hfv, j, fv, f0, rfl, p7, pfv, fun sv yy u H8 uu1 uu3 pst x8 p8 => ?_⟩
        refine ⟨by rw [sizeLine_eq]; simp, fun t3 nt3 => ?_⟩
        generalize hG9 : upd H8 t3 _ = H9
        obtain ⟨e9, h9⟩ := gen_new nt3 hG9
        have l79 := (Jx.lt x8 p7).trans (Ex.lt e9)
        have l59 := (l56.trans (Ex.lt e7)).trans l79
        refine ⟨_, rfl, cat_row (s := [.times f0.1 f0.2 yy u]) ⟨t3, _, rfl, SqT.of h9, .cons (MonT.up (Ex.lt e9) pst) .nil⟩ (MonT.up ((Ex.lt e5).trans l59) pr5) (by have := hle.len; simp; omega) fun wv HA eA pw => ?_⟩
        refine ⟨by rw [sizeLine_eq]; simp, fun t4 nt4 => ?_⟩
        generalize hGB : upd HA t4 _ = HB
        obtain ⟨eB, hB⟩ := gen_new nt4 hGB
        have l9B := Ex.lt (eA.tr eB)
        exact k _ ⟨ks, [gx], .times f0.1 f0.2 yy u :: last⟩ HB (plan2 lab k2 hE hle hall uu1 uu3) ⟨t4, _, _, _, rfl, SqT.of hB, ⟨t, _, rfl, lt_t (l59.trans l9B) (SqT.of h5), paired_upT ((Ex.lt e5).trans (l59.trans l9B)) pks⟩, ⟨t2, _, rfl, lt_t (l79.trans l9B) (SqT.of h7), .cons (MonT.up ((Ex.lt e7).trans (l79.trans l9B)) pe) .nil⟩, MonT.up (Ex.lt eB) pw⟩ ((x7.tr x8).tr (Ex.jx ((e9.tr eA).tr eB))) (pJ.ex ((e9.tr eA).tr eB) p8)⟩)
end
end Lf

set_option Elab.async false
set_option linter.all false
set_option maxRecDepth 100000
set_option maxHeartbeats 4000000
namespace Lf
open PySem PySem.Spec PyProof.Rows L2 Lc Lr Lm
theorem lc_jx {α β : Type} {P : Pr α} {R : Pr β} [MonT R] {J : It} {G : Hp → Prop} {xs : List α} (w : Wk P J G xs) {g : TG} {te : TE} {vs : List Nat} {σ : L2.St} {H : Hp} {Q : VK} {j : Addr} (hj : pJ H j) (C : β → Prop) (hz : xs.length ≤ 1000000)
    (hG : ∀ H', Jx j H H' → pJ H' j → G H')
    (hs : ∀ (i : Nat) x v H1, xs[i]? = some x → Jx j H H1 → pJ H1 j → P H1 v x → ∀ (Z : V → Hp → Prop), (∀ y b H2, C b → Jx j H1 H2 → pJ H2 j → R H2 y b → Z y H2) → g v (wipe σ vs) H1 fun σ2 H2 => wipe σ2 vs = wipe σ vs ∧ te σ2 H2 Z)
    (hd : ∀ L H1 ws ys, H L = none → Jx j H H1 → pJ H1 j → H1 L = some (.lst ws) → Paired (R H1) ws ys → ys.length = xs.length → (∀ y ∈ ys, C y) → Q (.ref L) H1) : LcW J g tYes te vs σ H Q := by
  intro D hD
  have nDj : D ≠ j := pJ.ne hj hD
  refine lc_it w (fun i H' => Jx j H H' ∧ pJ H' j ∧ ∃ ws ys, H' D = some (.lst ws) ∧ Paired (R H') ws ys ∧ ys.length = min i xs.length ∧ ∀ y ∈ ys, C y) ⟨jx_mut (Jx.rf _ _) hD, hj.mut nDj, [], [], upd_same, .nil, by simp, fun y hy => by cases hy⟩ (fun i H' _ q => hG H' q.1 q.2.1) (fun i v H1 H2 hi q y => ?_) (fun H' q => ?_)
  · obtain ⟨x1, p1, ws, ys, hw, pr, hl, hc⟩ := q
    obtain ⟨x, ex, e2, px⟩ := y
    refine hs i x v H2 ex (x1.tr (Ex.jx e2)) (pJ.ex e2 p1) px _ (fun y b H3 cb x3 p3 ry => ?_)
    have hD3 := x3 _ _ nDj (e2 _ _ hw)
    have lt := Lt.set (ws' := ws ++ [y]) hD3
    have hi' : i < xs.length := hi
    refine ⟨ws, hD3, ?_, jx_mut ((x1.tr (Ex.jx e2)).tr x3) hD, p3.mut nDj, ws ++ [y], ys ++ [b], upd_same, ?_, ?_, fun z hz => ?_⟩
    · rw [paired_len pr, hl]
      exact Nat.lt_of_le_of_lt (Nat.le_trans (Nat.min_le_right _ _) hz) (by decide)
    · exact paired_snoc (paired_upT (((Ex.lt e2).trans (Jx.lt x3 (pJ.ex e2 p1))).trans lt) pr) (MonT.up lt ry)
    · rw [List.length_append, hl, List.length_singleton]
      omega
    · rcases List.mem_append.mp hz with h | h
      · exact hc z h
      · rw [List.mem_singleton.mp h]; exact cb
  · obtain ⟨x1, p1, ws, ys, hw, pr, hl, hc⟩ := q
    rw [Nat.min_self] at hl
    exact hd D H' ws ys hD x1 p1 hw pr hl hc
def labsL : List (List Str) := [["a"], ["tea", "x9"], ["kind"], ["b", "a"], ["group"]]
theorem labs_ok {l : List Str} (h : l ∈ labsL) : (1 ≤ l.length ∧ l.length ≤ 2) ∧ l.Nodup ∧ ∀ z ∈ l, NameOk z := by
  have n1 : NameOk "a" := ⟨by decide +kernel, by decide +kernel, ⟨97, by decide +kernel, by decide +kernel⟩, by decide +kernel⟩
  have n2 : NameOk "tea" := ⟨by decide +kernel, by decide +kernel, ⟨116, by decide +kernel, by decide +kernel⟩, by decide +kernel⟩
  have n3 : NameOk "x9" := ⟨by decide +kernel, by decide +kernel, ⟨120, by decide +kernel, by decide +kernel⟩, by decide +kernel⟩
  have n4 : NameOk "kind" := ⟨by decide +kernel, by decide +kernel, ⟨107, by decide +kernel, by decide +kernel⟩, by decide +kernel⟩
  have n5 : NameOk "b" := ⟨by decide +kernel, by decide +kernel, ⟨98, by decide +kernel, by decide +kernel⟩, by decide +kernel⟩
  have n6 : NameOk "group" := ⟨by decide +kernel, by decide +kernel, ⟨103, by decide +kernel, by decide +kernel⟩, by decide +kernel⟩
  simp only [labsL, List.mem_cons, List.not_mem_nil, or_false] at h
  rcases h with rfl | rfl | rfl | rfl | rfl
  · exact ⟨⟨by decide, by decide⟩, by decide +kernel, fun z hz => by rw [List.mem_singleton.mp hz]; exact n1⟩
  · refine ⟨⟨by decide, by decide⟩, by decide +kernel, fun z hz => ?_⟩
    simp only [List.mem_cons, List.not_mem_nil, or_false] at hz
    rcases hz with rfl | rfl
    · exact n2
    · exact n3
  · exact ⟨⟨by decide, by decide⟩, by decide +kernel, fun z hz => by rw [List.mem_singleton.mp hz]; exact n4⟩
  · refine ⟨⟨by decide, by decide⟩, by decide +kernel, fun z hz => ?_⟩
    simp only [List.mem_cons, List.not_mem_nil, or_false] at hz
    rcases hz with rfl | rfl
    · exact n5
    · exact n1
  · exact ⟨⟨by decide, by decide⟩, by decide +kernel, fun z hz => by rw [List.mem_singleton.mp hz]; exact n6⟩
theorem facs_ok {f : Int × Int} (h : f ∈ facs) : (1 ≤ f.1 ∧ f.1 ≤ 5) ∧ 1 ≤ f.2 ∧ f.2 ≤ 5 := by
  have : facs.all (fun f => decide (1 ≤ f.1) && decide (f.1 ≤ 5) && decide (1 ≤ f.2) && decide (f.2 ≤ 5)) = true := by decide +kernel
  have := List.all_eq_true.mp this f h
  simp only [Bool.and_eq_true, decide_eq_true_eq] at this
  omega
structure P2 (b c : Bk) : Prop where
  ex : ∃ labels fs, LabOk labels fs ∧ PlanOf labels fs b ∧ PlanOf labels fs c ∧ (∀ x ∈ amtsP [b, c] labels.length, x ≤ 12)
  st : statesP [b, c] ≤ 14
theorem lab_of {l : List Str} {fs : List (Int × Int)} (h : l ∈ labsL) (hl : fs.length = l.length) (hf : ∀ f ∈ fs, f ∈ facs) : LabOk l fs :=
  ⟨hl.symm, (labs_ok h).1.1, (labs_ok h).1.2, (labs_ok h).2.1, (labs_ok h).2.2, fun f hf' => facs_ok (hf f hf')⟩
end Lf

set_option Elab.async false
set_option linter.all false
set_option maxRecDepth 100000
set_option maxHeartbeats 4000000
namespace Lf
open PySem PySem.Spec PyProof.Rows L2 Lc Lr Lm
def fbK (labels : List Str) : List Knd := labels.map fun z => ⟨z, 0, [.times 1 2 .up 1]⟩
def fbB (labels : List Str) : List Knd := labels.map fun z => ⟨z, 0, []⟩
theorem map_at {α β : Type} {f : α → β} {l : List α} {m : Nat} {k : β} (h : (l.map f)[m]? = some k) : ∃ z, l[m]? = some z ∧ k = f z := by
  rw [List.getElem?_map] at h
  cases q : l[m]? with
  | none => rw [q] at h; cases h
  | some z => rw [q] at h; exact ⟨z, rfl, (Option.some.inj h).symm⟩
theorem fall_ok {labels : List Str} (h : labels ∈ labsL) : P2 ⟨fbK labels, [[]], []⟩ ⟨fbB labels, [[]], [.times 1 2 .neven 1]⟩ := by
  have lab : LabOk labels (labels.map fun _ => ((1, 2) : Int × Int)) := lab_of h (by simp) fun f hf => by
    obtain ⟨_, _, rfl⟩ := List.mem_map.mp hf
    decide
  have st : ∀ (k1 k2 : List Knd), statesP [⟨k1, [[]], []⟩, ⟨k2, [[]], [.times 1 2 .neven 1]⟩] ≤ 14 := fun k1 k2 => by
    have : statesP [⟨k1, [[]], []⟩, ⟨k2, [[]], [.times 1 2 .neven 1]⟩] = statesP [⟨[], [[]], []⟩, ⟨[], [[]], [.times 1 2 .neven 1]⟩] := rfl
    rw [this]
    decide +kernel
  refine ⟨⟨labels, labels.map fun _ => (1, 2), lab, plan0 lab ⟨?_, fun m k hk => ?_⟩ (.inl rfl) (.inl rfl), plan2 (f0 := (1, 2)) lab ⟨?_, fun m k hk => ?_⟩ (.inl rfl) (.inl rfl) (fun f hf => ?_) (by decide) (by decide), fun x hx => ?_⟩, st _ _⟩
  · unfold fbK; simp [Function.comp_def]
  · obtain ⟨z, hz, rfl⟩ := map_at hk
    exact ⟨(1, 2), by rw [List.getElem?_map, hz] <;> rfl, rfl, .up, 1, [], rfl, ⟨by decide, by decide⟩, .inl rfl⟩
  · unfold fbB; simp [Function.comp_def]
  · obtain ⟨z, hz, rfl⟩ := map_at hk
    exact ⟨rfl, .inl rfl⟩
  · obtain ⟨_, _, rfl⟩ := List.mem_map.mp hf
    rfl
  · have hx' : x ∈ am1 (am1 (List.replicate labels.length 1) ⟨fbK labels, [[]], []⟩) ⟨fbB labels, [[]], [.times 1 2 .neven 1]⟩ := hx
    obtain ⟨y, hy, rfl⟩ := List.mem_map.mp hx'
    obtain ⟨h1, h2⟩ := List.of_mem_zip hy
    obtain ⟨k, hk, e2⟩ := List.mem_map.mp h2
    obtain ⟨z, _, rfl⟩ := List.mem_map.mp hk
    obtain ⟨y1, hy1, e1⟩ := List.mem_map.mp h1
    obtain ⟨h3, h4⟩ := List.of_mem_zip hy1
    obtain ⟨k1, hk1, e4⟩ := List.mem_map.mp h4
    obtain ⟨z1, _, rfl⟩ := List.mem_map.mp hk1
    have e3 := List.eq_of_mem_replicate h3
    have p1 : periodOf ([.times 1 2 .up 1] ++ [] ++ []) = 2 := by decide +kernel
    have p2 : periodOf ([] ++ [] ++ [.times 1 2 .neven 1]) = 4 := by decide +kernel
    have e4' : periodOf ([.times 1 2 .up 1] ++ [] ++ []) = y1.2 := e4
    have e2' : periodOf ([] ++ [] ++ [.times 1 2 .neven 1]) = y.2 := e2
    rw [p1] at e4'
    rw [p2] at e2'
    show cm y.1 y.2 ≤ 12
    rw [← e1, e3, ← e4', ← e2']
    decide +kernel
section
variable {P : Program} {w : World} {K : PySem.W.Frag} {mg : Str → Option Value} {base : Heap}
def sp_pair (K : PySem.W.Frag) : Sp := fun vs H Q _ => ∃ j, vs = [.ref j, .int 14, .int 12] ∧ pJ H j ∧ ∀ l us b c H', H' l = some (.lst us) → Paired (pPlan K H') us [b, c] → P2 b c → Jx j H H' → pJ H' j → l ≠ j → Q (.ref l) H'
theorem ok_pair (T : Tx K mg) : C8.Cal P w K mg base 6 "_law_pair" (sp_pair K) [] :=
  mk__law_pair T (fn__law_pair T (fun vs H Q E h => by obtain ⟨_, rfl, _⟩ := h; rfl) fun cdv A outer s H vs Q E hr h => ⟨_, (der__law_pair T (ok_take T) (ok_factor T) (ok_dig T) (ok_laid T) (ok_many T) hr).2, by
    obtain ⟨j, rfl, hj, k⟩ := h
    refine ⟨_, rfl, ?_⟩
    refine ⟨by rw [sizeLine_eq]; simp, fun p0 n0 => ?_⟩
    generalize hG : upd H p0 _ = H0
    obtain ⟨e0, h0⟩ := gen_new n0 hG
    clear hG
    refine ⟨by rw [sizeLine_eq]; simp, fun p1 n1 => ?_⟩
    generalize hG : upd H0 p1 _ = H1
    obtain ⟨e1, h1⟩ := gen_new n1 hG
    clear hG
    refine ⟨by rw [sizeLine_eq]; simp, fun p2 n2 => ?_⟩
    generalize hG : upd H1 p2 _ = H2
    obtain ⟨e2, h2⟩ := gen_new n2 hG
    clear hG
    refine ⟨by rw [sizeLine_eq]; simp, fun p3 n3 => ?_⟩
    generalize hG : upd H2 p3 _ = H3
    obtain ⟨e3, h3⟩ := gen_new n3 hG
    clear hG
    refine ⟨by rw [sizeLine_eq]; simp, fun p4 n4 => ?_⟩
    generalize hG : upd H3 p4 _ = H4
    obtain ⟨e4, h4⟩ := gen_new n4 hG
    clear hG
    refine ⟨by rw [sizeLine_eq]; simp, fun l nl => ?_⟩
    generalize hG : upd H4 l _ = H5
    obtain ⟨e5, h5⟩ := gen_new nl hG
    clear hG
    have g4 : Ex H4 H5 := e5
    have g3 : Ex H3 H5 := e4.tr g4
    have g2 : Ex H2 H5 := e3.tr g3
    have g1 : Ex H1 H5 := e2.tr g2
    have g0 : Ex H0 H5 := e1.tr g1
    have gg : Ex H H5 := e0.tr g0
    have nlj : l ≠ j := pJ.ne (pJ.ex (e0.tr (e1.tr (e2.tr (e3.tr e4)))) hj) nl
    have pr : Paired (pTup K pStr H5) [.ref p0, .ref p1, .ref p2, .ref p3, .ref p4] labsL := .cons ⟨p0, _, rfl, SqT.of (g0 _ _ h0), .cons rfl .nil⟩ (.cons ⟨p1, _, rfl, SqT.of (g1 _ _ h1), .cons rfl (.cons rfl .nil)⟩ (.cons ⟨p2, _, rfl, SqT.of (g2 _ _ h2), .cons rfl .nil⟩ (.cons ⟨p3, _, rfl, SqT.of (g3 _ _ h3), .cons rfl (.cons rfl .nil)⟩ (.cons ⟨p4, _, rfl, SqT.of (g4 _ _ h4), .cons rfl .nil⟩ .nil))))
    refine ⟨j, l, _, rfl, pJ.ex gg hj, nlj, h5, by simp, by simp, fun v H6 hv x6 p6 => ?_⟩
    obtain ⟨labels, hlab, plab⟩ := paired_mem pr hv
    have plab6 := MonT.up (Jx.lt x6 (pJ.ex gg hj)) plab
    have x06 : Jx j H H6 := (Ex.jx gg).tr x6
    have plab6' := plab6
    obtain ⟨pl, rfl, hpl⟩ := pStrs plab6
    have l2 := (labs_ok hlab).1.2
    clear pr nlj gg g0 g1 g2 g3 g4 h5 e5 nl e4 e3 e2 e1 e0
    refine ⟨_, rfl, by decide, by decide, for_wk (P := pInt) (wk_rng (lo := 0) (n := (6 : Int).toNat)) (fun i σ H' => Jx j H6 H' ∧ pJ H' j ∧ ∃ z4 z5 z6 z7 z8 z9 z10 z11, σ = [some (.ref j), some (.int 14), some (.int 12), some (.ref pl), z4, z5, z6, z7, z8, z9, z10, z11]) ⟨Jx.rf _ _, p6, _, _, _, _, _, _, _, _, rfl⟩ (fun _ _ _ _ _ => trivial) (fun i y u σ H7 H8 hx q e8 py => ?_) (fun σ H' q => ?_)⟩
    · obtain ⟨x7, p7, z4, z5, z6, z7, z8, z9, z10, z11, rfl⟩ := q
      cases py
      have x8 := x7.tr (Ex.jx e8)
      have p8 := pJ.ex e8 p7
      refine ⟨_, rfl, j, rfl, p8, fun fv f H9 hf pf x9 p9 => ?_⟩
      have x69 := x8.tr x9
      have hpl9 := lt_t (Jx.lt x69 p6) hpl
      refine ⟨_, rfl, pl, rfl, ⟨_, hpl9⟩, ⟨lc_map (P := pStr) (R := pFr K) (wk_tup (K := K) (p := pl) (vs := labels.map V.str) (xs := labels) (by simp)) (fun _ => f) (by omega) (fun H' e => ⟨lt_t (Ex.lt e) hpl9, str_paired _⟩) (fun i x v HA hx e pv N Z kz => ⟨rfl, _, rfl, kz _ _ (Ex.rf _) (MonT.up (Ex.lt e) pf)⟩) (fun L HA ws hL eA hlA pw => ?_)⟩⟩
      have xA := x69.tr (Ex.jx eA)
      have pA := pJ.ex eA p9
      have nLj := pJ.ne p9 hL
      have hpA := lt_t (Ex.lt eA) hpl9
      refine ⟨_, rfl, j, 3, rfl, pA, by decide, by decide, fun d HB d0 d1 xB pB => ?_⟩
      refine ⟨rfl, _, rfl, ite2 (fun hc => ?_) fun hc => ?_⟩
      · have hpB := lt_t (Jx.lt xB pA) hpA
        refine ⟨_, rfl, pl, rfl, ⟨_, hpB⟩, ⟨lc_jx (P := pStr) (R := pFr K) (wk_tup (K := K) (p := pl) (vs := labels.map V.str) (xs := labels) (by simp)) pB (fun f => f ∈ facs) (by omega) (fun H' e p => ⟨lt_t (Jx.lt e pB) hpB, str_paired _⟩) (fun i x v HC hx e pc pv Z kz => ⟨rfl, _, rfl, j, rfl, pc, fun w f HD hf pw xD pD => kz _ _ _ hf xD pD pw⟩) (fun L2 HC ws2 fs2 hL2 xC pC hl2 pw2 hn2 cc2 => ?_)⟩⟩
        have nL2 : L2 ≠ j := pJ.ne pB hL2
        have xC6 := (xA.tr xB).tr xC
        have labZ : LabOk labels fs2 := lab_of hlab hn2 cc2
        have hplZ1 := lt_t (Jx.lt xC pB) hpB
        refine ⟨_, rfl, _, rfl, _, rfl, _, rfl, j, 3, rfl, pC, by decide, by decide, fun d1 HE dd0 dd1 xE pE => ?_⟩
        have l1 := Jx.lt xE pC
        have plabE : pTup K pStr HE (.ref pl) labels := ⟨pl, _, rfl, lt_t l1 hplZ1, str_paired _⟩
        refine ⟨j, _, L2, ws2, d1, labels, fs2, rfl, pE, plabE, xE _ _ nL2 hl2, nL2, paired_upT l1 pw2, labZ, fun v1 b1 HF ob1 pb1 xF pF => ?_⟩
        have l2' := Jx.lt xF pE
        refine ⟨_, rfl, _, rfl, _, rfl, _, rfl, j, 3, rfl, pF, by decide, by decide, fun d2 HG ee0 ee1 xG pG => ?_⟩
        have l3 := Jx.lt xG pF
        have plabG : pTup K pStr HG (.ref pl) labels := MonT.up (l2'.trans l3) plabE
        refine ⟨j, _, L2, ws2, d2, labels, fs2, rfl, pG, plabG, xG _ _ nL2 (xF _ _ nL2 (xE _ _ nL2 hl2)), nL2, paired_upT (l1.trans (l2'.trans l3)) pw2, labZ, fun v2 b2 HI ob2 pb2 xI pI => ?_⟩
        have l4 := Jx.lt xI pG
        refine ⟨by rw [sizeLine_eq]; simp, fun lp nlp => ?_⟩
        generalize hGG : upd HI lp _ = HJ
        obtain ⟨eJ, hJ⟩ := gen_new nlp hGG
        have nlpj := pJ.ne pI nlp
        have pJJ := pJ.ex eJ pI
        have xAll : Jx j H HJ := ((((x06.tr xC6).tr xE).tr (xF.tr xG)).tr xI).tr (Ex.jx eJ)
        have xAll6 : Jx j H6 HJ := (((xC6.tr xE).tr (xF.tr xG)).tr xI).tr (Ex.jx eJ)
        have prs : Paired (pPlan K HJ) [v1, v2] [b1, b2] := .cons (MonT.up ((l3.trans l4).trans (Ex.lt eJ)) pb1) (.cons (MonT.up (Ex.lt eJ) pb2) .nil)
        have kl : ∀ b : Bk, PlanOf labels fs2 b → b.kinds.length = labels.length := fun b ob => by rw [← ob.nm]; simp [Bk.names]
        refine ⟨_, rfl, lp, _, [b1, b2], labels.length, rfl, hJ, prs, by simp, fun b hb => ?_, by omega, fun p9' l9' HM eM htM hlM => ?_⟩
        · rcases List.mem_cons.mp hb with rfl | hb
          · exact ⟨ob1.ok, kl _ ob1⟩
          · rw [List.mem_singleton.mp hb]; exact ⟨ob2.ok, kl _ ob2⟩
        · have la : ∀ b : Bk, PlanOf labels fs2 b → (b.kinds.map b.period).length = labels.length := fun b ob => by rw [List.length_map]; exact kl b ob
          have hal : 0 < (amtsP [b1, b2] labels.length).length := by
            have e : amtsP [b1, b2] labels.length = am1 (am1 (List.replicate labels.length 1) b1) b2 := rfl
            have l1' := labZ.l1
            rw [e]
            unfold am1
            rw [List.length_map, List.length_zip, List.length_map, List.length_zip, la _ ob1, la _ ob2, List.length_replicate]
            omega
          have hane : amtsP [b1, b2] labels.length ≠ [] := by intro e; rw [e] at hal; cases hal
          dsimp only [tNext, tSeq, tIfS]
          refine and_go (decide (statesP [b1, b2] ≤ 14)) (decide (mx (amtsP [b1, b2] labels.length) ≤ 12)) (fun G g => ⟨_, rfl, p9', _, 0, _, rfl, rfl, htM, rfl, _, rfl, _, _, rfl, rfl, _, rfl, g⟩) (fun _ G g => ⟨_, rfl, p9', _, 1, _, rfl, rfl, htM, rfl, l9', _, rfl, SqL.of hlM, hal, fun m hm hx' => ⟨_, rfl, _, _, rfl, rfl, _, rfl, by rw [mx_uniq hm hx']; exact g⟩⟩) (ite2 (fun cc => ?_) fun cc => ?_)
          · rw [Bool.and_eq_true] at cc
            have c1 := of_decide_eq_true cc.1
            have c2 := of_decide_eq_true cc.2
            refine ⟨_, rfl, k lp [v1, v2] b1 b2 HM (eM _ _ hJ) (paired_upT (Ex.lt eM) prs) ⟨⟨labels, _, labZ, ob1, ob2, fun x hx => Int.le_trans ((mx_mem hane).2 x hx) c2⟩, c1⟩ (xAll.tr (Ex.jx eM)) (pJ.ex eM pJJ) nlpj⟩
          · exact ⟨xAll6.tr (Ex.jx eM), pJ.ex eM pJJ, _, _, _, _, _, _, _, _, rfl⟩
      · have hpB := lt_t (Jx.lt xB pA) hpA
        have xB6 := xA.tr xB
        have pw' := paired_upT (Jx.lt xB pA) pw
        have labZ : LabOk labels (labels.map fun _ => f) := lab_of hlab (by simp) (fun g hg => by obtain ⟨_, _, rfl⟩ := List.mem_map.mp hg; exact hf)
        have hplZ1 := hpB
        refine ⟨_, rfl, _, rfl, _, rfl, _, rfl, j, 3, rfl, pB, by decide, by decide, fun d1 HE dd0 dd1 xE pE => ?_⟩
        have l1 := Jx.lt xE pB
        have plabE : pTup K pStr HE (.ref pl) labels := ⟨pl, _, rfl, lt_t l1 hplZ1, str_paired _⟩
        refine ⟨j, _, L, ws, d1, labels, (labels.map fun _ => f), rfl, pE, plabE, xE _ _ nLj (xB _ _ nLj hlA), nLj, paired_upT l1 pw', labZ, fun v1 b1 HF ob1 pb1 xF pF => ?_⟩
        have l2' := Jx.lt xF pE
        refine ⟨_, rfl, _, rfl, _, rfl, _, rfl, j, 3, rfl, pF, by decide, by decide, fun d2 HG ee0 ee1 xG pG => ?_⟩
        have l3 := Jx.lt xG pF
        have plabG : pTup K pStr HG (.ref pl) labels := MonT.up (l2'.trans l3) plabE
        refine ⟨j, _, L, ws, d2, labels, (labels.map fun _ => f), rfl, pG, plabG, xG _ _ nLj (xF _ _ nLj (xE _ _ nLj (xB _ _ nLj hlA))), nLj, paired_upT (l1.trans (l2'.trans l3)) pw', labZ, fun v2 b2 HI ob2 pb2 xI pI => ?_⟩
        have l4 := Jx.lt xI pG
        refine ⟨by rw [sizeLine_eq]; simp, fun lp nlp => ?_⟩
        generalize hGG : upd HI lp _ = HJ
        obtain ⟨eJ, hJ⟩ := gen_new nlp hGG
        have nlpj := pJ.ne pI nlp
        have pJJ := pJ.ex eJ pI
        have xAll : Jx j H HJ := ((((x06.tr xB6).tr xE).tr (xF.tr xG)).tr xI).tr (Ex.jx eJ)
        have xAll6 : Jx j H6 HJ := (((xB6.tr xE).tr (xF.tr xG)).tr xI).tr (Ex.jx eJ)
        have prs : Paired (pPlan K HJ) [v1, v2] [b1, b2] := .cons (MonT.up ((l3.trans l4).trans (Ex.lt eJ)) pb1) (.cons (MonT.up (Ex.lt eJ) pb2) .nil)
        have kl : ∀ b : Bk, PlanOf labels (labels.map fun _ => f) b → b.kinds.length = labels.length := fun b ob => by rw [← ob.nm]; simp [Bk.names]
        refine ⟨_, rfl, lp, _, [b1, b2], labels.length, rfl, hJ, prs, by simp, fun b hb => ?_, by omega, fun p9' l9' HM eM htM hlM => ?_⟩
        · rcases List.mem_cons.mp hb with rfl | hb
          · exact ⟨ob1.ok, kl _ ob1⟩
          · rw [List.mem_singleton.mp hb]; exact ⟨ob2.ok, kl _ ob2⟩
        · have la : ∀ b : Bk, PlanOf labels (labels.map fun _ => f) b → (b.kinds.map b.period).length = labels.length := fun b ob => by rw [List.length_map]; exact kl b ob
          have hal : 0 < (amtsP [b1, b2] labels.length).length := by
            have e : amtsP [b1, b2] labels.length = am1 (am1 (List.replicate labels.length 1) b1) b2 := rfl
            have l1' := labZ.l1
            rw [e]
            unfold am1
            rw [List.length_map, List.length_zip, List.length_map, List.length_zip, la _ ob1, la _ ob2, List.length_replicate]
            omega
          have hane : amtsP [b1, b2] labels.length ≠ [] := by intro e; rw [e] at hal; cases hal
          dsimp only [tNext, tSeq, tIfS]
          refine and_go (decide (statesP [b1, b2] ≤ 14)) (decide (mx (amtsP [b1, b2] labels.length) ≤ 12)) (fun G g => ⟨_, rfl, p9', _, 0, _, rfl, rfl, htM, rfl, _, rfl, _, _, rfl, rfl, _, rfl, g⟩) (fun _ G g => ⟨_, rfl, p9', _, 1, _, rfl, rfl, htM, rfl, l9', _, rfl, SqL.of hlM, hal, fun m hm hx' => ⟨_, rfl, _, _, rfl, rfl, _, rfl, by rw [mx_uniq hm hx']; exact g⟩⟩) (ite2 (fun cc => ?_) fun cc => ?_)
          · rw [Bool.and_eq_true] at cc
            have c1 := of_decide_eq_true cc.1
            have c2 := of_decide_eq_true cc.2
            refine ⟨_, rfl, k lp [v1, v2] b1 b2 HM (eM _ _ hJ) (paired_upT (Ex.lt eM) prs) ⟨⟨labels, _, labZ, ob1, ob2, fun x hx => Int.le_trans ((mx_mem hane).2 x hx) c2⟩, c1⟩ (xAll.tr (Ex.jx eM)) (pJ.ex eM pJJ) nlpj⟩
          · exact ⟨xAll6.tr (Ex.jx eM), pJ.ex eM pJJ, _, _, _, _, _, _, _, _, rfl⟩
    · obtain ⟨x7, p7, z4, z5, z6, z7, z8, z9, z10, z11, rfl⟩ := q
      have hpl7 := lt_t (Jx.lt x7 p6) hpl
      refine ⟨_, rfl, pl, rfl, ⟨_, hpl7⟩, ⟨lc_map (P := pStr) (R := pKnd K) (wk_tup (K := K) (p := pl) (vs := labels.map V.str) (xs := labels) (by simp)) (fun z => ⟨z, 0, [.times 1 2 .up 1]⟩) (by omega) (fun H' e => ⟨lt_t (Ex.lt e) hpl7, str_paired _⟩) (fun i x v HA hx e pv N Z kz => ?_) (fun L HA ws hL eA hlA pw => ?_)⟩⟩
      · cases pv
        refine ⟨rfl, _, rfl, by rw [sizeLine_eq]; simp, fun t1 nt1 => ?_⟩
        generalize hGt1 : upd HA t1 _ = Ht1
        obtain ⟨et1, ht1⟩ := gen_new nt1 hGt1
        refine ⟨by rw [sizeLine_eq]; simp, fun t2 nt2 => ?_⟩
        generalize hGt2 : upd Ht1 t2 _ = Ht2
        obtain ⟨et2, ht2⟩ := gen_new nt2 hGt2
        refine ⟨by rw [sizeLine_eq]; simp, fun t3 nt3 => ?_⟩
        generalize hGt3 : upd Ht2 t3 _ = Ht3
        obtain ⟨et3, ht3⟩ := gen_new nt3 hGt3
        exact kz _ _ (et1.tr (et2.tr et3)) ⟨t3, _, rfl, SqT.of ht3, t2, _, rfl, SqT.of (et3 _ _ ht2), .cons ⟨t1, rfl, SqT.of ((et2.tr et3) _ _ ht1)⟩ .nil⟩
      · refine ⟨L, ws, rfl, .inl ⟨SqL.of hlA, fun t nt => ?_⟩⟩
        generalize hG1 : upd HA t _ = HB
        obtain ⟨eB, hB⟩ := gen_new nt hG1
        have pB := pJ.ex (eA.tr eB) p7
        have hplB := lt_t (Ex.lt (eA.tr eB)) hpl7
        refine ⟨_, rfl, pl, rfl, ⟨_, hplB⟩, ⟨lc_map (P := pStr) (R := pKnd K) (wk_tup (K := K) (p := pl) (vs := labels.map V.str) (xs := labels) (by simp)) (fun z => ⟨z, 0, []⟩) (by omega) (fun H' e => ⟨lt_t (Ex.lt e) hplB, str_paired _⟩) (fun i x v HA hx e pv N Z kz => ?_) (fun L2 HC ws2 hL2 eC hlC pw2 => ?_)⟩⟩
        · cases pv
          refine ⟨rfl, _, rfl, by rw [sizeLine_eq]; simp, fun t2 nt2 => ?_⟩
          generalize hGt2 : upd HA t2 _ = Ht2
          obtain ⟨et2, ht2⟩ := gen_new nt2 hGt2
          refine ⟨by rw [sizeLine_eq]; simp, fun t3 nt3 => ?_⟩
          generalize hGt3 : upd Ht2 t3 _ = Ht3
          obtain ⟨et3, ht3⟩ := gen_new nt3 hGt3
          exact kz _ _ (et2.tr et3) ⟨t3, _, rfl, SqT.of ht3, t2, _, rfl, SqT.of (et3 _ _ ht2), .nil⟩
        · refine ⟨L2, ws2, rfl, .inl ⟨SqL.of hlC, fun u nu => ?_⟩⟩
          generalize hG2 : upd HC u _ = HD
          obtain ⟨eD, hD⟩ := gen_new nu hG2
          refine ⟨_, rfl, by rw [sizeLine_eq]; simp, fun a1 na1 => ?_⟩
          generalize hGa1 : upd HD a1 _ = Ha1
          obtain ⟨ea1, ha1⟩ := gen_new na1 hGa1
          refine ⟨by rw [sizeLine_eq]; simp, fun a2 na2 => ?_⟩
          generalize hGa2 : upd Ha1 a2 _ = Ha2
          obtain ⟨ea2, ha2⟩ := gen_new na2 hGa2
          refine ⟨by rw [sizeLine_eq]; simp, fun a3 na3 => ?_⟩
          generalize hGa3 : upd Ha2 a3 _ = Ha3
          obtain ⟨ea3, ha3⟩ := gen_new na3 hGa3
          refine ⟨by rw [sizeLine_eq]; simp, fun q1 nq1 => ?_⟩
          generalize hGq1 : upd Ha3 q1 _ = Hq1
          obtain ⟨eq1, hq1⟩ := gen_new nq1 hGq1
          refine ⟨_, rfl, by rw [sizeLine_eq]; simp, fun a4 na4 => ?_⟩
          generalize hGa4 : upd Hq1 a4 _ = Ha4
          obtain ⟨ea4, ha4⟩ := gen_new na4 hGa4
          refine ⟨by rw [sizeLine_eq]; simp, fun a5 na5 => ?_⟩
          generalize hGa5 : upd Ha4 a5 _ = Ha5
          obtain ⟨ea5, ha5⟩ := gen_new na5 hGa5
          refine ⟨by rw [sizeLine_eq]; simp, fun a6 na6 => ?_⟩
          generalize hGa6 : upd Ha5 a6 _ = Ha6
          obtain ⟨ea6, ha6⟩ := gen_new na6 hGa6
          refine ⟨by rw [sizeLine_eq]; simp, fun a7 na7 => ?_⟩
          generalize hGa7 : upd Ha6 a7 _ = Ha7
          obtain ⟨ea7, ha7⟩ := gen_new na7 hGa7
          refine ⟨by rw [sizeLine_eq]; simp, fun q2 nq2 => ?_⟩
          generalize hGq2 : upd Ha7 q2 _ = Hq2
          obtain ⟨eq2, hq2⟩ := gen_new nq2 hGq2
          refine ⟨by rw [sizeLine_eq]; simp, fun l0 nl0 => ?_⟩
          generalize hGl0 : upd Hq2 l0 _ = Hl0
          obtain ⟨el0, hl0⟩ := gen_new nl0 hGl0
          have gl0 : Ex Hl0 Hl0 := Ex.rf _
          have gq2 : Ex Hq2 Hl0 := el0.tr gl0
          have ga7 : Ex Ha7 Hl0 := eq2.tr gq2
          have ga6 : Ex Ha6 Hl0 := ea7.tr ga7
          have ga5 : Ex Ha5 Hl0 := ea6.tr ga6
          have ga4 : Ex Ha4 Hl0 := ea5.tr ga5
          have gq1 : Ex Hq1 Hl0 := ea4.tr ga4
          have ga3 : Ex Ha3 Hl0 := eq1.tr gq1
          have ga2 : Ex Ha2 Hl0 := ea3.tr ga3
          have ga1 : Ex Ha1 Hl0 := ea2.tr ga2
          have gD : Ex HD Hl0 := ea1.tr ga1
          have gC : Ex HC Hl0 := eD.tr gD
          have gB : Ex HB Hl0 := eC.tr gC
          have gA : Ex HA Hl0 := eB.tr gB
          have g7 : Ex H' Hl0 := eA.tr gA
          have nl0j : l0 ≠ j := pJ.ne (pJ.ex (eA.tr (eB.tr (eC.tr (eD.tr (ea1.tr (ea2.tr (ea3.tr (eq1.tr (ea4.tr (ea5.tr (ea6.tr (ea7.tr eq2)))))))))))) p7) nl0
          have k1 : pTup K (pKnd K) Hl0 (.ref t) (fbK labels) := ⟨t, _, rfl, SqT.of (gB _ _ hB), paired_upT (Ex.lt gA) pw⟩
          have k2 : pTup K (pKnd K) Hl0 (.ref u) (fbB labels) := ⟨u, _, rfl, SqT.of (gD _ _ hD), paired_upT (Ex.lt gC) pw2⟩
          have m1 : pPlan K Hl0 (.ref q1) ⟨fbK labels, [[]], []⟩ := ⟨q1, _, _, _, rfl, SqT.of (gq1 _ _ hq1), k1, ⟨a2, _, rfl, SqT.of (ga2 _ _ ha2), .cons ⟨a1, _, rfl, SqT.of (ga1 _ _ ha1), .nil⟩ .nil⟩, ⟨a3, _, rfl, SqT.of (ga3 _ _ ha3), .nil⟩⟩
          have m2 : pPlan K Hl0 (.ref q2) ⟨fbB labels, [[]], [.times 1 2 .neven 1]⟩ := ⟨q2, _, _, _, rfl, SqT.of (gq2 _ _ hq2), k2, ⟨a5, _, rfl, SqT.of (ga5 _ _ ha5), .cons ⟨a4, _, rfl, SqT.of (ga4 _ _ ha4), .nil⟩ .nil⟩, ⟨a7, _, rfl, SqT.of (ga7 _ _ ha7), .cons ⟨a6, rfl, SqT.of (ga6 _ _ ha6)⟩ .nil⟩⟩
          exact k l0 _ _ _ Hl0 hl0 (.cons m1 (.cons m2 .nil)) (fall_ok hlab) ((x06.tr x7).tr (Ex.jx g7)) (pJ.ex g7 p7) nl0j⟩)
end
end Lf

set_option Elab.async false
set_option linter.all false
set_option maxRecDepth 100000
set_option maxHeartbeats 4000000
namespace Lf
open PySem PySem.Spec PyProof.Rows L2 Lc Lr Lm
def thirdOf (b c : Bk) : Bk := if c.whole.length < 2 then ⟨c.kinds, c.groups, c.whole ++ [.plus 3]⟩ else b
/-- what the law needs of a drawn pair -/
structure RightOk (b c : Bk) : Prop where
  okt : c.whole.length < 2 → BkOk ⟨c.kinds, c.groups, c.whole ++ [.plus 3]⟩
  pbc : PairOk b c
  pcb : PairOk c b
  pbb : PairOk b b
  pcc : PairOk c c
  pct : PairOk c (thirdOf b c)
  pbt : PairOk b (thirdOf b c)
  ubc : ∀ x y, Told b c x → Told b c y → ∀ k, x.tell k = y.tell k
  ucb : ∀ x y, Told c b x → Told c b y → ∀ k, x.tell k = y.tell k
  zb : ∀ x, Told b b x → x = ⟨[], [0], 0⟩
  zc : ∀ x, Told c c x → x = ⟨[], [0], 0⟩
  sum : ∀ x y, Told b c x → Told c b y → ∀ k, 0 ≤ x.tell k + y.tell k
  tri : ∀ x y z, Told b (thirdOf b c) z → Told b c x → Told c (thirdOf b c) y → ∀ k, z.tell k ≤ x.tell k + y.tell k
theorem tell_0 (k : Nat) : (⟨[], [0], 0⟩ : Rw).tell k = 0 := by
  have : k % 1 = 0 := Nat.mod_one k
  simp [Rw.tell, tell, this]
theorem if_go {t : TT} {a b : TE} {σ : L2.St} {H : Hp} {F : V → Hp → Prop} (R : V → Hp → Prop) (c : Bool) (h1 : ∀ G : Bool → Hp → Prop, G c H → t σ H G) (ha : c = true → ∀ G : V → Hp → Prop, (∀ v H2, Ex H H2 → R v H2 → G v H2) → a σ H G) (hb : c = false → ∀ G : V → Hp → Prop, (∀ v H2, Ex H H2 → R v H2 → G v H2) → b σ H G) (h : ∀ v H2, Ex H H2 → R v H2 → F v H2) : tIf t a b σ H F := by
  refine h1 _ ?_
  cases c with
  | true => exact ha rfl _ h
  | false => exact hb rfl _ h
theorem row_ins {K : PySem.W.Frag} {H : Hp} {v : V} {x : Rw} (h : pRw K H v x) : ∃ a dx fs, v = .ref a ∧ H a = some (.ins (He.ga K "Row") dx fs) ∧ fs.lookup ("at" : Str) = none := by
  obtain ⟨a, dx, h, c, rfl, ha, _, _⟩ := h
  exact ⟨a, dx, _, rfl, ha, rfl⟩
theorem ite_b {c : Bool} {P R : Prop} (h : c = false) (q : R) : if c = true then P else R := by rw [h]; exact q
theorem rgV_rng (n : Nat) : rgV 0 (n : Int) = (rng 0 n).map V.int := by unfold rgV rng; rw [List.map_map]; rfl
theorem ne_int {x y : Int} (h : x = y) : (!decide (V.int x = V.int y)) = false := by rw [h]; simp
section
variable {P : Program} {w : World} {K : PySem.W.Frag} {mg : Str → Option Value} {base : Heap}
theorem row0 {σ : L2.St} {H : Hp} {Q : VK} (k : ∀ v H', Ex H H' → pRw K H' v ⟨[], [0], 0⟩ → Q v H') : tMake (He.ga K "Row") (sp_Row_init K) [] C8.E0 (tCons (tTup tNil) (tCons (tTup (tCons (tC (.int 0)) tNil)) (tCons (tC (.int 0)) tNil))) σ H Q := by
  refine ⟨by rw [sizeLine_eq]; simp, fun n1 nn1 => ?_⟩
  generalize hGn1 : upd H n1 _ = HM
  obtain ⟨eM, hM⟩ := gen_new nn1 hGn1
  refine ⟨by rw [sizeLine_eq]; simp, fun n2 nn2 => ?_⟩
  generalize hGn2 : upd HM n2 _ = HN
  obtain ⟨eN, hN⟩ := gen_new nn2 hGn2
  exact fun x dx n nd ne => row_made (Q := Q) (E := C8.E0) (es := []) (as := [0]) (r := 0) ⟨n1, _, rfl, SqT.of (eN _ _ hM), .nil⟩ ⟨n2, _, rfl, SqT.of hN, .cons rfl .nil⟩ (by simp) (by simp) (by simp) (by decide) (by decide) (fun w0 HO r0 eO pr0 okr0 _ zr0 => k _ _ (eM.tr (eN.tr eO)) (by rw [← zr0 (by simp) (by simp) rfl]; exact pr0)) x dx n nd ne
def sp_right (K : PySem.W.Frag) : Sp := fun vs H Q _ => ∃ j, vs = [.ref j] ∧ pJ H j ∧ (∀ b c, P2 b c → RightOk b c) ∧ ∀ H', Jx j H H' → Q (.bl true) H'
theorem ok_right (T : Tx K mg) : C8.Cal P w K mg base 11 "_law_right" (sp_right K) [] :=
  mk__law_right T (fn__law_right T (fun vs H Q E h => by obtain ⟨_, rfl, _⟩ := h; rfl) fun cdv A outer s H vs Q E hr h => ⟨_, (der__law_right T (ok_pair T) (ok_books T) (ok_Book_init T) (ok_greatest T) (ok_least T) (ok_Row_at T) (ok_Row_init T) (ok_Row_eq T) (ok_parting T) hr).2, by
    obtain ⟨j, rfl, hj, law, k⟩ := h
    refine ⟨_, rfl, j, rfl, hj, fun l us b c H1 hl prs p2 x1 j1 nlj => ?_⟩
    obtain ⟨okt, pbc, pcb, pbb, pcc, pct, pbt, ubc, ucb, zb, zc, sum, tri⟩ := law b c p2
    refine ⟨_, rfl, l, us, [b, c], rfl, hl, prs, by simp, fun x hx => ?_, fun m ws H2 e2 hm pws => ?_⟩
    · rcases List.mem_cons.mp hx with rfl | hx
      · exact pbc.okb
      · rw [List.mem_singleton.mp hx]; exact pbc.okc
    cases pws with
    | cons pv1 pw1 =>
    rename_i v1 ws1
    cases pw1 with
    | cons pv2 pw2 =>
    rename_i v2 ws2
    cases pw2
    have prs2 := paired_upT (Ex.lt e2) prs
    have hl2 := e2 _ _ hl
    obtain ⟨u2, hu2, pp⟩ := paired_at' prs2 (show [b, c][1]? = some c from rfl)
    obtain ⟨p, ks, gs, lv, rfl, hp, pk, pg, pl⟩ := pp
    have pl' := pl
    obtain ⟨pq, lws, rfl, hpq, plw⟩ := pl'
    have lwl := paired_len plw
    refine ⟨m, _, rfl, SqL.of hm, rfl, ?_⟩
    refine ⟨_, _, rfl, _, _, rfl, rfl, ?_⟩
    dsimp only [tNext, tSeq, tAsg]
    refine if_go (fun v H' => pBk K H' v (thirdOf b c)) (decide ((lws.length : Int) < 2)) (fun G g => ⟨_, rfl, l, us, 1, _, rfl, rfl, SqL.of hl2, atI_nat' hu2 rfl, p, _, 2, _, rfl, rfl, hp, rfl, pq, _, rfl, .inr hpq, _, _, rfl, rfl, _, rfl, g⟩) (fun hc G g => ?_) (fun hc G g => ?_) (fun v3 H3 e3 pv3 => ?_)
    · have hc2 : c.whole.length < 2 := by have := of_decide_eq_true hc; omega
      refine ⟨_, rfl, l, us, 1, _, rfl, rfl, SqL.of hl2, atI_nat' hu2 rfl, p, _, 0, _, rfl, rfl, hp, rfl, ?_⟩
      refine ⟨_, rfl, l, us, 1, _, rfl, rfl, SqL.of hl2, atI_nat' hu2 rfl, p, _, 1, _, rfl, rfl, hp, rfl, ?_⟩
      refine ⟨_, rfl, l, us, 1, _, rfl, rfl, SqL.of hl2, atI_nat' hu2 rfl, p, _, 2, _, rfl, rfl, hp, rfl, ?_⟩
      refine ⟨by rw [sizeLine_eq]; simp, fun t1 nt1 => ?_⟩
      generalize hG1 : upd H2 t1 _ = H3
      obtain ⟨e3, h3⟩ := gen_new nt1 hG1
      refine ⟨by rw [sizeLine_eq]; simp, fun t2 nt2 => ?_⟩
      generalize hG2 : upd H3 t2 _ = H4
      obtain ⟨e4, h4⟩ := gen_new nt2 hG2
      have e34 := e3.tr e4
      refine cat_row (t := [.plus 3]) (MonT.up (Ex.lt e34) pl) ⟨t2, _, rfl, SqT.of h4, .cons ⟨t1, rfl, SqT.of (e4 _ _ h3)⟩ .nil⟩ (by simp; omega) fun wv H5 e5 pw => ?_
      have e35 := e34.tr e5
      refine book_made (b := ⟨c.kinds, c.groups, c.whole ++ [.plus 3]⟩) (MonT.up (Ex.lt e35) pk) (MonT.up (Ex.lt e35) pg) pw (okt hc2) fun v H6 e6 pv => g _ _ (e35.tr e6) ?_
      unfold thirdOf
      rw [if_pos hc2]
      exact pv
    · have : ¬ c.whole.length < 2 := by have := of_decide_eq_false hc; omega
      refine ⟨_, rfl, g _ _ (Ex.rf _) ?_⟩
      show pBk K H2 v1 (thirdOf b c)
      unfold thirdOf
      rw [if_neg this]
      exact pv1
    · have a1 := MonT.up (Ex.lt e3) pv1
      have a2 := MonT.up (Ex.lt e3) pv2
      refine ⟨_, rfl, _, rfl, v1, b, v2, c, rfl, a1, a2, pbc, fun vh HA rh eA ph okh toldh => ?_⟩
      have b1 := MonT.up (Ex.lt eA) a1
      have b2 := MonT.up (Ex.lt eA) a2
      refine ⟨_, rfl, _, rfl, v1, b, v2, c, rfl, b1, b2, pcb, fun vl HB rl xl eB pl okl toldl tll _ => ?_⟩
      refine ⟨by rw [sizeLine_eq]; simp, fun q nq => ?_⟩
      generalize hGq : upd HB q _ = HC
      obtain ⟨eC, hC⟩ := gen_new nq hGq
      refine ⟨q, _, rfl, SqT.of hC, rfl, ?_⟩
      refine ⟨_, _, rfl, _, _, rfl, rfl, ?_⟩
      have c1 := MonT.up (Ex.lt (eB.tr eC)) b1
      have c2 := MonT.up (Ex.lt (eB.tr eC)) b2
      refine ⟨_, rfl, _, rfl, v2, c, v1, b, rfl, c2, c1, pcb, fun vg HD rg eD pg okg toldg => ?_⟩
      have d1 := MonT.up (Ex.lt eD) c1
      have d2 := MonT.up (Ex.lt eD) c2
      refine ⟨_, rfl, _, rfl, v2, c, v1, b, rfl, d2, d1, pbc, fun vm HE rm xm eE pm okm toldm tlm _ => ?_⟩
      refine ⟨by rw [sizeLine_eq]; simp, fun r nr => ?_⟩
      generalize hGr : upd HE r _ = HF
      obtain ⟨eF, hF⟩ := gen_new nr hGr
      have f1 := MonT.up (Ex.lt (eE.tr eF)) d1
      have f2 := MonT.up (Ex.lt (eE.tr eF)) d2
      refine ⟨_, rfl, RgOk.of_le (by decide) (by decide) (by decide) (by decide), fun l1 nl1 => ?_⟩
      generalize hGl : upd HF l1 _ = HG
      obtain ⟨eG, hG⟩ := gen_new nl1 hGl
      refine ⟨_, rfl, by decide, by decide, ⟨lc_map (P := pInt) (R := pInt) (wk_rng (lo := 0) (n := (6 : Int).toNat)) (fun k => (10 : Int) ^ 24 + k) (by decide) (fun _ _ => trivial) (fun i x v HH hx e pv N Z kz => ?_) (fun l2 HI ws2 hl2 eI hlI pw2 => ?_)⟩⟩
      · cases pv
        exact ⟨rfl, _, _, rfl, rfl, ⟨by decide, by decide, by decide⟩, _, rfl, _, _, rfl, rfl, kz _ _ (Ex.rf _) rfl⟩
      rw [paired_int pw2] at hlI
      have hl1 : HI l1 = some (.lst ((rng 0 40).map V.int)) := by rw [← rgV_rng]; exact eI _ _ hG
      refine ⟨l1, l2, _, _, rfl, rfl, hl1, hlI, by rw [sizeLine_eq]; simp [rng], fun l3 nl3 => ?_⟩
      rw [← List.map_append]
      have hns : ∀ kk ∈ rng 0 40 ++ (rng 0 (6 : Int).toNat).map (fun k => (10 : Int) ^ 24 + k), 0 ≤ kk := by decide +kernel
      have hnl : (rng 0 40 ++ (rng 0 (6 : Int).toNat).map (fun k => (10 : Int) ^ 24 + k)).length ≤ 100 := by decide +kernel
      generalize rng 0 40 ++ (rng 0 (6 : Int).toNat).map (fun k => (10 : Int) ^ 24 + k) = ns at hns hnl ⊢
      generalize hGl3 : upd HI l3 _ = HJ
      obtain ⟨eJ, hJ⟩ := gen_new nl3 hGl3
      have eFJ := (eG.tr eI).tr eJ
      refine ⟨l3, rfl, ⟨_, SqL.of hJ⟩, for_wk (P := pInt) (wk_lst (K := K) (p := l3) (vs := ns.map V.int) (xs := ns) (by simp)) (fun i σ H' => Ex HJ H' ∧ ∃ z8 z9 z10, σ = [some (.ref j), some (.ref l), some v1, some v2, some v3, some vh, some vl, some (.ref r), z8, z9, z10]) ⟨Ex.rf _, _, _, _, rfl⟩ (fun i σ H' _ q => ⟨SqL.of (q.1 _ _ hJ), int_paired _⟩) (fun i y u σ HK HL hx q eL py => ?_) (fun σ HK q => ?_)⟩
      · obtain ⟨eK, z8, z9, z10, rfl⟩ := q
        cases py
        have y0 := hns y (List.mem_of_getElem? hx)
        have eKL := eFJ.tr (eK.tr eL)
        have pgL := MonT.up (Ex.lt ((eE.tr eF).tr eKL)) pg
        have pmL := MonT.up (Ex.lt (eF.tr eKL)) pm
        have plL := MonT.up (Ex.lt ((((eC.tr eD).tr eE).tr eF).tr eKL)) pl
        have phL := MonT.up (Ex.lt (((((eB.tr eC).tr eD).tr eE).tr eF).tr eKL)) ph
        obtain ⟨ag, dg, fg, rfl, hag, kg⟩ := row_ins pgL
        obtain ⟨am, dm, fm, rfl, ham, km⟩ := row_ins pmL
        obtain ⟨al, dl, fl, rfl, hal, kl⟩ := row_ins plL
        obtain ⟨ah, dh, fh, rfl, hah, kh⟩ := row_ins phL
        have hrL := eKL _ _ hF
        have t1 : rg.tell y.toNat = -rl.tell y.toNat := by rw [tll, ucb rg xl toldg toldl]; omega
        have t2 : rm.tell y.toNat = -rh.tell y.toNat := by rw [tlm, ubc rh xm toldh toldm]
        have t3 : ¬ rh.tell y.toNat < rl.tell y.toNat := by have := sum rh xl toldh toldl y.toNat; rw [tll]; omega
        dsimp only [tIfS]
        refine ⟨_, rfl, r, _, 0, _, rfl, rfl, SqL.of hrL, rfl, ag, dg, fg, rfl, hag, kg, _, rfl, _, rg, y, rfl, pgL, okg, y0, fun w HM eM pw => ?_⟩
        cases pw
        have plM := MonT.up (Ex.lt eM) plL
        refine ⟨_, rfl, al, dl, fl, rfl, eM _ _ hal, kl, _, rfl, _, rl, y, rfl, plM, okl, y0, fun w HN eN pw => ?_⟩
        cases pw
        refine ⟨_, rfl, rfl, _, rfl, ite_b (ne_int t1) ?_⟩
        have eMN := eM.tr eN
        refine ⟨_, rfl, r, _, 1, _, rfl, rfl, SqL.of (eMN _ _ hrL), rfl, am, dm, fm, rfl, eMN _ _ ham, km, _, rfl, _, rm, y, rfl, MonT.up (Ex.lt eMN) pmL, okm, y0, fun w HO eO pw => ?_⟩
        cases pw
        have eMO := eMN.tr eO
        refine ⟨_, rfl, ah, dh, fh, rfl, eMO _ _ hah, kh, _, rfl, _, rh, y, rfl, MonT.up (Ex.lt eMO) phL, okh, y0, fun w HP eP pw => ?_⟩
        cases pw
        refine ⟨_, rfl, rfl, _, rfl, ite_b (ne_int t2) ?_⟩
        have eMP := eMO.tr eP
        refine ⟨_, rfl, al, dl, fl, rfl, eMP _ _ hal, kl, _, rfl, _, rl, y, rfl, MonT.up (Ex.lt eMP) plL, okl, y0, fun w HR eR pw => ?_⟩
        cases pw
        have eMR := eMP.tr eR
        refine ⟨_, rfl, ah, dh, fh, rfl, eMR _ _ hah, kh, _, rfl, _, rh, y, rfl, MonT.up (Ex.lt eMR) phL, okh, y0, fun w HS eS pw => ?_⟩
        cases pw
        refine ⟨_, _, rfl, rfl, _, rfl, ite_b (decide_eq_false t3) ?_⟩
        exact ⟨(eK.tr eL).tr (eMR.tr eS), _, _, _, rfl⟩
      · obtain ⟨eK, z8, z9, z10, rfl⟩ := q
        have eFK := eFJ.tr eK
        have g1 := MonT.up (Ex.lt eFK) f1
        have g2 := MonT.up (Ex.lt eFK) f2
        refine ⟨_, rfl, _, rfl, v1, b, v1, b, rfl, g1, g1, pbb, fun t0 HL x0 eL px0 okx0 told0 => ?_⟩
        have q0 := zb x0 told0
        subst q0
        refine row0 fun w0 HO eO pr0 => ?_
        have px0' := MonT.up (Ex.lt eO) px0
        obtain ⟨o1, o2, o3, rfl, ho, _⟩ := row_ins px0'
        obtain ⟨o4, o5, o6, rfl, ho4, _⟩ := row_ins pr0
        refine ⟨⟨o1, o4, o2, o5, o3, o6, rfl, rfl, ho, ho4, ⟨_, px0', pr0⟩⟩, fun HP eP => ⟨_, rfl, ite_b rfl ?_⟩⟩
        have eKP : Ex HK HP := (eL.tr eO).tr eP
        have g1 := MonT.up (Ex.lt eKP) g1
        have g2 := MonT.up (Ex.lt eKP) g2
        refine ⟨_, rfl, _, rfl, v2, c, v2, c, rfl, g2, g2, pcc, fun t0 HL2 x0 xx0 eL2 px0 okx0 told0 _ zz0 => ?_⟩
        have q0 := zz0 (zc xx0 told0)
        subst q0
        refine row0 fun w0 HO2 eO2 pr0 => ?_
        have px0' := MonT.up (Ex.lt eO2) px0
        obtain ⟨o1, o2, o3, rfl, ho, _⟩ := row_ins px0'
        obtain ⟨o4, o5, o6, rfl, ho4, _⟩ := row_ins pr0
        refine ⟨⟨o1, o4, o2, o5, o3, o6, rfl, rfl, ho, ho4, ⟨_, px0', pr0⟩⟩, fun HP2 eP2 => ⟨_, rfl, ite_b rfl ?_⟩⟩
        have eKP2 : Ex HP HP2 := (eL2.tr eO2).tr eP2
        have g1 := MonT.up (Ex.lt eKP2) g1
        have g2 := MonT.up (Ex.lt eKP2) g2
        refine ⟨_, rfl, _, rfl, v1, b, rfl, g1, pbb, fun x hx kk => by rw [zb x hx]; exact tell_0 kk, fun HR eR => ?_⟩
        refine ⟨rfl, _, rfl, ite_b (by simp) ?_⟩
        have eFR := ((eFK.tr eKP).tr eKP2).tr eR
        have g1 := MonT.up (Ex.lt eR) g1
        have g2 := MonT.up (Ex.lt eR) g2
        have g3 : pBk K HR v3 (thirdOf b c) := MonT.up (Ex.lt (((((eA.tr eB).tr eC).tr eD).tr (eE.tr eF)).tr eFR)) pv3
        refine ⟨_, rfl, _, rfl, v2, c, v3, _, rfl, g2, g3, pct, fun vf HS rf eS pf okf toldf => ?_⟩
        refine ⟨_, rfl, _, rfl, v1, b, v3, _, rfl, MonT.up (Ex.lt eS) g1, MonT.up (Ex.lt eS) g3, pbt, fun vd HT rd eT pd okd toldd => ?_⟩
        refine ⟨by rw [sizeLine_eq]; simp, fun q2 nq2 => ?_⟩
        generalize hGq2 : upd HT q2 _ = HU
        obtain ⟨eU, hU⟩ := gen_new nq2 hGq2
        refine ⟨q2, _, rfl, SqT.of hU, rfl, ?_⟩
        refine ⟨_, _, rfl, _, _, rfl, rfl, ?_⟩
        refine ⟨_, rfl, RgOk.of_le (by decide) (by decide) (by decide) (by decide), fun m1 nm1 => ?_⟩
        generalize hGm1 : upd HU m1 _ = HV
        obtain ⟨eV, hV⟩ := gen_new nm1 hGm1
        refine ⟨_, _, rfl, rfl, ⟨by decide, by decide, by decide⟩, by rw [sizeLine_eq]; simp, fun m2 nm2 => ?_⟩
        generalize hGm2 : upd HV m2 _ = HW
        obtain ⟨eW, hW⟩ := gen_new nm2 hGm2
        have hm1 : HW m1 = some (.lst ((rng 0 30).map V.int)) := by rw [← rgV_rng]; exact eW _ _ hV
        have hm2 : HW m2 = some (.lst ([(10 : Int) ^ 20].map V.int)) := hW
        refine ⟨m1, m2, _, _, rfl, rfl, hm1, hm2, by rw [sizeLine_eq]; simp [rng], fun m3 nm3 => ?_⟩
        rw [← List.map_append]
        have hns : ∀ kk ∈ rng 0 30 ++ [(10 : Int) ^ 20], 0 ≤ kk := by decide +kernel
        have hnl : (rng 0 30 ++ [(10 : Int) ^ 20]).length ≤ 100 := by decide +kernel
        generalize rng 0 30 ++ [(10 : Int) ^ 20] = ns2 at hns hnl ⊢
        generalize hGm3 : upd HW m3 _ = HX
        obtain ⟨eX, hX⟩ := gen_new nm3 hGm3
        have eUX := (eV.tr eW).tr eX
        have ph' := MonT.up (Ex.lt (((((((eB.tr eC).tr eD).tr eE).tr eF).tr eFR).tr eS).tr ((eT.tr eU).tr eUX))) ph
        have pf' := MonT.up (Ex.lt ((eT.tr eU).tr eUX)) pf
        have pd' := MonT.up (Ex.lt (eU.tr eUX)) pd
        obtain ⟨ah, dh, fh, rfl, hah, kh⟩ := row_ins ph'
        obtain ⟨af, df, ff, rfl, haf, kf⟩ := row_ins pf'
        obtain ⟨ad, dd, fd, rfl, had, kd⟩ := row_ins pd'
        refine ⟨m3, rfl, ⟨_, SqL.of hX⟩, ⟨lc_wk (P := pInt) (R := pInt) (wk_lst (K := K) (p := m3) (vs := ns2.map V.int) (xs := ns2) (by simp)) (fun _ => false) (fun y => y) (by omega) (fun H' e => ⟨SqL.of (e _ _ hX), int_paired _⟩) (fun i y v HY hy e pv N Z kn kz => ?_) (fun L3 HZ ws3 hL3 e3' hl3 pw3 => ?_)⟩⟩
        · cases pv
          have y0 := hns y (List.mem_of_getElem? hy)
          refine ⟨rfl, _, rfl, ad, dd, fd, rfl, e _ _ had, kd, _, rfl, _, rd, y, rfl, MonT.up (Ex.lt e) pd', okd, y0, fun w5 H5 e5 pw5 => ?_⟩
          cases pw5
          refine ⟨_, rfl, ah, dh, fh, rfl, e5 _ _ (e _ _ hah), kh, _, rfl, _, rh, y, rfl, MonT.up (Ex.lt (e.tr e5)) ph', okh, y0, fun w6 H6 e6 pw6 => ?_⟩
          cases pw6
          refine ⟨_, rfl, af, df, ff, rfl, e6 _ _ (e5 _ _ (e _ _ haf)), kf, _, rfl, _, rf, y, rfl, MonT.up (Ex.lt ((e.tr e5).tr e6)) pf', okf, y0, fun w7 H7 e7 pw7 => ?_⟩
          cases pw7
          have tt := tri rh rf rd toldd toldh toldf y.toNat
          exact ⟨_, _, rfl, rfl, _, _, rfl, rfl, _, rfl, ite_b (decide_eq_false (by omega)) (kn rfl _ ((e5.tr e6).tr e7))⟩
        · have ew : ws3 = [] := by
            have : (List.filter (fun _ => false) ns2).map (fun y : Int => y) = [] := by simp
            rw [this] at pw3
            cases pw3
            rfl
          subst ew
          refine ⟨by rw [sizeLine_eq]; simp, fun l9 nl9 => ?_⟩
          generalize hGl9 : upd HZ l9 _ = HZ2
          obtain ⟨e9, h9⟩ := gen_new nl9 hGl9
          refine ⟨.list [], .list [], .lst (SqL.of (e9 _ _ hl3)) .nil, .lst (SqL.of h9) .nil, by decide +kernel, by decide +kernel, ?_⟩
          have ee : PyData.eqv (.list []) (.list []) = true := by decide +kernel
          rw [ee]
          exact k _ ((x1.tr (Ex.jx (e2.tr (e3.tr ((((((eA.tr eB).tr eC).tr eD).tr (eE.tr eF)).tr eFR).tr eS))))).tr (Ex.jx ((((eT.tr eU).tr eUX).tr e3').tr e9)))⟩)
end
end Lf

set_option Elab.async false
set_option linter.all false
set_option maxRecDepth 100000
set_option maxHeartbeats 4000000
namespace Lf
open PySem PySem.Spec PyProof.Rows L2 Lc Lr Lm
/-- calls that may write on their own new jar leave all older objects as they were -/
theorem jx_q {j : Addr} {H1 H2 H3 : Hp} (x : Jx j H2 H3) (n : H1 j = none) (e : Ex H1 H2) : Ex H1 H3 := fun a u h => x a u (fun q => by rw [q, n] at h; cases h) (e a u h)
theorem sqL_ex {K : PySem.W.Frag} {H H' : Hp} {a : Addr} {xs : List V} (e : Ex H H') (h : SqL K H a xs) : SqL K H' a xs := by
  rcases h with (h | ⟨o, h⟩) | h
  · exact .inl (.inl (e _ _ h))
  · exact .inl (.inr ⟨o, e _ _ h⟩)
  · exact .inr h
section
variable {P : Program} {w : World} {K : PySem.W.Frag} {mg : Str → Option Value} {base : Heap}
def sp_law (K : PySem.W.Frag) : Sp := fun vs H Q _ => ∃ (a : Addr) (ns : List Int), vs = [.ref a] ∧ SqL K H a (ns.map V.int) ∧ (∀ b c, P2 b c → RightOk b c) ∧ ∀ H', Q (.bl true) H'
theorem law_body (T : Tx K mg) (cdv : Value) (A : Around) (outer : List Env) (s : Shared) (H : Hp) (vs : List V) (Q : VK) (E : XK) (hr : Room 11 (A.deeper (envOfC "law" (defScope s_law) s.heap.objs.size (He.ga K "law") cdv))) (h : sp_law K vs H Q E) :
    ∃ t, PSs (cxOf CX0 P w K mg base N_law "law" (defScope s_law) (He.ga K "law") cdv A outer s H E).nox (defBody s_law) t ∧ t { nx := fun _ H1 => Q .non H1, rt := Q } (start N_law vs) H := ⟨_, (der_law T (ok_right T) (ok_jar T) hr).2, by
    obtain ⟨a, ns, rfl, ha, law, k⟩ := h
    refine ⟨_, rfl, a, _, rfl, .inl ha, _, _, rfl, _, _, rfl, ?_⟩
    obtain ⟨J, hJ, h2, h3⟩ : ∃ J : Int, (if (if 3 < (((ns.map V.int).length : Nat) : Int) then 3 else (((ns.map V.int).length : Nat) : Int)) > 2 then (if 3 < (((ns.map V.int).length : Nat) : Int) then 3 else (((ns.map V.int).length : Nat) : Int)) else 2) = J ∧ 0 ≤ J ∧ J ≤ 3 := ⟨_, rfl, by split <;> split <;> omega, by split <;> split <;> omega⟩
    rw [hJ]
    refine ⟨_, rfl, by omega, by omega, ⟨lc_map (P := pInt) (R := pBl) (wk_rng (lo := 0) (n := J.toNat)) (fun _ => true) (by rw [rng_len]; omega) (fun _ _ => trivial) (fun i y v H1 hy e1 pv N Z kz => ?_) fun L H1 ws hL eL hl pw => ?_⟩⟩
    · cases pv
      have hy0 : 0 ≤ y ∧ y ≤ 1000 := by
        have := List.mem_of_getElem? hy
        unfold rng at this
        obtain ⟨z, hz, rfl⟩ := List.mem_map.mp this
        have := List.mem_range.mp hz
        omega
      exact ⟨rfl, _, rfl, _, rfl, a, ns, y, rfl, sqL_ex e1 ha, hy0.1, hy0.2, fun j H2 e2 nj pj => ⟨j, rfl, pj, law, fun H3 x3 => kz _ H3 (jx_q x3 nj e2) rfl⟩⟩
    · rw [paired_bl pw] at hl
      refine ⟨L, _, rfl, SqL.of hl, ?_⟩
      have : ((rng 0 J.toNat).map fun _ => true).all id = true := by simp
      rw [this]
      exact k _⟩
theorem law_fd (T : Tx K mg) : ∃ fd : FuncData, (∀ (s : Shared) (v : Value), BindsTo s fd ⟨[v], []⟩ [("_law_cells", v)]) ∧ ∀ (P : Program) (w : World) (base : Heap), FnOk P w K mg base CX0 12 (He.ga K "law") fd ["_law_cells"] (sp_law K) := by
  obtain ⟨fd, F⟩ := T.s.def_ ix_law (d := d_law)
  have b : ∀ (s : Shared) (v : Value), BindsTo s fd ⟨[v], []⟩ [("_law_cells", v)] := by
    obtain ⟨oc, od, kV, doc, pm, an, cdv, ct, osl, rfl, lk, hcd⟩ := F.ex
    exact fun s v => .of_eq rfl
  exact ⟨fd, b, fun P w base => F.ok sc_law (fun vs H Q E h => by obtain ⟨_, _, rfl, _⟩ := h; rfl) fun cdv A outer s H vs Q E hr h => law_body T cdv A outer s H vs Q E hr h⟩
end
end Lf

set_option Elab.async false
set_option linter.all false
/-! Periods: a row of steps goes on with its period. -/
namespace Lm
theorem cd_pos {a b : Int} (h : 0 < b) : 0 < cd a b := by
  unfold cd
  have := Int.gcd_pos_of_ne_zero_right a (by omega : b ≠ 0)
  omega
theorem cd_dl (a b : Int) : cd a b ∣ a := Int.gcd_dvd_left ..
theorem cd_dr (a b : Int) : cd a b ∣ b := Int.gcd_dvd_right ..
/-- own: the least x with wh ∣ x * a; we need: own ∣ x -> wh ∣ x * a -/
theorem own_dvd {a wh x : Int} (hw : 0 < wh) (h : wh / cd a wh ∣ x) : wh ∣ x * a := by
  obtain ⟨k, rfl⟩ := h
  obtain ⟨m, hm⟩ := cd_dl a wh
  obtain ⟨n, hn⟩ := cd_dr a wh
  have hp := cd_pos (a := a) hw
  have e : wh / cd a wh = n := by
    conv => lhs; lhs; rw [hn]
    exact Int.mul_ediv_cancel_left _ (by omega)
  rw [e]
  refine ⟨k * m, ?_⟩
  generalize cd a wh = g at *
  rw [hm, hn]
  simp [Int.mul_assoc, Int.mul_left_comm, Int.mul_comm]
theorem own_pos {a wh : Int} (hw : 0 < wh) : 0 < wh / cd a wh := by
  have hp := cd_pos (a := a) hw
  exact Int.ediv_pos_of_pos_of_dvd hw (Int.le_of_lt hp) (cd_dr a wh)
/-- tn: own ∣ r * tn -/
theorem turn_dvd {r own : Int} (ho : 0 < own) : own ∣ r * (own / cd r own) := by
  obtain ⟨m, hm⟩ := cd_dl r own
  obtain ⟨n, hn⟩ := cd_dr r own
  have hp := cd_pos (a := r) ho
  have e : own / cd r own = n := by
    conv => lhs; lhs; rw [hn]
    exact Int.mul_ediv_cancel_left _ (by omega)
  rw [e]
  refine ⟨m, ?_⟩
  generalize cd r own = g at *
  conv => lhs; rw [hm]
  conv => rhs; lhs; rw [hn]
  simp [Int.mul_assoc, Int.mul_left_comm, Int.mul_comm]
theorem rnd_shift {t q m : Int} (hq : 0 < q) (w : Way) (h : w = .neven → m % 2 = 0) : rnd (t + q * m) q w = rnd t q w + m := by
  have h1 : (t + q * m) / q = t / q + m := Int.add_mul_ediv_left _ _ (by omega)
  have h2 : (t + q * m) % q = t % q := Int.add_mul_emod_self_left ..
  unfold rnd
  rw [h1, h2]
  generalize t / q = x
  generalize t % q = y
  split
  · rfl
  · split
    · omega
    · split
      · split <;> omega
      · split
        · rename_i hw
          have := h hw
          omega
        · split <;> omega
theorem led1_shift {a b u : Int} {w : Way} (hb : 0 < b) (hu : 0 < u) {v x : Int} (h : wholeOf b u w ∣ x * a) : led1 (.times a b w u) (v + x) = led1 (.times a b w u) v + x * a / b := by
  obtain ⟨k, hk⟩ := h
  have hq : 0 < b * u := Int.mul_pos hb hu
  show rnd ((v + x) * a) (b * u) w * u = rnd (v * a) (b * u) w * u + x * a / b
  obtain ⟨m, hm, hev⟩ : ∃ m, x * a = b * u * m ∧ (w = .neven → m % 2 = 0) := by
    unfold wholeOf at hk
    by_cases hw : w = .neven
    · rw [if_pos hw] at hk
      exact ⟨2 * k, by rw [hk]; simp [Int.mul_assoc], fun _ => by omega⟩
    · rw [if_neg hw, Int.mul_one] at hk
      exact ⟨k, hk, fun q => absurd q hw⟩
  rw [Int.add_mul, hm, rnd_shift hq w hev, Int.add_mul]
  congr 1
  rw [show b * u * m = b * (m * u) by simp [Int.mul_assoc, Int.mul_comm, Int.mul_left_comm], Int.mul_ediv_cancel_left _ (by omega)]
end Lm

set_option Elab.async false
set_option linter.all false
namespace Lm
theorem wh_pos {b u : Int} {w : Way} (hb : 0 < b) (hu : 0 < u) : 0 < wholeOf b u w := by
  unfold wholeOf
  exact Int.mul_pos (Int.mul_pos hb hu) (by split <;> omega)
theorem b_dvd_wh {b u : Int} {w : Way} : b ∣ wholeOf b u w := by
  unfold wholeOf
  rw [Int.mul_assoc]
  exact Int.dvd_mul_right ..
/-- what a row of steps does to a pair (period, what the period adds) -/
theorem per_fold : ∀ (ws : List Stp), GoodR ws → ∀ pr : Int × Int, 0 < pr.1 → 0 < pr.2 →
    ∃ T : Int, 0 < T ∧ (ws.foldl per1 pr).1 = pr.1 * T ∧ 0 < (ws.foldl per1 pr).2 ∧ ∀ y t : Int, led ws (y + pr.2 * T * t) = led ws y + (ws.foldl per1 pr).2 * t
  | [], _, pr, h1, h2 => ⟨1, by omega, by simp, h2, fun y t => by simp [led]⟩
  | .plus c :: ws, hg, pr, h1, h2 => by
    obtain ⟨T, t0, e1, e2, e3⟩ := per_fold ws (fun s hs => hg s (List.mem_cons_of_mem _ hs)) pr h1 h2
    refine ⟨T, t0, e1, e2, fun y t => ?_⟩
    show led ws (y + pr.2 * T * t + c) = led ws (y + c) + _
    rw [show y + pr.2 * T * t + c = (y + c) + pr.2 * T * t by omega]
    exact e3 _ _
  | .times a b w u :: ws, hg, pr, h1, h2 => by
    obtain ⟨⟨a1, _⟩, ⟨b1, _⟩, u1, _⟩ := hg _ (List.mem_cons_self ..)
    have hw := wh_pos (b := b) (u := u) (w := w) (by omega) (by omega)
    have ho := own_pos (a := a) hw
    have htn : 0 < wholeOf b u w / cd a (wholeOf b u w) / cd pr.2 (wholeOf b u w / cd a (wholeOf b u w)) := own_pos (a := pr.2) ho
    have hdv := turn_dvd (r := pr.2) ho
    generalize hown : wholeOf b u w / cd a (wholeOf b u w) = own at ho htn hdv
    have hstep : per1 pr (.times a b w u) = (pr.1 * (own / cd pr.2 own), pr.2 * (own / cd pr.2 own) * a / b) := by
      show (pr.1 * (wholeOf b u w / cd a (wholeOf b u w) / cd pr.2 (wholeOf b u w / cd a (wholeOf b u w))), _) = _
      rw [hown]
    generalize own / cd pr.2 own = tn at htn hdv hstep
    have hwd : ∀ z, wholeOf b u w ∣ pr.2 * tn * z * a := fun z => own_dvd hw (by rw [hown]; exact Int.dvd_trans hdv (Int.dvd_mul_right ..))
    have hbd : b ∣ pr.2 * tn * a := by
      have := hwd 1
      rw [Int.mul_one] at this
      exact Int.dvd_trans b_dvd_wh this
    have hp1 : 0 < pr.1 * tn := Int.mul_pos h1 htn
    have hp2 : 0 < pr.2 * tn * a / b := Int.ediv_pos_of_pos_of_dvd (Int.mul_pos (Int.mul_pos h2 htn) (by omega)) (by omega) hbd
    obtain ⟨T, t0, e1, e2, e3⟩ := per_fold ws (fun s hs => hg s (List.mem_cons_of_mem _ hs)) (pr.1 * tn, pr.2 * tn * a / b) hp1 hp2
    rw [List.foldl_cons, hstep]
    refine ⟨tn * T, Int.mul_pos htn t0, by rw [e1]; simp [Int.mul_assoc], e2, fun y t => ?_⟩
    show led ws (led1 (.times a b w u) (y + pr.2 * (tn * T) * t)) = led ws (led1 (.times a b w u) y) + _
    have hx : pr.2 * (tn * T) * t = pr.2 * tn * (T * t) := by simp [Int.mul_assoc]
    rw [hx, led1_shift (by omega) (by omega) (hwd _)]
    have hx2 : pr.2 * tn * (T * t) * a / b = pr.2 * tn * a / b * T * t := by
      obtain ⟨k, hk⟩ := hbd
      rw [show pr.2 * tn * (T * t) * a = pr.2 * tn * a * (T * t) by simp [Int.mul_assoc, Int.mul_left_comm, Int.mul_comm], hk, Int.mul_ediv_cancel_left _ (by omega : b ≠ 0), Int.mul_assoc b, Int.mul_ediv_cancel_left _ (by omega : b ≠ 0), Int.mul_assoc]
    rw [hx2]
    exact e3 _ _
end Lm

set_option Elab.async false
set_option linter.all false
namespace Lm
theorem frac_spec {t b : Int} (ht : 0 < t) (hb : 0 < b) : 0 < (frac t b).1 ∧ 0 < (frac t b).2 ∧ (frac t b).1 * b = t * (frac t b).2 := by
  have hp := cd_pos (a := t) hb
  obtain ⟨m, hm⟩ := cd_dl t b
  obtain ⟨n, hn⟩ := cd_dr t b
  unfold frac
  refine ⟨Int.ediv_pos_of_pos_of_dvd ht (by omega) (cd_dl t b), Int.ediv_pos_of_pos_of_dvd hb (by omega) (cd_dr t b), ?_⟩
  have e1 : t / cd t b = m := by
    conv => lhs; lhs; rw [hm]
    exact Int.mul_ediv_cancel_left _ (by omega)
  have e2 : b / cd t b = n := by
    conv => lhs; lhs; rw [hn]
    exact Int.mul_ediv_cancel_left _ (by omega)
  show t / cd t b * b = t * (b / cd t b)
  rw [e1, e2]
  generalize cd t b = g at *
  conv => lhs; rw [hn]
  conv => rhs; rw [hm]
  simp [Int.mul_assoc, Int.mul_left_comm, Int.mul_comm]
theorem cancel_l {a b c : Int} (h : a * b = a * c) (ha : 0 < a) : b = c := Int.eq_of_mul_eq_mul_left (by omega) h
/-- the rate of a row of steps is what its period adds by its period -/
theorem rate_fold : ∀ (ws : List Stp), GoodR ws → ∀ (pr f : Int × Int), 0 < pr.1 → 0 < pr.2 → 0 < f.1 → 0 < f.2 → f.1 * pr.1 = f.2 * pr.2 →
    0 < (ws.foldl rate1 f).1 ∧ 0 < (ws.foldl rate1 f).2 ∧ (ws.foldl rate1 f).1 * (ws.foldl per1 pr).1 = (ws.foldl rate1 f).2 * (ws.foldl per1 pr).2
  | [], _, pr, f, h1, h2, f1, f2, e => ⟨f1, f2, e⟩
  | .plus c :: ws, hg, pr, f, h1, h2, f1, f2, e => rate_fold ws (fun s hs => hg s (List.mem_cons_of_mem _ hs)) pr f h1 h2 f1 f2 e
  | .times a b w u :: ws, hg, pr, f, h1, h2, f1, f2, e => by
    obtain ⟨⟨a1, _⟩, ⟨b1, _⟩, u1, _⟩ := hg _ (List.mem_cons_self ..)
    have hw := wh_pos (b := b) (u := u) (w := w) (by omega) (by omega)
    have ho := own_pos (a := a) hw
    have htn : 0 < wholeOf b u w / cd a (wholeOf b u w) / cd pr.2 (wholeOf b u w / cd a (wholeOf b u w)) := own_pos (a := pr.2) ho
    have hdv := turn_dvd (r := pr.2) ho
    generalize hown : wholeOf b u w / cd a (wholeOf b u w) = own at ho htn hdv
    have hstep : per1 pr (.times a b w u) = (pr.1 * (own / cd pr.2 own), pr.2 * (own / cd pr.2 own) * a / b) := by
      show (pr.1 * (wholeOf b u w / cd a (wholeOf b u w) / cd pr.2 (wholeOf b u w / cd a (wholeOf b u w))), _) = _
      rw [hown]
    generalize own / cd pr.2 own = tn at htn hdv hstep
    have hbd : b ∣ pr.2 * tn * a := Int.dvd_trans b_dvd_wh (own_dvd hw (by rw [hown]; exact hdv))
    have hp1 : 0 < pr.1 * tn := Int.mul_pos h1 htn
    have hp2 : 0 < pr.2 * tn * a / b := Int.ediv_pos_of_pos_of_dvd (Int.mul_pos (Int.mul_pos h2 htn) (by omega)) (by omega) hbd
    obtain ⟨q1, q2, q3⟩ := frac_spec (t := a) (b := b) (by omega) (by omega)
    have hfr : rate1 f (.times a b w u) = frac (f.1 * (frac a b).1) (f.2 * (frac a b).2) := rfl
    obtain ⟨r1, r2, r3⟩ := frac_spec (Int.mul_pos f1 q1) (Int.mul_pos f2 q2)
    rw [List.foldl_cons, List.foldl_cons, hstep, hfr]
    refine rate_fold ws (fun s hs => hg s (List.mem_cons_of_mem _ hs)) _ _ hp1 hp2 r1 r2 ?_
    show _ * (pr.1 * tn) = _ * (pr.2 * tn * a / b)
    generalize (frac (f.1 * (frac a b).1) (f.2 * (frac a b).2)).1 = x at *
    generalize (frac (f.1 * (frac a b).1) (f.2 * (frac a b).2)).2 = y at *
    generalize (frac a b).1 = n at *
    generalize (frac a b).2 = d at *
    obtain ⟨k, hk⟩ := hbd
    rw [hk, Int.mul_ediv_cancel_left _ (by omega)]
    -- x (f2 d) = f1 n y ; n b = a d ; f1 p1 = f2 p2 ; p2 tn a = b k ; goal x (p1 tn) = y k
    have hpos : 0 < f.2 * d * b := Int.mul_pos (Int.mul_pos f2 q2) (by omega)
    refine cancel_l ?_ hpos
    calc f.2 * d * b * (x * (pr.1 * tn)) = (x * (f.2 * d)) * (b * pr.1 * tn) := by ac_rfl
      _ = (f.1 * n * y) * (b * pr.1 * tn) := by rw [r3]
      _ = (f.1 * pr.1) * (n * b) * (y * tn) := by ac_rfl
      _ = (f.2 * pr.2) * (a * d) * (y * tn) := by rw [e, q3]
      _ = f.2 * d * y * (pr.2 * tn * a) := by ac_rfl
      _ = f.2 * d * y * (b * k) := by rw [hk]
      _ = f.2 * d * b * (y * k) := by ac_rfl
end Lm

set_option Elab.async false
set_option linter.all false
namespace Lm
theorem led_app (s t : List Stp) (v : Int) : led (s ++ t) v = led t (led s v) := by unfold led; rw [List.foldl_append]
/-- a group and the whole: what the period of both does to the group's sum, then to all -/
theorem grp_shift {g ws : List Stp} (hg : GoodR g) (hw : GoodR ws) : ∃ R D : Int, 0 < periodOf (g ++ ws) ∧ 0 < R ∧ (rateOf (g ++ ws)).1 * periodOf (g ++ ws) = (rateOf (g ++ ws)).2 * R ∧ 0 < (rateOf (g ++ ws)).1 ∧ 0 < (rateOf (g ++ ws)).2 ∧
    (∀ v t, led g (v + periodOf (g ++ ws) * t) = led g v + D * t) ∧ ∀ y t, led ws (y + D * t) = led ws y + R * t := by
  have hgw : GoodR (g ++ ws) := fun s hs => (List.mem_append.mp hs).elim (hg s) (hw s)
  obtain ⟨T0, t0, e0, p0, q0⟩ := per_fold g hg (1, 1) (by decide) (by decide)
  have e0' : (g.foldl per1 (1, 1)).1 = T0 := by rw [e0]; simp
  obtain ⟨T1, t1, e1, p1, q1⟩ := per_fold ws hw (g.foldl per1 (1, 1)) (by rw [e0']; exact t0) p0
  obtain ⟨r1, r2, r3⟩ := rate_fold (g ++ ws) hgw (1, 1) (1, 1) (by decide) (by decide) (by decide) (by decide) rfl
  have hper : periodOf (g ++ ws) = T0 * T1 := by
    show ((g ++ ws).foldl per1 (1, 1)).1 = _
    rw [List.foldl_append, e1, e0']
  refine ⟨((g ++ ws).foldl per1 (1, 1)).2, (g.foldl per1 (1, 1)).2 * T1, by rw [hper]; exact Int.mul_pos t0 t1, by rw [List.foldl_append]; exact p1, r3, r1, r2, fun v t => ?_, fun y t => by rw [List.foldl_append]; exact q1 y t⟩
  rw [hper]
  have := q0 v (T1 * t)
  rw [show T0 * T1 * t = 1 * T0 * (T1 * t) by simp [Int.mul_assoc], Int.mul_assoc _ T1 t]
  exact this
/-- a whole row by itself -/
theorem led_shift {g : List Stp} (hg : GoodR g) : ∃ R : Int, 0 < periodOf g ∧ 0 < R ∧ (rateOf g).1 * periodOf g = (rateOf g).2 * R ∧ 0 < (rateOf g).1 ∧ 0 < (rateOf g).2 ∧ ∀ v t, led g (v + periodOf g * t) = led g v + R * t := by
  obtain ⟨T0, t0, e0, p0, q0⟩ := per_fold g hg (1, 1) (by decide) (by decide)
  obtain ⟨r1, r2, r3⟩ := rate_fold g hg (1, 1) (1, 1) (by decide) (by decide) (by decide) (by decide) rfl
  have hper : periodOf g = T0 := by
    show (g.foldl per1 (1, 1)).1 = _
    rw [e0]
    simp
  refine ⟨_, by rw [hper]; exact t0, p0, r3, r1, r2, fun v t => ?_⟩
  rw [hper]
  have := q0 v t
  rwa [show (1, (1 : Int)).2 * T0 * t = T0 * t by simp] at this
end Lm

set_option Elab.async false
set_option linter.all false
namespace Lm
def rtg (B : Int) (ws g : List Stp) : Int := (rateOf (g ++ ws)).1 * (B / (rateOf (g ++ ws)).2)
def shSum (B : Int) (ws : List Stp) : List (List Stp) → List Int → List Int → Int
  | g :: gs, v :: vs, s :: ss => rtg B ws g * (v - s) + shSum B ws gs vs ss
  | _, _, _ => 0
inductive Cong (ws : List Stp) : List (List Stp) → List Int → List Int → Prop
  | nil : Cong ws [] [] []
  | cons {g gs v vs s ss} : periodOf (g ++ ws) ∣ v - s → Cong ws gs vs ss → Cong ws (g :: gs) (v :: vs) (s :: ss)
theorem ask_shift {B : Int} {ws : List Stp} (hw : GoodR ws) {gs : List (List Stp)} {vs ss : List Int} (c : Cong ws gs vs ss) (hg : ∀ g ∈ gs, GoodR g) (hB : ∀ g ∈ gs, (rateOf (g ++ ws)).2 ∣ B) :
    ∀ y : Int, B * led ws (y + (List.zipWith led gs vs).sum) = B * led ws (y + (List.zipWith led gs ss).sum) + shSum B ws gs vs ss := by
  induction c with
  | nil => intro y; simp [shSum]
  | @cons g gs v vs s ss hd c ih =>
    intro y
    obtain ⟨R, D, p0, R0, e, r1, r2, h1, h2⟩ := grp_shift (hg g (List.mem_cons_self ..)) hw
    obtain ⟨t, ht⟩ := hd
    have hv : v = s + periodOf (g ++ ws) * t := by omega
    obtain ⟨k, hk⟩ := hB g (List.mem_cons_self ..)
    have ih' := ih (fun g h => hg g (List.mem_cons_of_mem _ h)) (fun g h => hB g (List.mem_cons_of_mem _ h))
    rw [List.zipWith_cons_cons, List.zipWith_cons_cons, List.sum_cons, List.sum_cons]
    show _ = _ + (rtg B ws g * (v - s) + shSum B ws gs vs ss)
    rw [show y + (led g v + (List.zipWith led gs vs).sum) = (y + led g v) + (List.zipWith led gs vs).sum by omega, ih']
    rw [hv, h1, show y + (led g s + D * t) + (List.zipWith led gs ss).sum = (y + (led g s + (List.zipWith led gs ss).sum)) + D * t by omega, h2]
    have hr : rtg B ws g * (s + periodOf (g ++ ws) * t - s) = B * (R * t) := by
      unfold rtg
      generalize (rateOf (g ++ ws)).1 = x at *
      generalize (rateOf (g ++ ws)).2 = d at *
      generalize periodOf (g ++ ws) = p at *
      have hkd : B / d = k := by rw [hk]; exact Int.mul_ediv_cancel_left _ (by omega)
      rw [hkd, hk, show s + p * t - s = p * t by omega]
      calc x * k * (p * t) = x * p * (k * t) := by ac_rfl
        _ = d * R * (k * t) := by rw [e]
        _ = d * k * (R * t) := by ac_rfl
    rw [hr, Int.mul_add]
    omega
end Lm

set_option Elab.async false
set_option linter.all false
/-! States: finite many; pigeonhole. -/
namespace Lm
theorem nd_le {α : Type} [DecidableEq α] : ∀ (l t : List α), l.Nodup → (∀ x ∈ l, x ∈ t) → l.length ≤ t.length
  | [], t, _, _ => Nat.zero_le _
  | x :: l, t, h, hs => by
    have hx := hs x (List.mem_cons_self ..)
    obtain ⟨h1, h2⟩ := List.nodup_cons.mp h
    have := nd_le l (t.erase x) h2 fun y hy => (List.mem_erase_of_ne (fun e => by rw [e] at hy; exact h1 hy)).mpr (hs y (List.mem_cons_of_mem _ hy))
    rw [List.length_erase_of_mem hx] at this
    have := List.length_pos_of_mem hx
    rw [List.length_cons]
    omega
/-- two places with the same thing -/
theorem pigeon {α : Type} [DecidableEq α] (f : Nat → α) (t : List α) (n : Nat) (hn : t.length < n) (hf : ∀ i, i < n → f i ∈ t) : ∃ i j, i < j ∧ j < n ∧ f i = f j := by
  apply Classical.byContradiction
  intro h
  have hnd : ((List.range n).map f).Nodup := by
    rw [List.nodup_iff_pairwise_ne] 
    rw [List.pairwise_map]
    refine List.Pairwise.imp_of_mem ?_ (List.pairwise_lt_range (n := n))
    intro i j hi hj hij e
    exact h ⟨i, j, hij, List.mem_range.mp hj, e⟩
  have := nd_le _ t hnd fun x hx => by
    obtain ⟨i, hi, rfl⟩ := List.mem_map.mp hx
    exact hf i (List.mem_range.mp hi)
  rw [List.length_map, List.length_range] at this
  omega
/-- all states -/
def allSt : Vec → List Vec
  | [] => [[]]
  | p :: ps => (List.range p.toNat).flatMap fun (i : Nat) => (allSt ps).map fun s => Int.ofNat i :: s
def prodv (ps : Vec) : Int := ps.foldl (fun a p => a * p) 1
inductive InSt : Vec → Vec → Prop
  | nil : InSt [] []
  | cons {p ps x s} : 0 ≤ x → x < p → InSt ps s → InSt (p :: ps) (x :: s)
theorem mem_all {ps s : Vec} (h : InSt ps s) : s ∈ allSt ps := by
  induction h with
  | nil => simp [allSt]
  | @cons p ps x s h0 h1 _ ih =>
    unfold allSt
    refine List.mem_flatMap.mpr ⟨x.toNat, List.mem_range.mpr (by omega), List.mem_map.mpr ⟨s, ih, by show ((x.toNat : Nat) : Int) :: s = _; rw [Int.toNat_of_nonneg h0]⟩⟩
theorem sum_c (n : Nat) : ∀ l : List Nat, (l.map fun _ => n).sum = l.length * n
  | [] => by simp
  | _ :: l => by rw [List.map_cons, List.sum_cons, sum_c n l, List.length_cons, Nat.add_mul]; omega
theorem all_len : ∀ (ps : Vec), (∀ p ∈ ps, 0 < p) → ∃ n : Nat, (allSt ps).length = n ∧ ∀ a : Int, ps.foldl (fun a p => a * p) a = a * n
  | [], _ => ⟨1, rfl, fun a => by simp⟩
  | p :: ps, h => by
    obtain ⟨n, hn, hf⟩ := all_len ps fun q hq => h q (List.mem_cons_of_mem _ hq)
    have hp := h p (List.mem_cons_self ..)
    refine ⟨p.toNat * n, ?_, fun a => ?_⟩
    · unfold allSt
      rw [List.length_flatMap]
      simp only [List.length_map, hn]
      rw [sum_c, List.length_range]
    · rw [List.foldl_cons, hf, Int.mul_assoc]
      congr 1
      rw [Int.natCast_mul, Int.toNat_of_nonneg (by omega)]
end Lm

set_option Elab.async false
set_option linter.all false
/-! Walks: lists of moves, their state, place by place. -/
namespace Lm
def tot (L : List Vec) (c : Nat) : Int := (L.map fun m => m.getD c 0).sum
def stL (ps : Vec) (L : List Vec) : Vec := (List.range ps.length).map fun c => tot L c % ps.getD c 1
theorem tot_app (L M : List Vec) (c : Nat) : tot (L ++ M) c = tot L c + tot M c := by unfold tot; rw [List.map_append, List.sum_append]
theorem tot_rep (n : Nat) (m : Vec) (c : Nat) : tot (List.replicate n m) c = n * m.getD c 0 := by
  induction n with
  | zero => simp [tot]
  | succ n ih =>
    rw [List.replicate_succ, show tot (m :: List.replicate n m) c = m.getD c 0 + tot (List.replicate n m) c from rfl, ih]
    rw [Int.natCast_add, Int.add_mul]
    omega
theorem stL_nil (ps : Vec) : stL ps [] = zerov ps := by
  unfold stL zerov
  apply List.ext_getElem
  · simp
  · intro i h1 h2
    simp [tot]
theorem stL_len (ps : Vec) (L : List Vec) : (stL ps L).length = ps.length := by simp [stL]
theorem stL_snoc (ps : Vec) (L : List Vec) (m : Vec) (hm : m.length = ps.length) : addv ps (stL ps L) m = stL ps (L ++ [m]) := by
  apply List.ext_getElem
  · simp [addv, stL, hm]
  · intro i h1 h2
    have hi : i < ps.length := by rw [stL_len] at h2; exact h2
    have e : tot [m] i = m.getD i 0 := by simp [tot]
    simp only [addv, stL, List.getElem_map, List.getElem_zip, List.getElem_range, tot_app, e]
    simp [List.getD_eq_getElem?_getD, List.getElem?_eq_getElem hi, List.getElem?_eq_getElem (show i < m.length by omega)]
theorem stL_in (ps : Vec) (L : List Vec) (hp : ∀ p ∈ ps, 0 < p) : stL ps L ∈ allSt ps := by
  apply mem_all
  have : ∀ (ps : Vec) (f : Nat → Int), (∀ p ∈ ps, 0 < p) → InSt ps ((List.range ps.length).map fun c => f c % ps.getD c 1) := by
    intro ps
    induction ps with
    | nil => intro f _; exact .nil
    | cons p ps ih =>
      intro f hp
      have h0 := hp p (List.mem_cons_self ..)
      rw [List.length_cons, List.range_succ_eq_map, List.map_cons, List.map_map]
      refine .cons (Int.emod_nonneg _ (by simp; omega)) (Int.emod_lt_of_pos _ h0) ?_
      exact ih (fun c => f (c + 1)) fun q hq => hp q (List.mem_cons_of_mem _ hq)
  exact this ps (tot L) hp
theorem stL_eq {ps : Vec} {L M : List Vec} : stL ps L = stL ps M ↔ ∀ c, c < ps.length → tot L c % ps.getD c 1 = tot M c % ps.getD c 1 := by
  unfold stL
  constructor
  · intro h c hc
    have := congrArg (fun l => l[c]?) h
    simpa [hc] using this
  · intro h
    apply List.map_congr_left
    intro c hc
    exact h c (List.mem_range.mp hc)
end Lm

set_option Elab.async false
set_option linter.all false
namespace Lm
theorem sum_le_n {α : Type} (wt : α → Int) (B : Int) : ∀ L : List α, (∀ x ∈ L, wt x ≤ B) → (L.map wt).sum ≤ L.length * B
  | [], _ => by simp
  | x :: L, h => by
    have h1 := h x (List.mem_cons_self ..)
    have h2 := sum_le_n wt B L fun y hy => h y (List.mem_cons_of_mem _ hy)
    rw [List.map_cons, List.sum_cons, List.length_cons, Int.natCast_add, Int.add_mul]
    omega
theorem sum_rep {α : Type} (wt : α → Int) (x : α) (n : Nat) : ((List.replicate n x).map wt).sum = n * wt x := by
  induction n with
  | zero => simp
  | succ n ih =>
    rw [List.replicate_succ, List.map_cons, List.sum_cons, ih, Int.natCast_add, Int.add_mul]
    omega
theorem cut3 {α : Type} (L : List α) {i j : Nat} (h : i < j) (hj : j ≤ L.length) : L = L.take i ++ ((L.take j).drop i ++ L.drop j) ∧ ((L.take j).drop i).length = j - i ∧ L.take j = L.take i ++ (L.take j).drop i := by
  have e : L.take j = L.take i ++ (L.take j).drop i := by
    have h0 := (List.take_append_drop i (L.take j)).symm
    rw [List.take_take, Nat.min_eq_left (by omega)] at h0
    exact h0
  refine ⟨?_, by simp; omega, e⟩
  rw [← List.append_assoc, ← e, List.take_append_drop]
/-- a walk that is long enough can lose one step of the move mv, with no loss of weight -/
theorem shorten {ps : Vec} (hp : ∀ p ∈ ps, 0 < p) {α : Type} (mo : α → Vec) (wt : α → Int) (top : α) (L : List α) (hmax : ∀ x ∈ L, wt x ≤ wt top) (hlen : (allSt ps).length ≤ L.length) :
    ∃ M : List α, M.length + 1 = L.length ∧ (∀ x ∈ M, x ∈ L ∨ x = top) ∧ stL ps ((M ++ [top]).map mo) = stL ps (L.map mo) ∧ (L.map wt).sum ≤ (M.map wt).sum + wt top := by
  let f : Nat → Vec := fun i => (List.range ps.length).map fun c => (tot ((L.take i).map mo) c - (i : Int) * (mo top).getD c 0) % ps.getD c 1
  have key : ∀ (qs : Vec) (g : Nat → Int), (∀ p ∈ qs, 0 < p) → ((List.range qs.length).map fun c => g c % qs.getD c 1) ∈ allSt qs := by
    intro qs
    induction qs with
    | nil => intro g _; simp [allSt]
    | cons p qs ih =>
      intro g hq
      have h0 := hq p (List.mem_cons_self ..)
      rw [List.length_cons, List.range_succ_eq_map, List.map_cons, List.map_map]
      unfold allSt
      refine List.mem_flatMap.mpr ⟨(g 0 % p).toNat, List.mem_range.mpr ?_, List.mem_map.mpr ⟨_, ih (fun c => g (c + 1)) fun q h => hq q (List.mem_cons_of_mem _ h), ?_⟩⟩
      · have := Int.emod_lt_of_pos (g 0) h0; have := Int.emod_nonneg (g 0) (show p ≠ 0 by omega); omega
      · have := Int.emod_nonneg (g 0) (show p ≠ 0 by omega)
        show ((g 0 % p).toNat : Int) :: _ = _
        rw [Int.toNat_of_nonneg this]
        rfl
  obtain ⟨i, j, hij, hj, e⟩ := pigeon f (allSt ps) (L.length + 1) (by omega) fun i _ => key ps _ hp
  refine ⟨L.take i ++ List.replicate (j - i - 1) top ++ L.drop j, ?_, ?_, ?_, ?_⟩
  · simp; omega
  · intro x hx
    rcases List.mem_append.mp hx with h | h
    · rcases List.mem_append.mp h with h | h
      · exact .inl (List.mem_of_mem_take h)
      · exact .inr (List.eq_of_mem_replicate h)
    · exact .inl (List.mem_of_mem_drop h)
  · obtain ⟨c1, c2, c3⟩ := cut3 L hij (by omega)
    generalize (L.take j).drop i = G at c1 c2 c3
    rw [stL_eq]
    intro c hc
    have e' : (tot ((L.take i).map mo) c - (i : Int) * (mo top).getD c 0) % ps.getD c 1 = (tot ((L.take j).map mo) c - (j : Int) * (mo top).getD c 0) % ps.getD c 1 := by
      have := congrArg (fun l => l[c]?) e
      simpa [f, hc] using this
    rw [c3, List.map_append, tot_app] at e'
    have eL : tot (L.map mo) c = tot ((L.take i).map mo) c + (tot (G.map mo) c + tot ((L.drop j).map mo) c) := by
      conv => lhs; rw [c1]
      rw [List.map_append, List.map_append, tot_app, tot_app]
    rw [eL]
    simp only [List.map_append, tot_app, List.map_replicate, tot_rep]
    have e1 : tot (List.map mo [top]) c = (mo top).getD c 0 := by simp [tot]
    rw [e1]
    generalize (mo top).getD c 0 = z at *
    generalize tot ((L.take i).map mo) c = x at *
    generalize tot (G.map mo) c = y at *
    generalize tot ((L.drop j).map mo) c = w at *
    generalize ps.getD c 1 = p at *
    have hn : ((j - i - 1 : Nat) : Int) = (j : Int) - i - 1 := by omega
    rw [hn]
    have h1 := Int.emod_emod_of_dvd
    have d := Int.emod_eq_emod_iff_emod_sub_eq_zero.mp e'
    apply Int.emod_eq_emod_iff_emod_sub_eq_zero.mpr
    have q1 : x - ↑i * z - (x + y - ↑j * z) = (x + (↑j - ↑i - 1) * z + w + z) - (x + (y + w)) := by
      rw [Int.sub_mul, Int.sub_mul]
      omega
    rw [← q1]
    exact d
  · obtain ⟨c1, c2, c3⟩ := cut3 L hij (by omega)
    generalize (L.take j).drop i = G at c1 c2 c3
    have hG := sum_le_n wt (wt top) G fun x hx => hmax x (by rw [c1]; simp [hx])
    have eL : (L.map wt).sum = ((L.take i).map wt).sum + ((G.map wt).sum + ((L.drop j).map wt).sum) := by
      conv => lhs; rw [c1]
      rw [List.map_append, List.map_append, List.sum_append, List.sum_append]
    rw [eL, List.map_append, List.map_append, List.sum_append, List.sum_append, sum_rep]
    rw [c2] at hG
    have hn : ((j - i : Nat) : Int) = ((j - i - 1 : Nat) : Int) + 1 := by omega
    rw [hn, Int.add_mul] at hG
    omega
end Lm

set_option Elab.async false
set_option linter.all false
/-! Assoc lists; the greatest by key. -/
namespace Lm
section
variable {β : Type}
def keysA (f : List (Vec × β)) : List Vec := f.map Prod.fst
theorem aget_nil (k : Vec) : aget ([] : List (Vec × β)) k = none := rfl
theorem aget_cons (x : Vec × β) (f : List (Vec × β)) (k : Vec) : aget (x :: f) k = if x.1 = k then some x.2 else aget f k := by
  unfold aget
  rw [List.find?_cons]
  by_cases h : x.1 = k
  · rw [if_pos h, decide_eq_true h]; rfl
  · rw [if_neg h, decide_eq_false h]
theorem aget_none {f : List (Vec × β)} {k : Vec} : aget f k = none ↔ k ∉ keysA f := by
  induction f with
  | nil => simp [aget, keysA]
  | cons x f ih =>
    rw [aget_cons]
    unfold keysA at *
    by_cases h : x.1 = k
    · simp [h]
    · rw [if_neg h, ih, List.map_cons, List.mem_cons]
      constructor
      · intro a b; rcases b with b | b
        · exact h b.symm
        · exact a b
      · intro a b; exact a (.inr b)
theorem aget_mem {f : List (Vec × β)} {k : Vec} {v : β} (h : aget f k = some v) : (k, v) ∈ f := by
  induction f with
  | nil => cases h
  | cons x f ih =>
    rw [aget_cons] at h
    split at h
    · rename_i e
      cases h
      subst e
      exact List.mem_cons_self ..
    · exact List.mem_cons_of_mem _ (ih h)
theorem mem_aget {f : List (Vec × β)} (nd : (keysA f).Nodup) {k : Vec} {v : β} (h : (k, v) ∈ f) : aget f k = some v := by
  induction f with
  | nil => cases h
  | cons x f ih =>
    unfold keysA at nd ih
    rw [List.map_cons, List.nodup_cons] at nd
    rw [aget_cons]
    rcases List.mem_cons.mp h with h | h
    · subst h; rw [if_pos rfl]
    · rw [if_neg fun e => nd.1 (by rw [e]; exact List.mem_map_of_mem (f := Prod.fst) h)]
      exact ih nd.2 h
theorem any_key {f : List (Vec × β)} {k : Vec} : (f.any fun kv => decide (kv.1 = k)) = true ↔ k ∈ keysA f := by
  unfold keysA
  simp [List.any_eq_true]
theorem aput_keys (f : List (Vec × β)) (k : Vec) (v : β) : keysA (aput f k v) = if k ∈ keysA f then keysA f else keysA f ++ [k] := by
  unfold aput
  by_cases h : k ∈ keysA f
  · rw [if_pos (any_key.mpr h), if_pos h]
    unfold keysA
    rw [List.map_map]
    apply List.map_congr_left
    intro x _
    show (if x.1 = k then (x.1, v) else x).1 = x.1
    split <;> rfl
  · rw [if_neg (fun q => h (any_key.mp q)), if_neg h]
    unfold keysA
    rw [List.map_append]
    rfl
theorem aput_nd {f : List (Vec × β)} (nd : (keysA f).Nodup) (k : Vec) (v : β) : (keysA (aput f k v)).Nodup := by
  rw [aput_keys]
  split
  · exact nd
  · rename_i h
    rw [List.nodup_append]
    refine ⟨nd, by simp, fun a ha b hb => ?_⟩
    rw [List.mem_singleton.mp hb]
    intro e
    exact h (e ▸ ha)
theorem aget_map {f : List (Vec × β)} {k k' : Vec} {v : β} : aget (f.map fun kv => if kv.1 = k then (kv.1, v) else kv) k' = if k' = k then (aget f k').map fun _ => v else aget f k' := by
  induction f with
  | nil => simp [aget]
  | cons x f ih =>
    rw [List.map_cons, aget_cons, ih, aget_cons]
    by_cases h : x.1 = k
    · rw [if_pos h]
      by_cases h2 : x.1 = k'
      · rw [if_pos h2, if_pos h2, if_pos (h2.symm.trans h)]; rfl
      · rw [if_neg h2, if_neg h2]
    · rw [if_neg h]
      by_cases h2 : x.1 = k'
      · rw [if_pos h2, if_pos h2, if_neg (fun e => h (h2.trans e))]
      · rw [if_neg h2, if_neg h2]
theorem aget_app {f g : List (Vec × β)} {k : Vec} : aget (f ++ g) k = (aget f k).orElse fun _ => aget g k := by
  induction f with
  | nil => simp [aget_nil]
  | cons x f ih =>
    rw [List.cons_append, aget_cons, aget_cons, ih]
    split <;> rfl
theorem aget_aput (f : List (Vec × β)) (k k' : Vec) (v : β) : aget (aput f k v) k' = if k' = k then some v else aget f k' := by
  unfold aput
  by_cases h : k ∈ keysA f
  · rw [if_pos (any_key.mpr h), aget_map]
    by_cases e : k' = k
    · rw [if_pos e, if_pos e, e]
      cases q : aget f k with
      | none => exact absurd h (aget_none.mp q)
      | some u => rfl
    · rw [if_neg e, if_neg e]
  · rw [if_neg (fun q => h (any_key.mp q)), aget_app]
    by_cases e : k' = k
    · rw [if_pos e, e, aget_none.mpr h, aget_cons, if_pos rfl]; rfl
    · rw [if_neg e, aget_cons, if_neg (fun q => e q.symm), aget_nil]
      cases aget f k' <;> rfl
end
end Lm

set_option Elab.async false
set_option linter.all false
/-! A fold of amax: by key the greatest. -/
namespace Lm
section
variable {β γ : Type}
/-- F holds, by key, a greatest one of the things of P (with its key) -/
structure Top (g : β → Int) (F : List (Vec × β)) (P : Vec → β → Prop) : Prop where
  nd : (keysA F).Nodup
  up : ∀ k v, P k v → ∃ u, aget F k = some u ∧ g v ≤ g u
  dn : ∀ k u, aget F k = some u → P k u
theorem top_nil (g : β → Int) : Top g ([] : List (Vec × β)) (fun _ _ => False) := ⟨by simp [keysA], fun _ _ h => h.elim, fun _ _ h => by cases h⟩
theorem top_iff {g : β → Int} {F : List (Vec × β)} {P R : Vec → β → Prop} (h : Top g F P) (e : ∀ k v, P k v ↔ R k v) : Top g F R := ⟨h.nd, fun k v r => h.up k v ((e k v).mpr r), fun k u q => (e k u).mp (h.dn k u q)⟩
theorem top_amax {g : β → Int} {F : List (Vec × β)} {P : Vec → β → Prop} (h : Top g F P) (k : Vec) (v : β) : Top g (amax g F k v) (fun k' v' => P k' v' ∨ (k' = k ∧ v' = v)) := by
  unfold amax
  cases q : aget F k with
  | none =>
    refine ⟨aput_nd h.nd k v, fun k' v' hp => ?_, fun k' u hu => ?_⟩
    · show ∃ u, aget (aput F k v) k' = some u ∧ _
      rw [aget_aput]
      rcases hp with hp | ⟨rfl, rfl⟩
      · obtain ⟨u, hu, le⟩ := h.up k' v' hp
        rw [if_neg (fun e => by rw [e, q] at hu; cases hu)]
        exact ⟨u, hu, le⟩
      · rw [if_pos rfl]; exact ⟨_, rfl, Int.le_refl _⟩
    · replace hu : aget (aput F k v) k' = some u := hu
      rw [aget_aput] at hu
      split at hu
      · rename_i e; cases hu; exact .inr ⟨e, rfl⟩
      · exact .inl (h.dn _ _ hu)
  | some w =>
    show Top g (if g w < g v then aput F k v else F) _
    split
    · rename_i lt
      refine ⟨aput_nd h.nd k v, fun k' v' hp => ?_, fun k' u hu => ?_⟩
      · rw [aget_aput]
        by_cases e : k' = k
        · rw [if_pos e]
          refine ⟨_, rfl, ?_⟩
          rcases hp with hp | ⟨_, rfl⟩
          · obtain ⟨u, hu, le⟩ := h.up k' v' hp
            rw [e, q] at hu
            cases hu
            omega
          · exact Int.le_refl _
        · rw [if_neg e]
          rcases hp with hp | ⟨e2, _⟩
          · exact h.up k' v' hp
          · exact absurd e2 e
      · rw [aget_aput] at hu
        split at hu
        · rename_i e; cases hu; exact .inr ⟨e, rfl⟩
        · exact .inl (h.dn _ _ hu)
    · rename_i nlt
      refine ⟨h.nd, fun k' v' hp => ?_, fun k' u hu => .inl (h.dn _ _ hu)⟩
      rcases hp with hp | ⟨rfl, rfl⟩
      · exact h.up k' v' hp
      · exact ⟨w, q, by omega⟩
theorem top_fold {g : β → Int} (key : γ → Vec) (val : γ → β) : ∀ (X : List γ) (F : List (Vec × β)) (P : Vec → β → Prop), Top g F P → Top g (X.foldl (fun f x => amax g f (key x) (val x)) F) (fun k v => P k v ∨ ∃ x ∈ X, key x = k ∧ val x = v)
  | [], F, P, h => top_iff h fun k v => by simp
  | x :: X, F, P, h => by
    have := top_fold key val X _ _ (top_amax h (key x) (val x))
    refine top_iff this fun k v => ?_
    constructor
    · rintro ((a | ⟨rfl, rfl⟩) | ⟨y, hy, a, b⟩)
      · exact .inl a
      · exact .inr ⟨x, List.mem_cons_self .., rfl, rfl⟩
      · exact .inr ⟨y, List.mem_cons_of_mem _ hy, a, b⟩
    · rintro (a | ⟨y, hy, a, b⟩)
      · exact .inl (.inl a)
      · rcases List.mem_cons.mp hy with rfl | hy
        · exact .inl (.inr ⟨a.symm, b.symm⟩)
        · exact .inr ⟨y, hy, a, b⟩
end
end Lm

set_option Elab.async false
set_option linter.all false
/-! Walks over the best lines: FF n holds, by state, the greatest weight of the walks of n entries. -/
namespace Lf
open PySem Lr Lm
abbrev En := Vec × (Int × Int × Int)
def wtL (L : List En) : Int := (L.map fun x => x.2.1).sum
def sta (ps : Vec) (L : List En) : Vec := stL ps (L.map fun x => x.1)
def Wlk (ps : Vec) (best : Best) (n : Nat) (s : Vec) (w : Int) : Prop := ∃ L : List En, L.length = n ∧ (∀ x ∈ L, x ∈ best) ∧ sta ps L = s ∧ wtL L = w
theorem wtL_app (L M : List En) : wtL (L ++ M) = wtL L + wtL M := by unfold wtL; rw [List.map_append, List.sum_append]
theorem wtL_snoc (L : List En) (x : En) : wtL (L ++ [x]) = wtL L + x.2.1 := by rw [wtL_app]; simp [wtL]
theorem sta_snoc (ps : Vec) (L : List En) (x : En) (h : x.1.length = ps.length) : sta ps (L ++ [x]) = addv ps (sta ps L) x.1 := by
  unfold sta
  rw [List.map_append, List.map_cons, List.map_nil, stL_snoc _ _ _ h]
theorem foldl_flat {α β γ : Type} (f : γ → α → β → γ) (m : List β) : ∀ (l : List α) (g : γ), l.foldl (fun g x => m.foldl (fun g y => f g x y) g) g = (l.flatMap fun x => m.map fun y => (x, y)).foldl (fun g z => f g z.1 z.2) g
  | [], g => rfl
  | x :: l, g => by
    rw [List.foldl_cons, foldl_flat f m l, List.flatMap_cons, List.foldl_append, List.foldl_map]
theorem oneMore_eq (ps : Vec) (sums : Sums) (best : Best) : oneMore ps sums best = (sums.flatMap fun x => best.map fun y => (x, y)).foldl (fun f z => amax id f (addv ps z.1.1 z.2.1) (z.1.2 + z.2.2.1)) [] := by
  have := foldl_flat (fun (f : Sums) (x : Vec × Int) (m : Vec × (Int × Int × Int)) => amax id f (addv ps x.1 m.1) (x.2 + m.2.1)) best sums []
  exact this
/-- it is enough that the greatest things of P are in R, and all of R under P -/
theorem top_dom {β : Type} {g : β → Int} {F : List (Vec × β)} {P R : Vec → β → Prop} (h : Top g F P) (e1 : ∀ k v, P k v → R k v) (e2 : ∀ k v, R k v → ∃ u, P k u ∧ g v ≤ g u) : Top g F R :=
  ⟨h.nd, fun k v r => by
    obtain ⟨u, pu, le⟩ := e2 k v r
    obtain ⟨t, ht, le2⟩ := h.up k u pu
    exact ⟨t, ht, Int.le_trans le le2⟩, fun k u q => e1 k u (h.dn k u q)⟩
theorem snoc_ex {α : Type} {L : List α} {n : Nat} (h : L.length = n + 1) : ∃ M x, L = M ++ [x] ∧ M.length = n := by
  have hne : L ≠ [] := fun e => by rw [e] at h; cases h
  exact ⟨L.dropLast, L.getLast hne, (List.dropLast_concat_getLast hne).symm, by simp [h]⟩
theorem top_FF {ps : Vec} {best : Best} (hl : ∀ x ∈ best, x.1.length = ps.length) : ∀ n, Top id (FF ps best n) (Wlk ps best n)
  | 0 => by
    refine ⟨by simp [FF, keysA], fun k v h => ?_, fun k u h => ?_⟩
    · obtain ⟨L, h0, _, h1, h2⟩ := h
      have : L = [] := List.length_eq_zero_iff.mp h0
      subst this
      refine ⟨0, ?_, ?_⟩
      · show aget [(zerov ps, (0 : Int))] k = _
        rw [aget_cons, if_pos (by rw [← h1]; exact (stL_nil ps).symm)]
      · rw [← h2]; exact Int.le_refl _
    · have h : aget [(zerov ps, (0 : Int))] k = some u := h
      rw [aget_cons] at h
      split at h
      · rename_i e
        cases h
        exact ⟨[], rfl, (fun x hx => by cases hx), (by rw [← e]; exact stL_nil ps), rfl⟩
      · cases h
  | n + 1 => by
    have ih := top_FF hl n
    have t := top_fold (g := id) (fun (z : (Vec × Int) × En) => addv ps z.1.1 z.2.1) (fun z => z.1.2 + z.2.2.1) ((FF ps best n).flatMap fun x => best.map fun y => (x, y)) [] _ (top_nil id)
    rw [← oneMore_eq] at t
    show Top id (oneMore ps (FF ps best n) best) _
    refine top_dom t (fun k v h => ?_) (fun k v h => ?_)
    · rcases h with h | ⟨z, hz, rfl, rfl⟩
      · exact h.elim
      · obtain ⟨x, hx, hz⟩ := List.mem_flatMap.mp hz
        obtain ⟨y, hy, rfl⟩ := List.mem_map.mp hz
        obtain ⟨L, h0, h1, h2, h3⟩ := ih.dn x.1 x.2 (mem_aget ih.nd hx)
        refine ⟨L ++ [y], by simp [h0], fun u hu => ?_, ?_, ?_⟩
        · rcases List.mem_append.mp hu with h | h
          · exact h1 u h
          · rw [List.mem_singleton.mp h]; exact hy
        · rw [sta_snoc _ _ _ (hl y hy), h2]
        · rw [wtL_snoc, h3]
    · obtain ⟨L, h0, h1, h2, h3⟩ := h
      obtain ⟨M, y, rfl, hM⟩ := snoc_ex h0
      have hy : y ∈ best := h1 y (by simp)
      obtain ⟨u, hu, le⟩ := ih.up (sta ps M) (wtL M) ⟨M, hM, fun x hx => h1 x (by simp [hx]), rfl, rfl⟩
      refine ⟨u + y.2.1, .inr ⟨((sta ps M, u), y), List.mem_flatMap.mpr ⟨_, aget_mem hu, List.mem_map.mpr ⟨y, hy, rfl⟩⟩, ?_, rfl⟩, ?_⟩
      · show addv ps (sta ps M) y.1 = k
        rw [← h2, sta_snoc _ _ _ (hl y hy)]
      · rw [← h3, wtL_snoc]
        have le : wtL M ≤ u := le
        show wtL M + y.2.1 ≤ u + y.2.1
        omega
end Lf

set_option Elab.async false
set_option linter.all false
/-! Led: from here on every walk is a walk of one less with the heaviest move put behind it. -/
namespace Lf
open PySem Lr Lm
structure BOk (ps : Vec) (best : Best) : Prop where
  hl : ∀ x ∈ best, x.1.length = ps.length
  hp : ∀ p ∈ ps, 0 < p
  ne : best ≠ []
theorem heavy {best : Best} (hb : best ≠ []) : ∃ t ∈ best, t.1 = mvS best ∧ t.2.1 = mostS best ∧ ∀ x ∈ best, x.2.1 ≤ mostS best := by
  have hne := mvL_ne hb
  have hmv : mvS best ∈ mvL best := by
    unfold mvS
    cases h : mvL best with
    | nil => exact absurd h hne
    | cons y t => exact List.mem_cons_self ..
  obtain ⟨t, ht, e⟩ := List.mem_map.mp hmv
  obtain ⟨h1, h2⟩ := List.mem_filter.mp ht
  refine ⟨t, h1, e, of_decide_eq_true h2, fun x hx => ?_⟩
  have hne2 : ((best.map Prod.snd).map fun t => t.1) ≠ [] := by simpa using hb
  exact (mx_mem hne2).2 _ (List.mem_map.mpr ⟨x.2, List.mem_map.mpr ⟨x, hx, rfl⟩, rfl⟩)
def Led (ps : Vec) (best : Best) (n : Nat) : Prop := ∀ L : List En, L.length = n + 1 → (∀ x ∈ L, x ∈ best) → ∃ M : List En, M.length = n ∧ (∀ x ∈ M, x ∈ best) ∧ addv ps (sta ps M) (mvS best) = sta ps L ∧ wtL L ≤ wtL M + mostS best
section
variable {ps : Vec} {best : Best}
theorem mv_len (B : BOk ps best) : (mvS best).length = ps.length := by
  obtain ⟨t, ht, e, _⟩ := heavy B.ne
  rw [← e]
  exact B.hl t ht
theorem sta_heavy (B : BOk ps best) {t : En} (e : t.1 = mvS best) (M : List En) : sta ps (M ++ [t]) = addv ps (sta ps M) (mvS best) := by
  rw [sta_snoc _ _ _ (by rw [e]; exact mv_len B), e]
theorem sta_in (B : BOk ps best) (L : List En) : sta ps L ∈ allSt ps := stL_in _ _ B.hp
theorem inj_sta {A C D : List En} (h : sta ps (A ++ D) = sta ps (C ++ D)) : sta ps A = sta ps C := by
  unfold sta at *
  rw [stL_eq] at *
  intro c hc
  have := h c hc
  rw [List.map_append, List.map_append, tot_app, tot_app] at this
  apply Int.emod_eq_emod_iff_emod_sub_eq_zero.mpr
  have := Int.emod_eq_emod_iff_emod_sub_eq_zero.mp this
  rw [show ∀ a b c : Int, a + c - (b + c) = a - b by intros; omega] at this
  exact this
theorem cong_sta {A C : List En} (h : sta ps A = sta ps C) (D : List En) : sta ps (A ++ D) = sta ps (C ++ D) := by
  unfold sta at *
  rw [stL_eq] at *
  intro c hc
  have := h c hc
  rw [List.map_append, List.map_append, tot_app, tot_app]
  apply Int.emod_eq_emod_iff_emod_sub_eq_zero.mpr
  have := Int.emod_eq_emod_iff_emod_sub_eq_zero.mp this
  rw [show ∀ a b c : Int, a + c - (b + c) = a - b by intros; omega]
  exact this
theorem comm_sta (A C D : List En) : sta ps (A ++ C ++ D) = sta ps (A ++ D ++ C) := by
  unfold sta
  rw [stL_eq]
  intro c hc
  simp only [List.map_append, tot_app]
  congr 1
  omega
theorem inj_mv (B : BOk ps best) {A C : List En} (h : addv ps (sta ps A) (mvS best) = addv ps (sta ps C) (mvS best)) : sta ps A = sta ps C := by
  obtain ⟨t, ht, e, _⟩ := heavy B.ne
  rw [← sta_heavy B e, ← sta_heavy B e] at h
  exact inj_sta h
theorem led_succ (B : BOk ps best) {n : Nat} (h : Led ps best n) : Led ps best (n + 1) := by
  obtain ⟨t, ht, e, _⟩ := heavy B.ne
  intro L h0 h1
  obtain ⟨L', y, rfl, hL⟩ := snoc_ex h0
  obtain ⟨M, m0, m1, m2, m3⟩ := h L' hL fun x hx => h1 x (by simp [hx])
  refine ⟨M ++ [y], by simp [m0], fun x hx => ?_, ?_, ?_⟩
  · rcases List.mem_append.mp hx with h | h
    · exact m1 x h
    · exact h1 x (by simp [List.mem_singleton.mp h])
  · rw [← sta_heavy B e, comm_sta]
    exact cong_sta (by rw [sta_heavy B e, m2]) _
  · rw [wtL_snoc, wtL_snoc]
    omega
theorem led_le (B : BOk ps best) {n m : Nat} (h : Led ps best n) (hm : n ≤ m) : Led ps best m := by
  induction m with
  | zero => rwa [show n = 0 by omega] at h
  | succ m ih =>
    rcases Nat.lt_or_ge m n with hl | hl
    · rwa [show n = m + 1 by omega] at h
    · exact led_succ B (ih hl)
theorem led_big (B : BOk ps best) {n : Nat} (hn : (allSt ps).length ≤ n + 1) : Led ps best n := by
  obtain ⟨t, ht, e1, e2, e3⟩ := heavy B.ne
  intro L h0 h1
  obtain ⟨M, m0, m1, m2, m3⟩ := shorten B.hp (fun x : En => x.1) (fun x => x.2.1) t L (fun x hx => by rw [e2]; exact e3 x (h1 x hx)) (by omega)
  refine ⟨M, by omega, fun x hx => ?_, ?_, ?_⟩
  · rcases m1 x hx with h | h
    · exact h1 x h
    · rw [h]; exact ht
  · rw [← sta_heavy B e1]; exact m2
  · rw [← e2]; exact m3
theorem keys_st (B : BOk ps best) {F : Sums} {n : Nat} (h : Top id F (Wlk ps best n)) : ∀ k ∈ keysA F, ∃ M : List En, M.length = n ∧ (∀ x ∈ M, x ∈ best) ∧ sta ps M = k := by
  intro k hk
  obtain ⟨x, hx, rfl⟩ := List.mem_map.mp hk
  obtain ⟨M, a, b, c, _⟩ := h.dn x.1 x.2 (mem_aget h.nd hx)
  exact ⟨M, a, b, c⟩
theorem nd_map {α β : Type} {f : α → β} : ∀ {l : List α}, l.Nodup → (∀ a ∈ l, ∀ b ∈ l, f a = f b → a = b) → (l.map f).Nodup
  | [], _, _ => by simp
  | x :: l, h, hi => by
    obtain ⟨h1, h2⟩ := List.nodup_cons.mp h
    rw [List.map_cons, List.nodup_cons]
    refine ⟨fun hm => ?_, nd_map h2 fun a ha b hb => hi a (List.mem_cons_of_mem _ ha) b (List.mem_cons_of_mem _ hb)⟩
    obtain ⟨y, hy, e⟩ := List.mem_map.mp hm
    have := hi y (List.mem_cons_of_mem _ hy) x (List.mem_cons_self ..) e
    rw [this] at hy
    exact h1 hy
theorem nd_keys (B : BOk ps best) {F : Sums} {n : Nat} (h : Top id F (Wlk ps best n)) : ((keysA F).map fun k => addv ps k (mvS best)).Nodup := by
  refine nd_map h.nd fun a ha b hb e => ?_
  obtain ⟨A, _, _, rfl⟩ := keys_st B h a ha
  obtain ⟨C, _, _, rfl⟩ := keys_st B h b hb
  exact inj_mv B e
theorem key_mem {F : Sums} {k : Vec} (h : k ∈ keysA F) : ∃ u, aget F k = some u := by
  cases q : aget F k with
  | none => exact absurd h (aget_none.mp q)
  | some u => exact ⟨u, rfl⟩
theorem mem_key {F : Sums} {k : Vec} {u : Int} (h : aget F k = some u) : k ∈ keysA F := List.mem_map.mpr ⟨_, aget_mem h, rfl⟩
theorem led_at (B : BOk ps best) {n : Nat} : ledAt ps best n = true ↔ Led ps best n := by
  obtain ⟨t, ht, e1, e2, e3⟩ := heavy B.ne
  have t0 := top_FF B.hl n
  have t1 := top_FF B.hl (n + 1)
  unfold ledAt ledOn
  rw [Bool.and_eq_true, decide_eq_true_eq, List.all_eq_true]
  constructor
  · rintro ⟨hlen, hall⟩ L h0 h1
    obtain ⟨u, hu, le⟩ := t1.up (sta ps L) (wtL L) ⟨L, h0, h1, rfl, rfl⟩
    have hk := mem_key hu
    have hsub : ∀ k ∈ (keysA (FF ps best n)).map (fun k => addv ps k (mvS best)), k ∈ keysA (FF ps best (n + 1)) := by
      intro k hk
      obtain ⟨k', hk', rfl⟩ := List.mem_map.mp hk
      obtain ⟨x, hx, rfl⟩ := List.mem_map.mp hk'
      exact mem_key (of_decide_eq_true (hall x hx))
    have hin : sta ps L ∈ (keysA (FF ps best n)).map fun k => addv ps k (mvS best) := by
      apply Classical.byContradiction
      intro hn
      have := nd_le (sta ps L :: (keysA (FF ps best n)).map fun k => addv ps k (mvS best)) (keysA (FF ps best (n + 1))) (List.nodup_cons.mpr ⟨hn, nd_keys B t0⟩) fun k hk' => by
        rcases List.mem_cons.mp hk' with h | h
        · rw [h]; exact hk
        · exact hsub k h
      rw [List.length_cons, List.length_map] at this
      unfold keysA at this
      rw [List.length_map, List.length_map] at this
      omega
    obtain ⟨k', hk', ek⟩ := List.mem_map.mp hin
    obtain ⟨x, hx, rfl⟩ := List.mem_map.mp hk'
    obtain ⟨M, m0, m1, m2, m3⟩ := t0.dn x.1 x.2 (mem_aget t0.nd hx)
    have hx2 := of_decide_eq_true (hall x hx)
    rw [ek, hu] at hx2
    have hx3 := Option.some.inj hx2
    refine ⟨M, m0, m1, by rw [m2]; exact ek, ?_⟩
    have le : wtL L ≤ u := le
    rw [m3]
    omega
  · intro led
    have hgo : ∀ x ∈ FF ps best n, aget (FF ps best (n + 1)) (addv ps x.1 (mvS best)) = some (x.2 + mostS best) := by
      intro x hx
      obtain ⟨M, m0, m1, m2, m3⟩ := t0.dn x.1 x.2 (mem_aget t0.nd hx)
      obtain ⟨u, hu, le⟩ := t1.up (sta ps (M ++ [t])) (wtL (M ++ [t])) ⟨M ++ [t], by simp [m0], fun y hy => by
        rcases List.mem_append.mp hy with h | h
        · exact m1 y h
        · rw [List.mem_singleton.mp h]; exact ht, rfl, rfl⟩
      obtain ⟨L, l0, l1, l2, l3⟩ := t1.dn _ _ hu
      obtain ⟨M', n0, n1, n2, n3⟩ := led L l0 l1
      rw [l2, sta_heavy B e1] at n2
      have hs := inj_mv B n2
      obtain ⟨v, hv, le2⟩ := t0.up (sta ps M') (wtL M') ⟨M', n0, n1, rfl, rfl⟩
      rw [hs, m2, mem_aget t0.nd hx] at hv
      have hv := Option.some.inj hv
      rw [sta_heavy B e1, m2] at hu
      rw [hu]
      have le : wtL (M ++ [t]) ≤ u := le
      have le2 : wtL M' ≤ v := le2
      rw [wtL_snoc, e2, m3] at le
      congr 1
      omega
    refine ⟨?_, fun x hx => decide_eq_true (hgo x hx)⟩
    have a := nd_le _ (keysA (FF ps best (n + 1))) (nd_keys B t0) fun k hk => by
      obtain ⟨k', hk', rfl⟩ := List.mem_map.mp hk
      obtain ⟨x, hx, rfl⟩ := List.mem_map.mp hk'
      exact mem_key (hgo x hx)
    have b := nd_le (keysA (FF ps best (n + 1))) ((keysA (FF ps best n)).map fun k => addv ps k (mvS best)) t1.nd fun k hk => by
      obtain ⟨L, l0, l1, rfl⟩ := keys_st B t1 k hk
      obtain ⟨M, m0, m1, m2, m3⟩ := led L l0 l1
      obtain ⟨v, hv, _⟩ := t0.up (sta ps M) (wtL M) ⟨M, m0, m1, rfl, rfl⟩
      exact List.mem_map.mpr ⟨_, mem_key hv, m2⟩
    unfold keysA at a b
    rw [List.length_map, List.length_map, List.length_map] at a b
    omega
theorem least {p : Nat → Bool} : ∀ {N : Nat}, p N = true → ∃ n, n ≤ N ∧ p n = true ∧ ∀ m, m < n → p m = false := by
  intro N
  induction N using Nat.strongRecOn with
  | ind N ih =>
    intro h
    rcases Classical.em (∃ m, m < N ∧ p m = true) with ⟨m, hm, pm⟩ | hn
    · obtain ⟨n, a, b, c⟩ := ih m hm pm
      exact ⟨n, by omega, b, c⟩
    · refine ⟨N, Nat.le_refl _, h, fun m hm => ?_⟩
      cases q : p m with
      | false => rfl
      | true => exact absurd ⟨m, hm, q⟩ hn
theorem n0_ex (B : BOk ps best) : ∃ n0, n0 ≤ (allSt ps).length ∧ ledAt ps best n0 = true ∧ ∀ m, m < n0 → ledAt ps best m = false := least ((led_at B).mpr (led_big B (Nat.le_succ _)))
theorem n0_uniq {p : Nat → Bool} {n m : Nat} (h1 : p n = true) (h2 : ∀ i, i < n → p i = false) (h3 : p m = true) (h4 : ∀ i, i < m → p i = false) : n = m := by
  rcases Nat.lt_trichotomy n m with h | h | h
  · rw [h4 n h] at h1; cases h1
  · exact h
  · rw [h2 m h] at h3; cases h3
theorem aput_new {F : Sums} {k : Vec} {v : Int} (h : k ∉ keysA F) : aput F k v = F ++ [(k, v)] := by
  unfold aput
  rw [if_neg (fun q => h (any_key.mp q))]
theorem shift_fold (mv : Vec) (most : Int) : ∀ (l g : Sums), (keysA g ++ l.map fun x => addv ps x.1 mv).Nodup → l.foldl (fun g x => aput g (addv ps x.1 mv) (x.2 + most)) g = g ++ l.map fun x => (addv ps x.1 mv, x.2 + most)
  | [], g, _ => by simp
  | x :: l, g, h => by
    have hn : addv ps x.1 mv ∉ keysA g := by
      intro hm
      rw [List.map_cons, List.nodup_append] at h
      exact h.2.2 _ hm _ (List.mem_cons_self ..) rfl
    rw [List.foldl_cons, aput_new hn, shift_fold mv most l]
    · simp
    · unfold keysA at *
      rw [List.map_append, List.map_cons, List.map_nil, List.append_assoc]
      rw [List.map_cons] at h
      exact h
theorem shift_map (B : BOk ps best) {F : Sums} {n : Nat} (h : Top id F (Wlk ps best n)) : shiftD ps F (mvS best) (mostS best) = F.map fun x => (addv ps x.1 (mvS best), x.2 + mostS best) := by
  unfold shiftD
  rw [shift_fold]
  · rfl
  · have := nd_keys B h
    unfold keysA at *
    rw [List.map_map] at this
    exact this
theorem top_shift (B : BOk ps best) {F : Sums} {n : Nat} (h : Top id F (Wlk ps best n)) (led : Led ps best n) : Top id (shiftD ps F (mvS best) (mostS best)) (Wlk ps best (n + 1)) := by
  obtain ⟨t, ht, e1, e2, e3⟩ := heavy B.ne
  rw [shift_map B h]
  have nd : (keysA (F.map fun x => (addv ps x.1 (mvS best), x.2 + mostS best))).Nodup := by
    have := nd_keys B h
    unfold keysA at *
    rw [List.map_map] at *
    exact this
  refine ⟨nd, fun k v hw => ?_, fun k u hu => ?_⟩
  · obtain ⟨L, l0, l1, rfl, rfl⟩ := hw
    obtain ⟨M, m0, m1, m2, m3⟩ := led L l0 l1
    obtain ⟨u, hu, le⟩ := h.up (sta ps M) (wtL M) ⟨M, m0, m1, rfl, rfl⟩
    refine ⟨u + mostS best, mem_aget nd (List.mem_map.mpr ⟨_, aget_mem hu, by rw [← m2]⟩), ?_⟩
    have le : wtL M ≤ u := le
    show wtL L ≤ u + mostS best
    omega
  · obtain ⟨x, hx, e⟩ := List.mem_map.mp (aget_mem hu)
    obtain ⟨M, m0, m1, m2, m3⟩ := h.dn x.1 x.2 (mem_aget h.nd hx)
    refine ⟨M ++ [t], by simp [m0], fun y hy => ?_, ?_, ?_⟩
    · rcases List.mem_append.mp hy with h | h
      · exact m1 y h
      · rw [List.mem_singleton.mp h]; exact ht
    · rw [sta_heavy B e1, m2]
      exact congrArg Prod.fst e
    · rw [wtL_snoc, e2, m3]
      exact congrArg Prod.snd e
theorem top_GG (B : BOk ps best) {n0 : Nat} (led : Led ps best n0) : ∀ j, Top id (GG ps best n0 j) (Wlk ps best (n0 + j))
  | 0 => top_FF B.hl n0
  | j + 1 => top_shift B (top_GG B led j) (led_le B led (Nat.le_add_right _ _))
theorem top_len (B : BOk ps best) {F : Sums} {n : Nat} (h : Top id F (Wlk ps best n)) : F.length ≤ (allSt ps).length := by
  have := nd_le (keysA F) (allSt ps) h.nd fun k hk => by
    obtain ⟨M, _, _, rfl⟩ := keys_st B h k hk
    exact sta_in B M
  unfold keysA at this
  rwa [List.length_map] at this
theorem top_ne (B : BOk ps best) {F : Sums} {n : Nat} (h : Top id F (Wlk ps best n)) : F ≠ [] := by
  obtain ⟨t, ht, _⟩ := heavy B.ne
  obtain ⟨u, hu, _⟩ := h.up _ _ ⟨List.replicate n t, by simp, fun x hx => by rw [List.eq_of_mem_replicate hx]; exact ht, rfl, rfl⟩
  intro e
  rw [e] at hu
  cases hu
theorem top_kl (B : BOk ps best) {F : Sums} {n : Nat} (h : Top id F (Wlk ps best n)) : ∀ x ∈ F, x.1.length = ps.length := by
  intro x hx
  obtain ⟨M, _, _, e⟩ := keys_st B h x.1 (List.mem_map.mpr ⟨x, hx, rfl⟩)
  rw [← e]
  exact stL_len _ _
end
end Lf

set_option Elab.async false
set_option linter.all false
/-! What one book asks, as weights of lines and a rest by the state. -/
namespace Lf
open PySem Lr Lm
def dot (l m : List Int) : Int := (List.zipWith (fun x y => x * y) l m).sum
theorem dot_set : ∀ (l v : List Int) (i : Nat) (z : Int), i < l.length → i < v.length → dot l (v.set i (v.getD i 0 + z)) = dot l v + l.getD i 0 * z
  | [], v, i, z, h, _ => by simp at h
  | x :: l, [], i, z, _, h => by simp at h
  | x :: l, y :: v, 0, z, _, _ => by
    simp only [dot, List.set_cons_zero, List.getD_cons_zero, List.zipWith_cons_cons, List.sum_cons, Int.mul_add]
    omega
  | x :: l, y :: v, i + 1, z, h, h2 => by
    have := dot_set l v i z (by simpa using h) (by simpa using h2)
    simp only [dot, List.set_cons_succ, List.getD_cons_succ, List.zipWith_cons_cons, List.sum_cons] at *
    omega
theorem dot_zero : ∀ (l : List Int) (n : Nat), dot l (List.replicate n 0) = 0
  | [], n => by simp [dot]
  | x :: l, 0 => by simp [dot]
  | x :: l, n + 1 => by
    have := dot_zero l n
    simp only [dot, List.replicate_succ, List.zipWith_cons_cons, List.sum_cons] at *
    omega
theorem kAt_self {b : Bk} (nd : b.names.Nodup) {k : Knd} (hk : k ∈ b.kinds) : kAt b k.name = k := by
  have h := kAt_mem (b := b) (nm := k.name) (List.mem_map_of_mem hk)
  have : ∀ (l : List Knd), (l.map Knd.name).Nodup → ∀ x ∈ l, ∀ y ∈ l, x.name = y.name → x = y := by
    intro l
    induction l with
    | nil => intro _ x hx; cases hx
    | cons z l ih =>
      intro hn x hx y hy e
      rw [List.map_cons, List.nodup_cons] at hn
      rcases List.mem_cons.mp hx with hx1 | hx1
      · rcases List.mem_cons.mp hy with hy1 | hy1
        · rw [hx1, hy1]
        · exact absurd (List.mem_map.mpr ⟨y, hy1, by rw [← e, hx1]⟩) hn.1
      · rcases List.mem_cons.mp hy with hy1 | hy1
        · exact absurd (List.mem_map.mpr ⟨x, hx1, by rw [e, hy1]⟩) hn.1
        · exact ih hn.2 x hx1 y hy1 e
  exact this b.kinds nd _ h.1 _ hk h.2
/-- every group is some kind's -/
abbrev Gk (b : Bk) : Prop := ∀ g : Nat, g < b.groups.length → ∃ k ∈ b.kinds, k.grp = g
theorem sog_at {b : Bk} (ok : BkOk b) (gk : Gk b) (B : Int) {g : Nat} (hg : g < b.groups.length) : sog B b (g : Int) = rtg B b.whole (b.groups.getD g []) := by
  obtain ⟨k, hk, e⟩ := gk g hg
  unfold sog
  cases q : b.kinds.find? (fun k => decide ((k.grp : Int) = (g : Int))) with
  | none =>
    rw [List.find?_eq_none] at q
    have := q k hk
    simp [e] at this
  | some k' =>
    have h1 := List.find?_some q
    have h2 : (k'.grp : Int) = g := of_decide_eq_true h1
    have h2 : k'.grp = g := by omega
    have hm := List.mem_of_find?_eq_some q
    show (shd b k'.name).1 * (B / (shd b k'.name).2) = _
    unfold shd
    rw [kAt_self ok.nd hm]
    unfold Bk.share Bk.grpOf rtg
    rw [h2]
theorem shs_eq {b : Bk} (ok : BkOk b) (gk : Gk b) (B : Int) : shs B b = b.groups.map (rtg B b.whole) := by
  unfold shs rng
  apply List.ext_getElem
  · simp
  · intro i h1 h2
    have hi : i < b.groups.length := by simpa using h2
    rw [List.getElem_map, List.getElem_map, List.getElem_map, List.getElem_range]
    rw [show (0 : Int) + (i : Nat) = (i : Nat) by omega, sog_at ok gk B hi]
    rw [List.getD_eq_getElem?_getD, List.getElem?_eq_getElem hi]
    rfl
theorem shSum_dot {B : Int} {ws : List Stp} : ∀ (gs : List (List Stp)) (v s : List Int), v.length = gs.length → s.length = gs.length → shSum B ws gs v s = dot (gs.map (rtg B ws)) v - dot (gs.map (rtg B ws)) s
  | [], v, s, _, _ => by simp [shSum, dot]
  | g :: gs, [], s, h, _ => by simp at h
  | g :: gs, _ :: _, [], _, h => by simp at h
  | g :: gs, x :: v, y :: s, h1, h2 => by
    have := shSum_dot (B := B) (ws := ws) gs v s (by simpa using h1) (by simpa using h2)
    simp only [shSum, dot, List.map_cons, List.zipWith_cons_cons, List.sum_cons] at *
    rw [this, Int.mul_sub]
    omega
theorem cong_red {ws : List Stp} : ∀ (gs : List (List Stp)) (v : List Int), v.length = gs.length → Cong ws gs v (redv (gs.map fun g => periodOf (g ++ ws)) v)
  | [], [], _ => .nil
  | [], _ :: _, h => by simp at h
  | g :: gs, [], h => by simp at h
  | g :: gs, x :: v, h => by
    have := cong_red (ws := ws) gs v (by simpa using h)
    refine .cons ?_ this
    exact Int.dvd_self_sub_emod
theorem red_len (ps v : Vec) (h : v.length = ps.length) : (redv ps v).length = ps.length := by
  unfold redv
  rw [List.length_map, List.length_zip]
  omega
/-- the weight of a line in one book -/
def w1 (B : Int) (b : Bk) (l : Str × Int) : Int := led (kAt b l.1).steps l.2 * (shd b l.1).1 * (B / (shd b l.1).2)
theorem dot_sums {b : Bk} (ok : BkOk b) (gk : Gk b) (B : Int) : ∀ (n : Nat) (bl : List (Str × Int)), bl.length = n → (∀ x ∈ bl, x.1 ∈ b.names) → dot (shs B b) (bsums b bl) = (bl.map (w1 B b)).sum := by
  intro n
  induction n with
  | zero =>
    intro bl h _
    rw [List.length_eq_zero_iff.mp h]
    exact dot_zero _ _
  | succ n ih =>
    intro bl h hb
    obtain ⟨M, x, rfl, hM⟩ := snoc_ex h
    rw [bsums_snoc]
    obtain ⟨km, kg, gm⟩ := grp_at ok (hb x (by simp))
    have hi := (List.getElem?_eq_some_iff.mp kg).1
    rw [dot_set _ _ _ _ (by rw [shs_eq ok gk, List.length_map]; exact hi) (by rw [bsums_len b _ _ rfl]; exact hi)]
    rw [ih M hM fun y hy => hb y (by simp [hy])]
    rw [List.map_append, List.sum_append, List.map_cons, List.map_nil, List.sum_cons, List.sum_nil, Int.add_zero]
    congr 1
    rw [shs_eq ok gk, List.getD_eq_getElem?_getD, List.getElem?_map, kg]
    show rtg B b.whole (b.grpOf (kAt b x.1)) * _ = _
    unfold w1 shd Bk.share rtg
    ac_rfl
theorem ask_id {b : Bk} (ok : BkOk b) (gk : Gk b) {B : Int} (hB : ∀ g ∈ b.groups, (rateOf (g ++ b.whole)).2 ∣ B) {bl : List (Str × Int)} (hb : ∀ x ∈ bl, x.1 ∈ b.names) :
    B * askN b bl = B * b.askS (redv b.periods (bsums b bl)) - dot (shs B b) (redv b.periods (bsums b bl)) + (bl.map (w1 B b)).sum := by
  have hl := bsums_len b _ bl rfl
  have hp : b.periods.length = b.groups.length := List.length_map ..
  have c := cong_red (ws := b.whole) b.groups (bsums b bl) hl
  have h := ask_shift ok.wo.1 c (fun g hg => (ok.go g hg).1) hB 0
  rw [shSum_dot _ _ _ hl (red_len _ _ (by rw [List.length_map]; exact hl) |>.trans (List.length_map ..)), ← shs_eq ok gk, dot_sums ok gk B _ bl rfl hb] at h
  simp only [Int.zero_add] at h
  unfold askN Bk.askS Bk.periods
  omega
end Lf

set_option Elab.async false
set_option linter.all false
/-! Two books side by side: bills and walks. -/
namespace Lf
open PySem Lr Lm
def vv (b c : Bk) (bl : List (Str × Int)) : List Int := bsums b bl ++ bsums c bl
theorem spans_RD (b c : Bk) : spansS (RD b c) = b.periods ++ c.periods := by simp [spansS]
theorem move_RD (b c : Bk) (nm : Str) (a : Int) : moveS (RD b c) nm a = vv b c [(nm, a)] := by simp [moveS, vv]
theorem wgt_RD (B : Int) (b c : Bk) (l : Str × Int) : wgtS B (RD b c) l.1 l.2 = w1 B b l - w1 B c l := by
  simp only [wgtS, RD, List.foldl_cons, List.foldl_nil, wgt1, w1, Int.one_mul, Int.neg_mul]
  omega
theorem fold_dot (sg : Int) : ∀ (l m : List Int) (q : Int), (l.zip m).foldl (fun t y => t - sg * y.1 * y.2) q = q - sg * dot l m
  | [], m, q => by simp [dot]
  | x :: l, [], q => by simp [dot]
  | x :: l, y :: m, q => by
    have := fold_dot sg l m (q - sg * x * y)
    simp only [List.zip_cons_cons, List.foldl_cons, dot, List.zipWith_cons_cons, List.sum_cons, Int.mul_add, ← Int.mul_assoc] at *
    omega
theorem dot_app (l m n : List Int) (h : l.length = m.length) : dot l (m ++ n) = dot l m := by
  unfold dot
  congr 1
  induction l generalizing m with
  | nil => cases m with
    | nil => simp
    | cons y m => simp at h
  | cons x l ih =>
    cases m with
    | nil => simp at h
    | cons y m => rw [List.cons_append, List.zipWith_cons_cons, List.zipWith_cons_cons, ih m (by simpa using h)]
theorem shs_len (B : Int) (b : Bk) : (shs B b).length = b.groups.length := by unfold shs; rw [List.length_map, rng_len]
theorem base_RD {b c : Bk} {s t : Vec} (hs : s.length = b.groups.length) (ht : t.length = c.groups.length) : baseS (RD b c) (s ++ t) = botS (RD b c) * b.askS s - dot (shs (botS (RD b c)) b) s - (botS (RD b c) * c.askS t - dot (shs (botS (RD b c)) c) t) := by
  have e1 : (s ++ t).drop b.groups.length = t := by rw [← hs]; exact List.drop_left
  have e2 : (s ++ t).take b.groups.length = s := by rw [← hs]; exact List.take_left
  have e3 : t.take c.groups.length = t := by rw [← ht]; exact List.take_length
  unfold baseS
  generalize botS (RD b c) = B
  have eg : gapS (RD b c) (s ++ t) = b.askS s - c.askS t := by
    unfold gapS gapF
    simp only [List.foldl_cons, List.foldl_nil, gap1, List.drop_zero, Nat.zero_add, e1, e2, e3]
    omega
  rw [eg]
  unfold baseF
  simp only [List.foldl_cons, List.foldl_nil, base1, List.drop_zero, Nat.zero_add, e1]
  rw [fold_dot, fold_dot, dot_app _ _ _ (by rw [shs_len, hs]), Int.sub_mul]
  have h1 := Int.mul_comm (b.askS s) B
  have h2 := Int.mul_comm (c.askS t) B
  omega
theorem redv_app (p q s t : Vec) (h : s.length = p.length) : redv (p ++ q) (s ++ t) = redv p s ++ redv q t := by
  unfold redv
  rw [List.zip_append h, List.map_append]
theorem per_len (b : Bk) : b.periods.length = b.groups.length := List.length_map ..
theorem red_vv (b c : Bk) (bl : List (Str × Int)) : redv (spansS (RD b c)) (vv b c bl) = redv b.periods (bsums b bl) ++ redv c.periods (bsums c bl) := by
  rw [spans_RD]
  exact redv_app _ _ _ _ (by rw [bsums_len b _ _ rfl, per_len])
structure Two (b c : Bk) : Prop where
  okb : BkOk b
  okc : BkOk c
  en : b.names = c.names
  gb : Gk b
  gc : Gk c
  kb : b.kinds.length ≤ 2
theorem cm_dl {a b : Int} (ha : 0 < a) (hb : 0 < b) : a ∣ cm a b ∧ b ∣ cm a b := by
  unfold cm
  obtain ⟨m, hm⟩ := Lm.cd_dl a b
  obtain ⟨n, hn⟩ := Lm.cd_dr a b
  have hp := Lm.cd_pos (a := a) hb
  have e1 : a / cd a b = m := by
    conv => lhs; lhs; rw [hm]
    exact Int.mul_ediv_cancel_left _ (by omega)
  rw [e1]
  refine ⟨⟨n, ?_⟩, Int.dvd_mul_left ..⟩
  generalize cd a b = g at *
  rw [hm, hn]
  ac_rfl
theorem fold_cm_dvd {α : Type} {f : α → Int} : ∀ (l : List α) (t : Int), 0 < t → (∀ x ∈ l, 0 < f x) → t ∣ l.foldl (fun t x => cm t (f x)) t ∧ ∀ x ∈ l, f x ∣ l.foldl (fun t x => cm t (f x)) t
  | [], t, _, _ => ⟨Int.dvd_refl _, fun x hx => by cases hx⟩
  | y :: l, t, ht, hl => by
    have hy := hl y (List.mem_cons_self ..)
    obtain ⟨a, d⟩ := fold_cm_dvd l (cm t (f y)) (cm_pos ht hy).1 fun x hx => hl x (List.mem_cons_of_mem _ hx)
    obtain ⟨c1, c2⟩ := cm_dl ht hy
    refine ⟨Int.dvd_trans c1 a, fun x hx => ?_⟩
    rcases List.mem_cons.mp hx with h | h
    · rw [h]; exact Int.dvd_trans c2 a
    · exact d x h
theorem bot_dvd {b c : Bk} (T : Two b c) : (∀ nm ∈ b.names, (shd b nm).2 ∣ botS (RD b c)) ∧ ∀ nm ∈ c.names, (shd c nm).2 ∣ botS (RD b c) := by
  unfold botS
  simp only [List.foldl_cons, List.foldl_nil, bot1]
  obtain ⟨a1, a2⟩ := fold_cm_dvd (f := fun nm => (shd b nm).2) b.names 1 (by decide) fun nm h => (shd_bd T.okb h).2.1
  have p1 : 0 < b.names.foldl (fun t nm => cm t (shd b nm).2) 1 := (fold_cm (f := fun nm => (shd b nm).2) (B := 625) (by decide) b.names 1 (by decide) fun nm h => (shd_bd T.okb h).2).1
  obtain ⟨b1, b2⟩ := fold_cm_dvd (f := fun nm => (shd c nm).2) c.names _ p1 fun nm h => (shd_bd T.okc h).2.1
  exact ⟨fun nm h => Int.dvd_trans (a2 nm h) b1, b2⟩
theorem grp_dvd {b : Bk} (ok : BkOk b) (gk : Gk b) {B : Int} (h : ∀ nm ∈ b.names, (shd b nm).2 ∣ B) : ∀ g ∈ b.groups, (rateOf (g ++ b.whole)).2 ∣ B := by
  intro g hg
  obtain ⟨i, hi, e⟩ := List.getElem_of_mem hg
  obtain ⟨k, hk, ek⟩ := gk i hi
  have := h k.name (List.mem_map_of_mem hk)
  unfold shd at this
  rw [kAt_self ok.nd hk] at this
  unfold Bk.share Bk.grpOf at this
  rw [ek, List.getD_eq_getElem?_getD, List.getElem?_eq_getElem hi] at this
  rw [← e]
  exact this
theorem bill_id {b c : Bk} (T : Two b c) {bl : List (Str × Int)} (hb : ∀ x ∈ bl, x.1 ∈ b.names) :
    botS (RD b c) * (askN b bl - askN c bl) = (bl.map fun l => wgtS (botS (RD b c)) (RD b c) l.1 l.2).sum + baseS (RD b c) (redv (spansS (RD b c)) (vv b c bl)) := by
  obtain ⟨d1, d2⟩ := bot_dvd T
  have h1 := ask_id T.okb T.gb (grp_dvd T.okb T.gb d1) hb
  have h2 := ask_id T.okc T.gc (grp_dvd T.okc T.gc d2) (bl := bl) (fun x hx => by rw [← T.en]; exact hb x hx)
  have es : (bl.map fun l => wgtS (botS (RD b c)) (RD b c) l.1 l.2).sum = (bl.map (w1 (botS (RD b c)) b)).sum - (bl.map (w1 (botS (RD b c)) c)).sum := by
    simp only [wgt_RD]
    generalize botS (RD b c) = B
    clear h1 h2 hb d1 d2
    induction bl with
    | nil => rfl
    | cons x bl ih => simp only [List.map_cons, List.sum_cons, ih]; omega
  rw [red_vv, base_RD (red_len _ _ (by rw [bsums_len b _ _ rfl, per_len]) |>.trans (per_len b)) (red_len _ _ (by rw [bsums_len c _ _ rfl, per_len]) |>.trans (per_len c)), es, Int.mul_sub, h1, h2]
  omega
/-! ### states of bills -/
theorem bsums_add {b : Bk} (bl : List (Str × Int)) (x : Str × Int) : bsums b (bl ++ [x]) = List.zipWith (fun x y => x + y) (bsums b bl) (bsums b [x]) := by
  have e0 : bsums b [x] = (List.replicate b.groups.length (0 : Int)).set (kAt b x.1).grp ((List.replicate b.groups.length (0 : Int)).getD (kAt b x.1).grp 0 + led (kAt b x.1).steps x.2) := rfl
  have hl := bsums_len b _ bl rfl
  rw [bsums_snoc, e0]
  apply List.ext_getElem
  · simp [hl]
  · intro i h1 h2
    have hi : i < (bsums b bl).length := by simpa using h1
    rw [List.getElem_zipWith, List.getElem_set, List.getElem_set]
    by_cases h : (kAt b x.1).grp = i
    · rw [if_pos h, if_pos h]
      have q1 : (bsums b bl).getD (kAt b x.1).grp 0 = (bsums b bl)[i] := by rw [h, List.getD_eq_getElem?_getD, List.getElem?_eq_getElem hi]; rfl
      have q2 : (List.replicate b.groups.length (0 : Int)).getD (kAt b x.1).grp 0 = 0 := by rw [h, List.getD_eq_getElem?_getD, List.getElem?_replicate]; split <;> rfl
      omega
    · rw [if_neg h, if_neg h, List.getElem_replicate, Int.add_zero]
theorem vv_add (b c : Bk) (bl : List (Str × Int)) (x : Str × Int) : vv b c (bl ++ [x]) = List.zipWith (fun x y => x + y) (vv b c bl) (vv b c [x]) := by
  unfold vv
  rw [bsums_add, bsums_add, List.zipWith_append]
  rw [bsums_len b _ _ rfl, bsums_len b _ _ rfl]
theorem vv_len (b c : Bk) (bl : List (Str × Int)) : (vv b c bl).length = (spansS (RD b c)).length := by
  unfold vv
  rw [spans_RD, List.length_append, List.length_append, bsums_len b _ _ rfl, bsums_len c _ _ rfl, per_len, per_len]
theorem add_red (ps v m : Vec) (hv : v.length = ps.length) (hm : m.length = ps.length) : addv ps (redv ps v) (redv ps m) = redv ps (List.zipWith (fun x y => x + y) v m) := by
  apply List.ext_getElem
  · simp [addv, redv, hv, hm]
  · intro i h1 h2
    simp only [addv, redv, List.getElem_map, List.getElem_zip, List.getElem_zipWith]
    exact (Int.add_emod _ _ _).symm
def mvs (b c : Bk) (bl : List (Str × Int)) : List Vec := bl.map fun l => redv (spansS (RD b c)) (vv b c [l])
theorem bill_sta (b c : Bk) : ∀ (n : Nat) (bl : List (Str × Int)), bl.length = n → stL (spansS (RD b c)) (mvs b c bl) = redv (spansS (RD b c)) (vv b c bl) := by
  intro n
  induction n with
  | zero =>
    intro bl h
    rw [List.length_eq_zero_iff.mp h]
    show stL _ [] = _
    rw [stL_nil]
    apply List.ext_getElem
    · rw [red_len _ _ (vv_len b c [])]; simp [zerov]
    · intro i h1 h2
      have e : ∀ i (h : i < (vv b c []).length), (vv b c [])[i] = 0 := by
        intro i h
        have : vv b c [] = List.replicate (b.groups.length + c.groups.length) 0 := by
          show List.replicate _ _ ++ List.replicate _ _ = _
          rw [List.replicate_append_replicate]
        simp only [this, List.getElem_replicate]
      simp [zerov, redv, e]
  | succ n ih =>
    intro bl h
    obtain ⟨M, x, rfl, hM⟩ := snoc_ex h
    have e : mvs b c (M ++ [x]) = mvs b c M ++ [redv (spansS (RD b c)) (vv b c [x])] := by unfold mvs; rw [List.map_append]; rfl
    rw [e, ← stL_snoc _ _ _ (red_len _ _ (vv_len b c [x])), ih M hM, add_red _ _ _ (vv_len ..) (vv_len ..), vv_add]
/-! ### best lines -/
theorem best_top (N : List Str) (S : Sides) : Top (fun t : Int × Int × Int => t.1) (bestS N S) (fun k v => ∃ x ∈ linesS N S, x.mv = k ∧ (x.wt, x.at_, x.amt) = v) := by
  have := top_fold (g := fun t : Int × Int × Int => t.1) Ln.mv (fun x => (x.wt, x.at_, x.amt)) (linesS N S) [] _ (top_nil _)
  exact top_iff this fun k v => ⟨fun h => h.elim (fun h => h.elim) id, .inr⟩
theorem lines_to {N : List Str} {S : Sides} {x : Ln} (h : x ∈ linesS N S) : ∃ nm a, nm ∈ N ∧ 0 ≤ a ∧ a < amts (S.map (·.1)) nm ∧ x.mv = redv (spansS S) (moveS S nm a) ∧ x.wt = wgtS (botS S) S nm a := by
  obtain ⟨z, hz, hx⟩ := List.mem_flatMap.mp h
  obtain ⟨a, ha, rfl⟩ := List.mem_map.mp hx
  obtain ⟨i, hi, rfl⟩ := List.mem_map.mp ha
  have := List.mem_range.mp hi
  exact ⟨z.2, _, (List.of_mem_zip hz).2, by omega, by omega, rfl, rfl⟩
theorem lines_of {N : List Str} {S : Sides} {nm : Str} {a : Int} (hn : nm ∈ N) (h0 : 0 ≤ a) (h1 : a < amts (S.map (·.1)) nm) : ∃ x ∈ linesS N S, x.mv = redv (spansS S) (moveS S nm a) ∧ x.wt = wgtS (botS S) S nm a := by
  obtain ⟨i, hi, e⟩ := List.getElem_of_mem hn
  have hz : ((0 : Int) + (i : Nat), nm) ∈ (rng 0 N.length).zip N := by
    refine List.mem_iff_getElem?.mpr ⟨i, ?_⟩
    rw [List.getElem?_zip_eq_some]
    exact ⟨rng_at hi, by rw [List.getElem?_eq_getElem hi, e]⟩
  refine ⟨lnOf S (0 + (i : Nat)) nm a, List.mem_flatMap.mpr ⟨_, hz, List.mem_map.mpr ⟨a, List.mem_map.mpr ⟨a.toNat, List.mem_range.mpr ?_, by omega⟩, rfl⟩⟩, rfl, rfl⟩
  show a.toNat < (amts (S.map (·.1)) nm).toNat
  omega
/-- lines that the program looks at -/
def LOk (b c : Bk) (bl : List (Str × Int)) : Prop := ∀ l ∈ bl, l.1 ∈ b.names ∧ 0 ≤ l.2 ∧ l.2 < amts [b, c] l.1
abbrev bestR (b c : Bk) : Best := bestS b.names (RD b c)
def wts (b c : Bk) (bl : List (Str × Int)) : Int := (bl.map fun l => wgtS (botS (RD b c)) (RD b c) l.1 l.2).sum
theorem walk_of_bill (b c : Bk) : ∀ (bl : List (Str × Int)), LOk b c bl → ∃ L : List En, L.length = bl.length ∧ (∀ x ∈ L, x ∈ bestR b c) ∧ (L.map fun x => x.1) = mvs b c bl ∧ wts b c bl ≤ wtL L
  | [], _ => ⟨[], rfl, fun x hx => (by cases hx), rfl, Int.le_refl _⟩
  | l :: bl, h => by
    obtain ⟨L, h1, h2, h3, h4⟩ := walk_of_bill b c bl fun x hx => h x (List.mem_cons_of_mem _ hx)
    obtain ⟨n1, n2, n3⟩ := h l (List.mem_cons_self ..)
    obtain ⟨x, hx, e1, e2⟩ := lines_of (S := RD b c) (N := b.names) n1 n2 n3
    obtain ⟨u, hu, le⟩ := (best_top b.names (RD b c)).up x.mv (x.wt, x.at_, x.amt) ⟨x, hx, rfl, rfl⟩
    refine ⟨(x.mv, u) :: L, by simp [h1], fun y hy => ?_, ?_, ?_⟩
    · rcases List.mem_cons.mp hy with h | h
      · rw [h]; exact aget_mem hu
      · exact h2 y h
    · rw [List.map_cons, h3, e1, move_RD]; rfl
    · have le : x.wt ≤ u.1 := le
      have ew : wts b c (l :: bl) = wgtS (botS (RD b c)) (RD b c) l.1 l.2 + wts b c bl := rfl
      have el : wtL ((x.mv, u) :: L) = u.1 + wtL L := rfl
      rw [ew, el]
      omega
theorem bill_of_walk (b c : Bk) : ∀ (L : List En), (∀ x ∈ L, x ∈ bestR b c) → ∃ bl, LOk b c bl ∧ bl.length = L.length ∧ mvs b c bl = (L.map fun x => x.1) ∧ wts b c bl = wtL L
  | [], _ => ⟨[], fun x hx => (by cases hx), rfl, rfl, rfl⟩
  | x :: L, h => by
    obtain ⟨bl, h1, h2, h3, h4⟩ := bill_of_walk b c L fun y hy => h y (List.mem_cons_of_mem _ hy)
    have t := best_top b.names (RD b c)
    obtain ⟨ln, hln, e1, e2⟩ := t.dn x.1 x.2 (mem_aget t.nd (h x (List.mem_cons_self ..)))
    obtain ⟨nm, a, n1, n2, n3, m1, m2⟩ := lines_to hln
    refine ⟨(nm, a) :: bl, fun y hy => ?_, by simp [h2], ?_, ?_⟩
    · rcases List.mem_cons.mp hy with h | h
      · rw [h]; exact ⟨n1, n2, n3⟩
      · exact h1 y h
    · rw [List.map_cons, ← h3, ← e1, m1, move_RD]; rfl
    · have ew : wts b c ((nm, a) :: bl) = wgtS (botS (RD b c)) (RD b c) nm a + wts b c bl := rfl
      have el : wtL (x :: L) = x.2.1 + wtL L := rfl
      rw [ew, el, h4, ← m2, ← e2]
end Lf

set_option Elab.async false
set_option linter.all false
/-! What the row tells: the greatest difference over the bills of k lines. -/
namespace Lf
open PySem Lr Lm
theorem ord_le : ∀ (ps m : Vec) (t : Int), 0 < t → (∀ p ∈ ps, 0 < p) → m.length = ps.length → (m.zip ps).foldl (fun t x => cm t (x.2 / cd x.1 x.2)) t ≤ ps.foldl (fun a p => a * p) t
  | [], m, t, _, _, _ => by simp
  | p :: ps, [], t, _, _, h => by simp at h
  | p :: ps, x :: m, t, ht, hp, hl => by
    have p0 := hp p (List.mem_cons_self ..)
    have hq := own_pos (a := x) p0
    have hqp : p / cd x p ≤ p := Int.ediv_le_self _ (Int.le_of_lt p0)
    obtain ⟨c1, c2⟩ := cm_pos ht hq
    have c3 : t * (p / cd x p) ≤ t * p := Int.mul_le_mul_of_nonneg_left hqp (Int.le_of_lt ht)
    have hps := fun q hq => hp q (List.mem_cons_of_mem _ hq)
    have ih := ord_le ps m (cm t (p / cd x p)) c1 hps (by simpa using hl)
    obtain ⟨n, _, hn⟩ := all_len ps hps
    rw [List.zip_cons_cons, List.foldl_cons, List.foldl_cons]
    refine Int.le_trans ih ?_
    rw [hn, hn]
    exact Int.mul_le_mul_of_nonneg_right (by omega) (by omega)
theorem ord_ok {ps m : Vec} (hp : ∀ p ∈ ps, 0 < p) (hl : m.length = ps.length) : 0 < ordS ps m ∧ ordS ps m ≤ ((allSt ps).length : Nat) ∧ ∀ c, c < ps.length → ps.getD c 1 ∣ ordS ps m * m.getD c 0 := by
  have hz : ∀ x ∈ m.zip ps, 0 < x.2 / cd x.1 x.2 := fun x hx => own_pos (hp _ (List.of_mem_zip hx).2)
  obtain ⟨h1, h2⟩ := fold_cm_dvd (f := fun x : Int × Int => x.2 / cd x.1 x.2) (m.zip ps) 1 (by decide) hz
  refine ⟨?_, ?_, fun c hc => ?_⟩
  · have : ∀ (l : List (Int × Int)) (t : Int), 0 < t → (∀ x ∈ l, 0 < x.2 / cd x.1 x.2) → 0 < l.foldl (fun t x => cm t (x.2 / cd x.1 x.2)) t := by
      intro l
      induction l with
      | nil => intro t h _; exact h
      | cons x l ih => intro t h hl; exact ih _ (cm_pos h (hl x (List.mem_cons_self ..))).1 fun y hy => hl y (List.mem_cons_of_mem _ hy)
    exact this _ 1 (by decide) hz
  · obtain ⟨n, e, hn⟩ := all_len ps hp
    have := ord_le ps m 1 (by decide) hp hl
    rw [hn, Int.one_mul] at this
    rw [e]
    exact this
  · have hm : c < m.length := by omega
    have hx : (m[c], ps[c]) ∈ m.zip ps := by
      refine List.mem_iff_getElem?.mpr ⟨c, ?_⟩
      rw [List.getElem?_zip_eq_some]
      exact ⟨List.getElem?_eq_getElem hm, List.getElem?_eq_getElem hc⟩
    have := own_dvd (a := m[c]) (hp _ (List.getElem_mem hc)) (h2 _ hx)
    rw [List.getD_eq_getElem?_getD, List.getD_eq_getElem?_getD, List.getElem?_eq_getElem hm, List.getElem?_eq_getElem hc]
    exact this
section
variable {b c : Bk}
theorem sok (T : Two b c) : SOk b.names (RD b c) := by
  have e : ∀ x ∈ RD b c, x = (b, 1) ∨ x = (c, -1) := fun x hx => by simpa using hx
  have hk : c.kinds.length = b.kinds.length := by
    have := congrArg List.length T.en
    unfold Bk.names at this
    rw [List.length_map, List.length_map] at this
    exact this.symm
  refine ⟨by simp, fun x hx => ?_, fun x hx => ?_, fun x hx => ?_, fun x hx => ?_⟩ <;> rcases e x hx with rfl | rfl
  · exact T.okb
  · exact T.okc
  · exact T.kb
  · show c.kinds.length ≤ 2
    rw [hk]; exact T.kb
  · exact .inl rfl
  · exact .inr rfl
  · rfl
  · exact T.en.symm
theorem amts_p (T : Two b c) {nm : Str} (h : nm ∈ b.names) : 0 < amts [b, c] nm := amts_pos fun x hx => by
  have : x = b ∨ x = c := by simpa using hx
  rcases this with rfl | rfl
  · exact ⟨T.okb, h⟩
  · exact ⟨T.okc, by rw [← T.en]; exact h⟩
theorem name_ex (T : Two b c) : ∃ nm, nm ∈ b.names := by
  have := T.okb.k0
  cases h : b.kinds with
  | nil => exact absurd h this
  | cons k l => exact ⟨k.name, List.mem_map_of_mem (by rw [h]; exact List.mem_cons_self ..)⟩
theorem bok (T : Two b c) : BOk (spansS (RD b c)) (bestR b c) := by
  refine ⟨fun x hx => ?_, fun p hp => (per_all (sok T) p hp).1, fun e => ?_⟩
  · have t := best_top b.names (RD b c)
    obtain ⟨ln, hln, e1, e2⟩ := t.dn x.1 x.2 (mem_aget t.nd hx)
    obtain ⟨nm, a, n1, n2, n3, m1, m2⟩ := lines_to hln
    rw [← e1, m1, move_RD, red_len _ _ (vv_len ..)]
  · obtain ⟨nm, hn⟩ := name_ex T
    obtain ⟨L, h1, h2, _⟩ := walk_of_bill b c [(nm, 0)] fun l hl => by
      rw [List.mem_singleton.mp hl]
      exact ⟨hn, Int.le_refl _, amts_p T hn⟩
    cases L with
    | nil => simp at h1
    | cons x L =>
      have := h2 x (List.mem_cons_self ..)
      rw [e] at this
      cases this
def val (b c : Bk) (L : List En) : Int := wtL L + baseS (RD b c) (sta (spansS (RD b c)) L)
abbrev DD (b c : Bk) (bl : List (Str × Int)) : Int := askN b bl - askN c bl
theorem bill_val (T : Two b c) {bl : List (Str × Int)} (h : LOk b c bl) : botS (RD b c) * DD b c bl = wts b c bl + baseS (RD b c) (stL (spansS (RD b c)) (mvs b c bl)) := by
  rw [bill_sta b c _ bl rfl]
  exact bill_id T fun x hx => (h x hx).1
theorem val_bill (T : Two b c) {L : List En} (h : ∀ x ∈ L, x ∈ bestR b c) : ∃ bl, LOk b c bl ∧ bl.length = L.length ∧ val b c L = botS (RD b c) * DD b c bl := by
  obtain ⟨bl, h1, h2, h3, h4⟩ := bill_of_walk b c L h
  refine ⟨bl, h1, h2, ?_⟩
  rw [bill_val T h1, h3, h4]
  rfl
theorem bill_le (T : Two b c) {bl : List (Str × Int)} (h : LOk b c bl) : ∃ L : List En, L.length = bl.length ∧ (∀ x ∈ L, x ∈ bestR b c) ∧ botS (RD b c) * DD b c bl ≤ val b c L := by
  obtain ⟨L, h1, h2, h3, h4⟩ := walk_of_bill b c bl h
  refine ⟨L, h1, h2, ?_⟩
  rw [bill_val T h, ← h3]
  unfold val sta
  omega
/-- the greatest of a top -/
theorem ggv_spec (T : Two b c) {F : Sums} {n : Nat} (h : Top id F (Wlk (spansS (RD b c)) (bestR b c) n)) : ∃ M : List En, M.length = n ∧ (∀ x ∈ M, x ∈ bestR b c) ∧ botS (RD b c) * ggv (RD b c) F = val b c M ∧ ∀ L : List En, L.length = n → (∀ x ∈ L, x ∈ bestR b c) → val b c L ≤ val b c M := by
  have hne : F.map (fun x => x.2 + baseS (RD b c) x.1) ≠ [] := by simpa using top_ne (bok T) h
  obtain ⟨h1, h2⟩ := mx_mem hne
  obtain ⟨x, hx, e⟩ := List.mem_map.mp h1
  obtain ⟨M, m0, m1, m2, m3⟩ := h.dn x.1 x.2 (mem_aget h.nd hx)
  have ev : val b c M = mx (F.map fun x => x.2 + baseS (RD b c) x.1) := by
    rw [← e]
    unfold val
    rw [m2, m3]
  refine ⟨M, m0, m1, ?_, fun L l0 l1 => ?_⟩
  · obtain ⟨bl, _, _, hv⟩ := val_bill T m1
    unfold ggv
    rw [← ev, hv, Int.mul_ediv_cancel_left _ (by have := (bot_bd (sok T)).1; omega)]
  · obtain ⟨u, hu, le⟩ := h.up (sta (spansS (RD b c)) L) (wtL L) ⟨L, l0, l1, rfl, rfl⟩
    have := h2 (u + baseS (RD b c) (sta (spansS (RD b c)) L)) (List.mem_map.mpr ⟨_, aget_mem hu, rfl⟩)
    rw [ev]
    have le : wtL L ≤ u := le
    unfold val
    omega
theorem wt_rep (t : En) (n : Nat) : wtL (List.replicate n t) = n * t.2.1 := sum_rep (fun x : En => x.2.1) t n
theorem sta_lap (B : BOk (spansS (RD b c)) (bestR b c)) {t : En} (e : t.1 = mvS (bestR b c)) (M : List En) (q : Nat) : sta (spansS (RD b c)) (M ++ List.replicate ((turnS (RD b c) (bestR b c)).toNat * q) t) = sta (spansS (RD b c)) M := by
  obtain ⟨o1, o2, o3⟩ := ord_ok B.hp (mv_len B)
  unfold sta
  rw [stL_eq]
  intro i hi
  rw [List.map_append, tot_app, List.map_replicate, tot_rep, e]
  apply Int.emod_eq_emod_iff_emod_sub_eq_zero.mpr
  apply Int.emod_eq_zero_of_dvd
  rw [show ∀ x y : Int, x + y - x = y by intros; omega]
  have := o3 i hi
  rw [Int.natCast_mul, show ((turnS (RD b c) (bestR b c)).toNat : Int) = ordS (spansS (RD b c)) (mvS (bestR b c)) from Int.toNat_of_nonneg (Int.le_of_lt o1)]
  obtain ⟨k, hk⟩ := this
  exact ⟨k * q, by rw [show ∀ x y z : Int, x * y * z = x * z * y by intros; ac_rfl, hk]; ac_rfl⟩
theorem mem_rep {t : En} {L : List En} (ht : t ∈ bestR b c) (h : ∀ x ∈ L, x ∈ bestR b c) (n : Nat) : ∀ x ∈ L ++ List.replicate n t, x ∈ bestR b c := by
  intro x hx
  rcases List.mem_append.mp hx with h' | h'
  · exact h x h'
  · rw [List.eq_of_mem_replicate h']; exact ht
theorem rise_eq (T : Two b c) : botS (RD b c) * riseS (RD b c) (bestR b c) = turnS (RD b c) (bestR b c) * mostS (bestR b c) := by
  have B := bok T
  obtain ⟨t, ht, e1, e2, e3⟩ := heavy B.ne
  obtain ⟨o1, o2, o3⟩ := ord_ok B.hp (mv_len B)
  have hm : ∀ x ∈ ([] : List En) ++ List.replicate ((turnS (RD b c) (bestR b c)).toNat * 1) t, x ∈ bestR b c := mem_rep ht (fun x hx => by cases hx) _
  obtain ⟨bl, _, _, v1⟩ := val_bill T hm
  obtain ⟨bl0, _, _, v0⟩ := val_bill T (L := []) fun x hx => by cases hx
  have hv : val b c ([] ++ List.replicate ((turnS (RD b c) (bestR b c)).toNat * 1) t) = val b c [] + turnS (RD b c) (bestR b c) * mostS (bestR b c) := by
    unfold val
    rw [sta_lap B e1, wtL_app, wt_rep, e2, Nat.mul_one, show ((turnS (RD b c) (bestR b c)).toNat : Int) = turnS (RD b c) (bestR b c) from Int.toNat_of_nonneg (Int.le_of_lt o1)]
    omega
  rw [v1, v0] at hv
  have hp := (bot_bd (sok T)).1
  unfold riseS
  have : turnS (RD b c) (bestR b c) * mostS (bestR b c) = botS (RD b c) * (DD b c bl - DD b c bl0) := by rw [Int.mul_sub]; omega
  rw [this, Int.mul_ediv_cancel_left _ (by omega)]
theorem led_iter (B : BOk (spansS (RD b c)) (bestR b c)) {t : En} (e : t.1 = mvS (bestR b c)) {n0 : Nat} (led : Led (spansS (RD b c)) (bestR b c) n0) {n : Nat} (hn : n0 ≤ n) : ∀ (i : Nat) (L : List En), L.length = n + i → (∀ x ∈ L, x ∈ bestR b c) → ∃ M : List En, M.length = n ∧ (∀ x ∈ M, x ∈ bestR b c) ∧ sta (spansS (RD b c)) (M ++ List.replicate i t) = sta (spansS (RD b c)) L ∧ wtL L ≤ wtL M + i * mostS (bestR b c)
  | 0, L, h0, h1 => ⟨L, h0, h1, by simp, by simp⟩
  | i + 1, L, h0, h1 => by
    obtain ⟨M', a0, a1, a2, a3⟩ := led_le B led (Nat.le_trans hn (Nat.le_add_right n i)) L h0 h1
    obtain ⟨M, m0, m1, m2, m3⟩ := led_iter B e led hn i M' a0 a1
    refine ⟨M, m0, m1, ?_, ?_⟩
    · rw [List.replicate_succ', ← List.append_assoc, ← a2, ← sta_heavy B e]
      exact cong_sta m2 _
    · rw [Int.natCast_add, Int.add_mul]
      omega
theorem tell_max (T : Two b c) {n0 : Nat} (led : Led (spansS (RD b c)) (bestR b c) n0) (k : Nat) : ∃ M : List En, M.length = k ∧ (∀ x ∈ M, x ∈ bestR b c) ∧ botS (RD b c) * tell (numsS (RD b c) (bestR b c) n0) (againS (RD b c) (bestR b c) n0) (riseS (RD b c) (bestR b c)) k = val b c M ∧ ∀ L : List En, L.length = k → (∀ x ∈ L, x ∈ bestR b c) → val b c L ≤ val b c M := by
  have B := bok T
  obtain ⟨t, ht, e1, e2, e3⟩ := heavy B.ne
  obtain ⟨o1, o2, o3⟩ := ord_ok B.hp (mv_len B)
  have o1 : 0 < turnS (RD b c) (bestR b c) := o1
  have ln : (numsS (RD b c) (bestR b c) n0).length = n0 := by unfold numsS; rw [List.length_map, List.length_range]
  have la : (againS (RD b c) (bestR b c) n0).length = (turnS (RD b c) (bestR b c)).toNat := by unfold againS; rw [List.length_map, List.length_range]
  unfold tell
  rw [ln, la]
  by_cases hk : k < n0
  · rw [if_pos hk]
    have : (numsS (RD b c) (bestR b c) n0).getD k 0 = ggv (RD b c) (FF (spansS (RD b c)) (bestR b c) k) := by
      unfold numsS
      rw [List.getD_eq_getElem?_getD, List.getElem?_map, List.getElem?_range hk]
      rfl
    rw [this]
    exact ggv_spec T (top_FF B.hl k)
  · rw [if_neg hk]
    obtain ⟨i, rfl⟩ : ∃ i, k = n0 + i := ⟨k - n0, by omega⟩
    rw [show n0 + i - n0 = i by omega]
    have hr := rise_eq T
    have lap := fun M => sta_lap B e1 M (i / (turnS (RD b c) (bestR b c)).toNat)
    have ht0 : 0 < (turnS (RD b c) (bestR b c)).toNat := by omega
    have htn : ((turnS (RD b c) (bestR b c)).toNat : Int) = turnS (RD b c) (bestR b c) := Int.toNat_of_nonneg (Int.le_of_lt o1)
    generalize hm : (turnS (RD b c) (bestR b c)).toNat = m at *
    have hj : i % m < m := Nat.mod_lt _ ht0
    have : (againS (RD b c) (bestR b c) n0).getD (i % m) 0 = ggv (RD b c) (GG (spansS (RD b c)) (bestR b c) n0 (i % m)) := by
      unfold againS
      rw [List.getD_eq_getElem?_getD, List.getElem?_map, hm, List.getElem?_range hj]
      rfl
    rw [this]
    obtain ⟨M, m0, m1, m2, m3⟩ := ggv_spec T (top_GG B led (i % m))
    have hdiv := Nat.mod_add_div i m
    generalize i % m = j at *
    generalize i / m = q at *
    have hw : val b c (M ++ List.replicate (m * q) t) = val b c M + (m * q : Nat) * mostS (bestR b c) := by
      unfold val
      rw [lap, wtL_app, wt_rep, e2]
      omega
    refine ⟨M ++ List.replicate (m * q) t, by rw [List.length_append, List.length_replicate, m0]; omega, mem_rep ht m1 _, ?_, fun L l0 l1 => ?_⟩
    · rw [hw, Int.mul_add, m2, Int.natCast_mul, htn]
      congr 1
      rw [show ∀ x y z : Int, x * (y * z) = x * z * y by intros; ac_rfl, hr]
      ac_rfl
    · rw [hw]
      obtain ⟨M', a0, a1, a2, a3⟩ := led_iter B e1 led (Nat.le_add_right n0 j) (m * q) L (by omega) l1
      have := m3 M' a0 a1
      unfold val at *
      rw [← a2, lap]
      omega
theorem told_max {x : Rw} (T : Two b c) (h : Told b c x) (k : Nat) : (∃ bl, LOk b c bl ∧ bl.length = k ∧ x.tell k = DD b c bl) ∧ ∀ bl, LOk b c bl → bl.length = k → DD b c bl ≤ x.tell k := by
  obtain ⟨n0, hyp, tl, _⟩ := h
  have B := bok T
  have led := (led_at B).mp hyp.led1
  obtain ⟨M, m0, m1, m2, m3⟩ := tell_max T led k
  have hp := (bot_bd (sok T)).1
  rw [tl k]
  refine ⟨?_, fun bl hb hl => ?_⟩
  · obtain ⟨bl, h1, h2, h3⟩ := val_bill T m1
    refine ⟨bl, h1, by omega, ?_⟩
    rw [h3] at m2
    exact Int.eq_of_mul_eq_mul_left (by omega) m2
  · obtain ⟨L, l0, l1, l2⟩ := bill_le T hb
    have := m3 L (by omega) l1
    rw [← m2] at this
    exact Int.le_of_mul_le_mul_left (Int.le_trans l2 this) hp
end
end Lf

set_option Elab.async false
set_option linter.all false
/-! What greatest, least and parting need of two books, from the size of their periods. -/
namespace Lf
open PySem Lr Lm
theorem rnd_bd {t q : Int} (hq : 0 < q) (w : Way) : t / q ≤ rnd t q w ∧ rnd t q w ≤ t / q + 1 := by
  unfold rnd
  generalize t / q = x
  generalize t % q = y
  split
  · omega
  · split
    · omega
    · split
      · split <;> omega
      · split
        · omega
        · split <;> omega
theorem led1_bd {s : Stp} (h : s.Good) {v A : Int} (h1 : -A ≤ v) (h2 : v ≤ A) : -(15 * A + 20) ≤ led1 s v ∧ led1 s v ≤ 15 * A + 20 := by
  cases s with
  | plus c =>
    have h : -20 ≤ c ∧ c ≤ 20 := h
    show -(15 * A + 20) ≤ v + c ∧ v + c ≤ 15 * A + 20
    omega
  | times a b w u =>
    obtain ⟨⟨a1, a2⟩, ⟨b1, b2⟩, u1, u2⟩ := h
    have hq : 0 < b * u := Int.mul_pos (by omega) (by omega)
    obtain ⟨r1, r2⟩ := rnd_bd (t := v * a) hq w
    have hA : 0 ≤ A := by omega
    have m1 : v * a ≤ A * 5 := Int.le_trans (Int.mul_le_mul_of_nonneg_right h2 (by omega)) (Int.mul_le_mul_of_nonneg_left a2 hA)
    have m2 : -(A * 5) ≤ v * a := by
      have e1 : -A * a ≤ v * a := Int.mul_le_mul_of_nonneg_right h1 (by omega)
      have e2 : A * a ≤ A * 5 := Int.mul_le_mul_of_nonneg_left a2 hA
      rw [Int.neg_mul] at e1
      omega
    have d1 : v * a / (b * u) ≤ A * 5 := by
      have := Int.ediv_le_ediv hq m1
      exact Int.le_trans this (Int.ediv_le_self _ (by omega))
    have d2 : -(A * 5) ≤ v * a / (b * u) := by
      rw [Int.le_ediv_iff_mul_le hq]
      refine Int.le_trans ?_ m2
      rw [Int.neg_mul]
      have : A * 5 * 1 ≤ A * 5 * (b * u) := Int.mul_le_mul_of_nonneg_left (by omega) (by omega)
      omega
    show -(15 * A + 20) ≤ rnd (v * a) (b * u) w * u ∧ rnd (v * a) (b * u) w * u ≤ 15 * A + 20
    generalize rnd (v * a) (b * u) w = r at *
    have hu : u = 1 ∨ u = 2 ∨ u = 3 := by omega
    rcases hu with rfl | rfl | rfl <;> omega
theorem led_bd2 {ss : List Stp} (g : GoodR ss) (hl : ss.length ≤ 2) {v : Int} (h0 : 0 ≤ v) (h1 : v ≤ 400) : -100000 ≤ led ss v ∧ led ss v ≤ 100000 := by
  match ss, hl with
  | [], _ => show -100000 ≤ v ∧ v ≤ 100000; omega
  | [s], _ =>
    have := led1_bd (g s (by simp)) (v := v) (A := 400) (by omega) h1
    show -100000 ≤ led1 s v ∧ led1 s v ≤ 100000
    omega
  | [s, t], _ =>
    obtain ⟨a, d⟩ := led1_bd (g s (by simp)) (v := v) (A := 400) (by omega) h1
    have := led1_bd (g t (by simp)) (v := led1 s v) (A := 15 * 400 + 20) a d
    show -100000 ≤ led1 t (led1 s v) ∧ led1 t (led1 s v) ≤ 100000
    omega
theorem w1_bd {b : Bk} (ok : BkOk b) {B : Int} (hB : 0 < B) {nm : Str} {a : Int} (hn : nm ∈ b.names) (h0 : 0 ≤ a) (h1 : a ≤ 400) : -(100000 * (625 * B)) ≤ w1 B b (nm, a) ∧ w1 B b (nm, a) ≤ 100000 * (625 * B) := by
  obtain ⟨km, kg, gm⟩ := grp_at ok hn
  obtain ⟨_, gd, ln⟩ := ok.ko _ km
  obtain ⟨l1, l2⟩ := led_bd2 gd ln h0 h1
  obtain ⟨⟨s1, s2⟩, s3, s4⟩ := shd_bd ok hn
  have d0 := Int.ediv_nonneg (Int.le_of_lt hB) (Int.le_of_lt s3)
  have d1 : B / (shd b nm).2 ≤ B := Int.ediv_le_self _ (Int.le_of_lt hB)
  have p0 : 0 ≤ (shd b nm).1 * (B / (shd b nm).2) := Int.mul_nonneg (by omega) d0
  have p1 : (shd b nm).1 * (B / (shd b nm).2) ≤ 625 * B := Int.le_trans (Int.mul_le_mul_of_nonneg_right s2 d0) (Int.mul_le_mul_of_nonneg_left d1 (by decide))
  unfold w1
  rw [Int.mul_assoc]
  show -_ ≤ led (kAt b nm).steps a * _ ∧ _
  generalize led (kAt b nm).steps a = x at *
  generalize (shd b nm).1 * (B / (shd b nm).2) = y at *
  have q1 : x * y ≤ 100000 * y := Int.mul_le_mul_of_nonneg_right l2 p0
  have q2 : -100000 * y ≤ x * y := Int.mul_le_mul_of_nonneg_right l1 p0
  omega
theorem size_all (b : Bk) (hp : ∀ p ∈ b.periods, 0 < p) : b.size = ((allSt b.periods).length : Nat) ∧ 0 < b.size := by
  obtain ⟨n, e, hn⟩ := all_len b.periods hp
  have h : b.size = (n : Int) := by
    unfold Bk.size
    rw [hn, Int.one_mul]
  refine ⟨by rw [h, e], ?_⟩
  have : ∀ (l : List Int) (a : Int), 0 < a → (∀ p ∈ l, 0 < p) → 0 < l.foldl (fun a p => a * p) a := by
    intro l
    induction l with
    | nil => intro a h _; exact h
    | cons p l ih => intro a h hl; exact ih _ (Int.mul_pos h (hl p (List.mem_cons_self ..))) fun q hq => hl q (List.mem_cons_of_mem _ hq)
  exact this _ 1 (by decide) hp
theorem per_pos {b : Bk} (ok : BkOk b) : ∀ p ∈ b.periods, 0 < p := by
  intro p hp
  obtain ⟨g, hg, rfl⟩ := List.mem_map.mp hp
  obtain ⟨gg, gl⟩ := ok.go _ hg
  exact (per_small (by have := ok.wo.2; simp only [List.length_append]; omega) (good_app gg ok.wo.1)).1
theorem all_two {b c : Bk} (okb : BkOk b) (okc : BkOk c) : ((allSt (spansS (RD b c))).length : Int) = b.size * c.size := by
  rw [spans_RD]
  have h : ∀ p ∈ b.periods ++ c.periods, 0 < p := fun p hp => (List.mem_append.mp hp).elim (per_pos okb p) (per_pos okc p)
  obtain ⟨n, e, hn⟩ := all_len _ h
  have h1 := hn 1
  rw [Int.one_mul, List.foldl_append] at h1
  obtain ⟨m, e2, hm⟩ := all_len c.periods (per_pos okc)
  rw [hm] at h1
  rw [e, ← h1]
  show b.size * (m : Int) = _
  rw [(size_all c (per_pos okc)).1, e2]
theorem best_len {b c : Bk} (T : Two b c) : (bestR b c).length ≤ (allSt (spansS (RD b c))).length := by
  have t := best_top b.names (RD b c)
  have := nd_le (keysA (bestR b c)) (allSt (spansS (RD b c))) t.nd fun k hk => by
    obtain ⟨x, hx, rfl⟩ := List.mem_map.mp hk
    obtain ⟨ln, hln, e1, e2⟩ := t.dn x.1 x.2 (mem_aget t.nd hx)
    obtain ⟨nm, a, n1, n2, n3, m1, m2⟩ := lines_to hln
    have : x.1 = stL (spansS (RD b c)) (mvs b c [(nm, a)]) := by rw [bill_sta b c _ _ rfl, ← e1, m1, move_RD]
    rw [this]
    exact stL_in _ _ (bok T).hp
  unfold keysA at this
  rwa [List.length_map] at this
theorem row_hyp {b c : Bk} (T : Two b c) (hs : b.size * c.size ≤ 200) (ha : ∀ nm ∈ b.names, amts [b, c] nm ≤ 400) : ∃ n0, RowHyp b.names (RD b c) (bestS b.names (RD b c)) n0 := by
  have B := bok T
  have hall := all_two T.okb T.okc
  obtain ⟨n0, a1, a2, a3⟩ := n0_ex B
  have led := (led_at B).mp a2
  obtain ⟨o1, o2, o3⟩ := ord_ok B.hp (mv_len B)
  obtain ⟨t, ht, e1, e2, e3⟩ := heavy B.ne
  have tp := best_top b.names (RD b c)
  obtain ⟨ln, hln, f1, f2⟩ := tp.dn t.1 t.2 (mem_aget tp.nd ht)
  obtain ⟨nm, a, n1, n2, n3, m1, m2⟩ := lines_to hln
  have hbot := (bot_bd (sok T)).1
  have n3 : a < amts [b, c] nm := n3
  have hle := ha nm n1
  have hrise : -1000000000000000 ≤ riseS (RD b c) (bestR b c) ∧ riseS (RD b c) (bestR b c) ≤ 1000000000000000 := by
    have hr := rise_eq T
    have x1 := w1_bd T.okb hbot n1 n2 (by omega)
    have x2 := w1_bd T.okc hbot (by rw [← T.en]; exact n1) n2 (a := a) (by omega)
    have hw := wgt_RD (botS (RD b c)) b c (nm, a)
    have hmost : mostS (bestR b c) = wgtS (botS (RD b c)) (RD b c) nm a := by rw [← e2, ← m2, ← f2]
    have hw : wgtS (botS (RD b c)) (RD b c) nm a = w1 (botS (RD b c)) b (nm, a) - w1 (botS (RD b c)) c (nm, a) := hw
    rw [hmost, hw] at hr
    generalize w1 (botS (RD b c)) b (nm, a) = y1 at *
    generalize w1 (botS (RD b c)) c (nm, a) = y2 at *
    generalize botS (RD b c) = bt at *
    generalize riseS (RD b c) (bestR b c) = r at *
    have o1 : 0 < turnS (RD b c) (bestR b c) := o1
    have o2 : turnS (RD b c) (bestR b c) ≤ ((allSt (spansS (RD b c))).length : Int) := o2
    generalize turnS (RD b c) (bestR b c) = tn at *
    have y0 : y1 - y2 ≤ 125000000 * bt := by omega
    have y0' : -(125000000 * bt) ≤ y1 - y2 := by omega
    have z1 : tn * (y1 - y2) ≤ tn * (125000000 * bt) := Int.mul_le_mul_of_nonneg_left y0 (by omega)
    have z2 : tn * (-(125000000 * bt)) ≤ tn * (y1 - y2) := Int.mul_le_mul_of_nonneg_left y0' (by omega)
    have z3 : tn * (125000000 * bt) ≤ 200 * (125000000 * bt) := Int.mul_le_mul_of_nonneg_right (by omega) (by omega)
    rw [Int.mul_neg] at z2
    constructor
    · refine Int.le_of_mul_le_mul_left (a := bt) ?_ hbot
      rw [hr]
      have : bt * -1000000000000000 = -(1000000000000000 * bt) := by omega
      omega
    · refine Int.le_of_mul_le_mul_left (a := bt) ?_ hbot
      rw [hr]
      omega
  have hps : 2 ≤ (spansS (RD b c)).length := by
    rw [spans_RD, List.length_append, per_len, per_len]
    have := List.length_pos_iff.mpr T.okb.g0
    have := List.length_pos_iff.mpr T.okc.g0
    omega
  have sm : ∀ {F : Sums} {n : Nat}, Top id F (Wlk (spansS (RD b c)) (bestR b c) n) → SmOk (RD b c) F := fun h => ⟨top_ne B h, by have := top_len B h; omega, top_kl B h⟩
  refine ⟨n0, sok T, by simp, ha, hps, B.ne, (by show (bestR b c).length ≤ 1000; have := best_len T; omega), by omega, a3, a2, fun n _ => sm (top_FF B.hl n), o1, ?_, fun j _ => sm (top_GG B led j), fun x hx => ?_, hrise.1, hrise.2⟩
  · have o2 : turnS (RD b c) (bestR b c) ≤ ((allSt (spansS (RD b c))).length : Int) := o2
    show turnS (RD b c) (bestR b c) ≤ 1000
    omega
  · have hx : x ∈ mvS (bestR b c) := hx
    rw [← e1, ← f1, m1] at hx
    obtain ⟨y, hy, rfl⟩ := List.mem_map.mp hx
    exact Int.emod_nonneg _ (by have := B.hp _ (List.of_mem_zip hy).2; omega)
/-- one book of a drawn pair -/
structure Pln (N : List Str) (R : Str → Fr) (b : Bk) : Prop where
  ok : BkOk b
  nm : b.names = N
  gk : Gk b
  k2 : b.kinds.length ≤ 2
  sz : b.size ≤ 14
  pr : ∀ x ∈ N, b.period (kAt b x) ≤ 12
  rt : ∀ x ∈ N, b.rate (kAt b x) = R x
section
variable {N : List Str} {R : Str → Fr} {b c : Bk}
theorem two_of (p : Pln N R b) (q : Pln N R c) : Two b c := ⟨p.ok, q.ok, p.nm.trans q.nm.symm, p.gk, q.gk, p.k2⟩
theorem amts_le (p : Pln N R b) (q : Pln N R c) {x : Str} (hx : x ∈ N) : amts [b, c] x ≤ 400 := by
  have b1 := per_bk p.ok (by rw [p.nm]; exact hx)
  have c1 := per_bk q.ok (by rw [q.nm]; exact hx)
  have b2 := p.pr x hx
  have c2 := q.pr x hx
  show cm (cm 1 _) _ ≤ 400
  generalize b.period (kAt b x) = u at *
  generalize c.period (kAt c x) = v at *
  obtain ⟨h1, h2⟩ := cm_pos (a := 1) (b := u) (by decide) b1.1
  obtain ⟨h3, h4⟩ := cm_pos h1 c1.1
  have h5 : cm 1 u * v ≤ 12 * 12 := Int.le_trans (Int.mul_le_mul_of_nonneg_right (by omega : cm 1 u ≤ 12) (by omega)) (Int.mul_le_mul_of_nonneg_left c2 (by decide))
  omega
theorem pair_of (p : Pln N R b) (q : Pln N R c) : PairOk b c := by
  have T := two_of p q
  have s1 := (size_all b (per_pos p.ok)).2
  have s2 := (size_all c (per_pos q.ok)).2
  have s3 := p.sz
  have s4 := q.sz
  have h5 : b.size * c.size ≤ 14 * 14 := Int.le_trans (Int.mul_le_mul_of_nonneg_right s3 (by omega)) (Int.mul_le_mul_of_nonneg_left s4 (by decide))
  have ha : ∀ nm ∈ b.names, amts [b, c] nm ≤ 400 := fun x hx => amts_le p q (by rw [← p.nm]; exact hx)
  refine ⟨p.ok, q.ok, T.en, fun x hx => ?_, ⟨s1, by omega⟩, ⟨s2, by omega⟩, ?_, ha, row_hyp T (by omega) ha⟩
  · rw [p.nm] at hx
    rw [p.rt x hx, q.rt x hx]
  · show 1 * b.size * c.size ≤ 200
    rw [Int.one_mul]
    omega
/-! ### what the rows tell of each other -/
theorem told_uniq (T : Two b c) {x y : Rw} (hx : Told b c x) (hy : Told b c y) (k : Nat) : x.tell k = y.tell k := by
  obtain ⟨⟨l1, a1, a2, a3⟩, a4⟩ := told_max T hx k
  obtain ⟨⟨l2, d1, d2, d3⟩, d4⟩ := told_max T hy k
  have := a4 l2 d1 d2
  have := d4 l1 a1 a2
  omega
theorem told_zero (T : Two b b) {x : Rw} (h : Told b b x) : x = ⟨[], [0], 0⟩ := by
  obtain ⟨n0, hyp, tl, z⟩ := h
  have B := bok T
  have led := (led_at B).mp hyp.led1
  have hp := (bot_bd (sok T)).1
  have h0 : ∀ k, tell (numsS (RD b b) (bestR b b) n0) (againS (RD b b) (bestR b b) n0) (riseS (RD b b) (bestR b b)) k = 0 := by
    intro k
    obtain ⟨M, m0, m1, m2, m3⟩ := tell_max T led k
    obtain ⟨bl, _, _, e⟩ := val_bill T m1
    rw [e] at m2
    have := Int.eq_of_mul_eq_mul_left (by omega) m2
    rw [this]
    exact Int.sub_self _
  have ln : (numsS (RD b b) (bestR b b) n0).length = n0 := by unfold numsS; rw [List.length_map, List.length_range]
  have la : (againS (RD b b) (bestR b b) n0).length = (turnS (RD b b) (bestR b b)).toNat := by unfold againS; rw [List.length_map, List.length_range]
  have t0 : 1 ≤ turnS (RD b b) (bestR b b) := hyp.t0
  have z' : (∀ y ∈ numsS (RD b b) (bestR b b) n0, y = 0) → (∀ y ∈ againS (RD b b) (bestR b b) n0, y = 0) → riseS (RD b b) (bestR b b) = 0 → x = ⟨[], [0], 0⟩ := z
  generalize numsS (RD b b) (bestR b b) n0 = e at *
  generalize againS (RD b b) (bestR b b) n0 = a at *
  generalize riseS (RD b b) (bestR b b) = r at *
  have hA : ∀ y ∈ a, y = 0 := by
    intro y hy
    obtain ⟨i, hi, rfl⟩ := List.getElem_of_mem hy
    have := h0 (e.length + i)
    unfold tell at this
    rw [if_neg (by omega), show e.length + i - e.length = i by omega, Nat.mod_eq_of_lt hi, Nat.div_eq_of_lt hi, List.getD_eq_getElem?_getD, List.getElem?_eq_getElem hi] at this
    simpa using this
  refine z' (fun y hy => ?_) hA ?_
  · obtain ⟨i, hi, rfl⟩ := List.getElem_of_mem hy
    have := h0 i
    unfold tell at this
    rw [if_pos hi, List.getD_eq_getElem?_getD, List.getElem?_eq_getElem hi] at this
    exact this
  · have h1 : 0 < a.length := by omega
    have := h0 (e.length + a.length)
    unfold tell at this
    rw [if_neg (by omega), show e.length + a.length - e.length = a.length by omega, Nat.mod_self, Nat.div_self h1, List.getD_eq_getElem?_getD, List.getElem?_eq_getElem h1] at this
    have e0 := hA a[0] (List.getElem_mem h1)
    have this : a[0] + ((1 : Nat) : Int) * r = 0 := this
    rw [e0] at this
    simpa using this
theorem told_sum (T : Two b c) (T2 : Two c b) {x y : Rw} (hx : Told b c x) (hy : Told c b y) (k : Nat) : 0 ≤ x.tell k + y.tell k := by
  obtain ⟨nm, hn⟩ := name_ex T
  have hn2 : nm ∈ c.names := by rw [← T.en]; exact hn
  have h1 := (told_max T hx k).2 (List.replicate k (nm, 0)) (fun l hl => by
    rw [List.eq_of_mem_replicate hl]
    exact ⟨hn, Int.le_refl _, amts_p T hn⟩) (by simp)
  have h2 := (told_max T2 hy k).2 (List.replicate k (nm, 0)) (fun l hl => by
    rw [List.eq_of_mem_replicate hl]
    exact ⟨hn2, Int.le_refl _, amts_p T2 hn2⟩) (by simp)
  show 0 ≤ x.tell k + y.tell k
  have h1 : askN b (List.replicate k (nm, 0)) - askN c (List.replicate k (nm, 0)) ≤ x.tell k := h1
  have h2 : askN c (List.replicate k (nm, 0)) - askN b (List.replicate k (nm, 0)) ≤ y.tell k := h2
  omega
end
end Lf

set_option Elab.async false
set_option linter.all false
/-! A drawn pair: what it is. -/
namespace Lf
open PySem Lr Lm
theorem frac_idem {a b : Int} (ha : 1 ≤ a ∧ a ≤ 5) (hb : 1 ≤ b ∧ b ≤ 5) : frac (frac a b).1 (frac a b).2 = frac a b := by
  have h1 : a = 1 ∨ a = 2 ∨ a = 3 ∨ a = 4 ∨ a = 5 := by omega
  have h2 : b = 1 ∨ b = 2 ∨ b = 3 ∨ b = 4 ∨ b = 5 := by omega
  rcases h1 with rfl | rfl | rfl | rfl | rfl <;> rcases h2 with rfl | rfl | rfl | rfl | rfl <;> decide
theorem neu_fold : ∀ (ss : List Stp), Neu ss → ∀ p : Fr, frac p.1 p.2 = p → ss.foldl rate1 p = p
  | [], _, p, _ => rfl
  | s :: ss, h, p, hp => by
    have hs := h s (List.mem_cons_self ..)
    have e : rate1 p s = p := by
      rcases hs with ⟨c, rfl⟩ | ⟨y, u, rfl⟩
      · rfl
      · show frac (p.1 * (frac 1 1).1) (p.2 * (frac 1 1).2) = p
        rw [show frac 1 1 = ((1 : Int), (1 : Int)) by decide, Int.mul_one, Int.mul_one, hp]
    rw [List.foldl_cons, e]
    exact neu_fold ss (fun t ht => h t (List.mem_cons_of_mem _ ht)) p hp
theorem rate_is {ss : List Stp} {f : Int × Int} (h : RateIs ss f) (h1 : 1 ≤ f.1 ∧ f.1 ≤ 5) (h2 : 1 ≤ f.2 ∧ f.2 ≤ 5) : rateOf ss = frac f.1 f.2 := by
  obtain ⟨pre, y, u, post, rfl, n1, n2⟩ := h
  unfold rateOf
  rw [List.foldl_append, neu_fold pre n1 (1, 1) (by decide), List.foldl_cons]
  have e : rate1 (1, 1) (.times f.1 f.2 y u) = frac f.1 f.2 := by
    show frac (1 * (frac f.1 f.2).1) (1 * (frac f.1 f.2).2) = _
    rw [Int.one_mul, Int.one_mul, frac_idem h1 h2]
  rw [e, neu_fold post n2 _ (frac_idem h1 h2)]
def rAt (labels : List Str) (fs : List (Int × Int)) (nm : Str) : Fr := match fs[labels.idxOf nm]? with
  | some f => frac f.1 f.2
  | none => (1, 1)
theorem kat_i {b : Bk} (nd : b.names.Nodup) {nm : Str} {i : Nat} (h : b.names[i]? = some nm) : ∃ k, b.kinds[i]? = some k ∧ kAt b nm = k := by
  unfold Bk.names at h
  rw [List.getElem?_map] at h
  cases q : b.kinds[i]? with
  | none => rw [q] at h; cases h
  | some k =>
    rw [q] at h
    have h : k.name = nm := Option.some.inj h
    exact ⟨k, rfl, by rw [← h]; exact kAt_self nd (List.mem_of_getElem? q)⟩
theorem idx_at {labels : List Str} {nm : Str} (h : nm ∈ labels) : labels[labels.idxOf nm]? = some nm := by
  have hi := List.idxOf_lt_length_of_mem h
  rw [List.getElem?_eq_getElem hi, List.getElem_idxOf hi]
theorem am_get {n : Nat} {b c : Bk} (hb : b.kinds.length = n) (hc : c.kinds.length = n) {i : Nat} {k k2 : Knd} (h1 : b.kinds[i]? = some k) (h2 : c.kinds[i]? = some k2) : cm (cm 1 (b.period k)) (c.period k2) ∈ amtsP [b, c] n := by
  refine List.mem_iff_getElem?.mpr ⟨i, ?_⟩
  have hi := (List.getElem?_eq_some_iff.mp h1).1
  show (am1 (am1 (List.replicate n 1) b) c)[i]? = _
  unfold am1
  rw [List.getElem?_map]
  have e2 : (((((List.replicate n (1 : Int)).zip (b.kinds.map b.period)).map fun x => cm x.1 x.2)).zip (c.kinds.map c.period))[i]? = some (cm 1 (b.period k), c.period k2) := by
    rw [List.getElem?_zip_eq_some]
    refine ⟨?_, by rw [List.getElem?_map, h2]; rfl⟩
    rw [List.getElem?_map]
    have e1 : ((List.replicate n (1 : Int)).zip (b.kinds.map b.period))[i]? = some (1, b.period k) := by
      rw [List.getElem?_zip_eq_some]
      exact ⟨by rw [List.getElem?_replicate, if_pos (by omega)], by rw [List.getElem?_map, h1]; rfl⟩
    rw [e1]
    rfl
  rw [e2]
  rfl
theorem cm_ge {u v : Int} (hu : 0 < u) (hv : 0 < v) : u ≤ cm (cm 1 u) v ∧ v ≤ cm (cm 1 u) v := by
  obtain ⟨h1, _⟩ := cm_pos (a := 1) (b := u) (by decide) hu
  obtain ⟨h3, _⟩ := cm_pos h1 hv
  obtain ⟨d1, d2⟩ := cm_dl (a := 1) (b := u) (by decide) hu
  obtain ⟨d3, d4⟩ := cm_dl h1 hv
  exact ⟨Int.le_of_dvd h3 (Int.dvd_trans d2 d3), Int.le_of_dvd h3 d4⟩
theorem plans_of {b c : Bk} (h : P2 b c) : ∃ N R, Pln N R b ∧ Pln N R c := by
  obtain ⟨⟨labels, fs, lab, pb, pc, am⟩, st⟩ := h
  have nb : b.names.Nodup := by rw [pb.nm]; exact lab.nd
  have nc : c.names.Nodup := by rw [pc.nm]; exact lab.nd
  have lb : b.kinds.length = labels.length := by rw [← pb.nm]; exact (List.length_map ..).symm
  have lc : c.kinds.length = labels.length := by rw [← pc.nm]; exact (List.length_map ..).symm
  have s1 := size_all b (per_pos pb.ok)
  have s2 := size_all c (per_pos pc.ok)
  have hst : b.size * c.size ≤ 14 := by
    have : statesP [b, c] = c.periods.foldl (fun t p => t * p) (b.periods.foldl (fun t p => t * p) 1) := rfl
    obtain ⟨n, e, hn⟩ := all_len c.periods (per_pos pc.ok)
    rw [this, hn] at st
    rw [s2.1, e]
    exact st
  have hb : b.size ≤ 14 := by
    have : b.size * 1 ≤ b.size * c.size := Int.mul_le_mul_of_nonneg_left (by omega) (by omega)
    omega
  have hc : c.size ≤ 14 := by
    have : 1 * c.size ≤ b.size * c.size := Int.mul_le_mul_of_nonneg_right (by omega) (by omega)
    omega
  have hper : ∀ x ∈ labels, b.period (kAt b x) ≤ 12 ∧ c.period (kAt c x) ≤ 12 := by
    intro x hx
    obtain ⟨k, hk, e1⟩ := kat_i nb (by rw [pb.nm]; exact idx_at hx)
    obtain ⟨k2, hk2, e2⟩ := kat_i nc (by rw [pc.nm]; exact idx_at hx)
    have := am _ (am_get lb lc hk hk2)
    rw [e1, e2]
    have := cm_ge (period_k pb.ok (List.mem_of_getElem? hk)).1 (period_k pc.ok (List.mem_of_getElem? hk2)).1
    omega
  have hrt : ∀ {d : Bk}, PlanOf labels fs d → ∀ x ∈ labels, d.rate (kAt d x) = rAt labels fs x := by
    intro d pd x hx
    have hl := lab.len
    have hi := List.idxOf_lt_length_of_mem hx
    have hf : fs[labels.idxOf x]? = some (fs[labels.idxOf x]'(by omega)) := List.getElem?_eq_getElem _
    obtain ⟨k, hk, e1⟩ := kat_i (b := d) (by rw [pd.nm]; exact lab.nd) (by rw [pd.nm]; exact idx_at hx)
    have hr := pd.rt _ k _ hk hf
    obtain ⟨f1, f2⟩ := lab.fa _ (List.mem_of_getElem? hf)
    unfold rAt
    rw [hf, e1]
    exact rate_is hr f1 f2
  exact ⟨labels, rAt labels fs, ⟨pb.ok, pb.nm, pb.gk, by rw [lb]; exact lab.l2, hb, fun x hx => (hper x hx).1, hrt pb⟩, ⟨pc.ok, pc.nm, pc.gk, by rw [lc]; exact lab.l2, hc, fun x hx => (hper x hx).2, hrt pc⟩⟩
/-- the same book with three more on the whole -/
abbrev plus3 (c : Bk) : Bk := ⟨c.kinds, c.groups, c.whole ++ [.plus 3]⟩
theorem per_plus (ss : List Stp) : periodOf (ss ++ [.plus 3]) = periodOf ss := by
  unfold periodOf perOf
  rw [List.foldl_append]
  rfl
theorem rate_plus (ss : List Stp) : rateOf (ss ++ [.plus 3]) = rateOf ss := by
  unfold rateOf
  rw [List.foldl_append]
  rfl
theorem periods_plus (c : Bk) : (plus3 c).periods = c.periods := by
  show c.groups.map (fun g => periodOf (g ++ (c.whole ++ [.plus 3]))) = c.groups.map fun g => periodOf (g ++ c.whole)
  apply List.map_congr_left
  intro g _
  rw [← List.append_assoc, per_plus]
theorem period_plus (c : Bk) (k : Knd) : (plus3 c).period k = c.period k := by
  show periodOf (k.steps ++ c.grpOf k ++ (c.whole ++ [.plus 3])) = periodOf (k.steps ++ c.grpOf k ++ c.whole)
  rw [← List.append_assoc, per_plus]
theorem rate_plus3 (c : Bk) (k : Knd) : (plus3 c).rate k = c.rate k := by
  show rateOf (k.steps ++ c.grpOf k ++ (c.whole ++ [.plus 3])) = rateOf (k.steps ++ c.grpOf k ++ c.whole)
  rw [← List.append_assoc, rate_plus]
theorem ask_plus (c : Bk) (bl : List (Str × Int)) : askN (plus3 c) bl = askN c bl + 3 := by
  show led (c.whole ++ [.plus 3]) ((List.zipWith led c.groups (bsums c bl)).sum) = led c.whole ((List.zipWith led c.groups (bsums c bl)).sum) + 3
  rw [led_app]
  rfl
theorem bk_plus {c : Bk} (ok : BkOk c) (h : c.whole.length < 2) : BkOk (plus3 c) := by
  refine ⟨ok.k0, ok.k4, ok.g0, ok.g3, ok.nd, ok.ko, ok.kg, ok.go, fun s hs => ?_, ?_⟩
  · rcases List.mem_append.mp hs with h | h
    · exact ok.wo.1 s h
    · rw [List.mem_singleton.mp h]
      exact ⟨by decide, by decide⟩
  · show (c.whole ++ [Stp.plus 3]).length ≤ 2
    rw [List.length_append, List.length_singleton]
    omega
theorem pln_plus {N : List Str} {R : Str → Fr} {c : Bk} (p : Pln N R c) (h : c.whole.length < 2) : Pln N R (plus3 c) := by
  refine ⟨bk_plus p.ok h, p.nm, p.gk, p.k2, ?_, fun x hx => ?_, fun x hx => ?_⟩
  · unfold Bk.size
    rw [periods_plus]
    exact p.sz
  · rw [period_plus]; exact p.pr x hx
  · rw [rate_plus3]; exact p.rt x hx
theorem told_tri {N : List Str} {R : Str → Fr} {b c : Bk} (p : Pln N R b) (q : Pln N R c) (h : c.whole.length < 2) {x y z : Rw} (hz : Told b (plus3 c) z) (hx : Told b c x) (hy : Told c (plus3 c) y) (k : Nat) : z.tell k ≤ x.tell k + y.tell k := by
  have qt := pln_plus q h
  obtain ⟨bl, b1, b2, b3⟩ := (told_max (two_of p qt) hz k).1
  obtain ⟨bl2, c1, c2, c3⟩ := (told_max (two_of q qt) hy k).1
  have hb : LOk b c bl := fun l hl => by
    obtain ⟨d1, d2, d3⟩ := b1 l hl
    refine ⟨d1, d2, ?_⟩
    have e : amts [b, plus3 c] l.1 = amts [b, c] l.1 := by
      show cm (cm 1 _) ((plus3 c).period (kAt c l.1)) = _
      rw [period_plus]
      rfl
    rw [← e]
    exact d3
  have := (told_max (two_of p q) hx k).2 bl hb b2
  have this : askN b bl - askN c bl ≤ x.tell k := this
  have b3 : z.tell k = askN b bl - askN (plus3 c) bl := b3
  have c3 : y.tell k = askN c bl2 - askN (plus3 c) bl2 := c3
  rw [ask_plus] at b3 c3
  omega
end Lf

set_option Elab.async false
set_option linter.all false
/-! Every drawn pair is right. -/
namespace Lf
open PySem Lr Lm
theorem right_ok (b c : Bk) (h : P2 b c) : RightOk b c := by
  obtain ⟨N, R, p, q⟩ := plans_of h
  have tri : ∀ x y z, Told b (thirdOf b c) z → Told b c x → Told c (thirdOf b c) y → ∀ k, z.tell k ≤ x.tell k + y.tell k := by
    intro x y z hz hx hy k
    unfold thirdOf at hz hy
    by_cases hw : c.whole.length < 2
    · rw [if_pos hw] at hz hy
      exact told_tri p q hw hz hx hy k
    · rw [if_neg hw] at hz hy
      have e := told_zero (two_of p p) hz
      rw [e, tell_0]
      exact told_sum (two_of p q) (two_of q p) hx hy k
  have hct : PairOk c (thirdOf b c) ∧ PairOk b (thirdOf b c) := by
    unfold thirdOf
    by_cases hw : c.whole.length < 2
    · rw [if_pos hw]
      exact ⟨pair_of q (pln_plus q hw), pair_of p (pln_plus q hw)⟩
    · rw [if_neg hw]
      exact ⟨pair_of q p, pair_of p p⟩
  exact ⟨fun hw => bk_plus q.ok hw, pair_of p q, pair_of q p, pair_of p p, pair_of q q, hct.1, hct.2, fun x y hx hy k => told_uniq (two_of p q) hx hy k, fun x y hx hy k => told_uniq (two_of q p) hx hy k, fun x hx => told_zero (two_of p p) hx, fun x hx => told_zero (two_of q q) hx, fun x y hx hy k => told_sum (two_of p q) (two_of q p) hx hy k, tri⟩
end Lf

set_option Elab.async false
set_option linter.all false
set_option maxRecDepth 100000
set_option maxHeartbeats 0
open PySem PySem.W PySem.Calls PyProof.Rows
theorem PySem.Challenge.cw_linecents_k30_whole_rows_of_books_exchan_holds : PySem.Challenge.rw_linecents_k30_whole_rows_of_books_exchan.Holds := by
  w_on; o_law
  refine HandSHeadRun.head_any (r := OpenLaw.row PySem.Challenge.rw_linecents_k30_whole_rows_of_books_exchan) (q := view (OpenLaw.row PySem.Challenge.rw_linecents_k30_whole_rows_of_books_exchan).prog [114]) (H := Lc.hk) (ob := Lc.ob) (M := 12000) (loose := Lc.loose) (d := HandSHeadRun.topDef (OpenLaw.row PySem.Challenge.rw_linecents_k30_whole_rows_of_books_exchan).prog 114) (kwd := []) Lc.ob_eq
    (by kernel_rfl) (fun s => by kernel_rfl) Lc.run (by kernel_rfl) (by kernel_rfl) (by kernel_rfl) (by rfl) (by first | assumption | decide +kernel) (by decide +kernel) ⟨rfl, rfl, rfl, rfl, rfl, by decide +kernel⟩ ?hw ?hc
  case hw => w_witness2
  case hc =>
    refine L2.walk_ofE (l := PySem.Challenge.rw_linecents_k30_whole_rows_of_books_exchan) (n := 63) (k := 12) (x := "_law_cells") (CX := L2.CX0) rfl (by decide) (by kernel_rfl) ⟨rfl, by decide, by decide⟩ ?F (fun _ _ _ _ z => z)
    intro w mg fa h Y G hmg0
    obtain ⟨K, KX, c⟩ := Y
    have hmg : mg ("law" : PySem.Str) = some (.ref fa) := by
      have e : (HandSHeadRun.topDef (OpenLaw.row PySem.Challenge.rw_linecents_k30_whole_rows_of_books_exchan).prog 114).name = ("law" : PySem.Str) := by kernel_rfl
      rw [← e]
      exact hmg0
    have T : Lf.Tx K mg := ⟨c, h, KX, G⟩
    have e := hmg.symm.trans (T.glo 66)
    cases e
    obtain ⟨fd, hb, hF⟩ := Lf.law_fd T
    exact ⟨K, fd, Lf.sp_law K, KX, hb, fun H a ns hl _ hS => ⟨a, ns, rfl, hS, Lf.right_ok, fun _ => rfl⟩, fun base _ _ => hF _ w base⟩
