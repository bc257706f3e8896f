import PyProof.Rows.All
import Wide.All
import OpenK.AllK
import Wide.FinOn
import KE.KStateDown
import HandS.Base
import HandS.Call
import HandS.Ends
import HandS.More
import HandS.Words
import HandS.WordsExc
import HandS.Defaults
import HandS.Head0
import HandS.Head1
import HandS.Head2
import HandS.HeadEnd
import HandS.HeadHook1
import HandS.HeadHook2
import HandS.HeadHook3
import PySem.Challenge.RW_firstways_k98_whole_values_of_all_sorts
import HandS.ForMost
import HandS.IsInst
import HandS.Wide
import HandS.Style
import HandS.NoneIn
import HandS.TupAny
import HandS.TupMul
import HandS.Codes
import HandS.Text
import HandS.Deep
import KE.KDictPairs
import HandS.Zip
import KE.GoesNew
import KE.GoesMore
import KE.GoesEnum
import HandS.DictComp
import HandS.SortRule
import HandS.SortInts
import KE.KSortTup
import PyProof.Rows.SortKeyStr
import HandS.WideMore
set_option Elab.async false
set_option linter.all false
set_option maxRecDepth 100000
set_option maxHeartbeats 4000000
/-! JQ: what the head of a law is asked. It stands first of all: the head's runs want room. -/
namespace J
open PySem PySem.Spec PyProof.Rows L2
set_option autoImplicit false
/-- plain data: nothing in it is ever changed -/
inductive PD where
  | non | bl (b : Bool) | int (i : Int) | str (x : Str) | ty (n : String) | glo (x : Str)
  | tup (xs : List PD) | tun (xs : List PD) | lst (xs : List PD)
  | frz (xs : List PD)
  | dic (ks : List Key) (vs : List PD)
  | ins (C : Str) (ns : List Str) (vs : List PD)
/-- the classes with their fields' names -/
abbrev Fls := List (Str × List Str)
def relP (K : PySem.W.Frag) : PD → Value → Bool
  | .int i, .int j _ => decide (i = j)
  | .str x, .str y _ => decide (x = y)
  | .glo x, .ref a => decide (a = He.ga K x)
  | _, _ => false
/-- the entries are these, in order -/
def entB (K : PySem.W.Frag) : List DictEntry → List (Str × PD) → Bool
  | [], [] => true
  | e :: es, q :: qs => (match e.key with
    | .str x _ => decide (x = q.1)
    | _ => false) && (relP K q.2 e.val && entB K es qs)
  | _, _ => false
def tabB (K : PySem.W.Frag) (a : Addr) (tb : List (Str × PD)) : Bool := match K.lookup a with
  | some ⟨_, _, .dict es _, _⟩ => entB K es.toList tb
  | _ => false
/-! ### the objects that are looked at: what the module's names stand for, their parts, the classes' parts, the methods' codes -/
def asJ (g : Addr → Option Obj) : List Addr :=
  let l1 := match g mainGlobals with
    | some o => He.refsO o
    | none => []
  let l2 := l1.flatMap fun a => match g a with
    | some o => He.refsO o
    | none => []
  let l3 := l2.flatMap fun a => match g a with
    | some ⟨_, _, .dict es _, _⟩ => es.toList.flatMap fun e => He.refV e.val
    | _ => []
  let l4 := l3.flatMap fun a => match g a with
    | some ⟨_, _, .func fd, _⟩ => He.refV fd.code
    | _ => []
  mainGlobals :: (l1 ++ (l2 ++ (l3 ++ l4)))
/-! ### facts of the classes -/
def insB (K : PySem.W.Frag) (C : Addr) : Bool := decide (PySem.W.findIn K (.ref C) "__class__" = some (some (.builtin "object.__class__"))) && (decide (PySem.W.specialIn K (.builtin "object.__class__") "__get__" = some (some (.builtin "getset_descriptor.__get__"))) &&
  (decide (PySem.W.takesIn K (.builtin "object.__class__") = some true) && decide (PySem.W.mroIn K C (.type "object") = some true)))
def tysD : List String := ["int", "bool", "str", "tuple", "list", "dict"]
def tysU : List String := ["NoneType", "int", "bool", "str", "tuple", "list", "dict"]
def clsB (K : PySem.W.Frag) (cs : List Str) : Bool := cs.all fun C => (He.Fa.cls C).ok K && (insB K (He.ga K C) && ((cs.all fun E => decide (PySem.W.kitOne K (.ref (He.ga K C)) (.ref (He.ga K E)) = some (C == E))) &&
  ((tysD.all fun T => decide (PySem.W.kitOne K (.ref (He.ga K C)) (.type T) = some false)) && tysU.all fun T => decide (PySem.W.kitOne K (.type T) (.ref (He.ga K C)) = some false))))
def flB (K : PySem.W.Frag) (fl : Fls) : Bool := fl.all fun q => (He.Fa.cls q.1).ok K && q.2.all fun f => (He.Fa.noat q.1 f).ok K
/-! ### facts of the constants -/
def gloB (K : PySem.W.Frag) (q : Str × PD) : Bool := match q.2 with
  | .int i => (He.Fa.int q.1 i).ok K
  | .str z => (He.Fa.str q.1 z).ok K
  | .glo y => decide (y = q.1) && (He.Fa.glo q.1).ok K
  | _ => false
/-! ### all that is asked -/
structure Ask where
  fn : List He.DefD
  fa : List He.Fa
  bts : List Str
  gls : List (Str × PD)
  cls : List Str
  fl : Fls
  kds : List (Str × List (Str × PD))
abbrev AlJ : Type := Bool × List He.FnW × List (Option (List (Option (Str × Int))))
def askB (a : Ask) (K : PySem.W.Frag) : Bool := (a.fa.all fun f => f.ok K) && ((a.fn.all fun d => d.ok K) && ((a.bts.all fun x => (He.Fa.free x).ok K) && ((a.gls.all fun q => gloB K q) && (clsB K a.cls && (flB K a.fl && a.kds.all fun t => (He.Fa.glo t.1).ok K && tabB K (He.ga K t.1) t.2)))))
def obsJ (a : Ask) (K : PySem.W.Frag) : AlJ := (askB a K, a.fn.map fun d => He.fnW K d.at_, a.kds.map fun t => He.dicW K (He.ga K t.1))
def valJ (a : Ask) (w : World) : AlJ := (true, a.fn.map He.DefD.val, a.kds.map fun t => some (He.keysIn w.params (t.2.map (·.1))))
def hookJ (a : Ask) : PySem.W.Hook where
  α := AlJ
  obs := fun s => obsJ a (He.frG s.heap.get? (asJ s.heap.get?))
  val := fun w => valJ a w
  says := fun w h => ∃ K : PySem.W.Frag, K.In h ∧ obsJ a K = valJ a w
  of := fun _ _ e => ⟨_, He.frG_in, e⟩
  keeps := fun _ _ _ ⟨K, hK, c⟩ k => ⟨K, PySem.W.Frag.In.keeps hK k, c⟩
noncomputable def obJ (a : Ask) (s : PySem.W.SharedT) : AlJ := obsJ a (He.frG (HandSHeadRun.getT s) (asJ (HandSHeadRun.getT s)))
theorem obJ_eq (a : Ask) (s : PySem.W.SharedT) : obJ a s = (hookJ a).obs s.abs := by
  have e : HandSHeadRun.getT s = s.abs.heap.get? := funext (HandSHeadRun.getT_eq s)
  unfold obJ
  rw [e]
  rfl
end J

set_option Elab.async false
set_option linter.all false
set_option maxRecDepth 100000
set_option maxHeartbeats 0
namespace J
open PySem PySem.Spec PyProof.Rows L2
set_option autoImplicit false
def lawText : Str := match (defBody (PySem.Challenge.pw_firstways_k98_whole_values_of_all_sorts.main.body.getD 183 (.Pass ⟨0, 0, 0, 0⟩))).getD 1 (.Pass ⟨0, 0, 0, 0⟩) with
  | .Assign _ (.Call _ [.Constant (.str s) _ _] _ _) _ => s
  | _ => ""
def CLS : List Str := ["Machine", "Answer", "Start", "Cursor"]
def FL : Fls := [("Machine", ["field", "reads", "places", "arrows"]), ("Answer", ["word", "paper"]), ("Start", ["place", "row"]), ("Cursor", ["line", "signs", "at"])]
def GLS : List (Str × PD) := [("__name__", (.str "law_firstways_k98_whole_values_of_all_sorts")), ("SMALL", (.str "abcdefghijklmnopqrstuvwxyz")), ("FIGURES", (.str "0123456789")), ("MOST_SIGNS", (.int 8)), ("MOST_PRIME", (.int 100)), ("PARTS", (.int 7)), ("Machine", (.glo "Machine")), ("FROM", (.int 1)), ("TO", (.int 2)), ("TABLE", (.int 3)), ("SHIFT", (.int 4)), ("LOOK", (.int 5)), ("TOLD", (.int 6)), ("FORGETS", (.str "forgets")), ("NEVER", (.str "never")), ("Answer", (.glo "Answer")), ("Start", (.glo "Start")), ("ALWAYS", (.str "always")), ("BROKEN", (.str "broken")), ("BLANK", (.str " ")), ("Cursor", (.glo "Cursor")), ("WEB", (.str "web")), ("ALIKE", (.str "alike")), ("PARTED", (.str "parted"))]
def BTS : List Str := ["len", "abs", "ord", "isinstance", "int", "bool", "str", "tuple", "list", "dict", "range", "enumerate", "zip", "sum", "min", "max", "sorted"]
def SHS : List Str := ["_law_deal"]
def MSH : List Str := ["Cursor"]
def kd_RANKS : List (Str × PD) := [("field", (.int 0)), ("reads", (.int 1)), ("place", (.int 2)), ("arrow", (.int 3))]
def KDS : List (Str × List (Str × PD)) := [("RANKS", kd_RANKS)]
def top (i : Nat) : Stmt := PySem.Challenge.pw_firstways_k98_whole_values_of_all_sorts.main.body.getD i (.Pass ⟨0, 0, 0, 0⟩)
def sub (s : Stmt) (j : Nat) : Stmt := match s with
  | .ClassDef _ _ _ body _ _ _ _ _ _ _ => body.getD j (.Pass ⟨0, 0, 0, 0⟩)
  | _ => .Pass ⟨0, 0, 0, 0⟩
def D__law_deal__law_deal : He.DefD := ⟨("_law_deal", none), "_law_deal", "_law_deal", defArgs (top 175), defBody (top 175), defScope (top 175), [], []⟩
def D_run_end_run_end : He.DefD := ⟨("run_end", none), "run_end", "run_end", defArgs (top 142), defBody (top 142), defScope (top 142), [], []⟩
def D_sign_end_sign_end : He.DefD := ⟨("sign_end", none), "sign_end", "sign_end", defArgs (top 143), defBody (top 143), defScope (top 143), [], []⟩
def D_signs_of_signs_of : He.DefD := ⟨("signs_of", none), "signs_of", "signs_of", defArgs (top 144), defBody (top 144), defScope (top 144), [], []⟩
def D_is_due_is_due : He.DefD := ⟨("is_due", none), "is_due", "is_due", defArgs (top 151), defBody (top 151), defScope (top 151), [], []⟩
def D_Cursor_init : He.DefD := ⟨("Cursor", some "__init__"), "__init__", "Cursor.__init__", defArgs (sub (top 145) 0), defBody (sub (top 145) 0), defScope (sub (top 145) 0), [], []⟩
def D_Cursor_sign_ahead : He.DefD := ⟨("Cursor", some "sign_ahead"), "sign_ahead", "Cursor.sign_ahead", defArgs (sub (top 145) 1), defBody (sub (top 145) 1), defScope (sub (top 145) 1), [], []⟩
def D_Cursor_need_end : He.DefD := ⟨("Cursor", some "need_end"), "need_end", "Cursor.need_end", defArgs (sub (top 145) 6), defBody (sub (top 145) 6), defScope (sub (top 145) 6), [], []⟩
def D_told_end_told_end : He.DefD := ⟨("told_end", none), "told_end", "told_end", defArgs (top 148), defBody (top 148), defScope (top 148), [], []⟩
def D_are_figures_are_figures : He.DefD := ⟨("are_figures", none), "are_figures", "are_figures", defArgs (top 7), defBody (top 7), defScope (top 7), [], []⟩
def D_is_number_text_is_number_text : He.DefD := ⟨("is_number_text", none), "is_number_text", "is_number_text", defArgs (top 9), defBody (top 9), defScope (top 9), [], []⟩
def D_Cursor_need_number : He.DefD := ⟨("Cursor", some "need_number"), "need_number", "Cursor.need_number", defArgs (sub (top 145) 5), defBody (sub (top 145) 5), defScope (sub (top 145) 5), [], []⟩
def D_are_small_are_small : He.DefD := ⟨("are_small", none), "are_small", "are_small", defArgs (top 6), defBody (top 6), defScope (top 6), [], []⟩
def D_is_name_is_name : He.DefD := ⟨("is_name", none), "is_name", "is_name", defArgs (top 8), defBody (top 8), defScope (top 8), [], []⟩
def D_Cursor_need_name : He.DefD := ⟨("Cursor", some "need_name"), "need_name", "Cursor.need_name", defArgs (sub (top 145) 4), defBody (sub (top 145) 4), defScope (sub (top 145) 4), [], []⟩
def D_told_place_told_place : He.DefD := ⟨("told_place", none), "told_place", "told_place", defArgs (top 149), defBody (top 149), defScope (top 149), [], []⟩
def D_Cursor_maybe : He.DefD := ⟨("Cursor", some "maybe"), "maybe", "Cursor.maybe", defArgs (sub (top 145) 2), defBody (sub (top 145) 2), defScope (sub (top 145) 2), [], []⟩
def D_Cursor_need : He.DefD := ⟨("Cursor", some "need"), "need", "Cursor.need", defArgs (sub (top 145) 3), defBody (sub (top 145) 3), defScope (sub (top 145) 3), [], []⟩
def D_common_divisor_common_divisor : He.DefD := ⟨("common_divisor", none), "common_divisor", "common_divisor", defArgs (top 16), defBody (top 16), defScope (top 16), [], []⟩
def D_told_fraction_told_fraction : He.DefD := ⟨("told_fraction", none), "told_fraction", "told_fraction", defArgs (top 135), defBody (top 135), defScope (top 135), [], []⟩
def D_told_number_told_number : He.DefD := ⟨("told_number", none), "told_number", "told_number", defArgs (top 136), defBody (top 136), defScope (top 136), [], []⟩
def D_told_row_told_row : He.DefD := ⟨("told_row", none), "told_row", "told_row", defArgs (top 137), defBody (top 137), defScope (top 137), [], []⟩
def D_told_row_told_row_rowtext : He.DefD := ⟨("told_row_rowtext", none), "told_row", "told_row", defArgs (top 137), defBody (top 137), defScope (top 137), [], []⟩
def D_told_table_told_table : He.DefD := ⟨("told_table", none), "told_table", "told_table", defArgs (top 139), defBody (top 139), defScope (top 139), [], []⟩
def D_told_arrow_told_arrow : He.DefD := ⟨("told_arrow", none), "told_arrow", "told_arrow", defArgs (top 150), defBody (top 150), defScope (top 150), [], []⟩
def D_told_things_told_things : He.DefD := ⟨("told_things", none), "told_things", "told_things", defArgs (top 152), defBody (top 152), defScope (top 152), [], []⟩
def D_Machine_init : He.DefD := ⟨("Machine", some "__init__"), "__init__", "Machine.__init__", defArgs (sub (top 76) 0), defBody (sub (top 76) 0), defScope (sub (top 76) 0), [], []⟩
def D_is_integer_is_integer : He.DefD := ⟨("is_integer", none), "is_integer", "is_integer", defArgs (top 4), defBody (top 4), defScope (top 4), [], []⟩
def D_is_prime_is_prime : He.DefD := ⟨("is_prime", none), "is_prime", "is_prime", defArgs (top 14), defBody (top 14), defScope (top 14), [], []⟩
def D_is_field_is_field : He.DefD := ⟨("is_field", none), "is_field", "is_field", defArgs (top 15), defBody (top 15), defScope (top 15), [], []⟩
def D_is_number_is_number : He.DefD := ⟨("is_number", none), "is_number", "is_number", defArgs (top 5), defBody (top 5), defScope (top 5), [], []⟩
def D_is_tuple_is_tuple : He.DefD := ⟨("is_tuple", none), "is_tuple", "is_tuple", defArgs (top 10), defBody (top 10), defScope (top 10), [], []⟩
def D_is_place_is_place : He.DefD := ⟨("is_place", none), "is_place", "is_place", defArgs (top 70), defBody (top 70), defScope (top 70), [], []⟩
def D_is_ascending_is_ascending : He.DefD := ⟨("is_ascending", none), "is_ascending", "is_ascending", defArgs (top 11), defBody (top 11), defScope (top 11), [], []⟩
def D_are_places_are_places : He.DefD := ⟨("are_places", none), "are_places", "are_places", defArgs (top 71), defBody (top 71), defScope (top 71), [], []⟩
def D_are_arrows_are_arrows : He.DefD := ⟨("are_arrows", none), "are_arrows", "are_arrows", defArgs (top 72), defBody (top 72), defScope (top 72), [], []⟩
def D_is_fraction_is_fraction : He.DefD := ⟨("is_fraction", none), "is_fraction", "is_fraction", defArgs (top 18), defBody (top 18), defScope (top 18), [], []⟩
def D_is_number_of_is_number_of : He.DefD := ⟨("is_number_of", none), "is_number_of", "is_number_of", defArgs (top 19), defBody (top 19), defScope (top 19), [], []⟩
def D_is_number_row_of_is_number_row_of : He.DefD := ⟨("is_number_row_of", none), "is_number_row_of", "is_number_row_of", defArgs (top 68), defBody (top 68), defScope (top 68), [], []⟩
def D_is_table_of_is_table_of : He.DefD := ⟨("is_table_of", none), "is_table_of", "is_table_of", defArgs (top 69), defBody (top 69), defScope (top 69), [], []⟩
def D_is_arrow_is_arrow : He.DefD := ⟨("is_arrow", none), "is_arrow", "is_arrow", defArgs (top 73), defBody (top 73), defScope (top 73), [], []⟩
def D_machine_fault_machine_fault : He.DefD := ⟨("machine_fault", none), "machine_fault", "machine_fault", defArgs (top 74), defBody (top 74), defScope (top 74), [], []⟩
def D_need_machine_need_machine : He.DefD := ⟨("need_machine", none), "need_machine", "need_machine", defArgs (top 77), defBody (top 77), defScope (top 77), [], []⟩
def D_read_machine_read_machine : He.DefD := ⟨("read_machine", none), "read_machine", "read_machine", defArgs (top 153), defBody (top 153), defScope (top 153), [], []⟩
def D__law_any__law_any : He.DefD := ⟨("_law_any", none), "_law_any", "_law_any", defArgs (top 176), defBody (top 176), defScope (top 176), [], []⟩
def D_Start_init : He.DefD := ⟨("Start", some "__init__"), "__init__", "Start.__init__", defArgs (sub (top 123) 0), defBody (sub (top 123) 0), defScope (sub (top 123) 0), [], []⟩
def D_Answer_init : He.DefD := ⟨("Answer", some "__init__"), "__init__", "Answer.__init__", defArgs (sub (top 99) 0), defBody (sub (top 99) 0), defScope (sub (top 99) 0), [], []⟩
def D__law_strange__law_strange : He.DefD := ⟨("_law_strange", none), "_law_strange", "_law_strange", defArgs (top 181), defBody (top 181), defScope (top 181), [], []⟩
def D_is_row_of_is_row_of : He.DefD := ⟨("is_row_of", none), "is_row_of", "is_row_of", defArgs (top 53), defBody (top 53), defScope (top 53), [], []⟩
def D_is_zero_is_zero : He.DefD := ⟨("is_zero", none), "is_zero", "is_zero", defArgs (top 22), defBody (top 22), defScope (top 22), [], []⟩
def D_head_of_head_of : He.DefD := ⟨("head_of", none), "head_of", "head_of", defArgs (top 30), defBody (top 30), defScope (top 30), [], []⟩
def D_one_of_one_of : He.DefD := ⟨("one_of", none), "one_of", "one_of", defArgs (top 21), defBody (top 21), defScope (top 21), [], []⟩
def D_are_heads_right_are_heads_right : He.DefD := ⟨("are_heads_right", none), "are_heads_right", "are_heads_right", defArgs (top 54), defBody (top 54), defScope (top 54), [], []⟩
def D_is_room_is_room : He.DefD := ⟨("is_room", none), "is_room", "is_room", defArgs (top 55), defBody (top 55), defScope (top 55), [], []⟩
def D_arrows_by_name_arrows_by_name : He.DefD := ⟨("arrows_by_name", none), "arrows_by_name", "arrows_by_name", defArgs (top 78), defBody (top 78), defScope (top 78), [], []⟩
def D_is_way_is_way : He.DefD := ⟨("is_way", none), "is_way", "is_way", defArgs (top 80), defBody (top 80), defScope (top 80), [], []⟩
def D_is_tuple_of_is_tuple_of : He.DefD := ⟨("is_tuple_of", none), "is_tuple_of", "is_tuple_of", defArgs (top 101), defBody (top 101), defScope (top 101), [], []⟩
def D_is_level_is_level : He.DefD := ⟨("is_level", none), "is_level", "is_level", defArgs (top 105), defBody (top 105), defScope (top 105), [], []⟩
def D_zero_of_zero_of : He.DefD := ⟨("zero_of", none), "zero_of", "zero_of", defArgs (top 20), defBody (top 20), defScope (top 20), [], []⟩
def D_no_row_no_row : He.DefD := ⟨("no_row", none), "no_row", "no_row", defArgs (top 45), defBody (top 45), defScope (top 45), [], []⟩
def D_unit_row_unit_row : He.DefD := ⟨("unit_row", none), "unit_row", "unit_row", defArgs (top 46), defBody (top 46), defScope (top 46), [], []⟩
def D_whole_room_whole_room : He.DefD := ⟨("whole_room", none), "whole_room", "whole_room", defArgs (top 52), defBody (top 52), defScope (top 52), [], []⟩
def D_whole_rooms_whole_rooms : He.DefD := ⟨("whole_rooms", none), "whole_rooms", "whole_rooms", defArgs (top 89), defBody (top 89), defScope (top 89), [], []⟩
def D_columns_of_columns_of : He.DefD := ⟨("columns_of", none), "columns_of", "columns_of", defArgs (top 47), defBody (top 47), defScope (top 47), [], []⟩
def D_fraction_fraction : He.DefD := ⟨("fraction", none), "fraction", "fraction", defArgs (top 17), defBody (top 17), defScope (top 17), [], []⟩
def D_times_times : He.DefD := ⟨("times", none), "times", "times", defArgs (top 25), defBody (top 25), defScope (top 25), [], []⟩
def D_without_divisor_without_divisor : He.DefD := ⟨("without_divisor", none), "without_divisor", "without_divisor", defArgs (top 32), defBody (top 32), defScope (top 32), [], []⟩
def D_cleared_cleared : He.DefD := ⟨("cleared", none), "cleared", "cleared", defArgs (top 35), defBody (top 35), defScope (top 35), [], []⟩
def D_first_place_first_place : He.DefD := ⟨("first_place", none), "first_place", "first_place", defArgs (top 31), defBody (top 31), defScope (top 31), [], []⟩
def D_power_of_power_of : He.DefD := ⟨("power_of", none), "power_of", "power_of", defArgs (top 26), defBody (top 26), defScope (top 26), [], []⟩
def D_inverse_inverse : He.DefD := ⟨("inverse", none), "inverse", "inverse", defArgs (top 27), defBody (top 27), defScope (top 27), [], []⟩
def D_with_head_with_head : He.DefD := ⟨("with_head", none), "with_head", "with_head", defArgs (top 36), defBody (top 36), defScope (top 36), [], []⟩
def D_with_more_with_more : He.DefD := ⟨("with_more", none), "with_more", "with_more", defArgs (top 37), defBody (top 37), defScope (top 37), [], []⟩
def D_whole_numbers_whole_numbers : He.DefD := ⟨("whole_numbers", none), "whole_numbers", "whole_numbers", defArgs (top 33), defBody (top 33), defScope (top 33), [], []⟩
def D_begun_begun : He.DefD := ⟨("begun", none), "begun", "begun", defArgs (top 34), defBody (top 34), defScope (top 34), [], []⟩
def D_cleared_above_cleared_above : He.DefD := ⟨("cleared_above", none), "cleared_above", "cleared_above", defArgs (top 38), defBody (top 38), defScope (top 38), [], []⟩
def D_told_row_echelon_told_row_echelon : He.DefD := ⟨("told_row_echelon", none), "told_row", "told_row", defArgs (top 39), defBody (top 39), defScope (top 39), [], []⟩
def D_echelon_echelon : He.DefD := ⟨("echelon", none), "echelon", "echelon", defArgs (top 41), defBody (top 41), defScope (top 41), [], []⟩
def D_room_of_room_of : He.DefD := ⟨("room_of", none), "room_of", "room_of", defArgs (top 51), defBody (top 51), defScope (top 51), [], []⟩
def D_sum_of_products_sum_of_products : He.DefD := ⟨("sum_of_products", none), "sum_of_products", "sum_of_products", defArgs (top 28), defBody (top 28), defScope (top 28), [], []⟩
def D_led_by_led_by : He.DefD := ⟨("led_by", none), "led_by", "led_by", defArgs (top 48), defBody (top 48), defScope (top 48), [], []⟩
def D_led_room_led_room : He.DefD := ⟨("led_room", none), "led_room", "led_room", defArgs (top 60), defBody (top 60), defScope (top 60), [], []⟩
def D_is_blind_is_blind : He.DefD := ⟨("is_blind", none), "is_blind", "is_blind", defArgs (top 107), defBody (top 107), defScope (top 107), [], []⟩
def D_is_no_row_is_no_row : He.DefD := ⟨("is_no_row", none), "is_no_row", "is_no_row", defArgs (top 57), defBody (top 57), defScope (top 57), [], []⟩
def D_opposite_opposite : He.DefD := ⟨("opposite", none), "opposite", "opposite", defArgs (top 24), defBody (top 24), defScope (top 24), [], []⟩
def D_rest_of_rest_of : He.DefD := ⟨("rest_of", none), "rest_of", "rest_of", defArgs (top 56), defBody (top 56), defScope (top 56), [], []⟩
def D_stands_in_stands_in : He.DefD := ⟨("stands_in", none), "stands_in", "stands_in", defArgs (top 58), defBody (top 58), defScope (top 58), [], []⟩
def D_room_within_room_within : He.DefD := ⟨("room_within", none), "room_within", "room_within", defArgs (top 59), defBody (top 59), defScope (top 59), [], []⟩
def D_leads_on_leads_on : He.DefD := ⟨("leads_on", none), "leads_on", "leads_on", defArgs (top 106), defBody (top 106), defScope (top 106), [], []⟩
def D_are_levels_are_levels : He.DefD := ⟨("are_levels", none), "are_levels", "are_levels", defArgs (top 108), defBody (top 108), defScope (top 108), [], []⟩
def D_size_at_size_at : He.DefD := ⟨("size_at", none), "size_at", "size_at", defArgs (top 102), defBody (top 102), defScope (top 102), [], []⟩
def D_is_row_at_is_row_at : He.DefD := ⟨("is_row_at", none), "is_row_at", "is_row_at", defArgs (top 103), defBody (top 103), defScope (top 103), [], []⟩
def D_is_nought_is_nought : He.DefD := ⟨("is_nought", none), "is_nought", "is_nought", defArgs (top 90), defBody (top 90), defScope (top 90), [], []⟩
def D_led_led : He.DefD := ⟨("led", none), "led", "led", defArgs (top 49), defBody (top 49), defScope (top 49), [], []⟩
def D_arrow_of_arrow_of : He.DefD := ⟨("arrow_of", none), "arrow_of", "arrow_of", defArgs (top 79), defBody (top 79), defScope (top 79), [], []⟩
def D_led_along_led_along : He.DefD := ⟨("led_along", none), "led_along", "led_along", defArgs (top 94), defBody (top 94), defScope (top 94), [], []⟩
def D_last_look_last_look : He.DefD := ⟨("last_look", none), "last_look", "last_look", defArgs (top 95), defBody (top 95), defScope (top 95), [], []⟩
def D_is_seen_is_seen : He.DefD := ⟨("is_seen", none), "is_seen", "is_seen", defArgs (top 104), defBody (top 104), defScope (top 104), [], []⟩
def D_is_late_is_late : He.DefD := ⟨("is_late", none), "is_late", "is_late", defArgs (top 109), defBody (top 109), defScope (top 109), [], []⟩
def D_reads_forgets_reads_forgets : He.DefD := ⟨("reads_forgets", none), "reads_forgets", "reads_forgets", defArgs (top 110), defBody (top 110), defScope (top 110), [], []⟩
def D_end_of_end_of : He.DefD := ⟨("end_of", none), "end_of", "end_of", defArgs (top 81), defBody (top 81), defScope (top 81), [], []⟩
def D_led_by_way_led_by_way : He.DefD := ⟨("led_by_way", none), "led_by_way", "led_by_way", defArgs (top 92), defBody (top 92), defScope (top 92), [], []⟩
def D_comes_round_comes_round : He.DefD := ⟨("comes_round", none), "comes_round", "comes_round", defArgs (top 111), defBody (top 111), defScope (top 111), [], []⟩
def D_is_sight_is_sight : He.DefD := ⟨("is_sight", none), "is_sight", "is_sight", defArgs (top 112), defBody (top 112), defScope (top 112), [], []⟩
def D_reads_never_reads_never : He.DefD := ⟨("reads_never", none), "reads_never", "reads_never", defArgs (top 113), defBody (top 113), defScope (top 113), [], []⟩
def D_read_answer_read_answer : He.DefD := ⟨("read_answer", none), "read_answer", "read_answer", defArgs (top 114), defBody (top 114), defScope (top 114), [], []⟩
def D_wide_row_wide_row : He.DefD := ⟨("wide_row", none), "wide_row", "wide_row", defArgs (top 124), defBody (top 124), defScope (top 124), [], []⟩
def D_are_kept_rooms_are_kept_rooms : He.DefD := ⟨("are_kept_rooms", none), "are_kept_rooms", "are_kept_rooms", defArgs (top 116), defBody (top 116), defScope (top 116), [], []⟩
def D_wide_table_wide_table : He.DefD := ⟨("wide_table", none), "wide_table", "wide_table", defArgs (top 125), defBody (top 125), defScope (top 125), [], []⟩
def D_wide_arrow_wide_arrow : He.DefD := ⟨("wide_arrow", none), "wide_arrow", "wide_arrow", defArgs (top 126), defBody (top 126), defScope (top 126), [], []⟩
def D_wide_wide : He.DefD := ⟨("wide", none), "wide", "wide", defArgs (top 127), defBody (top 127), defScope (top 127), [], []⟩
def D_worth_worth : He.DefD := ⟨("worth", none), "worth", "worth", defArgs (top 119), defBody (top 119), defScope (top 119), [], []⟩
def D_gives_nought_gives_nought : He.DefD := ⟨("gives_nought", none), "gives_nought", "gives_nought", defArgs (top 120), defBody (top 120), defScope (top 120), [], []⟩
def D_gives_nought_of_all_gives_nought_of_all : He.DefD := ⟨("gives_nought_of_all", none), "gives_nought_of_all", "gives_nought_of_all", defArgs (top 121), defBody (top 121), defScope (top 121), [], []⟩
def D_reads_always_reads_always : He.DefD := ⟨("reads_always", none), "reads_always", "reads_always", defArgs (top 131), defBody (top 131), defScope (top 131), [], []⟩
def D_reads_broken_reads_broken : He.DefD := ⟨("reads_broken", none), "reads_broken", "reads_broken", defArgs (top 132), defBody (top 132), defScope (top 132), [], []⟩
def D_read_relation_read_relation : He.DefD := ⟨("read_relation", none), "read_relation", "read_relation", defArgs (top 133), defBody (top 133), defScope (top 133), [], []⟩
def D_place_names_place_names : He.DefD := ⟨("place_names", none), "place_names", "place_names", defArgs (top 156), defBody (top 156), defScope (top 156), [], []⟩
def D_arrow_heads_arrow_heads : He.DefD := ⟨("arrow_heads", none), "arrow_heads", "arrow_heads", defArgs (top 157), defBody (top 157), defScope (top 157), [], []⟩
def D_is_same_web_is_same_web : He.DefD := ⟨("is_same_web", none), "is_same_web", "is_same_web", defArgs (top 158), defBody (top 158), defScope (top 158), [], []⟩
def D_need_same_web_need_same_web : He.DefD := ⟨("need_same_web", none), "need_same_web", "need_same_web", defArgs (top 159), defBody (top 159), defScope (top 159), [], []⟩
def D_behind_zeros_behind_zeros : He.DefD := ⟨("behind_zeros", none), "behind_zeros", "behind_zeros", defArgs (top 160), defBody (top 160), defScope (top 160), [], []⟩
def D_ahead_of_zeros_ahead_of_zeros : He.DefD := ⟨("ahead_of_zeros", none), "ahead_of_zeros", "ahead_of_zeros", defArgs (top 161), defBody (top 161), defScope (top 161), [], []⟩
def D_blocks_blocks : He.DefD := ⟨("blocks", none), "blocks", "blocks", defArgs (top 162), defBody (top 162), defScope (top 162), [], []⟩
def D_plus_plus : He.DefD := ⟨("plus", none), "plus", "plus", defArgs (top 23), defBody (top 23), defScope (top 23), [], []⟩
def D_row_plus_row_plus : He.DefD := ⟨("row_plus", none), "row_plus", "row_plus", defArgs (top 43), defBody (top 43), defScope (top 43), [], []⟩
def D_scaled_scaled : He.DefD := ⟨("scaled", none), "scaled", "scaled", defArgs (top 44), defBody (top 44), defScope (top 44), [], []⟩
def D_less_row_less_row : He.DefD := ⟨("less_row", none), "less_row", "less_row", defArgs (top 164), defBody (top 164), defScope (top 164), [], []⟩
def D_difference_arrow_difference_arrow : He.DefD := ⟨("difference_arrow", none), "difference_arrow", "difference_arrow", defArgs (top 165), defBody (top 165), defScope (top 165), [], []⟩
def D_difference_difference : He.DefD := ⟨("difference", none), "difference", "difference", defArgs (top 166), defBody (top 166), defScope (top 166), [], []⟩
def D_both_rows_both_rows : He.DefD := ⟨("both_rows", none), "both_rows", "both_rows", defArgs (top 170), defBody (top 170), defScope (top 170), [], []⟩
def D_are_blind_rooms_are_blind_rooms : He.DefD := ⟨("are_blind_rooms", none), "are_blind_rooms", "are_blind_rooms", defArgs (top 117), defBody (top 117), defScope (top 117), [], []⟩
def D_reads_alike_reads_alike : He.DefD := ⟨("reads_alike", none), "reads_alike", "reads_alike", defArgs (top 171), defBody (top 171), defScope (top 171), [], []⟩
def D_reads_parted_reads_parted : He.DefD := ⟨("reads_parted", none), "reads_parted", "reads_parted", defArgs (top 172), defBody (top 172), defScope (top 172), [], []⟩
def D_read_alike_from_read_alike_from : He.DefD := ⟨("read_alike_from", none), "read_alike_from", "read_alike_from", defArgs (top 173), defBody (top 173), defScope (top 173), [], []⟩
def D__law_room_values__law_room_values : He.DefD := ⟨("_law_room_values", none), "_law_room_values", "_law_room_values", defArgs (top 182), defBody (top 182), defScope (top 182), [], []⟩
def D__law_plain__law_plain : He.DefD := ⟨("_law_plain", none), "_law_plain", "_law_plain", defArgs (top 180), defBody (top 180), defScope (top 180), [], []⟩
def D__law_is_kind__law_is_kind : He.DefD := ⟨("_law_is_kind", none), "_law_is_kind", "_law_is_kind", defArgs (top 177), defBody (top 177), defScope (top 177), [], []⟩
def D__law_same__law_same : He.DefD := ⟨("_law_same", none), "_law_same", "_law_same", defArgs (top 178), defBody (top 178), defScope (top 178), [], []⟩
def D__law_all__law_all : He.DefD := ⟨("_law_all", none), "_law_all", "_law_all", defArgs (top 179), defBody (top 179), defScope (top 179), [], []⟩
def D_law_law : He.DefD := ⟨("law", none), "law", "law", defArgs (top 183), defBody (top 183), defScope (top 183), [], []⟩
def FN : List He.DefD := [D__law_deal__law_deal, D_run_end_run_end, D_sign_end_sign_end, D_signs_of_signs_of, D_is_due_is_due, D_Cursor_init, D_Cursor_sign_ahead, D_Cursor_need_end, D_told_end_told_end, D_are_figures_are_figures, D_is_number_text_is_number_text, D_Cursor_need_number, D_are_small_are_small, D_is_name_is_name, D_Cursor_need_name, D_told_place_told_place, D_Cursor_maybe, D_Cursor_need, D_common_divisor_common_divisor, D_told_fraction_told_fraction, D_told_number_told_number, D_told_row_told_row, D_told_row_told_row_rowtext, D_told_table_told_table, D_told_arrow_told_arrow, D_told_things_told_things, D_Machine_init, D_is_integer_is_integer, D_is_prime_is_prime, D_is_field_is_field, D_is_number_is_number, D_is_tuple_is_tuple, D_is_place_is_place, D_is_ascending_is_ascending, D_are_places_are_places, D_are_arrows_are_arrows, D_is_fraction_is_fraction, D_is_number_of_is_number_of, D_is_number_row_of_is_number_row_of, D_is_table_of_is_table_of, D_is_arrow_is_arrow, D_machine_fault_machine_fault, D_need_machine_need_machine, D_read_machine_read_machine, D__law_any__law_any, D_Start_init, D_Answer_init, D__law_strange__law_strange, D_is_row_of_is_row_of, D_is_zero_is_zero, D_head_of_head_of, D_one_of_one_of, D_are_heads_right_are_heads_right, D_is_room_is_room, D_arrows_by_name_arrows_by_name, D_is_way_is_way, D_is_tuple_of_is_tuple_of, D_is_level_is_level, D_zero_of_zero_of, D_no_row_no_row, D_unit_row_unit_row, D_whole_room_whole_room, D_whole_rooms_whole_rooms, D_columns_of_columns_of, D_fraction_fraction, D_times_times, D_without_divisor_without_divisor, D_cleared_cleared, D_first_place_first_place, D_power_of_power_of, D_inverse_inverse, D_with_head_with_head, D_with_more_with_more, D_whole_numbers_whole_numbers, D_begun_begun, D_cleared_above_cleared_above, D_told_row_echelon_told_row_echelon, D_echelon_echelon, D_room_of_room_of, D_sum_of_products_sum_of_products, D_led_by_led_by, D_led_room_led_room, D_is_blind_is_blind, D_is_no_row_is_no_row, D_opposite_opposite, D_rest_of_rest_of, D_stands_in_stands_in, D_room_within_room_within, D_leads_on_leads_on, D_are_levels_are_levels, D_size_at_size_at, D_is_row_at_is_row_at, D_is_nought_is_nought, D_led_led, D_arrow_of_arrow_of, D_led_along_led_along, D_last_look_last_look, D_is_seen_is_seen, D_is_late_is_late, D_reads_forgets_reads_forgets, D_end_of_end_of, D_led_by_way_led_by_way, D_comes_round_comes_round, D_is_sight_is_sight, D_reads_never_reads_never, D_read_answer_read_answer, D_wide_row_wide_row, D_are_kept_rooms_are_kept_rooms, D_wide_table_wide_table, D_wide_arrow_wide_arrow, D_wide_wide, D_worth_worth, D_gives_nought_gives_nought, D_gives_nought_of_all_gives_nought_of_all, D_reads_always_reads_always, D_reads_broken_reads_broken, D_read_relation_read_relation, D_place_names_place_names, D_arrow_heads_arrow_heads, D_is_same_web_is_same_web, D_need_same_web_need_same_web, D_behind_zeros_behind_zeros, D_ahead_of_zeros_ahead_of_zeros, D_blocks_blocks, D_plus_plus, D_row_plus_row_plus, D_scaled_scaled, D_less_row_less_row, D_difference_arrow_difference_arrow, D_difference_difference, D_both_rows_both_rows, D_are_blind_rooms_are_blind_rooms, D_reads_alike_reads_alike, D_reads_parted_reads_parted, D_read_alike_from_read_alike_from, D__law_room_values__law_room_values, D__law_plain__law_plain, D__law_is_kind__law_is_kind, D__law_same__law_same, D__law_all__law_all, D_law_law]
def FA : List He.Fa := [.glo "_law_deal", .glo "run_end", .glo "sign_end", .glo "signs_of", .glo "is_due", .mkr "Cursor", .glo "Cursor", .meth "Cursor" "sign_ahead", .cls "Cursor", .meth "Cursor" "need_end", .glo "told_end", .glo "are_figures", .glo "is_number_text", .meth "Cursor" "need_number", .glo "are_small", .glo "is_name", .meth "Cursor" "need_name", .glo "told_place", .meth "Cursor" "maybe", .meth "Cursor" "need", .glo "common_divisor", .glo "told_fraction", .glo "told_number", .glo "told_row", .glo "told_row_rowtext", .glo "told_table", .glo "told_arrow", .glo "told_things", .mkr "Machine", .glo "Machine", .glo "is_integer", .glo "is_prime", .glo "is_field", .glo "is_number", .glo "is_tuple", .glo "is_place", .glo "is_ascending", .glo "are_places", .glo "are_arrows", .glo "is_fraction", .glo "is_number_of", .glo "is_number_row_of", .glo "is_table_of", .glo "is_arrow", .glo "machine_fault", .glo "need_machine", .glo "read_machine", .glo "_law_any", .mkr "Start", .glo "Start", .mkr "Answer", .glo "Answer", .glo "_law_strange", .glo "is_row_of", .glo "is_zero", .glo "head_of", .glo "one_of", .glo "are_heads_right", .glo "is_room", .glo "arrows_by_name", .glo "is_way", .glo "is_tuple_of", .glo "is_level", .glo "zero_of", .glo "no_row", .glo "unit_row", .glo "whole_room", .glo "whole_rooms", .glo "columns_of", .glo "fraction", .glo "times", .glo "without_divisor", .glo "cleared", .glo "first_place", .glo "power_of", .glo "inverse", .glo "with_head", .glo "with_more", .glo "whole_numbers", .glo "begun", .glo "cleared_above", .glo "told_row_echelon", .glo "echelon", .glo "room_of", .glo "sum_of_products", .glo "led_by", .glo "led_room", .glo "is_blind", .glo "is_no_row", .glo "opposite", .glo "rest_of", .glo "stands_in", .glo "room_within", .glo "leads_on", .glo "are_levels", .glo "size_at", .glo "is_row_at", .glo "is_nought", .glo "led", .glo "arrow_of", .glo "led_along", .glo "last_look", .glo "is_seen", .glo "is_late", .glo "reads_forgets", .glo "end_of", .glo "led_by_way", .glo "comes_round", .glo "is_sight", .glo "reads_never", .glo "read_answer", .glo "wide_row", .glo "are_kept_rooms", .glo "wide_table", .glo "wide_arrow", .glo "wide", .glo "worth", .glo "gives_nought", .glo "gives_nought_of_all", .glo "reads_always", .glo "reads_broken", .glo "read_relation", .glo "place_names", .glo "arrow_heads", .glo "is_same_web", .glo "need_same_web", .glo "behind_zeros", .glo "ahead_of_zeros", .glo "blocks", .glo "plus", .glo "row_plus", .glo "scaled", .glo "less_row", .glo "difference_arrow", .glo "difference", .glo "both_rows", .glo "are_blind_rooms", .glo "reads_alike", .glo "reads_parted", .glo "read_alike_from", .glo "_law_room_values", .glo "_law_plain", .glo "_law_is_kind", .glo "_law_same", .glo "_law_all", .glo "law"]
def ASK : Ask := ⟨FN, FA, BTS, GLS, CLS, FL, KDS⟩
end J

set_option Elab.async false
set_option linter.all false
set_option maxRecDepth 100000
set_option maxHeartbeats 0
namespace TH
open PySem PySem.Spec PyProof.Rows HandSHeadRun PySem.Calls PySem.W
abbrev R : PySem.W.OpenRow := PySem.W.OpenLaw.row PySem.Challenge.rw_firstways_k98_whole_values_of_all_sorts
def loose : List PySem.Str := ([PySem.Str.ofString "SMALL", PySem.Str.ofString "FIGURES", PySem.Str.ofString "MOST_SIGNS", PySem.Str.ofString "is_integer", PySem.Str.ofString "is_number", PySem.Str.ofString "are_small", PySem.Str.ofString "are_figures", PySem.Str.ofString "is_name", PySem.Str.ofString "is_number_text", PySem.Str.ofString "is_tuple", PySem.Str.ofString "is_ascending", PySem.Str.ofString "MOST_PRIME", PySem.Str.ofString "is_prime", PySem.Str.ofString "is_field", PySem.Str.ofString "common_divisor", PySem.Str.ofString "fraction", PySem.Str.ofString "is_fraction", PySem.Str.ofString "is_number_of", PySem.Str.ofString "zero_of", PySem.Str.ofString "one_of"] : List PySem.Str) ++ ([PySem.Str.ofString "is_zero", PySem.Str.ofString "plus", PySem.Str.ofString "opposite", PySem.Str.ofString "times", PySem.Str.ofString "power_of", PySem.Str.ofString "inverse", PySem.Str.ofString "sum_of_products", PySem.Str.ofString "head_of", PySem.Str.ofString "first_place", PySem.Str.ofString "without_divisor", PySem.Str.ofString "whole_numbers", PySem.Str.ofString "begun", PySem.Str.ofString "cleared", PySem.Str.ofString "with_head", PySem.Str.ofString "with_more", PySem.Str.ofString "cleared_above", PySem.Str.ofString "told_row", PySem.Str.ofString "told_row_echelon", PySem.Str.ofString "echelon", PySem.Str.ofString "row_plus"] : List PySem.Str) ++ ([PySem.Str.ofString "scaled", PySem.Str.ofString "no_row", PySem.Str.ofString "unit_row", PySem.Str.ofString "columns_of", PySem.Str.ofString "led_by", PySem.Str.ofString "led", PySem.Str.ofString "room_of", PySem.Str.ofString "whole_room", PySem.Str.ofString "is_row_of", PySem.Str.ofString "are_heads_right", PySem.Str.ofString "is_room", PySem.Str.ofString "rest_of", PySem.Str.ofString "is_no_row", PySem.Str.ofString "stands_in", PySem.Str.ofString "room_within", PySem.Str.ofString "led_room", PySem.Str.ofString "FormError", PySem.Str.ofString "InvalidMachine", PySem.Str.ofString "InvalidText", PySem.Str.ofString "Refused"] : List PySem.Str) ++ ([PySem.Str.ofString "PARTS", PySem.Str.ofString "is_number_row_of", PySem.Str.ofString "is_table_of", PySem.Str.ofString "is_place", PySem.Str.ofString "are_places", PySem.Str.ofString "are_arrows", PySem.Str.ofString "is_arrow", PySem.Str.ofString "machine_fault", PySem.Str.ofString "Machine", PySem.Str.ofString "need_machine", PySem.Str.ofString "arrows_by_name", PySem.Str.ofString "arrow_of", PySem.Str.ofString "is_way", PySem.Str.ofString "end_of", PySem.Str.ofString "FROM", PySem.Str.ofString "TO", PySem.Str.ofString "TABLE", PySem.Str.ofString "SHIFT", PySem.Str.ofString "LOOK", PySem.Str.ofString "TOLD"] : List PySem.Str) ++ ([PySem.Str.ofString "whole_rooms", PySem.Str.ofString "is_nought", PySem.Str.ofString "led_by_way", PySem.Str.ofString "led_along", PySem.Str.ofString "last_look", PySem.Str.ofString "FORGETS", PySem.Str.ofString "NEVER", PySem.Str.ofString "Answer", PySem.Str.ofString "is_tuple_of", PySem.Str.ofString "size_at", PySem.Str.ofString "is_row_at", PySem.Str.ofString "is_seen", PySem.Str.ofString "is_level", PySem.Str.ofString "leads_on", PySem.Str.ofString "is_blind", PySem.Str.ofString "are_levels", PySem.Str.ofString "is_late", PySem.Str.ofString "reads_forgets", PySem.Str.ofString "comes_round", PySem.Str.ofString "is_sight"] : List PySem.Str) ++ ([PySem.Str.ofString "reads_never", PySem.Str.ofString "read_answer", PySem.Str.ofString "are_kept_rooms", PySem.Str.ofString "are_blind_rooms", PySem.Str.ofString "worth", PySem.Str.ofString "gives_nought", PySem.Str.ofString "gives_nought_of_all", PySem.Str.ofString "Start", PySem.Str.ofString "wide_row", PySem.Str.ofString "wide_table", PySem.Str.ofString "wide_arrow", PySem.Str.ofString "wide", PySem.Str.ofString "ALWAYS", PySem.Str.ofString "BROKEN", PySem.Str.ofString "reads_always", PySem.Str.ofString "reads_broken", PySem.Str.ofString "read_relation", PySem.Str.ofString "told_fraction", PySem.Str.ofString "told_number", PySem.Str.ofString "told_row_rowtext"] : List PySem.Str) ++ ([PySem.Str.ofString "told_table", PySem.Str.ofString "BLANK", PySem.Str.ofString "run_end", PySem.Str.ofString "sign_end", PySem.Str.ofString "signs_of", PySem.Str.ofString "Cursor", PySem.Str.ofString "RANKS", PySem.Str.ofString "told_end", PySem.Str.ofString "told_place", PySem.Str.ofString "told_arrow", PySem.Str.ofString "is_due", PySem.Str.ofString "told_things", PySem.Str.ofString "read_machine", PySem.Str.ofString "WEB", PySem.Str.ofString "place_names", PySem.Str.ofString "arrow_heads", PySem.Str.ofString "is_same_web", PySem.Str.ofString "need_same_web", PySem.Str.ofString "behind_zeros", PySem.Str.ofString "ahead_of_zeros"] : List PySem.Str) ++ ([PySem.Str.ofString "blocks", PySem.Str.ofString "less_row", PySem.Str.ofString "difference_arrow", PySem.Str.ofString "difference", PySem.Str.ofString "ALIKE", PySem.Str.ofString "PARTED", PySem.Str.ofString "both_rows", PySem.Str.ofString "reads_alike", PySem.Str.ofString "reads_parted", PySem.Str.ofString "read_alike_from", PySem.Str.ofString "_law_deal", PySem.Str.ofString "_law_any", PySem.Str.ofString "_law_is_kind", PySem.Str.ofString "_law_same", PySem.Str.ofString "_law_all", PySem.Str.ofString "_law_plain", PySem.Str.ofString "_law_strange", PySem.Str.ofString "_law_room_values"] : List PySem.Str)
abbrev q := PySem.W.view R.prog [183]
abbrev wf (w : World) (b : Bool) : World := w.withFollow "special-get-raises" b
noncomputable abbrev ends (w : World) (os : OsState) : Option PySem.W.SharedT := endF (stepQ (denQ tabQ) R.prog w) 20000 R.prog w os
theorem join3 {σ α β γ : Type} {o : Option σ} {f : σ → α} {g : σ → β} {h : σ → γ} {a : α} {b : β} {c : γ} (h1 : o.map f = some a) (h2 : o.map g = some b) (h3 : o.map h = some c) : o.map (fun s => (f s, g s, h s)) = some (a, b, c) := by
  cases o with
  | none => cases h1
  | some s => cases h1; cases h2; cases h3; rfl
theorem da_f (w : World) (os : OsState) : (ends (wf w false) os).map (fun s => looksF R.prog (boot_heap (wf w false).params) s.abs) = some true := by kernel_rfl
theorem db_f (w : World) (os : OsState) : (ends (wf w false) os).map (fun s => seenQ q loose (importedModules R.prog.main.body) (fun s => xlAt q [] s && recOk R.toRowW.records s) s.abs) = some (openGood q loose) := by kernel_rfl
theorem dc_f (w : World) (os : OsState) : (ends (wf w false) os).map (J.obJ J.ASK) = some (J.valJ J.ASK (wf w false)) := by kernel_rfl
theorem da_t (w : World) (os : OsState) : (ends (wf w true) os).map (fun s => looksF R.prog (boot_heap (wf w true).params) s.abs) = some true := by kernel_rfl
theorem db_t (w : World) (os : OsState) : (ends (wf w true) os).map (fun s => seenQ q loose (importedModules R.prog.main.body) (fun s => xlAt q [] s && recOk R.toRowW.records s) s.abs) = some (openGood q loose) := by kernel_rfl
theorem dc_t (w : World) (os : OsState) : (ends (wf w true) os).map (J.obJ J.ASK) = some (J.valJ J.ASK (wf w true)) := by kernel_rfl
theorem run (w : World) : HandSHeadRun.RunEq R q (J.hookJ J.ASK) (J.obJ J.ASK) 20000 loose w :=
  PySem.W.byRow2 "special-get-raises" (P := fun w => HandSHeadRun.RunEq R q (J.hookJ J.ASK) (J.obJ J.ASK) 20000 loose w) (fun w os => join3 (da_f w os) (db_f w os) (dc_f w os)) (fun w os => join3 (da_t w os) (db_t w os) (dc_t w os)) w
end TH

set_option Elab.async false
set_option linter.all false
set_option maxRecDepth 100000
set_option maxHeartbeats 4000000
/-! J1: plain data, a store of mutable cells, and how they stand for the hand layer's values and heap. -/
namespace J
open PySem PySem.Spec PyProof.Rows L2

set_option autoImplicit false
abbrev St := L2.St
/-- a value: plain, a cell of the store, or a tuple that holds such -/
inductive D where
  | p (x : PD) | loc (i : Nat) | mix (xs : List D)
inductive Cell where
  | lst (xs : List D)
  | dic (ks : List Key) (vs : List D)
  | ins (C : Str) (ns : List Str) (vs : List D)
abbrev Store := List Cell
abbrev Env := List (Option D)

/-- a tuple whose object has no dict -/
def NoD (H : Hp) (a : Addr) (vs : List V) : Prop := ∃ o : Obj, H a = some (.frz o (.tup vs)) ∧ o.dict = none
theorem NoD.sqT {K : PySem.W.Frag} {H : Hp} {a : Addr} {vs : List V} (h : NoD H a vs) : SqT K H a vs := let ⟨o, e, _⟩ := h; .inl (.inr ⟨o, e⟩)
/-! ### how plain data lies in the heap; B: addresses that it must not stand at -/
mutual
inductive RepP (K : PySem.W.Frag) (B : Addr → Prop) (H : Hp) : V → PD → Prop
  | non : RepP K B H .non .non
  | bl (b) : RepP K B H (.bl b) (.bl b)
  | int (i) : RepP K B H (.int i) (.int i)
  | str (x) : RepP K B H (.str x) (.str x)
  | ty (n) : RepP K B H (.ty n) (.ty n)
  | glo (x) : RepP K B H (.ref (He.ga K x)) (.glo x)
  | tup {a : Addr} {vs : List V} {xs : List PD} : SqT K H a vs → RepPs K B H vs xs → RepP K B H (.ref a) (.tup xs)
  | tun {a : Addr} {vs : List V} {xs : List PD} : NoD H a vs → RepPs K B H vs xs → RepP K B H (.ref a) (.tun xs)
  | lst {a : Addr} {vs : List V} {xs : List PD} : H a = some (.lst vs) → ¬ B a → RepPs K B H vs xs → RepP K B H (.ref a) (.lst xs)
  | frz {a : Addr} {vs : List V} {xs : List PD} : ((∃ o, H a = some (.frz o (.lst vs))) ∨ ∃ (o : Obj) (its : Array Value) (n : Nat), K.lookup a = some o ∧ o.cls = .type "list" ∧ o.dict = none ∧ o.data = .seq its n ∧ its.size ≤ sizeLine ∧ Vals vs its.toList) → RepPs K B H vs xs → RepP K B H (.ref a) (.frz xs)
  | dic {a : Addr} {kvs : List (Key × V)} {ks : List Key} {xs : List PD} : H a = some (.dK kvs) → ¬ B a → kvs.map (·.1) = ks → RepPs K B H (kvs.map (·.2)) xs → RepP K B H (.ref a) (.dic ks xs)
  | ins {a dx : Addr} {C : Str} {fs : List (Str × V)} {ns : List Str} {xs : List PD} : H a = some (.ins (He.ga K C) dx fs) → ¬ B a → fs.map (·.1) = ns → RepPs K B H (fs.map (·.2)) xs → RepP K B H (.ref a) (.ins C ns xs)
inductive RepPs (K : PySem.W.Frag) (B : Addr → Prop) (H : Hp) : List V → List PD → Prop
  | nil : RepPs K B H [] []
  | cons {v : V} {x : PD} {vs : List V} {xs : List PD} : RepP K B H v x → RepPs K B H vs xs → RepPs K B H (v :: vs) (x :: xs)
end
/-- addresses of the store's cells, or forbidden from without -/
def Bad (F : Addr → Prop) (ads : List Addr) : Addr → Prop := fun a => F a ∨ a ∈ ads
mutual
inductive Rep (K : PySem.W.Frag) (F : Addr → Prop) (ads : List Addr) (H : Hp) : V → D → Prop
  | p {v : V} {x : PD} : RepP K (Bad F ads) H v x → Rep K F ads H v (.p x)
  | loc {a : Addr} {i : Nat} : ads[i]? = some a → Rep K F ads H (.ref a) (.loc i)
  | mix {a : Addr} {vs : List V} {xs : List D} : SqT K H a vs → Reps K F ads H vs xs → Rep K F ads H (.ref a) (.mix xs)
inductive Reps (K : PySem.W.Frag) (F : Addr → Prop) (ads : List Addr) (H : Hp) : List V → List D → Prop
  | nil : Reps K F ads H [] []
  | cons {v : V} {x : D} {vs : List V} {xs : List D} : Rep K F ads H v x → Reps K F ads H vs xs → Reps K F ads H (v :: vs) (x :: xs)
end
def CellOk (K : PySem.W.Frag) (F : Addr → Prop) (ads : List Addr) (H : Hp) (a : Addr) : Cell → Prop
  | .lst xs => ∃ vs, H a = some (.lst vs) ∧ Reps K F ads H vs xs
  | .dic ks xs => ∃ kvs : List (Key × V), H a = some (.dK kvs) ∧ kvs.map (·.1) = ks ∧ Reps K F ads H (kvs.map (·.2)) xs
  | .ins C ns xs => ∃ (dx : Addr) (fs : List (Str × V)), H a = some (.ins (He.ga K C) dx fs) ∧ fs.map (·.1) = ns ∧ Reps K F ads H (fs.map (·.2)) xs
structure Sim (K : PySem.W.Frag) (F : Addr → Prop) (ads : List Addr) (st : Store) (H : Hp) : Prop where
  len : ads.length = st.length
  nd : ads.Nodup
  cell : ∀ (i : Nat) (c : Cell) (a : Addr), st[i]? = some c → ads[i]? = some a → CellOk K F ads H a c
  far : ∀ a, F a → H a ≠ none
  apart : ∀ a ∈ ads, ¬ F a
/-- the heap went on: all but the cells is kept -/
structure Ext (ads new : List Addr) (H H' : Hp) : Prop where
  keep : ∀ a o, H a = some o → a ∉ ads → H' a = some o
  tup : ∀ a xs, H a = some (.tup xs) → H' a = some (.tup xs)
  frz : ∀ a o u, H a = some (.frz o u) → H' a = some (.frz o u)
  there : ∀ a, H a ≠ none → H' a ≠ none
  fresh : ∀ a ∈ new, H a = none
theorem Ext.refl (ads : List Addr) (H : Hp) : Ext ads [] H H := ⟨fun _ _ h _ => h, fun _ _ h => h, fun _ _ _ h => h, fun _ h => h, fun _ h => nomatch h⟩
theorem Ext.trans {ads new new2 : List Addr} {H H1 H2 : Hp} (a : Ext ads new H H1) (b : Ext (ads ++ new) new2 H1 H2) : Ext ads (new ++ new2) H H2 where
  keep := fun x o h hx => b.keep x o (a.keep x o h hx) fun hm => by
    rcases List.mem_append.mp hm with q | q
    · exact hx q
    · have := a.fresh x q
      rw [h] at this; cases this
  tup := fun x xs h => b.tup x xs (a.tup x xs h)
  frz := fun x o u h => b.frz x o u (a.frz x o u h)
  there := fun x h => b.there x (a.there x h)
  fresh := fun x hx => by
    rcases List.mem_append.mp hx with q | q
    · exact a.fresh x q
    · cases e : H x with
      | none => rfl
      | some o => exact absurd (b.fresh x q) (a.there x (by rw [e]; exact fun z => nomatch z))
theorem Ext.sqT {K : PySem.W.Frag} {ads new : List Addr} {H H' : Hp} (e : Ext ads new H H') {a : Addr} {vs : List V} (h : SqT K H a vs) : SqT K H' a vs := by
  rcases h with (h | ⟨o, h⟩) | h
  · exact .inl (.inl (e.tup _ _ h))
  · exact .inl (.inr ⟨o, e.frz _ _ _ h⟩)
  · exact .inr h
mutual
theorem RepP.mono {K : PySem.W.Frag} {F : Addr → Prop} {ads new : List Addr} {H H' : Hp} (e : Ext ads new H H') : ∀ {v : V} {x : PD}, RepP K (Bad F ads) H v x → RepP K (Bad F (ads ++ new)) H' v x
  | _, _, .non => .non
  | _, _, .bl b => .bl b
  | _, _, .int b => .int b
  | _, _, .str b => .str b
  | _, _, .ty b => .ty b
  | _, _, .glo b => .glo b
  | _, _, .tup h hs => .tup (e.sqT h) (RepPs.mono e hs)
  | _, _, .tun ⟨o, h, hd⟩ hs => .tun ⟨o, e.frz _ _ _ h, hd⟩ (RepPs.mono e hs)
  | _, _, .lst (a := a) h hb hs => by
    refine .lst (e.keep _ _ h fun q => hb (.inr q)) (fun hb' => ?_) (RepPs.mono e hs)
    rcases hb' with q | q
    · exact hb (.inl q)
    · rcases List.mem_append.mp q with q | q
      · exact hb (.inr q)
      · have := e.fresh _ q; rw [h] at this; cases this
  | _, _, .frz h hs => .frz (h.imp (fun ⟨o, q⟩ => ⟨o, e.frz _ _ _ q⟩) fun q => q) (RepPs.mono e hs)
  | _, _, .dic (a := a) h hb hk hs => by
    refine .dic (e.keep _ _ h fun q => hb (.inr q)) (fun hb' => ?_) hk (RepPs.mono e hs)
    rcases hb' with q | q
    · exact hb (.inl q)
    · rcases List.mem_append.mp q with q | q
      · exact hb (.inr q)
      · have := e.fresh _ q; rw [h] at this; cases this
  | _, _, .ins (a := a) h hb hk hs => by
    refine .ins (e.keep _ _ h fun q => hb (.inr q)) (fun hb' => ?_) hk (RepPs.mono e hs)
    rcases hb' with q | q
    · exact hb (.inl q)
    · rcases List.mem_append.mp q with q | q
      · exact hb (.inr q)
      · have := e.fresh _ q; rw [h] at this; cases this
theorem RepPs.mono {K : PySem.W.Frag} {F : Addr → Prop} {ads new : List Addr} {H H' : Hp} (e : Ext ads new H H') : ∀ {v : List V} {x : List PD}, RepPs K (Bad F ads) H v x → RepPs K (Bad F (ads ++ new)) H' v x
  | _, _, .nil => .nil
  | _, _, .cons h hs => .cons (RepP.mono e h) (RepPs.mono e hs)
end
mutual
theorem Rep.mono {K : PySem.W.Frag} {F : Addr → Prop} {ads new : List Addr} {H H' : Hp} (e : Ext ads new H H') : ∀ {v : V} {x : D}, Rep K F ads H v x → Rep K F (ads ++ new) H' v x
  | _, _, .p h => .p (h.mono e)
  | _, _, .loc h => .loc (by rw [List.getElem?_append_left (List.getElem?_eq_some_iff.mp h).1]; exact h)
  | _, _, .mix h hs => .mix (e.sqT h) (Reps.mono e hs)
theorem Reps.mono {K : PySem.W.Frag} {F : Addr → Prop} {ads new : List Addr} {H H' : Hp} (e : Ext ads new H H') : ∀ {v : List V} {x : List D}, Reps K F ads H v x → Reps K F (ads ++ new) H' v x
  | _, _, .nil => .nil
  | _, _, .cons h hs => .cons (Rep.mono e h) (Reps.mono e hs)
end
theorem RepPs.length {K : PySem.W.Frag} {B : Addr → Prop} {H : Hp} : ∀ {vs : List V} {xs : List PD}, RepPs K B H vs xs → vs.length = xs.length
  | _, _, .nil => rfl
  | _, _, .cons _ t => by rw [List.length_cons, List.length_cons, RepPs.length t]
section
variable {K : PySem.W.Frag} {F : Addr → Prop} {ads : List Addr} {H : Hp}
theorem Reps.length : ∀ {vs : List V} {xs : List D}, Reps K F ads H vs xs → vs.length = xs.length
  | _, _, .nil => rfl
  | _, _, .cons _ t => by rw [List.length_cons, List.length_cons, Reps.length t]
theorem Reps.get : ∀ {vs : List V} {xs : List D} {i : Nat} {x : D}, Reps K F ads H vs xs → xs[i]? = some x → ∃ v, vs[i]? = some v ∧ Rep K F ads H v x
  | _, _, _, _, .nil, h => by simp at h
  | _, _, 0, _, .cons r _, h => by simp at h; subst h; exact ⟨_, rfl, r⟩
  | _, _, i + 1, x, .cons _ t, h => by
    obtain ⟨v, h1, h2⟩ := Reps.get (i := i) (x := x) t (by simpa using h)
    exact ⟨v, by simpa using h1, h2⟩
theorem Reps.append : ∀ {vs ws : List V} {xs ys : List D}, Reps K F ads H vs xs → Reps K F ads H ws ys → Reps K F ads H (vs ++ ws) (xs ++ ys)
  | _, _, _, _, .nil, h => h
  | _, _, _, _, .cons r t, h => .cons r (Reps.append t h)
theorem Reps.set {v : V} {x : D} (r : Rep K F ads H v x) : ∀ {vs : List V} {xs : List D} (i : Nat), Reps K F ads H vs xs → Reps K F ads H (vs.set i v) (xs.set i x)
  | _, _, _, .nil => .nil
  | _, _, 0, .cons _ t => .cons r t
  | _, _, i + 1, .cons q t => .cons q (Reps.set r i t)
theorem Reps.drop : ∀ {vs : List V} {xs : List D} (n : Nat), Reps K F ads H vs xs → Reps K F ads H (vs.drop n) (xs.drop n)
  | _, _, 0, h => h
  | _, _, _ + 1, .nil => .nil
  | _, _, n + 1, .cons _ t => Reps.drop n t
theorem Reps.take : ∀ {vs : List V} {xs : List D} (n : Nat), Reps K F ads H vs xs → Reps K F ads H (vs.take n) (xs.take n)
  | _, _, 0, _ => .nil
  | _, _, _ + 1, .nil => .nil
  | _, _, n + 1, .cons r t => .cons r (Reps.take n t)
/-- plain items -/
theorem RepPs.ofP : ∀ {vs : List V} {xs : List PD}, RepPs K (Bad F ads) H vs xs → Reps K F ads H vs (xs.map D.p)
  | _, _, .nil => .nil
  | _, _, .cons r t => .cons (.p r) (RepPs.ofP t)
/-- all plain, or none -/
def allP : List D → Option (List PD)
  | [] => some []
  | .p x :: r => match allP r with
    | some xs => some (x :: xs)
    | none => none
  | _ :: _ => none
theorem Reps.toP : ∀ {vs : List V} {ds : List D} {xs : List PD}, Reps K F ads H vs ds → allP ds = some xs → RepPs K (Bad F ads) H vs xs
  | _, _, _, .nil, h => by cases h; exact .nil
  | _, _, _, .cons (x := d) (xs := ds) r t, h => by
    cases r with
    | p r =>
      unfold allP at h
      cases e : allP ds with
      | none => rw [e] at h; cases h
      | some ys => rw [e] at h; cases h; exact .cons r (Reps.toP t e)
    | loc _ => cases h
    | mix _ _ => cases h
theorem Sim.at {st : Store} (S : Sim K F ads st H) {i : Nat} {c : Cell} (h : st[i]? = some c) : ∃ a, ads[i]? = some a ∧ CellOk K F ads H a c := by
  have hi : i < ads.length := by rw [S.len]; exact (List.getElem?_eq_some_iff.mp h).1
  exact ⟨ads[i], List.getElem?_eq_getElem hi, S.cell i c _ h (List.getElem?_eq_getElem hi)⟩
theorem CellOk.there {a : Addr} {c : Cell} (h : CellOk K F ads H a c) : H a ≠ none := by
  cases c with
  | lst xs => obtain ⟨_, e, _⟩ := h; rw [e]; exact fun z => nomatch z
  | dic ks xs => obtain ⟨_, e, _⟩ := h; rw [e]; exact fun z => nomatch z
  | ins C ns xs => obtain ⟨_, _, e, _⟩ := h; rw [e]; exact fun z => nomatch z
theorem Sim.there {st : Store} (S : Sim K F ads st H) {a : Addr} (h : a ∈ ads) : H a ≠ none := by
  obtain ⟨i, hi, e⟩ := List.mem_iff_getElem.mp h
  have hs : i < st.length := by rw [← S.len]; exact hi
  exact (S.cell i st[i] a (List.getElem?_eq_getElem hs) (by rw [List.getElem?_eq_getElem hi, e])).there
theorem CellOk.mono {new : List Addr} {H' : Hp} (e : Ext ads new H H') {a : Addr} {c : Cell} (h : CellOk K F ads H a c) (hk : H' a = H a) : CellOk K F (ads ++ new) H' a c := by
  cases c with
  | lst xs => obtain ⟨vs, q, r⟩ := h; exact ⟨vs, hk.trans q, r.mono e⟩
  | dic ks xs => obtain ⟨vs, q, k, r⟩ := h; exact ⟨vs, hk.trans q, k, r.mono e⟩
  | ins C ns xs => obtain ⟨dx, fs, q, k, r⟩ := h; exact ⟨dx, fs, hk.trans q, k, r.mono e⟩
/-- a new object that is no cell (a tuple) -/
theorem Ext.laid {p : Addr} {o : HO} (hp : H p = none) : Ext ads [] H (upd H p o) where
  keep := fun a x h _ => by rw [upd_ne (ne_of_none h hp)]; exact h
  tup := fun a x h => by rw [upd_ne (ne_of_none h hp)]; exact h
  frz := fun a x u h => by rw [upd_ne (ne_of_none h hp)]; exact h
  there := fun a h => by
    unfold upd
    split
    · exact fun z => nomatch z
    · exact h
  fresh := fun _ h => nomatch h
theorem Sim.laid {st : Store} {p : Addr} {o : HO} (S : Sim K F ads st H) (hp : H p = none) : Sim K F (ads ++ []) st (upd H p o) where
  len := by rw [List.append_nil]; exact S.len
  nd := by rw [List.append_nil]; exact S.nd
  cell := fun i c a h1 h2 => by
    rw [List.append_nil] at h2
    have ok := S.cell i c a h1 h2
    refine CellOk.mono (Ext.laid hp) ok (upd_ne fun e => ?_)
    exact ok.there (by rw [e]; exact hp)
  far := fun a h => (Ext.laid (ads := ads) hp).there a (S.far a h)
  apart := fun a h => by rw [List.append_nil] at h; exact S.apart a h
/-- a new cell -/
theorem Ext.grown {p : Addr} {o : HO} (hp : H p = none) : Ext ads [p] H (upd H p o) :=
  ⟨(Ext.laid (ads := ads) hp).keep, (Ext.laid (ads := ads) hp).tup, (Ext.laid (ads := ads) hp).frz, (Ext.laid (ads := ads) hp).there, fun a h => by
    have e : a = p := by simpa using h
    rw [e]; exact hp⟩
theorem Sim.grown {st : Store} {p : Addr} {o : HO} {c : Cell} (S : Sim K F ads st H) (hp : H p = none) (hc : CellOk K F (ads ++ [p]) (upd H p o) p c) : Sim K F (ads ++ [p]) (st ++ [c]) (upd H p o) where
  len := by rw [List.length_append, List.length_append, S.len]; rfl
  nd := by
    rw [List.nodup_append]
    refine ⟨S.nd, by simp, fun a ha b hb => ?_⟩
    have e : b = p := by simpa using hb
    rintro rfl
    exact S.there ha (by rw [e]; exact hp)
  cell := fun i d a h1 h2 => by
    by_cases hi : i < st.length
    · rw [List.getElem?_append_left hi] at h1
      rw [List.getElem?_append_left (by rw [S.len]; exact hi)] at h2
      have ok := S.cell i d a h1 h2
      refine CellOk.mono (Ext.grown hp) ok (upd_ne fun e => ?_)
      exact ok.there (by rw [e]; exact hp)
    · rw [List.getElem?_append_right (by omega)] at h1
      rw [List.getElem?_append_right (by rw [S.len]; omega)] at h2
      have hi1 := (List.getElem?_eq_some_iff.mp h1).1
      have e0 : i - st.length = 0 := by simp at hi1; omega
      rw [S.len] at h2
      rw [e0] at h1 h2
      have e1 : c = d := Option.some.inj h1
      have e2 : p = a := Option.some.inj h2
      rw [← e1, ← e2]
      exact hc
  far := fun a h => (Ext.laid (ads := ads) hp).there a (S.far a h)
  apart := fun a h hf => by
    rcases List.mem_append.mp h with q | q
    · exact S.apart a q hf
    · have e : a = p := by simpa using q
      exact S.far a hf (by rw [e]; exact hp)
/-- a cell is written -/
theorem Ext.put {st : Store} {a : Addr} {o : HO} (S : Sim K F ads st H) (ha : a ∈ ads) (hm : Mut (H a)) : Ext ads [] H (upd H a o) where
  keep := fun x u h hx => by
    have e : x ≠ a := fun e => hx (e ▸ ha)
    rw [upd_ne e]; exact h
  tup := fun x u h => by
    have e : x ≠ a := fun e => by subst e; rw [h] at hm; exact hm
    rw [upd_ne e]; exact h
  frz := fun x u w h => by
    have e : x ≠ a := fun e => by subst e; rw [h] at hm; exact hm
    rw [upd_ne e]; exact h
  there := fun x h => by
    unfold upd
    split
    · exact fun z => nomatch z
    · exact h
  fresh := fun _ h => nomatch h
theorem Sim.put {st : Store} {i : Nat} {a : Addr} {o : HO} {c : Cell} (S : Sim K F ads st H) (ha : ads[i]? = some a) (hm : Mut (H a)) (hc : CellOk K F (ads ++ []) (upd H a o) a c) : Sim K F (ads ++ []) (st.set i c) (upd H a o) where
  len := by rw [List.append_nil, List.length_set]; exact S.len
  nd := by rw [List.append_nil]; exact S.nd
  cell := fun j d b h1 h2 => by
    have hma : a ∈ ads := List.mem_of_getElem? ha
    rw [List.append_nil] at h2
    by_cases hj : j = i
    · subst hj
      rw [ha] at h2
      cases h2
      have hl : j < st.length := by rw [← S.len]; exact (List.getElem?_eq_some_iff.mp ha).1
      rw [List.getElem?_set_self hl] at h1
      cases h1
      exact hc
    · rw [List.getElem?_set_ne (Ne.symm hj)] at h1
      have ok := S.cell j d b h1 h2
      refine CellOk.mono (Ext.put S hma hm) ok (upd_ne fun e => ?_)
      subst e
      obtain ⟨l1, e1⟩ := List.getElem?_eq_some_iff.mp ha
      obtain ⟨l2, e2⟩ := List.getElem?_eq_some_iff.mp h2
      exact hj ((List.getElem_inj S.nd).mp (e2.trans e1.symm))
  far := fun x h => (Ext.put S (List.mem_of_getElem? ha) hm).there x (S.far x h)
  apart := fun x h => by rw [List.append_nil] at h; exact S.apart x h
end
/-! ### the names' values -/
structure EnvOk (K : PySem.W.Frag) (F : Addr → Prop) (ads : List Addr) (H : Hp) (σ : St) (env : Env) : Prop where
  len : σ.length = env.length
  at_ : ∀ (i : Nat) (d : D), env[i]? = some (some d) → ∃ v, σ[i]? = some (some v) ∧ Rep K F ads H v d
theorem EnvOk.mono {K : PySem.W.Frag} {F : Addr → Prop} {ads new : List Addr} {H H' : Hp} {σ : St} {env : Env} (E : EnvOk K F ads H σ env) (e : Ext ads new H H') : EnvOk K F (ads ++ new) H' σ env :=
  ⟨E.len, fun i d h => let ⟨v, h1, h2⟩ := E.at_ i d h; ⟨v, h1, h2.mono e⟩⟩
theorem EnvOk.set {K : PySem.W.Frag} {F : Addr → Prop} {ads : List Addr} {H : Hp} {σ : St} {env : Env} (E : EnvOk K F ads H σ env) {v : V} {d : D} (i : Nat) (r : Rep K F ads H v d) : EnvOk K F ads H (σ.set i (some v)) (env.set i (some d)) :=
  ⟨by rw [List.length_set, List.length_set]; exact E.len, fun j x h => by
    by_cases hj : i = j
    · subst hj
      have hl : i < env.length := by
        have := (List.getElem?_eq_some_iff.mp h).1
        rwa [List.length_set] at this
      rw [List.getElem?_set_self hl] at h
      cases h
      exact ⟨v, by rw [List.getElem?_set_self (by rw [E.len]; exact hl)], r⟩
    · rw [List.getElem?_set_ne hj] at h
      obtain ⟨w, h1, h2⟩ := E.at_ j x h
      exact ⟨w, by rw [List.getElem?_set_ne hj]; exact h1, h2⟩⟩
/-! ### what an expression, a statement does -/
abbrev EI := Env → Store → Option (D × Store)
abbrev AI := Env → Store → Option (List D × Store)
abbrev BI := Env → Store → Option (Bool × Store)
inductive Fl where
  | nx (env : Env) | rt (d : D) | bk (env : Env) | ct (env : Env)
abbrev SI := Env → Store → Option (Fl × Store)
/-- behind: from (ads, H) the store is st', the value d; for all heaps that are so, Q -/
def Post (K : PySem.W.Frag) (F : Addr → Prop) (ads : List Addr) (H : Hp) (Q : VK) (d : D) (st' : Store) : Prop :=
  ∀ new H' v, Ext ads new H H' → Sim K F (ads ++ new) st' H' → Rep K F (ads ++ new) H' v d → Q v H'
def TEo (K : PySem.W.Frag) (F : Addr → Prop) (f : EI) : TE := fun σ H Q => ∃ ads env st d st', Sim K F ads st H ∧ EnvOk K F ads H σ env ∧ f env st = some (d, st') ∧ Post K F ads H Q d st'
def TAo (K : PySem.W.Frag) (F : Addr → Prop) (f : AI) : TA := fun σ H Q => ∃ ads env st ds st', Sim K F ads st H ∧ EnvOk K F ads H σ env ∧ f env st = some (ds, st') ∧
  ∀ new H' vs, Ext ads new H H' → Sim K F (ads ++ new) st' H' → Reps K F (ads ++ new) H' vs ds → Q vs H'
def TTo (K : PySem.W.Frag) (F : Addr → Prop) (f : BI) : TT := fun σ H Q => ∃ ads env st b st', Sim K F ads st H ∧ EnvOk K F ads H σ env ∧ f env st = some (b, st') ∧
  ∀ new H', Ext ads new H H' → Sim K F (ads ++ new) st' H' → Q b H'
def TSo (K : PySem.W.Frag) (F : Addr → Prop) (f : SI) : TS := fun W σ H => ∃ ads env st fl st', Sim K F ads st H ∧ EnvOk K F ads H σ env ∧ f env st = some (fl, st') ∧
  ∀ new H', Ext ads new H H' → Sim K F (ads ++ new) st' H' → match fl with
    | .nx env' => ∀ σ', EnvOk K F (ads ++ new) H' σ' env' → W.nx σ' H'
    | .bk env' => ∀ σ', EnvOk K F (ads ++ new) H' σ' env' → W.bk σ' H'
    | .ct env' => ∀ σ', EnvOk K F (ads ++ new) H' σ' env' → W.ct σ' H'
    | .rt d => ∀ v, Rep K F (ads ++ new) H' v d → W.rt v H'
def JE (X : Cx) (e : Expr) (f : EI) : Prop := ∀ F, PE X e (TEo X.K F f)
def JA (X : Cx) (es : List Expr) (f : AI) : Prop := ∀ F, PA X es (TAo X.K F f)
def JT (X : Cx) (e : Expr) (f : BI) : Prop := ∀ F, PT X e (TTo X.K F f)
def JS (X : Cx) (st : Stmt) (f : SI) : Prop := ∀ F, PS X st (TSo X.K F f)
def JSs (X : Cx) (st : List Stmt) (f : SI) : Prop := ∀ F, PSs X st (TSo X.K F f)
theorem _root_.L2.PE.imp {X : Cx} {e : Expr} {t t' : TE} (h : PE X e t) (q : ∀ σ H Q, t' σ H Q → t σ H Q) : PE X e t' := ⟨fun pins s σ H Q I w => h.run pins s σ H Q I (q σ H Q w)⟩
theorem _root_.L2.PA.imp {X : Cx} {e : List Expr} {t t' : TA} (h : PA X e t) (q : ∀ σ H Q, t' σ H Q → t σ H Q) : PA X e t' := ⟨fun pos pins s σ H Q I w => h.run pos pins s σ H Q I (q σ H Q w)⟩
theorem _root_.L2.PT.imp {X : Cx} {e : Expr} {t t' : TT} (h : PT X e t) (q : ∀ σ H Q, t' σ H Q → t σ H Q) : PT X e t' := ⟨fun pins s σ H Q I w => h.run pins s σ H Q I (q σ H Q w)⟩
theorem _root_.L2.PS.imp {X : Cx} {e : Stmt} {t t' : TS} (h : PS X e t) (q : ∀ W σ H, t' W σ H → t W σ H) : PS X e t' := ⟨fun pins s σ H W I w => h.run pins s σ H W I (q W σ H w)⟩
theorem _root_.L2.PSs.imp {X : Cx} {e : List Stmt} {t t' : TS} (h : PSs X e t) (q : ∀ W σ H, t' W σ H → t W σ H) : PSs X e t' := ⟨fun pins s σ H W I w => h.run pins s σ H W I (q W σ H w)⟩
/-- going on behind a first part -/
theorem Post.after {K : PySem.W.Frag} {F : Addr → Prop} {ads new : List Addr} {H H1 : Hp} {Q : VK} {d : D} {st' : Store} (e : Ext ads new H H1) (h : Post K F ads H Q d st') : Post K F (ads ++ new) H1 Q d st' :=
  fun new2 H' v e2 S r => h (new ++ new2) H' v (e.trans e2) (by rw [← List.append_assoc]; exact S) (by rw [← List.append_assoc]; exact r)
theorem Post.here {K : PySem.W.Frag} {F : Addr → Prop} {ads : List Addr} {H : Hp} {Q : VK} {d : D} {st : Store} {v : V} (h : Post K F ads H Q d st) (S : Sim K F ads st H) (r : Rep K F ads H v d) : Q v H :=
  h [] H v (Ext.refl _ _) (by rw [List.append_nil]; exact S) (by rw [List.append_nil]; exact r)
end J

set_option Elab.async false
set_option linter.all false
set_option maxRecDepth 100000
set_option maxHeartbeats 4000000
/-! J2: what expressions do, over plain data and the store; each by the hand layer's rule. -/
namespace J
open PySem PySem.Spec PyProof.Rows L2
set_option autoImplicit false
section
variable {K : PySem.W.Frag} {F : Addr → Prop} {ads : List Addr} {H : Hp} {Q : VK} {st : Store}
/-! ### inversions -/
theorem Rep.int {v : V} {i : Int} (r : Rep K F ads H v (.p (.int i))) : v = .int i := by cases r with | p r => cases r; rfl
theorem Rep.bl {v : V} {i : Bool} (r : Rep K F ads H v (.p (.bl i))) : v = .bl i := by cases r with | p r => cases r; rfl
theorem Rep.str {v : V} {i : Str} (r : Rep K F ads H v (.p (.str i))) : v = .str i := by cases r with | p r => cases r; rfl
theorem Rep.non {v : V} (r : Rep K F ads H v (.p .non)) : v = .non := by cases r with | p r => cases r; rfl
theorem Rep.ty {v : V} {n : String} (r : Rep K F ads H v (.p (.ty n))) : v = .ty n := by cases r with | p r => cases r; rfl
/-! ### tuples, lists -/
def tupOf : D → Option (List D)
  | .p (.tup xs) => some (xs.map D.p)
  | .p (.tun xs) => some (xs.map D.p)
  | .mix xs => some xs
  | _ => none
theorem tupOf_rep {v : V} {d : D} {xs : List D} (r : Rep K F ads H v d) (h : tupOf d = some xs) : ∃ a vs, v = .ref a ∧ SqT K H a vs ∧ Reps K F ads H vs xs := by
  cases r with
  | p r =>
    cases r with
    | tup q rs => cases h; exact ⟨_, _, rfl, q, rs.ofP⟩
    | tun q rs => cases h; exact ⟨_, _, rfl, q.sqT, rs.ofP⟩
    | _ => cases h
  | loc _ => cases h
  | mix q rs => cases h; exact ⟨_, _, rfl, q, rs⟩
/-- a list that may be read or added to -/
def lstOf (d : D) (st : Store) : Option (List D) := match d with
  | .p (.lst xs) => some (xs.map D.p)
  | .loc i => (match st[i]? with
    | some (.lst xs) => some xs
    | _ => none)
  | _ => none
theorem lstOf_rep {v : V} {d : D} {xs : List D} (S : Sim K F ads st H) (r : Rep K F ads H v d) (h : lstOf d st = some xs) : ∃ a vs, v = .ref a ∧ H a = some (.lst vs) ∧ Reps K F ads H vs xs := by
  cases r with
  | p r =>
    cases r with
    | lst q _ rs => cases h; exact ⟨_, _, rfl, q, rs.ofP⟩
    | _ => cases h
  | loc e =>
    rename_i a i
    have h1 : (match st[i]? with
      | some (.lst xs) => some xs
      | _ => none) = some xs := h
    cases q : st[i]? with
    | none => rw [q] at h1; cases h1
    | some c =>
      rw [q] at h1
      cases c with
      | lst ys =>
        have e1 : ys = xs := Option.some.inj h1
        obtain ⟨vs, q2, rs⟩ := S.cell i _ a q e
        exact ⟨a, vs, rfl, q2, by rw [← e1]; exact rs⟩
      | dic ks ys => cases h1
      | ins C ks ys => cases h1
  | mix q rs => cases h
/-- a list, the locked script too -/
def lstR (d : D) (st : Store) : Option (List D) := match d with
  | .p (.frz xs) => some (xs.map D.p)
  | d => lstOf d st
theorem lstR_rep {v : V} {d : D} {xs : List D} (S : Sim K F ads st H) (r : Rep K F ads H v d) (h : lstR d st = some xs) : ∃ a vs, v = .ref a ∧ SqL K H a vs ∧ Reps K F ads H vs xs := by
  have go : lstOf d st = some xs → ∃ a vs, v = .ref a ∧ SqL K H a vs ∧ Reps K F ads H vs xs := fun h => by
    obtain ⟨a, vs, e, q, rs⟩ := lstOf_rep S r h
    exact ⟨a, vs, e, .of q, rs⟩
  cases r with
  | p r =>
    cases r with
    | frz q rs =>
      cases h
      exact ⟨_, _, rfl, q.elim (fun q => .inl (.inr q)) .inr, rs.ofP⟩
    | lst q b rs => exact go h
    | _ => cases h
  | loc _ => exact go h
  | mix q rs => cases h
/-- a list or a tuple -/
def seqOf (d : D) (st : Store) : Option (List D) := match tupOf d with
  | some xs => some xs
  | none => lstR d st
theorem seqOf_rep {v : V} {d : D} {xs : List D} (S : Sim K F ads st H) (r : Rep K F ads H v d) (h : seqOf d st = some xs) : ∃ a vs, v = .ref a ∧ (SqL K H a vs ∨ SqT K H a vs) ∧ Reps K F ads H vs xs := by
  unfold seqOf at h
  cases e : tupOf d with
  | some ys =>
    rw [e] at h
    have e1 : ys = xs := Option.some.inj h
    obtain ⟨a, vs, e2, q, rs⟩ := tupOf_rep r e
    exact ⟨a, vs, e2, .inr q, by rw [← e1]; exact rs⟩
  | none =>
    rw [e] at h
    obtain ⟨a, vs, e2, q, rs⟩ := lstR_rep S r h
    exact ⟨a, vs, e2, .inl q, rs⟩
def mkTup (ds : List D) : D := match allP ds with
  | some xs => .p (.tup xs)
  | none => .mix ds
theorem mkTup_rep {a : Addr} {vs : List V} {ds : List D} (q : SqT K H a vs) (r : Reps K F ads H vs ds) : Rep K F ads H (.ref a) (mkTup ds) := by
  unfold mkTup
  cases e : allP ds with
  | none => exact .mix q r
  | some xs => exact .p (.tup q (r.toP e))
/-- a tuple made by the code, its object without a dict -/
def mkTupN (ds : List D) : D := match allP ds with
  | some xs => .p (.tun xs)
  | none => .mix ds
theorem mkTupN_rep {a : Addr} {vs : List V} {ds : List D} (q : NoD H a vs) (r : Reps K F ads H vs ds) : Rep K F ads H (.ref a) (mkTupN ds) := by
  unfold mkTupN
  cases e : allP ds with
  | none => exact .mix q.sqT r
  | some xs => exact .p (.tun q (r.toP e))
theorem Post.tupN {ds : List D} {vs : List V} (P : Post K F ads H Q (mkTupN ds) st) (S : Sim K F ads st H) (r : Reps K F ads H vs ds) : ∀ p (o : Obj), H p = none → o.dict = none → Q (.ref p) (upd H p (.frz o (.tup vs))) := fun p o hp hd =>
  P [] _ _ (Ext.laid hp) (S.laid hp) (mkTupN_rep ⟨o, upd_same, hd⟩ (r.mono (Ext.laid hp)))
/-- a new tuple -/
theorem Post.tup {ds : List D} {vs : List V} (P : Post K F ads H Q (mkTup ds) st) (S : Sim K F ads st H) (r : Reps K F ads H vs ds) : ∀ p, H p = none → Q (.ref p) (upd H p (.tup vs)) := fun p hp =>
  P [] _ _ (Ext.laid hp) (S.laid hp) (mkTup_rep (.of upd_same) (r.mono (Ext.laid hp)))
/-- a new list -/
theorem Post.lst {ds : List D} {vs : List V} (P : Post K F ads H Q (.loc st.length) (st ++ [.lst ds])) (S : Sim K F ads st H) (r : Reps K F ads H vs ds) : ∀ p, H p = none → Q (.ref p) (upd H p (.lst vs)) := fun p hp =>
  P [p] _ _ (Ext.grown hp) (S.grown hp ⟨vs, upd_same, r.mono (Ext.grown hp)⟩) (.loc (by rw [List.getElem?_append_right (by rw [S.len]; exact Nat.le_refl _), S.len, Nat.sub_self]; rfl))
/-- a written list -/
theorem Post.put {i : Nat} {a : Addr} {ds : List D} {vs vs0 : List V} {v : V} {d : D} (P : Post K F ads H Q d (st.set i (.lst ds))) (S : Sim K F ads st H) (ha : ads[i]? = some a) (h0 : H a = some (.lst vs0)) (r : Reps K F ads H vs ds) (rd : Rep K F ads H v d) :
    Q v (upd H a (.lst vs)) := by
  have hm : Mut (H a) := by rw [h0]; trivial
  have E := Ext.put (o := .lst vs) S (List.mem_of_getElem? ha) hm
  exact P [] _ _ E (S.put ha hm ⟨vs, upd_same, r.mono E⟩) (rd.mono E)
end

/-! ### expressions -/
def iVar (i : Nat) : EI := fun env st => match env[i]? with
  | some (some d) => some (d, st)
  | _ => none
def iP (x : PD) : EI := fun _ st => some (.p x, st)
def iStuck : EI := fun _ _ => none
abbrev Op2 := D → D → Store → Option (D × Store)
abbrev Op1 := D → Store → Option (D × Store)
def iBin (g : Op2) (fa fb : EI) : EI := fun env st => match fa env st with
  | some (a, st1) => (match fb env st1 with
    | some (b, st2) => g a b st2
    | none => none)
  | none => none
def iUn (g : Op1) (fa : EI) : EI := fun env st => match fa env st with
  | some (a, st1) => g a st1
  | none => none
def rJ2 (K : PySem.W.Frag) (F : Addr → Prop) (g : Op2) : R2 := fun x y H Q => ∃ ads st a b d st', Sim K F ads st H ∧ Rep K F ads H x a ∧ Rep K F ads H y b ∧ g a b st = some (d, st') ∧ Post K F ads H Q d st'
def rJ1 (K : PySem.W.Frag) (F : Addr → Prop) (g : Op1) : V → Hp → VK → Prop := fun x H Q => ∃ ads st a d st', Sim K F ads st H ∧ Rep K F ads H x a ∧ g a st = some (d, st') ∧ Post K F ads H Q d st'
def OpJ (X : Cx) (f : Value → Value → Sem Value) (g : Op2) : Prop := ∀ F, OpR X f (rJ2 X.K F g)
def UnJ (X : Cx) (f : Value → Sem Value) (g : Op1) : Prop := ∀ F, UnR X f (rJ1 X.K F g)
theorem bin_to {K : PySem.W.Frag} {F : Addr → Prop} {g : Op2} {fa fb : EI} {σ : St} {H : Hp} {Q : VK} (h : TEo K F (iBin g fa fb) σ H Q) : tOp (rJ2 K F g) (TEo K F fa) (TEo K F fb) σ H Q := by
  obtain ⟨ads, env, st, d, st', S, E, hf, P⟩ := h
  unfold iBin at hf
  cases ha : fa env st with
  | none => rw [ha] at hf; cases hf
  | some r =>
    obtain ⟨a, st1⟩ := r
    rw [ha] at hf
    cases hb : fb env st1 with
    | none => simp only [hb] at hf; cases hf
    | some r2 =>
      obtain ⟨b, st2⟩ := r2
      simp only [hb] at hf
      refine ⟨ads, env, st, a, st1, S, E, ha, fun new H1 x e1 S1 r1 => ?_⟩
      refine ⟨ads ++ new, env, st1, b, st2, S1, E.mono e1, hb, fun new2 H2 y e2 S2 r2 => ?_⟩
      exact ⟨_, st2, a, b, d, st', S2, r1.mono e2, r2, hf, (P.after e1).after e2⟩
theorem un_to {K : PySem.W.Frag} {F : Addr → Prop} {g : Op1} {fa : EI} {σ : St} {H : Hp} {Q : VK} (h : TEo K F (iUn g fa) σ H Q) : tUn (rJ1 K F g) (TEo K F fa) σ H Q := by
  obtain ⟨ads, env, st, d, st', S, E, hf, P⟩ := h
  unfold iUn at hf
  cases ha : fa env st with
  | none => rw [ha] at hf; cases hf
  | some r =>
    obtain ⟨a, st1⟩ := r
    rw [ha] at hf
    exact ⟨ads, env, st, a, st1, S, E, ha, fun new H1 x e1 S1 r1 => ⟨_, st1, a, d, st', S1, r1, hf, P.after e1⟩⟩
section
variable {X : Cx} {a b c e : Expr} {es : List Expr} {fa fb fc : EI} {pos : Pos}
theorem je_stuck : JE X e iStuck := fun F => ⟨fun pins s σ H Q I h => by obtain ⟨_, _, _, _, _, _, _, h, _⟩ := h; cases h⟩
theorem je_var {i : Nat} {x : Str} (hN : X.N[i]? = some x) (hv : Vis X.env.scope x) (hd : (x == ("__debug__" : Str)) = false) (hcd : (x == ("__classdict__" : Str)) = false) : JE X (.Name x pos) (iVar i) := fun F =>
  (pe_var hN hv hd hcd).imp fun σ H Q h => by
    obtain ⟨ads, env, st, d, st', S, E, hf, P⟩ := h
    unfold iVar at hf
    split at hf
    · rename_i d' e
      cases hf
      obtain ⟨v, h1, h2⟩ := E.at_ i d e
      exact ⟨v, h1, P.here S h2⟩
    · cases hf
theorem tC_of {K : PySem.W.Frag} {F : Addr → Prop} {x : PD} {v : V} (r : ∀ B H, RepP K B H v x) {σ : St} {H : Hp} {Q : VK} (h : TEo K F (iP x) σ H Q) : tC v σ H Q := by
  obtain ⟨ads, env, st, d, st', S, E, hf, P⟩ := h
  cases hf
  exact P.here S (.p (r _ _))
theorem je_int {i : Int} {j : Nat} : JE X (.Constant (.int i) j pos) (iP (.int i)) := fun F => pe_int.imp fun σ H Q h => tC_of (fun _ _ => .int i) h
theorem je_str {i : Str} {j : Nat} : JE X (.Constant (.str i) j pos) (iP (.str i)) := fun F => pe_str.imp fun σ H Q h => tC_of (fun _ _ => .str i) h
theorem je_bl {i : Bool} {j : Nat} : JE X (.Constant (.bool i) j pos) (iP (.bl i)) := fun F => pe_bl.imp fun σ H Q h => tC_of (fun _ _ => .bl i) h
theorem je_non {j : Nat} : JE X (.Constant .none j pos) (iP .non) := fun F => pe_non.imp fun σ H Q h => tC_of (fun _ _ => .non) h
/-- a module's constant -/
theorem je_glob {x : Str} {v : V} {u : Value} {d : PD} (hg : Gl X x) (hm : X.mg x = some u) (r : RelV v u) (rd : ∀ B H, RepP X.K B H v d) (hd : (x == ("__debug__" : Str)) = false) : JE X (.Name x pos) (iP d) := fun F =>
  (pe_glob hg hm r hd).imp fun σ H Q h => tC_of rd h
/-- a built-in's name (a type) -/
theorem je_bltn {x : Str} {v : V} {u : Value} {d : PD} (hg : Gl X x) (hm : X.mg x = none) (hv : bootBuiltins x = some u) (r : RelV v u) (rd : ∀ B H, RepP X.K B H v d) (hn : x ≠ "__name__") (hd : (x == ("__debug__" : Str)) = false) : JE X (.Name x pos) (iP d) := fun F =>
  (pe_bltn hg hm hv r hn hd).imp fun σ H Q h => tC_of rd h
theorem je_bin {op : Operator} {g : Op2} (ho : OpJ X (binaryOp op) g) (ha : JE X a fa) (hb : JE X b fb) : JE X (.BinOp a op b pos) (iBin g fa fb) := fun F => (pe_op (ho F) (ha F) (hb F)).imp fun _ _ _ h => bin_to h
theorem je_un {op : UnaryOp} {g : Op1} (ho : UnJ X (unaryOp op) g) (ha : JE X a fa) : JE X (.UnaryOp op a pos) (iUn g fa) := fun F => (pe_un (ho F) (ha F)).imp fun _ _ _ h => un_to h
theorem je_cmp {op : CmpOp} {g : Op2} (ho : OpJ X (compareOp op) g) (ha : JE X a fa) (hb : JE X b fb) (hm : behindInMarks op b = false) : JE X (.Compare a [op] [b] pos) (iBin g fa fb) := fun F => (pe_cmpR (ho F) (ha F) (hb F) hm).imp fun _ _ _ h => bin_to h
end
/-! ### tests -/
def bVal (f : EI) : BI := fun env st => match f env st with
  | some (.p (.bl b), st1) => some (b, st1)
  | _ => none
def bNot (f : BI) : BI := fun env st => match f env st with
  | some (b, st1) => some (!b, st1)
  | none => none
def bAnd (f g : BI) : BI := fun env st => match f env st with
  | some (true, st1) => g env st1
  | r => r
def bOr (f g : BI) : BI := fun env st => match f env st with
  | some (false, st1) => g env st1
  | r => r
def iIf (t : BI) (f g : EI) : EI := fun env st => match t env st with
  | some (true, st1) => f env st1
  | some (false, st1) => g env st1
  | none => none
def iAnd (f g : EI) : EI := fun env st => match f env st with
  | some (.p (.bl true), st1) => g env st1
  | some (.p (.bl false), st1) => some (.p (.bl false), st1)
  | _ => none
def iOr (f g : EI) : EI := fun env st => match f env st with
  | some (.p (.bl false), st1) => g env st1
  | some (.p (.bl true), st1) => some (.p (.bl true), st1)
  | _ => none
def iNot (f : EI) : EI := fun env st => match f env st with
  | some (.p (.bl b), st1) => some (.p (.bl (!b)), st1)
  | _ => none
section
variable {K : PySem.W.Frag} {F : Addr → Prop} {σ : St} {H : Hp}
/-- a first part that gives a bool, then what is behind -/
theorem bool_to {f : EI} {k : Bool → Store → Option (D × Store)} {Q : VK} {R : Bool → Hp → Prop} {ads : List Addr} {env : Env} {st : Store} {d : D} {st' : Store} (S : Sim K F ads st H) (E : EnvOk K F ads H σ env) (P : Post K F ads H Q d st')
    (hf : (match f env st with | some (.p (.bl b), st1) => k b st1 | _ => none) = some (d, st'))
    (h : ∀ b st1 new H1, k b st1 = some (d, st') → Ext ads new H H1 → Sim K F (ads ++ new) st1 H1 → EnvOk K F (ads ++ new) H1 σ env → Post K F (ads ++ new) H1 Q d st' → R b H1) :
    TEo K F f σ H fun x H1 => ∃ c, x = .bl c ∧ R c H1 := by
  split at hf
  · rename_i b st1 e
    exact ⟨ads, env, st, _, st1, S, E, e, fun new H1 x e1 S1 r1 => ⟨b, r1.bl, h b st1 new H1 hf e1 S1 (E.mono e1) (P.after e1)⟩⟩
  · cases hf
end
section
variable {X : Cx} {a b c e : Expr} {es : List Expr} {fa fb fc : EI} {ta tb : BI} {pos : Pos}
theorem jt_val (he : JE X e fa) (hi : ∀ whole, isTrue e X.env whole = (do let v ← whole; standAt e.pos; holding [v] (truthy v))) : JT X e (bVal fa) := fun F =>
  (pt_val (he F) hi).imp fun σ H Q h => by
    obtain ⟨ads, env, st, b, st', S, E, hf, P⟩ := h
    unfold bVal at hf
    split at hf
    · rename_i b' st1 e1
      cases hf
      exact ⟨ads, env, st, _, _, S, E, e1, fun new H1 x e2 S1 r1 => ⟨b, r1.bl, P new H1 e2 S1⟩⟩
    · cases hf
theorem jt_cmp {op : CmpOp} {g : Op2} (ho : OpJ X (compareOp op) g) (ha : JE X a fa) (hb : JE X b fb) (hm : behindInMarks op b = false) : JT X (.Compare a [op] [b] pos) (bVal (iBin g fa fb)) := fun F =>
  (pt_cmpR (ho F) (ha F) (hb F) hm).imp fun σ H Q h => by
    obtain ⟨ads, env, st, b, st', S, E, hf, P⟩ := h
    unfold bVal at hf
    split at hf
    · rename_i b' st1 e1
      cases hf
      exact bin_to ⟨ads, env, st, _, _, S, E, e1, fun new H1 x e2 S1 r1 => ⟨b, r1.bl, P new H1 e2 S1⟩⟩
    · cases hf
theorem jt_not (ha : JT X a ta) : JT X (.UnaryOp .Not a pos) (bNot ta) := fun F =>
  (pt_not (ha F)).imp fun σ H Q h => by
    obtain ⟨ads, env, st, b, st', S, E, hf, P⟩ := h
    unfold bNot at hf
    split at hf
    · rename_i b' st1 e1
      cases hf
      exact ⟨ads, env, st, b', _, S, E, e1, fun new H1 e2 S1 => P new H1 e2 S1⟩
    · cases hf
def JW (X : Cx) (e : Expr) (f : BI) : Prop := ∀ F, PW X e (TTo X.K F f)
theorem _root_.L2.PW.imp {t t' : TT} (h : PW X e t) (q : ∀ σ H Q, t' σ H Q → t σ H Q) : PW X e t' := ⟨fun wh pins s σ H Q I w => h.run wh pins s σ H Q I (q σ H Q w)⟩
theorem jw_and1 (ha : JT X a ta) : JW X (.BoolOp .And [a] pos) ta := fun F => pw_and1 (ha F)
theorem jw_or1 (ha : JT X a ta) : JW X (.BoolOp .Or [a] pos) ta := fun F => pw_or1 (ha F)
theorem jw_and (ha : JT X a ta) (hb : JW X (.BoolOp .And (b :: es) pos) tb) : JW X (.BoolOp .And (a :: b :: es) pos) (bAnd ta tb) := fun F =>
  (pw_and (ha F) (hb F)).imp fun σ H Q h => by
    obtain ⟨ads, env, st, b, st', S, E, hf, P⟩ := h
    unfold bAnd at hf
    cases e1 : ta env st with
    | none => rw [e1] at hf; cases hf
    | some r =>
      obtain ⟨c, st1⟩ := r
      rw [e1] at hf
      refine ⟨ads, env, st, c, st1, S, E, e1, fun new H1 e2 S1 => ?_⟩
      cases c with
      | true =>
        rw [if_pos rfl]
        exact ⟨_, env, st1, b, st', S1, E.mono e2, hf, fun new2 H2 e3 S2 => P (new ++ new2) H2 (e2.trans e3) (by rw [← List.append_assoc]; exact S2)⟩
      | false =>
        rw [if_neg Bool.false_ne_true]
        cases hf
        exact P new H1 e2 S1
theorem jw_or (ha : JT X a ta) (hb : JW X (.BoolOp .Or (b :: es) pos) tb) : JW X (.BoolOp .Or (a :: b :: es) pos) (bOr ta tb) := fun F =>
  (pw_or (ha F) (hb F)).imp fun σ H Q h => by
    obtain ⟨ads, env, st, b, st', S, E, hf, P⟩ := h
    unfold bOr at hf
    cases e1 : ta env st with
    | none => rw [e1] at hf; cases hf
    | some r =>
      obtain ⟨c, st1⟩ := r
      rw [e1] at hf
      refine ⟨ads, env, st, c, st1, S, E, e1, fun new H1 e2 S1 => ?_⟩
      cases c with
      | false =>
        rw [if_neg Bool.false_ne_true]
        exact ⟨_, env, st1, b, st', S1, E.mono e2, hf, fun new2 H2 e3 S2 => P (new ++ new2) H2 (e2.trans e3) (by rw [← List.append_assoc]; exact S2)⟩
      | true =>
        rw [if_pos rfl]
        cases hf
        exact P new H1 e2 S1
theorem JW.jt {f : BI} (h : JW X e f) : JT X e f := fun F => (h F).pt
theorem je_if (hc : JT X c ta) (ha : JE X a fa) (hb : JE X b fb) : JE X (.IfExp c a b pos) (iIf ta fa fb) := fun F =>
  (pe_ifExp (hc F) (ha F) (hb F)).imp fun σ H Q h => by
    obtain ⟨ads, env, st, d, st', S, E, hf, P⟩ := h
    unfold iIf at hf
    split at hf
    · rename_i st1 e1
      exact ⟨ads, env, st, true, st1, S, E, e1, fun new H1 e2 S1 => by dsimp only; rw [if_pos rfl]; exact ⟨_, env, st1, d, st', S1, E.mono e2, hf, P.after e2⟩⟩
    · rename_i st1 e1
      exact ⟨ads, env, st, false, st1, S, E, e1, fun new H1 e2 S1 => by dsimp only; rw [if_neg Bool.false_ne_true]; exact ⟨_, env, st1, d, st', S1, E.mono e2, hf, P.after e2⟩⟩
    · cases hf
theorem je_one {op : BoolOp} (ha : JE X a fa) : JE X (.BoolOp op [a] pos) fa := fun F => pe_one (ha F)
theorem je_and (ha : JE X a fa) (hb : JE X (.BoolOp .And (b :: es) pos) fb) : JE X (.BoolOp .And (a :: b :: es) pos) (iAnd fa fb) := fun F =>
  (pe_and (ha F) (hb F)).imp fun σ H Q h => by
    obtain ⟨ads, env, st, d, st', S, E, hf, P⟩ := h
    unfold iAnd at hf
    split at hf
    · rename_i st1 e1
      exact ⟨ads, env, st, _, st1, S, E, e1, fun new H1 x e2 S1 r1 => ⟨true, r1.bl, by rw [if_pos rfl]; exact ⟨_, env, st1, d, st', S1, E.mono e2, hf, P.after e2⟩⟩⟩
    · rename_i st1 e1
      cases hf
      exact ⟨ads, env, st, _, _, S, E, e1, fun new H1 x e2 S1 r1 => ⟨false, r1.bl, by rw [if_neg Bool.false_ne_true]; exact (P.after e2).here S1 (.p (.bl false))⟩⟩
    · cases hf
theorem je_or (ha : JE X a fa) (hb : JE X (.BoolOp .Or (b :: es) pos) fb) : JE X (.BoolOp .Or (a :: b :: es) pos) (iOr fa fb) := fun F =>
  (pe_or (ha F) (hb F)).imp fun σ H Q h => by
    obtain ⟨ads, env, st, d, st', S, E, hf, P⟩ := h
    unfold iOr at hf
    split at hf
    · rename_i st1 e1
      exact ⟨ads, env, st, _, st1, S, E, e1, fun new H1 x e2 S1 r1 => ⟨false, r1.bl, by rw [if_neg Bool.false_ne_true]; exact ⟨_, env, st1, d, st', S1, E.mono e2, hf, P.after e2⟩⟩⟩
    · rename_i st1 e1
      cases hf
      exact ⟨ads, env, st, _, _, S, E, e1, fun new H1 x e2 S1 r1 => ⟨true, r1.bl, by rw [if_pos rfl]; exact (P.after e2).here S1 (.p (.bl true))⟩⟩
    · cases hf
theorem je_not (ha : JE X a fa) : JE X (.UnaryOp .Not a pos) (iNot fa) := fun F =>
  (pe_not (ha F)).imp fun σ H Q h => by
    obtain ⟨ads, env, st, d, st', S, E, hf, P⟩ := h
    unfold iNot at hf
    split at hf
    · rename_i b st1 e1
      cases hf
      exact ⟨ads, env, st, _, _, S, E, e1, fun new H1 x e2 S1 r1 => ⟨b, r1.bl, (P.after e2).here S1 (.p (.bl _))⟩⟩
    · cases hf
end
/-! ### argument lists, displays -/
def aNil : AI := fun _ st => some ([], st)
def aCons (f : EI) (g : AI) : AI := fun env st => match f env st with
  | some (d, st1) => (match g env st1 with
    | some (ds, st2) => some (d :: ds, st2)
    | none => none)
  | none => none
def iTup (f : AI) : EI := fun env st => match f env st with
  | some (ds, st1) => if ds.length ≤ 16777216 then some (mkTupN ds, st1) else none
  | none => none
def iLst (f : AI) : EI := fun env st => match f env st with
  | some (ds, st1) => if ds.length ≤ 16777216 then some (.loc st1.length, st1 ++ [.lst ds]) else none
  | none => none
section
variable {X : Cx} {e : Expr} {es : List Expr} {f : EI} {g : AI} {pos : Pos}
theorem ja_nil : JA X [] aNil := fun F => pa_nil.imp fun σ H Q h => by
  obtain ⟨ads, env, st, ds, st', S, E, hf, P⟩ := h
  cases hf
  exact P [] H [] (Ext.refl _ _) (by rw [List.append_nil]; exact S) .nil
theorem ja_cons (he : JE X e f) (hr : JA X es g) (hs : starEach (e :: es) X.env = (false, eval e X.env) :: starEach es X.env) : JA X (e :: es) (aCons f g) := fun F => (pa_cons (he F) (hr F) hs).imp fun σ H Q h => by
  obtain ⟨ads, env, st, ds, st', S, E, hf, P⟩ := h
  unfold aCons at hf
  cases ha : f env st with
  | none => rw [ha] at hf; cases hf
  | some r =>
    obtain ⟨d, st1⟩ := r
    rw [ha] at hf
    cases hb : g env st1 with
    | none => simp only [hb] at hf; cases hf
    | some r2 =>
      obtain ⟨ds', st2⟩ := r2
      simp only [hb] at hf
      cases hf
      refine ⟨ads, env, st, d, st1, S, E, ha, fun new H1 x e1 S1 r1 => ⟨_, env, st1, ds', st', S1, E.mono e1, hb, fun new2 H2 xs e2 S2 r2 => ?_⟩⟩
      exact P (new ++ new2) H2 _ (e1.trans e2) (by rw [← List.append_assoc]; exact S2) (by rw [← List.append_assoc]; exact .cons (r1.mono e2) r2)
theorem sizeLine_lit {n : Nat} (h : n ≤ 16777216) : n ≤ sizeLine := by rw [sizeLine_eq]; exact h
theorem pe_tupN {k : Nat} {t : TA} (ha : PA X es t) : PE X (.Tuple es k pos) (fun σ H Q => t σ H fun xs H1 => xs.length ≤ sizeLine ∧ ∀ p (o : Obj), H1 p = none → o.dict = none → Q (.ref p) (upd H1 p (.frz o (.tup xs)))) := by
  refine ⟨fun pins s σ H Q I hq => wpAny_Tuple_spliced (thn (ha.run pos pins s σ H _ I hq) fun us s1 ⟨xs, H1, I1, r, z, q⟩ => ⟨by rw [← r.length]; exact z, ?_⟩)⟩
  have free : H1 s1.heap.objs.size = none := I1.hok.fresh (Nat.le_refl _)
  refine ⟨.ref s1.heap.objs.size, upd H1 s1.heap.objs.size (.frz { cls := .type "tuple", data := .seq us.toArray } (.tup xs)), I1.laid (t' := s1.toks) (fun b u e => Heap.get?_push_of_some _ e) (Nat.le_refl _) ?_, rfl, q _ _ free rfl⟩
  exact ⟨Heap.get?_push_size _ rfl, z, us, r, ⟨_, Heap.get?_push_size _ rfl, rfl, _, rfl⟩⟩
theorem je_tup {k : Nat} (ha : JA X es g) : JE X (.Tuple es k pos) (iTup g) := fun F => (pe_tupN (ha F)).imp fun σ H Q h => by
  obtain ⟨ads, env, st, d, st', S, E, hf, P⟩ := h
  unfold iTup at hf
  split at hf
  · rename_i ds st1 e1
    split at hf
    · rename_i hz
      cases hf
      exact ⟨ads, env, st, ds, _, S, E, e1, fun new H1 xs e2 S1 r1 => ⟨sizeLine_lit (by rw [r1.length]; exact hz), (P.after e2).tupN S1 r1⟩⟩
    · cases hf
  · cases hf
theorem je_lst (ha : JA X es g) : JE X (.List es pos) (iLst g) := fun F => (pe_lst (ha F)).imp fun σ H Q h => by
  obtain ⟨ads, env, st, d, st', S, E, hf, P⟩ := h
  unfold iLst at hf
  split at hf
  · rename_i ds st1 e1
    split at hf
    · rename_i hz
      cases hf
      exact ⟨ads, env, st, ds, st1, S, E, e1, fun new H1 xs e2 S1 r1 => ⟨sizeLine_lit (by rw [r1.length]; exact hz), (P.after e2).lst S1 r1⟩⟩
    · cases hf
  · cases hf
end
end J

set_option Elab.async false
set_option linter.all false
set_option maxRecDepth 100000
set_option maxHeartbeats 4000000
/-! J3: the operators by values. -/
namespace J
open PySem PySem.Spec PyProof.Rows L2
set_option autoImplicit false
/-! ### arithmetic -/
def oAdd : Op2 := fun a b st => match a, b with
  | .p (.int i), .p (.int j) => some (.p (.int (i + j)), st)
  | .p (.str x), .p (.str y) => if x.length + y.length ≤ 16777216 then some (.p (.str (x ++ y)), st) else none
  | a, b => match tupOf a, tupOf b with
    | some xs, some ys => if xs.length + ys.length ≤ 16777216 then (match xs, ys with
      | [], _ => some (b, st)
      | _ :: _, [] => some (a, st)
      | x :: r, y :: q => some (mkTup (x :: r ++ y :: q), st)) else none
    | _, _ => match lstOf a st, lstOf b st with
      | some xs, some ys => if xs.length + ys.length ≤ 16777216 then some (.loc st.length, st ++ [.lst (xs ++ ys)]) else none
      | _, _ => none
def oSub : Op2 := fun a b st => match a, b with
  | .p (.int i), .p (.int j) => some (.p (.int (i - j)), st)
  | _, _ => none
def repL (k : Nat) (xs : List D) : List D := (List.replicate k xs).flatten
def oMul : Op2 := fun a b st => match a, b with
  | .p (.int i), .p (.int j) => if i.natAbs.log2 + j.natAbs.log2 < 1000000 then some (.p (.int (i * j)), st) else none
  | a, .p (.int k) => (match tupOf a with
    | some (x :: r) => if 2 ≤ k ∧ k ≤ 1000 ∧ (x :: r).length ≤ 1000 then some (mkTup (repL k.toNat (x :: r)), st) else if k = 1 then some (a, st) else if k ≤ 0 ∧ -1000 ≤ k then some (.p (.tup []), st) else none
    | _ => none)
  | _, _ => none
def oFdiv : Op2 := fun a b st => match a, b with
  | .p (.int i), .p (.int j) => if 0 < j ∧ j.natAbs.log2 < 9000 then some (.p (.int (i / j)), st) else if j ≠ 0 ∧ j.natAbs < 1073741824 then some (.p (.int (i.fdiv j)), st) else none
  | _, _ => none
def oMod : Op2 := fun a b st => match a, b with
  | .p (.int i), .p (.int j) => if 0 < j then some (.p (.int (i % j)), st) else none
  | _, _ => none
def oPow : Op2 := fun a b st => match a, b with
  | .p (.int i), .p (.int j) => if 0 ≤ j ∧ j ≤ 1000000 ∧ i.natAbs < 18446744073709551616 then some (.p (.int (i ^ j.toNat)), st) else none
  | _, _ => none
def oNeg : Op1 := fun a st => match a with
  | .p (.int i) => some (.p (.int (-i)), st)
  | _ => none
section
variable {X : Cx}
theorem D.cases2 (a b : D) : True := trivial
theorem oj_add : OpJ X (binaryOp .Add) oAdd := by
  intro F pins s σ H x y v u Q I rx ry ⟨ads, st, a, b, d, st', S, ra, rb, hg, P⟩
  unfold oAdd at hg
  split at hg
  · cases hg
    exact op_add pins s σ H x y v u Q I rx ry ⟨_, _, ra.int, rb.int, P.here S (.p (.int _))⟩
  · split at hg
    · rename_i h
      cases hg
      exact op_add_str pins s σ H x y v u Q I rx ry ⟨_, _, ra.str, rb.str, sizeLine_lit h, P.here S (.p (.str _))⟩
    · cases hg
  · split at hg
    · rename_i xs ys ha hb
      split at hg
      · rename_i hz
        obtain ⟨p, vs, rfl, q1, r1⟩ := tupOf_rep ra ha
        obtain ⟨p2, vs2, rfl, q2, r2⟩ := tupOf_rep rb hb
        refine op_catA pins s σ H _ _ v u Q I rx ry ⟨p, p2, vs, vs2, rfl, rfl, q1, q2, sizeLine_lit (by rw [r1.length, r2.length]; exact hz), ?_, ?_, ?_⟩
        · rintro rfl
          cases r1
          cases hg
          exact P.here S rb
        · intro hn hm
          subst hm
          cases r1 with
          | nil => exact absurd rfl hn
          | cons r1 r1' =>
            cases r2
            cases hg
            exact P.here S ra
        · intro hn hm
          cases r1 with
          | nil => exact absurd rfl hn
          | cons r1 r1' =>
            cases r2 with
            | nil => exact absurd rfl hm
            | cons r2 r2' =>
              cases hg
              exact P.tup S (Reps.append (.cons r1 r1') (.cons r2 r2'))
      · cases hg
    · split at hg
      · rename_i xs ys ha hb
        split at hg
        · rename_i hz
          cases hg
          obtain ⟨p, vs, rfl, q1, r1⟩ := lstOf_rep S ra ha
          obtain ⟨p2, vs2, rfl, q2, r2⟩ := lstOf_rep S rb hb
          exact op_cat pins s σ H _ _ v u Q I rx ry ⟨p, p2, vs, vs2, rfl, rfl, q1, q2, sizeLine_lit (by rw [r1.length, r2.length]; exact hz), P.lst S (r1.append r2)⟩
        · cases hg
      · cases hg
theorem oj_sub : OpJ X (binaryOp .Sub) oSub := by
  intro F pins s σ H x y v u Q I rx ry ⟨ads, st, a, b, d, st', S, ra, rb, hg, P⟩
  unfold oSub at hg
  split at hg
  · cases hg
    exact op_sub pins s σ H x y v u Q I rx ry ⟨_, _, ra.int, rb.int, P.here S (.p (.int _))⟩
  · cases hg
theorem oj_fdiv : OpJ X (binaryOp .FloorDiv) oFdiv := by
  intro F pins s σ H x y v u Q I rx ry ⟨ads, st, a, b, d, st', S, ra, rb, hg, P⟩
  unfold oFdiv at hg
  split at hg
  · split at hg
    · rename_i h
      cases hg
      exact op_fdivW pins s σ H x y v u Q I rx ry ⟨_, _, ra.int, rb.int, h, P.here S (.p (.int _))⟩
    · split at hg
      · rename_i h
        cases hg
        exact op_fdivN pins s σ H x y v u Q I rx ry ⟨_, _, ra.int, rb.int, h, P.here S (.p (.int _))⟩
      · cases hg
  · cases hg
theorem oj_mod : OpJ X (binaryOp .Mod) oMod := by
  intro F pins s σ H x y v u Q I rx ry ⟨ads, st, a, b, d, st', S, ra, rb, hg, P⟩
  unfold oMod at hg
  split at hg
  · split at hg
    · rename_i h
      cases hg
      exact op_mod pins s σ H x y v u Q I rx ry ⟨_, _, ra.int, rb.int, h, P.here S (.p (.int _))⟩
    · cases hg
  · cases hg
theorem oj_pow : OpJ X (binaryOp .Pow) oPow := by
  intro F pins s σ H x y v u Q I rx ry ⟨ads, st, a, b, d, st', S, ra, rb, hg, P⟩
  unfold oPow at hg
  split at hg
  · split at hg
    · rename_i h
      cases hg
      exact op_pow pins s σ H x y v u Q I rx ry ⟨_, _, ra.int, rb.int, ⟨h.1, h.2.1, h.2.2⟩, P.here S (.p (.int _))⟩
    · cases hg
  · cases hg
theorem oj_neg : UnJ X (unaryOp .USub) oNeg := by
  intro F pins s σ H x v Q I rx ⟨ads, st, a, d, st', S, ra, hg, P⟩
  unfold oNeg at hg
  split at hg
  · cases hg
    exact un_neg pins s σ H x v Q I rx ⟨_, ra.int, P.here S (.p (.int _))⟩
  · cases hg
end
/-! ### comparisons -/
mutual
/-- data that == may be asked of -/
def dataP : PD → Option PyData
  | .non => some .none
  | .bl b => some (.bool b)
  | .int i => some (.int i)
  | .str x => some (.str x)
  | .tup xs => match dataPs xs with
    | some ds => some (.tuple ds)
    | none => none
  | .tun xs => match dataPs xs with
    | some ds => some (.tuple ds)
    | none => none
  | .lst xs => match dataPs xs with
    | some ds => some (.list ds)
    | none => none
  | .frz xs => match dataPs xs with
    | some ds => some (.list ds)
    | none => none
  | _ => none
def dataPs : List PD → Option (List PyData)
  | [] => some []
  | x :: xs => match dataP x with
    | some d => (match dataPs xs with
      | some ds => some (d :: ds)
      | none => none)
    | none => none
end
def mapO {α β : Type} (f : α → Option β) : List α → Option (List β)
  | [] => some []
  | x :: xs => match f x with
    | some d => (match mapO f xs with
      | some ds => some (d :: ds)
      | none => none)
    | none => none
def dataD : Nat → Store → D → Option PyData
  | _, _, .p x => dataP x
  | k + 1, st, .loc i => (match st[i]? with
    | some (.lst ds) => (match mapO (dataD k st) ds with
      | some xs => some (.list xs)
      | none => none)
    | _ => none)
  | k + 1, st, .mix ds => (match mapO (dataD k st) ds with
    | some xs => some (.tuple xs)
    | none => none)
  | 0, _, _ => none
section
variable {K : PySem.W.Frag} {B : Addr → Prop} {H : Hp}
mutual
theorem dataP_rep : ∀ {v : V} {x : PD} {d : PyData}, RepP K B H v x → dataP x = some d → Dp K H v d
  | _, _, _, .non, h => by cases h; exact .non
  | _, _, _, .bl b, h => by cases h; exact .bl b
  | _, _, _, .int b, h => by cases h; exact .int b
  | _, _, _, .str b, h => by cases h; exact .str b
  | _, _, _, .ty b, h => by cases h
  | _, _, _, .glo b, h => by cases h
  | _, _, _, .tup (xs := xs) q rs, h => by
    unfold dataP at h
    cases e : dataPs xs with
    | none => rw [e] at h; cases h
    | some ds => rw [e] at h; cases h; exact .tup q (dataPs_rep rs e)
  | _, _, _, .tun (xs := xs) q rs, h => by
    unfold dataP at h
    cases e : dataPs xs with
    | none => rw [e] at h; cases h
    | some ds => rw [e] at h; cases h; exact .tup q.sqT (dataPs_rep rs e)
  | _, _, _, .lst (xs := xs) q _ rs, h => by
    unfold dataP at h
    cases e : dataPs xs with
    | none => rw [e] at h; cases h
    | some ds => rw [e] at h; cases h; exact .lst (.of q) (dataPs_rep rs e)
  | _, _, _, .frz (xs := xs) q rs, h => by
    unfold dataP at h
    cases e : dataPs xs with
    | none => rw [e] at h; cases h
    | some ds => rw [e] at h; cases h; exact .lst (q.elim (fun q => .inl (.inr q)) .inr) (dataPs_rep rs e)
  | _, _, _, .dic _ _ _ _, h => by cases h
  | _, _, _, .ins _ _ _ _, h => by cases h
theorem dataPs_rep : ∀ {vs : List V} {xs : List PD} {ds : List PyData}, RepPs K B H vs xs → dataPs xs = some ds → DpAll K H vs ds
  | _, _, _, .nil, h => by cases h; exact .nil
  | _, _, _, .cons (x := x) (xs := xs) r t, h => by
    unfold dataPs at h
    cases e : dataP x with
    | none => rw [e] at h; cases h
    | some d =>
      cases e2 : dataPs xs with
      | none => rw [e] at h; simp only [e2] at h; cases h
      | some ds => rw [e] at h; simp only [e2] at h; cases h; exact .cons (dataP_rep r e) (dataPs_rep t e2)
end
variable {F : Addr → Prop} {ads : List Addr} {st : Store}
theorem mapO_rep {f : D → Option PyData} (hf : ∀ {v : V} {x : D} {d : PyData}, Rep K F ads H v x → f x = some d → Dp K H v d) :
    ∀ {vs : List V} {xs : List D} {ds : List PyData}, Reps K F ads H vs xs → mapO f xs = some ds → DpAll K H vs ds
  | _, _, _, .nil, h => by cases h; exact .nil
  | _, _, _, .cons (x := x) (xs := xs) r t, h => by
    unfold mapO at h
    cases e : f x with
    | none => rw [e] at h; cases h
    | some d =>
      cases e2 : mapO f xs with
      | none => rw [e] at h; simp only [e2] at h; cases h
      | some ds => rw [e] at h; simp only [e2] at h; cases h; exact .cons (hf r e) (mapO_rep hf t e2)
theorem dataD_rep (S : Sim K F ads st H) : ∀ (k : Nat) {v : V} {x : D} {d : PyData}, Rep K F ads H v x → dataD k st x = some d → Dp K H v d
  | k, _, _, _, .p r, h => dataP_rep r (by cases k <;> exact h)
  | 0, _, _, _, .loc _, h => by cases h
  | 0, _, _, _, .mix _ _, h => by cases h
  | k + 1, _, _, _, .loc (a := a) (i := i) e, h => by
    have h1 : (match st[i]? with
      | some (.lst ds) => (match mapO (dataD k st) ds with
        | some xs => some (PyData.list xs)
        | none => none)
      | _ => none) = some _ := h
    cases q : st[i]? with
    | none => rw [q] at h1; cases h1
    | some c =>
      rw [q] at h1
      cases c with
      | lst ys =>
        simp only at h1
        cases e2 : mapO (dataD k st) ys with
        | none => rw [e2] at h1; cases h1
        | some zs =>
          rw [e2] at h1
          cases h1
          obtain ⟨vs, q2, rs⟩ := S.cell i _ a q e
          exact .lst (.of q2) (mapO_rep (fun r h => dataD_rep S k r h) rs e2)
      | dic _ _ => cases h1
      | ins _ _ _ => cases h1
  | k + 1, _, _, _, .mix (xs := ys) q rs, h => by
    have h1 : (match mapO (dataD k st) ys with
      | some xs => some (PyData.tuple xs)
      | none => none) = some _ := h
    cases e2 : mapO (dataD k st) ys with
    | none => rw [e2] at h1; cases h1
    | some zs =>
      rw [e2] at h1
      cases h1
      exact .tup q (mapO_rep (fun r h => dataD_rep S k r h) rs e2)
end
/-- == of plain data -/
def eqJ (a b : D) (st : Store) : Option Bool := match a, b with
  | .p (.int i), .p (.int j) => some (i == j)
  | .p (.str i), .p (.str j) => some (i == j)
  | .p (.bl i), .p (.bl j) => some (i == j)
  | a, b => match dataD 4 st a, dataD 4 st b with
    | some x, some y => if SeqAt.shaped x && SeqAt.shaped y then some (PyData.eqv x y) else none
    | _, _ => none
def oEq : Op2 := fun a b st => match eqJ a b st with
  | some k => some (.p (.bl k), st)
  | none => none
def oNe : Op2 := fun a b st => match eqJ a b st with
  | some k => some (.p (.bl (!k)), st)
  | none => none
def oInt (p : Int → Int → Bool) : Op2 := fun a b st => match a, b with
  | .p (.int i), .p (.int j) => some (.p (.bl (p i j)), st)
  | _, _ => none
def oLt : Op2 := fun a b st => match a, b with
  | .p (.int i), .p (.int j) => some (.p (.bl (decide (i < j))), st)
  | .p (.str i), .p (.str j) => some (.p (.bl (decide (i.cps.toList < j.cps.toList))), st)
  | _, _ => none
def isNon : D → Bool
  | .p .non => true
  | _ => false
def isBl (k : Bool) : D → Bool
  | .p (.bl j) => j == k
  | _ => false
def oIs : Op2 := fun a b st => match b with
  | .p .non => some (.p (.bl (isNon a)), st)
  | .p (.bl k) => some (.p (.bl (isBl k a)), st)
  | _ => none
def oIsN : Op2 := fun a b st => match oIs a b st with
  | some (.p (.bl k), st') => some (.p (.bl (!k)), st')
  | _ => none
section
variable {X : Cx}
theorem eqJ_at {F : Addr → Prop} {ads : List Addr} {st : Store} {H : Hp} {x y : V} {a b : D} {k : Bool} (S : Sim X.K F ads st H) (ra : Rep X.K F ads H x a) (rb : Rep X.K F ads H y b) (h : eqJ a b st = some k) :
    (scal x y = true ∧ decide (x = y) = k) ∨ ∃ d e, Dp X.K H x d ∧ Dp X.K H y e ∧ SeqAt.shaped d = true ∧ SeqAt.shaped e = true ∧ PyData.eqv d e = k := by
  unfold eqJ at h
  split at h
  · cases h
    rw [ra.int, rb.int]
    exact .inl ⟨rfl, dec_int⟩
  · cases h
    rw [ra.str, rb.str]
    exact .inl ⟨rfl, dec_str⟩
  · cases h
    rw [ra.bl, rb.bl]
    exact .inl ⟨rfl, dec_bl⟩
  · split at h
    · rename_i d e ha hb
      split at h
      · rename_i hs
        cases h
        obtain ⟨h1, h2⟩ := Bool.and_eq_true_iff.mp hs
        exact .inr ⟨d, e, dataD_rep S 4 ra ha, dataD_rep S 4 rb hb, h1, h2, rfl⟩
      · cases h
    · cases h
theorem oj_eq (hu : X.A.units + 64 < cLine) : OpJ X (compareOp .Eq) oEq := by
  intro F pins s σ H x y v u Q I rx ry ⟨ads, st, a, b, d, st', S, ra, rb, hg, P⟩
  unfold oEq at hg
  split at hg
  · rename_i k hk
    cases hg
    rcases eqJ_at S ra rb hk with ⟨h1, h2⟩ | ⟨d, e, h1, h2, h3, h4, h5⟩
    · exact op_eq pins s σ H x y v u Q I rx ry ⟨h1, by rw [h2]; exact P.here S (.p (.bl _))⟩
    · exact op_eqD hu pins s σ H x y v u Q I rx ry ⟨d, e, h1, h2, h3, h4, by rw [h5]; exact P.here S (.p (.bl _))⟩
  · cases hg
theorem oj_ne (hu : X.A.units + 64 < cLine) : OpJ X (compareOp .NotEq) oNe := by
  intro F pins s σ H x y v u Q I rx ry ⟨ads, st, a, b, d, st', S, ra, rb, hg, P⟩
  unfold oNe at hg
  split at hg
  · rename_i k hk
    cases hg
    rcases eqJ_at S ra rb hk with ⟨h1, h2⟩ | ⟨d, e, h1, h2, h3, h4, h5⟩
    · exact op_ne pins s σ H x y v u Q I rx ry ⟨h1, by rw [h2]; exact P.here S (.p (.bl _))⟩
    · exact op_neD hu pins s σ H x y v u Q I rx ry ⟨d, e, h1, h2, h3, h4, by rw [h5]; exact P.here S (.p (.bl _))⟩
  · cases hg
theorem oj_lt : OpJ X (compareOp .Lt) oLt := by
  intro F pins s σ H x y v u Q I rx ry ⟨ads, st, a, b, d, st', S, ra, rb, hg, P⟩
  unfold oLt at hg
  split at hg
  · cases hg
    exact op_lt pins s σ H x y v u Q I rx ry ⟨_, _, ra.int, rb.int, P.here S (.p (.bl _))⟩
  · cases hg
    exact op_lt_str pins s σ H x y v u Q I rx ry ⟨_, _, ra.str, rb.str, P.here S (.p (.bl _))⟩
  · cases hg
theorem oj_int {op : CmpOp} {p : Int → Int → Bool} (h : OpR X (compareOp op) (rI0 fun i j => .bl (p i j))) : OpJ X (compareOp op) (oInt p) := by
  intro F pins s σ H x y v u Q I rx ry ⟨ads, st, a, b, d, st', S, ra, rb, hg, P⟩
  unfold oInt at hg
  split at hg
  · cases hg
    exact h pins s σ H x y v u Q I rx ry ⟨_, _, ra.int, rb.int, P.here S (.p (.bl _))⟩
  · cases hg
theorem oj_le : OpJ X (compareOp .LtE) (oInt fun i j => decide (i ≤ j)) := oj_int op_le
theorem oj_gt : OpJ X (compareOp .Gt) (oInt fun i j => decide (j < i)) := oj_int op_gt
theorem oj_ge : OpJ X (compareOp .GtE) (oInt fun i j => decide (j ≤ i)) := oj_int op_ge
theorem is_bl {K : PySem.W.Frag} {F : Addr → Prop} {ads : List Addr} {H : Hp} {x : V} {v : Value} {a : D} (k : Bool) (ra : Rep K F ads H x a) (rx : RelV x v) :
    plainIs v (.bool k) = true ∧ (v == Value.bool k) = isBl k a := by
  cases ra with
  | loc e => cases rx; exact ⟨rfl, rfl⟩
  | mix q rs => cases rx; exact ⟨rfl, rfl⟩
  | p r =>
    cases r with
    | non => cases rx; exact ⟨rfl, rfl⟩
    | bl b => cases rx; refine ⟨rfl, ?_⟩; cases b <;> cases k <;> rfl
    | int i => obtain ⟨t, rfl⟩ := rx; exact ⟨rfl, rfl⟩
    | str i => obtain ⟨t, rfl⟩ := rx; exact ⟨rfl, rfl⟩
    | ty n => cases rx; exact ⟨rfl, rfl⟩
    | glo n => cases rx; exact ⟨rfl, rfl⟩
    | tup _ _ => cases rx; exact ⟨rfl, rfl⟩
    | tun _ _ => cases rx; exact ⟨rfl, rfl⟩
    | lst _ _ _ => cases rx; exact ⟨rfl, rfl⟩
    | frz _ _ => cases rx; exact ⟨rfl, rfl⟩
    | dic _ _ _ _ => cases rx; exact ⟨rfl, rfl⟩
    | ins _ _ _ _ => cases rx; exact ⟨rfl, rfl⟩
theorem is_non {K : PySem.W.Frag} {F : Addr → Prop} {ads : List Addr} {H : Hp} {x : V} {a : D} (ra : Rep K F ads H x a) :
    decide (x = .non) = isNon a := by
  cases ra with
  | loc e => rfl
  | mix q rs => rfl
  | p r => cases r <;> rfl
theorem oj_is : OpJ X (compareOp .Is) oIs := by
  intro F pins s σ H x y v u Q I rx ry ⟨ads, st, a, b, d, st', S, ra, rb, hg, P⟩
  unfold oIs at hg
  split at hg
  · cases hg
    exact op_isN pins s σ H x y v u Q I rx ry ⟨rb.non, by rw [is_non ra]; exact P.here S (.p (.bl _))⟩
  · rename_i k
    cases hg
    have ey := rb.bl
    subst ey
    cases (show u = Value.bool k from ry)
    obtain ⟨h1, h2⟩ := is_bl k ra rx
    exact wpAny_is_plain h1 ⟨.bl _, H, I, rfl, by rw [h2]; exact P.here S (.p (.bl _))⟩
  · cases hg
theorem oj_isN : OpJ X (compareOp .IsNot) oIsN := by
  intro F pins s σ H x y v u Q I rx ry ⟨ads, st, a, b, d, st', S, ra, rb, hg, P⟩
  unfold oIsN oIs at hg
  split at hg
  · rename_i k st2 hk
    cases hg
    split at hk
    · cases hk
      exact op_notN pins s σ H x y v u Q I rx ry ⟨rb.non, by rw [is_non ra]; exact P.here S (.p (.bl _))⟩
    · rename_i k
      cases hk
      have ey := rb.bl
      subst ey
      cases (show u = Value.bool k from ry)
      obtain ⟨h1, h2⟩ := is_bl k ra rx
      exact wpAny_isNot_plain h1 ⟨.bl _, H, I, rfl, by rw [h2]; exact P.here S (.p (.bl _))⟩
    · cases hk
  · cases hg
end
end J

set_option Elab.async false
set_option linter.all false
set_option maxRecDepth 100000
set_option maxHeartbeats 4000000
/-! J4: statements, loops, comprehensions, defs. -/
namespace J
open PySem PySem.Spec PyProof.Rows L2
set_option autoImplicit false
theorem app_nil {K : PySem.W.Frag} {F : Addr → Prop} {ads : List Addr} {st : Store} {H : Hp} (S : Sim K F (ads ++ []) st H) : Sim K F ads st H := by rw [List.append_nil] at S; exact S
theorem app_nil' {K : PySem.W.Frag} {F : Addr → Prop} {ads : List Addr} {st : Store} {H : Hp} (S : Sim K F ads st H) : Sim K F (ads ++ []) st H := by rw [List.append_nil]; exact S
/-! ### small statements -/
def sNil : SI := fun env st => some (.nx env, st)
def sSeq (f g : SI) : SI := fun env st => match f env st with
  | some (.nx env1, st1) => g env1 st1
  | r => r
def sExpr (f : EI) : SI := fun env st => match f env st with
  | some (_, st1) => some (.nx env, st1)
  | none => none
def sRet (f : EI) : SI := fun env st => match f env st with
  | some (d, st1) => some (.rt d, st1)
  | none => none
def sRetN : SI := fun env st => some (.rt (.p .non), st)
def sIf (t : BI) (f g : SI) : SI := fun env st => match t env st with
  | some (true, st1) => f env st1
  | some (false, st1) => g env st1
  | none => none
def sBreak : SI := fun env st => some (.bk env, st)
def sCont : SI := fun env st => some (.ct env, st)
def sStuck : SI := fun _ _ => none
/-- what is wanted behind a statement, once it is known how it ends -/
def EndAt (K : PySem.W.Frag) (F : Addr → Prop) (ads : List Addr) (W : Ends) (H : Hp) : Fl → Prop
  | .nx env' => ∀ σ', EnvOk K F ads H σ' env' → W.nx σ' H
  | .bk env' => ∀ σ', EnvOk K F ads H σ' env' → W.bk σ' H
  | .ct env' => ∀ σ', EnvOk K F ads H σ' env' → W.ct σ' H
  | .rt d => ∀ v, Rep K F ads H v d → W.rt v H
def PostS (K : PySem.W.Frag) (F : Addr → Prop) (ads : List Addr) (H : Hp) (W : Ends) (fl : Fl) (st' : Store) : Prop :=
  ∀ new H', Ext ads new H H' → Sim K F (ads ++ new) st' H' → EndAt K F (ads ++ new) W H' fl
theorem TSo.iff {K : PySem.W.Frag} {F : Addr → Prop} {f : SI} {W : Ends} {σ : St} {H : Hp} :
    TSo K F f W σ H ↔ ∃ ads env st fl st', Sim K F ads st H ∧ EnvOk K F ads H σ env ∧ f env st = some (fl, st') ∧ PostS K F ads H W fl st' := by
  constructor
  · rintro ⟨ads, env, st, fl, st', S, E, h, P⟩
    refine ⟨ads, env, st, fl, st', S, E, h, fun new H' e S' => ?_⟩
    have q := P new H' e S'
    cases fl <;> exact q
  · rintro ⟨ads, env, st, fl, st', S, E, h, P⟩
    refine ⟨ads, env, st, fl, st', S, E, h, fun new H' e S' => ?_⟩
    have q := P new H' e S'
    cases fl <;> exact q
theorem PostS.after {K : PySem.W.Frag} {F : Addr → Prop} {ads new : List Addr} {H H1 : Hp} {W : Ends} {fl : Fl} {st' : Store} (e : Ext ads new H H1) (h : PostS K F ads H W fl st') : PostS K F (ads ++ new) H1 W fl st' :=
  fun new2 H' e2 S => by
    have q := h (new ++ new2) H' (e.trans e2) (by rw [← List.append_assoc]; exact S)
    rw [← List.append_assoc] at q
    exact q
theorem PostS.here {K : PySem.W.Frag} {F : Addr → Prop} {ads : List Addr} {H : Hp} {W : Ends} {fl : Fl} {st : Store} (h : PostS K F ads H W fl st) (S : Sim K F ads st H) : EndAt K F ads W H fl := by
  have q := h [] H (Ext.refl _ _) (app_nil' S)
  rw [List.append_nil] at q
  exact q
section
variable {X : Cx} {s : Stmt} {ss : List Stmt} {f g : SI} {fe : EI} {tb : BI} {e c : Expr} {pos : Pos}
theorem js_stuck : JS X s sStuck := fun F => ⟨fun pins s σ H W I h => by obtain ⟨_, _, _, _, _, _, _, h, _⟩ := h; cases h⟩
theorem jss_nil : JSs X [] sNil := fun F => pss_nil.imp fun W σ H h => by
  obtain ⟨ads, env, st, fl, st', S, E, hf, P⟩ := TSo.iff.mp h
  cases hf
  exact P.here S σ E
theorem jss_cons (h1 : JS X s f) (h2 : JSs X ss g) : JSs X (s :: ss) (sSeq f g) := fun F => (pss_cons (h1 F) (h2 F)).imp fun W σ H h => by
  obtain ⟨ads, env, st, fl, st', S, E, hf, P⟩ := TSo.iff.mp h
  unfold sSeq at hf
  refine TSo.iff.mpr ?_
  split at hf
  · rename_i env1 st1 e1
    exact ⟨ads, env, st, _, st1, S, E, e1, fun new H1 e2 S1 σ1 E1 => TSo.iff.mpr ⟨_, env1, st1, fl, st', S1, E1, hf, P.after e2⟩⟩
  · rename_i hn
    refine ⟨ads, env, st, fl, st', S, E, hf, fun new H1 e2 S1 => ?_⟩
    have q := P new H1 e2 S1
    cases fl with
    | nx env1 => exact absurd hf (hn env1 st')
    | rt d => exact q
    | bk env1 => exact q
    | ct env1 => exact q
theorem js_pass : JS X (.Pass pos) sNil := fun F => ps_pass.imp fun W σ H h => by
  obtain ⟨ads, env, st, fl, st', S, E, hf, P⟩ := TSo.iff.mp h
  cases hf
  exact P.here S σ E
theorem js_break : JS X (.Break pos) sBreak := fun F => ps_break.imp fun W σ H h => by
  obtain ⟨ads, env, st, fl, st', S, E, hf, P⟩ := TSo.iff.mp h
  cases hf
  exact P.here S σ E
theorem js_cont : JS X (.Continue pos) sCont := fun F => ps_continue.imp fun W σ H h => by
  obtain ⟨ads, env, st, fl, st', S, E, hf, P⟩ := TSo.iff.mp h
  cases hf
  exact P.here S σ E
theorem js_expr (he : JE X e fe) (hs : swapsWith e none pos.line X.env = pure false) : JS X (.Expr e pos) (sExpr fe) := fun F => (ps_expr (he F) hs).imp fun W σ H h => by
  obtain ⟨ads, env, st, fl, st', S, E, hf, P⟩ := TSo.iff.mp h
  unfold sExpr at hf
  split at hf
  · rename_i d st1 e1
    cases hf
    exact ⟨ads, env, st, d, _, S, E, e1, fun new H1 x e2 S1 r1 => P new H1 e2 S1 σ (E.mono e2)⟩
  · cases hf
theorem js_ret (he : JE X e fe) : JS X (.Return (some e) pos) (sRet fe) := fun F => (ps_ret (he F)).imp fun W σ H h => by
  obtain ⟨ads, env, st, fl, st', S, E, hf, P⟩ := TSo.iff.mp h
  unfold sRet at hf
  split at hf
  · rename_i d st1 e1
    cases hf
    exact ⟨ads, env, st, d, _, S, E, e1, fun new H1 x e2 S1 r1 => P new H1 e2 S1 x r1⟩
  · cases hf
theorem js_retN : JS X (.Return none pos) sRetN := fun F => ps_retN.imp fun W σ H h => by
  obtain ⟨ads, env, st, fl, st', S, E, hf, P⟩ := TSo.iff.mp h
  cases hf
  exact P.here S .non (.p .non)
theorem js_if {a b : List Stmt} (hc : JT X c tb) (ha : JSs X a f) (hb : JSs X b g) : JS X (.If c a b pos) (sIf tb f g) := fun F => (ps_if (hc F) (ha F) (hb F)).imp fun W σ H h => by
  obtain ⟨ads, env, st, fl, st', S, E, hf, P⟩ := TSo.iff.mp h
  unfold sIf at hf
  split at hf
  · rename_i st1 e1
    exact ⟨ads, env, st, true, st1, S, E, e1, fun new H1 e2 S1 => by dsimp only; rw [if_pos rfl]; exact TSo.iff.mpr ⟨_, env, st1, fl, st', S1, E.mono e2, hf, P.after e2⟩⟩
  · rename_i st1 e1
    exact ⟨ads, env, st, false, st1, S, E, e1, fun new H1 e2 S1 => by dsimp only; rw [if_neg Bool.false_ne_true]; exact TSo.iff.mpr ⟨_, env, st1, fl, st', S1, E.mono e2, hf, P.after e2⟩⟩
  · cases hf
end
/-! ### targets -/
abbrev GI := D → Env → Store → Option (Env × Store)
abbrev GIs := List D → Env → Store → Option (Env × Store)
def PostG (K : PySem.W.Frag) (F : Addr → Prop) (ads : List Addr) (H : Hp) (Q : St → Hp → Prop) (env' : Env) (st' : Store) : Prop :=
  ∀ new H' σ', Ext ads new H H' → Sim K F (ads ++ new) st' H' → EnvOk K F (ads ++ new) H' σ' env' → Q σ' H'
def TGo (K : PySem.W.Frag) (F : Addr → Prop) (g : GI) : TG := fun v σ H Q => ∃ ads env st d env' st', Sim K F ads st H ∧ EnvOk K F ads H σ env ∧ Rep K F ads H v d ∧ g d env st = some (env', st') ∧ PostG K F ads H Q env' st'
def TGso (K : PySem.W.Frag) (F : Addr → Prop) (g : GIs) : TGs := fun vs σ H Q => ∃ ads env st ds env' st', Sim K F ads st H ∧ EnvOk K F ads H σ env ∧ Reps K F ads H vs ds ∧ g ds env st = some (env', st') ∧ PostG K F ads H Q env' st'
def JG (X : Cx) (t : Expr) (g : GI) : Prop := ∀ F, PG X t (TGo X.K F g)
def JGs (X : Cx) (t : List Expr) (g : GIs) : Prop := ∀ F, PGs X t (TGso X.K F g)
theorem _root_.L2.PG.imp {X : Cx} {e : Expr} {t t' : TG} (h : PG X e t) (q : ∀ v σ H Q, t' v σ H Q → t v σ H Q) : PG X e t' := ⟨fun pins s σ H v u Q I r w => h.run pins s σ H v u Q I r (q v σ H Q w)⟩
theorem _root_.L2.PGs.imp {X : Cx} {e : List Expr} {t t' : TGs} (h : PGs X e t) (q : ∀ v σ H Q, t' v σ H Q → t v σ H Q) : PGs X e t' := ⟨fun pins s σ H v u Q I r w => h.run pins s σ H v u Q I r (q v σ H Q w)⟩
theorem PostG.after {K : PySem.W.Frag} {F : Addr → Prop} {ads new : List Addr} {H H1 : Hp} {Q : St → Hp → Prop} {env' : Env} {st' : Store} (e : Ext ads new H H1) (h : PostG K F ads H Q env' st') : PostG K F (ads ++ new) H1 Q env' st' :=
  fun new2 H' σ' e2 S E => h (new ++ new2) H' σ' (e.trans e2) (by rw [← List.append_assoc]; exact S) (by rw [← List.append_assoc]; exact E)
theorem PostG.here {K : PySem.W.Frag} {F : Addr → Prop} {ads : List Addr} {H : Hp} {Q : St → Hp → Prop} {env' : Env} {st : Store} {σ' : St} (h : PostG K F ads H Q env' st) (S : Sim K F ads st H) (E : EnvOk K F ads H σ' env') : Q σ' H :=
  h [] H σ' (Ext.refl _ _) (app_nil' S) (by rw [List.append_nil]; exact E)
def gName (i : Nat) : GI := fun d env st => some (env.set i (some d), st)
def gNil : GIs := fun ds env st => match ds with
  | [] => some (env, st)
  | _ => none
def gCons (g : GI) (gs : GIs) : GIs := fun ds env st => match ds with
  | d :: r => (match g d env st with
    | some (env1, st1) => gs r env1 st1
    | none => none)
  | [] => none
/-- a, b, .. = a tuple or a list of n items -/
def gTup (n : Nat) (gs : GIs) : GI := fun d env st => match tupOf d with
  | some ds => if ds.length = n then gs ds env st else none
  | none => match lstOf d st with
    | some ds => if ds.length = n then gs ds env st else none
    | none => none
section
variable {X : Cx} {t : Expr} {ts : List Expr} {g : GI} {gs : GIs} {fe : EI} {e : Expr} {pos : Pos}
theorem jg_name {i : Nat} {x : Str} (hN : X.N.Nodup) (hi : X.N[i]? = some x) (hx : Loc X.env.scope x) (hf : X.fn x = true ∨ X.env.scope.names.lookup x = some .local) : JG X (.Name x pos) (gName i) := fun F =>
  (pg_name hN hi hx hf).imp fun v σ H Q h => by
    obtain ⟨ads, env, st, d, env', st', S, E, r, hg, P⟩ := h
    cases hg
    exact P.here S (E.set i r)
theorem jgs_nil : JGs X [] gNil := fun F => pgs_nil.imp fun v σ H Q h => by
  obtain ⟨ads, env, st, d, env', st', S, E, r, hg, P⟩ := h
  unfold gNil at hg
  split at hg
  · cases hg
    cases r
    exact ⟨rfl, P.here S E⟩
  · cases hg
theorem jgs_cons (h1 : JG X t g) (h2 : JGs X ts gs) (hs : (assignEach (t :: ts) X.env).map (·.2) = assign t X.env :: (assignEach ts X.env).map (·.2)) : JGs X (t :: ts) (gCons g gs) := fun F =>
  (pgs_cons (h1 F) (h2 F) hs).imp fun v σ H Q h => by
    obtain ⟨ads, env, st, ds, env', st', S, E, r, hg, P⟩ := h
    unfold gCons at hg
    cases r with
    | nil => cases hg
    | cons r rr =>
      dsimp only at hg
      split at hg
      · rename_i env1 st1 e1
        refine ⟨_, _, rfl, ads, env, st, _, env1, st1, S, E, r, e1, fun new H1 σ1 e2 S1 E1 => ?_⟩
        exact ⟨_, env1, st1, _, env', st', S1, E1, rr.mono e2, hg, P.after e2⟩
      · cases hg
theorem jg_tup {n k : Nat} (hc : X.calm = true) (h : JGs X ts gs) (hn : (assignEach ts X.env).length = n) (hst : (assignEach ts X.env).findIdx? (·.1) = none) : JG X (.Tuple ts k pos) (gTup n gs) := fun F =>
  ⟨fun pins s σ H v u Q I r w => by
    obtain ⟨ads, env, st, d, env', st', S, E, rd, hg, P⟩ := w
    unfold gTup at hg
    split at hg
    · rename_i ds e1
      split at hg
      · rename_i hl
        obtain ⟨a, vs, rfl, q, rs⟩ := tupOf_rep rd e1
        exact (pg_tup hc (h F) hn hst).run pins s σ H _ u Q I r ⟨a, vs, rfl, q, by rw [rs.length]; exact hl, ads, env, st, ds, env', st', S, E, rs, hg, P⟩
      · cases hg
    · split at hg
      · rename_i ds e1
        split at hg
        · rename_i hl
          obtain ⟨a, vs, rfl, q, rs⟩ := lstOf_rep S rd e1
          exact (pg_unl hc (h F) hn hst).run pins s σ H _ u Q I r ⟨a, vs, rfl, .of q, by rw [rs.length]; exact hl, ads, env, st, ds, env', st', S, E, rs, hg, P⟩
        · cases hg
      · cases hg⟩
def sAsg (fe : EI) (g : GI) : SI := fun env st => match fe env st with
  | some (d, st1) => (match g d env st1 with
    | some (env2, st2) => some (.nx env2, st2)
    | none => none)
  | none => none
theorem sAsg_to {K : PySem.W.Frag} {F : Addr → Prop} {W : Ends} {σ : St} {H : Hp} (h : TSo K F (sAsg fe g) W σ H) : tAsg (TEo K F fe) (TGo K F g) W σ H := by
  obtain ⟨ads, env, st, fl, st', S, E, hf, P⟩ := TSo.iff.mp h
  unfold sAsg at hf
  split at hf
  · rename_i d st1 e1
    split at hf
    · rename_i env2 st2 e2
      cases hf
      refine ⟨ads, env, st, d, st1, S, E, e1, fun new H1 x ex S1 r1 => ?_⟩
      exact ⟨_, env, st1, d, env2, _, S1, E.mono ex, r1, e2, fun new2 H2 σ2 ex2 S2 E2 => (P.after ex) new2 H2 ex2 S2 σ2 E2⟩
    · cases hf
  · cases hf
theorem js_asg (he : JE X e fe) (hg : JG X t g) (hs : swapsWithSole [t] e pos.line X.env = pure false) (hw : swappedStores [t] e X.env = pure none) (h1 : (assignEach [t] X.env).map (·.2) = [assign t X.env]) : JS X (.Assign [t] e pos) (sAsg fe g) := fun F =>
  (ps_asg (he F) (hg F) hs hw h1).imp fun W σ H h => sAsg_to h
theorem sSet_to {K : PySem.W.Frag} {F : Addr → Prop} {i : Nat} {W : Ends} {σ : St} {H : Hp} (h : TSo K F (sAsg fe (gName i)) W σ H) : tAsg (TEo K F fe) (L2.gName i) W σ H := by
  obtain ⟨ads, env, st, fl, st', S, E, hf, P⟩ := TSo.iff.mp h
  unfold sAsg at hf
  split at hf
  · rename_i d st1 e1
    cases hf
    exact ⟨ads, env, st, d, _, S, E, e1, fun new H1 x ex S1 r1 => (P.after ex).here S1 _ ((E.mono ex).set i r1)⟩
  · cases hf
theorem js_set {i : Nat} {x : Str} {pos' : Pos} (hN : X.N.Nodup) (hi : X.N[i]? = some x) (hx : Loc X.env.scope x) (he : JE X e fe) (hs : swapsWith e (some (.Name x pos')) pos.line X.env = pure false) (hf : X.fn x = true ∨ X.env.scope.names.lookup x = some .local) :
    JS X (.Assign [.Name x pos'] e pos) (sAsg fe (gName i)) := fun F => (ps_set hN hi hx (he F) hs hf).imp fun W σ H h => sSet_to h
/-- a, b = x, y -/
def sPar (i j : Nat) (fa : AI) : SI := fun env st => match fa env st with
  | some ([d, d2], st1) => some (.nx ((env.set i (some d)).set j (some d2)), st1)
  | _ => none
theorem js_par {i j : Nat} {x y : Str} {a b : Expr} {fa : AI} {px py pt : Pos} {kt k2 : Nat} {pt2 : Pos} (hc : X.calm = true) (hN : X.N.Nodup) (hi : X.N[i]? = some x) (hj : X.N[j]? = some y) (hij : i ≠ j)
    (hx : X.env.scope.names.lookup x = some .local) (hy : X.env.scope.names.lookup y = some .local) (ha : JA X [a, b] fa)
    (hw : swappedStores [.Tuple [.Name x px, .Name y py] kt pt] (.Tuple [a, b] k2 pt2) X.env = pure (some [x, y]))
    (hs : swapsWithSole [.Tuple [.Name x px, .Name y py] kt pt] (.Tuple [a, b] k2 pt2) pos.line X.env = pure false) :
    JS X (.Assign [.Tuple [.Name x px, .Name y py] kt pt] (.Tuple [a, b] k2 pt2) pos) (sPar i j fa) := fun F => (ps_par hc hN hi hj hij hx hy (ha F) hw hs).imp fun W σ H h => by
  obtain ⟨ads, env, st, fl, st', S, E, hf, P⟩ := TSo.iff.mp h
  unfold sPar at hf
  split at hf
  · rename_i d d2 st1 e1
    cases hf
    refine ⟨ads, env, st, _, _, S, E, e1, fun new H1 vs ex S1 r1 => ?_⟩
    cases r1 with
    | cons r1 rr =>
      cases rr with
      | cons r2 rr =>
        cases rr
        exact ⟨_, _, rfl, (P.after ex).here S1 _ (((E.mono ex).set i r1).set j r2)⟩
  · cases hf
/-- x op= e -/
def sAug (i : Nat) (g : Op2) (fe : EI) : SI := fun env st => match env[i]? with
  | some (some a) => (match fe env st with
    | some (b, st1) => (match g a b st1 with
      | some (d, st2) => some (.nx (env.set i (some d)), st2)
      | none => none)
    | none => none)
  | _ => none
theorem js_aug {i : Nat} {x : Str} {op : Operator} {g : Op2} {pos' : Pos} (hN : X.N.Nodup) (hi : X.N[i]? = some x) (hx : Loc X.env.scope x) (he : JE X e fe) (ho : OpJ X (inplaceOp op) g) (hf : X.fn x = true ∨ X.env.scope.names.lookup x = some .local) :
    JS X (.AugAssign (.Name x pos') op e pos) (sAug i g fe) := fun F => (ps_aug (ti := rJ2 X.K F g) hN hi hx (he F) (ho F) hf).imp fun W σ H h => by
  obtain ⟨ads, env, st, fl, st', S, E, hf, P⟩ := TSo.iff.mp h
  unfold sAug at hf
  split at hf
  · rename_i a ea
    split at hf
    · rename_i b st1 eb
      split at hf
      · rename_i d st2 ed
        cases hf
        obtain ⟨v, h1, ra⟩ := E.at_ i a ea
        refine ⟨v, h1, ads, env, st, b, st1, S, E, eb, fun new H1 y ex S1 rb => ?_⟩
        refine ⟨_, st1, a, b, d, _, S1, ra.mono ex, rb, ed, fun new2 H2 z ex2 S2 rz => ?_⟩
        exact ((P.after ex).after ex2).here S2 _ (((E.mono ex).mono ex2).set i rz)
      · cases hf
    · cases hf
  · cases hf
end
/-! ### while -/
def whileI (t : BI) (body : SI) : Nat → SI
  | 0 => fun _ _ => none
  | n + 1 => fun env st => match t env st with
    | some (true, st1) => (match body env st1 with
      | some (.nx env2, st2) => whileI t body n env2 st2
      | some (.ct env2, st2) => whileI t body n env2 st2
      | some (.bk env2, st2) => some (.nx env2, st2)
      | some (.rt d, st2) => some (.rt d, st2)
      | none => none)
    | some (false, st1) => some (.nx env, st1)
    | none => none
def sWhile (t : BI) (body : SI) : SI := whileI t body 1000000
/-- where a loop stands: what is left gives the end that is wanted -/
def LoopAt (K : PySem.W.Frag) (F : Addr → Prop) (W : Ends) (f : SI) (σ : St) (H : Hp) : Prop := ∃ ads env st fl st', Sim K F ads st H ∧ EnvOk K F ads H σ env ∧ f env st = some (fl, st') ∧ PostS K F ads H W fl st' ∧ (∀ e, fl ≠ .bk e) ∧ ∀ e, fl ≠ .ct e
theorem whileI_ends {t : BI} {body : SI} : ∀ (n : Nat) {env : Env} {st st' : Store} {fl : Fl}, whileI t body n env st = some (fl, st') → (∀ e, fl ≠ .bk e) ∧ ∀ e, fl ≠ .ct e
  | 0, _, _, _, _, h => by cases h
  | n + 1, env, st, st', fl, h => by
    unfold whileI at h
    split at h
    · split at h
      · exact whileI_ends n h
      · exact whileI_ends n h
      · cases h; exact ⟨fun _ z => (nomatch z), fun _ z => (nomatch z)⟩
      · cases h; exact ⟨fun _ z => (nomatch z), fun _ z => (nomatch z)⟩
      · cases h
    · cases h; exact ⟨fun _ z => (nomatch z), fun _ z => (nomatch z)⟩
    · cases h
section
variable {X : Cx} {e c : Expr} {ss : List Stmt} {tb : BI} {f : SI} {pos : Pos}
theorem js_while (hp : PassesOwn (model X.prog X.w) X.A X.env X.xe) (hc : JT X c tb) (hb : JSs X ss f) : JS X (.While c ss [] pos) (sWhile tb f) := fun F => (ps_while hp (hc F) (hb F)).imp fun W σ H h => by
  obtain ⟨ads, env, st, fl, st', S, E, hf, P⟩ := TSo.iff.mp h
  refine ⟨fun n σ H => LoopAt X.K F W (whileI tb f n) σ H, ⟨1000000, ads, env, st, fl, st', S, E, hf, P, whileI_ends _ hf⟩, ?_⟩
  rintro n σ H ⟨ads, env, st, fl, st', S, E, hf, P, hends⟩
  cases n with
  | zero => cases hf
  | succ n =>
    unfold whileI at hf
    split at hf
    · rename_i st1 e1
      refine ⟨ads, env, st, true, st1, S, E, e1, fun new H1 ex S1 => ?_⟩
      dsimp only
      rw [if_pos rfl]
      refine ⟨fun σ' H' => LoopAt X.K F W (whileI tb f n) σ' H', fun σ' H' q => ⟨n, Nat.lt_succ_self n, q⟩, ?_⟩
      refine TSo.iff.mpr ?_
      split at hf
      · rename_i env2 st2 e2
        exact ⟨_, env, st1, _, st2, S1, E.mono ex, e2, fun new2 H2 ex2 S2 σ2 E2 => ⟨_, env2, st2, fl, st', S2, E2, hf, (P.after ex).after ex2, whileI_ends _ hf⟩⟩
      · rename_i env2 st2 e2
        exact ⟨_, env, st1, _, st2, S1, E.mono ex, e2, fun new2 H2 ex2 S2 σ2 E2 => ⟨_, env2, st2, fl, st', S2, E2, hf, (P.after ex).after ex2, whileI_ends _ hf⟩⟩
      · rename_i env2 st2 e2
        cases hf
        exact ⟨_, env, st1, _, _, S1, E.mono ex, e2, fun new2 H2 ex2 S2 σ2 E2 => ((P.after ex).after ex2).here S2 σ2 E2⟩
      · rename_i d st2 e2
        cases hf
        exact ⟨_, env, st1, _, _, S1, E.mono ex, e2, fun new2 H2 ex2 S2 v r => ((P.after ex).after ex2).here S2 v r⟩
      · cases hf
    · rename_i st1 e1
      cases hf
      refine ⟨ads, env, st, false, _, S, E, e1, fun new H1 ex S1 => ?_⟩
      dsimp only
      rw [if_neg Bool.false_ne_true]
      exact P new H1 ex S1 σ (E.mono ex)
    · cases hf
end
end J

set_option Elab.async false
set_option linter.all false
set_option maxRecDepth 100000
set_option maxHeartbeats 4000000
/-! J5: what loops walk, for, comprehensions. -/
namespace J
open PySem PySem.Spec PyProof.Rows L2
set_option autoImplicit false
/-- what is walked: items that stand, or a list of the store as it is at each turn -/
inductive Wk where
  | items (ds : List D) | cell (i : Nat) | zip (a b : Wk) | enum (a : Wk)
def stepW : Wk → Nat → Store → Option (Option D)
  | .items ds, k, _ => some ds[k]?
  | .cell i, k, st => (match st[i]? with
    | some (.lst xs) => some xs[k]?
    | _ => none)
  | .zip a b, k, st => (match stepW a k st, stepW b k st with
    | some (some x), some (some y) => some (some (mkTup [x, y]))
    | some (some _), some none => some none
    | some none, some _ => some none
    | _, _ => none)
  | .enum a, k, st => (match stepW a k st with
    | some (some x) => some (some (mkTup [.p (.int (k : Nat)), x]))
    | some none => some none
    | none => none)
def roomW : Wk → Store → Nat
  | .items ds, _ => ds.length + 1
  | .cell i, st => (match st[i]? with
    | some (.lst xs) => xs.length + 1
    | _ => 0)
  | .zip a _, st => roomW a st
  | .enum a, st => roomW a st
/-- the iterator does so, from (ads, H) on -/
def WOk (K : PySem.W.Frag) (F : Addr → Prop) (ads : List Addr) (H : Hp) (I : It) (w : Wk) : Prop :=
  ∀ new H1 st1, Ext ads new H H1 → Sim K F (ads ++ new) st1 H1 → ∀ k, match stepW w k st1 with
    | some (some d) => I.go k H1 ∧ ∀ x H2, I.yld k H1 x H2 → Ext (ads ++ new) [] H1 H2 ∧ Sim K F (ads ++ new) st1 H2 ∧ Rep K F (ads ++ new) H2 x d
    | some none => I.stop k H1
    | none => True
theorem WOk.after {K : PySem.W.Frag} {F : Addr → Prop} {ads new : List Addr} {H H1 : Hp} {I : It} {w : Wk} (e : Ext ads new H H1) (h : WOk K F ads H I w) : WOk K F (ads ++ new) H1 I w :=
  fun new2 H2 st2 e2 S2 k => by
    have q := h (new ++ new2) H2 st2 (e.trans e2) (by rw [← List.append_assoc]; exact S2) k
    rw [← List.append_assoc] at q
    exact q
abbrev WI := Env → Store → Option (Wk × Store)
def TIo (K : PySem.W.Frag) (F : Addr → Prop) (f : WI) : TI := fun σ H R => ∃ ads env st w st', Sim K F ads st H ∧ EnvOk K F ads H σ env ∧ f env st = some (w, st') ∧
  ∀ new H' I, Ext ads new H H' → Sim K F (ads ++ new) st' H' → WOk K F (ads ++ new) H' I w → R I H'
def JI (X : Cx) (tg e : Expr) (f : WI) : Prop := ∀ F, PI X tg e (TIo X.K F f)
theorem sim_same {K : PySem.W.Frag} {F : Addr → Prop} {ads : List Addr} {H : Hp} {st : Store} (S : Sim K F ads st H) : Ext ads [] H H ∧ Sim K F ads st H := ⟨Ext.refl _ _, S⟩
section
variable {K : PySem.W.Frag} {F : Addr → Prop} {ads : List Addr} {H : Hp} {st : Store}
theorem reps_ix {vs : List V} {ds : List D} (r : Reps K F ads H vs ds) (k : Nat) : match ds[k]? with
    | some d => ∃ v, vs[k]? = some v ∧ Rep K F ads H v d
    | none => vs.length ≤ k := by
  cases e : ds[k]? with
  | none =>
    have := List.getElem?_eq_none_iff.mp e
    rw [← r.length] at this
    exact this
  | some d => exact r.get e
theorem wok_tup {a : Addr} {vs : List V} {ds : List D} (q : SqT K H a vs) (r : Reps K F ads H vs ds) : WOk K F ads H (Itt K a) (.items ds) := fun new H1 st1 e S1 k => by
  have q1 := e.sqT q
  have r1 := reps_ix (r.mono e) k
  show (match some ds[k]? with | some (some d) => _ | some none => _ | none => _)
  cases e2 : ds[k]? with
  | none => rw [e2] at r1; exact ⟨vs, q1, r1⟩
  | some d =>
    rw [e2] at r1
    obtain ⟨v, h1, h2⟩ := r1
    refine ⟨⟨vs, v, q1, h1⟩, fun x H2 ⟨hh, hx⟩ => ?_⟩
    subst hh
    have ex := (hx vs q1).symm.trans h1
    cases ex
    exact ⟨Ext.refl _ _, S1, h2⟩
/-- a list that no store holds -/
theorem wok_lst {a : Addr} {vs : List V} {ds : List D} (q : ∀ new H1, Ext ads new H H1 → SqL K H1 a vs) (r : Reps K F ads H vs ds) : WOk K F ads H (Itl K a) (.items ds) := fun new H1 st1 e S1 k => by
  have q1 := q new H1 e
  have r1 := reps_ix (r.mono e) k
  show (match some ds[k]? with | some (some d) => _ | some none => _ | none => _)
  cases e2 : ds[k]? with
  | none => rw [e2] at r1; exact ⟨vs, q1, r1⟩
  | some d =>
    rw [e2] at r1
    obtain ⟨v, h1, h2⟩ := r1
    refine ⟨⟨vs, v, q1, h1⟩, fun x H2 ⟨hh, hx⟩ => ?_⟩
    subst hh
    have ex := (hx vs q1).symm.trans h1
    cases ex
    exact ⟨Ext.refl _ _, S1, h2⟩
theorem wok_cell {a : Addr} {i : Nat} (ha : ads[i]? = some a) : WOk K F ads H (Itl K a) (.cell i) := fun new H1 st1 e S1 k => by
  have ha1 : (ads ++ new)[i]? = some a := by rw [List.getElem?_append_left (List.getElem?_eq_some_iff.mp ha).1]; exact ha
  show (match (match st1[i]? with | some (.lst xs) => some xs[k]? | _ => none) with | some (some d) => _ | some none => _ | none => _)
  cases e1 : st1[i]? with
  | none => trivial
  | some c =>
    cases c with
    | dic _ _ => trivial
    | ins _ _ _ => trivial
    | lst ds =>
      obtain ⟨vs, q1, r⟩ := S1.cell i _ a e1 ha1
      have r1 := reps_ix r k
      show (match some ds[k]? with | some (some d) => _ | some none => _ | none => _)
      cases e2 : ds[k]? with
      | none => rw [e2] at r1; exact ⟨vs, .of q1, r1⟩
      | some d =>
        rw [e2] at r1
        obtain ⟨v, h1, h2⟩ := r1
        refine ⟨⟨vs, v, .of q1, h1⟩, fun x H2 ⟨hh, hx⟩ => ?_⟩
        subst hh
        have ex := (hx vs (.of q1)).symm.trans h1
        cases ex
        exact ⟨Ext.refl _ _, S1, h2⟩
end
/-! ### sources -/
def signsD (x : Str) : List D := x.cps.toList.map fun c => .p (.str ⟨#[c]⟩)
def walkD (d : D) (st : Store) : Option Wk := match d with
  | .p (.str x) => some (.items (signsD x))
  | .p (.tup xs) => some (.items (xs.map D.p))
  | .p (.tun xs) => some (.items (xs.map D.p))
  | .mix xs => some (.items xs)
  | .p (.lst xs) => some (.items (xs.map D.p))
  | .p (.frz xs) => some (.items (xs.map D.p))
  | .loc i => (match st[i]? with
    | some (.lst _) => some (.cell i)
    | _ => none)
  | _ => none
def wAny (f : EI) : WI := fun env st => match f env st with
  | some (d, st1) => (match walkD d st1 with
    | some w => some (w, st1)
    | none => none)
  | none => none
def rangeD (lo : Int) (n : Nat) : List D := (List.range n).map fun k => .p (.int (lo + (k : Nat)))
def small62 (i : Int) : Bool := decide (-4611686018427387904 ≤ i) && decide (i < 4611686018427387904)
def wRng1 (f : AI) : WI := fun env st => match f env st with
  | some ([.p (.int j)], st1) => if small62 j = true then some (.items (rangeD 0 j.toNat), st1) else none
  | _ => none
def wRng2 (f : AI) : WI := fun env st => match f env st with
  | some ([.p (.int i), .p (.int j)], st1) => if small62 i = true ∧ small62 j = true then some (.items (rangeD i (j - i).toNat), st1) else none
  | _ => none
theorem small62_of {i : Int} (h : small62 i = true) : -(2 ^ 62) ≤ i ∧ i < 2 ^ 62 := by
  unfold small62 at h
  simp only [Bool.and_eq_true, decide_eq_true_eq] at h
  exact ⟨by omega, by omega⟩
section
variable {X : Cx} {tg e a b : Expr} {fe : EI} {fa : AI} {p pos : Pos}
theorem ji_any (he : JE X e fe) : JI X tg e (wAny fe) := fun F => ⟨fun pins s σ H R I h => by
  obtain ⟨ads, env, st, w, st', S, E, hf, P⟩ := h
  unfold wAny at hf
  split at hf
  · rename_i d st1 e1
    split at hf
    · rename_i w1 e2
      cases hf
      have tup : ∀ ds : List D, tupOf d = some ds → (∀ new H' I, Ext ads new H H' → Sim X.K F (ads ++ new) st' H' → WOk X.K F (ads ++ new) H' I (.items ds) → R I H') → L2.iTup X.K (TEo X.K F fe) σ H R := fun ds ht P => ⟨ads, env, st, d, st', S, E, e1, fun new H1 x ex S1 r1 => by
        obtain ⟨q, vs, rfl, hq, rs⟩ := tupOf_rep r1 ht
        exact ⟨q, rfl, ⟨vs, hq⟩, P new H1 _ ex S1 (wok_tup hq rs)⟩⟩
      unfold walkD at e2
      split at e2
      · rename_i x
        cases e2
        refine (pi_str (he F)).run pins s σ H R I ⟨ads, env, st, _, st', S, E, e1, fun new H1 v ex S1 r1 => ⟨x, r1.str, P new H1 _ ex S1 fun new2 H2 st2 ex2 S2 k => ?_⟩⟩
        show (match some (signsD x)[k]? with | some (some d) => _ | some none => _ | none => _)
        unfold signsD
        rw [List.getElem?_map, Array.getElem?_toList]
        cases e3 : x.cps[k]? with
        | none => exact Array.getElem?_eq_none_iff.mp e3
        | some c =>
          refine ⟨(Array.getElem?_eq_some_iff.mp e3).1, fun v2 H3 ⟨hh, c2, h1, h2⟩ => ?_⟩
          subst hh h2
          rw [e3] at h1
          cases h1
          exact ⟨Ext.refl _ _, S2, .p (.str _)⟩
      · cases e2; exact (pi_tup (tg := tg) (he F)).run pins s σ H R I (tup _ rfl P)
      · cases e2; exact (pi_tup (tg := tg) (he F)).run pins s σ H R I (tup _ rfl P)
      · cases e2; exact (pi_tup (tg := tg) (he F)).run pins s σ H R I (tup _ rfl P)
      · rename_i xs
        cases e2
        refine (pi_list (he F)).run pins s σ H R I ⟨ads, env, st, _, st', S, E, e1, fun new H1 v ex S1 r1 => ?_⟩
        cases r1 with
        | p r1 =>
          cases r1 with
          | lst q hb rs =>
            refine ⟨_, rfl, ⟨_, .of q⟩, P new H1 _ ex S1 (wok_lst (fun new2 H2 ex2 => .of (ex2.keep _ _ q fun hm => hb (.inr hm))) rs.ofP)⟩
      · rename_i xs
        cases e2
        refine (pi_list (he F)).run pins s σ H R I ⟨ads, env, st, _, st', S, E, e1, fun new H1 v ex S1 r1 => ?_⟩
        cases r1 with
        | p r1 =>
          cases r1 with
          | frz q rs =>
            have at_ : ∀ new2 H2, Ext (ads ++ new) new2 H1 H2 → SqL X.K H2 _ _ := fun new2 H2 ex2 => q.elim (fun ⟨o, q⟩ => .inl (.inr ⟨o, ex2.frz _ _ _ q⟩)) .inr
            exact ⟨_, rfl, ⟨_, at_ [] H1 (Ext.refl _ _)⟩, P new H1 _ ex S1 (wok_lst at_ rs.ofP)⟩
      · rename_i i
        split at e2
        · rename_i ys e3
          cases e2
          refine (pi_list (he F)).run pins s σ H R I ⟨ads, env, st, _, st', S, E, e1, fun new H1 v ex S1 r1 => ?_⟩
          cases r1 with
          | loc ha =>
            obtain ⟨vs, q, rs⟩ := S1.cell i _ _ e3 ha
            exact ⟨_, rfl, ⟨vs, .of q⟩, P new H1 _ ex S1 (wok_cell ha)⟩
        · cases e2
      · cases e2
    · cases hf
  · cases hf⟩
theorem wok_rng {K : PySem.W.Frag} {F : Addr → Prop} {ads : List Addr} {H : Hp} {lo : Int} {n : Nat} : WOk K F ads H (Itr lo n) (.items (rangeD lo n)) := fun new H1 st1 e S1 k => by
  show (match some (rangeD lo n)[k]? with | some (some d) => _ | some none => _ | none => _)
  unfold rangeD
  rw [List.getElem?_map]
  by_cases hk : k < n
  · rw [List.getElem?_range hk]
    refine ⟨hk, fun x H2 ⟨hh, hx⟩ => ?_⟩
    subst hh hx
    exact ⟨Ext.refl _ _, S1, .p (.int _)⟩
  · rw [List.getElem?_eq_none (by rw [List.length_range]; omega)]
    exact Nat.le_of_not_lt hk
theorem ji_rng1 (hg : Gl X "range") (hm : X.mg "range" = none) (ha : JA X [a] fa) (hs : starEach [a] X.env = [(false, eval a X.env)]) : JI X tg (.Call (.Name "range" p) [a] [] pos) (wRng1 fa) := fun F => ⟨fun pins s σ H R I h => by
  obtain ⟨ads, env, st, w, st', S, E, hf, P⟩ := h
  unfold wRng1 at hf
  split at hf
  · rename_i j st1 e1
    split at hf
    · rename_i hj
      cases hf
      refine (pi_range1 hg hm (ha F) hs).run pins s σ H R I ⟨ads, env, st, _, st', S, E, e1, fun new H1 vs ex S1 r1 => ?_⟩
      cases r1 with
      | cons r1 rr =>
        cases rr
        obtain ⟨h1, h2⟩ := small62_of hj
        exact ⟨j, by rw [r1.int], h1, h2, P new H1 _ ex S1 wok_rng⟩
    · cases hf
  · cases hf⟩
theorem ji_rng2 (hg : Gl X "range") (hm : X.mg "range" = none) (ha : JA X [a, b] fa) (hs : starEach [a, b] X.env = [(false, eval a X.env), (false, eval b X.env)]) (hs2 : starEach [b] X.env = [(false, eval b X.env)]) : JI X tg (.Call (.Name "range" p) [a, b] [] pos) (wRng2 fa) := fun F => ⟨fun pins s σ H R I h => by
  obtain ⟨ads, env, st, w, st', S, E, hf, P⟩ := h
  unfold wRng2 at hf
  split at hf
  · rename_i i j st1 e1
    split at hf
    · rename_i hj
      cases hf
      refine (pi_range2 hg hm (ha F) hs hs2).run pins s σ H R I ⟨ads, env, st, _, st', S, E, e1, fun new H1 vs ex S1 r1 => ?_⟩
      cases r1 with
      | cons r1 rr =>
        cases rr with
        | cons r2 rr =>
          cases rr
          obtain ⟨h1, h2⟩ := small62_of hj.1
          obtain ⟨h3, h4⟩ := small62_of hj.2
          exact ⟨i, j, by rw [r1.int, r2.int], ⟨h1, h2, h3, h4⟩, P new H1 _ ex S1 wok_rng⟩
    · cases hf
  · cases hf⟩
end
/-! ### for -/
def forI (body : D → SI) (w : Wk) : Nat → Nat → SI
  | 0, _ => fun _ _ => none
  | n + 1, k => fun env st => match stepW w k st with
    | some (some d) => (match body d env st with
      | some (.nx env2, st2) => forI body w n (k + 1) env2 st2
      | some (.ct env2, st2) => forI body w n (k + 1) env2 st2
      | some (.bk env2, st2) => some (.nx env2, st2)
      | some (.rt d, st2) => some (.rt d, st2)
      | none => none)
    | some none => some (.nx env, st)
    | none => none
def turnI (g : GI) (body : SI) : D → SI := fun d env st => match g d env st with
  | some (env1, st1) => body env1 st1
  | none => none
def sFor (f : WI) (g : GI) (body : SI) : SI := fun env st => match f env st with
  | some (w, st1) => forI (turnI g body) w (roomW w st1) 0 env st1
  | none => none
theorem forI_ends {body : D → SI} {w : Wk} : ∀ (n k : Nat) {env : Env} {st st' : Store} {fl : Fl}, forI body w n k env st = some (fl, st') → (∀ e, fl ≠ .bk e) ∧ ∀ e, fl ≠ .ct e
  | 0, _, _, _, _, _, h => by cases h
  | n + 1, k, env, st, st', fl, h => by
    unfold forI at h
    split at h
    · split at h
      · exact forI_ends n (k + 1) h
      · exact forI_ends n (k + 1) h
      · cases h; exact ⟨fun _ z => (nomatch z), fun _ z => (nomatch z)⟩
      · cases h; exact ⟨fun _ z => (nomatch z), fun _ z => (nomatch z)⟩
      · cases h
    · cases h; exact ⟨fun _ z => (nomatch z), fun _ z => (nomatch z)⟩
    · cases h
theorem js_for {X : Cx} {tg e : Expr} {ss : List Stmt} {f : WI} {g : GI} {body : SI} {pos : Pos} (hp : PassesOwn (model X.prog X.w) X.A X.env X.xe) (hc : X.calm = true) (hi : JI X tg e f) (hg : JG X tg g) (hb : JSs X ss body) (hs : ∀ x, foldedSetIterable e X.env x = pure x) :
    JS X (.For tg e ss [] pos) (sFor f g body) := fun F => (ps_for hp hc (hi F) (hg F) (hb F) hs).imp fun W σ H h => by
  obtain ⟨ads, env, st, fl, st', S, E, hf, P⟩ := TSo.iff.mp h
  unfold sFor at hf
  split at hf
  · rename_i w st1 e1
    refine ⟨ads, env, st, w, st1, S, E, e1, fun new0 H0 I ex0 S0 wok => ?_⟩
    refine ⟨fun k n σ H => ∃ new env st, Ext (ads ++ new0) new H0 H ∧ Sim X.K F (ads ++ new0 ++ new) st H ∧ EnvOk X.K F (ads ++ new0 ++ new) H σ env ∧ forI (turnI g body) w n k env st = some (fl, st') ∧ PostS X.K F (ads ++ new0 ++ new) H W fl st', ⟨_, [], env, st1, Ext.refl _ _, app_nil' S0, ?_, hf, ?_⟩, ?_⟩
    · rw [List.append_nil]; exact E.mono ex0
    · rw [List.append_nil]; exact P.after ex0
    · rintro k n σ H ⟨new, env, st, ex, S1, E1, hl, P1⟩
      cases n with
      | zero => cases hl
      | succ n =>
        unfold forI at hl
        have q := wok new H st ex S1 k
        split at hl
        · rename_i d e2
          rw [e2] at q
          obtain ⟨go, yl⟩ := q
          refine .inr ⟨go, fun σ' H' => ∃ new env st, Ext (ads ++ new0) new H0 H' ∧ Sim X.K F (ads ++ new0 ++ new) st H' ∧ EnvOk X.K F (ads ++ new0 ++ new) H' σ' env ∧ forI (turnI g body) w n (k + 1) env st = some (fl, st') ∧ PostS X.K F (ads ++ new0 ++ new) H' W fl st',
            fun σ' H' z => ⟨n, Nat.lt_succ_self n, z⟩, fun x H2 hy => ?_⟩
          obtain ⟨ex2, S2, rd⟩ := yl x H2 hy
          have E2 : EnvOk X.K F (ads ++ new0 ++ new) H2 σ env := by
            have z := E1.mono ex2
            rw [List.append_nil] at z; exact z
          have P2 : PostS X.K F (ads ++ new0 ++ new) H2 W fl st' := by
            have z := P1.after ex2
            rw [List.append_nil] at z; exact z
          have exx : Ext (ads ++ new0) new H0 H2 := by
            have z := ex.trans ex2
            rw [List.append_nil] at z; exact z
          unfold turnI at hl
          cases eg : g d env st with
          | none => rw [eg] at hl; cases hl
          | some r =>
            obtain ⟨env3, st3⟩ := r
            simp only [eg] at hl
            refine ⟨_, env, st, d, env3, st3, S2, E2, rd, eg, fun new3 H3 σ3 ex3 S3 E3 => ?_⟩
            refine TSo.iff.mpr ?_
            have back : ∀ {new4 : List Addr} {H4 : Hp}, Ext (ads ++ new0 ++ new ++ new3) new4 H3 H4 → Ext (ads ++ new0) (new ++ (new3 ++ new4)) H0 H4 := fun {new4 H4} ex4 => exx.trans (ex3.trans ex4)
            split at hl
            · rename_i env4 st4 e4
              refine ⟨_, env3, st3, _, st4, S3, E3, e4, fun new4 H4 ex4 S4 σ4 E4 => ⟨new ++ (new3 ++ new4), env4, st4, back ex4, ?_, ?_, hl, ?_⟩⟩
              · simpa only [List.append_assoc] using S4
              · simpa only [List.append_assoc] using E4
              · simpa only [List.append_assoc] using (P2.after ex3).after ex4
            · rename_i env4 st4 e4
              refine ⟨_, env3, st3, _, st4, S3, E3, e4, fun new4 H4 ex4 S4 σ4 E4 => ⟨new ++ (new3 ++ new4), env4, st4, back ex4, ?_, ?_, hl, ?_⟩⟩
              · simpa only [List.append_assoc] using S4
              · simpa only [List.append_assoc] using E4
              · simpa only [List.append_assoc] using (P2.after ex3).after ex4
            · rename_i env4 st4 e4
              cases hl
              exact ⟨_, env3, st3, _, _, S3, E3, e4, fun new4 H4 ex4 S4 σ4 E4 => ((P2.after ex3).after ex4).here S4 σ4 E4⟩
            · rename_i d4 st4 e4
              cases hl
              exact ⟨_, env3, st3, _, _, S3, E3, e4, fun new4 H4 ex4 S4 v r => ((P2.after ex3).after ex4).here S4 v r⟩
            · cases hl
        · rename_i e2
          rw [e2] at q
          cases hl
          exact .inl ⟨q, P1.here S1 σ E1⟩
        · cases hl
  · cases hf
/-! ### list comprehensions -/
/-- the names of the block forgotten -/
def wipeE (env : Env) : List Nat → Env
  | [] => env
  | v :: vs => (wipeE env vs).set v none
def addTo (n : Nat) (d : D) (st : Store) : Option Store := match st[n]? with
  | some (.lst acc) => if acc.length < 16777216 then some (st.set n (.lst (acc ++ [d]))) else none
  | _ => none
/-- the loop: w walked from turn k on, the new list at n -/
def lcI (g : GI) (t : BI) (e : EI) (w : Wk) (n : Nat) : Nat → Nat → Env → Store → Option Store
  | 0, _ => fun _ _ => none
  | m + 1, k => fun env st => match stepW w k st with
    | some (some d) => (match g d env st with
      | some (env1, st1) => (match t env1 st1 with
        | some (true, st2) => (match e env1 st2 with
          | some (y, st3) => (match addTo n y st3 with
            | some st4 => lcI g t e w n m (k + 1) env st4
            | none => none)
          | none => none)
        | some (false, st2) => lcI g t e w n m (k + 1) env st2
        | none => none)
      | none => none)
    | some none => some st
    | none => none
def bYes : BI := fun _ st => some (true, st)
def iLc (f : WI) (g : GI) (t : BI) (e : EI) (own : List Nat) : EI := fun env st => match f env st with
  | some (w, st1) => (match lcI g t e w st1.length (roomW w st1) 0 (wipeE env own) (st1 ++ [.lst []]) with
    | some st2 => some (.loc st1.length, st2)
    | none => none)
  | none => none
theorem EnvOk.wipe {K : PySem.W.Frag} {F : Addr → Prop} {ads : List Addr} {H : Hp} {σ : St} {env : Env} (E : EnvOk K F ads H σ env) : ∀ vs : List Nat, EnvOk K F ads H (L2.wipe σ vs) (wipeE env vs)
  | [] => E
  | v :: vs => by
    have z := EnvOk.wipe E vs
    refine ⟨by unfold L2.wipe wipeE; rw [List.length_set, List.length_set]; exact z.len, fun i d h => ?_⟩
    unfold wipeE at h
    unfold L2.wipe
    by_cases hi : v = i
    · subst hi
      by_cases hl : v < (wipeE env vs).length
      · rw [List.getElem?_set_self hl] at h; cases h
      · rw [List.getElem?_eq_none (by rw [List.length_set]; omega)] at h; cases h
    · rw [List.getElem?_set_ne hi] at h ⊢
      exact z.at_ i d h
end J

set_option Elab.async false
set_option linter.all false
set_option maxRecDepth 100000
set_option maxHeartbeats 4000000
/-! J6: list comprehensions, defs and their calls. -/
namespace J
open PySem PySem.Spec PyProof.Rows L2
set_option autoImplicit false
/-! ### targets that touch the slots vs alone -/
def TGvo (K : PySem.W.Frag) (F : Addr → Prop) (vs : List Nat) (g : GI) : TG := fun v σ H Q => ∃ ads env st d env' st', Sim K F ads st H ∧ EnvOk K F ads H σ env ∧ Rep K F ads H v d ∧ g d env st = some (env', st') ∧
  ∀ new H' σ', Ext ads new H H' → Sim K F (ads ++ new) st' H' → EnvOk K F (ads ++ new) H' σ' env' → wipe σ' vs = wipe σ vs → Q σ' H'
def TGvso (K : PySem.W.Frag) (F : Addr → Prop) (vs : List Nat) (g : GIs) : TGs := fun v σ H Q => ∃ ads env st d env' st', Sim K F ads st H ∧ EnvOk K F ads H σ env ∧ Reps K F ads H v d ∧ g d env st = some (env', st') ∧
  ∀ new H' σ', Ext ads new H H' → Sim K F (ads ++ new) st' H' → EnvOk K F (ads ++ new) H' σ' env' → wipe σ' vs = wipe σ vs → Q σ' H'
def JGv (X : Cx) (vs : List Nat) (t : Expr) (g : GI) : Prop := ∀ F, PG X t (TGvo X.K F vs g)
def JGvs (X : Cx) (vs : List Nat) (t : List Expr) (g : GIs) : Prop := ∀ F, PGs X t (TGvso X.K F vs g)
theorem wipe_set {σ : St} {i : Nat} {x : Option V} : ∀ {vs : List Nat}, i ∈ vs → wipe (σ.set i x) vs = wipe σ vs
  | v :: vs, h => by
    unfold wipe
    by_cases hi : i ∈ vs
    · rw [wipe_set hi]
    · have e : i = v := (List.mem_cons.mp h).resolve_right hi
      subst e
      have z : ∀ (ws : List Nat) (τ : St), i ∉ ws → wipe (τ.set i x) ws = (wipe τ ws).set i x := by
        intro ws
        induction ws with
        | nil => intro τ _; rfl
        | cons w ws ih =>
          intro τ hw
          unfold wipe
          rw [ih τ (fun q => hw (List.mem_cons_of_mem _ q)), List.set_comm _ _ (fun q => hw (by rw [q]; exact List.mem_cons_self))]
      rw [z vs σ hi, List.set_set]
section
variable {X : Cx} {t : Expr} {ts : List Expr} {g : GI} {gs : GIs} {vs : List Nat} {pos : Pos}
theorem JGv.jg (h : JGv X vs t g) : JG X t g := fun F => (h F).imp fun v σ H Q ⟨ads, env, st, d, env', st', S, E, r, hg, P⟩ => ⟨ads, env, st, d, env', st', S, E, r, hg, fun new H' σ' e S' E' _ => P new H' σ' e S' E'⟩
theorem jgv_name {i : Nat} {x : Str} (hv : i ∈ vs) (hN : X.N.Nodup) (hi : X.N[i]? = some x) (hx : Loc X.env.scope x) (hf : X.fn x = true ∨ X.env.scope.names.lookup x = some .local) : JGv X vs (.Name x pos) (gName i) := fun F =>
  (pg_name hN hi hx hf).imp fun v σ H Q h => by
    obtain ⟨ads, env, st, d, env', st', S, E, r, hg, P⟩ := h
    cases hg
    exact P [] H _ (Ext.refl _ _) (app_nil' S) (by rw [List.append_nil]; exact E.set i r) (wipe_set hv)
theorem jgvs_nil : JGvs X vs [] gNil := fun F => pgs_nil.imp fun v σ H Q h => by
  obtain ⟨ads, env, st, d, env', st', S, E, r, hg, P⟩ := h
  unfold gNil at hg
  split at hg
  · cases hg
    cases r
    exact ⟨rfl, P [] H _ (Ext.refl _ _) (app_nil' S) (by rw [List.append_nil]; exact E) rfl⟩
  · cases hg
theorem jgvs_cons (h1 : JGv X vs t g) (h2 : JGvs X vs ts gs) (hs : (assignEach (t :: ts) X.env).map (·.2) = assign t X.env :: (assignEach ts X.env).map (·.2)) : JGvs X vs (t :: ts) (gCons g gs) := fun F =>
  (pgs_cons (h1 F) (h2 F) hs).imp fun v σ H Q h => by
    obtain ⟨ads, env, st, ds, env', st', S, E, r, hg, P⟩ := h
    unfold gCons at hg
    cases r with
    | nil => cases hg
    | cons r rr =>
      dsimp only at hg
      split at hg
      · rename_i env1 st1 e1
        refine ⟨_, _, rfl, ads, env, st, _, env1, st1, S, E, r, e1, fun new H1 σ1 e2 S1 E1 w1 => ?_⟩
        refine ⟨_, env1, st1, _, env', st', S1, E1, rr.mono e2, hg, fun new2 H2 σ2 e3 S2 E2 w2 => ?_⟩
        exact P (new ++ new2) H2 σ2 (e2.trans e3) (by rw [← List.append_assoc]; exact S2) (by rw [← List.append_assoc]; exact E2) (w2.trans w1)
      · cases hg
theorem jgv_tup {n k : Nat} (hc : X.calm = true) (h : JGvs X vs ts gs) (hn : (assignEach ts X.env).length = n) (hst : (assignEach ts X.env).findIdx? (·.1) = none) : JGv X vs (.Tuple ts k pos) (gTup n gs) := fun F =>
  ⟨fun pins s σ H v u Q I r w => by
    obtain ⟨ads, env, st, d, env', st', S, E, rd, hg, P⟩ := w
    unfold gTup at hg
    split at hg
    · rename_i ds e1
      split at hg
      · rename_i hl
        obtain ⟨a, vs', rfl, q, rs⟩ := tupOf_rep rd e1
        exact (pg_tup hc (h F) hn hst).run pins s σ H _ u Q I r ⟨a, vs', rfl, q, by rw [rs.length]; exact hl, ads, env, st, ds, env', st', S, E, rs, hg, P⟩
      · cases hg
    · split at hg
      · rename_i ds e1
        split at hg
        · rename_i hl
          obtain ⟨a, vs', rfl, q, rs⟩ := lstOf_rep S rd e1
          exact (pg_unl hc (h F) hn hst).run pins s σ H _ u Q I r ⟨a, vs', rfl, .of q, by rw [rs.length]; exact hl, ads, env, st, ds, env', st', S, E, rs, hg, P⟩
        · cases hg
      · cases hg⟩
end
/-! ### list comprehensions -/
def JTs (X : Cx) (ifs : List Expr) (t : BI) : Prop := ∀ F, PTs X ifs (TTo X.K F t)
theorem jts_nil {X : Cx} : JTs X [] bYes := fun F => ⟨fun pins s σ H Q I h => pts_nil.run pins s σ H Q I (by
  obtain ⟨ads, env, st, b, st', S, E, hf, P⟩ := h
  cases hf
  exact P [] H (Ext.refl _ _) (app_nil' S))⟩
theorem jts_one {X : Cx} {c : Expr} {t : BI} (h : JT X c t) : JTs X [c] t := fun F => pts_one (h F)
theorem addTo_ok {K : PySem.W.Frag} {F : Addr → Prop} {ads : List Addr} {H : Hp} {st st' : Store} {n : Nat} {a : Addr} {d : D} {v : V} (S : Sim K F ads st H) (ha : ads[n]? = some a) (r : Rep K F ads H v d) (h : addTo n d st = some st') :
    ∃ acc, H a = some (.lst acc) ∧ acc.length < sizeLine ∧ Ext ads [] H (upd H a (.lst (acc ++ [v]))) ∧ Sim K F ads st' (upd H a (.lst (acc ++ [v]))) := by
  unfold addTo at h
  split at h
  · rename_i acc e
    split at h
    · rename_i hz
      cases h
      obtain ⟨vs, q, rs⟩ := S.cell n _ a e ha
      have hm : Mut (H a) := by rw [q]; trivial
      have E := Ext.put (o := .lst (vs ++ [v])) S (List.mem_of_getElem? ha) hm
      refine ⟨vs, q, by rw [sizeLine_eq, rs.length]; exact hz, E, app_nil (S.put ha hm ⟨_, upd_same, ?_⟩)⟩
      exact Reps.append (rs.mono E) (.cons (r.mono E) .nil)
    · cases h
  · cases h
section
variable {X : Cx} {elt tg iter : Expr} {ifs : List Expr} {scope : Scope} {own : List (Str × Nat)} {pos : Pos} {f : WI} {g : GI} {t : BI} {e : EI}
theorem lc_to {K : PySem.W.Frag} {F : Addr → Prop} {vs : List Nat} {σ : St} {H : Hp} {Q : VK} (h : TEo K F (iLc f g t e vs) σ H Q) : tLc (TIo K F f) (TGvo K F vs g) (TTo K F t) (TEo K F e) vs σ H Q := by
  obtain ⟨ads, env, st, d, st', S, E, hf, P⟩ := h
  unfold iLc at hf
  split at hf
  · rename_i w st1 e1
    split at hf
    · rename_i st2 e2
      cases hf
      refine ⟨ads, env, st, w, st1, S, E, e1, fun new0 H1 I ex0 S1 wok D hD => ?_⟩
      have hn : (ads ++ new0 ++ [D])[st1.length]? = some D := by
        rw [List.getElem?_append_right (by rw [S1.len]; exact Nat.le_refl _), S1.len, Nat.sub_self]; rfl
      have exD : Ext (ads ++ new0) [D] H1 (upd H1 D (.lst [])) := Ext.grown hD
      have SD := S1.grown (o := .lst []) (c := .lst []) hD ⟨[], upd_same, .nil⟩
      have wok2 := wok.after exD
      have E0 : EnvOk K F (ads ++ new0 ++ [D]) (upd H1 D (.lst [])) (wipe σ vs) (wipeE env vs) := ((E.mono ex0).mono exD).wipe vs
      refine ⟨fun k m H => ∃ new st, Ext (ads ++ new0 ++ [D]) new (upd H1 D (.lst [])) H ∧ Sim K F (ads ++ new0 ++ [D] ++ new) st H ∧ lcI g t e w st1.length m k (wipeE env vs) st = some st',
        ⟨_, [], _, Ext.refl _ _, app_nil' SD, e2⟩, ?_⟩
      rintro k m H ⟨new, st, ex, S3, hl⟩
      cases m with
      | zero => cases hl
      | succ m =>
        unfold lcI at hl
        have q := wok2 new H st ex S3 k
        have hnn : ∀ more : List Addr, (ads ++ new0 ++ [D] ++ more)[st1.length]? = some D := fun more => by
          rw [List.getElem?_append_left (List.getElem?_eq_some_iff.mp hn).1]; exact hn
        split at hl
        · rename_i d0 e3
          rw [e3] at q
          obtain ⟨go, yl⟩ := q
          refine .inr ⟨go, fun H' => ∃ new st, Ext (ads ++ new0 ++ [D]) new (upd H1 D (.lst [])) H' ∧ Sim K F (ads ++ new0 ++ [D] ++ new) st H' ∧ lcI g t e w st1.length m (k + 1) (wipeE env vs) st = some st',
            fun H' z => ⟨m, Nat.lt_succ_self m, z⟩, fun x H2 hy => ?_⟩
          obtain ⟨ex2, S2, rd⟩ := yl x H2 hy
          have exx : Ext (ads ++ new0 ++ [D]) new (upd H1 D (.lst [])) H2 := by
            have z := ex.trans ex2
            rw [List.append_nil] at z; exact z
          split at hl
          · rename_i env1 st5 eg
            refine ⟨_, wipeE env vs, st, d0, env1, st5, S2, E0.mono exx, rd, eg, fun new3 H3 σ3 ex3 S5 E3 hw => ⟨hw.trans ?_, ?_⟩⟩
            · have idem : ∀ (ws : List Nat) (τ : St), (∀ i ∈ ws, i ∈ vs) → wipe (wipe τ vs) ws = wipe τ vs := by
                intro ws
                induction ws with
                | nil => intro τ _; rfl
                | cons w ws ih =>
                  intro τ hh
                  show (wipe (wipe τ vs) ws).set w none = wipe τ vs
                  rw [ih τ fun i hi => hh i (List.mem_cons_of_mem _ hi)]
                  have hw := hh w List.mem_cons_self
                  have none_at : ∀ (us : List Nat) (ρ : St), w ∈ us → (wipe ρ us).set w none = wipe ρ us := by
                    intro us
                    induction us with
                    | nil => intro ρ h; cases h
                    | cons u us ih2 =>
                      intro ρ h
                      unfold wipe
                      by_cases hu : u = w
                      · subst hu; rw [List.set_set]
                      · have hm : w ∈ us := (List.mem_cons.mp h).resolve_left (Ne.symm hu)
                        rw [List.set_comm _ _ hu, ih2 ρ hm]
                  exact none_at vs τ hw
              exact idem vs σ fun _ h => h
            · split at hl
              · rename_i st6 et
                refine ⟨_, env1, st5, true, st6, S5, E3, et, fun new4 H4 ex4 S6 => ?_⟩
                dsimp only
                rw [if_pos rfl]
                split at hl
                · rename_i y st7 ey
                  split at hl
                  · rename_i st8 ea
                    refine ⟨_, env1, st6, y, st7, S6, E3.mono ex4, ey, fun new5 H5 yv ex5 S7 ry => ?_⟩
                    have hD5 : (ads ++ new0 ++ [D] ++ new ++ new3 ++ new4 ++ new5)[st1.length]? = some D := by
                      have z := hnn (new ++ (new3 ++ (new4 ++ new5)))
                      simpa only [List.append_assoc] using z
                    obtain ⟨acc, a1, a2, a3, a4⟩ := addTo_ok S7 hD5 ry ea
                    refine ⟨acc, a1, a2, new ++ (new3 ++ (new4 ++ (new5 ++ []))), st8, exx.trans (ex3.trans (ex4.trans (ex5.trans a3))), ?_, hl⟩
                    simpa only [List.append_assoc, List.append_nil] using a4
                  · cases hl
                · cases hl
              · rename_i st6 et
                refine ⟨_, env1, st5, false, st6, S5, E3, et, fun new4 H4 ex4 S6 => ?_⟩
                dsimp only
                rw [if_neg Bool.false_ne_true]
                refine ⟨new ++ (new3 ++ new4), st6, exx.trans (ex3.trans ex4), ?_, hl⟩
                simpa only [List.append_assoc] using S6
              · cases hl
          · cases hl
        · rename_i e3
          rw [e3] at q
          cases hl
          refine .inl ⟨q, P (new0 ++ ([D] ++ new)) H _ (ex0.trans (exD.trans ex)) ?_ (.loc ?_)⟩
          · simpa only [List.append_assoc] using S3
          · have z := hnn new
            simpa only [List.append_assoc] using z
        · cases hl
    · cases hf
  · cases hf
theorem je_lc (hc : X.calm = true) (hN : X.N.Nodup) (hi : JI X tg iter f) (ok : BlkOk X.N X.env.scope scope own)
    (hg : ∀ (s : Shared) (H : Hp) (C : Addr) (cl : List (Str × Addr)) (fp : List Addr), JGv (X.blk s H scope (compEnvC scope cl C X.env) fp) (own.map (·.2)) tg g) (ht : ∀ (s : Shared) (H : Hp) (C : Addr) (cl : List (Str × Addr)) (fp : List Addr), JTs (X.blk s H scope (compEnvC scope cl C X.env) fp) ifs t)
    (he : ∀ (s : Shared) (H : Hp) (C : Addr) (cl : List (Str × Addr)) (fp : List Addr), JE (X.blk s H scope (compEnvC scope cl C X.env) fp) elt e) (hs : ∀ x, foldedSetIterable iter X.env x = pure x) :
    JE X (.ListComp elt [⟨tg, iter, ifs, 0⟩] scope pos) (iLc f g t e (own.map (·.2))) := fun F =>
  (pe_lc hc hN (hi F) ok (fun s H C cl fp => hg s H C cl fp F) (fun s H C cl fp => ht s H C cl fp F) (fun s H C cl fp => he s H C cl fp F) hs).imp fun σ H Q h => lc_to h
theorem js_setLc {i : Nat} {y : Str} {py spos : Pos} (hc : X.calm = true) (hN : X.N.Nodup) (hy : X.N[i]? = some y) (hyl : X.env.scope.names.lookup y = some .local)
    (hsw : swapsWith (.ListComp elt [⟨tg, iter, ifs, 0⟩] scope pos) (some (.Name y py)) spos.line X.env = pure true) (hi : JI X tg iter f) (ok : BlkOk X.N X.env.scope scope own)
    (hg : ∀ (s : Shared) (H : Hp) (C : Addr) (cl : List (Str × Addr)) (fp : List Addr), JGv (X.blk s H scope (compEnvC scope cl C X.env) fp) (own.map (·.2)) tg g) (ht : ∀ (s : Shared) (H : Hp) (C : Addr) (cl : List (Str × Addr)) (fp : List Addr), JTs (X.blk s H scope (compEnvC scope cl C X.env) fp) ifs t)
    (he : ∀ (s : Shared) (H : Hp) (C : Addr) (cl : List (Str × Addr)) (fp : List Addr), JE (X.blk s H scope (compEnvC scope cl C X.env) fp) elt e) (hs : ∀ x, foldedSetIterable iter X.env x = pure x) :
    JS X (.Assign [.Name y py] (.ListComp elt [⟨tg, iter, ifs, 0⟩] scope pos) spos) (sAsg (iLc f g t e (own.map (·.2))) (gName i)) := fun F =>
  (ps_setLc hc hN hy hyl hsw (hi F) ok (fun s H C cl fp => hg s H C cl fp F) (fun s H C cl fp => ht s H C cl fp F) (fun s H C cl fp => he s H C cl fp F) hs).imp fun W σ H h => by
    have z := sSet_to h
    exact lc_to (Q := fun x H1 => L2.gName i x σ H1 W.nx) z
end
/-! ### defs -/
abbrev Run := List D → Store → Option (D × Store)
def runFn (np nn : Nat) (body : SI) : Run := fun ds st => if ds.length = np then (match body (ds.map some ++ List.replicate (nn - np) none) st with
  | some (.rt d, st1) => some (d, st1)
  | some (.nx _, st1) => some (.p .non, st1)
  | _ => none) else none
def spS (K : PySem.W.Frag) (np : Nat) (run : Run) : Sp := fun vs H Q _ => vs.length = np ∧ ∃ F ads st ds d st', Sim K F ads st H ∧ Reps K F ads H vs ds ∧ run ds st = some (d, st') ∧ Post K F ads H Q d st'
/-- all plain: what a value is once nothing will change it -/
def freeze : Nat → Store → D → Option PD
  | _, _, .p x => some x
  | k + 1, st, .loc i => (match st[i]? with
    | some (.lst ds) => (match mapO (freeze k st) ds with
      | some xs => some (.lst xs)
      | none => none)
    | some (.dic ks ds) => (match mapO (freeze k st) ds with
      | some xs => some (.dic ks xs)
      | none => none)
    | some (.ins C ns ds) => (match mapO (freeze k st) ds with
      | some xs => some (.ins C ns xs)
      | none => none)
    | none => none)
  | k + 1, st, .mix ds => (match mapO (freeze k st) ds with
    | some xs => some (.tup xs)
    | none => none)
  | 0, _, _ => none
def pureRun (f : Run) (xs : List PD) : Option PD := match f (xs.map D.p) [] with
  | some (d, st) => freeze 16 st d
  | none => none
/-- a call that changes nothing, if all that is handed in is plain; else with the caller's store -/
def iCall (f : Run) (args : AI) : EI := fun env st => match args env st with
  | some (ds, st1) => (match allP ds with
    | some xs => (match pureRun f xs with
      | some r => some (.p r, st1)
      | none => none)
    | none => f ds st1)
  | none => none
/-- a call with the caller's store -/
def iCallS (f : Run) (args : AI) : EI := fun env st => match args env st with
  | some (ds, st1) => f ds st1
  | none => none
mutual
theorem RepP.imp {K : PySem.W.Frag} {B B' : Addr → Prop} {H : Hp} (hb : ∀ a, B' a → B a) : ∀ {v : V} {x : PD}, RepP K B H v x → RepP K B' H v x
  | _, _, .non => .non
  | _, _, .bl b => .bl b
  | _, _, .int b => .int b
  | _, _, .str b => .str b
  | _, _, .ty b => .ty b
  | _, _, .glo b => .glo b
  | _, _, .tup h hs => .tup h (RepPs.imp hb hs)
  | _, _, .tun h hs => .tun h (RepPs.imp hb hs)
  | _, _, .lst h n hs => .lst h (fun q => n (hb _ q)) (RepPs.imp hb hs)
  | _, _, .frz h hs => .frz h (RepPs.imp hb hs)
  | _, _, .dic h n hk hs => .dic h (fun q => n (hb _ q)) hk (RepPs.imp hb hs)
  | _, _, .ins h n hk hs => .ins h (fun q => n (hb _ q)) hk (RepPs.imp hb hs)
theorem RepPs.imp {K : PySem.W.Frag} {B B' : Addr → Prop} {H : Hp} (hb : ∀ a, B' a → B a) : ∀ {v : List V} {x : List PD}, RepPs K B H v x → RepPs K B' H v x
  | _, _, .nil => .nil
  | _, _, .cons h hs => .cons (RepP.imp hb h) (RepPs.imp hb hs)
end
section
variable {K : PySem.W.Frag} {F : Addr → Prop} {ads : List Addr} {H : Hp} {st : Store}
theorem mapO_frz {f : D → Option PD} (hf : ∀ {v : V} {x : D} {d : PD}, Rep K F ads H v x → f x = some d → RepP K F H v d) :
    ∀ {vs : List V} {xs : List D} {ds : List PD}, Reps K F ads H vs xs → mapO f xs = some ds → RepPs K F H vs ds
  | _, _, _, .nil, h => by cases h; exact .nil
  | _, _, _, .cons (x := x) (xs := xs) r t, h => by
    unfold mapO at h
    cases e : f x with
    | none => rw [e] at h; cases h
    | some d =>
      cases e2 : mapO f xs with
      | none => rw [e] at h; simp only [e2] at h; cases h
      | some ds => rw [e] at h; simp only [e2] at h; cases h; exact .cons (hf r e) (mapO_frz hf t e2)
theorem freeze_rep (S : Sim K F ads st H) : ∀ (k : Nat) {v : V} {x : D} {d : PD}, Rep K F ads H v x → freeze k st x = some d → RepP K F H v d
  | k, _, _, _, .p r, h => by
    have e : some _ = some _ := (show freeze k st (.p _) = _ by cases k <;> rfl).symm.trans h
    cases e
    exact r.imp fun a q => .inl q
  | 0, _, _, _, .loc _, h => by cases h
  | 0, _, _, _, .mix _ _, h => by cases h
  | k + 1, _, _, d, .loc (a := a) (i := i) e, h => by
    unfold freeze at h
    have far : ¬ F a := S.apart a (List.mem_of_getElem? e)
    split at h
    · rename_i ds e1
      obtain ⟨vs, q, rs⟩ := S.cell i _ a e1 e
      split at h
      · rename_i xs e2
        cases h
        exact .lst q far (mapO_frz (fun r h => freeze_rep S k r h) rs e2)
      · cases h
    · rename_i ks ds e1
      obtain ⟨kvs, q, hk, rs⟩ := S.cell i _ a e1 e
      split at h
      · rename_i xs e2
        cases h
        exact .dic q far hk (mapO_frz (fun r h => freeze_rep S k r h) rs e2)
      · cases h
    · rename_i C ns ds e1
      obtain ⟨dx, fs, q, hk, rs⟩ := S.cell i _ a e1 e
      split at h
      · rename_i xs e2
        cases h
        exact .ins q far hk (mapO_frz (fun r h => freeze_rep S k r h) rs e2)
      · cases h
    · cases h
  | k + 1, _, _, d, .mix q rs, h => by
    unfold freeze at h
    split at h
    · rename_i xs e2
      cases h
      exact .tup q (mapO_frz (fun r h => freeze_rep S k r h) rs e2)
    · cases h
/-- a callee that was handed plain things alone left the caller's cells as they were -/
theorem pure_post {Q : VK} {f : Run} {vs : List V} {xs : List PD} {r : PD} {np : Nat} (S : Sim K F ads st H) (rs : RepPs K (Bad F ads) H vs xs) (hr : pureRun f xs = some r) (hn : vs.length = np) (P : Post K F ads H Q (.p r) st) : spS K np f vs H Q E0 := by
  unfold pureRun at hr
  split at hr
  · rename_i d st1 e1
    refine ⟨hn, Bad F ads, [], [], xs.map D.p, d, st1, ⟨rfl, .nil, fun i c a h _ => by simp at h, fun a h => h.elim (S.far a) fun h => S.there h, fun a h => nomatch h⟩, ?_, e1, ?_⟩
    · exact RepPs.ofP (F := Bad F ads) (ads := []) (rs.imp fun a h => h.elim (fun z => z) fun z => nomatch z)
    · intro new H' v e S1 rv
      have rp : RepP K (Bad F ads) H' v r := freeze_rep S1 16 rv hr
      have E : Ext ads [] H H' := ⟨fun a o h _ => e.keep a o h (fun z => (nomatch z)), e.tup, e.frz, e.there, fun a h => (nomatch h)⟩
      refine P [] H' v E ⟨by rw [List.append_nil]; exact S.len, by rw [List.append_nil]; exact S.nd, fun i c a h1 h2 => ?_, fun a h => e.there a (S.far a h), fun a h => by rw [List.append_nil] at h; exact S.apart a h⟩ ?_
      · rw [List.append_nil] at h2
        have ok := S.cell i c a h1 h2
        refine CellOk.mono E ok ?_
        cases q : H a with
        | none => exact absurd q ok.there
        | some o => exact e.keep a o q fun z => nomatch z
      · rw [List.append_nil]
        exact .p rp
  · cases hr
end
/-- a def of the text that does what run does -/
structure DefOk (P : Program) (w : World) (K : PySem.W.Frag) (mg : Str → Option Value) (base : Heap) (lvl : Nat) (x : Str) (np : Nat) (run : Run) : Prop where
  ex : ∃ (f : Addr) (fd : FuncData) (ps : List Str), FnOk P w K mg base CX0 lvl f fd ps (spS K np run) ∧ mg x = some (.ref f) ∧ PySem.W.keepIn K (.ref f) = true ∧ Binds K fd ps [] ∧ ps.length = np
section
variable {X : Cx} {lvl np : Nat} {run : Run} {x : Str} {e : Expr} {es : List Expr} {fa : AI} {p pos : Pos}
theorem je_callS (F0 : DefOk X.prog X.w X.K X.mg X.base lvl x np run) (hr : Room lvl X.A) (hg : Gl X x) (ha : JA X (e :: es) fa) (hlen : (e :: es).length = np) (hlenA : ∀ env st ds st', fa env st = some (ds, st') → ds.length = (e :: es).length) (hdb : (x == ("__debug__" : Str)) = false)
    (he : starEach (e :: es) X.env = (false, eval e X.env) :: starEach es X.env) (hpl : (backTo pos (starEach es X.env)).any (·.1) = false) : JE X (.Call (.Name x p) (e :: es) [] pos) (iCallS run fa) := fun F => by
  obtain ⟨f, fd, ps, ok, hm, kp, b, _⟩ := F0.ex
  refine (pe_call (dvs := []) (ds := []) ok hr hg hm kp b .nil pass0 (ha F) hdb he hpl).imp fun σ H Q h => ?_
  obtain ⟨ads, env, st, d, st', S, E, hf, P⟩ := h
  unfold iCallS at hf
  split at hf
  · rename_i ds st1 e1
    refine ⟨ads, env, st, ds, st1, S, E, e1, fun new H1 vs ex S1 r1 => ?_⟩
    dsimp only
    rw [List.append_nil]
    exact ⟨by rw [r1.length, hlenA _ _ _ _ e1, hlen], F, _, st1, ds, d, st', S1, r1, hf, P.after ex⟩
  · cases hf
theorem je_call (F0 : DefOk X.prog X.w X.K X.mg X.base lvl x np run) (hr : Room lvl X.A) (hg : Gl X x) (ha : JA X (e :: es) fa) (hlen : (e :: es).length = np) (hlenA : ∀ env st ds st', fa env st = some (ds, st') → ds.length = (e :: es).length) (hdb : (x == ("__debug__" : Str)) = false)
    (he : starEach (e :: es) X.env = (false, eval e X.env) :: starEach es X.env) (hpl : (backTo pos (starEach es X.env)).any (·.1) = false) : JE X (.Call (.Name x p) (e :: es) [] pos) (iCall run fa) := fun F => by
  obtain ⟨f, fd, ps, ok, hm, kp, b, _⟩ := F0.ex
  refine (pe_call (dvs := []) (ds := []) ok hr hg hm kp b .nil pass0 (ha F) hdb he hpl).imp fun σ H Q h => ?_
  obtain ⟨ads, env, st, d, st', S, E, hf, P⟩ := h
  unfold iCall at hf
  split at hf
  · rename_i ds st1 e1
    refine ⟨ads, env, st, ds, st1, S, E, e1, fun new H1 vs ex S1 r1 => ?_⟩
    dsimp only
    rw [List.append_nil]
    have hl : vs.length = np := by rw [r1.length, hlenA _ _ _ _ e1, hlen]
    split at hf
    · rename_i xs e2
      split at hf
      · rename_i r e3
        cases hf
        exact pure_post S1 (r1.toP e2) e3 hl (P.after ex)
      · cases hf
    · exact ⟨hl, F, _, st1, ds, d, st', S1, r1, hf, P.after ex⟩
  · cases hf
end
/-- a def by its body -/
theorem def_ok {P : Program} {w : World} {K : PySem.W.Frag} {mg : Str → Option Value} {base : Heap} {k : Nat} {x qual : Str} {params : Arguments} {body : List Stmt} {scope : Scope} {f : Addr} {fd : FuncData} {N ps : List Str} {bi : SI}
    (F : FunD K x qual params body scope [] [] f fd) (S : FnScope N ps scope)
    (hbody : ∀ (cdv : Value) (A : Around) (outer : List PySem.Env) (s : Shared) (H : Hp) (E : XK), Room k (A.deeper (envOfC qual scope s.heap.objs.size f cdv)) → JSs (cxOf CX0 P w K mg base N qual scope f cdv A outer s H E).nox body bi) :
    FnOk P w K mg base CX0 (k + 1) f fd ps (spS K ps.length (runFn ps.length N.length bi)) := by
  refine F.ok S (fun vs H Q E h => h.1) fun cdv A outer s H vs Q E hr h => ?_
  obtain ⟨hl, F', ads, st, ds, d, st', S0, rs, hf, P'⟩ := h
  refine ⟨_, (hbody cdv A outer s H E hr F').nox, TSo.iff.mpr ?_⟩
  unfold runFn at hf
  split at hf
  · have E0 : EnvOk K F' ads H (L2.start N vs) (ds.map some ++ List.replicate (N.length - ps.length) none) := by
      unfold L2.start
      rw [hl]
      refine ⟨by rw [List.length_append, List.length_append, List.length_map, List.length_map, rs.length, List.length_replicate, List.length_replicate], fun i d h => ?_⟩
      by_cases hi : i < ds.length
      · rw [List.getElem?_append_left (by rw [List.length_map]; exact hi), List.getElem?_map] at h
        cases e : ds[i]? with
        | none => rw [e] at h; cases h
        | some d' =>
          rw [e] at h
          cases h
          obtain ⟨v, h1, h2⟩ := rs.get e
          exact ⟨v, by rw [List.getElem?_append_left (by rw [List.length_map]; exact (List.getElem?_eq_some_iff.mp h1).1), List.getElem?_map, h1]; rfl, h2⟩
      · rw [List.getElem?_append_right (by rw [List.length_map]; omega), List.getElem?_replicate] at h
        split at h <;> cases h
    split at hf
    · rename_i d0 st1 e1
      cases hf
      exact ⟨ads, _, st, _, _, S0, E0, e1, fun new H' e S1 v r => P' new H' v e S1 r⟩
    · rename_i env0 st1 e1
      cases hf
      exact ⟨ads, _, st, _, _, S0, E0, e1, fun new H' e S1 σ' _ => P' new H' .non e S1 (.p .non)⟩
    · cases hf
  · cases hf
end J

set_option Elab.async false
set_option linter.all false
set_option maxRecDepth 100000
set_option maxHeartbeats 4000000
/-! J7: built-ins, methods of built-in types, subscripts, slices, attributes. -/
namespace J
open PySem PySem.Spec PyProof.Rows L2
set_option autoImplicit false
abbrev OpN := List D → Store → Option (D × Store)
def rJn (K : PySem.W.Frag) (F : Addr → Prop) (g : OpN) : List V → Hp → VK → Prop := fun vs H Q => ∃ ads st ds d st', Sim K F ads st H ∧ Reps K F ads H vs ds ∧ g ds st = some (d, st') ∧ Post K F ads H Q d st'
def CallJ (X : Cx) (f : Value) (g : OpN) : Prop := ∀ F, CallR X f (rJn X.K F g)
theorem call_to {K : PySem.W.Frag} {F : Addr → Prop} {g : OpN} {fa : AI} {σ : St} {H : Hp} {Q : VK} (h : TEo K F (iCallS g fa) σ H Q) : tCB (rJn K F g) (TAo K F fa) σ H Q := by
  obtain ⟨ads, env, st, d, st', S, E, hf, P⟩ := h
  unfold iCallS at hf
  split at hf
  · rename_i ds st1 e1
    exact ⟨ads, env, st, ds, st1, S, E, e1, fun new H1 vs ex S1 r1 => ⟨_, st1, ds, d, st', S1, r1, hf, P.after ex⟩⟩
  · cases hf
section
variable {X : Cx} {x : Str} {p pos : Pos} {e : Expr} {es : List Expr} {fa : AI} {id T : String} {g : OpN}
theorem je_callB (hc : CallJ X (.builtin id) g) (hg : Gl X x) (hm : X.mg x = none) (hv : bootBuiltins x = some (.builtin id)) (ha : JA X (e :: es) fa) (hn : x ≠ "__name__") (hdb : (x == ("__debug__" : Str)) = false)
    (he : starEach (e :: es) X.env = (false, eval e X.env) :: starEach es X.env) (hpl : (backTo pos (starEach es X.env)).any (·.1) = false) : JE X (.Call (.Name x p) (e :: es) [] pos) (iCallS g fa) := fun F =>
  (pe_callB (hc F) hg hm hv (ha F) hn hdb he hpl).imp fun _ _ _ h => call_to h
theorem je_callTy (hc : CallJ X (.type T) g) (hg : Gl X x) (hm : X.mg x = none) (hv : bootBuiltins x = some (.type T)) (ha : JA X (e :: es) fa) (hn : x ≠ "__name__") (hdb : (x == ("__debug__" : Str)) = false)
    (he : starEach (e :: es) X.env = (false, eval e X.env) :: starEach es X.env) (hpl : (backTo pos (starEach es X.env)).any (·.1) = false) : JE X (.Call (.Name x p) (e :: es) [] pos) (iCallS g fa) := fun F =>
  (pe_callTy (hc F) hg hm hv (ha F) hn hdb he hpl).imp fun _ _ _ h => call_to h
end
theorem rep1 {K : PySem.W.Frag} {F : Addr → Prop} {ads : List Addr} {H : Hp} {vs : List V} {d : D} (r : Reps K F ads H vs [d]) : ∃ v, vs = [v] ∧ Rep K F ads H v d := by
  cases r with
  | cons r rr => cases rr; exact ⟨_, rfl, r⟩
theorem rep2 {K : PySem.W.Frag} {F : Addr → Prop} {ads : List Addr} {H : Hp} {vs : List V} {d d2 : D} (r : Reps K F ads H vs [d, d2]) : ∃ v v2, vs = [v, v2] ∧ Rep K F ads H v d ∧ Rep K F ads H v2 d2 := by
  cases r with
  | cons r rr =>
    cases rr with
    | cons r2 rr => cases rr; exact ⟨_, _, rfl, r, r2⟩
/-! ### len, abs, int, tuple, list, ord -/
def cLen : OpN := fun ds st => match ds with
  | [.p (.str x)] => if x.length ≤ 16777216 then some (.p (.int x.length), st) else none
  | [d] => (match seqOf d st with
    | some xs => some (.p (.int xs.length), st)
    | none => none)
  | _ => none
def cAbs : OpN := fun ds st => match ds with
  | [.p (.int i)] => some (.p (.int (if i < 0 then -i else i)), st)
  | _ => none
def isDig (c : Nat) : Bool := decide (48 ≤ c) && decide (c ≤ 57)
def digs : List Nat → Bool
  | [] => true
  | c :: r => isDig c && digs r
def cInt : OpN := fun ds st => match ds with
  | [.p (.int i)] => some (.p (.int i), st)
  | [.p (.bl k)] => some (.p (.int (if k then 1 else 0)), st)
  | [.p (.str x)] => if x.cps.toList.all (fun c => decide (48 ≤ c) && decide (c ≤ 57)) = true ∧ x.cps.toList ≠ [] ∧ x.cps.toList.length ≤ 640 then some (.p (.int ((NumText.digitsVal x.cps.toList : Nat) : Int)), st) else none
  | _ => none
def cTuple : OpN := fun ds st => match ds with
  | [d] => (match tupOf d with
    | some _ => some (d, st)
    | none => (match lstR d st with
      | some xs => some (mkTupN xs, st)
      | none => none))
  | _ => none
def cList : OpN := fun ds st => match ds with
  | [d] => (match seqOf d st with
    | some xs => some (.loc st.length, st ++ [.lst xs])
    | none => none)
  | _ => none
def cOrd : OpN := fun ds st => match ds with
  | [.p (.str x)] => if x.length = 1 then some (.p (.int ((x.cps.getD 0 0 : Nat) : Int)), st) else none
  | _ => none
section
variable {X : Cx}
theorem cj_len : CallJ X (.builtin "len") cLen := by
  intro F pins s σ H vs us Q I r ⟨ads, st, ds, d, st', S, rs, hg, P⟩
  unfold cLen at hg
  split at hg
  · split at hg
    · rename_i hz
      cases hg
      obtain ⟨v, rfl, r1⟩ := rep1 rs
      exact call_len pins s σ H _ us Q I r ⟨_, _, rfl, by rw [r1.str]; exact ⟨sizeLine_lit hz, rfl⟩, P.here S (.p (.int _))⟩
    · cases hg
  · split at hg
    · rename_i xs e
      cases hg
      obtain ⟨v, rfl, r1⟩ := rep1 rs
      obtain ⟨a, ws, rfl, q, rw'⟩ := seqOf_rep S r1 e
      refine call_len pins s σ H _ us Q I r ⟨_, ws.length, rfl, q.imp (fun q => ⟨ws, q, rfl⟩) (fun q => ⟨ws, q, rfl⟩), ?_⟩
      rw [rw'.length]
      exact P.here S (.p (.int _))
    · cases hg
  · cases hg
theorem cj_abs : CallJ X (.builtin "abs") cAbs := by
  intro F pins s σ H vs us Q I r ⟨ads, st, ds, d, st', S, rs, hg, P⟩
  unfold cAbs at hg
  split at hg
  · cases hg
    obtain ⟨v, rfl, r1⟩ := rep1 rs
    exact call_abs pins s σ H _ us Q I r ⟨_, by rw [r1.int], P.here S (.p (.int _))⟩
  · cases hg
theorem cj_ord : CallJ X (.builtin "ord") cOrd := by
  intro F pins s σ H vs us Q I r ⟨ads, st, ds, d, st', S, rs, hg, P⟩
  unfold cOrd at hg
  split at hg
  · split at hg
    · rename_i hz
      cases hg
      obtain ⟨v, rfl, r1⟩ := rep1 rs
      exact call_ord pins s σ H _ us Q I r ⟨_, by rw [r1.str], hz, P.here S (.p (.int _))⟩
    · cases hg
  · cases hg
theorem cj_int : CallJ X (.type "int") cInt := by
  intro F pins s σ H vs us Q I r ⟨ads, st, ds, d, st', S, rs, hg, P⟩
  unfold cInt at hg
  split at hg
  · cases hg
    obtain ⟨v, rfl, r1⟩ := rep1 rs
    exact call_int1 pins s σ H _ us Q I r (.inl ⟨_, by rw [r1.int], P.here S (.p (.int _))⟩)
  · cases hg
    obtain ⟨v, rfl, r1⟩ := rep1 rs
    exact call_int1 pins s σ H _ us Q I r (.inr ⟨_, by rw [r1.bl], P.here S (.p (.int _))⟩)
  · split at hg
    · rename_i x h
      cases hg
      obtain ⟨v, rfl, r1⟩ := rep1 rs
      have hi := SX.int_S h.1 h.2.1 (Nat.le_trans h.2.2 (by decide))
      exact call_int_str pins s σ H _ us Q I r ⟨x, _, by rw [r1.str], by
        rw [← hi], by have q := h.2.2; rw [Array.length_toList] at q; exact q, P.here S (.p (.int _))⟩
    · cases hg
  · cases hg
theorem cj_tuple : CallJ X (.type "tuple") cTuple := by
  intro F pins s σ H vs us Q I r ⟨ads, st, ds, d, st', S, rs, hg, P⟩
  unfold cTuple at hg
  split at hg
  · split at hg
    · rename_i xs e
      cases hg
      obtain ⟨v, rfl, r1⟩ := rep1 rs
      obtain ⟨a, ws, rfl, q, rw'⟩ := tupOf_rep r1 e
      exact call_tuple_of pins s σ H _ us Q I r ⟨a, ws, rfl, .inr ⟨q, P.here S r1⟩⟩
    · split at hg
      · rename_i xs e
        cases hg
        obtain ⟨v, rfl, r1⟩ := rep1 rs
        obtain ⟨a, ws, rfl, q, rw'⟩ := lstR_rep S r1 e
        obtain ⟨u, eu, rx⟩ := vals1 r
        cases eu
        cases rx
        obtain ⟨its, ri, pl, hz⟩ := I.list q
        have hlen := ri.length
        refine call_tuple_list pl.isList (fun h2 kp => ?_) (by rw [List.size_toArray]; omega)
        have I1 : Inv X pins σ H { s with heap := h2 } := I.kept (t' := s.toks) kp
        have I2 : Inv X pins σ (upd H h2.objs.size (.frz { cls := .type "tuple", data := .seq its.toArray } (.tup ws))) { s with heap := h2.push { cls := .type "tuple", data := .seq its.toArray } } :=
          I1.laid (t' := s.toks) (fun b o e => Heap.get?_push_of_some _ e) (Nat.le_refl _) ⟨Heap.get?_push_size _ rfl, hz, its, ri, IsTup.new _ _⟩
        exact ⟨.ref h2.objs.size, _, I2, rfl, P.tupN S rw' _ _ (I1.hok.fresh (Nat.le_refl _)) rfl⟩
      · cases hg
  · cases hg
theorem cj_list : CallJ X (.type "list") cList := by
  intro F pins s σ H vs us Q I r ⟨ads, st, ds, d, st', S, rs, hg, P⟩
  unfold cList at hg
  split at hg
  · split at hg
    · rename_i xs e
      cases hg
      obtain ⟨v, rfl, r1⟩ := rep1 rs
      obtain ⟨a, ws, rfl, q, rw'⟩ := seqOf_rep S r1 e
      exact call_list_of pins s σ H _ us Q I r ⟨a, ws, rfl, q, P.lst S rw'⟩
    · cases hg
  · cases hg
end
/-! ### subscripts, slices -/
def oIx : Op2 := fun a b st => match a, b with
  | .p (.str x), .p (.int i) => if x.length ≤ 16777216 then (match atI x.cps.toList i with
    | some c => some (.p (.str ⟨#[c]⟩), st)
    | none => none) else none
  | a, .p (.int i) => (match seqOf a st with
    | some xs => (match atI xs i with
      | some d => some (d, st)
      | none => none)
    | none => none)
  | _, _ => none
theorem reps_at {K : PySem.W.Frag} {F : Addr → Prop} {ads : List Addr} {H : Hp} {vs : List V} {ds : List D} {i : Int} {d : D} (r : Reps K F ads H vs ds) (h : atI ds i = some d) : ∃ v, atI vs i = some v ∧ Rep K F ads H v d := by
  unfold atI at h ⊢
  rw [r.length]
  cases e : ixN ds.length i with
  | none => rw [e] at h; cases h
  | some j =>
    rw [e] at h
    obtain ⟨v, h1, h2⟩ := r.get (show ds[j]? = some d from h)
    exact ⟨v, h1, h2⟩
/-- the items of a cut -/
def cutD {α : Type} (xs : List α) (lo hi : Option Int) : List α := (xs.drop (HT.sIx xs.length 0 lo)).take (HT.sIx xs.length xs.length hi - HT.sIx xs.length 0 lo)
abbrev OI := Env → Store → Option (Option Int × Store)
def pNone : OI := fun _ st => some (none, st)
def pSome (f : EI) : OI := fun env st => match f env st with
  | some (.p (.int i), st1) => some (some i, st1)
  | _ => none
def oCut (a : D) (lo hi : Option Int) (st : Store) : Option (D × Store) := match a with
  | .p (.str x) => if x.length ≤ 16777216 then some (.p (.str (cutS x lo hi)), st) else none
  | a => (match tupOf a with
    | some xs => if HT.sIx xs.length 0 lo = 0 ∧ HT.sIx xs.length xs.length hi = xs.length then some (a, st) else some (mkTup (cutD xs lo hi), st)
    | none => (match lstR a st with
      | some xs => some (.loc st.length, st ++ [.lst (cutD xs lo hi)])
      | none => none))
def iCut (f : EI) (l h : OI) : EI := fun env st => match f env st with
  | some (a, st1) => (match l env st1 with
    | some (lo, st2) => (match h env st2 with
      | some (hi, st3) => oCut a lo hi st3
      | none => none)
    | none => none)
  | none => none
def TOo (K : PySem.W.Frag) (F : Addr → Prop) (f : OI) : St → Hp → (Option Int → Hp → Prop) → Prop := fun σ H Q => ∃ ads env st o st', Sim K F ads st H ∧ EnvOk K F ads H σ env ∧ f env st = some (o, st') ∧
  ∀ new H', Ext ads new H H' → Sim K F (ads ++ new) st' H' → Q o H'
theorem reps_cut {K : PySem.W.Frag} {F : Addr → Prop} {ads : List Addr} {H : Hp} {vs : List V} {ds : List D} (r : Reps K F ads H vs ds) (lo hi : Option Int) : Reps K F ads H (cutV vs lo hi) (cutD ds lo hi) := by
  unfold cutV cutD
  rw [r.length]
  exact (r.drop _).take _
section
variable {X : Cx} {a b e : Expr} {fa fb : EI} {pos : Pos}
theorem je_ix (ha : JE X a fa) (hb : JE X b fb) (hs : PlainIx b) : JE X (.Subscript a b pos) (iBin oIx fa fb) := fun F => by
  have rule : IxR X (rJ2 X.K F oIx) := by
    intro value slice pins s σ H x y v u Q I rx ry h hs
    obtain ⟨ads, st, a, b, d, st', S, ra, rb, hg, P⟩ := h
    unfold oIx at hg
    split at hg
    · split at hg
      · rename_i hz
        split at hg
        · rename_i c e1
          cases hg
          exact ix_str value slice pins s σ H x y v u Q I rx ry ⟨_, _, c, ra.str, rb.int, sizeLine_lit hz, e1, P.here S (.p (.str _))⟩ hs
        · cases hg
      · cases hg
    · split at hg
      · rename_i xs e1
        split at hg
        · rename_i d1 e2
          cases hg
          obtain ⟨p, ws, rfl, q, rw'⟩ := seqOf_rep S ra e1
          obtain ⟨w, h1, h2⟩ := reps_at rw' e2
          refine ix_seq value slice pins s σ H _ y v u Q I rx ry ?_ hs
          exact q.elim (fun q => .inl ⟨p, ws, _, w, rfl, rb.int, q, h1, P.here S h2⟩) fun q => .inr (.inl ⟨p, ws, _, w, rfl, rb.int, q, h1, P.here S h2⟩)
        · cases hg
      · cases hg
    · cases hg
  exact (pe_ix rule (ha F) (hb F) hs).imp fun _ _ _ h => bin_to h
def JO (X : Cx) (o : Option Expr) (f : OI) : Prop := ∀ F, PO X o (TOo X.K F f)
theorem jo_none : JO X none pNone := fun F => ⟨fun pins s σ H Q I h => po_none.run pins s σ H Q I (by
  obtain ⟨ads, env, st, o, st', S, E, hf, P⟩ := h
  cases hf
  exact P [] H (Ext.refl _ _) (app_nil' S))⟩
theorem jo_some (he : JE X e fa) : JO X (some e) (pSome fa) := fun F => ⟨fun pins s σ H Q I h => (po_some (he F)).run pins s σ H Q I (by
  obtain ⟨ads, env, st, o, st', S, E, hf, P⟩ := h
  unfold pSome at hf
  split at hf
  · rename_i i st1 e1
    cases hf
    exact ⟨ads, env, st, _, _, S, E, e1, fun new H1 x ex S1 r1 => ⟨i, r1.int, P new H1 ex S1⟩⟩
  · cases hf)⟩
theorem je_cut {lo hi : Option Expr} {fl fh : OI} {p2 : Pos} (ha : JE X a fa) (hl : JO X lo fl) (hh : JO X hi fh) : JE X (.Subscript a (.Slice lo hi none p2) pos) (iCut fa fl fh) := fun F => by
  have rule : SlR X (fun x lo hi H Q => ∃ ads st d0 d st', Sim X.K F ads st H ∧ Rep X.K F ads H x d0 ∧ oCut d0 lo hi st = some (d, st') ∧ Post X.K F ads H Q d st') := by
    intro pins s σ H x v vl vu lo hi sl Q I rx hsl pl pu h
    obtain ⟨ads, st, d0, d, st', S, ra, hg, P⟩ := h
    unfold oCut at hg
    split at hg
    · split at hg
      · rename_i hz
        cases hg
        exact sl_str pins s σ H x v vl vu lo hi sl Q I rx hsl pl pu ⟨_, ra.str, sizeLine_lit hz, P.here S (.p (.str _))⟩
      · cases hg
    · split at hg
      · rename_i xs e1
        obtain ⟨p, ws, rfl, q, rw'⟩ := tupOf_rep ra e1
        refine sl_tupA pins s σ H _ v vl vu lo hi sl Q I rx hsl pl pu ⟨p, ws, rfl, q, fun hw => ?_, fun hw => ?_⟩
        · rw [rw'.length] at hw
          rw [if_pos hw] at hg
          cases hg
          exact P.here S ra
        · rw [rw'.length] at hw
          rw [if_neg hw] at hg
          cases hg
          exact P.tup S (reps_cut rw' lo hi)
      · split at hg
        · rename_i xs e1
          cases hg
          obtain ⟨p, ws, rfl, q, rw'⟩ := lstR_rep S ra e1
          exact sl_list pins s σ H _ v vl vu lo hi sl Q I rx hsl pl pu ⟨p, ws, rfl, q, P.lst S (reps_cut rw' lo hi)⟩
        · cases hg
  refine (pe_slice rule (ha F) (hl F) (hh F)).imp fun σ H Q h => ?_
  obtain ⟨ads, env, st, d, st', S, E, hf, P⟩ := h
  unfold iCut at hf
  split at hf
  · rename_i a0 st1 e1
    split at hf
    · rename_i lo0 st2 e2
      split at hf
      · rename_i hi0 st3 e3
        refine ⟨ads, env, st, a0, st1, S, E, e1, fun new H1 x ex S1 r1 => ?_⟩
        refine ⟨_, env, st1, lo0, st2, S1, E.mono ex, e2, fun new2 H2 ex2 S2 => ?_⟩
        refine ⟨_, env, st2, hi0, st3, S2, (E.mono ex).mono ex2, e3, fun new3 H3 ex3 S3 => ?_⟩
        exact ⟨_, st3, a0, d, st', S3, (r1.mono ex2).mono ex3, hf, ((P.after ex).after ex2).after ex3⟩
      · cases hf
    · cases hf
  · cases hf
end
/-! ### methods of lists -/
abbrev OpM := D → List D → Store → Option (D × Store)
/-- o.m(..): o, then the arguments -/
def iMeth (g : OpM) (fo : EI) (fa : AI) : EI := fun env st => match fo env st with
  | some (o, st1) => (match fa env st1 with
    | some (ds, st2) => g o ds st2
    | none => none)
  | none => none
def rJm (K : PySem.W.Frag) (F : Addr → Prop) (g : OpM) : V → List V → Hp → VK → Prop := fun x vs H Q => ∃ ads st o ds d st', Sim K F ads st H ∧ Rep K F ads H x o ∧ Reps K F ads H vs ds ∧ g o ds st = some (d, st') ∧ Post K F ads H Q d st'
def MethJ (X : Cx) (id : String) (g : OpM) : Prop := ∀ F, MtR X id (rJm X.K F g)
/-- the receiver is of that kind: a check of the store ahead of the arguments -/
def kindIs (T : String) (o : D) (st : Store) : Bool := match o with
  | .p (.str _) => T == "str"
  | .p (.lst _) => T == "list"
  | .p (.dic _ _) => T == "dict"
  | .loc i => (match st[i]? with
    | some (.lst _) => T == "list"
    | some (.dic _ _) => T == "dict"
    | _ => false)
  | _ => false
def iMethT (T : String) (g : OpM) (fo : EI) (fa : AI) : EI := fun env st => match fo env st with
  | some (o, st1) => if kindIs T o st1 = true then (match fa env st1 with
    | some (ds, st2) => g o ds st2
    | none => none) else none
  | none => none
theorem kind_ty {K : PySem.W.Frag} {F : Addr → Prop} {ads : List Addr} {H : Hp} {st : Store} {T : String} {o : D} {x : V} (S : Sim K F ads st H) (r : Rep K F ads H x o) (h : kindIs T o st = true) : tyV K T x H := by
  unfold kindIs at h
  split at h
  · rw [r.str]; exact beq_iff_eq.mp h
  · cases r with
    | p r => cases r with
      | lst q _ _ => exact .inl ⟨beq_iff_eq.mp h, _, .of q⟩
  · cases r with
    | p r => cases r with
      | dic q _ _ _ => exact .inr (.inr (.inl ⟨beq_iff_eq.mp h, .inl ⟨_, q⟩⟩))
  · cases r with
    | loc e =>
      split at h
      · rename_i xs e1
        obtain ⟨vs, q, _⟩ := S.cell _ _ _ e1 e
        exact .inl ⟨beq_iff_eq.mp h, _, .of q⟩
      · rename_i xs e1
        obtain ⟨vs, q, _⟩ := S.cell _ _ _ e1 e
        exact .inr (.inr (.inl ⟨beq_iff_eq.mp h, .inl ⟨_, q⟩⟩))
      · cases h
  · cases h
section
variable {X : Cx} {o e : Expr} {es : List Expr} {fo : EI} {fa : AI} {name : Str} {apos cpos : Pos} {T id : String} {g : OpM}
theorem je_bm (pa : PlainAttrs T) (slot : Slot T name id) (hty : typeOf (.builtin id) = pure (.type "method_descriptor")) (hm : MethJ X id g) (ho : JE X o fo) (ha : JA X (e :: es) fa)
    (hbase : attributeBase o name X.env (eval o X.env) = eval o X.env)
    (hfew : ((backTo cpos (starEach (e :: es) X.env)).all (fun x => !x.1) && (backToKw cpos (keywordEach [] X.env)).all (fun x => x.1.isSome)
      && decide ((e :: es).length + ([] : List Keyword).length + (if ([] : List Keyword).isEmpty then 0 else 1) < 30)) = true)
    (hline : (apos.endLine == cpos.line) = true) (hs : starEach (e :: es) X.env = (false, eval e X.env) :: starEach es X.env) (hplain : (backTo cpos (starEach es X.env)).any (·.1) = false) :
    JE X (.Call (.Attribute o name apos) (e :: es) [] cpos) (iMethT T g fo fa) := fun F =>
  (pe_bm pa slot hty (hm F) (ho F) (ha F) hbase hfew hline hs hplain).imp fun σ H Q h => by
    obtain ⟨ads, env, st, d, st', S, E, hf, P⟩ := h
    unfold iMethT at hf
    split at hf
    · rename_i o1 st1 e1
      split at hf
      · rename_i hk
        split at hf
        · rename_i ds st2 e2
          refine ⟨ads, env, st, o1, st1, S, E, e1, fun new H1 x ex S1 r1 => ⟨kind_ty S1 r1 hk, ?_⟩⟩
          exact ⟨_, env, st1, ds, st2, S1, E.mono ex, e2, fun new2 H2 vs ex2 S2 r2 => ⟨_, st2, o1, ds, d, st', S2, r1.mono ex2, r2, hf, (P.after ex).after ex2⟩⟩
        · cases hf
      · cases hf
    · cases hf
theorem je_bm0 (pa : PlainAttrs T) (slot : Slot T name id) (hty : typeOf (.builtin id) = pure (.type "method_descriptor")) (hm : MethJ X id g) (ho : JE X o fo)
    (hbase : attributeBase o name X.env (eval o X.env) = eval o X.env) (hline : (apos.endLine == cpos.line) = true) :
    JE X (.Call (.Attribute o name apos) [] [] cpos) (iMethT T g fo aNil) := fun F =>
  (pe_bm0 pa slot hty (hm F) (ho F) hbase hline).imp fun σ H Q h => by
    obtain ⟨ads, env, st, d, st', S, E, hf, P⟩ := h
    unfold iMethT at hf
    split at hf
    · rename_i o1 st1 e1
      split at hf
      · rename_i hk
        exact ⟨ads, env, st, o1, st1, S, E, e1, fun new H1 x ex S1 r1 => ⟨kind_ty S1 r1 hk, _, st1, o1, [], d, st', S1, r1, .nil, hf, P.after ex⟩⟩
      · cases hf
    · cases hf
end
def mAppend : OpM := fun o ds st => match o, ds with
  | .loc i, [d] => (match addTo i d st with
    | some st1 => some (.p .non, st1)
    | none => none)
  | _, _ => none
def mPop : OpM := fun o ds st => match o, ds with
  | .loc i, [] => (match st[i]? with
    | some (.lst xs) => (match xs[xs.length - 1]? with
      | some d => some (d, st.set i (.lst xs.dropLast))
      | none => none)
    | _ => none)
  | _, _ => none
def mExtend : OpM := fun o ds st => match o, ds with
  | .loc i, [d] => (match st[i]?, lstOf d st with
    | some (.lst xs), some ys => if xs.length + ys.length ≤ 16777216 then some (.p .non, st.set i (.lst (xs ++ ys))) else none
    | _, _ => none)
  | _, _ => none
theorem Reps.dropLast {K : PySem.W.Frag} {F : Addr → Prop} {ads : List Addr} {H : Hp} {vs : List V} {ds : List D} (r : Reps K F ads H vs ds) : Reps K F ads H vs.dropLast ds.dropLast := by
  rw [List.dropLast_eq_take, List.dropLast_eq_take, r.length]
  exact r.take _
section
variable {X : Cx}
theorem mj_append : MethJ X "list.append" mAppend := by
  intro F pins s σ H x vs v us Q I rx rv ⟨ads, st, o, ds, d, st', S, ro, rs, hg, P⟩
  unfold mAppend at hg
  split at hg
  · rename_i i d0
    split at hg
    · rename_i st1 e1
      cases hg
      cases ro with
      | loc ea =>
        obtain ⟨y, rfl, ry⟩ := rep1 rs
        obtain ⟨acc, a1, a2, a3, a4⟩ := addTo_ok S ea ry e1
        exact mt_append pins s σ H _ _ v us Q I rx rv ⟨_, acc, y, rfl, rfl, a1, a2, P [] _ _ a3 (app_nil' a4) (.p .non)⟩
    · cases hg
  · cases hg
theorem mj_pop : MethJ X "list.pop" mPop := by
  intro F pins s σ H x vs v us Q I rx rv ⟨ads, st, o, ds, d, st', S, ro, rs, hg, P⟩
  unfold mPop at hg
  split at hg
  · rename_i i
    split at hg
    · rename_i xs e1
      split at hg
      · rename_i d0 e2
        cases hg
        cases ro with
        | loc ea =>
          cases rs
          obtain ⟨ws, q, rw'⟩ := S.cell _ _ _ e1 ea
          obtain ⟨y, h1, h2⟩ := rw'.get e2
          rw [← rw'.length] at h1
          exact mt_pop pins s σ H _ _ v us Q I rx rv ⟨_, ws, y, rfl, rfl, q, h1, P.put S ea q rw'.dropLast h2⟩
      · cases hg
    · cases hg
  · cases hg
theorem mj_extend : MethJ X "list.extend" mExtend := by
  intro F pins s σ H x vs v us Q I rx rv ⟨ads, st, o, ds, d, st', S, ro, rs, hg, P⟩
  unfold mExtend at hg
  split at hg
  · rename_i i d0
    split at hg
    · rename_i xs ys e1 e2
      split at hg
      · rename_i hz
        cases hg
        cases ro with
        | loc ea =>
          obtain ⟨y, rfl, ry⟩ := rep1 rs
          obtain ⟨ws, q, rw'⟩ := S.cell _ _ _ e1 ea
          obtain ⟨b, zs, rfl, q2, rz⟩ := lstOf_rep S ry e2
          exact mt_extend pins s σ H _ _ v us Q I rx rv ⟨_, b, ws, zs, rfl, rfl, q, q2, sizeLine_lit (by rw [rw'.length, rz.length]; exact hz), P.put S ea q (rw'.append rz) (.p .non)⟩
      · cases hg
    · cases hg
  · cases hg
end
end J

set_option Elab.async false
set_option linter.all false
set_option maxRecDepth 100000
set_option maxHeartbeats 4000000
/-! J8: dicts, in, isinstance, methods of texts. -/
namespace J
open PySem PySem.Spec PyProof.Rows L2
set_option autoImplicit false
/-! ### dicts -/
def keyD : D → Option Key
  | .p (.int i) => some (.inl i)
  | .p (.str x) => some (.inr x)
  | _ => none
def dget : List Key → List D → Key → Option D
  | k :: ks, v :: vs, x => if k = x then some v else dget ks vs x
  | _, _, _ => none
def dicOf (d : D) (st : Store) : Option (List Key × List D) := match d with
  | .p (.dic ks xs) => some (ks, xs.map D.p)
  | .loc i => (match st[i]? with
    | some (.dic ks xs) => some (ks, xs)
    | _ => none)
  | _ => none
section
variable {K : PySem.W.Frag} {F : Addr → Prop} {ads : List Addr} {H : Hp} {Q : VK} {st : Store}
theorem keyD_rep {v : V} {d : D} {k : Key} (r : Rep K F ads H v d) (h : keyD d = some k) : v = kV k := by
  unfold keyD at h
  split at h
  · cases h; exact r.int
  · cases h; exact r.str
  · cases h
theorem dicOf_rep {v : V} {d : D} {ks : List Key} {xs : List D} (S : Sim K F ads st H) (r : Rep K F ads H v d) (h : dicOf d st = some (ks, xs)) :
    ∃ (a : Addr) (kvs : List (Key × V)), v = .ref a ∧ H a = some (.dK kvs) ∧ kvs.map (·.1) = ks ∧ Reps K F ads H (kvs.map (·.2)) xs := by
  cases r with
  | p r =>
    cases r with
    | dic q _ e rs => cases h; exact ⟨_, _, rfl, q, e, rs.ofP⟩
    | _ => cases h
  | mix q rs => cases h
  | loc e =>
    unfold dicOf at h
    dsimp only at h
    split at h
    · rename_i ks2 xs2 e1
      cases h
      obtain ⟨kvs, q, e2, rs⟩ := S.cell _ _ _ e1 e
      exact ⟨_, kvs, rfl, q, e2, rs⟩
    · cases h
theorem dget_rep : ∀ {kvs : List (Key × V)} {xs : List D} {k : Key}, Reps K F ads H (kvs.map (·.2)) xs → match dget (kvs.map (·.1)) xs k with
    | some d => ∃ v, valV kvs k = some v ∧ Rep K F ads H v d
    | none => valV kvs k = none
  | [], _, k, r => by cases r; rfl
  | p :: kvs, _, k, r => by
    cases r with
    | cons r rr =>
      rename_i d xs
      show (match (if p.1 = k then some d else dget (kvs.map (·.1)) xs k) with
        | some d => ∃ v, valV (p :: kvs) k = some v ∧ Rep K F ads H v d
        | none => valV (p :: kvs) k = none)
      by_cases e : p.1 = k
      · rw [if_pos e]
        exact ⟨p.2, valV_pos e, r⟩
      · rw [if_neg e, valV_neg e]
        exact dget_rep rr
theorem dget_at {a : Addr} {kvs : List (Key × V)} {xs : List D} {k : Key} (q : H a = some (.dK kvs)) (r : Reps K F ads H (kvs.map (·.2)) xs) : ∃ o, DGet H a (kV k) o ∧ (match dget (kvs.map (·.1)) xs k with
    | some d => ∃ v, o = some v ∧ Rep K F ads H v d
    | none => o = none) := by
  refine ⟨valV kvs k, .k q, ?_⟩
  have z := dget_rep (k := k) r
  split at z
  · exact z
  · exact z
end
/-- a[b], dicts too -/
def oIxA : Op2 := fun a b st => match dicOf a st with
  | some (ks, xs) => (match keyD b with
    | some k => (match dget ks xs k with
      | some d => some (d, st)
      | none => none)
    | none => none)
  | none => oIx a b st
section
variable {X : Cx} {a b e : Expr} {fa fb : EI} {pos : Pos}
theorem je_ixA (hu : X.A.units + 1 < cLine) (ha : JE X a fa) (hb : JE X b fb) (hs : PlainIx b) : JE X (.Subscript a b pos) (iBin oIxA fa fb) := fun F => by
  have rule : IxR X (rJ2 X.K F oIxA) := by
    intro value slice pins s σ H x y v u Q I rx ry h hs
    obtain ⟨ads, st, a, b, d, st', S, ra, rb, hg, P⟩ := h
    unfold oIxA at hg
    split at hg
    · rename_i ks xs e1
      split at hg
      · rename_i k e2
        split at hg
        · rename_i d0 e3
          cases hg
          obtain ⟨p, kvs, rfl, q, rfl, rs⟩ := dicOf_rep S ra e1
          obtain rfl := keyD_rep rb e2
          obtain ⟨o, g, z⟩ := dget_at (k := k) q rs
          rw [e3] at z
          obtain ⟨w, rfl, rw'⟩ := z
          obtain rfl : v = Value.ref p := rx
          exact tail_any (dict_typeIs I g) slot_dict_getitem.lookup (d_getItem hu I g ry fun w' s3 I3 rv => ⟨w, H, I3, rv, P.here S rw'⟩) hs
        · cases hg
      · cases hg
    · unfold oIx at hg
      split at hg
      · split at hg
        · rename_i hz
          split at hg
          · rename_i c e1
            cases hg
            exact ix_str value slice pins s σ H x y v u Q I rx ry ⟨_, _, c, ra.str, rb.int, sizeLine_lit hz, e1, P.here S (.p (.str _))⟩ hs
          · cases hg
        · cases hg
      · split at hg
        · rename_i xs e1
          split at hg
          · rename_i d1 e2
            cases hg
            obtain ⟨p, ws, rfl, q, rw'⟩ := seqOf_rep S ra e1
            obtain ⟨w, h1, h2⟩ := reps_at rw' e2
            refine ix_seq value slice pins s σ H _ y v u Q I rx ry ?_ hs
            exact q.elim (fun q => .inl ⟨p, ws, _, w, rfl, rb.int, q, h1, P.here S h2⟩) fun q => .inr (.inl ⟨p, ws, _, w, rfl, rb.int, q, h1, P.here S h2⟩)
          · cases hg
        · cases hg
      · cases hg
  exact (pe_ix rule (ha F) (hb F) hs).imp fun _ _ _ h => bin_to h
end
/-! ### in, not in -/
def flatD : D → Bool
  | .p .non => true
  | .p (.bl _) => true
  | .p (.int _) => true
  | .p (.str _) => true
  | _ => false
def eqF : D → D → Bool
  | .p .non, .p .non => true
  | .p (.bl a), .p (.bl b) => a == b
  | .p (.bl a), .p (.int j) => (if a then 1 else 0) == j
  | .p (.int i), .p (.bl b) => i == (if b then 1 else 0)
  | .p (.int i), .p (.int j) => i == j
  | .p (.str x), .p (.str y) => x == y
  | _, _ => false
def toV : D → V
  | .p (.bl b) => .bl b
  | .p (.int i) => .int i
  | .p (.str x) => .str x
  | _ => .non
theorem toV_rep {K : PySem.W.Frag} {F : Addr → Prop} {ads : List Addr} {H : Hp} {v : V} {d : D} (r : Rep K F ads H v d) (h : flatD d = true) : v = toV d ∧ flatV v = true := by
  cases r with
  | loc _ => cases h
  | mix _ _ => cases h
  | p r => cases r <;> first | exact ⟨rfl, rfl⟩ | cases h
theorem toVs_rep {K : PySem.W.Frag} {F : Addr → Prop} {ads : List Addr} {H : Hp} : ∀ {vs : List V} {ds : List D}, Reps K F ads H vs ds → ds.all flatD = true → vs = ds.map toV ∧ vs.all flatV = true
  | _, _, .nil, _ => ⟨rfl, rfl⟩
  | _, _, .cons r t, h => by
    rw [List.all_cons, Bool.and_eq_true] at h
    obtain ⟨h1, h2⟩ := toV_rep r h.1
    obtain ⟨h3, h4⟩ := toVs_rep t h.2
    exact ⟨by rw [h1, h3]; rfl, by rw [List.all_cons, h2, h4]; rfl⟩
def inF (d : D) (ds : List D) : Bool := inV (toV d) (ds.map toV)
def oIn (neg : Bool) : Op2 := fun a b st => match dicOf b st with
  | some (ks, xs) => (match keyD a with
    | some k => some (.p (.bl ((dget ks xs k).isSome != neg)), st)
    | none => none)
  | none => (match a, b with
    | .p (.str x), .p (.str y) => (match x.cps.toList with
      | [c] => some (.p (.bl (decide (c ∈ y.cps.toList) != neg)), st)
      | _ => some (.p (.bl (!(Builtin.Str.occurrences y x 0 y.length 1).isEmpty != neg)), st))
    | a, b => (match seqOf b st with
      | some xs => if flatD a = true ∧ xs.all flatD = true then some (.p (.bl (inF a xs != neg)), st) else none
      | none => none))
section
variable {X : Cx}
theorem str_one {x : Str} {c : Nat} (h : x.cps.toList = [c]) : x = ⟨#[c]⟩ := by
  obtain ⟨xs⟩ := x
  obtain ⟨l⟩ := xs
  simp at h
  rw [h]
theorem oj_in (hu : X.A.units + 1 < cLine) : OpJ X (compareOp .In) (oIn false) := by
  intro F pins s σ H x y v u Q I rx ry ⟨ads, st, a, b, d, st', S, ra, rb, hg, P⟩
  unfold oIn at hg
  split at hg
  · rename_i ks xs e1
    split at hg
    · rename_i k e2
      cases hg
      obtain ⟨p, kvs, rfl, q, rfl, rs⟩ := dicOf_rep S rb e1
      obtain rfl := keyD_rep ra e2
      obtain ⟨o, g, z⟩ := dget_at (k := k) q rs
      obtain rfl : u = Value.ref p := ry
      have e3 : o.isSome = ((dget (kvs.map (·.1)) xs k).isSome != false) := by
        cases w : dget (kvs.map (·.1)) xs k with
        | none => rw [w] at z; rw [z]; rfl
        | some d => rw [w] at z; obtain ⟨_, z, _⟩ := z; rw [z]; rfl
      refine d_in hu I g rx fun s3 I3 => ⟨.bl o.isSome, H, I3, rfl, ?_⟩
      rw [e3]
      exact P.here S (.p (.bl _))
    · cases hg
  · split at hg
    · split at hg
      · rename_i c e2
        cases hg
        rw [Bool.bne_false] at P
        exact op_in_sign pins s σ H x y v u Q I rx ry ⟨c, _, by rw [ra.str, str_one e2], rb.str, P.here S (.p (.bl _))⟩
      · cases hg
        rw [Bool.bne_false] at P
        exact op_in_str pins s σ H x y v u Q I rx ry ⟨_, _, ra.str, rb.str, P.here S (.p (.bl _))⟩
    · split at hg
      · rename_i xs e1
        split at hg
        · rename_i hh
          cases hg
          rw [Bool.bne_false] at P
          obtain ⟨p, ws, rfl, q, rs⟩ := seqOf_rep S rb e1
          obtain ⟨h1, h2⟩ := toV_rep ra hh.1
          obtain ⟨h3, h4⟩ := toVs_rep rs hh.2
          refine op_in_seq pins s σ H x _ v u Q I rx ry ⟨p, ws, rfl, q, h2, h4, ?_⟩
          rw [if_neg Bool.false_ne_true, h1, h3]
          exact P.here S (.p (.bl _))
        · cases hg
      · cases hg
theorem oj_notIn (hu : X.A.units + 1 < cLine) : OpJ X (compareOp .NotIn) (oIn true) := by
  intro F pins s σ H x y v u Q I rx ry ⟨ads, st, a, b, d, st', S, ra, rb, hg, P⟩
  unfold oIn at hg
  split at hg
  · rename_i ks xs e1
    split at hg
    · rename_i k e2
      cases hg
      obtain ⟨p, kvs, rfl, q, rfl, rs⟩ := dicOf_rep S rb e1
      obtain rfl := keyD_rep ra e2
      obtain ⟨o, g, z⟩ := dget_at (k := k) q rs
      obtain rfl : u = Value.ref p := ry
      have e3 : (!o.isSome) = ((dget (kvs.map (·.1)) xs k).isSome != true) := by
        cases w : dget (kvs.map (·.1)) xs k with
        | none => rw [w] at z; rw [z]; rfl
        | some d => rw [w] at z; obtain ⟨_, z, _⟩ := z; rw [z]; rfl
      refine d_notIn hu I g rx fun s3 I3 => ⟨.bl (!o.isSome), H, I3, rfl, ?_⟩
      rw [e3]
      exact P.here S (.p (.bl _))
    · cases hg
  · split at hg
    · split at hg
      · rename_i c e2
        cases hg
        rw [Bool.bne_true] at P
        exact op_notIn_sign pins s σ H x y v u Q I rx ry ⟨c, _, by rw [ra.str, str_one e2], rb.str, P.here S (.p (.bl _))⟩
      · cases hg
        rw [Bool.bne_true] at P
        exact op_notIn_str pins s σ H x y v u Q I rx ry ⟨_, _, ra.str, rb.str, P.here S (.p (.bl _))⟩
    · split at hg
      · rename_i xs e1
        split at hg
        · rename_i hh
          cases hg
          rw [Bool.bne_true] at P
          obtain ⟨p, ws, rfl, q, rs⟩ := seqOf_rep S rb e1
          obtain ⟨h1, h2⟩ := toV_rep ra hh.1
          obtain ⟨h3, h4⟩ := toVs_rep rs hh.2
          refine op_notIn_seq pins s σ H x _ v u Q I rx ry ⟨p, ws, rfl, q, h2, h4, ?_⟩
          rw [if_pos rfl, h1, h3]
          exact P.here S (.p (.bl _))
        · cases hg
      · cases hg
end
/-! ### isinstance -/
inductive Tg where
  | b (n : String) | own (C : Str)
def tagOf (d : D) (st : Store) : Option Tg := match d with
  | .p .non => some (.b "NoneType")
  | .p (.bl _) => some (.b "bool")
  | .p (.int _) => some (.b "int")
  | .p (.str _) => some (.b "str")
  | .p (.tup _) => some (.b "tuple")
  | .p (.tun _) => some (.b "tuple")
  | .p (.lst _) => some (.b "list")
  | .p (.frz _) => some (.b "list")
  | .p (.dic _ _) => some (.b "dict")
  | .p (.ins C _ _) => some (.own C)
  | .mix _ => some (.b "tuple")
  | .loc i => (match st[i]? with
    | some (.lst _) => some (.b "list")
    | some (.dic _ _) => some (.b "dict")
    | some (.ins C _ _) => some (.own C)
    | none => none)
  | _ => none
def tagV (K : PySem.W.Frag) : Tg → Value
  | .b n => .type n
  | .own C => .ref (He.ga K C)
/-- what of a class is needed for isinstance of its instances -/
structure InsOk (K : PySem.W.Frag) (C : Addr) : Prop where
  cl : Cls K C
  ha : PySem.W.findIn K (.ref C) "__class__" = some (some (.builtin "object.__class__"))
  hn : PySem.W.specialIn K (.builtin "object.__class__") "__get__" = some (some (.builtin "getset_descriptor.__get__"))
  ht : PySem.W.takesIn K (.builtin "object.__class__") = some true
  hm : PySem.W.mroIn K C (.type "object") = some true
def tagOk (cs : List Str) : Tg → Bool
  | .b _ => true
  | .own C => cs.contains C
/-- the program's classes cs: none is above another or a built-in's -/
structure ClsOk (K : PySem.W.Frag) (cs : List Str) : Prop where
  ins : ∀ C ∈ cs, InsOk K (He.ga K C)
  own : ∀ C ∈ cs, ∀ E ∈ cs, PySem.W.kitOne K (.ref (He.ga K C)) (.ref (He.ga K E)) = some (C == E)
  dn : ∀ C ∈ cs, ∀ T ∈ ["int", "bool", "str", "tuple", "list", "dict"], PySem.W.kitOne K (.ref (He.ga K C)) (.type T) = some false
  up : ∀ C ∈ cs, ∀ T ∈ ["NoneType", "int", "bool", "str", "tuple", "list", "dict"], PySem.W.kitOne K (.type T) (.ref (He.ga K C)) = some false
def subB (a b : String) : Bool := a == b || (a == "bool" && b == "int")
def isT (cs : List Str) (t c : Tg) : Option Bool := match t, c with
  | .b a, .b b => if ["NoneType", "int", "bool", "str", "tuple", "list", "dict"].contains a && ["int", "bool", "str", "tuple", "list", "dict"].contains b then some (subB a b) else none
  | .b a, .own C => if ["NoneType", "int", "bool", "str", "tuple", "list", "dict"].contains a && cs.contains C then some false else none
  | .own C, .b b => if ["int", "bool", "str", "tuple", "list", "dict"].contains b && cs.contains C then some false else none
  | .own C, .own E => if cs.contains C && cs.contains E then some (C == E) else none
theorem subB_ok : ["NoneType", "int", "bool", "str", "tuple", "list", "dict"].all (fun a => ["int", "bool", "str", "tuple", "list", "dict"].all fun b => kitB a b == some (subB a b)) = true := by decide +kernel
theorem mem_of_contains {x : Str} {l : List Str} (h : l.contains x = true) : x ∈ l := by
  rw [List.contains_iff_mem] at h
  exact h
theorem mem_of_containsS {x : String} {l : List String} (h : l.contains x = true) : x ∈ l := by
  rw [List.contains_iff_mem] at h
  exact h
theorem isT_ok {K : PySem.W.Frag} {cs : List Str} {t c : Tg} {b : Bool} (C0 : ClsOk K cs) (h : isT cs t c = some b) : PySem.W.kitOne K (tagV K t) (tagV K c) = some b := by
  unfold isT at h
  split at h
  · split at h
    · rename_i hh
      cases h
      obtain ⟨h1, h2⟩ := Bool.and_eq_true_iff.mp hh
      have z := List.all_eq_true.mp (List.all_eq_true.mp subB_ok _ (mem_of_containsS h1)) _ (mem_of_containsS h2)
      exact kit_ty (beq_iff_eq.mp z)
    · cases h
  · split at h
    · rename_i hh
      cases h
      obtain ⟨h1, h2⟩ := Bool.and_eq_true_iff.mp hh
      exact C0.up _ (mem_of_contains h2) _ (mem_of_containsS h1)
    · cases h
  · split at h
    · rename_i hh
      cases h
      obtain ⟨h1, h2⟩ := Bool.and_eq_true_iff.mp hh
      exact C0.dn _ (mem_of_contains h2) _ (mem_of_containsS h1)
    · cases h
  · split at h
    · rename_i hh
      cases h
      obtain ⟨h1, h2⟩ := Bool.and_eq_true_iff.mp hh
      exact C0.own _ (mem_of_contains h1) _ (mem_of_contains h2)
    · cases h
theorem sqT_tyX {K : PySem.W.Frag} {H : Hp} {a : Addr} {vs : List V} (q : SqT K H a vs) : TyX K H (.ref a) (.type "tuple") := by
  rcases q with (q | ⟨o, q⟩) | ⟨o, its, n, q, hc, _⟩
  · exact .base (.tup q)
  · exact .fTuple q
  · exact .kTuple q hc
theorem tag_tyX {K : PySem.W.Frag} {F : Addr → Prop} {ads : List Addr} {H : Hp} {st : Store} {cs : List Str} {v : V} {d : D} {t : Tg} (C0 : ClsOk K cs) (S : Sim K F ads st H) (r : Rep K F ads H v d) (h : tagOf d st = some t) (ht : tagOk cs t = true) :
    TyX K H v (tagV K t) := by
  have ins : ∀ {a : Addr} {C : Str} {dx : Addr} {fs : List (Str × V)}, H a = some (.ins (He.ga K C) dx fs) → tagOk cs (.own C) = true → TyX K H (.ref a) (tagV K (.own C)) := fun {a C dx fs} e hc => by
    have z := C0.ins C (mem_of_contains hc)
    exact .base (.ins e z.cl z.ha z.hn z.ht z.hm)
  cases r with
  | mix q rs => cases h; exact sqT_tyX q
  | loc e =>
    unfold tagOf at h
    dsimp only at h
    split at h
    · rename_i xs e1
      cases h
      obtain ⟨vs, q, _⟩ := S.cell _ _ _ e1 e
      exact .base (.lst q)
    · rename_i xs e1
      cases h
      obtain ⟨vs, q, _⟩ := S.cell _ _ _ e1 e
      exact .base (.dK q)
    · rename_i xs e1
      cases h
      obtain ⟨dx, vs, q, _⟩ := S.cell _ _ _ e1 e
      exact ins q ht
    · cases h
  | p r =>
    cases r with
    | non => cases h; exact .base .non
    | bl b => cases h; exact .base (.bl b)
    | int b => cases h; exact .base (.int b)
    | str b => cases h; exact .base (.str b)
    | ty b => cases h
    | glo b => cases h
    | tup q rs => cases h; exact sqT_tyX q
    | tun q rs => cases h; exact sqT_tyX q.sqT
    | lst q _ rs => cases h; exact .base (.lst q)
    | frz q rs =>
      cases h
      rcases q with ⟨o, q⟩ | ⟨o, its, n, q, hc, _⟩
      · exact .base (.frz q)
      · exact .kList q hc
    | dic q _ _ rs => cases h; exact .base (.dK q)
    | ins q _ _ rs => cases h; exact ins q ht
def clsTag : D → Option Tg
  | .p (.ty n) => some (.b n)
  | .p (.glo C) => some (.own C)
  | _ => none
theorem clsTag_rep {K : PySem.W.Frag} {F : Addr → Prop} {ads : List Addr} {H : Hp} {v : V} {d : D} {t : Tg} (r : Rep K F ads H v d) (h : clsTag d = some t) : ClsV v (tagV K t) := by
  unfold clsTag at h
  split at h
  · cases h; rw [r.ty]; exact .ty _
  · cases h
    cases r with
    | p r => cases r; exact .own _
  · cases h
/-- isinstance(x, C) -/
def cIsi (cs : List Str) : OpN := fun ds st => match ds with
  | [d, c] => (match tagOf d st, clsTag c with
    | some t, some u => if tagOk cs t = true then (match isT cs t u with
      | some b => some (.p (.bl b), st)
      | none => none) else none
    | _, _ => none)
  | _ => none
def isAny (cs : List Str) (t : Tg) : List Tg → Option Bool
  | [] => some false
  | c :: r => match isT cs t c with
    | some true => some true
    | some false => isAny cs t r
    | none => none
theorem isAny_ok {K : PySem.W.Frag} {cs : List Str} {t : Tg} (C0 : ClsOk K cs) : ∀ {l : List Tg} {b : Bool}, isAny cs t l = some b → PySem.W.kitAny K (tagV K t) (l.map (tagV K)) = some b
  | [], b, h => by cases h; exact kitAny_nil
  | c :: r, b, h => by
    unfold isAny at h
    split at h
    · rename_i e; cases h; exact kitAny_cons (isT_ok C0 e) (fun z => nomatch z) (fun _ => rfl)
    · rename_i e; exact kitAny_cons (isT_ok C0 e) (fun _ => isAny_ok C0 h) (fun z => nomatch z)
    · cases h
def mapT : List D → Option (List Tg)
  | [] => some []
  | d :: r => match clsTag d with
    | some t => (match mapT r with
      | some ts => some (t :: ts)
      | none => none)
    | none => none
theorem clsTags_rep {K : PySem.W.Frag} {F : Addr → Prop} {ads : List Addr} {H : Hp} : ∀ {vs : List V} {ds : List D} {ts : List Tg}, Reps K F ads H vs ds → mapT ds = some ts → Paired ClsV vs (ts.map (tagV K))
  | _, _, _, .nil, h => by cases h; exact .nil
  | _, _, _, .cons (x := d) (xs := ds) r t, h => by
    unfold mapT at h
    split at h
    · rename_i a e1
      split at h
      · rename_i l e2
        cases h
        exact .cons (clsTag_rep r e1) (clsTags_rep t e2)
      · cases h
    · cases h
section
variable {X : Cx}
theorem cj_isi {cs : List Str} (C0 : ClsOk X.K cs) : CallJ X (.builtin "isinstance") (cIsi cs) := by
  intro F pins s σ H vs us Q I r ⟨ads, st, ds, d, st', S, rs, hg, P⟩
  unfold cIsi at hg
  split at hg
  · split at hg
    · rename_i t u e1 e2
      split at hg
      · rename_i ht
        split at hg
        · rename_i b e3
          cases hg
          obtain ⟨v, v2, rfl, r1, r2⟩ := rep2 rs
          exact call_isi pins s σ H _ us Q I r ⟨v, v2, _, _, b, rfl, clsTag_rep r2 e2, tag_tyX C0 S r1 e1 ht, isT_ok C0 e3, P.here S (.p (.bl _))⟩
        · cases hg
      · cases hg
    · cases hg
  · cases hg
end
/-! ### methods of texts, of dicts -/
def mSplit : OpM := fun o ds st => match o, ds with
  | .p (.str a), [.p (.str b)] => if (b.length == 0) = false ∧ a.length ≤ 16777214 then some (.loc st.length, st ++ [.lst ((Txt.split a b).map fun x => .p (.str x))]) else none
  | _, _ => none
def strsOf : List D → Option (List Str)
  | [] => some []
  | .p (.str x) :: r => (match strsOf r with
    | some xs => some (x :: xs)
    | none => none)
  | _ :: _ => none
def mJoin : OpM := fun o ds st => match o, ds with
  | .p (.str a), [d] => (match seqOf d st with
    | some xs => (match strsOf xs with
      | some ys => if (ys.map (·.length)).sum + ys.length * a.length ≤ 16777216 then some (.p (.str (Txt.join a ys)), st) else none
      | none => none)
    | none => none)
  | _, _ => none
theorem strs_rep {K : PySem.W.Frag} {F : Addr → Prop} {ads : List Addr} {H : Hp} (ys : List Str) : Reps K F ads H (ys.map V.str) (ys.map fun x => .p (.str x)) := by
  induction ys with
  | nil => exact .nil
  | cons y ys ih => exact .cons (.p (.str y)) ih
theorem strsOf_rep {K : PySem.W.Frag} {F : Addr → Prop} {ads : List Addr} {H : Hp} : ∀ {vs : List V} {ds : List D} {ys : List Str}, Reps K F ads H vs ds → strsOf ds = some ys → vs = ys.map V.str
  | _, _, _, .nil, h => by cases h; rfl
  | _, _, _, .cons r t, h => by
    unfold strsOf at h
    split at h
    · rename_i e0; cases e0
    · rename_i e0
      obtain ⟨e1, e2⟩ := List.cons.inj e0
      subst e1 e2
      split at h
      · rename_i xs e2
        cases h
        rw [r.str, strsOf_rep t e2]
        rfl
      · cases h
    · cases h
def mGet : OpM := fun o ds st => match dicOf o st with
  | some (ks, xs) => (match ds with
    | [a] => (match keyD a with
      | some k => (match dget ks xs k with
        | some d => some (d, st)
        | none => some (.p .non, st))
      | none => none)
    | [a, z] => (match keyD a with
      | some k => (match dget ks xs k with
        | some d => some (d, st)
        | none => some (z, st))
      | none => none)
    | _ => none)
  | none => none
section
variable {X : Cx}
theorem mj_split : MethJ X "str.split" mSplit := by
  intro F pins s σ H x vs v us Q I rx rv ⟨ads, st, o, ds, d, st', S, ro, rs, hg, P⟩
  unfold mSplit at hg
  split at hg
  · split at hg
    · rename_i hz
      cases hg
      obtain ⟨y, rfl, ry⟩ := rep1 rs
      refine mt_split pins s σ H x _ v us Q I rx rv ⟨_, _, ro.str, by rw [ry.str], hz.1, by rw [sizeLine_eq]; have := hz.2; omega, ?_⟩
      exact fun p hp => P.lst S (strs_rep _) p hp
    · cases hg
  · cases hg
theorem mj_join : MethJ X "str.join" mJoin := by
  intro F pins s σ H x vs v us Q I rx rv ⟨ads, st, o, ds, d, st', S, ro, rs, hg, P⟩
  unfold mJoin at hg
  split at hg
  · split at hg
    · rename_i xs e1
      split at hg
      · rename_i ys e2
        split at hg
        · rename_i hz
          cases hg
          obtain ⟨y, rfl, ry⟩ := rep1 rs
          obtain ⟨p, ws, rfl, q, rw'⟩ := seqOf_rep S ry e1
          obtain rfl := strsOf_rep rw' e2
          exact mt_join pins s σ H x _ v us Q I rx rv ⟨_, p, ys, ro.str, rfl, q, hz, P.here S (.p (.str _))⟩
        · cases hg
      · cases hg
    · cases hg
  · cases hg
theorem mj_get (hu : X.A.units + 1 < cLine) : MethJ X "dict.get" mGet := by
  intro F pins s σ H x vs v us Q I rx rv ⟨ads, st, o, ds, d, st', S, ro, rs, hg, P⟩
  unfold mGet at hg
  split at hg
  · rename_i ks xs e1
    obtain ⟨p, kvs, rfl, q, rfl, rw'⟩ := dicOf_rep S ro e1
    obtain rfl : v = Value.ref p := rx
    split at hg
    · split at hg
      · rename_i k e2
        obtain ⟨y, rfl, ry⟩ := rep1 rs
        obtain rfl := keyD_rep ry e2
        obtain ⟨u, rfl, ru⟩ := vals1 rv
        obtain ⟨o, g, z⟩ := dget_at (k := k) q rw'
        refine d_get1 hu I g ru fun w' s3 I3 r3 => ⟨_, H, I3, r3, ?_⟩
        split at hg
        · rename_i d0 e3
          cases hg
          rw [e3] at z
          obtain ⟨w, rfl, rw2⟩ := z
          exact P.here S rw2
        · rename_i e3
          cases hg
          rw [e3] at z
          subst z
          exact P.here S (.p .non)
      · cases hg
    · split at hg
      · rename_i k e2
        obtain ⟨y, y2, rfl, ry, ry2⟩ := rep2 rs
        obtain rfl := keyD_rep ry e2
        obtain ⟨u, u2, rfl, ru, ru2⟩ := vals2 rv
        obtain ⟨o, g, z⟩ := dget_at (k := k) q rw'
        refine d_get2 hu I g ru ru2 fun w' s3 I3 r3 => ⟨_, H, I3, r3, ?_⟩
        split at hg
        · rename_i d0 e3
          cases hg
          rw [e3] at z
          obtain ⟨w, rfl, rw2⟩ := z
          exact P.here S rw2
        · rename_i e3
          cases hg
          rw [e3] at z
          subst z
          exact P.here S ry2
      · cases hg
    · cases hg
  · cases hg
end
end J

set_option Elab.async false
set_option linter.all false
set_option maxRecDepth 100000
set_option maxHeartbeats 4000000
/-! J9: enumerate and zip of lists and tuples, in any mix. -/
namespace J
open PySem PySem.Spec PyProof.Rows L2
set_option autoImplicit false
/-! ### what is walked: a list or a tuple -/
inductive SK where
  | l | t
def SK.iter (k : SK) (h : Heap) (n a : Addr) (i : Nat) : Prop := match k with
  | .l => h.IsListIter n a i
  | .t => h.IsTupleIter n a i
def SK.seq (k : SK) (h : Heap) (a : Addr) (xs : Array Value) : Prop := match k with
  | .l => h.IsList a xs
  | .t => h.IsTuple a xs
def SK.sits (k : SK) (K : PySem.W.Frag) (H : Hp) (a : Addr) (xs : List V) : Prop := match k with
  | .l => SqL K H a xs
  | .t => SqT K H a xs
def SK.ob (k : SK) (a : Addr) : Obj := match k with
  | .l => { cls := .type "list_iterator", data := .fields #[.ref a, .int 0 0] }
  | .t => { cls := .type "tuple_iterator", data := .fields #[.ref a, .int 0 0] }
theorem SK.begins (k : SK) (a : Addr) (xs : Array Value) : Begins (.ref a) (k.ob a) fun h => k.seq h a xs := by
  cases k with
  | l => exact begins_list a xs
  | t => exact begins_tuple a xs
theorem SK.draws (k : SK) {prog : Program} {w : World} {A : Around} (hh : A.handled = none) (n a : Addr) (hne : a ≠ n) (xs : Array Value) :
    Draws prog w A n [n, a] xs.size (fun i v => xs[i]? = some v) (fun i h => k.iter h n a i ∧ k.seq h a xs) := by
  cases k with
  | l => exact Draws.list hh n a hne xs
  | t => exact Draws.tuple hh n a hne xs
/-- a drawing that has i0 items or more; just i0 if none is left -/
theorem SK.any (k : SK) {prog : Program} {w : World} {A : Around} (hh : A.handled = none) (n a : Addr) (hne : a ≠ n) (xs : Array Value) (j : Nat) :
    ∃ (m : Nat) (P : Nat → Value → Prop) (St : Nat → Heap → Prop), j ≤ m ∧ (xs.size ≤ j → m = j) ∧ Draws prog w A n [n, a] m P St ∧ ∀ h, k.iter h n a j → k.seq h a xs → St j h := by
  by_cases hj : xs.size ≤ j
  · refine ⟨j, fun _ _ => False, fun i h => i = j ∧ k.iter h n a i ∧ k.seq h a xs, Nat.le_refl _, fun _ => rfl, ?_, fun h p q => ⟨rfl, p, q⟩⟩
    refine ⟨fun i h st => ?_, fun i h h' st q => ?_, fun i s Q E hi st _ => absurd hi (by rw [st.1]; exact Nat.lt_irrefl _), fun s Q E st hE => ?_⟩
    · cases k with
      | l => obtain ⟨o, e, _⟩ := st.2.1; exact ⟨o, e⟩
      | t => obtain ⟨o, e, _⟩ := st.2.1; exact ⟨o, e⟩
    · cases k with
      | l => exact ⟨st.1, Heap.IsListIter.at st.2.1 fun o e => q n (by simp) o e, Heap.IsList.at st.2.2 fun o e => q a (by simp) o e⟩
      | t => exact ⟨st.1, Heap.IsTupleIter.at st.2.1 fun o e => q n (by simp) o e, Heap.IsTuple.at st.2.2 fun o e => q a (by simp) o e⟩
    · have none_ : xs[j]? = none := Array.getElem?_eq_none_iff.mpr hj
      cases k with
      | l => exact wpAny_nextOf_list_end hh st.2.1 st.2.2 none_ hE
      | t => exact wpAny_nextOf_tuple_end hh st.2.1 st.2.2 none_ hE
  · exact ⟨xs.size, _, _, by omega, fun z => absurd z hj, k.draws hh n a hne xs, fun h p q => ⟨p, q⟩⟩
theorem SK.new_iter (k : SK) {h : Heap} {n a : Addr} (e : h.get? n = some (k.ob a)) : k.iter h n a 0 := by
  cases k with
  | l => exact ⟨_, e, rfl, rfl⟩
  | t => exact ⟨_, e, rfl, rfl⟩
theorem SK.iter_at {k : SK} {h h' : Heap} {n a : Addr} {i : Nat} (x : k.iter h n a i) (q : ∀ o, h.get? n = some o → h'.get? n = some o) : k.iter h' n a i := by
  cases k with
  | l => exact Heap.IsListIter.at x q
  | t => exact Heap.IsTupleIter.at x q
theorem SK.iter_ob {k : SK} {h : Heap} {n a : Addr} {i : Nat} (x : k.iter h n a i) : ∃ o, h.get? n = some o ∧ ∀ v, o.data ≠ .cell v := by
  cases k with
  | l => obtain ⟨o, e, _, d⟩ := x; exact ⟨o, e, fun v z => by rw [d] at z; cases z⟩
  | t => obtain ⟨o, e, _, d⟩ := x; exact ⟨o, e, fun v z => by rw [d] at z; cases z⟩
section
variable {X : Cx} {pins : List (Addr × Obj)} {σ : St} {H : Hp} {s : Shared} {a : Addr} {xs ys : List V}
theorem SK.there (k : SK) (I : Inv X pins σ H s) (q : k.sits X.K H a xs) : ∃ its : List Value, Vals xs its ∧ k.seq s.heap a its.toArray ∧ a < s.heap.objs.size := by
  cases k with
  | l => obtain ⟨its, r, p, _⟩ := I.list q; exact ⟨its, r, p.isList, p.lt⟩
  | t =>
    obtain ⟨its, r, p, _⟩ := I.tuple q
    obtain ⟨o, e, _⟩ := id p
    exact ⟨its, r, p, Heap.lt_size e⟩
theorem SK.same (k : SK) (I : Inv X pins σ H s) (q : k.sits X.K H a xs) (q2 : k.sits X.K H a ys) : xs = ys := by
  cases k with
  | l => exact I.list_inj q q2
  | t => exact I.tuple_inj q q2
end
/-! ### enumerate -/
set_option maxHeartbeats 1000000 in
theorem en_new {v : Value} {o : Obj} {P : Heap → Prop} (B : Begins v o P) :
    Meets (Builtin.«enumerate.__new__» ⟨[.type "enumerate", v], []⟩) (fun _ R s => P s.heap ∧ R (.ok (.ret (.ref (s.heap.push o).objs.size))) { s with heap := (s.heap.push o).push { cls := .type "enumerate", data := .fields #[.none, .bool false, .ref s.heap.objs.size, rawInt 0, .none, .none] } }) :=
  .of_wp fun prog w A R s hyp => by
    obtain ⟨hp, gs, dr, tk, os⟩ := s
    obtain ⟨hP, hR⟩ := hyp
    have hsub := sub_enumerate
    have step : ∀ {A' : Around} {E : Value → Shared → Prop} {Q : Value → Shared → Prop}, Q (.ref hp.objs.size) ⟨hp.push o, gs, dr, tk, os⟩ → wpAny (model prog w) A' (pyIter v) Q E ⟨hp, gs, dr, tk, os⟩ :=
      fun z => B.iter prog w _ _ ⟨hp, gs, dr, tk, os⟩ _ hP z
    wp_walk using step
    refine wpAny_stack_any fun frs => wpAny_pure ?_
    split
    · rename_i cc _ _ _ _ _
      cases (cc == Value.type "enumerate") <;> (wp_walk using step; exact ⟨_, rfl, hR⟩)
    · wp_walk using step
      exact ⟨_, rfl, hR⟩
section
variable {prog : Program} {w : World} {A : Around} {E : Value → Shared → Prop} {s : Shared}
theorem en_call {v : Value} {o : Obj} {P : Heap → Prop} {Q : Value → Shared → Prop} (B : Begins v o P) (hP : P s.heap)
    (hQ : ∀ h2, IsEnum h2 (s.heap.objs.size + 1) s.heap.objs.size 0 .none → h2.get? s.heap.objs.size = some o → (∀ c u, s.heap.get? c = some u → h2.get? c = some u) → Q (.ref (s.heap.objs.size + 1)) { s with heap := h2 }) :
    wpAny (model prog w) A (call (.type "enumerate") [v]) Q E s := by
  refine callType_new F.called_enumerate (by decide) (F.typeCall_enumerate_1 _) (F.newCall_enumerate_1 _) (fun ob => F.args_object_init_2 ob _) F.entry_enumerate_new (en_new B) ⟨hP, ?_⟩
  have size1 : (s.heap.push o).objs.size = s.heap.objs.size + 1 := Heap.size_push ..
  show _ ∧ _
  rw [size1]
  have made : IsEnum ((s.heap.push o).push { cls := .type "enumerate", data := .fields #[.none, .bool false, .ref s.heap.objs.size, rawInt 0, .none, .none] }) (s.heap.objs.size + 1) s.heap.objs.size 0 .none := by
    have z := Heap.get?_push_size (s.heap.push o) (o := { cls := .type "enumerate", data := .fields #[.none, .bool false, .ref s.heap.objs.size, rawInt 0, .none, .none] }) rfl
    rw [size1] at z
    exact z
  exact ⟨⟨_, made, rfl⟩, hQ _ made (Heap.get?_push_of_some _ (Heap.get?_push_size _ B.free)) fun c u z => Heap.get?_push_of_some _ (Heap.get?_push_of_some _ z)⟩
end
def ItE (K : PySem.W.Frag) (k : SK) (a : Addr) : It :=
  ⟨fun i H => ∃ xs x, k.sits K H a xs ∧ xs[i]? = some x,
    fun i H v H' => ∃ T x, v = .ref T ∧ H T = none ∧ H' = upd H T (.tup [.int (i : Nat), x]) ∧ ∀ xs, k.sits K H a xs → xs[i]? = some x,
    fun i H => ∃ xs, k.sits K H a xs ∧ xs.length ≤ i⟩
theorem turnE {P : Program} {w : World} {K : PySem.W.Frag} {es : List Expr} {kk : Nat} {tp : Pos} (k : SK) (a e n : Addr) (hen : e ≠ n) (han : a ≠ n) (hea : e ≠ a) :
    Turn P w K (.Tuple es kk tp) (ItE K k a) [e, n] e (fun i h => (∃ old, IsEnum h e n (0 + (i : Int)) old) ∧ k.iter h n a i) where
  mem := by simp
  obj := fun i h st b hb => by
    obtain ⟨⟨old, he⟩, hn⟩ := st
    have z : b = e ∨ b = n := by simpa using hb
    rcases z with rfl | rfl
    · exact ⟨_, he, fun v q => nomatch q⟩
    · exact SK.iter_ob hn
  keep := fun i h h' st q => by
    obtain ⟨⟨old, he⟩, hn⟩ := st
    exact ⟨⟨old, q e (by simp) _ he⟩, SK.iter_at hn fun o z => q n (by simp) o z⟩
  item := by
    intro X hP hw hK hc i pins s σ H E I hf st hg
    subst hP hw hK
    obtain ⟨xs, x, hq, hx⟩ := hg
    obtain ⟨its, rv, p, _⟩ := k.there I hq
    obtain ⟨u, hu, ru⟩ := rv.get hx
    have hh : X.A.in1.handled = none := I.ok.hd hc
    have G := GoesN.enumFrom (prog := X.prog) (w := X.w) (A := X.A) (elts := es) (x1 := kk) (pos := tp) 0 (k.draws hh n a han its.toArray) e hen (by simp [hen, hea]) (by simp)
    have hi : i < its.toArray.size := by
      rw [List.size_toArray]
      exact (List.getElem?_eq_some_iff.mp hu).1
    refine wpAny_mono (G.goes i s (fun v s2 => ∃ x H', Inv X pins σ H' s2 ∧ RelV x v ∧ (ItE X.K k a).yld i H x H' ∧ ((∃ old, IsEnum s2.heap e n (0 + ((i + 1 : Nat) : Int)) old) ∧ k.iter s2.heap n a (i + 1)) ∧ ∀ b ∈ [e, n], H' b = none) E hi ⟨st.1, st.2, p⟩ ?_) (fun r s1 h1 => h1) fun _ _ z => z
    intro v h' tk hY st' hk _
    obtain ⟨T, t, y, rfl, hT, hy, ht⟩ := hY
    have hyu : y = u := by
      have z : its[i]? = some y := by simpa using hy
      rw [hu] at z
      exact (Option.some.inj z).symm
    subst hyu
    obtain ⟨o, ho, hoc, m, hod⟩ := ht
    have new : ObjOk X.prog X.w (upd H T (.tup [.int (i : Nat), x])) h' T (.tup [.int (i : Nat), x]) :=
      ⟨by show 2 ≤ sizeLine; decide, [.int (i : Int) t, y], .cons ⟨_, rfl⟩ (.cons ru .nil), ⟨o, ho, hoc, m, by rw [hod, Int.zero_add]⟩⟩
    have I1 := I.turnedNew (t' := tk) (ch := [e, n]) hk hf hT new
    refine ⟨.ref T, _, I1, rfl, ⟨T, x, rfl, I.hok.fresh hT, rfl, fun ys q2 => by rw [k.same I q2 hq]; exact hx⟩, ⟨st'.1, st'.2.1⟩, fun b hb => ?_⟩
    have hb1 : b < s.heap.objs.size := by
      have z : b = e ∨ b = n := by simpa using hb
      rcases z with rfl | rfl
      · obtain ⟨old, he⟩ := st.1; exact Heap.lt_size he
      · obtain ⟨o, e, _⟩ := SK.iter_ob st.2; exact Heap.lt_size e
    rw [upd_ne (Nat.ne_of_lt (Nat.lt_of_lt_of_le hb1 hT))]
    exact (hf b hb).1
  done := by
    intro X hP hw hK hc i pins s σ H E I hf st hg
    subst hP hw hK
    obtain ⟨xs, hq, hx⟩ := hg
    obtain ⟨its, rv, p, _⟩ := k.there I hq
    have hl := rv.length
    have hh : X.A.in1.handled = none := I.ok.hd hc
    obtain ⟨m, P0, St0, _, hm, D, at_⟩ := k.any (prog := X.prog) (w := X.w) hh n a han its.toArray i
    have em : m = i := hm (by simp; omega)
    subst em
    have G := GoesN.enumFrom (prog := X.prog) (w := X.w) (A := X.A) (elts := es) (x1 := kk) (pos := tp) 0 D e hen (by simp [hen, hea]) (by simp)
    exact G.stops s _ E ⟨st.1, at_ _ st.2 p⟩ fun h' tk q _ => I.turnedL (t' := tk) (ch := [e, n]) q hf
  self := fun A i s Q E st h => by
    obtain ⟨⟨old, he⟩, _⟩ := st
    exact wpAny_pyIter_enum he h
/-! ### zip -/
def ItZ (K : PySem.W.Frag) (k1 k2 : SK) (a b : Addr) : It :=
  ⟨fun i H => ∃ xs ys x y, k1.sits K H a xs ∧ k2.sits K H b ys ∧ xs[i]? = some x ∧ ys[i]? = some y,
    fun i H v H' => ∃ T x y, v = .ref T ∧ H T = none ∧ H' = upd H T (.tup [x, y]) ∧ (∀ xs, k1.sits K H a xs → xs[i]? = some x) ∧ ∀ ys, k2.sits K H b ys → ys[i]? = some y,
    fun i H => ∃ xs ys, k1.sits K H a xs ∧ k2.sits K H b ys ∧ (xs.length ≤ i ∨ ys.length ≤ i)⟩
/-- the places of a zip's five objects, made at N and on -/
structure Zat (N a b : Addr) : Prop where
  ha : a < N
  hb : b < N
theorem mem1 {x y : Addr} (h : x ∈ [y]) : x = y := by simpa using h
theorem Zat.sep {N a b : Addr} (Z : Zat N a b) : ZipSep2 (N + 4) (N + 2) (N + 3) N (N + 1) [N, a] [N + 1, b] :=
  zip_sep2 (N := N) (fp1 := [a]) (fp2 := [b]) (fun c hc => by rw [mem1 hc]; exact Z.ha) (fun c hc => by rw [mem1 hc]; exact Z.hb)
theorem turnZ {P : Program} {w : World} {K : PySem.W.Frag} {es : List Expr} {kk : Nat} {tp : Pos} (k1 k2 : SK) (a b N : Addr) (Z : Zat N a b) :
    Turn P w K (.Tuple es kk tp) (ItZ K k1 k2 a b) [N + 4, N + 2, N + 3, N, N + 1] (N + 4)
      (fun i h => IsZip h (N + 4) (N + 2) (N + 3) .none ∧ IsTupOf2 h (N + 2) (.ref N) (.ref (N + 1)) ∧ (∃ x y, IsTupOf2 h (N + 3) x y) ∧ k1.iter h N a i ∧ k2.iter h (N + 1) b i) where
  mem := by simp
  obj := fun i h st c hc => by
    obtain ⟨hz, hI, ⟨x, y, hO⟩, h1, h2⟩ := st
    have z : c = N + 4 ∨ c = N + 2 ∨ c = N + 3 ∨ c = N ∨ c = N + 1 := by simpa using hc
    rcases z with rfl | rfl | rfl | rfl | rfl
    · exact ⟨_, hz, fun v q => nomatch q⟩
    · exact ⟨_, hI, fun v q => nomatch q⟩
    · exact ⟨_, hO, fun v q => nomatch q⟩
    · exact SK.iter_ob h1
    · exact SK.iter_ob h2
  keep := fun i h h' st q => by
    obtain ⟨hz, hI, ⟨x, y, hO⟩, h1, h2⟩ := st
    exact ⟨q _ (by simp) _ hz, q _ (by simp) _ hI, ⟨x, y, q _ (by simp) _ hO⟩, SK.iter_at h1 fun o z => q _ (by simp) o z, SK.iter_at h2 fun o z => q _ (by simp) o z⟩
  item := by
    intro X hP hw hK hc i pins s σ H E I hf st hg
    subst hP hw hK
    obtain ⟨xs, ys, x, y, hq, hq2, hx, hy⟩ := hg
    obtain ⟨its, rv, p, _⟩ := k1.there I hq
    obtain ⟨its2, rv2, p2, _⟩ := k2.there I hq2
    obtain ⟨u, hu, ru⟩ := rv.get hx
    obtain ⟨u2, hu2, ru2⟩ := rv2.get hy
    have hh : X.A.in1.handled = none := I.ok.hd hc
    have S := Z.sep
    have G := GoesN.zip2 (prog := X.prog) (w := X.w) (A := X.A) (elts := es) (x1 := kk) (pos := tp) S (k1.draws hh N a (Nat.ne_of_lt Z.ha) its.toArray) (k2.draws hh (N + 1) b (Nat.ne_of_lt (Nat.lt_succ_of_lt Z.hb)) its2.toArray)
    have hi : i < min its.toArray.size its2.toArray.size := by
      rw [List.size_toArray, List.size_toArray]
      have l1 := (List.getElem?_eq_some_iff.mp hu).1
      have l2 := (List.getElem?_eq_some_iff.mp hu2).1
      omega
    obtain ⟨hz, hI, hO, h1, h2⟩ := id st
    refine wpAny_mono (G.goes i s (fun v s2 => ∃ x H', Inv X pins σ H' s2 ∧ RelV x v ∧ (ItZ X.K k1 k2 a b).yld i H x H' ∧ (IsZip s2.heap (N + 4) (N + 2) (N + 3) .none ∧ IsTupOf2 s2.heap (N + 2) (.ref N) (.ref (N + 1)) ∧ (∃ x y, IsTupOf2 s2.heap (N + 3) x y) ∧ k1.iter s2.heap N a (i + 1) ∧ k2.iter s2.heap (N + 1) b (i + 1)) ∧ ∀ c ∈ [N + 4, N + 2, N + 3, N, N + 1], H' c = none) E hi ⟨hz, hI, hO, ⟨h1, p⟩, ⟨h2, p2⟩⟩ ?_) (fun r s1 h1 => h1) fun _ _ z => z
    intro v h' tk hY st' hk _
    obtain ⟨T, v1, v2, rfl, hT, hv1, hv2, ht⟩ := hY
    have e1 : v1 = u := by
      have z : its[i]? = some v1 := by simpa using hv1
      rw [hu] at z
      exact (Option.some.inj z).symm
    have e2 : v2 = u2 := by
      have z : its2[i]? = some v2 := by simpa using hv2
      rw [hu2] at z
      exact (Option.some.inj z).symm
    subst e1 e2
    obtain ⟨o, ho, hoc, m, hod⟩ := ht
    have new : ObjOk X.prog X.w (upd H T (.tup [x, y])) h' T (.tup [x, y]) :=
      ⟨by show 2 ≤ sizeLine; decide, [v1, v2], .cons ru (.cons ru2 .nil), ⟨o, ho, hoc, m, hod⟩⟩
    have I1 := I.turnedNew (t' := tk) (ch := [N + 4, N + 2, N + 3, N, N + 1]) (fun c o hc z => hk c o (fun q => hc (by
      have q' : c = N + 4 ∨ c = N + 3 ∨ c = N ∨ c = N + 1 := by simpa using q
      rcases q' with q' | q' | q' | q' <;> simp [q'])) z) hf hT new
    obtain ⟨z1, z2, z3, z4, z5⟩ := st'
    refine ⟨.ref T, _, I1, rfl, ⟨T, x, y, rfl, I.hok.fresh hT, rfl, fun l q2 => by rw [k1.same I q2 hq]; exact hx, fun l q2 => by rw [k2.same I q2 hq2]; exact hy⟩, ⟨z1, z2, z3, z4.1, z5.1⟩, fun c hc => ?_⟩
    have hb1 : c < s.heap.objs.size := by
      obtain ⟨x0, y0, hO⟩ := hO
      have z : c = N + 4 ∨ c = N + 2 ∨ c = N + 3 ∨ c = N ∨ c = N + 1 := by simpa using hc
      rcases z with rfl | rfl | rfl | rfl | rfl
      · exact Heap.lt_size hz
      · exact Heap.lt_size hI
      · exact Heap.lt_size hO
      · obtain ⟨o, e, _⟩ := SK.iter_ob h1; exact Heap.lt_size e
      · obtain ⟨o, e, _⟩ := SK.iter_ob h2; exact Heap.lt_size e
    rw [upd_ne (Nat.ne_of_lt (Nat.lt_of_lt_of_le hb1 hT))]
    exact (hf c hc).1
  done := by
    intro X hP hw hK hc i pins s σ H E I hf st hg
    subst hP hw hK
    obtain ⟨xs, ys, hq, hq2, hend⟩ := hg
    obtain ⟨its, rv, p, _⟩ := k1.there I hq
    obtain ⟨its2, rv2, p2, _⟩ := k2.there I hq2
    have l1 := rv.length
    have l2 := rv2.length
    have hh : X.A.in1.handled = none := I.ok.hd hc
    have S := Z.sep
    obtain ⟨m1, P1, St1, g1, n1, D1, at1⟩ := k1.any (prog := X.prog) (w := X.w) hh N a (Nat.ne_of_lt Z.ha) its.toArray i
    obtain ⟨m2, P2, St2, g2, n2, D2, at2⟩ := k2.any (prog := X.prog) (w := X.w) hh (N + 1) b (Nat.ne_of_lt (Nat.lt_succ_of_lt Z.hb)) its2.toArray i
    have em : min m1 m2 = i := by
      rcases hend with q | q
      · have := n1 (by simp; omega); omega
      · have := n2 (by simp; omega); omega
    have G := GoesN.zip2 (prog := X.prog) (w := X.w) (A := X.A) (elts := es) (x1 := kk) (pos := tp) S D1 D2
    rw [em] at G
    obtain ⟨hz, hI, hO, h1, h2⟩ := st
    exact G.stops s _ E ⟨hz, hI, hO, at1 _ h1 p, at2 _ h2 p2⟩ fun h' tk q _ => I.turnedL (t' := tk) (ch := [N + 4, N + 2, N + 3, N, N + 1]) (fun c o hc z => q c o (fun y => hc (by
      have q' : c = N + 4 ∨ c = N + 3 ∨ c = N ∨ c = N + 1 := by simpa using y
      rcases q' with q' | q' | q' | q' <;> simp [q'])) z) hf
  self := fun A i s Q E st h => wpAny_pyIter_zip st.1 h
/-! ### the loops' sources -/
def srcW (d : D) (st : Store) : Option Wk := match tupOf d with
  | some ds => some (.items ds)
  | none => (match d with
    | .p (.lst xs) => some (.items (xs.map D.p))
    | .p (.frz xs) => some (.items (xs.map D.p))
    | .loc i => (match st[i]? with
      | some (.lst _) => some (.cell i)
      | _ => none)
    | _ => none)
/-- the list or tuple at a is what w walks -/
def SrcOk (K : PySem.W.Frag) (F : Addr → Prop) (ads : List Addr) (H : Hp) (k : SK) (a : Addr) (w : Wk) : Prop :=
  ∀ new H1 st1, Ext ads new H H1 → Sim K F (ads ++ new) st1 H1 → ∀ i, match stepW w i st1 with
    | some (some d) => ∃ vs v, k.sits K H1 a vs ∧ vs[i]? = some v ∧ Rep K F (ads ++ new) H1 v d
    | some none => ∃ vs, k.sits K H1 a vs ∧ vs.length ≤ i
    | none => True
section
variable {K : PySem.W.Frag} {F : Addr → Prop} {ads : List Addr} {H : Hp} {st : Store}
theorem src_items {k : SK} {a : Addr} {vs : List V} {ds : List D} (q : ∀ new H1, Ext ads new H H1 → k.sits K H1 a vs) (r : Reps K F ads H vs ds) : SrcOk K F ads H k a (.items ds) := fun new H1 st1 e S1 i => by
  have r1 := reps_ix (r.mono e) i
  show (match some ds[i]? with | some (some d) => _ | some none => _ | none => _)
  cases e2 : ds[i]? with
  | none => rw [e2] at r1; exact ⟨vs, q new H1 e, r1⟩
  | some d =>
    rw [e2] at r1
    obtain ⟨v, h1, h2⟩ := r1
    exact ⟨vs, v, q new H1 e, h1, h2⟩
theorem src_cell {a : Addr} {i : Nat} (ha : ads[i]? = some a) : SrcOk K F ads H .l a (.cell i) := fun new H1 st1 e S1 j => by
  have ha1 : (ads ++ new)[i]? = some a := by rw [List.getElem?_append_left (List.getElem?_eq_some_iff.mp ha).1]; exact ha
  show (match (match st1[i]? with | some (.lst xs) => some xs[j]? | _ => none) with | some (some d) => _ | some none => _ | none => _)
  cases e1 : st1[i]? with
  | none => trivial
  | some c =>
    cases c with
    | dic _ _ => trivial
    | ins _ _ _ => trivial
    | lst ds =>
      obtain ⟨vs, q1, r⟩ := S1.cell i _ a e1 ha1
      have r1 := reps_ix r j
      show (match some ds[j]? with | some (some d) => _ | some none => _ | none => _)
      cases e2 : ds[j]? with
      | none => rw [e2] at r1; exact ⟨vs, .of q1, r1⟩
      | some d =>
        rw [e2] at r1
        obtain ⟨v, h1, h2⟩ := r1
        exact ⟨vs, v, .of q1, h1, h2⟩
theorem srcW_ok {v : V} {d : D} {w : Wk} (S : Sim K F ads st H) (r : Rep K F ads H v d) (h : srcW d st = some w) : ∃ k a vs, v = .ref a ∧ k.sits K H a vs ∧ SrcOk K F ads H k a w := by
  unfold srcW at h
  split at h
  · rename_i ds e
    cases h
    obtain ⟨a, vs, rfl, q, rs⟩ := tupOf_rep r e
    exact ⟨.t, a, vs, rfl, q, src_items (fun new H1 ex => ex.sqT q) rs⟩
  · split at h
    · cases h
      cases r with
      | p r =>
        cases r with
        | lst q hb rs => exact ⟨.l, _, _, rfl, .of q, src_items (k := .l) (fun new2 H2 ex2 => .of (ex2.keep _ _ q fun hm => hb (.inr hm))) rs.ofP⟩
    · cases h
      cases r with
      | p r =>
        cases r with
        | frz q rs =>
          have at_ : ∀ new2 H2, Ext ads new2 H H2 → SqL K H2 _ _ := fun new2 H2 ex2 => q.elim (fun ⟨o, q⟩ => .inl (.inr ⟨o, ex2.frz _ _ _ q⟩)) .inr
          exact ⟨.l, _, _, rfl, at_ [] H (Ext.refl _ _), src_items (k := .l) at_ rs.ofP⟩
    · split at h
      · rename_i e3
        cases h
        cases r with
        | loc ha =>
          obtain ⟨vs, q, rs⟩ := S.cell _ _ _ e3 ha
          exact ⟨.l, _, vs, rfl, .of q, src_cell ha⟩
      · cases h
    · cases h
/-- a new tuple of walked things -/
theorem laid_pair {new : List Addr} {H1 : Hp} {st1 : Store} {T : Addr} {vs : List V} {ds : List D} (S1 : Sim K F (ads ++ new) st1 H1) (hT : H1 T = none) (r : Reps K F (ads ++ new) H1 vs ds) :
    Ext (ads ++ new) [] H1 (upd H1 T (.tup vs)) ∧ Sim K F (ads ++ new) st1 (upd H1 T (.tup vs)) ∧ Rep K F (ads ++ new) (upd H1 T (.tup vs)) (.ref T) (mkTup ds) := by
  have ex := Ext.laid (ads := ads ++ new) (o := .tup vs) hT
  have r2 := r.mono ex
  rw [List.append_nil] at r2
  exact ⟨ex, app_nil (S1.laid hT), mkTup_rep (.of upd_same) r2⟩
theorem wok_enum {k : SK} {a : Addr} {w : Wk} (s : SrcOk K F ads H k a w) : WOk K F ads H (ItE K k a) (.enum w) := fun new H1 st1 e S1 i => by
  have z := s new H1 st1 e S1 i
  show (match (match stepW w i st1 with
    | some (some x) => some (some (mkTup [.p (.int (i : Nat)), x]))
    | some none => some none
    | none => none) with | some (some d) => _ | some none => _ | none => _)
  cases e1 : stepW w i st1 with
  | none => trivial
  | some o =>
    rw [e1] at z
    cases o with
    | none => exact z
    | some d =>
      obtain ⟨vs, v, q, hv, rv⟩ := z
      refine ⟨⟨vs, v, q, hv⟩, fun x H2 hy => ?_⟩
      obtain ⟨T, y, rfl, hT, rfl, hall⟩ := hy
      have ey : y = v := Option.some.inj ((hall vs q).symm.trans hv)
      subst ey
      exact laid_pair S1 hT (.cons (.p (.int _)) (.cons rv .nil))
theorem wok_zip {k1 k2 : SK} {a b : Addr} {w1 w2 : Wk} (s1 : SrcOk K F ads H k1 a w1) (s2 : SrcOk K F ads H k2 b w2) : WOk K F ads H (ItZ K k1 k2 a b) (.zip w1 w2) := fun new H1 st1 e S1 i => by
  have z1 := s1 new H1 st1 e S1 i
  have z2 := s2 new H1 st1 e S1 i
  show (match (match stepW w1 i st1, stepW w2 i st1 with
    | some (some x), some (some y) => some (some (mkTup [x, y]))
    | some (some _), some none => some none
    | some none, some _ => some none
    | _, _ => none) with | some (some d) => _ | some none => _ | none => _)
  cases e1 : stepW w1 i st1 with
  | none => trivial
  | some o =>
    rw [e1] at z1
    cases e2 : stepW w2 i st1 with
    | none => cases o <;> trivial
    | some o2 =>
      rw [e2] at z2
      cases o with
      | none =>
        obtain ⟨vs, q, hl⟩ := z1
        cases o2 with
        | none => obtain ⟨vs2, q2, hl2⟩ := z2; exact ⟨vs, vs2, q, q2, .inl hl⟩
        | some d2 => obtain ⟨vs2, v2, q2, hv2, _⟩ := z2; exact ⟨vs, vs2, q, q2, .inl hl⟩
      | some d =>
        obtain ⟨vs, v, q, hv, rv⟩ := z1
        cases o2 with
        | none => obtain ⟨vs2, q2, hl2⟩ := z2; exact ⟨vs, vs2, q, q2, .inr hl2⟩
        | some d2 =>
          obtain ⟨vs2, v2, q2, hv2, rv2⟩ := z2
          refine ⟨⟨vs, vs2, v, v2, q, q2, hv, hv2⟩, fun x H2 hy => ?_⟩
          obtain ⟨T, y, y2, rfl, hT, rfl, hall, hall2⟩ := hy
          have ey : y = v := Option.some.inj ((hall vs q).symm.trans hv)
          have ey2 : y2 = v2 := Option.some.inj ((hall2 vs2 q2).symm.trans hv2)
          subst ey ey2
          exact laid_pair S1 hT (.cons rv (.cons rv2 .nil))
end
def wEnum (f : AI) : WI := fun env st => match f env st with
  | some ([d], st1) => (match srcW d st1 with
    | some w => some (.enum w, st1)
    | none => none)
  | _ => none
def wZip (f : AI) : WI := fun env st => match f env st with
  | some ([d, e], st1) => (match srcW d st1, srcW e st1 with
    | some w, some u => some (.zip w u, st1)
    | _, _ => none)
  | _ => none
section
variable {X : Cx} {e e2 : Expr} {fa : AI} {p pos tp : Pos} {es : List Expr} {kk : Nat}
theorem ji_enum (hg : Gl X "enumerate") (hm : X.mg "enumerate" = none) (ha : JA X [e] fa) (hs : starEach [e] X.env = [(false, eval e X.env)]) : JI X (.Tuple es kk tp) (.Call (.Name "enumerate" p) [e] [] pos) (wEnum fa) := fun F => ⟨fun pins s σ H R I h => by
  obtain ⟨ads, env, st, w, st', S, E, hf, P⟩ := h
  unfold wEnum at hf
  split at hf
  · rename_i d st1 e1
    split at hf
    · rename_i w0 e2
      cases hf
      refine Call_ (ld_blt I hg hm boot_enumerate (PyProof.Rows.callWith_type1 (thn ((ha F).run pos pins s σ H (fun vs H1 => ∃ new, Ext ads new H H1 ∧ Sim X.K F (ads ++ new) _ H1 ∧ Reps X.K F (ads ++ new) H1 vs [d]) I ⟨ads, env, st, _, _, S, E, e1, fun new H1 vs ex S1 r1 => ⟨new, ex, S1, r1⟩⟩) fun us s1 ⟨vs, H1, I1, r1, q1⟩ => ?_) hs rfl))
      obtain ⟨new, ex, S1, rs⟩ := q1
      obtain ⟨v, rfl, rd⟩ := rep1 rs
      obtain ⟨k, a, vs, rfl, q, src⟩ := srcW_ok S1 rd e2
      obtain ⟨u, eu, ru⟩ := vals1 r1
      cases eu
      cases ru
      obtain ⟨its, rv, hp, hlt⟩ := k.there I1 q
      refine en_call (k.begins a its.toArray) hp fun h2 he ho hk => wpAny_pyIter_enum he ?_
      have I2 : Inv X pins σ H1 { s1 with heap := h2 } := I1.kept (t' := s1.toks) hk
      have n0 : (s1.heap.objs.size : Addr) ≠ a := Nat.ne_of_gt hlt
      refine ⟨s1.heap.objs.size + 1, [s1.heap.objs.size + 1, s1.heap.objs.size], _, _, H1, rfl, I2, turnE k a (s1.heap.objs.size + 1) s1.heap.objs.size (Nat.succ_ne_self _) (Nat.ne_of_lt hlt) (Nat.ne_of_gt (Nat.lt_succ_of_lt hlt)), ⟨⟨.none, he⟩, k.new_iter ho⟩, fun b hb => ?_, P new H1 _ ex S1 (wok_enum src)⟩
      have hle : s1.heap.objs.size ≤ b := by
        have z : b = s1.heap.objs.size + 1 ∨ b = s1.heap.objs.size := by simpa using hb
        rcases z with rfl | rfl
        · exact Nat.le_add_right _ _
        · exact Nat.le_refl _
      exact I1.fpOk hle (I1.hok.fresh hle)
    · cases hf
  · cases hf⟩
theorem ji_zip (hg : Gl X "zip") (hm : X.mg "zip" = none) (ha : JA X [e, e2] fa) (hs : starEach [e, e2] X.env = (false, eval e X.env) :: starEach [e2] X.env) (hpl : (backTo pos (starEach [e2] X.env)).any (·.1) = false) :
    JI X (.Tuple es kk tp) (.Call (.Name "zip" p) [e, e2] [] pos) (wZip fa) := fun F => ⟨fun pins s σ H R I h => by
  obtain ⟨ads, env, st, w, st', S, E, hf, P⟩ := h
  unfold wZip at hf
  split at hf
  · rename_i d d2 st1 e1
    split at hf
    · rename_i w0 w2 e2 e3
      cases hf
      refine Call_ (ld_blt I hg hm PyProof.Rows.boot_zip (PyProof.Rows.callWith_type1 (thn ((ha F).run pos pins s σ H (fun vs H1 => ∃ new, Ext ads new H H1 ∧ Sim X.K F (ads ++ new) _ H1 ∧ Reps X.K F (ads ++ new) H1 vs [d, d2]) I ⟨ads, env, st, _, _, S, E, e1, fun new H1 vs ex S1 r1 => ⟨new, ex, S1, r1⟩⟩) fun us s1 ⟨vs, H1, I1, r1, q1⟩ => ?_) hs hpl))
      obtain ⟨new, ex, S1, rs⟩ := q1
      obtain ⟨v, v2, rfl, rd, rd2⟩ := rep2 rs
      obtain ⟨k, a, vs, rfl, q, src⟩ := srcW_ok S1 rd e2
      obtain ⟨k2, b, vs2, rfl, q2, src2⟩ := srcW_ok S1 rd2 e3
      obtain ⟨u, u2, eu, ru, ru2⟩ := vals2 r1
      cases eu
      cases ru
      cases ru2
      obtain ⟨its, rv, hp, hlt⟩ := k.there I1 q
      obtain ⟨its2, rv2, hp2, hlt2⟩ := k2.there I1 q2
      refine zip_begins2 (k.begins a its.toArray) (k2.begins b its2.toArray) hp hp2 fun h2 hz hI hO ho ho2 _ hk => wpAny_pyIter_zip hz ?_
      have I2 : Inv X pins σ H1 { s1 with heap := h2 } := I1.kept (t' := s1.toks) hk
      refine ⟨s1.heap.objs.size + 4, [s1.heap.objs.size + 4, s1.heap.objs.size + 2, s1.heap.objs.size + 3, s1.heap.objs.size, s1.heap.objs.size + 1], _, _, H1, rfl, I2, turnZ k k2 a b s1.heap.objs.size ⟨hlt, hlt2⟩, ⟨hz, hI, ⟨_, _, hO⟩, k.new_iter ho, k2.new_iter ho2⟩, fun c hc => ?_, P new H1 _ ex S1 (wok_zip src src2)⟩
      have hle : s1.heap.objs.size ≤ c := by
        have z : c = s1.heap.objs.size + 4 ∨ c = s1.heap.objs.size + 2 ∨ c = s1.heap.objs.size + 3 ∨ c = s1.heap.objs.size ∨ c = s1.heap.objs.size + 1 := by simpa using hc
        rcases z with rfl | rfl | rfl | rfl | rfl
        · exact Nat.le_add_right _ _
        · exact Nat.le_add_right _ _
        · exact Nat.le_add_right _ _
        · exact Nat.le_refl _
        · exact Nat.le_add_right _ _
      exact I1.fpOk hle (I1.hok.fresh hle)
    · cases hf
  · cases hf⟩
end
end J

set_option Elab.async false
set_option linter.all false
set_option maxRecDepth 100000
set_option maxHeartbeats 4000000
/-! J10: chains, products, slices backwards, fields, stores, calls of defs, of classes, of methods, by keywords. -/
namespace J
open PySem PySem.Spec PyProof.Rows L2
set_option autoImplicit false
/-! ### a op b op2 c -/
def iChain (g g2 : Op2) (fa fb fc : EI) : EI := fun env st => match fa env st with
  | some (a, st1) => (match fb env st1 with
    | some (b, st2) => (match g a b st2 with
      | some (.p (.bl true), st3) => (match fc env st3 with
        | some (c, st4) => g2 b c st4
        | none => none)
      | some (.p (.bl false), st3) => some (.p (.bl false), st3)
      | _ => none)
    | none => none)
  | none => none
section
variable {X : Cx} {a b c : Expr} {fa fb fc : EI} {op op2 : CmpOp} {g g2 : Op2} {pos : Pos}
theorem chain_to {K : PySem.W.Frag} {F : Addr → Prop} {σ : St} {H : Hp} {Q : VK} (h : TEo K F (iChain g g2 fa fb fc) σ H Q) : tChain (rJ2 K F g) (rJ2 K F g2) (TEo K F fa) (TEo K F fb) (TEo K F fc) σ H Q := by
  obtain ⟨ads, env, st, d, st', S, E, hf, P⟩ := h
  unfold iChain at hf
  split at hf
  · rename_i a st1 e1
    split at hf
    · rename_i b st2 e2
      refine ⟨ads, env, st, a, st1, S, E, e1, fun new H1 x ex S1 ra => ⟨_, env, st1, b, st2, S1, E.mono ex, e2, fun new2 H2 y ex2 S2 rb => ?_⟩⟩
      have P2 := (P.after ex).after ex2
      split at hf
      · rename_i st3 e3
        refine ⟨_, st2, a, b, _, st3, S2, ra.mono ex2, rb, e3, fun new3 H3 z ex3 S3 rz => ⟨true, rz.bl, ?_⟩⟩
        rw [if_pos rfl]
        split at hf
        · rename_i c st4 e4
          exact ⟨_, env, st3, c, st4, S3, ((E.mono ex).mono ex2).mono ex3, e4, fun new4 H4 w ex4 S4 rw' => ⟨_, st4, b, c, d, st', S4, (rb.mono ex3).mono ex4, rw', hf, (P2.after ex3).after ex4⟩⟩
        · cases hf
      · rename_i st3 e3
        cases hf
        refine ⟨_, st2, a, b, _, st', S2, ra.mono ex2, rb, e3, fun new3 H3 z ex3 S3 rz => ⟨false, rz.bl, ?_⟩⟩
        rw [if_neg Bool.false_ne_true]
        exact (P2.after ex3).here S3 (.p (.bl false))
      · cases hf
    · cases hf
  · cases hf
theorem je_chain (ho : OpJ X (compareOp op) g) (ho2 : OpJ X (compareOp op2) g2) (ha : JE X a fa) (hb : JE X b fb) (hc : JE X c fc) (hm : lastMarks [op, op2] [b, c] = false) : JE X (.Compare a [op, op2] [b, c] pos) (iChain g g2 fa fb fc) := fun F =>
  (pe_chain (ho F) (ho2 F) (ha F) (hb F) (hc F) hm).imp fun _ _ _ h => chain_to h
theorem jt_chain (ho : OpJ X (compareOp op) g) (ho2 : OpJ X (compareOp op2) g2) (ha : JE X a fa) (hb : JE X b fb) (hc : JE X c fc) (hm : lastMarks [op, op2] [b, c] = false) : JT X (.Compare a [op, op2] [b, c] pos) (bVal (iChain g g2 fa fb fc)) := fun F =>
  (pt_chain (ho F) (ho2 F) (ha F) (hb F) (hc F) hm).imp fun σ H Q h => by
    obtain ⟨ads, env, st, k, st', S, E, hf, P⟩ := h
    unfold bVal at hf
    split at hf
    · rename_i k1 st1 e1
      cases hf
      exact chain_to ⟨ads, env, st, _, _, S, E, e1, fun new H1 x e2 S1 r1 => ⟨k, r1.bl, P new H1 e2 S1⟩⟩
    · cases hf
end
/-! ### products -/
theorem mapD_rep {K : PySem.W.Frag} {F : Addr → Prop} {ads : List Addr} {H : Hp} {vs : List V} {ds : List D} (r : Reps K F ads H vs ds) : ∀ n : Nat, Reps K F ads H (List.replicate n vs).flatten (repL n ds)
  | 0 => .nil
  | n + 1 => by
    unfold repL
    rw [List.replicate_succ, List.replicate_succ, List.flatten_cons, List.flatten_cons]
    exact r.append (mapD_rep r n)
def oMulJ : Op2 := fun a b st => match a, b with
  | .p (.int i), .p (.int j) => if i.natAbs.log2 + j.natAbs.log2 < 900000 then some (.p (.int (i * j)), st) else none
  | a, .p (.int k) => (match tupOf a with
    | some (x :: r) => if 2 ≤ k ∧ k ≤ 1000 ∧ (x :: r).length ≤ 1000 then some (mkTup (repL k.toNat (x :: r)), st) else none
    | _ => none)
  | _, _ => none
theorem lt_two_log (n : Nat) : n < 2 ^ (n.log2 + 1) := by
  by_cases h : n = 0
  · subst h; exact Nat.two_pow_pos _
  · exact (Nat.log2_lt h).mp (Nat.lt_succ_self _)
section
variable {X : Cx}
theorem oj_mul : OpJ X (binaryOp .Mult) oMulJ := by
  intro F pins s σ H x y v u Q I rx ry ⟨ads, st, a, b, d, st', S, ra, rb, hg, P⟩
  unfold oMulJ at hg
  split at hg
  · split at hg
    · rename_i i j hz
      cases hg
      exact op_mulW pins s σ H x y v u Q I rx ry ⟨_, _, ra.int, rb.int, wide_mul (lt_two_log _) (lt_two_log _) (Nat.succ_pos _) (Nat.succ_pos _) (by omega), P.here S (.p (.int _))⟩
    · cases hg
  · split at hg
    · rename_i x0 r0 e1
      split at hg
      · rename_i hz
        cases hg
        obtain ⟨p, vs, rfl, q, rs⟩ := tupOf_rep ra e1
        refine op_repT pins s σ H _ y v u Q I rx ry ⟨p, _, vs, rfl, rb.int, q, ?_, hz.1, hz.2.1, by rw [rs.length]; exact hz.2.2, P.tup S (mapD_rep rs _)⟩
        rintro rfl
        cases rs
      · cases hg
    · cases hg
  · cases hg
end
/-! ### xs[::-1] of a list -/
def iRev (f : EI) : EI := fun env st => match f env st with
  | some (d, st1) => (match lstR d st1 with
    | some xs => some (.loc st1.length, st1 ++ [.lst xs.reverse])
    | none => none)
  | none => none
theorem reps_rev {K : PySem.W.Frag} {F : Addr → Prop} {ads : List Addr} {H : Hp} : ∀ {vs : List V} {ds : List D}, Reps K F ads H vs ds → Reps K F ads H vs.reverse ds.reverse
  | _, _, .nil => .nil
  | _, _, .cons r t => by
    rw [List.reverse_cons, List.reverse_cons]
    exact (reps_rev t).append (.cons r .nil)
section
variable {X : Cx} {e : Expr} {fe : EI} {k : Nat} {p1 p2 p3 pos : Pos}
theorem je_rev (he : JE X e fe) : JE X (.Subscript e (.Slice none none (some (.UnaryOp .USub (.Constant (.int 1) k p1) p2)) p3) pos) (iRev fe) := fun F => (pe_revL (he F)).imp fun σ H Q h => by
  obtain ⟨ads, env, st, d, st', S, E, hf, P⟩ := h
  unfold iRev at hf
  split at hf
  · rename_i d0 st1 e1
    split at hf
    · rename_i xs e2
      cases hf
      refine ⟨ads, env, st, d0, st1, S, E, e1, fun new H1 x ex S1 r1 => ?_⟩
      obtain ⟨a, vs, rfl, q, rs⟩ := lstR_rep S1 r1 e2
      exact ⟨a, vs, rfl, q, (P.after ex).lst S1 (reps_rev rs)⟩
    · cases hf
  · cases hf
end
/-! ### range(i, j, -1) -/
def rangeDn (lo : Int) (n : Nat) : List D := (List.range n).map fun k => .p (.int (lo + (k : Nat) * (-1)))
def wRng3 (f : AI) : WI := fun env st => match f env st with
  | some ([.p (.int i), .p (.int j), .p (.int c)], st1) => if small62 i = true ∧ small62 j = true ∧ c = -1 then some (.items (rangeDn i (i - j).toNat), st1) else none
  | _ => none
section
variable {X : Cx} {tg a b c : Expr} {fa : AI} {p pos : Pos}
theorem wok_rngC {K : PySem.W.Frag} {F : Addr → Prop} {ads : List Addr} {H : Hp} {lo : Int} {n : Nat} : WOk K F ads H (Itc lo (-1) n) (.items (rangeDn lo n)) := fun new H1 st1 e S1 k => by
  show (match some (rangeDn lo n)[k]? with | some (some d) => _ | some none => _ | none => _)
  unfold rangeDn
  rw [List.getElem?_map]
  by_cases hk : k < n
  · rw [List.getElem?_range hk]
    refine ⟨hk, fun x H2 ⟨hh, hx⟩ => ?_⟩
    subst hh hx
    exact ⟨Ext.refl _ _, S1, .p (.int _)⟩
  · rw [List.getElem?_eq_none (by rw [List.length_range]; omega)]
    exact Nat.le_of_not_lt hk
theorem ji_rng3 (hg : Gl X "range") (hm : X.mg "range" = none) (ha : JA X [a, b, c] fa) (hs : starEach [a, b, c] X.env = (false, eval a X.env) :: starEach [b, c] X.env) (hpl : (backTo pos (starEach [b, c] X.env)).any (·.1) = false) :
    JI X tg (.Call (.Name "range" p) [a, b, c] [] pos) (wRng3 fa) := fun F => ⟨fun pins s σ H R I h => by
  obtain ⟨ads, env, st, w, st', S, E, hf, P⟩ := h
  unfold wRng3 at hf
  split at hf
  · rename_i i j c st1 e1
    split at hf
    · rename_i hj
      cases hf
      refine (pi_range3 hg hm (ha F) hs hpl).run pins s σ H R I ⟨ads, env, st, _, st', S, E, e1, fun new H1 vs ex S1 r1 => ?_⟩
      obtain ⟨h5, h6, rfl⟩ := hj
      obtain ⟨h1, h2⟩ := small62_of h5
      obtain ⟨h3, h4⟩ := small62_of h6
      cases r1 with
      | cons r1 rr =>
        obtain ⟨v2, v3, rfl, r2, r3⟩ := rep2 rr
        exact ⟨i, j, -1, _, by rw [r1.int, r2.int, r3.int], RgC.neg h1 h2 h3 h4, P new H1 _ ex S1 wok_rngC⟩
    · cases hf
  · cases hf⟩
end
/-! ### fields of instances -/
def fget : List Str → List D → Str → Option D
  | g :: gs, v :: vs, f => if f = g then some v else fget gs vs f
  | _, _, _ => none
def fput (f : Str) (d : D) : List Str → List D → List Str × List D
  | g :: gs, v :: vs => if g = f then (g :: gs, d :: vs) else (g :: (fput f d gs vs).1, v :: (fput f d gs vs).2)
  | _, _ => ([f], [d])
def insOf (d : D) (st : Store) : Option (Str × List Str × List D) := match d with
  | .p (.ins C ns xs) => some (C, ns, xs.map D.p)
  | .loc i => (match st[i]? with
    | some (.ins C ns xs) => some (C, ns, xs)
    | _ => none)
  | _ => none
def hasFld (fl : Fls) (C f : Str) : Bool := match fl.lookup C with
  | some fs => fs.contains f
  | none => false
structure FlsOk (K : PySem.W.Frag) (fl : Fls) : Prop where
  at_ : ∀ C f, hasFld fl C f = true → Cls K (He.ga K C) ∧ NoAttr K (He.ga K C) f
section
variable {K : PySem.W.Frag} {F : Addr → Prop} {ads : List Addr} {H : Hp} {Q : VK} {st : Store}
theorem insOf_rep {v : V} {d : D} {C : Str} {ns : List Str} {xs : List D} (S : Sim K F ads st H) (r : Rep K F ads H v d) (h : insOf d st = some (C, ns, xs)) :
    ∃ (a dx : Addr) (fs : List (Str × V)), v = .ref a ∧ H a = some (.ins (He.ga K C) dx fs) ∧ fs.map (·.1) = ns ∧ Reps K F ads H (fs.map (·.2)) xs := by
  cases r with
  | p r =>
    cases r with
    | ins q _ e rs => cases h; exact ⟨_, _, _, rfl, q, e, rs.ofP⟩
    | _ => cases h
  | mix q rs => cases h
  | loc e =>
    unfold insOf at h
    dsimp only at h
    split at h
    · rename_i e1
      cases h
      obtain ⟨dx, fs, q, e2, rs⟩ := S.cell _ _ _ e1 e
      exact ⟨_, dx, fs, rfl, q, e2, rs⟩
    · cases h
theorem fget_rep : ∀ {fs : List (Str × V)} {xs : List D} {f : Str} {d : D}, Reps K F ads H (fs.map (·.2)) xs → fget (fs.map (·.1)) xs f = some d → ∃ v, fs.lookup f = some v ∧ Rep K F ads H v d
  | [], _, _, _, r, h => by cases r; cases h
  | (g, v) :: fs, _, f, d, r, h => by
    cases r with
    | cons r rr =>
      rename_i d0 xs
      have h1 : (if f = g then some d0 else fget (fs.map (·.1)) xs f) = some d := h
      by_cases e : f = g
      · rw [if_pos e] at h1
        cases h1
        exact ⟨v, by subst e; exact List.lookup_cons_self, r⟩
      · rw [if_neg e] at h1
        obtain ⟨w, q1, q2⟩ := fget_rep rr h1
        refine ⟨w, ?_, q2⟩
        have e2 : (f == g) = false := beq_eq_false_iff_ne.mpr e
        rw [List.lookup_cons, e2]
        exact q1
theorem fput_rep {v : V} {d : D} (f : Str) (rd : Rep K F ads H v d) : ∀ {fs : List (Str × V)} {xs : List D}, Reps K F ads H (fs.map (·.2)) xs →
    (putF f v fs).map (·.1) = (fput f d (fs.map (·.1)) xs).1 ∧ Reps K F ads H ((putF f v fs).map (·.2)) (fput f d (fs.map (·.1)) xs).2
  | [], _, r => by cases r; exact ⟨rfl, .cons rd .nil⟩
  | (g, w) :: fs, _, r => by
    cases r with
    | cons r rr =>
      rename_i d0 xs
      show (putF f v ((g, w) :: fs)).map (·.1) = (if g = f then (g :: fs.map (·.1), d :: xs) else (g :: (fput f d (fs.map (·.1)) xs).1, d0 :: (fput f d (fs.map (·.1)) xs).2)).1 ∧ Reps K F ads H ((putF f v ((g, w) :: fs)).map (·.2)) (if g = f then (g :: fs.map (·.1), d :: xs) else (g :: (fput f d (fs.map (·.1)) xs).1, d0 :: (fput f d (fs.map (·.1)) xs).2)).2
      obtain ⟨h1, h2⟩ := fput_rep f rd rr
      unfold putF
      by_cases e : g = f
      · rw [if_pos e, if_pos e]
        exact ⟨rfl, .cons rd rr⟩
      · rw [if_neg e, if_neg e]
        exact ⟨by rw [List.map_cons, h1], .cons r h2⟩
end
def iFld (fl : Fls) (f : Str) (fe : EI) : EI := fun env st => match fe env st with
  | some (d, st1) => (match insOf d st1 with
    | some (C, ns, xs) => if hasFld fl C f = true then (match fget ns xs f with
      | some y => some (y, st1)
      | none => none) else none
    | none => none)
  | none => none
/-- o.f = e: the value, then o -/
def sFldJ (fl : Fls) (f : Str) (fo fv : EI) : SI := fun env st => match fv env st with
  | some (d, st1) => (match fo env st1 with
    | some (.loc i, st2) => (match st2[i]? with
      | some (.ins C ns xs) => if hasFld fl C f = true ∧ ns.length < 1000 then some (.nx env, st2.set i (.ins C (fput f d ns xs).1 (fput f d ns xs).2)) else none
      | _ => none)
    | _ => none)
  | none => none
/-- o.f op= e -/
def sFldAugJ (fl : Fls) (f : Str) (g : Op2) (fo fv : EI) : SI := fun env st => match fo env st with
  | some (.loc i, st1) => (match st1[i]? with
    | some (.ins C ns xs) => if hasFld fl C f = true then (match fget ns xs f with
      | some a => (match fv env st1 with
        | some (b, st2) => (match g a b st2 with
          | some (d, st3) => (match st3[i]? with
            | some (.ins C2 ns2 xs2) => if C2 = C ∧ ns2.length < 1000 then some (.nx env, st3.set i (.ins C (fput f d ns2 xs2).1 (fput f d ns2 xs2).2)) else none
            | _ => none)
          | none => none)
        | none => none)
      | none => none) else none
    | _ => none)
  | _ => none
/-- a written instance -/
theorem put_ins {K : PySem.W.Frag} {F : Addr → Prop} {ads : List Addr} {H : Hp} {st : Store} {i : Nat} {a dx : Addr} {C : Str} {fs : List (Str × V)} {xs : List D} {f : Str} {v : V} {d : D} (S : Sim K F ads st H) (ha : ads[i]? = some a) (h0 : H a = some (.ins (He.ga K C) dx fs))
    (r : Reps K F ads H (fs.map (·.2)) xs) (rd : Rep K F ads H v d) : Ext ads [] H (upd H a (.ins (He.ga K C) dx (putF f v fs))) ∧ Sim K F (ads ++ []) (st.set i (.ins C (fput f d (fs.map (·.1)) xs).1 (fput f d (fs.map (·.1)) xs).2)) (upd H a (.ins (He.ga K C) dx (putF f v fs))) := by
  have hm : Mut (H a) := by rw [h0]; trivial
  have E := Ext.put (o := .ins (He.ga K C) dx (putF f v fs)) S (List.mem_of_getElem? ha) hm
  obtain ⟨h1, h2⟩ := fput_rep f rd r
  exact ⟨E, S.put ha hm ⟨dx, putF f v fs, upd_same, h1, h2.mono E⟩⟩
section
variable {X : Cx} {e o : Expr} {fe fo fv : EI} {f : Str} {fl : Fls} {pos pos2 : Pos} {value : Expr} {op : Operator} {g : Op2}
theorem je_fld (ok : FlsOk X.K fl) (he : JE X e fe) (hb : attributeBase e f X.env (eval e X.env) = eval e X.env) : JE X (.Attribute e f pos) (iFld fl f fe) := fun F => (pe_fld (he F) hb).imp fun σ H Q h => by
  obtain ⟨ads, env, st, d, st', S, E, hf, P⟩ := h
  unfold iFld at hf
  split at hf
  · rename_i d0 st1 e1
    split at hf
    · rename_i C ns xs e2
      split at hf
      · rename_i hh
        split at hf
        · rename_i y e3
          cases hf
          refine ⟨ads, env, st, d0, _, S, E, e1, fun new H1 x ex S1 r1 => ?_⟩
          obtain ⟨a, dx, fs, rfl, q, rfl, rs⟩ := insOf_rep S1 r1 e2
          obtain ⟨v, h1, h2⟩ := fget_rep rs e3
          obtain ⟨c, n⟩ := ok.at_ C f hh
          exact ⟨a, _, dx, fs, v, rfl, q, c, n, h1, (P.after ex).here S1 h2⟩
        · cases hf
      · cases hf
    · cases hf
  · cases hf
theorem js_fld (ok : FlsOk X.K fl) (ho : JE X o fo) (hv : JE X value fv) (hs : swapsWith value (some (.Attribute o f pos2)) pos.line X.env = pure false) : JS X (.Assign [.Attribute o f pos2] value pos) (sFldJ fl f fo fv) := fun F =>
  (ps_fld (ho F) (hv F) hs).imp fun W σ H h => by
    obtain ⟨ads, env, st, fe, st', S, E, hf, P⟩ := TSo.iff.mp h
    unfold sFldJ at hf
    split at hf
    · rename_i d st1 e1
      split at hf
      · rename_i i st2 e2
        split at hf
        · rename_i C ns xs e3
          split at hf
          · rename_i hh
            cases hf
            refine ⟨ads, env, st, d, st1, S, E, e1, fun new H1 y ex S1 ry => ⟨_, env, st1, _, st2, S1, E.mono ex, e2, fun new2 H2 x ex2 S2 rx => ?_⟩⟩
            cases rx with
            | loc ha =>
              obtain ⟨dx, fs, q, rfl, rs⟩ := S2.cell _ _ _ e3 ha
              obtain ⟨c, n⟩ := ok.at_ C f hh.1
              obtain ⟨E4, S4⟩ := put_ins (f := f) S2 ha q rs (ry.mono ex2)
              exact ⟨_, _, dx, fs, rfl, q, c, n, by have := hh.2; rwa [List.length_map] at this, ((P.after ex).after ex2) [] _ E4 S4 σ (((E.mono ex).mono ex2).mono E4)⟩
          · cases hf
        · cases hf
      · cases hf
    · cases hf
theorem js_fldAug (ok : FlsOk X.K fl) (ho : JE X o fo) (hv : JE X value fv) (hop : OpJ X (inplaceOp op) g) : JS X (.AugAssign (.Attribute o f pos2) op value pos) (sFldAugJ fl f g fo fv) := fun F =>
  (ps_fldaug (rd := rJ2 X.K F g) (ho F) (hv F) (hop F)).imp fun W σ H h => by
    obtain ⟨ads, env, st, fe, st', S, E, hf, P⟩ := TSo.iff.mp h
    unfold sFldAugJ at hf
    split at hf
    · rename_i i st1 e1
      split at hf
      · rename_i C ns xs e2
        split at hf
        · rename_i hh
          split at hf
          · rename_i a0 e3
            split at hf
            · rename_i b0 st2 e4
              split at hf
              · rename_i d st3 e5
                split at hf
                · rename_i C2 ns2 xs2 e6
                  split at hf
                  · rename_i hh2
                    obtain ⟨rfl, hlen⟩ := hh2
                    cases hf
                    refine ⟨ads, env, st, _, st1, S, E, e1, fun new H1 x ex S1 rx => ?_⟩
                    cases rx with
                    | loc ha =>
                      rename_i aa
                      obtain ⟨dx, fs, q, rfl, rs⟩ := S1.cell _ _ _ e2 ha
                      obtain ⟨c, n⟩ := ok.at_ _ f hh
                      obtain ⟨v, h1, h2⟩ := fget_rep rs e3
                      refine ⟨_, _, dx, fs, v, rfl, q, c, n, h1, _, env, st1, b0, st2, S1, E.mono ex, e4, fun new2 H2 y ex2 S2 ry => ⟨_, st2, a0, b0, d, st3, S2, h2.mono ex2, ry, e5, fun new3 H3 z ex3 S3 rz => ?_⟩⟩
                      have ha3 : (ads ++ new ++ new2 ++ new3)[i]? = some aa := by
                        rw [List.append_assoc, List.getElem?_append_left (List.getElem?_eq_some_iff.mp ha).1]
                        exact ha
                      obtain ⟨dx3, fs3, q3, rfl, rs3⟩ := S3.cell _ _ _ e6 ha3
                      obtain ⟨E4, S4⟩ := put_ins (f := f) S3 ha3 q3 rs3 rz
                      exact ⟨dx3, fs3, q3, by rwa [List.length_map] at hlen, (((P.after ex).after ex2).after ex3) [] _ E4 S4 σ ((((E.mono ex).mono ex2).mono ex3).mono E4)⟩
                  · cases hf
                · cases hf
              · cases hf
            · cases hf
          · cases hf
        · cases hf
      · cases hf
    · cases hf
end
/-! ### o[i] = v -/
def ixJ (n : Nat) (k : Int) : Option Nat := ixN n k
def kput (k : Key) (d : D) : List Key → List D → List Key × List D
  | g :: gs, v :: vs => if g = k then (g :: gs, d :: vs) else (g :: (kput k d gs vs).1, v :: (kput k d gs vs).2)
  | _, _ => ([k], [d])
def setJ (o i d : D) (st : Store) : Option Store := match o with
  | .loc n => (match st[n]? with
    | some (.lst xs) => (match i with
      | .p (.int k) => (match ixN xs.length k with
        | some j => some (st.set n (.lst (xs.set j d)))
        | none => none)
      | _ => none)
    | some (.dic ks xs) => (match keyD i with
      | some k => if ks.length < 16777216 ∧ ks.Nodup then some (st.set n (.dic (kput k d ks xs).1 (kput k d ks xs).2)) else none
      | none => none)
    | _ => none)
  | _ => none
def gSubJ (fo fi : EI) : GI := fun d env st => match fo env st with
  | some (o, st1) => (match fi env st1 with
    | some (i, st2) => (match setJ o i d st2 with
      | some st3 => some (env, st3)
      | none => none)
    | none => none)
  | none => none
theorem putK_cons {p : Key × V} {r : List (Key × V)} {k : Key} {v : V} : putK (p :: r) k v = if p.1 = k then (p.1, v) :: (r.map fun kv => if kv.1 = k then (kv.1, v) else kv) else p :: putK r k v := by
  unfold putK
  by_cases e : p.1 = k
  · simp [e]
  · simp only [List.any_cons, decide_eq_false e, Bool.false_or, List.map_cons, if_neg e]
    split <;> simp
theorem map_same {k : Key} {v : V} : ∀ {r : List (Key × V)}, k ∉ r.map (·.1) → (r.map fun kv => if kv.1 = k then (kv.1, v) else kv) = r
  | [], _ => rfl
  | p :: r, h => by
    have h1 : ¬ p.1 = k := fun e => h (by rw [List.map_cons, e]; exact List.mem_cons_self)
    rw [List.map_cons, if_neg h1, map_same fun q => h (List.mem_cons_of_mem _ q)]
theorem kput_rep {K : PySem.W.Frag} {F : Addr → Prop} {ads : List Addr} {H : Hp} {v : V} {d : D} (k : Key) (rd : Rep K F ads H v d) : ∀ {kvs : List (Key × V)} {xs : List D}, (kvs.map (·.1)).Nodup → Reps K F ads H (kvs.map (·.2)) xs →
    (putK kvs k v).map (·.1) = (kput k d (kvs.map (·.1)) xs).1 ∧ Reps K F ads H ((putK kvs k v).map (·.2)) (kput k d (kvs.map (·.1)) xs).2
  | [], _, _, r => by cases r; exact ⟨rfl, .cons rd .nil⟩
  | p :: kvs, _, nd, r => by
    cases r with
    | cons r rr =>
      rename_i d0 xs
      rw [List.map_cons, List.nodup_cons] at nd
      show (putK (p :: kvs) k v).map (·.1) = (if p.1 = k then (p.1 :: kvs.map (·.1), d :: xs) else (p.1 :: (kput k d (kvs.map (·.1)) xs).1, d0 :: (kput k d (kvs.map (·.1)) xs).2)).1 ∧ Reps K F ads H ((putK (p :: kvs) k v).map (·.2)) (if p.1 = k then (p.1 :: kvs.map (·.1), d :: xs) else (p.1 :: (kput k d (kvs.map (·.1)) xs).1, d0 :: (kput k d (kvs.map (·.1)) xs).2)).2
      rw [putK_cons]
      by_cases e : p.1 = k
      · rw [if_pos e, if_pos e, map_same (by rw [← e]; exact nd.1)]
        exact ⟨rfl, .cons rd rr⟩
      · obtain ⟨h1, h2⟩ := kput_rep k rd nd.2 rr
        rw [if_neg e, if_neg e]
        exact ⟨by rw [List.map_cons, h1], .cons r h2⟩
section
variable {X : Cx} {o i e : Expr} {fo fi fe : EI} {pos : Pos}
def tSetJ (K : PySem.W.Frag) (F : Addr → Prop) : TSet := fun o i v H Q => ∃ ads st od idd d st', Sim K F ads st H ∧ Rep K F ads H o od ∧ Rep K F ads H i idd ∧ Rep K F ads H v d ∧ setJ od idd d st = some st' ∧ ∀ H', Ext ads [] H H' → Sim K F (ads ++ []) st' H' → Q H'
theorem set_J (hu : X.A.units + 1 < cLine) (F : Addr → Prop) : PSet X (tSetJ X.K F) := by
  intro pins s σ H o i v ov iv u Q I ro ri rv ⟨ads, st, od, idd, d, st', S, rO, rI, rD, hg, P⟩
  unfold setJ at hg
  split at hg
  · rename_i n
    split at hg
    · rename_i xs e1
      split at hg
      · rename_i k
        split at hg
        · rename_i j e2
          cases hg
          cases rO with
          | loc ha =>
            rename_i a
            obtain ⟨vs, q, rs⟩ := S.cell _ _ _ e1 ha
            have hm : Mut (H a) := by rw [q]; trivial
            have E := Ext.put (o := .lst (vs.set j v)) S (List.mem_of_getElem? ha) hm
            exact set_list pins s σ H _ i v ov iv u Q I ro ri rv ⟨_, vs, k, j, rfl, rI.int, q, by rw [rs.length]; exact e2, P _ E (S.put ha hm ⟨_, upd_same, (rs.set rD j).mono E⟩)⟩
        · cases hg
      · cases hg
    · rename_i ks xs e1
      split at hg
      · rename_i k e2
        split at hg
        · rename_i hh
          cases hg
          cases rO with
          | loc ha =>
            rename_i a
            obtain ⟨kvs, q, rfl, rs⟩ := S.cell _ _ _ e1 ha
            obtain rfl := keyD_rep rI e2
            have hm : Mut (H a) := by rw [q]; trivial
            have E := Ext.put (o := .dK (putK kvs k v)) S (List.mem_of_getElem? ha) hm
            obtain ⟨h1, h2⟩ := kput_rep k rD hh.2 rs
            obtain rfl : ov = Value.ref a := ro
            have hl : kvs.length < sizeLine := by
              have := hh.1
              rw [List.length_map] at this
              rw [sizeLine_eq]; exact this
            exact d_setItem hu I (.k q hl) ri rv fun s4 I4 => ⟨_, I4, P _ E (S.put ha hm ⟨_, upd_same, h1, h2.mono E⟩)⟩
        · cases hg
      · cases hg
    · cases hg
  · cases hg
theorem jg_sub (hu : X.A.units + 1 < cLine) (ho : JE X o fo) (hi : JE X i fi) (ha : ∀ v, assign (.Subscript o i pos) X.env v = (do
      let ov ← holding [v] (eval o X.env)
      let iv ← holding [v, ov] (eval i X.env)
      standAt pos
      holding [v, ov, iv] (setItem ov iv v)
      release [v, ov, iv] [])) : JG X (.Subscript o i pos) (gSubJ fo fi) := fun F => (pg_sub (ho F) (hi F) (set_J hu F) ha).imp fun v σ H Q h => by
  obtain ⟨ads, env, st, d, env', st', S, E, rd, hg, P⟩ := h
  unfold gSubJ at hg
  split at hg
  · rename_i od st1 e1
    split at hg
    · rename_i idd st2 e2
      split at hg
      · rename_i st3 e3
        cases hg
        refine ⟨ads, env, st, od, st1, S, E, e1, fun new H1 x ex S1 r1 => ⟨_, env, st1, idd, st2, S1, E.mono ex, e2, fun new2 H2 y ex2 S2 r2 => ?_⟩⟩
        exact ⟨_, st2, od, idd, d, _, S2, r1.mono ex2, r2, (rd.mono ex).mono ex2, e3, fun H3 ex3 S3 => ((P.after ex).after ex2) [] H3 σ ex3 S3 (((E.mono ex).mono ex2).mono ex3)⟩
      · cases hg
    · cases hg
  · cases hg
end
end J

set_option Elab.async false
set_option linter.all false
set_option maxRecDepth 100000
set_option maxHeartbeats 4000000
/-! J11: calls of defs, of classes, of methods; keywords; dict(pairs). -/
namespace J
open PySem PySem.Spec PyProof.Rows L2
set_option autoImplicit false
/-! ### defs -/
/-- a def: its parameters, its level, for which numbers of positional values it is called by keywords, what it does -/
structure FnE where
  ps : List Str
  lvl : Nat
  kwn : List Nat
  run : Run
structure FnFact (P : Program) (w : World) (K : PySem.W.Frag) (mg : Str → Option Value) (base : Heap) (f : Addr) (e : FnE) : Prop where
  ex : ∃ fd : FuncData, FnOk P w K mg base CX0 e.lvl f fd e.ps (spS K e.ps.length e.run) ∧ Binds K fd e.ps [] ∧ ∀ n ∈ e.kwn, KBn K fd e.ps n (e.ps.drop n) (fun us ws => us ++ ws) (fun vs zs => vs ++ zs)
  np : ∀ ds st r, e.run ds st = some r → ds.length = e.ps.length
def DefF (P : Program) (w : World) (K : PySem.W.Frag) (mg : Str → Option Value) (base : Heap) (x : Str) (e : FnE) : Prop := ∃ f : Addr, FnFact P w K mg base f e ∧ mg x = some (.ref f) ∧ PySem.W.keepIn K (.ref f) = true
def MethF (P : Program) (w : World) (K : PySem.W.Frag) (mg : Str → Option Value) (base : Heap) (C m : Str) (e : FnE) : Prop := ∃ f : Addr, FnFact P w K mg base f e ∧ Meth K (He.ga K C) m f ∧ Cls K (He.ga K C)
def MakeF (P : Program) (w : World) (K : PySem.W.Frag) (mg : Str → Option Value) (base : Heap) (C : Str) (e : FnE) : Prop := ∃ f : Addr, FnFact P w K mg base f e ∧ Mk K (He.ga K C) f ∧ mg C = some (.ref (He.ga K C))
/-- a call's run; sh: with the caller's store -/
def runC (sh : Bool) (run : Run) (ds : List D) (st : Store) : Option (D × Store) := if sh then run ds st else match allP ds with
  | some xs => (match pureRun run xs with
    | some r => some (.p r, st)
    | none => none)
  | none => run ds st
def iCallC (sh : Bool) (run : Run) (fa : AI) : EI := fun env st => match fa env st with
  | some (ds, st1) => runC sh run ds st1
  | none => none
theorem allP_len : ∀ {l : List D} {ys : List PD}, allP l = some ys → l.length = ys.length
  | [], _, h => by cases h; rfl
  | .p x :: r, ys, h => by
    have h1 : (match allP r with
      | some xs => some (x :: xs)
      | none => none) = some ys := h
    split at h1
    · rename_i xs e
      cases h1
      rw [List.length_cons, List.length_cons, allP_len e]
    · cases h1
  | .loc _ :: r, _, h => by cases h
  | .mix _ :: r, _, h => by cases h
theorem sp_of {P : Program} {w : World} {K : PySem.W.Frag} {mg : Str → Option Value} {base : Heap} {f : Addr} {e : FnE} {F : Addr → Prop} {ads : List Addr} {H : Hp} {st st' : Store} {vs : List V} {ds : List D} {d : D} {Q : VK} {sh : Bool} {E : XK}
    (ok : FnFact P w K mg base f e) (S : Sim K F ads st H) (rs : Reps K F ads H vs ds) (hf : runC sh e.run ds st = some (d, st')) (Pq : Post K F ads H Q d st') : spS K e.ps.length e.run vs H Q E := by
  unfold runC at hf
  split at hf
  · exact ⟨by rw [rs.length]; exact ok.np _ _ _ hf, F, ads, st, ds, d, st', S, rs, hf, Pq⟩
  · split at hf
    · rename_i xs e2
      split at hf
      · rename_i r e3
        cases hf
        have hl : vs.length = e.ps.length := by
          have e4 := e3
          unfold pureRun at e4
          split at e4
          · rename_i d1 st1 e5
            have := ok.np _ _ _ e5
            rw [List.length_map] at this
            rw [rs.length, ← this]
            exact allP_len e2
          · cases e4
        exact pure_post S (rs.toP e2) e3 hl Pq
      · cases hf
    · exact ⟨by rw [rs.length]; exact ok.np _ _ _ hf, F, ads, st, ds, d, st', S, rs, hf, Pq⟩
/-! ### keywords -/
def JK (X : Cx) (kws : List Keyword) (f : AI) : Prop := ∀ F, PK X kws (TAo X.K F f)
def aAppN (n m : Nat) (f g : AI) : AI := fun env st => match f env st with
  | some (ds, st1) => (match g env st1 with
    | some (zs, st2) => if ds.length = n ∧ zs.length = m then some (ds ++ zs, st2) else none
    | none => none)
  | none => none
section
variable {X : Cx} {e : Expr} {es : List Expr} {kws : List Keyword} {f : EI} {fa fk : AI} {x : Str} {p pos kpos : Pos} {nm : Option Str} {d : FnE} {sh : Bool}
theorem _root_.L2.PK.imp {t t' : TA} (h : PK X kws t) (q : ∀ σ H Q, t' σ H Q → t σ H Q) : PK X kws t' := ⟨fun pos pins s σ H Q I w => h.run pos pins s σ H Q I (q σ H Q w)⟩
theorem jk_nil : JK X [] aNil := fun F => pk_nil.imp fun σ H Q h => by
  obtain ⟨ads, env, st, ds, st', S, E, hf, P⟩ := h
  cases hf
  exact P [] H [] (Ext.refl _ _) (app_nil' S) .nil
theorem jk_cons (he : JE X e f) (hr : JK X kws fk) : JK X (⟨nm, e, kpos⟩ :: kws) (aCons f fk) := fun F => (pk_cons (he F) (hr F)).imp fun σ H Q h => by
  obtain ⟨ads, env, st, ds, st', S, E, hf, P⟩ := h
  unfold aCons at hf
  split at hf
  · rename_i d1 st1 e1
    split at hf
    · rename_i ds1 st2 e2
      cases hf
      refine ⟨ads, env, st, d1, st1, S, E, e1, fun new H1 y ex S1 r1 => ⟨_, env, st1, ds1, _, S1, E.mono ex, e2, fun new2 H2 ys ex2 S2 r2 => ?_⟩⟩
      exact P (new ++ new2) H2 _ (ex.trans ex2) (by rw [← List.append_assoc]; exact S2) (by rw [← List.append_assoc]; exact .cons (r1.mono ex2) r2)
    · cases hf
  · cases hf
theorem je_callC (F0 : DefF X.prog X.w X.K X.mg X.base x d) (hr : Room d.lvl X.A) (hg : Gl X x) (ha : JA X (e :: es) fa) (hdb : (x == ("__debug__" : Str)) = false)
    (he : starEach (e :: es) X.env = (false, eval e X.env) :: starEach es X.env) (hpl : (backTo pos (starEach es X.env)).any (·.1) = false) : JE X (.Call (.Name x p) (e :: es) [] pos) (iCallC sh d.run fa) := fun F => by
  obtain ⟨f, ok, hm, kp⟩ := F0
  obtain ⟨fd, fok, b, _⟩ := ok.ex
  refine (pe_call (dvs := []) (ds := []) fok hr hg hm kp b .nil pass0 (ha F) hdb he hpl).imp fun σ H Q h => ?_
  obtain ⟨ads, env, st, d0, st', S, E, hf, P⟩ := h
  unfold iCallC at hf
  split at hf
  · rename_i ds st1 e1
    refine ⟨ads, env, st, ds, st1, S, E, e1, fun new H1 vs ex S1 r1 => ?_⟩
    dsimp only
    rw [List.append_nil]
    exact sp_of ok S1 r1 hf (P.after ex)
  · cases hf
theorem je_callC0 (F0 : DefF X.prog X.w X.K X.mg X.base x d) (hr : Room d.lvl X.A) (hg : Gl X x) (hdb : (x == ("__debug__" : Str)) = false) : JE X (.Call (.Name x p) [] [] pos) (iCallC sh d.run aNil) := fun F => by
  obtain ⟨f, ok, hm, kp⟩ := F0
  obtain ⟨fd, fok, b, _⟩ := ok.ex
  refine (pe_call0 (dvs := []) (ds := []) fok hr hg hm kp b .nil pass0 hdb).imp fun σ H Q h => ?_
  obtain ⟨ads, env, st, d0, st', S, E, hf, P⟩ := h
  exact sp_of (E := E0) (vs := []) ok S .nil (show runC sh d.run [] st = some (d0, st') from hf) P
theorem kws_all : ∀ (kws : List Keyword), kws.all (fun k => k.arg.isSome) = true → (backToKw pos (keywordEach kws X.env)).all (·.1.isSome) = true ∧ (backToKw pos (keywordEach kws X.env)).filterMap (·.1) = kws.filterMap (·.arg) ∧ (backToKw pos (keywordEach kws X.env)).any (·.1.isNone) = false
  | [], _ => ⟨rfl, rfl, rfl⟩
  | ⟨nm, v, p⟩ :: kws, h => by
    rw [List.all_cons, Bool.and_eq_true] at h
    obtain ⟨h1, h2, h3⟩ := kws_all kws h.2
    cases nm with
    | none => cases h.1
    | some nm =>
      refine ⟨?_, ?_, ?_⟩
      · show (true && (backToKw pos (keywordEach kws X.env)).all (·.1.isSome)) = true
        rw [h1]; rfl
      · show nm :: (backToKw pos (keywordEach kws X.env)).filterMap (·.1) = nm :: kws.filterMap (·.arg)
        rw [h2]
      · show (false || (backToKw pos (keywordEach kws X.env)).any (·.1.isNone)) = false
        rw [h3]; rfl
theorem je_callK (F0 : DefF X.prog X.w X.K X.mg X.base x d) (hr : Room d.lvl X.A) (hg : Gl X x) (ha : JA X (e :: es) fa) (hk : JK X kws fk) (hall : kws.all (fun k => k.arg.isSome) = true) (hn : (e :: es).length ∈ d.kwn) (hks : kws.filterMap (·.arg) = d.ps.drop (e :: es).length)
    (hdb : (x == ("__debug__" : Str)) = false) (he : starEach (e :: es) X.env = (false, eval e X.env) :: starEach es X.env) (hpl : (backTo pos (starEach (e :: es) X.env)).any (·.1) = false) :
    JE X (.Call (.Name x p) (e :: es) kws pos) (iCallC sh d.run (aAppN (e :: es).length (d.ps.drop (e :: es).length).length fa fk)) := fun F => by
  obtain ⟨f, ok, hm, kp⟩ := F0
  obtain ⟨fd, fok, _, kb⟩ := ok.ex
  obtain ⟨k1, k2, k3⟩ := kws_all (X := X) (pos := pos) kws hall
  refine (pe_callN fok hr hg hm kp (kb _ hn) pass0 (ha F) (hk F) k1 (k2.trans hks) hdb he (by rw [hpl, k3]; rfl)).imp fun σ H Q h => ?_
  obtain ⟨ads, env, st, d0, st', S, E, hf, P⟩ := h
  unfold iCallC at hf
  split at hf
  · rename_i ds st1 e1
    unfold aAppN at e1
    split at e1
    · rename_i ds1 st2 e2
      split at e1
      · rename_i zs st3 e3
        split at e1
        · rename_i hl
          cases e1
          refine ⟨ads, env, st, ds1, st2, S, E, e2, fun new H1 vs ex S1 r1 => ⟨_, env, st2, zs, _, S1, E.mono ex, e3, fun new2 H2 ws ex2 S2 r2 => ?_⟩⟩
          exact ⟨by rw [r1.length]; exact hl.1, by rw [r2.length]; exact hl.2, sp_of ok S2 ((r1.mono ex2).append r2) hf ((P.after ex).after ex2)⟩
        · cases e1
      · cases e1
    · cases e1
  · cases hf
theorem je_callK0 (F0 : DefF X.prog X.w X.K X.mg X.base x d) (hr : Room d.lvl X.A) (hg : Gl X x) (hk : JK X kws fk) (hall : kws.all (fun k => k.arg.isSome) = true) (hn : 0 ∈ d.kwn) (hks : kws.filterMap (·.arg) = d.ps)
    (hdb : (x == ("__debug__" : Str)) = false) : JE X (.Call (.Name x p) [] kws pos) (iCallC sh d.run (aAppN 0 d.ps.length aNil fk)) := fun F => by
  obtain ⟨f, ok, hm, kp⟩ := F0
  obtain ⟨fd, fok, _, kb⟩ := ok.ex
  obtain ⟨k1, k2, k3⟩ := kws_all (X := X) (pos := pos) kws hall
  refine ⟨fun pins s σ H Q I h => ?_⟩
  obtain ⟨ads, env, st, d0, st', S, E, hf, P⟩ := h
  unfold iCallC at hf
  split at hf
  · rename_i ds st1 e1
    unfold aAppN at e1
    dsimp only [aNil] at e1
    split at e1
    · rename_i zs st3 e3
      split at e1
      · rename_i hl
        cases e1
        refine wpAny_Call_Name_kw (ld_glob I hg hm ?_ hdb)
        refine PySem.W.callWith_KW0 (h₀ := X.base) I.ok.mod.kin kp k1 (thn ((hk F).run pos pins s σ H (fun ws H2 => ∃ new, Ext ads new H H2 ∧ Sim X.K F (ads ++ new) st1 H2 ∧ Reps X.K F (ads ++ new) H2 ws zs) I ⟨ads, env, st, zs, _, S, E, e3, fun new H2 ws ex S2 r2 => ⟨new, ex, S2, r2⟩⟩) fun ws s2 ⟨vs, H2, I2, rz, q2⟩ => ⟨I2.kIn, ?_⟩) (by rw [k3]; rfl)
        rw [k2, hks]
        obtain ⟨new, ex, S2, r2⟩ := q2
        exact run_fnN (us := []) (vs := []) fok hr (kb _ hn) pass0 I2 .nil rz rfl (by rw [r2.length]; exact hl.2) (sp_of (vs := [] ++ vs) ok S2 r2 hf (P.after ex))
      · cases e1
    · cases e1
  · cases hf
end
/-! ### classes -/
def makeS (C : Str) (run : Run) (args : AI) : EI := fun env st => match args env st with
  | some (ds, st1) => (match run (.loc st1.length :: ds) (st1 ++ [.ins C [] []]) with
    | some (.p .non, st2) => some (.loc st1.length, st2)
    | _ => none)
  | none => none
/-- made of plain things: a plain instance -/
def pureMake (C : Str) (run : Run) (xs : List PD) : Option PD := match run (.loc 0 :: xs.map D.p) [.ins C [] []] with
  | some (.p .non, st2) => freeze 16 st2 (.loc 0)
  | _ => none
def iMake (sh : Bool) (C : Str) (run : Run) (args : AI) : EI := if sh then makeS C run args else fun env st => match args env st with
  | some (ds, st1) => (match allP ds with
    | some xs => (match pureMake C run xs with
      | some r => some (.p r, st1)
      | none => none)
    | none => (match run (.loc st1.length :: ds) (st1 ++ [.ins C [] []]) with
      | some (.p .non, st2) => some (.loc st1.length, st2)
      | _ => none))
  | none => none
section
variable {K : PySem.W.Frag} {F : Addr → Prop} {ads : List Addr} {H : Hp} {st : Store} {P : Program} {w : World} {mg : Str → Option Value} {base : Heap} {f : Addr} {e : FnE}
theorem made_shared {C : Str} {vs : List V} {ds : List D} {st2 : Store} {Q : VK} (ok : FnFact P w K mg base f e) (S : Sim K F ads st H) (rs : Reps K F ads H vs ds) (hf : e.run (.loc st.length :: ds) (st ++ [.ins C [] []]) = some (.p .non, st2)) (Pq : Post K F ads H Q (.loc st.length) st2)
    {x dx : Addr} (hx : H x = none) (hdx : H dx = none) (hne : dx ≠ x) : spS K e.ps.length e.run (.ref x :: vs) (upd (upd H dx (.own x)) x (.ins (He.ga K C) dx [])) (fun v H2 => v = .non ∧ Q (.ref x) H2) E0 := by
  have E1 := Ext.laid (ads := ads) (o := .own x) hdx
  have S1 : Sim K F ads st (upd H dx (.own x)) := app_nil (S.laid hdx)
  have hx1 : (upd H dx (.own x)) x = none := by rw [upd_ne (Ne.symm hne)]; exact hx
  have E2 : Ext ads [x] (upd H dx (.own x)) (upd (upd H dx (.own x)) x (.ins (He.ga K C) dx [])) := Ext.grown hx1
  have S2 : Sim K F (ads ++ [x]) (st ++ [.ins C [] []]) (upd (upd H dx (.own x)) x (.ins (He.ga K C) dx [])) := S1.grown hx1 ⟨dx, [], upd_same, rfl, .nil⟩
  have E3 : Ext ads [x] H (upd (upd H dx (.own x)) x (.ins (He.ga K C) dx [])) := by
    have z := E1.trans (ads := ads) (new := []) (by rw [List.append_nil]; exact E2)
    exact z
  have hat : (ads ++ [x])[st.length]? = some x := by
    rw [List.getElem?_append_right (by rw [S.len]; exact Nat.le_refl _), S.len, Nat.sub_self]; rfl
  refine ⟨by rw [List.length_cons, rs.length]; exact ok.np _ _ _ hf, F, ads ++ [x], _, _, _, st2, S2, .cons (.loc hat) (rs.mono E3), hf, fun new H' v ex S' rv => ⟨rv.non, ?_⟩⟩
  refine Pq ([x] ++ new) H' _ (E3.trans ex) (by rw [← List.append_assoc]; exact S') (.loc ?_)
  rw [← List.append_assoc, List.getElem?_append_left (List.getElem?_eq_some_iff.mp hat).1]
  exact hat
theorem made_pure {C : Str} {vs : List V} {xs : List PD} {r : PD} {Q : VK} (ok : FnFact P w K mg base f e) (S : Sim K F ads st H) (rs : RepPs K (Bad F ads) H vs xs) (hf : pureMake C e.run xs = some r) (Pq : Post K F ads H Q (.p r) st)
    {x dx : Addr} (hx : H x = none) (hdx : H dx = none) (hne : dx ≠ x) : spS K e.ps.length e.run (.ref x :: vs) (upd (upd H dx (.own x)) x (.ins (He.ga K C) dx [])) (fun v H2 => v = .non ∧ Q (.ref x) H2) E0 := by
  unfold pureMake at hf
  split at hf
  · rename_i st2 e1
    have B0 : Sim K (Bad F ads) [] [] H := ⟨rfl, .nil, fun i c a h _ => by simp at h, fun a h => h.elim (S.far a) fun h => S.there h, fun a h => nomatch h⟩
    have R0 : Reps K (Bad F ads) [] H vs (xs.map D.p) := RepPs.ofP (F := Bad F ads) (ads := []) (rs.imp fun a h => h.elim (fun z => z) fun z => nomatch z)
    refine made_shared (F := Bad F ads) (ads := []) (st := []) ok B0 R0 e1 (fun new H' v ex S' rv => ?_) hx hdx hne
    have rp : RepP K (Bad F ads) H' v r := freeze_rep S' 16 rv hf
    have E : Ext ads [] H H' := ⟨fun a o h _ => ex.keep a o h (fun z => (nomatch z)), ex.tup, ex.frz, ex.there, fun a h => (nomatch h)⟩
    refine Pq [] H' v E ⟨by rw [List.append_nil]; exact S.len, by rw [List.append_nil]; exact S.nd, fun i c a h1 h2 => ?_, fun a h => ex.there a (S.far a h), fun a h => by rw [List.append_nil] at h; exact S.apart a h⟩ ?_
    · rw [List.append_nil] at h2
      have okc := S.cell i c a h1 h2
      refine CellOk.mono E okc ?_
      cases q : H a with
      | none => exact absurd q okc.there
      | some o => exact ex.keep a o q fun z => nomatch z
    · rw [List.append_nil]
      exact .p rp
  · cases hf
end
section
variable {X : Cx} {e o : Expr} {es : List Expr} {fo : EI} {fa : AI} {C m : Str} {p pos apos : Pos} {d : FnE} {sh : Bool}
theorem je_make (F0 : MakeF X.prog X.w X.K X.mg X.base C d) (hr : Room (d.lvl + 1) X.A) (hg : Gl X C) (ha : JA X (e :: es) fa) (hdb : (C == ("__debug__" : Str)) = false)
    (he : starEach (e :: es) X.env = (false, eval e X.env) :: starEach es X.env) (hpl : (backTo pos (starEach es X.env)).any (·.1) = false) : JE X (.Call (.Name C p) (e :: es) [] pos) (iMake sh C d.run fa) := fun F => by
  obtain ⟨f, ok, mk, hm⟩ := F0
  obtain ⟨fd, fok, b, _⟩ := ok.ex
  refine (pe_make (dvs := []) (ds := []) mk fok hr hg hm b .nil pass0 (ha F) hdb he hpl).imp fun σ H Q h => ?_
  obtain ⟨ads, env, st, d0, st', S, E, hf, P⟩ := h
  unfold iMake makeS at hf
  split at hf
  · dsimp only at hf
    split at hf
    · rename_i ds st1 e1
      split at hf
      · rename_i st2 e2
        cases hf
        refine ⟨ads, env, st, ds, st1, S, E, e1, fun new H1 vs ex S1 r1 x dx hx hdx hne => ?_⟩
        rw [List.append_nil]
        exact made_shared ok S1 r1 e2 (P.after ex) hx hdx hne
      · cases hf
    · cases hf
  · dsimp only at hf
    split at hf
    · rename_i ds st1 e1
      refine ⟨ads, env, st, ds, st1, S, E, e1, fun new H1 vs ex S1 r1 x dx hx hdx hne => ?_⟩
      rw [List.append_nil]
      split at hf
      · rename_i xs e2
        split at hf
        · rename_i r e3
          cases hf
          exact made_pure ok S1 (r1.toP e2) e3 (P.after ex) hx hdx hne
        · cases hf
      · split at hf
        · rename_i st2 e2
          cases hf
          exact made_shared ok S1 r1 e2 (P.after ex) hx hdx hne
        · cases hf
    · cases hf
/-! ### methods -/
def iMethC (sh : Bool) (C m : Str) (run : Run) (fo : EI) (fa : AI) : EI := fun env st => match fo env st with
  | some (o, st1) => (match insOf o st1 with
    | some (E, ns, _) => if E = C ∧ ns.contains m = false then (match fa env st1 with
      | some (ds, st2) => runC sh run (o :: ds) st2
      | none => none) else none
    | none => none)
  | none => none
theorem lookup_none_of {fs : List (Str × V)} {m : Str} (h : (fs.map (·.1)).contains m = false) : fs.lookup m = none := by
  induction fs with
  | nil => rfl
  | cons q fs ih =>
    rw [List.map_cons, List.contains_cons, Bool.or_eq_false_iff] at h
    rw [List.lookup_cons, h.1]
    exact ih h.2
theorem meth_to {F : Addr → Prop} {f : Addr} {σ : St} {H : Hp} {Q : VK} (ok : FnFact X.prog X.w X.K X.mg X.base f d) (h : TEo X.K F (iMethC sh C m d.run fo fa) σ H Q) : tMeth (He.ga X.K C) m (spS X.K d.ps.length d.run) [] E0 (TEo X.K F fo) (TAo X.K F fa) σ H Q := by
  obtain ⟨ads, env, st, d0, st', S, E, hf, P⟩ := h
  unfold iMethC at hf
  split at hf
  · rename_i o1 st1 e1
    split at hf
    · rename_i C2 ns xs e2
      split at hf
      · rename_i hh
        obtain ⟨rfl, hn⟩ := hh
        split at hf
        · rename_i ds st2 e3
          refine ⟨ads, env, st, o1, st1, S, E, e1, fun new H1 x ex S1 r1 => ?_⟩
          obtain ⟨a, dx, fs, rfl, q, rfl, rs⟩ := insOf_rep S1 r1 e2
          refine ⟨a, dx, fs, rfl, q, lookup_none_of hn, _, env, st1, ds, st2, S1, E.mono ex, e3, fun new2 H2 vs ex2 S2 r2 => ?_⟩
          dsimp only
          rw [List.append_nil]
          exact sp_of ok S2 (.cons (r1.mono ex2) r2) hf ((P.after ex).after ex2)
        · cases hf
      · cases hf
    · cases hf
  · cases hf
theorem meth_eq (hbase : attributeBase o m X.env (eval o X.env) = eval o X.env) (hfew : methodCallForm (es.length + 0) (backTo pos (starEach es X.env)) (backToKw pos (keywordEach [] X.env)) = true) (hline : (apos.endLine == pos.line) = true) :
    eval (.Call (.Attribute o m apos) es [] pos) X.env = (do
      let ov ← eval o X.env
      standAt apos.atName
      let (f, first) ← holding [ov] (getMethod ov m (do return (← importBound o X.env).getD true))
      callWith pos f first (backTo pos (starEach es X.env)) (backToKw pos (keywordEach [] X.env))) := by
  have hpos : methodCallPos true o X.env apos pos = pure pos := by
    unfold methodCallPos
    rw [hline]
    rfl
  have hcal : ∀ ov, calleeOf true o X.env ov m = getMethod ov m (do return (← importBound o X.env).getD true) := fun _ => rfl
  rw [arm_eval_Call, hbase]
  have hm : ∀ ov, methodCall o m apos pos X.env ov (es.length + ([] : List Keyword).length) (backTo pos (starEach es X.env)) (backToKw pos (keywordEach [] X.env)) = (do
      let (f, first) ← holding [ov] (getMethod ov m (do return (← importBound o X.env).getD true))
      callWith pos f first (backTo pos (starEach es X.env)) (backToKw pos (keywordEach [] X.env))) := fun ov => by
    unfold methodCall
    have hfew2 : methodCallForm (es.length + ([] : List Keyword).length) (backTo pos (starEach es X.env)) (backToKw pos (keywordEach [] X.env)) = true := hfew
    rw [hfew2, hpos, hcal]
    simp only [pure_bind]
  simp only [hm]
theorem je_meth (F0 : MethF X.prog X.w X.K X.mg X.base C m d) (hr : Room d.lvl X.A) (ho : JE X o fo) (ha : JA X (e :: es) fa) (hbase : attributeBase o m X.env (eval o X.env) = eval o X.env)
    (hfew : methodCallForm ((e :: es).length + 0) (backTo pos (starEach (e :: es) X.env)) (backToKw pos (keywordEach [] X.env)) = true) (hline : (apos.endLine == pos.line) = true)
    (he : starEach (e :: es) X.env = (false, eval e X.env) :: starEach es X.env) (hpl : (backTo pos (starEach es X.env)).any (·.1) = false) : JE X (.Call (.Attribute o m apos) (e :: es) [] pos) (iMethC sh C m d.run fo fa) := fun F => by
  obtain ⟨f, ok, hm, hc⟩ := F0
  obtain ⟨fd, fok, b, _⟩ := ok.ex
  exact (pe_meth (pl := do return (← importBound o X.env).getD true) (dvs := []) (ds := []) (ho F) hc hm fok hr b .nil pass0 (ha F) he hpl (meth_eq hbase hfew hline)).imp fun σ H Q h => meth_to ok h
theorem je_meth0 (F0 : MethF X.prog X.w X.K X.mg X.base C m d) (hr : Room d.lvl X.A) (ho : JE X o fo) (hbase : attributeBase o m X.env (eval o X.env) = eval o X.env) (hline : (apos.endLine == pos.line) = true) : JE X (.Call (.Attribute o m apos) [] [] pos) (iMethC sh C m d.run fo aNil) := fun F => by
  obtain ⟨f, ok, hm, hc⟩ := F0
  obtain ⟨fd, fok, b, _⟩ := ok.ex
  refine (pe_meth0 (pl := do return (← importBound o X.env).getD true) (dvs := []) (ds := []) (ho F) hc hm fok hr b .nil pass0 (meth_eq hbase rfl hline)).imp fun σ H Q h => ?_
  have z := meth_to (X := X) ok h
  obtain ⟨ads, env, st, d1, st1, S, E, e1, k⟩ := z
  refine ⟨ads, env, st, d1, st1, S, E, e1, fun new H1 x ex S1 r1 => ?_⟩
  obtain ⟨a, dx, fs, rfl, q, l, ads2, env2, st2, ds2, st3, S2, E2, e2, k2⟩ := k new H1 x ex S1 r1
  cases e2
  exact ⟨a, dx, fs, rfl, q, l, k2 [] H1 [] (Ext.refl _ _) (app_nil' S2) .nil⟩
end
end J

set_option Elab.async false
set_option linter.all false
set_option maxRecDepth 100000
set_option maxHeartbeats 4000000
/-! J12: isinstance with several classes, dict(pairs), dict comprehensions, written dicts, three names at once. -/
namespace J
open PySem PySem.Spec PyProof.Rows L2
set_option autoImplicit false
/-! ### isinstance(x, (A, B, ..)) -/
def iIsiT (cs : List Str) (fe : EI) (fc : AI) : EI := fun env st => match fe env st with
  | some (d, st1) => (match fc env st1 with
    | some (ds, st2) => (match tagOf d st2, mapT ds with
      | some t, some us => if tagOk cs t = true ∧ ds.length ≤ 1000 then (match isAny cs t us with
        | some b => some (.p (.bl b), st2)
        | none => none) else none
      | _, _ => none)
    | none => none)
  | none => none
section
variable {X : Cx} {e : Expr} {es : List Expr} {fe : EI} {fc : AI} {k : Nat} {p pos tp : Pos} {cs : List Str}
theorem je_isiT (C0 : ClsOk X.K cs) (hg : Gl X "isinstance") (hm : X.mg "isinstance" = none) (he : JE X e fe) (hc : JA X es fc) (hs : starEach [e, .Tuple es k tp] X.env = [(false, eval e X.env), (false, eval (.Tuple es k tp) X.env)]) (hs2 : starEach [.Tuple es k tp] X.env = [(false, eval (.Tuple es k tp) X.env)])
    (hpl : (backTo pos (starEach [.Tuple es k tp] X.env)).any (·.1) = false) : JE X (.Call (.Name "isinstance" p) [e, .Tuple es k tp] [] pos) (iIsiT cs fe fc) := fun F =>
  (pe_callB (call_isiT (X := X)) hg hm rfl (pa_cons (he F) (pa_cons (pe_tup (hc F)) pa_nil hs2) (by rw [hs, hs2])) (by decide) (by decide) (by rw [hs, hs2]) hpl).imp fun σ H Q h => by
    obtain ⟨ads, env, st, d0, st', S, E, hf, P⟩ := h
    unfold iIsiT at hf
    split at hf
    · rename_i d st1 e1
      split at hf
      · rename_i ds st2 e2
        split at hf
        · rename_i t us e3 e4
          split at hf
          · rename_i hh
            split at hf
            · rename_i b e5
              cases hf
              refine ⟨ads, env, st, d, st1, S, E, e1, fun new H1 x ex S1 r1 => ⟨_, env, st1, ds, _, S1, E.mono ex, e2, fun new2 H2 vs ex2 S2 r2 => ⟨sizeLine_lit (by rw [r2.length]; exact Nat.le_trans hh.2 (by decide)), fun q hq => ?_⟩⟩⟩
              have exq := Ext.laid (ads := ads ++ new ++ new2) (o := .tup vs) hq
              have Sq := S2.laid (o := .tup vs) hq
              exact ⟨x, q, vs, _, _, b, rfl, upd_same, clsTags_rep r2 e4, tag_tyX C0 Sq ((r1.mono ex2).mono exq) e3 hh.1, isAny_ok C0 e5, (((P.after ex).after ex2).after exq).here Sq (.p (.bl _))⟩
            · cases hf
          · cases hf
        · cases hf
      · cases hf
    · cases hf
end
/-! ### dict(pairs) -/
def pairOf (d : D) : Option (Key × D) := match tupOf d with
  | some [k, v] => (match keyD k with
    | some k => some (k, v)
    | none => none)
  | _ => none
def pairsOf : List D → Option (List (Key × D))
  | [] => some []
  | d :: r => match pairOf d with
    | some q => (match pairsOf r with
      | some qs => some (q :: qs)
      | none => none)
    | none => none
def kmerge : List Key → List D → List (Key × D) → List Key × List D
  | ks, xs, [] => (ks, xs)
  | ks, xs, (k, d) :: r => kmerge (kput k d ks xs).1 (kput k d ks xs).2 r
theorem putK_keys {k : Key} {v : V} : ∀ {kvs : List (Key × V)}, (kvs.map (·.1)).Nodup → ((putK kvs k v).map (·.1)).Nodup ∧ ∀ x ∈ (putK kvs k v).map (·.1), x = k ∨ x ∈ kvs.map (·.1)
  | [], _ => ⟨by show [k].Nodup; simp, fun x h => .inl (by simpa [putK] using h)⟩
  | p :: kvs, nd => by
    rw [List.map_cons, List.nodup_cons] at nd
    rw [putK_cons]
    by_cases e : p.1 = k
    · rw [if_pos e, map_same (by rw [← e]; exact nd.1)]
      exact ⟨by rw [List.map_cons, List.nodup_cons]; exact nd, fun x h => .inr h⟩
    · obtain ⟨h1, h2⟩ := putK_keys (k := k) (v := v) nd.2
      rw [if_neg e]
      refine ⟨?_, fun x h => ?_⟩
      · rw [List.map_cons, List.nodup_cons]
        refine ⟨fun h => ?_, h1⟩
        rcases h2 _ h with q | q
        · exact e q
        · exact nd.1 q
      · rw [List.map_cons] at h
        rcases List.mem_cons.mp h with q | q
        · exact .inr (by rw [q, List.map_cons]; exact List.mem_cons_self)
        · rcases h2 _ q with z | z
          · exact .inl z
          · exact .inr (List.mem_cons_of_mem _ z)
section
variable {K : PySem.W.Frag} {F : Addr → Prop} {ads : List Addr} {H : Hp} {st : Store}
theorem kmerge_rep : ∀ {more : List (Key × V)} {ds : List (Key × D)} {kvs : List (Key × V)} {xs : List D}, (kvs.map (·.1)).Nodup → Reps K F ads H (kvs.map (·.2)) xs → more.map (·.1) = ds.map (·.1) → Reps K F ads H (more.map (·.2)) (ds.map (·.2)) →
    (mergeK kvs more).map (·.1) = (kmerge (kvs.map (·.1)) xs ds).1 ∧ Reps K F ads H ((mergeK kvs more).map (·.2)) (kmerge (kvs.map (·.1)) xs ds).2
  | [], ds, kvs, xs, nd, r, e, rs => by
    cases ds with
    | nil => exact ⟨rfl, r⟩
    | cons d ds => cases e
  | m :: more, ds, kvs, xs, nd, r, e, rs => by
    cases ds with
    | nil => cases e
    | cons d ds =>
      obtain ⟨k, d⟩ := d
      obtain ⟨k2, v⟩ := m
      rw [List.map_cons, List.map_cons] at e
      obtain ⟨e1, e2⟩ := List.cons.inj e
      have e1 : k2 = k := e1
      subst e1
      rw [List.map_cons, List.map_cons] at rs
      cases rs with
      | cons rd rr =>
        obtain ⟨h1, h2⟩ := kput_rep k2 rd nd r
        have h3 := putK_keys (k := k2) (v := v) nd
        show (mergeK (putK kvs k2 v) more).map (·.1) = (kmerge (kput k2 d (kvs.map (·.1)) xs).1 (kput k2 d (kvs.map (·.1)) xs).2 ds).1 ∧ Reps K F ads H ((mergeK (putK kvs k2 v) more).map (·.2)) (kmerge (kput k2 d (kvs.map (·.1)) xs).1 (kput k2 d (kvs.map (·.1)) xs).2 ds).2
        rw [← h1]
        exact kmerge_rep h3.1 h2 e2 rr
theorem pairs_rep : ∀ {vs : List V} {ds : List D} {qs : List (Key × D)}, Reps K F ads H vs ds → pairsOf ds = some qs → ∃ (ps : List Addr) (kvs : List (Key × V)), vs = ps.map V.ref ∧ Paired (fun p kv => SqT K H p [kV kv.1, kv.2]) ps kvs ∧ kvs.map (·.1) = qs.map (·.1) ∧ Reps K F ads H (kvs.map (·.2)) (qs.map (·.2))
  | _, _, _, .nil, h => by cases h; exact ⟨[], [], rfl, .nil, rfl, .nil⟩
  | _, _, _, .cons (x := d) (xs := ds) r t, h => by
    unfold pairsOf at h
    split at h
    · rename_i q e1
      split at h
      · rename_i qs e2
        cases h
        obtain ⟨ps, kvs, rfl, hp, hk, hr⟩ := pairs_rep t e2
        unfold pairOf at e1
        split at e1
        · rename_i kd vd e3
          split at e1
          · rename_i k e4
            cases e1
            obtain ⟨a, ws, rfl, sq, rs⟩ := tupOf_rep r e3
            obtain ⟨kv, vv, rfl, rk, rv⟩ := rep2 rs
            obtain rfl := keyD_rep rk e4
            exact ⟨a :: ps, (k, vv) :: kvs, rfl, .cons sq hp, by rw [List.map_cons, List.map_cons, hk], .cons rv hr⟩
          · cases e1
        · cases e1
      · cases h
    · cases h
end
def cDict : OpN := fun ds st => match ds with
  | [.p (.tun xs)] => if xs.length ≤ 1000 then (match pairsOf (xs.map D.p) with
    | some qs => some (.loc st.length, st ++ [.dic (kmerge [] [] qs).1 (kmerge [] [] qs).2])
    | none => none) else none
  | [d] => (match lstR d st with
    | some xs => (match pairsOf xs with
      | some qs => some (.loc st.length, st ++ [.dic (kmerge [] [] qs).1 (kmerge [] [] qs).2])
      | none => none)
    | none => none)
  | _ => none
section
variable {X : Cx} {pins : List (Addr × Obj)} {σ : St} {H : Hp} {s : Shared}
/-- the pairs' values, of the keys too -/
theorem pairs_vals (I : Inv X pins σ H s) : ∀ {ps : List Addr} {kvs : List (Key × V)}, Paired (fun p kv => SqT X.K H p [kV kv.1, kv.2]) ps kvs →
    ∃ (prs : List (Key × Value)) (ups : List (Value × Value)), KV kvs prs ∧ prs.length = ps.length ∧ ups.length = ps.length ∧ ∀ (j : Nat) (u v : Value), ups[j]? = some (u, v) → ∃ (b : Addr) (k : Key), ps[j]? = some b ∧ IsTup s.heap b #[u, v] ∧ prs[j]? = some (k, v) ∧ keyIs k u = true
  | _, _, .nil => ⟨[], [], .nil, rfl, rfl, fun j u v e => by simp at e⟩
  | _, _, .cons (a := p) (b := kv) h t => by
    obtain ⟨prs, ups, r, l1, l2, hp⟩ := pairs_vals I t
    obtain ⟨its, rv, ht, _⟩ := I.tuple h
    obtain ⟨u, y, ei, ru, ry⟩ := vals2 rv
    subst ei
    refine ⟨(kv.1, y) :: prs, (u, y) :: ups, .cons ⟨rfl, ry⟩ r, by rw [List.length_cons, List.length_cons, l1], by rw [List.length_cons, List.length_cons, l2], fun j u2 v2 e => ?_⟩
    cases j with
    | zero =>
      have e' : (u, y) = (u2, v2) := Option.some.inj e
      cases e'
      exact ⟨p, kv.1, rfl, ht, rfl, kV_is (P := X.prog) (w := X.w) ru⟩
    | succ j =>
      obtain ⟨b, k, e1, e2, e3, e4⟩ := hp j u2 v2 (by simpa using e)
      exact ⟨b, k, by simpa using e1, e2, by simpa using e3, e4⟩
theorem call_dictT (hcalm : X.calm = true) {a : Addr} {ps : List Addr} {kvs : List (Key × V)} {E : Value → Shared → Prop} {Q : VK} (I : Inv X pins σ H s) (hq : NoD H a (ps.map V.ref)) (hp : Paired (fun p kv => SqT X.K H p [kV kv.1, kv.2]) ps kvs)
    (q : ∀ p, H p = none → Q (.ref p) (upd H p (.dK (mergeK [] kvs)))) : wpAny (model X.prog X.w) X.A (call (.type "dict") [.ref a]) (EP X pins σ Q) E s := by
  obtain ⟨o, ho, hd⟩ := hq
  obtain ⟨prs, ups, rel, l1, l2, hpr⟩ := pairs_vals I hp
  obtain ⟨g1, z, its, rv, ob, g2, hcls, n, hdat⟩ := (show ObjOk X.prog X.w H s.heap a (.frz o (.tup (ps.map V.ref))) from I.hok a _ ho)
  rw [g1] at g2
  obtain rfl := Option.some.inj g2
  have ei := refs_at rv
  subst ei
  have lp : ps.length ≤ sizeLine := by rw [List.length_map] at z; exact z
  refine PySem.call_dict_pairs (knd := mixKind X.prog X.w) (kvs := prs) (PairArg.tuple a (ps.map Value.ref).toArray (fun j => ps.getD j 0) ups) (I.ok.hd hcalm)
    ⟨⟨o, n, g1, hcls, hd, hdat⟩, by simp [l2], fun j k v e => ?_⟩ ⟨by rw [l1, l2], fun i key v e => ?_⟩ (by rw [l2]; exact lp) fun h' tk hd' k => ?_
  · obtain ⟨b, k', e1, e2, _, _⟩ := hpr j k v e
    refine ⟨?_, .inl ?_⟩
    · simp [e1]
    · have e3 : ps.getD j 0 = b := by rw [List.getD_eq_getElem?_getD, e1]; rfl
      show s.heap.IsTuple (ps.getD j 0) #[k, v]
      rw [e3]
      exact e2
  · obtain ⟨b, k', _, _, e3, e4⟩ := hpr i key v e
    exact ⟨k', e3, e4⟩
  · have k' : ∀ b o, s.heap.get? b = some o → h'.get? b = some o := fun b o e => k b o (fun hb => nomatch hb) e
    have hm : (s.heap.objs.size == sysModules) = false := beq_eq_false_iff_ne.mpr (Nat.ne_of_gt I.big)
    have hlen : (mergeK [] kvs).length ≤ sizeLine := by
      refine Nat.le_trans (length_mergeK kvs []) ?_
      rw [List.length_nil, Nat.zero_add, rel.length, l1]
      exact lp
    exact ⟨.ref s.heap.objs.size, upd H s.heap.objs.size (.dK (mergeK [] kvs)), I.laid (t' := tk) k' (Nat.le_refl _) (show ObjOk X.prog X.w _ _ _ (.dK (mergeK [] kvs)) from ⟨hlen, hm, merged [] prs, KV.merge rel .nil, hd'⟩), rfl, q _ (I.hok.fresh (Nat.le_refl _))⟩
theorem Post.dic {K : PySem.W.Frag} {F : Addr → Prop} {ads : List Addr} {H : Hp} {Q : VK} {st : Store} {qs : List (Key × D)} {kvs : List (Key × V)} (P : Post K F ads H Q (.loc st.length) (st ++ [.dic (kmerge [] [] qs).1 (kmerge [] [] qs).2])) (S : Sim K F ads st H)
    (hk : kvs.map (·.1) = qs.map (·.1)) (r : Reps K F ads H (kvs.map (·.2)) (qs.map (·.2))) : ∀ p, H p = none → Q (.ref p) (upd H p (.dK (mergeK [] kvs))) := fun p hp => by
  obtain ⟨h1, h2⟩ := kmerge_rep (kvs := []) (xs := []) List.nodup_nil .nil hk r
  exact P [p] _ _ (Ext.grown hp) (S.grown hp ⟨_, upd_same, h1, h2.mono (Ext.grown hp)⟩) (.loc (by rw [List.getElem?_append_right (by rw [S.len]; exact Nat.le_refl _), S.len, Nat.sub_self]; rfl))
theorem cj_dict (hcalm : X.calm = true) : CallJ X (.type "dict") cDict := by
  intro F pins s σ H vs us Q I r ⟨ads, st, ds, d, st', S, rs, hg, P⟩
  unfold cDict at hg
  split at hg
  · split at hg
    · split at hg
      · rename_i qs e1
        cases hg
        obtain ⟨v, rfl, r1⟩ := rep1 rs
        cases r1 with
        | p r1 =>
          cases r1 with
          | tun q rp =>
            obtain ⟨ps, kvs, rfl, hp, hk, hr⟩ := pairs_rep rp.ofP e1
            obtain ⟨u, eu, rx⟩ := vals1 r
            cases eu
            cases rx
            exact call_dictT hcalm I q hp (P.dic S hk hr)
      · cases hg
    · cases hg
  · split at hg
    · rename_i xs e0
      split at hg
      · rename_i qs e1
        cases hg
        obtain ⟨v, rfl, r1⟩ := rep1 rs
        obtain ⟨a, ws, rfl, q, rw'⟩ := lstR_rep S r1 e0
        obtain ⟨ps, kvs, rfl, hp, hk, hr⟩ := pairs_rep rw' e1
        exact call_dictP hcalm pins s σ H _ us Q I r ⟨a, ps, kvs, rfl, q, hp, P.dic S hk hr⟩
      · cases hg
    · cases hg
  · cases hg
end
/-! ### a, b, c = x, y, z -/
def sPar3 (i j l : Nat) (fa : AI) : SI := fun env st => match fa env st with
  | some ([d, d2, d3], st1) => some (.nx (((env.set i (some d)).set j (some d2)).set l (some d3)), st1)
  | _ => none
section
variable {X : Cx} {a b c : Expr} {x y z : Str} {i j l : Nat} {fa : AI} {px py pz pt pos : Pos} {kt k2 : Nat} {pt2 : Pos}
theorem js_par3 (hc : X.calm = true) (hN : X.N.Nodup) (hi : X.N[i]? = some x) (hj : X.N[j]? = some y) (hl : X.N[l]? = some z) (hij : i ≠ j) (hil : i ≠ l) (hjl : j ≠ l)
    (hx : X.env.scope.names.lookup x = some .local) (hy : X.env.scope.names.lookup y = some .local) (hz : X.env.scope.names.lookup z = some .local) (ha : JA X [a, b, c] fa)
    (hw : swappedStores [.Tuple [.Name x px, .Name y py, .Name z pz] kt pt] (.Tuple [a, b, c] k2 pt2) X.env = pure (some [x, y, z]))
    (hs : swapsWithSole [.Tuple [.Name x px, .Name y py, .Name z pz] kt pt] (.Tuple [a, b, c] k2 pt2) pos.line X.env = pure false) :
    JS X (.Assign [.Tuple [.Name x px, .Name y py, .Name z pz] kt pt] (.Tuple [a, b, c] k2 pt2) pos) (sPar3 i j l fa) := fun F => (ps_par3 hc hN hi hj hl hij hil hjl hx hy hz (ha F) hw hs).imp fun W σ H h => by
  obtain ⟨ads, env, st, fl, st', S, E, hf, P⟩ := TSo.iff.mp h
  unfold sPar3 at hf
  split at hf
  · rename_i d d2 d3 st1 e1
    cases hf
    refine ⟨ads, env, st, _, _, S, E, e1, fun new H1 vs ex S1 r1 => ?_⟩
    cases r1 with
    | cons r1 rr =>
      obtain ⟨v2, v3, rfl, r2, r3⟩ := rep2 rr
      exact ⟨_, _, _, rfl, (P.after ex).here S1 _ ((((E.mono ex).set i r1).set j r2).set l r3)⟩
  · cases hf
end
/-! ### dict comprehensions -/
def addK (n : Nat) (k : D) (d : D) (st : Store) : Option Store := match st[n]? with
  | some (.dic ks xs) => (match keyD k with
    | some k => if ks.length < 16777216 ∧ ks.Nodup then some (st.set n (.dic (kput k d ks xs).1 (kput k d ks xs).2)) else none
    | none => none)
  | _ => none
def dcI (g : GI) (t : BI) (ek ev : EI) (w : Wk) (n : Nat) : Nat → Nat → Env → Store → Option Store
  | 0, _ => fun _ _ => none
  | m + 1, k => fun env st => match stepW w k st with
    | some (some d) => (match g d env st with
      | some (env1, st1) => (match t env1 st1 with
        | some (true, st2) => (match ek env1 st2 with
          | some (y, st3) => (match ev env1 st3 with
            | some (z, st4) => (match addK n y z st4 with
              | some st5 => dcI g t ek ev w n m (k + 1) env st5
              | none => none)
            | none => none)
          | none => none)
        | some (false, st2) => dcI g t ek ev w n m (k + 1) env st2
        | none => none)
      | none => none)
    | some none => some st
    | none => none
def iDc (f : WI) (g : GI) (t : BI) (ek ev : EI) (own : List Nat) : EI := fun env st => match f env st with
  | some (w, st1) => (match dcI g t ek ev w st1.length (roomW w st1) 0 (wipeE env own) (st1 ++ [.dic [] []]) with
    | some st2 => some (.loc st1.length, st2)
    | none => none)
  | none => none
theorem wipe_idem {vs : List Nat} {τ : St} : wipe (wipe τ vs) vs = wipe τ vs := by
  have go : ∀ (ws : List Nat), (∀ i ∈ ws, i ∈ vs) → wipe (wipe τ vs) ws = wipe τ vs := by
    intro ws
    induction ws with
    | nil => intro _; rfl
    | cons w ws ih =>
      intro hh
      show (wipe (wipe τ vs) ws).set w none = wipe τ vs
      rw [ih fun i hi => hh i (List.mem_cons_of_mem _ hi)]
      have none_at : ∀ (us : List Nat) (ρ : St), w ∈ us → (wipe ρ us).set w none = wipe ρ us := by
        intro us
        induction us with
        | nil => intro ρ h; cases h
        | cons u us ih2 =>
          intro ρ h
          unfold wipe
          by_cases hu : u = w
          · subst hu; rw [List.set_set]
          · rw [List.set_comm _ _ hu, ih2 ρ ((List.mem_cons.mp h).resolve_left (Ne.symm hu))]
      exact none_at vs τ (hh w List.mem_cons_self)
  exact go vs fun _ h => h
section
variable {K : PySem.W.Frag} {F : Addr → Prop} {ads : List Addr} {H : Hp}
theorem addK_ok {st st' : Store} {n : Nat} {a : Addr} {kd d : D} {y v : V} (S : Sim K F ads st H) (ha : ads[n]? = some a) (rk : Rep K F ads H y kd) (r : Rep K F ads H v d) (h : addK n kd d st = some st') :
    ∃ kvs k, y = kV k ∧ H a = some (.dK kvs) ∧ kvs.length < sizeLine ∧ Ext ads [] H (upd H a (.dK (putK kvs k v))) ∧ Sim K F ads st' (upd H a (.dK (putK kvs k v))) := by
  unfold addK at h
  split at h
  · rename_i ks xs e
    split at h
    · rename_i k e2
      split at h
      · rename_i hz
        cases h
        obtain ⟨kvs, q, rfl, rs⟩ := S.cell n _ a e ha
        obtain rfl := keyD_rep rk e2
        have hm : Mut (H a) := by rw [q]; trivial
        have E := Ext.put (o := .dK (putK kvs k v)) S (List.mem_of_getElem? ha) hm
        obtain ⟨h1, h2⟩ := kput_rep k r hz.2 rs
        refine ⟨kvs, k, rfl, q, ?_, E, app_nil (S.put ha hm ⟨_, upd_same, h1, h2.mono E⟩)⟩
        have := hz.1
        rw [List.length_map] at this
        rw [sizeLine_eq]; exact this
      · cases h
    · cases h
  · cases h
variable {f : WI} {g : GI} {t : BI} {ek ev : EI}
theorem dc_to {vs : List Nat} {σ : St} {Q : VK} (h : TEo K F (iDc f g t ek ev vs) σ H Q) : tDc (TIo K F f) (TGvo K F vs g) (TTo K F t) (TEo K F ek) (TEo K F ev) vs σ H Q := by
  obtain ⟨ads, env, st, d, st', S, E, hf, P⟩ := h
  unfold iDc at hf
  split at hf
  · rename_i w st1 e1
    split at hf
    · rename_i st2 e2
      cases hf
      refine ⟨ads, env, st, w, st1, S, E, e1, fun new0 H1 I ex0 S1 wok D hD => ?_⟩
      have hn : (ads ++ new0 ++ [D])[st1.length]? = some D := by
        rw [List.getElem?_append_right (by rw [S1.len]; exact Nat.le_refl _), S1.len, Nat.sub_self]; rfl
      have exD : Ext (ads ++ new0) [D] H1 (upd H1 D (.dK [])) := Ext.grown hD
      have SD := S1.grown (o := .dK []) (c := .dic [] []) hD ⟨[], upd_same, rfl, .nil⟩
      have wok2 := wok.after exD
      have E0 : EnvOk K F (ads ++ new0 ++ [D]) (upd H1 D (.dK [])) (wipe σ vs) (wipeE env vs) := ((E.mono ex0).mono exD).wipe vs
      refine ⟨fun k m H => ∃ new st, Ext (ads ++ new0 ++ [D]) new (upd H1 D (.dK [])) H ∧ Sim K F (ads ++ new0 ++ [D] ++ new) st H ∧ dcI g t ek ev w st1.length m k (wipeE env vs) st = some st',
        ⟨_, [], _, Ext.refl _ _, app_nil' SD, e2⟩, ?_⟩
      rintro k m H ⟨new, st, ex, S3, hl⟩
      cases m with
      | zero => cases hl
      | succ m =>
        unfold dcI at hl
        have q := wok2 new H st ex S3 k
        have hnn : ∀ more : List Addr, (ads ++ new0 ++ [D] ++ more)[st1.length]? = some D := fun more => by
          rw [List.getElem?_append_left (List.getElem?_eq_some_iff.mp hn).1]; exact hn
        split at hl
        · rename_i d0 e3
          rw [e3] at q
          obtain ⟨go, yl⟩ := q
          refine .inr ⟨go, fun H' => ∃ new st, Ext (ads ++ new0 ++ [D]) new (upd H1 D (.dK [])) H' ∧ Sim K F (ads ++ new0 ++ [D] ++ new) st H' ∧ dcI g t ek ev w st1.length m (k + 1) (wipeE env vs) st = some st',
            fun H' z => ⟨m, Nat.lt_succ_self m, z⟩, fun x H2 hy => ?_⟩
          obtain ⟨ex2, S2, rd⟩ := yl x H2 hy
          have exx : Ext (ads ++ new0 ++ [D]) new (upd H1 D (.dK [])) H2 := by
            have z := ex.trans ex2
            rw [List.append_nil] at z; exact z
          split at hl
          · rename_i env1 st5 eg
            refine ⟨_, wipeE env vs, st, d0, env1, st5, S2, E0.mono exx, rd, eg, fun new3 H3 σ3 ex3 S5 E3 hw => ⟨hw.trans wipe_idem, ?_⟩⟩
            split at hl
            · rename_i st6 et
              refine ⟨_, env1, st5, true, st6, S5, E3, et, fun new4 H4 ex4 S6 => ?_⟩
              dsimp only
              rw [if_pos rfl]
              split at hl
              · rename_i y st7 ey
                split at hl
                · rename_i z st8 ez
                  split at hl
                  · rename_i st9 ea
                    refine ⟨_, env1, st6, y, st7, S6, E3.mono ex4, ey, fun new5 H5 yv ex5 S7 ry => ⟨_, env1, st7, z, st8, S7, (E3.mono ex4).mono ex5, ez, fun new6 H6 zv ex6 S8 rz => ?_⟩⟩
                    have hD5 : (ads ++ new0 ++ [D] ++ new ++ new3 ++ new4 ++ new5 ++ new6)[st1.length]? = some D := by
                      have z := hnn (new ++ (new3 ++ (new4 ++ (new5 ++ new6))))
                      simpa only [List.append_assoc] using z
                    obtain ⟨kvs, k, a1, a2, a3, a4, a5⟩ := addK_ok S8 hD5 (ry.mono ex6) rz ea
                    refine ⟨kvs, k, a1, a2, a3, new ++ (new3 ++ (new4 ++ (new5 ++ (new6 ++ [])))), st9, exx.trans (ex3.trans (ex4.trans (ex5.trans (ex6.trans a4)))), ?_, hl⟩
                    simpa only [List.append_assoc, List.append_nil] using a5
                  · cases hl
                · cases hl
              · cases hl
            · rename_i st6 et
              refine ⟨_, env1, st5, false, st6, S5, E3, et, fun new4 H4 ex4 S6 => ?_⟩
              dsimp only
              rw [if_neg Bool.false_ne_true]
              refine ⟨new ++ (new3 ++ new4), st6, exx.trans (ex3.trans ex4), ?_, hl⟩
              simpa only [List.append_assoc] using S6
            · cases hl
          · cases hl
        · rename_i e3
          rw [e3] at q
          cases hl
          refine .inl ⟨q, P (new0 ++ ([D] ++ new)) H _ (ex0.trans (exD.trans ex)) ?_ (.loc ?_)⟩
          · simpa only [List.append_assoc] using S3
          · have z := hnn new
            simpa only [List.append_assoc] using z
        · cases hl
    · cases hf
  · cases hf
end
section
variable {X : Cx} {kx vx tg iter : Expr} {ifs : List Expr} {scope : Scope} {own : List (Str × Nat)} {pos : Pos} {f : WI} {g : GI} {t : BI} {ek ev : EI}
theorem je_dc (hc : X.calm = true) (hN : X.N.Nodup) (hi : JI X tg iter f) (ok : BlkOk X.N X.env.scope scope own)
    (hg : ∀ (s : Shared) (H : Hp) (C : Addr) (cl : List (Str × Addr)) (fp : List Addr), JGv (X.blk s H scope (compEnvC scope cl C X.env) fp) (own.map (·.2)) tg g) (ht : ∀ (s : Shared) (H : Hp) (C : Addr) (cl : List (Str × Addr)) (fp : List Addr), JTs (X.blk s H scope (compEnvC scope cl C X.env) fp) ifs t)
    (hk : ∀ (s : Shared) (H : Hp) (C : Addr) (cl : List (Str × Addr)) (fp : List Addr), JE (X.blk s H scope (compEnvC scope cl C X.env) fp) kx ek) (he : ∀ (s : Shared) (H : Hp) (C : Addr) (cl : List (Str × Addr)) (fp : List Addr), JE (X.blk s H scope (compEnvC scope cl C X.env) fp) vx ev)
    (hs : ∀ x, foldedSetIterable iter X.env x = pure x) : JE X (.DictComp kx vx [⟨tg, iter, ifs, 0⟩] scope pos) (iDc f g t ek ev (own.map (·.2))) := fun F =>
  (pe_dc hc hN (hi F) ok (fun s H C cl fp => hg s H C cl fp F) (fun s H C cl fp => ht s H C cl fp F) (fun s H C cl fp => hk s H C cl fp F) (fun s H C cl fp => he s H C cl fp F) hs).imp fun σ H Q h => dc_to h
end
end J

set_option Elab.async false
set_option linter.all false
set_option maxRecDepth 100000
set_option maxHeartbeats 4000000
/-! JS: sorted of tuples that differ in their first items. -/
namespace J
open PySem PySem.Spec PyProof.Rows L2
set_option autoImplicit false
/-! ### the order of keys -/
def ltK : Key → Key → Bool
  | .inl i, .inl j => decide (i < j)
  | .inl _, .inr _ => true
  | .inr _, .inl _ => false
  | .inr x, .inr y => decide (x.cps.toList < y.cps.toList)
theorem swoK {α : Type} (k : α → Key) : SrtO.Swo (fun v u : α => ltK (k v) (k u)) := by
  refine ⟨fun x y h => ?_, fun x y z h1 h2 => ?_⟩
  · show ltK (k y) (k x) = false
    have h : ltK (k x) (k y) = true := h
    generalize k x = a at h ⊢
    generalize k y = b at h ⊢
    cases a <;> cases b <;> simp only [ltK, decide_eq_true_eq, decide_eq_false_iff_not, Bool.false_eq_true] at h ⊢ <;> first | omega | exact List.lt_asymm h | skip
  · show ltK (k z) (k x) = false
    have h1 : ltK (k y) (k x) = false := h1
    have h2 : ltK (k z) (k y) = false := h2
    generalize k x = a at h1 ⊢
    generalize k y = b at h1 h2
    generalize k z = c at h2 ⊢
    cases a <;> cases b <;> cases c <;> simp only [ltK, decide_eq_false_iff_not, Bool.true_eq_false] at h1 h2 ⊢ <;> first | omega | (rw [List.not_lt] at h1 h2 ⊢; exact List.le_trans h1 h2) | skip
theorem ltK_anti {a b : Key} (h1 : ltK a b = false) (h2 : ltK b a = false) : a = b := by
  cases a <;> cases b <;> simp only [ltK, decide_eq_false_iff_not, Bool.true_eq_false] at h1 h2
  · congr 1; omega
  · rename_i x y
    rw [List.not_lt] at h1 h2
    have e := List.le_antisymm h2 h1
    congr 1
    obtain ⟨x⟩ := x
    obtain ⟨y⟩ := y
    obtain ⟨x⟩ := x
    obtain ⟨y⟩ := y
    simp at e
    rw [e]
/-! ### sorting by insertion -/
section
variable {α β : Type}
def insK (f : α → Key) (x : α) : List α → List α
  | [] => [x]
  | y :: r => if ltK (f x) (f y) = true then x :: y :: r else y :: insK f x r
def sortK (f : α → Key) : List α → List α
  | [] => []
  | x :: r => insK f x (sortK f r)
theorem insK_perm (f : α → Key) (x : α) : ∀ l, (insK f x l).Perm (x :: l)
  | [] => List.Perm.refl _
  | y :: r => by
    unfold insK
    split
    · exact List.Perm.refl _
    · exact ((insK_perm f x r).cons y).trans (List.Perm.swap x y r)
theorem sortK_perm (f : α → Key) : ∀ l, (sortK f l).Perm l
  | [] => List.Perm.refl _
  | x :: r => (insK_perm f x _).trans ((sortK_perm f r).cons x)
theorem insK_srt (f : α → Key) (x : α) : ∀ {l}, SrtO.Srtd (fun a b => ltK (f a) (f b)) l → SrtO.Srtd (fun a b => ltK (f a) (f b)) (insK f x l)
  | [], _ => List.pairwise_singleton _ _
  | y :: r, h => by
    have O := swoK f
    unfold insK
    split
    · rename_i hl
      refine List.pairwise_cons.mpr ⟨fun z hz => ?_, h⟩
      have q := O.asym x y hl
      rcases List.mem_cons.mp hz with e | hz
      · rw [e]; exact q
      · exact O.tr x y z q (SrtO.srtd_head h z hz)
    · rename_i hl
      have hl : ltK (f x) (f y) = false := by simpa using hl
      refine List.pairwise_cons.mpr ⟨fun z hz => ?_, insK_srt f x (List.pairwise_cons.mp h).2⟩
      rcases List.mem_cons.mp ((insK_perm f x r).mem_iff.mp hz) with e | hz
      · rw [e]; exact hl
      · exact SrtO.srtd_head h z hz
theorem sortK_srt (f : α → Key) : ∀ l, SrtO.Srtd (fun a b => ltK (f a) (f b)) (sortK f l)
  | [] => List.Pairwise.nil
  | x :: r => insK_srt f x (sortK_srt f r)
theorem insK_map {f : α → Key} {g : β → Key} {h : α → β} (e : ∀ x, g (h x) = f x) (x : α) : ∀ l, (insK f x l).map h = insK g (h x) (l.map h)
  | [] => rfl
  | y :: r => by
    unfold insK
    rw [List.map_cons]
    simp only [e]
    split
    · rfl
    · rw [List.map_cons, insK_map e x r]
theorem sortK_map {f : α → Key} {g : β → Key} {h : α → β} (e : ∀ x, g (h x) = f x) : ∀ l, (sortK f l).map h = sortK g (l.map h)
  | [] => rfl
  | x :: r => by
    unfold sortK
    rw [insK_map e, sortK_map e r]
    rfl
end
/-! ### what the model's sort asks -/
def KV1 (k : Key) (f : Value) : Prop := match k with
  | .inl i => ∃ t, f = .int i t
  | .inr x => ∃ t, f = .str x t
def FstIs (h : Heap) (v : Value) (k : Key) : Prop := ∃ (a : Addr) (o : Obj) (xs : Array Value) (n : Nat) (f : Value), v = .ref a ∧ h.get? a = some o ∧ o.cls = .type "tuple" ∧ o.data = .seq xs n ∧ xs[0]? = some f ∧ KV1 k f
theorem FstIs.keeps {h h' : Heap} {v : Value} {k : Key} (x : FstIs h v k) (q : ∀ b o, h.get? b = some o → o.cls = .type "tuple" → h'.get? b = some o) : FstIs h' v k := by
  obtain ⟨a, o, xs, n, f, e, ho, hc, hd, hf, hk⟩ := x
  exact ⟨a, o, xs, n, f, e, q _ _ ho hc, hc, hd, hf, hk⟩
theorem FstIs.uniq {h : Heap} {v : Value} {k k2 : Key} (x : FstIs h v k) (y : FstIs h v k2) : k = k2 := by
  obtain ⟨a, o, xs, n, f, rfl, ho, hc, hd, hf, hk⟩ := x
  obtain ⟨a2, o2, xs2, n2, f2, e, ho2, hc2, hd2, hf2, hk2⟩ := y
  cases e
  rw [ho] at ho2
  cases ho2
  rw [hd] at hd2
  cases hd2
  rw [hf] at hf2
  cases hf2
  cases k <;> cases k2 <;> (obtain ⟨t, e1⟩ := hk; obtain ⟨t2, e2⟩ := hk2; rw [e1] at e2; cases e2) <;> rfl
def kSort (k : Key) : Bool := match k with
  | .inl _ => false
  | .inr _ => true
section
variable {prog : Program} {w : World} {A : Around} {s : Shared}
theorem lex_same {b fin : Bool} {Q : Bool → Shared → Prop} (hq : Q fin s) : ∀ (l : List Value) (i : Nat), PySem.W.KatLex prog w A b fin Q (l.zip l) i s
  | [], i => PySem.W.kat_nil hq
  | v :: l, i => PySem.W.kat_cons (SeqAt.EqAt.same v prog w _ _ (PySem.W.kat_yes (lex_same hq l (i + 1))))
theorem key_cmp {vs : List Value} {k : Value → Key} {b : Bool} (hp : ∀ v ∈ vs, FstIs s.heap v (k v)) (hb : ∀ v ∈ vs, kSort (k v) = b) (inj : ∀ v ∈ vs, ∀ u ∈ vs, k v = k u → v = u) :
    SrtO.Cmp prog w A s (tuples' true) (fun p => p.1 ∈ vs) (SrtO.lt2 fun v u => ltK (k v) (k u)) := by
  intro p q hm hm'
  show wpAny (model prog w) A (keyLt' (tuples' true) p.1 q.1) (fun r s' => s' = s ∧ r = ltK (k p.1) (k q.1)) (fun _ _ => False) s
  by_cases e : p.1 = q.1
  · have h1 := hp _ hm
    rw [← e]
    have hr : ltK (k p.1) (k p.1) = false := (swoK k).refl p.1
    rw [hr]
    obtain ⟨a, o, xs, n, f, ev, ho, hc, hd, hf, hk⟩ := h1
    rw [ev]
    refine PySem.W.kat_lt ho hd ho hd ?_
    have ef : decide (xs.size < xs.size) = false := decide_eq_false (Nat.lt_irrefl _)
    rw [ef]
    exact lex_same (Q := fun r s' => s' = s ∧ r = false) ⟨rfl, rfl⟩ xs.toList 0
  · have hne : k p.1 ≠ k q.1 := fun z => e (inj _ hm _ hm' z)
    have h1 := hp _ hm
    have h2 := hp _ hm'
    have b1 := hb _ hm
    have b2 := hb _ hm'
    generalize k p.1 = ka at h1 b1 hne ⊢
    generalize k q.1 = kb at h2 b2 hne ⊢
    obtain ⟨a, o, xs, n, f, ev, ho, hc, hd, hf, hk⟩ := h1
    obtain ⟨a2, o2, xs2, n2, f2, ev2, ho2, hc2, hd2, hf2, hk2⟩ := h2
    rw [ev, ev2]
    refine PySem.W.kat_lt ho hd ho2 hd2 ?_
    obtain ⟨l⟩ := xs
    obtain ⟨l2⟩ := xs2
    cases l with
    | nil => cases hf
    | cons x l =>
      cases l2 with
      | nil => cases hf2
      | cons x2 l2 =>
        have e1 : x = f := by simpa using hf
        have e2 : x2 = f2 := by simpa using hf2
        subst e1 e2
        cases ka with
        | inl i =>
          cases kb with
          | inl j =>
            obtain ⟨t, rfl⟩ := hk
            obtain ⟨t2, rfl⟩ := hk2
            have hij : (i == j) = false := by simpa using fun z => hne (by rw [z])
            refine PySem.W.kat_cons (SeqAt.EqAt.int_int i t j t2 prog w _ _ ?_)
            rw [hij]
            exact PySem.W.kat_no (oneLt_int ⟨rfl, rfl⟩)
          | inr y => rw [← b2] at b1; cases b1
        | inr z =>
          cases kb with
          | inl j => rw [← b2] at b1; cases b1
          | inr y =>
            obtain ⟨t, rfl⟩ := hk
            obtain ⟨t2, rfl⟩ := hk2
            have hij : (z == y) = false := by simpa using fun q => hne (by rw [q])
            refine PySem.W.kat_cons (SeqAt.EqAt.str_str z t y t2 prog w _ _ ?_)
            rw [hij]
            exact PySem.W.kat_no (oneLt_str ⟨rfl, rfl⟩)
theorem key_firsts {h : Heap} {k : Value → Key} : ∀ {vs : List Value}, (∀ v ∈ vs, FstIs h v (k v)) → ∃ fs : List Value, PySem.W.KatTups h vs fs ∧ fs.length = vs.length ∧ ∀ f ∈ fs, ∃ v ∈ vs, KV1 (k v) f
  | [], _ => ⟨[], PySem.W.KatTups.nil, rfl, fun _ hm => nomatch hm⟩
  | v :: vs, hp => by
    obtain ⟨fs, h1, h2, h3⟩ := key_firsts (vs := vs) fun u hm => hp u (List.mem_cons_of_mem _ hm)
    obtain ⟨a, o, xs, n, f, e, ho, hc, hd, hf, hk⟩ := hp v List.mem_cons_self
    have hk : KV1 (k v) f := hk
    rw [e] at hk ⊢
    refine ⟨f :: fs, PySem.W.KatTups.cons ho hc hd hf h1, by rw [List.length_cons, List.length_cons, h2], fun g hm => ?_⟩
    rcases List.mem_cons.mp hm with rfl | hm
    · exact ⟨_, List.mem_cons_self, hk⟩
    · obtain ⟨u, hu, hh⟩ := h3 g hm
      exact ⟨u, List.mem_cons_of_mem _ hu, hh⟩
theorem key_sortable {a : Addr} {vs : List Value} {k : Value → Key} {b : Bool} (h0 : 0 < vs.length) (hp : ∀ v ∈ vs, FstIs s.heap v (k v)) (hb : ∀ v ∈ vs, kSort (k v) = b) (inj : ∀ v ∈ vs, ∀ u ∈ vs, k v = k u → v = u)
    (ha : ∀ o, s.heap.get? a = some o → o.cls ≠ .type "tuple") : SrtO.SortableO prog w A s a vs fun v u => ltK (k v) (k u) := by
  intro h' keep
  have hp' : ∀ v ∈ vs, FstIs h' v (k v) := fun v hm => (hp v hm).keeps fun c o e hc => keep c o (fun z => by subst z; exact ha o e hc) e
  obtain ⟨fs, h1, h2, h3⟩ := key_firsts hp'
  refine ⟨tuples' true, fun Q E hq => ?_, key_cmp (s := { s with heap := h' }) hp' hb inj⟩
  cases b with
  | false =>
    refine PySem.W.kat_kind (T := .type "int") h1 (by omega) (fun f hm => ?_) (by rfl) ?_
    · obtain ⟨v, hv, hk⟩ := h3 f hm
      have q := hb v hv
      generalize k v = kk at hk q
      cases kk with
      | inl i => obtain ⟨t, rfl⟩ := hk; exact PySem.W.Looks.now
      | inr x => cases q
    · have e : (Value.type "int" != Value.type "tuple") = true := by decide +kernel
      rw [e]
      exact hq
  | true =>
    refine PySem.W.kat_kind (T := .type "str") h1 (by omega) (fun f hm => ?_) (by rfl) ?_
    · obtain ⟨v, hv, hk⟩ := h3 f hm
      have q := hb v hv
      generalize k v = kk at hk q
      cases kk with
      | inr i => obtain ⟨t, rfl⟩ := hk; exact PySem.W.Looks.now
      | inl x => cases q
    · have e : (Value.type "str" != Value.type "tuple") = true := by decide +kernel
      rw [e]
      exact hq
end
/-! ### sorted(xs) -/
def fstKey (d : D) : Option Key := match tupOf d with
  | some (y :: _) => keyD y
  | _ => none
def fstKeys : List D → Option (List Key)
  | [] => some []
  | d :: r => match fstKey d with
    | some k => (match fstKeys r with
      | some ks => some (k :: ks)
      | none => none)
    | none => none
def cSorted : OpN := fun ds st => match ds with
  | [d] => (match lstR d st with
    | some xs => (match fstKeys xs with
      | some ks => if ks.Nodup ∧ ((ks.all fun k => kSort k) = true ∨ (ks.all fun k => !kSort k) = true) then some (.loc st.length, st ++ [.lst ((sortK Prod.fst (ks.zip xs)).map Prod.snd)]) else none
      | none => none)
    | none => none)
  | _ => none
/-- a value, its key, what it stands for -/
abbrev Tri := Value × Key × D
theorem nodup_inj : ∀ {T : List Tri}, (T.map (·.2.1)).Nodup → ∀ t ∈ T, ∀ u ∈ T, t.2.1 = u.2.1 → t = u
  | [], _, t, ht, _, _, _ => nomatch ht
  | x :: T, nd, t, ht, u, hu, e => by
    rw [List.map_cons, List.nodup_cons] at nd
    rcases List.mem_cons.mp ht with q | q
    · rcases List.mem_cons.mp hu with z | z
      · rw [q, z]
      · exact absurd (show x.2.1 ∈ T.map (·.2.1) from List.mem_map.mpr ⟨u, z, by rw [← e, q]⟩) nd.1
    · rcases List.mem_cons.mp hu with z | z
      · exact absurd (show x.2.1 ∈ T.map (·.2.1) from List.mem_map.mpr ⟨t, q, by rw [e, z]⟩) nd.1
      · exact nodup_inj nd.2 t q u z e
section
variable {X : Cx} {pins : List (Addr × Obj)} {σ : St} {H : Hp} {s : Shared} {F : Addr → Prop} {ads : List Addr}
theorem tri_of (I : Inv X pins σ H s) : ∀ {ws : List V} {its : List Value} {xs : List D} {ks : List Key}, Vals ws its → Reps X.K F ads H ws xs → fstKeys xs = some ks →
    ∃ T : List Tri, its = T.map (·.1) ∧ ks = T.map (·.2.1) ∧ ks.zip xs = T.map (·.2) ∧ ∀ t ∈ T, FstIs s.heap t.1 t.2.1 ∧ Rep X.K F ads H (backV t.1) t.2.2 ∧ ∃ a, t.1 = Value.ref a
  | _, _, _, _, .nil, .nil, h => by cases h; exact ⟨[], rfl, rfl, rfl, fun t ht => nomatch ht⟩
  | _, _, _, _, .cons (b := u) ru rv, .cons (x := d) (xs := xs) rd rr, h => by
    unfold fstKeys at h
    split at h
    · rename_i k e1
      split at h
      · rename_i ks e2
        cases h
        obtain ⟨T, h1, h2, h3, h4⟩ := tri_of I rv rr e2
        unfold fstKey at e1
        split at e1
        · rename_i y ys e3
          obtain ⟨a, vs, rfl, q, rs⟩ := tupOf_rep rd e3
          cases rs with
          | cons ry rs =>
            obtain rfl := keyD_rep ry e1
            obtain ⟨js, rj, ⟨o, ho, hc, n, hd⟩, _⟩ := I.tuple q
            obtain rfl : u = Value.ref a := ru
            cases rj with
            | cons rf rj =>
              refine ⟨(.ref a, k, d) :: T, by rw [h1]; rfl, by rw [h2]; rfl, by rw [List.zip_cons_cons, h3]; rfl, fun t ht => ?_⟩
              rcases List.mem_cons.mp ht with rfl | ht
              · refine ⟨⟨a, o, _, n, _, rfl, ho, hc, hd, rfl, ?_⟩, rd, a, rfl⟩
                cases k with
                | inl i => exact rf
                | inr x => exact rf
              · exact h4 t ht
        · cases e1
      · cases h
    · cases h
theorem reps_tri : ∀ {T : List Tri}, (∀ t ∈ T, Rep X.K F ads H (backV t.1) t.2.2) → Reps X.K F ads H (T.map fun t => backV t.1) (T.map fun t => t.2.2)
  | [], _ => .nil
  | t :: T, h => .cons (h t List.mem_cons_self) (reps_tri fun u hu => h u (List.mem_cons_of_mem _ hu))
open Classical in
theorem cj_sorted : CallJ X (.builtin "sorted") cSorted := by
  intro F pins s σ H vs us Q I r ⟨ads, st, ds, d, st', S, rs, hg, P⟩
  unfold cSorted at hg
  split at hg
  · split at hg
    · rename_i xs e1
      split at hg
      · rename_i ks e2
        split at hg
        · rename_i hh
          cases hg
          obtain ⟨v, rfl, r1⟩ := rep1 rs
          obtain ⟨a, ws, rfl, q, rw'⟩ := lstR_rep S r1 e1
          obtain ⟨its, rv, hl, hz⟩ := I.list q
          rw [Vals.ref1 r]
          obtain ⟨T, h1, h2, h3, h4⟩ := tri_of I rv rw' e2
          let k : Value → Key := fun v => if h : ∃ kk, FstIs s.heap v kk then h.choose else .inl 0
          have kv : ∀ t ∈ T, k t.1 = t.2.1 := fun t ht => by
            have ex : ∃ kk, FstIs s.heap t.1 kk := ⟨_, (h4 t ht).1⟩
            show (if h : ∃ kk, FstIs s.heap t.1 kk then h.choose else .inl 0) = t.2.1
            rw [dif_pos ex]
            exact ex.choose_spec.uniq (h4 t ht).1
          have hp : ∀ v ∈ its, FstIs s.heap v (k v) := fun v hv => by
            rw [h1] at hv
            obtain ⟨t, ht, rfl⟩ := List.mem_map.mp hv
            rw [kv t ht]
            exact (h4 t ht).1
          have hnd : (T.map (·.2.1)).Nodup := by rw [← h2]; exact hh.1
          have inj : ∀ v ∈ its, ∀ u ∈ its, k v = k u → v = u := fun v hv u hu e => by
            rw [h1] at hv hu
            obtain ⟨t, ht, rfl⟩ := List.mem_map.mp hv
            obtain ⟨t2, ht2, rfl⟩ := List.mem_map.mp hu
            rw [kv t ht, kv t2 ht2] at e
            rw [nodup_inj hnd t ht t2 ht2 e]
          have hk : ∃ b, ∀ v ∈ its, kSort (k v) = b := by
            rcases hh.2 with hb | hb
            · refine ⟨true, fun v hv => ?_⟩
              rw [h1] at hv
              obtain ⟨t, ht, rfl⟩ := List.mem_map.mp hv
              rw [kv t ht]
              exact List.all_eq_true.mp hb _ (by rw [h2]; exact List.mem_map.mpr ⟨t, ht, rfl⟩)
            · refine ⟨false, fun v hv => ?_⟩
              rw [h1] at hv
              obtain ⟨t, ht, rfl⟩ := List.mem_map.mp hv
              rw [kv t ht]
              have z := List.all_eq_true.mp hb _ (by rw [h2]; exact List.mem_map.mpr ⟨t, ht, rfl⟩)
              simpa using z
          obtain ⟨b, hb⟩ := hk
          refine SrtO.sorted_ord (swoK k) hl.isList (by rw [← rv.length]; exact hz) (fun n2 h₁ a' ha kk => ?_) fun out s1 s2 => ?_
          · refine key_sortable (s := { s with heap := h₁ }) (by omega) (fun v hv => (hp v hv).keeps fun c o e _ => (kk c o e).2) hb inj fun o e => ?_
            have e' : some o = some (seqObj "list" its.toArray 0) := e.symm.trans ha
            rw [Option.some.inj e']
            exact fun z => absurd (Value.type.inj z) (by decide)
          · have per : (T.map (·.1)).Perm out := by rw [← h1]; exact s2.perm.symm
            have p2 : ((sortK (fun t : Tri => t.2.1) T).map (·.1)).Perm out := ((sortK_perm _ T).map _).trans per
            have srt : SrtO.Srtd (fun v u => ltK (k v) (k u)) ((sortK (fun t : Tri => t.2.1) T).map (·.1)) := by
              refine List.pairwise_map.mpr ?_
              refine (List.Pairwise.imp_of_mem (fun {x y} hx hy h => ?_) (sortK_srt (fun t : Tri => t.2.1) T))
              show ltK (k y.1) (k x.1) = false
              rw [kv x ((sortK_perm _ T).mem_iff.mp hx), kv y ((sortK_perm _ T).mem_iff.mp hy)]
              exact h
            have eo : (sortK (fun t : Tri => t.2.1) T).map (·.1) = out := by
              refine List.Perm.eq_of_pairwise (le := fun x y => ltK (k y) (k x) = false) (fun x y hx hy g1 g2 => ?_) srt s1 p2
              have mx : x ∈ its := s2.perm.mem_iff.mp (p2.mem_iff.mp hx)
              have my : y ∈ its := s2.perm.mem_iff.mp hy
              exact inj x mx y my (ltK_anti g2 g1)
            have refs : ∀ u ∈ out, ∃ a, u = Value.ref a := fun u hu => by
              have z := s2.perm.mem_iff.mp hu
              rw [h1] at z
              obtain ⟨t, ht, rfl⟩ := List.mem_map.mp z
              exact (h4 t ht).2.2
            have rr : Reps X.K F ads H (out.map backV) ((sortK Prod.fst (ks.zip xs)).map Prod.snd) := by
              rw [← eo, h3, ← sortK_map (f := fun t : Tri => t.2.1) (h := fun t : Tri => t.2) (fun _ => rfl), List.map_map, List.map_map]
              exact reps_tri (T := sortK (fun t : Tri => t.2.1) T) fun t ht => (h4 t ((sortK_perm _ T).mem_iff.mp ht)).2.1
            obtain ⟨ep, he'⟩ := PyProof.Rows.sortedAll_at s.heap its out.toArray
            have hlen : (out.map backV).length ≤ sizeLine := by
              rw [List.length_map, s2.perm.length_eq, ← rv.length]
              exact hz
            exact ⟨.ref _, upd H (s.heap.objs.size + 1) (.lst (out.map backV)), I.laid (t' := s.toks) (fun _ _ => PyProof.Rows.sortedAll_old) (Nat.le_succ _) ⟨hlen, out, ep, vals_back refs, he'⟩, rfl, P.lst S rr _ (I.hok.fresh (Nat.le_succ _))⟩
        · cases hg
      · cases hg
    · cases hg
  · cases hg
end
end J

set_option Elab.async false
set_option linter.all false
set_option maxRecDepth 100000
set_option maxHeartbeats 4000000
/-! JD: written tables of the module. -/
namespace J
open PySem PySem.Spec PyProof.Rows L2
set_option autoImplicit false
theorem relP_ok {K : PySem.W.Frag} {d : PD} {u : Value} (h : relP K d u = true) : ∃ v : V, RelV v u ∧ ∀ B H, RepP K B H v d := by
  unfold relP at h
  split at h
  · rename_i i j t
    rw [of_decide_eq_true h]
    exact ⟨.int j, ⟨t, rfl⟩, fun B H => .int j⟩
  · rename_i i j t
    rw [of_decide_eq_true h]
    exact ⟨.str j, ⟨t, rfl⟩, fun B H => .str j⟩
  · rename_i x a
    rw [of_decide_eq_true h]
    exact ⟨.ref _, rfl, fun B H => .glo x⟩
  · cases h
structure KdOk (K : PySem.W.Frag) (w : World) (a : Addr) (tb : List (Str × PD)) : Prop where
  ex : ∃ es n, KDict K w a es n
  vals : ∀ z, match tb.lookup z with
    | some d => ∃ u, PySem.W.nsIn K a z = some (some u) ∧ ∃ v : V, RelV v u ∧ ∀ B H, RepP K B H v d
    | none => PySem.W.nsIn K a z = some none
theorem ent_find {K : PySem.W.Frag} (z : Str) : ∀ {es : List DictEntry} {tb : List (Str × PD)}, entB K es tb = true → (es.any (·.refKey)) = false ∧ match tb.lookup z with
    | some d => ∃ e, es.find? (·.key.isStr z) = some e ∧ relP K d e.val = true
    | none => es.find? (·.key.isStr z) = none
  | [], [], _ => ⟨rfl, rfl⟩
  | [], _ :: _, h => by cases h
  | _ :: _, [], h => by cases h
  | e :: es, (x, d) :: tb, h => by
    unfold entB at h
    rw [Bool.and_eq_true, Bool.and_eq_true] at h
    obtain ⟨h1, h2, h3⟩ := h
    obtain ⟨i1, i2⟩ := ent_find z h3
    split at h1
    · rename_i y t ek
      have ey : y = x := of_decide_eq_true h1
      subst ey
      have hr : e.refKey = false := by
        unfold DictEntry.refKey
        rw [ek]
      refine ⟨by rw [List.any_cons, hr, i1]; rfl, ?_⟩
      have hs : e.key.isStr z = (y == z) := by rw [ek]; rfl
      rw [List.lookup_cons, List.find?_cons, hs]
      by_cases q : z = y
      · have e1 : (z == y) = true := beq_iff_eq.mpr q
        have e2 : (y == z) = true := beq_iff_eq.mpr q.symm
        rw [e1, e2]
        exact ⟨e, rfl, h2⟩
      · have e1 : (z == y) = false := beq_eq_false_iff_ne.mpr q
        have e2 : (y == z) = false := beq_eq_false_iff_ne.mpr (Ne.symm q)
        rw [e1, e2]
        exact i2
    · cases h1
theorem kd_of {K : PySem.W.Frag} {w : World} {a : Addr} {tb : List (Str × PD)} (h1 : He.dicW K a = some (He.keysIn w.params (tb.map (·.1)))) (h2 : tabB K a tb = true) : KdOk K w a tb := by
  refine ⟨He.dicW_ok h1, fun z => ?_⟩
  unfold tabB at h2
  split at h2
  · rename_i e
    obtain ⟨f1, f2⟩ := ent_find z h2
    unfold PySem.W.nsIn
    rw [e]
    dsimp only
    split at f2
    · obtain ⟨en, g1, g2⟩ := f2
      rw [g1]
      exact ⟨_, rfl, relP_ok g2⟩
    · rw [f2, f1]
      rfl
  · cases h2
/-! ### TABLE.get(x, y) -/
def iKGet (tb : List (Str × PD)) (f g : EI) : EI := fun env st => match f env st with
  | some (.p (.str z), st1) => (match g env st1 with
    | some (d, st2) => (match tb.lookup z with
      | some y => some (.p y, st2)
      | none => some (d, st2))
    | none => none)
  | _ => none
def iKIx (tb : List (Str × PD)) (f : EI) : EI := fun env st => match f env st with
  | some (.p (.str z), st1) => (match tb.lookup z with
    | some y => some (.p y, st1)
    | none => none)
  | _ => none
section
variable {X : Cx} {x : Str} {tb : List (Str × PD)} {e1 e2 : Expr} {f g : EI} {p apos pos : Pos}
theorem je_kget (k : KdOk X.K X.w (He.ga X.K x) tb) (hm : X.mg x = some (.ref (He.ga X.K x))) (hg : Gl X x) (hd : (x == ("__debug__" : Str)) = false) (h1 : JE X e1 f) (h2 : JE X e2 g)
    (hfew : ((backTo pos (starEach [e1, e2] X.env)).all (fun x => !x.1) && (backToKw pos (keywordEach [] X.env)).all (fun x => x.1.isSome)
      && decide (([e1, e2] : List Expr).length + ([] : List Keyword).length + (if ([] : List Keyword).isEmpty then 0 else 1) < 30)) = true)
    (hline : (apos.endLine == pos.line) = true) (ht : backTo pos (starEach [e1, e2] X.env) = [(false, eval e1 X.env), (false, eval e2 X.env)]) : JE X (.Call (.Attribute (.Name x p) "get" apos) [e1, e2] [] pos) (iKGet tb f g) := fun F => ⟨fun pins s σ H Q I h => by
  obtain ⟨ads, env, st, d, st', S, E, hf, P⟩ := h
  obtain ⟨es, n, D⟩ := k.ex
  unfold iKGet at hf
  split at hf
  · rename_i z st1 q1
    split at hf
    · rename_i d2 st2 q2
      refine wpAny_Call_method rfl hfew hline PySem.F.plainAttrs_dict PySem.F.slot_dict_get PySem.F.type_dict_get (ld_glob I hg hm ?_ hd)
      refine ⟨kd_type D I, fun a ea => ?_, ?_⟩
      · cases ea
        exact ⟨_, I.kIn _ _ D.at_, rfl⟩
      rw [ht]
      refine Calls.callWith_builtin rfl (Calls.evalArgs_plain (Calls.spliced_cons (thn ((h1 F).run pins s σ H (fun v H1 => ∃ new, Ext ads new H H1 ∧ Sim X.K F (ads ++ new) st1 H1 ∧ Rep X.K F (ads ++ new) H1 v (.p (.str z))) I ⟨ads, env, st, _, _, S, E, q1, fun new H1 v ex S1 r1 => ⟨new, ex, S1, r1⟩⟩) fun iv s2 ⟨y, H2, I2, ry, new, ex, S2, r2⟩ =>
        Calls.spliced_cons (thn ((h2 F).run pins s2 σ H2 (fun v H3 => ∃ new2, Ext (ads ++ new) new2 H2 H3 ∧ Sim X.K F (ads ++ new ++ new2) st2 H3 ∧ Rep X.K F (ads ++ new ++ new2) H3 v d2) I2 ⟨_, env, st1, _, _, S2, E.mono ex, q2, fun new2 H3 v ex2 S3 r3 => ⟨new2, ex2, S3, r3⟩⟩) fun fv s3 ⟨y2, H3, I3, rz, new2, ex2, S3, r3⟩ => Calls.spliced_nil ?_))))
      obtain rfl := r2.str
      obtain ⟨t, rfl⟩ := ry
      have M := PySem.W.mapOf_K (prog := X.prog) (w := X.w) I3.kIn D.at_ D.lit
      have kv := k.vals z
      refine call_meetsIn PySem.F.slot_dict_get M.typeIs PySem.F.entry_dict_get (PySem.F.args_dict_get_3 _ _ _) (meets_dict_get_default (strKind X.prog X.w) (He.ga X.K x) (strKind_is X.prog X.w z t) D.low _) ⟨_, M, ?_⟩
      split at kv
      · rename_i y e3
        obtain ⟨u, n1, v, n2, n3⟩ := kv
        rw [PySem.W.find_K D.at_ n1]
        rw [e3] at hf
        cases hf
        exact ⟨v, H3, I3.tok _, n2, ((P.after ex).after ex2).here S3 (.p (n3 _ _))⟩
      · rename_i e3
        rw [PySem.W.find_K D.at_ kv]
        rw [e3] at hf
        cases hf
        exact ⟨y2, H3, I3.tok _, rz, ((P.after ex).after ex2).here S3 r3⟩
    · cases hf
  · cases hf⟩
end
/-! ### max, min of two ints -/
def cMax : OpN := fun ds st => match ds with
  | [.p (.int i), .p (.int j)] => some (.p (.int (if j > i then j else i)), st)
  | _ => none
def cMin : OpN := fun ds st => match ds with
  | [.p (.int i), .p (.int j)] => some (.p (.int (if j < i then j else i)), st)
  | _ => none
section
variable {X : Cx}
theorem cj_max (hc : X.calm = true) : CallJ X (.builtin "max") cMax := by
  intro F pins s σ H vs us Q I r ⟨ads, st, ds, d, st', S, rs, hg, P⟩
  unfold cMax at hg
  split at hg
  · cases hg
    obtain ⟨v, v2, rfl, r1, r2⟩ := rep2 rs
    exact call_max2 hc pins s σ H _ us Q I r ⟨_, _, by rw [r1.int, r2.int], P.here S (.p (.int _))⟩
  · cases hg
theorem cj_min (hc : X.calm = true) : CallJ X (.builtin "min") cMin := by
  intro F pins s σ H vs us Q I r ⟨ads, st, ds, d, st', S, rs, hg, P⟩
  unfold cMin at hg
  split at hg
  · cases hg
    obtain ⟨v, v2, rfl, r1, r2⟩ := rep2 rs
    exact call_min2 hc pins s σ H _ us Q I r ⟨_, _, by rw [r1.int, r2.int], P.here S (.p (.int _))⟩
  · cases hg
end
end J

set_option Elab.async false
set_option linter.all false
set_option maxRecDepth 100000
set_option maxHeartbeats 4000000
/-! JM: tuples so many times, any number. -/
namespace J
open PySem PySem.Spec PyProof.Rows L2
open AutoSeq1 (wpAny_loadPart')
set_option autoImplicit false
theorem mul_same (l : Addr) (items : Array Value) (n : Nat) (dd : Option Addr) (sl : Array (Option Value)) (x : Int) (u : Tok) (b0 : (decide (x < -(2 ^ 63)) || decide (x ≥ 2 ^ 63)) = false) (b1 : (items.isEmpty || x == 1) = true) :
    Meets (Builtin.«tuple.__mul__» ⟨[.ref l, .int x u], []⟩) (fun _ R s => s.heap.get? l = some { cls := .type "tuple", dict := dd, data := .seq items n, slots := sl } ∧ R (.ok (.ret (Value.ref l))) s) :=
  .of_wp fun prog w A R s hyp => by
    obtain ⟨hp, gs, dr, tk, os⟩ := s
    obtain ⟨at_, hR⟩ := hyp
    have fact := AutoSeq1.idx_int
    wp_walk using wpAny_loadPart' at_
    repeat (first
      | (refine wpAny_ite_false (decide_eq_false (by rw [b0]; exact Bool.false_ne_true)) ?_; wp_walk using wpAny_loadPart' at_)
      | (refine wpAny_ite_true (decide_eq_true b1) ?_; wp_walk using wpAny_loadPart' at_))
    exact ⟨_, rfl, hR⟩
theorem mul_none (l : Addr) (items : Array Value) (n : Nat) (dd : Option Addr) (sl : Array (Option Value)) (x : Int) (u : Tok) (b0 : (decide (x < -(2 ^ 63)) || decide (x ≥ 2 ^ 63)) = false) (b1 : (items.isEmpty || x == 1) = false) (b2 : (decide (x ≤ 0) || items.isEmpty) = true) :
    Meets (Builtin.«tuple.__mul__» ⟨[.ref l, .int x u], []⟩) (fun _ R s => s.heap.get? l = some { cls := .type "tuple", dict := dd, data := .seq items n, slots := sl } ∧ R (.ok (.ret (Value.ref s.heap.objs.size))) { s with heap := s.heap.push { cls := Value.type "tuple", data := Data.seq #[] } }) :=
  .of_wp fun prog w A R s hyp => by
    obtain ⟨hp, gs, dr, tk, os⟩ := s
    obtain ⟨at_, hR⟩ := hyp
    have fact := AutoSeq1.idx_int
    wp_walk using wpAny_loadPart' at_
    repeat (first
      | (refine wpAny_ite_false (decide_eq_false (by rw [b0]; exact Bool.false_ne_true)) ?_; wp_walk using wpAny_loadPart' at_)
      | (refine wpAny_ite_false (decide_eq_false (by rw [b1]; exact Bool.false_ne_true)) ?_; wp_walk using wpAny_loadPart' at_)
      | (refine wpAny_ite_true (decide_eq_true b2) ?_; wp_walk using wpAny_loadPart' at_))
    exact ⟨_, rfl, hR⟩
/-- a product: ints; a tuple so many times -/
def oMulT : Op2 := fun a b st => match a, b with
  | .p (.int i), .p (.int j) => if i.natAbs.log2 + j.natAbs.log2 < 900000 then some (.p (.int (i * j)), st) else none
  | a, .p (.int k) => (match tupOf a with
    | some xs => if -1000 ≤ k ∧ k ≤ 1000 ∧ xs.length ≤ 1000 then (if xs.isEmpty = true ∨ k = 1 then some (a, st) else if k ≤ 0 then some (mkTupN [], st) else some (mkTup (repL k.toNat xs), st)) else none
    | none => none)
  | _, _ => none
section
variable {X : Cx}
/-- the road to tuple.__mul__ -/
theorem mul_road {pins : List (Addr × Obj)} {σ : St} {H : Hp} {s : Shared} {l : Addr} {vs : List V} {k : Int} {t : Tok} {Q : Value → Shared → Prop} (I : Inv X pins σ H s) (hT : SqT X.K H l vs)
    (go : ∀ (its : List Value) (n : Nat) (dd : Option Addr) (sl : Array (Option Value)), Vals vs its → s.heap.get? l = some { cls := .type "tuple", dict := dd, data := .seq its.toArray n, slots := sl } → ∃ S, Meets (Builtin.«tuple.__mul__» ⟨[.ref l, .int k t], []⟩) S ∧ ∀ A E, S A (wants Q E) s) :
    wpAny (model X.prog X.w) X.A (binaryOp .Mult (.ref l) (.int k t)) Q X.xe s := by
  obtain ⟨its, r, ⟨⟨cls, dd, data, sl⟩, ho, hc, n, hd⟩, hs⟩ := I.tuple hT
  simp only at hc hd
  subst hc hd
  obtain ⟨S, M, hS⟩ := go its n dd sl r ho
  have inner : ∀ A E, wpAny (model X.prog X.w) A (call (.builtin "tuple.__mul__") [.ref l, .int k t]) Q E s := fun A E =>
    call_meets F.slot_tuple_mul ⟨_, ho, rfl⟩ F.entry_tuple_mul (F.args_tuple_mul_2 _ _) M (hS _ _)
  refine wpAny_binaryOp_repeat_ref (T := "tuple") (U := "int") (by decide) ⟨_, ho, rfl⟩ (fun z => typeIs_int z k t)
    noFill_tuple_mul F.fills_int_mul F.slot_int_rmul repeat_tuple F.slot_int_index.lookup ?_
  refine call_meets F.slot_int_rmul (typeIs_int s k t) F.entry_int_rmul (F.args_int_rmul_2 _ _)
    (int_rmul_tuple k t l its.toArray n dd sl) ⟨ho, rfl, ⟨_, ho, rfl⟩, inner _ _⟩
theorem oj_mulT : OpJ X (binaryOp .Mult) oMulT := by
  intro F pins s σ H x y v u Q I rx ry ⟨ads, st, a, b, d, st', S, ra, rb, hg, P⟩
  unfold oMulT at hg
  split at hg
  · split at hg
    · rename_i i j hz
      cases hg
      exact op_mulW pins s σ H x y v u Q I rx ry ⟨_, _, ra.int, rb.int, wide_mul (lt_two_log _) (lt_two_log _) (Nat.succ_pos _) (Nat.succ_pos _) (by omega), P.here S (.p (.int _))⟩
    · cases hg
  · split at hg
    · rename_i k _ _ xs e1
      split at hg
      · rename_i hz
        obtain ⟨p, vs, rfl, q, rs⟩ := tupOf_rep ra e1
        have ey := rb.int
        split at hg
        · rename_i h1
          cases hg
          subst ey
          obtain ⟨t, rfl⟩ := ry
          obtain rfl : v = Value.ref p := rx
          refine mul_road I q fun its n dd sl ri ho => ⟨_, mul_same p its.toArray n dd sl _ t (by simp; omega) ?_, fun A E => ⟨ho, ⟨.ref p, H, I, rfl, P.here S ra⟩⟩⟩
          rcases h1 with h1 | h1
          · have l0 : xs = [] := by simpa using h1
            have l1 : its.length = 0 := by rw [← ri.length, rs.length, l0]; rfl
            have l2 : its = [] := List.eq_nil_of_length_eq_zero l1
            rw [l2]; rfl
          · rw [h1]; simp
        · rename_i h1
          split at hg
          · rename_i h2
            cases hg
            subst ey
            obtain ⟨t, rfl⟩ := ry
            obtain rfl : v = Value.ref p := rx
            have hne : xs ≠ [] := fun e => h1 (.inl (by rw [e]; rfl))
            refine mul_road I q fun its n dd sl ri ho => ⟨_, mul_none p its.toArray n dd sl _ t (by simp; omega) ?_ (by simp; omega), fun A E => ⟨ho, ?_⟩⟩
            · have l1 : its ≠ [] := fun e => hne (List.eq_nil_of_length_eq_zero (by rw [← rs.length, ri.length, e]; rfl))
              have k1 : ¬ k = 1 := fun e => h1 (.inr e)
              cases its with
              | nil => exact absurd rfl l1
              | cons a b => simp [k1]
            · refine ⟨.ref s.heap.objs.size, upd H s.heap.objs.size (.frz { cls := .type "tuple", data := .seq #[] } (.tup [])), I.laid (t' := s.toks) (fun b u e => Heap.get?_push_of_some _ e) (Nat.le_refl _) ?_, rfl, P.tupN S .nil _ _ (I.hok.fresh (Nat.le_refl _)) rfl⟩
              exact ⟨Heap.get?_push_size _ rfl, Nat.zero_le _, [], .nil, ⟨_, Heap.get?_push_size _ rfl, rfl, _, rfl⟩⟩
          · rename_i h2
            cases hg
            have hne : xs ≠ [] := fun e => h1 (.inl (by rw [e]; rfl))
            have k1 : ¬ k = 1 := fun e => h1 (.inr e)
            refine op_repT pins s σ H _ y v u Q I rx ry ⟨p, k, vs, rfl, ey, q, ?_, by omega, hz.2.1, by rw [rs.length]; exact hz.2.2, P.tup S (mapD_rep rs _)⟩
            rintro rfl
            cases rs
            exact hne rfl
      · cases hg
    · cases hg
  · cases hg
end
end J

set_option Elab.async false
set_option linter.all false
set_option maxRecDepth 100000
set_option maxHeartbeats 4000000
/-! J13: from the text of a def to what it does: one function, and that it is right. -/
namespace J
open PySem PySem.Spec PyProof.Rows L2
set_option autoImplicit false
/-! ### what is known of the module -/
structure Cfg where
  N : List Str
  lvl : Nat
  fns : List (Str × FnE)
  shs : List Str
  gls : List (Str × PD)
  bts : List Str
  cls : List Str
  fl : Fls
  mks : List (Str × FnE)
  msh : List Str
  mts : List (Str × Str × FnE)
  kd : List (Str × List (Str × PD))
structure CfgOk (P : Program) (w : World) (K : PySem.W.Frag) (mg : Str → Option Value) (base : Heap) (C : Cfg) : Prop where
  nd : C.N.Nodup
  fn : ∀ x d, C.fns.lookup x = some d → DefF P w K mg base x d
  gl : ∀ x d, C.gls.lookup x = some d → ∃ (v : V) (u : Value), mg x = some u ∧ RelV v u ∧ ∀ B H, RepP K B H v d
  bt : ∀ x, C.bts.contains x = true → mg x = none
  cl : ClsOk K C.cls
  fl : FlsOk K C.fl
  mkc : ∀ x d, C.mks.lookup x = some d → MakeF P w K mg base x d
  mt : ∀ m q, C.mts.lookup m = some q → MethF P w K mg base q.1 m q.2
  kd : ∀ x tb, C.kd.lookup x = some tb → KdOk K w (He.ga K x) tb ∧ mg x = some (.ref (He.ga K x))
/-- a place in the text: the scope, the names whose cells were made at its entry -/
structure Pl where
  sc : Scope
  oc : Str → Bool
structure XOk (C : Cfg) (p : Pl) (X : Cx) : Prop where
  ok : CfgOk X.prog X.w X.K X.mg X.base C
  N : X.N = C.N
  sc : X.env.scope = p.sc
  fn : X.fn = p.oc
  calm : X.calm = true
  room : Room C.lvl X.A
  xe : X.xe = fun _ _ => False
namespace XOk
variable {C : Cfg} {p : Pl} {X : Cx}
theorem nd (x : XOk C p X) : X.N.Nodup := by rw [x.N]; exact x.ok.nd
theorem hu (x : XOk C p X) : X.A.units + 64 < cLine := x.room.units
theorem hu1 (x : XOk C p X) : X.A.units + 1 < cLine := by have := x.room.units; omega
theorem pass (x : XOk C p X) : PassesOwn (model X.prog X.w) X.A X.env X.xe := by rw [x.xe]; exact .never
end XOk
/-! ### small checks -/
def isStar : Expr → Bool
  | .Starred _ _ => true
  | _ => false
def nostar (es : List Expr) : Bool := es.all fun e => !isStar e
def isSetE : Expr → Bool
  | .Set _ _ _ => true
  | _ => false
def isSl : Expr → Bool
  | .Slice _ _ _ _ => true
  | _ => false
def isComp : Expr → Bool
  | .ListComp _ _ _ _ => true
  | .SetComp _ _ _ _ => true
  | .DictComp _ _ _ _ _ => true
  | _ => false
def isCall0 : Expr → Bool
  | .Call (.Name _ _) [] [] _ => true
  | _ => false
theorem star_cons {e : Expr} {es : List Expr} {env : PySem.Env} (h : isStar e = false) : starEach (e :: es) env = (false, eval e env) :: starEach es env := by
  cases e <;> first | rfl | cases h
theorem star_map : ∀ {es : List Expr} {env : PySem.Env}, nostar es = true → starEach es env = es.map fun e => (false, eval e env)
  | [], _, _ => rfl
  | e :: es, env, h => by
    unfold nostar at h
    rw [List.all_cons, Bool.and_eq_true] at h
    rw [star_cons (by simpa using h.1), List.map_cons, star_map (es := es) h.2]
theorem star_any {es : List Expr} {env : PySem.Env} {pos : Pos} (h : nostar es = true) : (backTo pos (starEach es env)).any (·.1) = false := by
  rw [star_map h]
  unfold backTo
  rw [List.map_map, List.any_map]
  induction es with
  | nil => rfl
  | cons e es ih =>
    unfold nostar at h
    rw [List.all_cons, Bool.and_eq_true] at h
    rw [List.any_cons, ih h.2]
    rfl
theorem nostar_cons {e : Expr} {es : List Expr} (h : nostar (e :: es) = true) : isStar e = false ∧ nostar es = true := by
  unfold nostar at h ⊢
  rw [List.all_cons, Bool.and_eq_true] at h
  exact ⟨by simpa using h.1, h.2⟩
theorem mark_no {op : CmpOp} {e : Expr} (h : isSetE e = false) : behindInMarks op e = false := by
  cases e <;> first | rfl | cases h
theorem fold_no {e : Expr} {env : PySem.Env} (h : isSetE e = false) (x : Value) : foldedSetIterable e env x = pure x := by
  cases e <;> first | rfl | cases h
theorem plain_ix {e : Expr} (h : isSl e = false) : PlainIx e := fun o i => by
  cases e <;> first | rfl | cases h
theorem swaps_no {e : Expr} {t : Option Expr} {l : Nat} {env : PySem.Env} (h : isComp e = false) : swapsWith e t l env = pure false := by
  cases e <;> first | rfl | cases h
theorem base_no {o : Expr} {m : Str} {env : PySem.Env} (h : isCall0 o = false) : attributeBase o m env (eval o env) = eval o env := by
  unfold attributeBase
  split
  · cases h
  · rfl
theorem assign_cons {t : Expr} {ts : List Expr} {env : PySem.Env} (h : isStar t = false) : (assignEach (t :: ts) env).map (·.2) = assign t env :: (assignEach ts env).map (·.2) ∧ (assignEach (t :: ts) env).length = (assignEach ts env).length + 1 ∧ (assignEach (t :: ts) env).map (·.1) = false :: (assignEach ts env).map (·.1) := by
  cases t <;> first | exact ⟨rfl, rfl, rfl⟩ | cases h
theorem assign_all : ∀ {ts : List Expr} {env : PySem.Env}, nostar ts = true → (assignEach ts env).length = ts.length ∧ (assignEach ts env).findIdx? (·.1) = none
  | [], _, _ => ⟨rfl, rfl⟩
  | t :: ts, env, h => by
    obtain ⟨h1, h2⟩ := nostar_cons h
    obtain ⟨i1, i2⟩ := assign_all (env := env) h2
    obtain ⟨a1, a2, a3⟩ := assign_cons (ts := ts) (env := env) h1
    refine ⟨by rw [a2, i1]; rfl, ?_⟩
    rw [List.findIdx?_eq_none_iff] at i2 ⊢
    intro x hx
    have z : x.1 ∈ (assignEach (t :: ts) env).map (·.1) := List.mem_map_of_mem hx
    rw [a3] at z
    rcases List.mem_cons.mp z with z | z
    · exact z
    · obtain ⟨y, hy, e⟩ := List.mem_map.mp z
      rw [← e]
      exact i2 y hy
/-! ### operators -/
def opC : CmpOp → Option Op2
  | .Eq => some oEq
  | .NotEq => some oNe
  | .Lt => some oLt
  | .LtE => some (oInt fun i j => decide (i ≤ j))
  | .Gt => some (oInt fun i j => decide (j < i))
  | .GtE => some (oInt fun i j => decide (j ≤ i))
  | .Is => some oIs
  | .IsNot => some oIsN
  | .In => some (oIn false)
  | .NotIn => some (oIn true)
def opB : Operator → Option Op2
  | .Add => some oAdd
  | .Sub => some oSub
  | .Mult => some oMulT
  | .FloorDiv => some oFdiv
  | .Mod => some oMod
  | .Pow => some oPow
  | _ => none
/-- a op= b of ints and texts -/
def oAddI : Op2 := fun a b st => match a, b with
  | .p (.int i), .p (.int j) => some (.p (.int (i + j)), st)
  | .p (.str x), .p (.str y) => if x.length + y.length ≤ 16777216 then some (.p (.str (x ++ y)), st) else none
  | _, _ => none
def oSubI : Op2 := fun a b st => match a, b with
  | .p (.int i), .p (.int j) => some (.p (.int (i - j)), st)
  | _, _ => none
def oDivI : Op2 := fun a b st => match a, b with
  | .p (.int i), .p (.int j) => if 0 < j ∧ j.natAbs.log2 < 9000 then some (.p (.int (i / j)), st) else none
  | _, _ => none
def opI : Operator → Option Op2
  | .Add => some oAddI
  | .Sub => some oSubI
  | .FloorDiv => some oDivI
  | _ => none
section
variable {X : Cx}
theorem opC_ok (hu : X.A.units + 64 < cLine) {op : CmpOp} {g : Op2} (h : opC op = some g) : OpJ X (compareOp op) g := by
  have hu1 : X.A.units + 1 < cLine := by omega
  cases op <;> (cases h) <;> first | exact oj_eq hu | exact oj_ne hu | exact oj_lt | exact oj_le | exact oj_gt | exact oj_ge | exact oj_is | exact oj_isN | exact oj_in hu1 | exact oj_notIn hu1
theorem opB_ok {op : Operator} {g : Op2} (h : opB op = some g) : OpJ X (binaryOp op) g := by
  cases op <;> first | (cases h; first | exact oj_add | exact oj_sub | exact oj_mulT | exact oj_fdiv | exact oj_mod | exact oj_pow) | cases h
theorem opI_ok {op : Operator} {g : Op2} (h : opI op = some g) : OpJ X (inplaceOp op) g := by
  have a1 : OpJ X (inplaceOp .Add) oAddI := by
    intro F pins s σ H x y v u Q I rx ry ⟨ads, st, a, b, d, st', S, ra, rb, hg, P⟩
    unfold oAddI at hg
    split at hg
    · cases hg; exact iop_add pins s σ H x y v u Q I rx ry ⟨_, _, ra.int, rb.int, P.here S (.p (.int _))⟩
    · split at hg
      · rename_i h
        cases hg; exact iop_add_str pins s σ H x y v u Q I rx ry ⟨_, _, ra.str, rb.str, sizeLine_lit h, P.here S (.p (.str _))⟩
      · cases hg
    · cases hg
  have a2 : OpJ X (inplaceOp .Sub) oSubI := by
    intro F pins s σ H x y v u Q I rx ry ⟨ads, st, a, b, d, st', S, ra, rb, hg, P⟩
    unfold oSubI at hg
    split at hg
    · cases hg; exact iop_sub pins s σ H x y v u Q I rx ry ⟨_, _, ra.int, rb.int, P.here S (.p (.int _))⟩
    · cases hg
  have a3 : OpJ X (inplaceOp .FloorDiv) oDivI := by
    intro F pins s σ H x y v u Q I rx ry ⟨ads, st, a, b, d, st', S, ra, rb, hg, P⟩
    unfold oDivI at hg
    split at hg
    · split at hg
      · rename_i h
        cases hg; exact iop_fdivW pins s σ H x y v u Q I rx ry ⟨_, _, ra.int, rb.int, h, P.here S (.p (.int _))⟩
      · cases hg
    · cases hg
  cases op <;> first | (cases h; first | exact a1 | exact a2 | exact a3) | cases h
end
/-! ### built-ins -/
def bltF (cs : List Str) (x : Str) : Option OpN :=
  if x = "len" then some cLen else if x = "abs" then some cAbs else if x = "ord" then some cOrd else if x = "isinstance" then some (cIsi cs) else if x = "max" then some cMax else if x = "min" then some cMin else if x = "sorted" then some cSorted else none
def bltT (x : Str) : Option OpN :=
  if x = "int" then some cInt else if x = "tuple" then some cTuple else if x = "list" then some cList else if x = "dict" then some cDict else none
def tyN (x : Str) : Option String :=
  if x = "int" then some "int" else if x = "bool" then some "bool" else if x = "str" then some "str" else if x = "tuple" then some "tuple" else if x = "list" then some "list" else if x = "dict" then some "dict" else none
section
variable {X : Cx}
theorem bltF_ok {cs : List Str} {x : Str} {g : OpN} (hc : X.calm = true) (C0 : ClsOk X.K cs) (h : bltF cs x = some g) : ∃ id, bootBuiltins x = some (.builtin id) ∧ CallJ X (.builtin id) g ∧ x ≠ "__name__" ∧ (x == ("__debug__" : Str)) = false := by
  unfold bltF at h
  split at h
  · rename_i e; subst e; cases h; exact ⟨"len", rfl, cj_len, by decide, by decide⟩
  · split at h
    · rename_i e; subst e; cases h; exact ⟨"abs", rfl, cj_abs, by decide, by decide⟩
    · split at h
      · rename_i e; subst e; cases h; exact ⟨"ord", rfl, cj_ord, by decide, by decide⟩
      · split at h
        · rename_i e; subst e; cases h; exact ⟨"isinstance", rfl, cj_isi C0, by decide, by decide⟩
        · split at h
          · rename_i e; subst e; cases h; exact ⟨"max", rfl, cj_max hc, by decide, by decide⟩
          · split at h
            · rename_i e; subst e; cases h; exact ⟨"min", rfl, cj_min hc, by decide, by decide⟩
            · split at h
              · rename_i e; subst e; cases h; exact ⟨"sorted", rfl, cj_sorted, by decide, by decide⟩
              · cases h
theorem bltT_ok {x : Str} {g : OpN} (hc : X.calm = true) (h : bltT x = some g) : ∃ T, bootBuiltins x = some (.type T) ∧ CallJ X (.type T) g ∧ x ≠ "__name__" ∧ (x == ("__debug__" : Str)) = false := by
  unfold bltT at h
  split at h
  · rename_i e; subst e; cases h; exact ⟨"int", rfl, cj_int, by decide, by decide⟩
  · split at h
    · rename_i e; subst e; cases h; exact ⟨"tuple", rfl, cj_tuple, by decide, by decide⟩
    · split at h
      · rename_i e; subst e; cases h; exact ⟨"list", rfl, cj_list, by decide, by decide⟩
      · split at h
        · rename_i e; subst e; cases h; exact ⟨"dict", rfl, cj_dict hc, by decide, by decide⟩
        · cases h
theorem tyN_ok {x : Str} {n : String} (h : tyN x = some n) : bootBuiltins x = some (.type n) ∧ x ≠ "__name__" ∧ (x == ("__debug__" : Str)) = false := by
  unfold tyN at h
  repeat' (split at h)
  all_goals first
    | (rename_i e; subst e; cases h; exact ⟨rfl, by decide, by decide⟩)
    | cases h
end
/-- methods of built-in types: the type, what it does -/
def methB (m : Str) : Option (String × String × OpM) :=
  if m = "append" then some ("list", "list.append", mAppend) else if m = "pop" then some ("list", "list.pop", mPop) else if m = "extend" then some ("list", "list.extend", mExtend)
  else if m = "split" then some ("str", "str.split", mSplit) else if m = "join" then some ("str", "str.join", mJoin) else if m = "get" then some ("dict", "dict.get", mGet) else none
section
variable {X : Cx}
theorem methB_ok {m : Str} {T id : String} {g : OpM} (hu : X.A.units + 1 < cLine) (h : methB m = some (T, id, g)) : PlainAttrs T ∧ Slot T m id ∧ typeOf (.builtin id) = pure (.type "method_descriptor") ∧ MethJ X id g := by
  unfold methB at h
  split at h
  · rename_i e; subst e; cases h; exact ⟨PySem.F.plainAttrs_list, PySem.F.slot_list_append, PySem.F.type_list_append, mj_append⟩
  · split at h
    · rename_i e; subst e; cases h; exact ⟨PySem.F.plainAttrs_list, PySem.F.slot_list_pop, PySem.F.type_list_pop, mj_pop⟩
    · split at h
      · rename_i e; subst e; cases h; exact ⟨PySem.F.plainAttrs_list, PySem.F.slot_list_extend, PySem.F.type_list_extend, mj_extend⟩
      · split at h
        · rename_i e; subst e; cases h; exact ⟨PySem.F.plainAttrs_str, PySem.F.slot_str_split, PySem.F.type_str_split, mj_split⟩
        · split at h
          · rename_i e; subst e; cases h; exact ⟨PySem.F.plainAttrs_str, PySem.F.slot_str_join, PySem.F.type_str_join, mj_join⟩
          · split at h
            · rename_i e; subst e; cases h; exact ⟨PySem.F.plainAttrs_dict, PySem.F.slot_dict_get, PySem.F.type_dict_get, mj_get hu⟩
            · cases h
end
end J

set_option Elab.async false
set_option linter.all false
set_option maxRecDepth 100000
set_option maxHeartbeats 4000000
/-! J14: one step of the reading of a text, and that it is right. -/
namespace J
open PySem PySem.Spec PyProof.Rows L2
set_option autoImplicit false
structure Comp where
  E : Pl → Expr → EI
  T : Pl → Expr → BI
  S : Pl → Stmt → SI
  V : Pl → List Nat → Expr → GI
structure CompOk (C : Cfg) (c : Comp) : Prop where
  E : ∀ p X e, XOk C p X → JE X e (c.E p e)
  T : ∀ p X e, XOk C p X → JT X e (c.T p e)
  S : ∀ p X s, XOk C p X → JS X s (c.S p s)
  V : ∀ p X vs t, XOk C p X → JGv X vs t (c.V p vs t)
def bStuck : BI := fun _ _ => none
def aStuck : AI := fun _ _ => none
def wStuck : WI := fun _ _ => none
def gStuck : GI := fun _ _ _ => none
section
variable {X : Cx} {e tg : Expr} {es : List Expr} {vs : List Nat}
theorem jt_stuck : JT X e bStuck := fun F => ⟨fun pins s σ H Q I h => by obtain ⟨_, _, _, _, _, _, _, h, _⟩ := h; cases h⟩
theorem ja_stuck : JA X es aStuck := fun F => ⟨fun pos pins s σ H Q I h => by obtain ⟨_, _, _, _, _, _, _, h, _⟩ := h; cases h⟩
theorem ji_stuck : JI X tg e wStuck := fun F => ⟨fun pins s σ H Q I h => by obtain ⟨_, _, _, _, _, _, _, h, _⟩ := h; cases h⟩
theorem jgv_stuck : JGv X vs e gStuck := fun F => ⟨fun pins s σ H v u Q I r h => by obtain ⟨_, _, _, _, _, _, _, _, _, h, _⟩ := h; cases h⟩
theorem jts_stuck : JTs X es bStuck := fun F => ⟨fun pins s σ H Q I h => by obtain ⟨_, _, _, _, _, _, _, h, _⟩ := h; cases h⟩
end
def ixOf : List Str → Str → Option Nat
  | [], _ => none
  | y :: ys, x => if y = x then some 0 else match ixOf ys x with
    | some i => some (i + 1)
    | none => none
theorem ixOf_ok : ∀ {N : List Str} {x : Str} {i : Nat}, ixOf N x = some i → N[i]? = some x
  | [], _, _, h => by cases h
  | y :: ys, x, i, h => by
    unfold ixOf at h
    split at h
    · rename_i e; cases h; rw [e]; rfl
    · split at h
      · rename_i j e; cases h; rw [List.getElem?_cons_succ]; exact ixOf_ok e
      · cases h
def okName (x : Str) : Bool := decide (x ≠ "__name__") && ((x == ("__debug__" : Str)) == false) && ((x == ("__classdict__" : Str)) == false)
theorem okName_of {x : Str} (h : okName x = true) : x ≠ "__name__" ∧ (x == ("__debug__" : Str)) = false ∧ (x == ("__classdict__" : Str)) = false := by
  unfold okName at h
  simp only [Bool.and_eq_true, decide_eq_true_eq, beq_iff_eq] at h
  exact ⟨h.1.1, h.1.2, h.2⟩
def glob (p : Pl) (x : Str) : Bool := decide (p.sc.names.lookup x = some .globalImplicit)
section
variable {C : Cfg} {c : Comp} {p : Pl} {X : Cx}
theorem XOk.gl (x : XOk C p X) {n : Str} (h : glob p n = true) : Gl X n := by
  show X.env.scope.names.lookup n = some .globalImplicit
  rw [x.sc]
  exact of_decide_eq_true h
/-! ### names -/
def cName (C : Cfg) (p : Pl) (x : Str) : EI := if okName x then (match p.sc.names.lookup x with
  | some .globalImplicit => (match C.gls.lookup x with
    | some d => iP d
    | none => if C.bts.contains x then (match tyN x with
      | some n => iP (.ty n)
      | none => iStuck) else iStuck)
  | some .globalExplicit => iStuck
  | none => iStuck
  | some _ => (match ixOf C.N x with
    | some i => iVar i
    | none => iStuck)) else iStuck
theorem cName_ok (h : XOk C p X) (x : Str) (pos : Pos) : JE X (.Name x pos) (cName C p x) := by
  unfold cName
  split
  · rename_i hn
    obtain ⟨n1, n2, n3⟩ := okName_of hn
    have var : ∀ k : NameKind, p.sc.names.lookup x = some k → (k = .local ∨ k = .cell ∨ k = .free) → JE X (.Name x pos) (match ixOf C.N x with
      | some i => iVar i
      | none => iStuck) := fun k hk hv => by
      split
      · rename_i i e
        refine je_var (by rw [h.N]; exact ixOf_ok e) ?_ n2 n3
        unfold Vis
        rw [h.sc, hk]
        rcases hv with rfl | rfl | rfl
        · exact .inl rfl
        · exact .inr (.inl rfl)
        · exact .inr (.inr rfl)
      · exact je_stuck
    split
    · rename_i e1
      have g : Gl X x := h.gl (decide_eq_true e1)
      split
      · rename_i d e2
        obtain ⟨v, u, h1, h2, h3⟩ := h.ok.gl x d e2
        exact je_glob g h1 h2 h3 n2
      · split
        · rename_i hb
          split
          · rename_i n e3
            exact je_bltn g (h.ok.bt x hb) (tyN_ok e3).1 (show RelV (.ty n) (.type n) from rfl) (fun B H => .ty n) n1 n2
          · exact je_stuck
        · exact je_stuck
    · exact je_stuck
    · exact je_stuck
    · rename_i k hk1 hk2 e1
      refine var k e1 ?_
      cases k with
      | «local» => exact .inl rfl
      | cell => exact .inr (.inl rfl)
      | free => exact .inr (.inr rfl)
      | globalExplicit => exact absurd rfl hk2
      | globalImplicit => exact absurd rfl hk1
  · exact je_stuck
/-! ### lists of expressions -/
def cA (c : Comp) (p : Pl) : List Expr → AI
  | [] => aNil
  | e :: es => if isStar e then aStuck else aCons (c.E p e) (cA c p es)
theorem cA_ok (k : CompOk C c) (h : XOk C p X) : ∀ es, JA X es (cA c p es)
  | [] => ja_nil
  | e :: es => by
    unfold cA
    split
    · exact ja_stuck
    · rename_i hs
      exact ja_cons (k.E p X e h) (cA_ok k h es) (star_cons (by simpa using hs))
def cK (c : Comp) (p : Pl) : List Keyword → AI
  | [] => aNil
  | ⟨_, e, _⟩ :: ks => aCons (c.E p e) (cK c p ks)
theorem cK_ok (k : CompOk C c) (h : XOk C p X) : ∀ ks, JK X ks (cK c p ks)
  | [] => jk_nil
  | ⟨_, e, _⟩ :: ks => jk_cons (k.E p X e h) (cK_ok k h ks)
/-! ### operators -/
def cBool (c : Comp) (p : Pl) (op : BoolOp) : List Expr → EI
  | [] => iStuck
  | [a] => c.E p a
  | a :: b :: es => match op with
    | .And => iAnd (c.E p a) (cBool c p op (b :: es))
    | .Or => iOr (c.E p a) (cBool c p op (b :: es))
theorem cBool_ok (k : CompOk C c) (h : XOk C p X) (op : BoolOp) (pos : Pos) : ∀ es, JE X (.BoolOp op es pos) (cBool c p op es)
  | [] => je_stuck
  | [a] => je_one (k.E p X a h)
  | a :: b :: es => by
    have ih := cBool_ok k h op pos (b :: es)
    cases op with
    | And => exact je_and (k.E p X a h) ih
    | Or => exact je_or (k.E p X a h) ih
def tBool (c : Comp) (p : Pl) (op : BoolOp) : List Expr → BI
  | [] => bStuck
  | [a] => c.T p a
  | a :: b :: es => match op with
    | .And => bAnd (c.T p a) (tBool c p op (b :: es))
    | .Or => bOr (c.T p a) (tBool c p op (b :: es))
theorem tBool_ok (k : CompOk C c) (h : XOk C p X) (op : BoolOp) (pos : Pos) : ∀ es, es ≠ [] → JW X (.BoolOp op es pos) (tBool c p op es)
  | [], hn => absurd rfl hn
  | [a], _ => by cases op <;> first | exact jw_and1 (k.T p X a h) | exact jw_or1 (k.T p X a h)
  | a :: b :: es, _ => by
    have ih := tBool_ok k h op pos (b :: es) (fun z => nomatch z)
    cases op with
    | And => exact jw_and (k.T p X a h) ih
    | Or => exact jw_or (k.T p X a h) ih
def cCmp (c : Comp) (p : Pl) (a : Expr) (ops : List CmpOp) (cs : List Expr) : EI := match ops, cs with
  | [op], [b] => if isSetE b then iStuck else (match opC op with
    | some g => iBin g (c.E p a) (c.E p b)
    | none => iStuck)
  | [op, op2], [b, d] => if isSetE d then iStuck else (match opC op, opC op2 with
    | some g, some g2 => iChain g g2 (c.E p a) (c.E p b) (c.E p d)
    | _, _ => iStuck)
  | _, _ => iStuck
theorem cCmp_ok (k : CompOk C c) (h : XOk C p X) (a : Expr) (ops : List CmpOp) (cs : List Expr) (pos : Pos) : JE X (.Compare a ops cs pos) (cCmp c p a ops cs) ∧ JT X (.Compare a ops cs pos) (bVal (cCmp c p a ops cs)) := by
  have st : JE X (.Compare a ops cs pos) iStuck ∧ JT X (.Compare a ops cs pos) (bVal iStuck) := ⟨je_stuck, fun F => ⟨fun pins s σ H Q I h => by obtain ⟨_, _, _, _, _, _, _, h, _⟩ := h; cases h⟩⟩
  unfold cCmp
  split
  · split
    · exact st
    · rename_i hs
      split
      · rename_i g e
        exact ⟨je_cmp (opC_ok h.hu e) (k.E p X _ h) (k.E p X _ h) (mark_no (by simpa using hs)), jt_cmp (opC_ok h.hu e) (k.E p X _ h) (k.E p X _ h) (mark_no (by simpa using hs))⟩
      · exact st
  · split
    · exact st
    · rename_i hs
      split
      · rename_i g g2 e e2
        exact ⟨je_chain (opC_ok h.hu e) (opC_ok h.hu e2) (k.E p X _ h) (k.E p X _ h) (k.E p X _ h) (mark_no (by simpa using hs)), jt_chain (opC_ok h.hu e) (opC_ok h.hu e2) (k.E p X _ h) (k.E p X _ h) (k.E p X _ h) (mark_no (by simpa using hs))⟩
      · exact st
  · exact st
/-! ### subscripts -/
def cO (c : Comp) (p : Pl) : Option Expr → OI
  | none => pNone
  | some e => pSome (c.E p e)
theorem cO_ok (k : CompOk C c) (h : XOk C p X) : ∀ o, JO X o (cO c p o)
  | none => jo_none
  | some e => jo_some (k.E p X e h)
def isM1 : Expr → Bool
  | .UnaryOp .USub (.Constant (.int i) _ _) _ => i == 1
  | _ => false
theorem isM1_of {e : Expr} (h : isM1 e = true) : ∃ j q1 q2, e = .UnaryOp .USub (.Constant (.int 1) j q1) q2 := by
  unfold isM1 at h
  split at h
  · rw [beq_iff_eq.mp h]; exact ⟨_, _, _, rfl⟩
  · cases h
def cSub (c : Comp) (p : Pl) (a i : Expr) : EI := match i with
  | .Slice lo hi none _ => iCut (c.E p a) (cO c p lo) (cO c p hi)
  | .Slice none none (some s) _ => if isM1 s then iRev (c.E p a) else iStuck
  | i => if isSl i then iStuck else iBin oIxA (c.E p a) (c.E p i)
theorem cSub_ok (k : CompOk C c) (h : XOk C p X) (a i : Expr) (pos : Pos) : JE X (.Subscript a i pos) (cSub c p a i) := by
  unfold cSub
  split
  · exact je_cut (k.E p X _ h) (cO_ok k h _) (cO_ok k h _)
  · split
    · rename_i hs
      obtain ⟨j, q1, q2, rfl⟩ := isM1_of hs
      exact je_rev (k.E p X _ h)
    · exact je_stuck
  · split
    · exact je_stuck
    · rename_i hs
      exact je_ixA h.hu1 (k.E p X _ h) (k.E p X _ h) (plain_ix (by simpa using hs))
/-! ### targets -/
def tgtOk (p : Pl) (x : Str) : Bool := match p.sc.names.lookup x with
  | some .local => true
  | some .cell => p.oc x
  | _ => false
theorem tgtOk_of (h : XOk C p X) {x : Str} (e : tgtOk p x = true) : L2.Loc X.env.scope x ∧ (X.fn x = true ∨ X.env.scope.names.lookup x = some .local) := by
  unfold tgtOk at e
  unfold L2.Loc
  rw [h.sc, h.fn]
  split at e
  · rename_i q; exact ⟨.inl q, .inr q⟩
  · rename_i q; exact ⟨.inr q, .inl e⟩
  · cases e
def cVs (c : Comp) (p : Pl) (vs : List Nat) : List Expr → GIs
  | [] => gNil
  | t :: ts => if isStar t then fun _ _ _ => none else gCons (c.V p vs t) (cVs c p vs ts)
theorem cVs_ok (k : CompOk C c) (h : XOk C p X) (vs : List Nat) : ∀ ts, JGvs X vs ts (cVs c p vs ts)
  | [] => jgvs_nil
  | t :: ts => by
    unfold cVs
    split
    · exact fun F => ⟨fun pins s σ H v u Q I r h => by obtain ⟨_, _, _, _, _, _, _, _, _, h, _⟩ := h; cases h⟩
    · rename_i hs
      exact jgvs_cons (k.V p X vs t h) (cVs_ok k h vs ts) (assign_cons (by simpa using hs)).1
def stepV (C : Cfg) (c : Comp) (p : Pl) (vs : List Nat) : Expr → GI
  | .Name x _ => (match ixOf C.N x with
    | some i => if vs.contains i && tgtOk p x then gName i else gStuck
    | none => gStuck)
  | .Tuple ts _ _ => if nostar ts then gTup ts.length (cVs c p vs ts) else gStuck
  | _ => gStuck
theorem stepV_ok (k : CompOk C c) (h : XOk C p X) (vs : List Nat) (t : Expr) : JGv X vs t (stepV C c p vs t) := by
  cases t with
  | Name x pos =>
    show JGv X vs (.Name x pos) (match ixOf C.N x with
      | some i => if vs.contains i && tgtOk p x then gName i else gStuck
      | none => gStuck)
    split
    · rename_i i e
      split
      · rename_i hh
        rw [Bool.and_eq_true] at hh
        obtain ⟨l, f⟩ := tgtOk_of h hh.2
        exact jgv_name (List.contains_iff_mem.mp hh.1) h.nd (by rw [h.N]; exact ixOf_ok e) l f
      · exact jgv_stuck
    · exact jgv_stuck
  | Tuple ts kk pos =>
    show JGv X vs (.Tuple ts kk pos) (if nostar ts then gTup ts.length (cVs c p vs ts) else gStuck)
    split
    · rename_i hs
      obtain ⟨a1, a2⟩ := assign_all (env := X.env) hs
      exact jgv_tup h.calm (cVs_ok k h vs ts) a1 a2
    · exact jgv_stuck
  | _ => exact jgv_stuck
/-! ### what loops walk -/
def cI (C : Cfg) (c : Comp) (p : Pl) (tg iter : Expr) : WI := match iter with
  | .Call (.Name x _) args [] _ => if glob p x && C.bts.contains x then (
      if x = "range" then (if nostar args then (match args with
        | [a] => wRng1 (cA c p [a])
        | [a, b] => wRng2 (cA c p [a, b])
        | [a, b, d] => wRng3 (cA c p [a, b, d])
        | _ => wStuck) else wStuck)
      else if x = "enumerate" then (if nostar args then (match args, tg with
        | [a], .Tuple _ _ _ => wEnum (cA c p [a])
        | _, _ => wStuck) else wStuck)
      else if x = "zip" then (if nostar args then (match args, tg with
        | [a, b], .Tuple _ _ _ => wZip (cA c p [a, b])
        | _, _ => wStuck) else wStuck)
      else wAny (c.E p iter)) else wAny (c.E p iter)
  | _ => wAny (c.E p iter)
theorem cI_ok (k : CompOk C c) (h : XOk C p X) (tg iter : Expr) : JI X tg iter (cI C c p tg iter) := by
  unfold cI
  split
  · rename_i x q args pos
    split
    · rename_i hh
      rw [Bool.and_eq_true] at hh
      have g := h.gl hh.1
      have m := h.ok.bt x hh.2
      split
      · rename_i e
        subst e
        split
        · rename_i hs
          split
          · exact ji_rng1 g m (cA_ok k h _) (star_map hs)
          · rename_i a b
            exact ji_rng2 g m (cA_ok k h _) (star_map hs) (star_map (nostar_cons hs).2)
          · rename_i a b d
            exact ji_rng3 g m (cA_ok k h _) (star_cons (nostar_cons hs).1) (star_any (nostar_cons hs).2)
          · exact ji_stuck
        · exact ji_stuck
      · split
        · rename_i e
          subst e
          split
          · rename_i hs
            split
            · exact ji_enum g m (cA_ok k h _) (star_map hs)
            · exact ji_stuck
          · exact ji_stuck
        · split
          · rename_i e
            subst e
            split
            · rename_i hs
              split
              · exact ji_zip g m (cA_ok k h _) (star_cons (nostar_cons hs).1) (star_any (nostar_cons hs).2)
              · exact ji_stuck
            · exact ji_stuck
          · exact ji_any (k.E p X _ h)
    · exact ji_any (k.E p X _ h)
  · exact ji_any (k.E p X _ h)
/-! ### comprehensions -/
def ownOf (N : List Str) (sc : Scope) : List (Str × Nat) := sc.names.filterMap fun q => match q.2 with
  | .local => (match ixOf N q.1 with
    | some i => some (q.1, i)
    | none => none)
  | .cell => (match ixOf N q.1 with
    | some i => some (q.1, i)
    | none => none)
  | _ => none
def blkPl (p : Pl) (sc : Scope) : Pl := ⟨relS sc p.sc, fun x => sc.names.lookup x == some .cell⟩
def blkB (N : List Str) (sc0 sc : Scope) : Bool := decide (sc.kind = .function) && (sc.names.all fun y => decide (sc.names.lookup y.1 = some y.2)) &&
  (sc.names.all fun y => match y.2 with
    | .free => decide (sc0.names.lookup y.1 = some .cell ∨ sc0.names.lookup y.1 = some .free)
    | _ => true)
theorem ixOf_none : ∀ {N : List Str} {x : Str}, ixOf N x = none → x ∉ N
  | [], _, _ => List.not_mem_nil
  | y :: ys, x, h => by
    unfold ixOf at h
    split at h
    · cases h
    · rename_i hne
      split at h
      · cases h
      · rename_i e
        intro hm
        rcases List.mem_cons.mp hm with q | q
        · exact hne q.symm
        · exact ixOf_none e q
theorem blkB_ok {N : List Str} {sc0 sc : Scope} (h : blkB N sc0 sc = true) : BlkOk N sc0 sc (ownOf N sc) := by
  unfold blkB at h
  rw [Bool.and_eq_true, Bool.and_eq_true] at h
  obtain ⟨⟨h1, h2⟩, h3⟩ := h
  refine ⟨of_decide_eq_true h1, fun y hy => of_decide_eq_true (List.all_eq_true.mp h2 y hy), fun q hq => ?_, fun y hy hf => ?_, fun y hy hk => ?_⟩
  · unfold ownOf at hq
    obtain ⟨y, hy, e⟩ := List.mem_filterMap.mp hq
    split at e
    · split at e
      · rename_i i e2; cases e; exact ixOf_ok e2
      · cases e
    · split at e
      · rename_i i e2; cases e; exact ixOf_ok e2
      · cases e
    · cases e
  · have z := List.all_eq_true.mp h3 y hy
    rw [hf] at z
    exact of_decide_eq_true z
  · cases e : ixOf N y.1 with
    | none => exact .inr (ixOf_none e)
    | some i =>
      refine .inl (List.mem_map.mpr ⟨(y.1, i), ?_, rfl⟩)
      unfold ownOf
      refine List.mem_filterMap.mpr ⟨y, hy, ?_⟩
      rcases hk with q | q
      · rw [q, e]
      · rw [q, e]
theorem xok_blk (h : XOk C p X) (sc : Scope) (s : Shared) (H : Hp) (a : Addr) (cl : List (Str × Addr)) (fp : List Addr) : XOk C (blkPl p sc) (X.blk s H sc (compEnvC sc cl a X.env) fp) where
  ok := h.ok
  N := h.N
  sc := by show relS sc X.env.scope = relS sc p.sc; rw [h.sc]
  fn := rfl
  calm := h.calm
  room := h.room
  xe := rfl
def cIfs (c : Comp) (p : Pl) : List Expr → BI
  | [] => bYes
  | [t] => c.T p t
  | _ => bStuck
theorem cIfs_ok (k : CompOk C c) (h : XOk C p X) : ∀ es, JTs X es (cIfs c p es)
  | [] => jts_nil
  | [t] => jts_one (k.T p X t h)
  | _ :: _ :: _ => jts_stuck
def cLc (C : Cfg) (c : Comp) (p : Pl) (elt tg iter : Expr) (ifs : List Expr) (sc : Scope) : EI := if isSetE iter || !blkB C.N p.sc sc then iStuck else
  iLc (cI C c p tg iter) (c.V (blkPl p sc) ((ownOf C.N sc).map (·.2)) tg) (cIfs c (blkPl p sc) ifs) (c.E (blkPl p sc) elt) ((ownOf C.N sc).map (·.2))
def cDc (C : Cfg) (c : Comp) (p : Pl) (kx vx tg iter : Expr) (ifs : List Expr) (sc : Scope) : EI := if isSetE iter || !blkB C.N p.sc sc then iStuck else
  iDc (cI C c p tg iter) (c.V (blkPl p sc) ((ownOf C.N sc).map (·.2)) tg) (cIfs c (blkPl p sc) ifs) (c.E (blkPl p sc) kx) (c.E (blkPl p sc) vx) ((ownOf C.N sc).map (·.2))
theorem cLc_ok (k : CompOk C c) (h : XOk C p X) (elt tg iter : Expr) (ifs : List Expr) (sc : Scope) (pos : Pos) : JE X (.ListComp elt [⟨tg, iter, ifs, 0⟩] sc pos) (cLc C c p elt tg iter ifs sc) := by
  unfold cLc
  split
  · exact je_stuck
  · rename_i hh
    simp only [Bool.or_eq_true, Bool.not_eq_true', not_or, Bool.not_eq_true, Bool.not_eq_false] at hh
    have bo : BlkOk X.N X.env.scope sc (ownOf C.N sc) := by rw [h.N, h.sc]; exact blkB_ok hh.2
    exact je_lc h.calm h.nd (cI_ok k h tg iter) bo (fun s H a cl fp => k.V _ _ _ _ (xok_blk h sc s H a cl fp)) (fun s H a cl fp => cIfs_ok k (xok_blk h sc s H a cl fp) ifs) (fun s H a cl fp => k.E _ _ _ (xok_blk h sc s H a cl fp)) (fold_no hh.1)
theorem cDc_ok (k : CompOk C c) (h : XOk C p X) (kx vx tg iter : Expr) (ifs : List Expr) (sc : Scope) (pos : Pos) : JE X (.DictComp kx vx [⟨tg, iter, ifs, 0⟩] sc pos) (cDc C c p kx vx tg iter ifs sc) := by
  unfold cDc
  split
  · exact je_stuck
  · rename_i hh
    simp only [Bool.or_eq_true, Bool.not_eq_true', not_or, Bool.not_eq_true, Bool.not_eq_false] at hh
    have bo : BlkOk X.N X.env.scope sc (ownOf C.N sc) := by rw [h.N, h.sc]; exact blkB_ok hh.2
    exact je_dc h.calm h.nd (cI_ok k h tg iter) bo (fun s H a cl fp => k.V _ _ _ _ (xok_blk h sc s H a cl fp)) (fun s H a cl fp => cIfs_ok k (xok_blk h sc s H a cl fp) ifs) (fun s H a cl fp => k.E _ _ _ (xok_blk h sc s H a cl fp)) (fun s H a cl fp => k.E _ _ _ (xok_blk h sc s H a cl fp)) (fold_no hh.1)
end
end J

set_option Elab.async false
set_option linter.all false
set_option maxRecDepth 100000
set_option maxHeartbeats 4000000
/-! J15: calls, statements, the reading of a whole text. -/
namespace J
open PySem PySem.Spec PyProof.Rows L2
set_option autoImplicit false
section
variable {C : Cfg} {c : Comp} {p : Pl} {X : Cx}
/-! ### calls -/
def cBlt (C : Cfg) (c : Comp) (p : Pl) (x : Str) (args : List Expr) : EI := match bltF C.cls x with
  | some g => iCallS g (cA c p args)
  | none => (match bltT x with
    | some g => iCallS g (cA c p args)
    | none => iStuck)
theorem cBlt_ok (k : CompOk C c) (h : XOk C p X) {x : Str} (hg : glob p x = true) (hb : C.bts.contains x = true) (q pos : Pos) (e : Expr) (es : List Expr) (hs : nostar (e :: es) = true) : JE X (.Call (.Name x q) (e :: es) [] pos) (cBlt C c p x (e :: es)) := by
  unfold cBlt
  split
  · rename_i g e1
    obtain ⟨id, b1, b2, b3, b4⟩ := bltF_ok h.calm h.ok.cl e1
    exact je_callB b2 (h.gl hg) (h.ok.bt x hb) b1 (cA_ok k h _) b3 b4 (star_cons (nostar_cons hs).1) (star_any (nostar_cons hs).2)
  · split
    · rename_i g e1
      obtain ⟨id, b1, b2, b3, b4⟩ := bltT_ok h.calm e1
      exact je_callTy b2 (h.gl hg) (h.ok.bt x hb) b1 (cA_ok k h _) b3 b4 (star_cons (nostar_cons hs).1) (star_any (nostar_cons hs).2)
    · exact je_stuck
def isTupE : Expr → Bool
  | .Tuple _ _ _ => true
  | _ => false
def tupEs : Expr → List Expr
  | .Tuple es _ _ => es
  | _ => []
def cCallB (C : Cfg) (c : Comp) (p : Pl) (x : Str) (args : List Expr) : EI := match args with
  | [] => iStuck
  | [e, t] => if x = "isinstance" ∧ isTupE t = true then iIsiT C.cls (c.E p e) (cA c p (tupEs t)) else cBlt C c p x [e, t]
  | e :: es => cBlt C c p x (e :: es)
theorem cCallB_ok (k : CompOk C c) (h : XOk C p X) {x : Str} (hg : glob p x = true) (hb : C.bts.contains x = true) (q pos : Pos) (args : List Expr) (hs : nostar args = true) : JE X (.Call (.Name x q) args [] pos) (cCallB C c p x args) := by
  unfold cCallB
  split
  · exact je_stuck
  · rename_i e t
    split
    · rename_i hh
      obtain ⟨rfl, ht⟩ := hh
      cases t with
      | Tuple es kk tp => exact je_isiT h.ok.cl (h.gl hg) (h.ok.bt _ hb) (k.E p X _ h) (cA_ok k h _) (star_map hs) (star_map (nostar_cons hs).2) (star_any (nostar_cons hs).2)
      | _ => cases ht
    · exact cBlt_ok k h hg hb q pos _ _ hs
  · exact cBlt_ok k h hg hb q pos _ _ hs
def cDef (C : Cfg) (c : Comp) (p : Pl) (x : Str) (d : FnE) (args : List Expr) (kws : List Keyword) : EI := match kws, args with
  | [], [] => iCallC (C.shs.contains x) d.run aNil
  | [], e :: es => iCallC (C.shs.contains x) d.run (cA c p (e :: es))
  | kw :: kws, [] => if (kw :: kws).all (fun k => k.arg.isSome) && d.kwn.contains 0 && decide ((kw :: kws).filterMap (·.arg) = d.ps) then iCallC (C.shs.contains x) d.run (aAppN 0 d.ps.length aNil (cK c p (kw :: kws))) else iStuck
  | kw :: kws, e :: es => if (kw :: kws).all (fun k => k.arg.isSome) && d.kwn.contains (e :: es).length && decide ((kw :: kws).filterMap (·.arg) = d.ps.drop (e :: es).length) then
      iCallC (C.shs.contains x) d.run (aAppN (e :: es).length (d.ps.drop (e :: es).length).length (cA c p (e :: es)) (cK c p (kw :: kws))) else iStuck
theorem cDef_ok (k : CompOk C c) (h : XOk C p X) {x : Str} {d : FnE} (hn : okName x = true) (hg : glob p x = true) (hd : C.fns.lookup x = some d) (hl : d.lvl ≤ C.lvl) (q pos : Pos) (args : List Expr) (kws : List Keyword) (hs : nostar args = true) : JE X (.Call (.Name x q) args kws pos) (cDef C c p x d args kws) := by
  have F := h.ok.fn x d hd
  have r := h.room.mono hl
  obtain ⟨_, n2, _⟩ := okName_of hn
  unfold cDef
  split
  · exact je_callC0 F r (h.gl hg) n2
  · exact je_callC F r (h.gl hg) (cA_ok k h _) n2 (star_cons (nostar_cons hs).1) (star_any (nostar_cons hs).2)
  · split
    · rename_i hh
      rw [Bool.and_eq_true, Bool.and_eq_true] at hh
      exact je_callK0 F r (h.gl hg) (cK_ok k h _) hh.1.1 (List.contains_iff_mem.mp hh.1.2) (of_decide_eq_true hh.2) n2
    · exact je_stuck
  · split
    · rename_i hh
      rw [Bool.and_eq_true, Bool.and_eq_true] at hh
      exact je_callK F r (h.gl hg) (cA_ok k h _) (cK_ok k h _) hh.1.1 (List.contains_iff_mem.mp hh.1.2) (of_decide_eq_true hh.2) n2 (star_cons (nostar_cons hs).1) (star_any hs)
    · exact je_stuck
def cMk (C : Cfg) (c : Comp) (p : Pl) (x : Str) (d : FnE) (args : List Expr) : EI := match args with
  | [] => iStuck
  | e :: es => iMake (C.msh.contains x) x d.run (cA c p (e :: es))
def cCallN (C : Cfg) (c : Comp) (p : Pl) (x : Str) (args : List Expr) (kws : List Keyword) : EI := if okName x && glob p x && nostar args then (match C.fns.lookup x with
  | some d => if d.lvl ≤ C.lvl then cDef C c p x d args kws else iStuck
  | none => (match kws with
    | [] => (match C.mks.lookup x with
      | some d => if d.lvl + 1 ≤ C.lvl then cMk C c p x d args else iStuck
      | none => if C.bts.contains x then cCallB C c p x args else iStuck)
    | _ => iStuck)) else iStuck
theorem cCallN_ok (k : CompOk C c) (h : XOk C p X) (x : Str) (q pos : Pos) (args : List Expr) (kws : List Keyword) : JE X (.Call (.Name x q) args kws pos) (cCallN C c p x args kws) := by
  unfold cCallN
  split
  · rename_i hh
    rw [Bool.and_eq_true, Bool.and_eq_true] at hh
    obtain ⟨⟨hn, hg⟩, hs⟩ := hh
    split
    · rename_i d hd
      split
      · rename_i hl
        exact cDef_ok k h hn hg hd hl q pos args kws hs
      · exact je_stuck
    · split
      · split
        · rename_i d hd
          split
          · rename_i hl
            unfold cMk
            split
            · exact je_stuck
            · exact je_make (h.ok.mkc x d hd) (h.room.mono hl) (h.gl hg) (cA_ok k h _) (okName_of hn).2.1 (star_cons (nostar_cons hs).1) (star_any (nostar_cons hs).2)
          · exact je_stuck
        · split
          · rename_i hb
            exact cCallB_ok k h hg hb q pos args hs
          · exact je_stuck
      · exact je_stuck
  · exact je_stuck
theorem few_ok {es : List Expr} {env : PySem.Env} {pos : Pos} (hs : nostar es = true) (hl : es.length < 29) : ((backTo pos (starEach es env)).all (fun x => !x.1) && (backToKw pos (keywordEach [] env)).all (fun x => x.1.isSome)
      && decide (es.length + ([] : List Keyword).length + (if ([] : List Keyword).isEmpty then 0 else 1) < 30)) = true ∧ methodCallForm (es.length + 0) (backTo pos (starEach es env)) (backToKw pos (keywordEach [] env)) = true := by
  have h1 : (backTo pos (starEach es env)).all (fun x => !x.1) = true := by
    have z := star_any (env := env) (pos := pos) hs
    rw [List.all_eq_true]
    intro x hx
    have q := List.any_eq_false.mp z x hx
    simpa using q
  have h2 : (backToKw pos (keywordEach [] env)) = [] := rfl
  refine ⟨?_, ?_⟩
  · rw [h1, h2]
    simp
    omega
  · unfold methodCallForm
    rw [h1, h2]
    simp
    omega
/-- TABLE.get(a, b) -/
def kdOf (C : Cfg) (p : Pl) (o : Expr) (m : Str) (args : List Expr) : Option (List (Str × PD) × Expr × Expr) := match o, args with
  | .Name x _, [a, b] => if m = "get" ∧ glob p x = true ∧ okName x = true then (match C.kd.lookup x with
    | some tb => some (tb, a, b)
    | none => none) else none
  | _, _ => none
theorem kdOf_ok {C : Cfg} {p : Pl} {o : Expr} {m : Str} {args : List Expr} {tb : List (Str × PD)} {a b : Expr} (h : kdOf C p o m args = some (tb, a, b)) : m = "get" ∧ args = [a, b] ∧ ∃ x q, o = .Name x q ∧ glob p x = true ∧ okName x = true ∧ C.kd.lookup x = some tb := by
  unfold kdOf at h
  split at h
  · split at h
    · rename_i hh
      split at h
      · rename_i e
        cases h
        exact ⟨hh.1, rfl, _, _, rfl, hh.2.1, hh.2.2, e⟩
      · cases h
    · cases h
  · cases h
def cMeth (C : Cfg) (c : Comp) (p : Pl) (o : Expr) (m : Str) (apos pos : Pos) (args : List Expr) : EI := if isCall0 o || !nostar args || !decide (args.length < 29) || !(apos.endLine == pos.line) then iStuck else match kdOf C p o m args with
  | some (tb, a, b) => iKGet tb (c.E p a) (c.E p b)
  | none => match C.mts.lookup m with
  | some q => if q.2.lvl ≤ C.lvl then (match args with
    | [] => iMethC false q.1 m q.2.run (c.E p o) aNil
    | e :: es => iMethC false q.1 m q.2.run (c.E p o) (cA c p (e :: es))) else iStuck
  | none => (match methB m with
    | some (T, _, g) => (match args with
      | [] => iMethT T g (c.E p o) aNil
      | e :: es => iMethT T g (c.E p o) (cA c p (e :: es)))
    | none => iStuck)
theorem cMeth_ok (k : CompOk C c) (h : XOk C p X) (o : Expr) (m : Str) (apos pos : Pos) (args : List Expr) : JE X (.Call (.Attribute o m apos) args [] pos) (cMeth C c p o m apos pos args) := by
  unfold cMeth
  split
  · exact je_stuck
  · rename_i hh
    simp only [Bool.or_eq_true, Bool.not_eq_true', not_or, Bool.not_eq_true, Bool.not_eq_false, decide_eq_false_iff_not, Decidable.not_not] at hh
    obtain ⟨⟨⟨h1, h2⟩, h3⟩, h4⟩ := hh
    have fo := k.E p X o h
    obtain ⟨f1, f2⟩ := few_ok (env := X.env) (pos := pos) h2 h3
    split
    · rename_i tb a b ek
      obtain ⟨rfl, rfl, x, q, rfl, k1, k2, k3⟩ := kdOf_ok ek
      obtain ⟨kd, hm⟩ := h.ok.kd x tb k3
      refine je_kget kd hm (h.gl k1) (okName_of k2).2.1 (k.E p X a h) (k.E p X b h) f1 h4 ?_
      rw [star_map h2]
      rfl
    split
    · rename_i q hq
      split
      · rename_i hl
        have M := h.ok.mt m q hq
        split
        · exact je_meth0 M (h.room.mono hl) fo (base_no h1) h4
        · exact je_meth M (h.room.mono hl) fo (cA_ok k h _) (base_no h1) f2 h4 (star_cons (nostar_cons h2).1) (star_any (nostar_cons h2).2)
      · exact je_stuck
    · split
      · rename_i T id g e1
        obtain ⟨m1, m2, m3, m4⟩ := methB_ok (X := X) h.hu1 e1
        split
        · exact je_bm0 m1 m2 m3 m4 fo (base_no h1) h4
        · exact je_bm m1 m2 m3 m4 fo (cA_ok k h _) (base_no h1) f1 h4 (star_cons (nostar_cons h2).1) (star_any (nostar_cons h2).2)
      · exact je_stuck
/-! ### one step: expressions, tests -/
def stepE (C : Cfg) (c : Comp) (p : Pl) : Expr → EI
  | .Name x _ => cName C p x
  | .Constant k _ _ => (match k with
    | .int i => iP (.int i)
    | .str s => iP (.str s)
    | .bool b => iP (.bl b)
    | .none => iP .non
    | _ => iStuck)
  | .BinOp a op b _ => (match opB op with
    | some g => iBin g (c.E p a) (c.E p b)
    | none => iStuck)
  | .UnaryOp op a _ => (match op with
    | .USub => iUn oNeg (c.E p a)
    | .Not => iNot (c.E p a)
    | _ => iStuck)
  | .BoolOp op es _ => cBool c p op es
  | .IfExp t a b _ => iIf (c.T p t) (c.E p a) (c.E p b)
  | .Compare a ops cs _ => cCmp c p a ops cs
  | .Tuple es _ _ => iTup (cA c p es)
  | .List es _ => iLst (cA c p es)
  | .Subscript a i _ => cSub c p a i
  | .Attribute o f _ => if isCall0 o then iStuck else iFld C.fl f (c.E p o)
  | .ListComp elt gens sc _ => (match gens with
    | [⟨tg, iter, ifs, k⟩] => if k = 0 then cLc C c p elt tg iter ifs sc else iStuck
    | _ => iStuck)
  | .DictComp kx vx gens sc _ => (match gens with
    | [⟨tg, iter, ifs, k⟩] => if k = 0 then cDc C c p kx vx tg iter ifs sc else iStuck
    | _ => iStuck)
  | .Call f args kws pos => (match f with
    | .Name x _ => cCallN C c p x args kws
    | .Attribute o m apos => (match kws with
      | [] => cMeth C c p o m apos pos args
      | _ => iStuck)
    | _ => iStuck)
  | _ => iStuck
theorem stepE_ok (k : CompOk C c) (h : XOk C p X) (e : Expr) : JE X e (stepE C c p e) := by
  cases e with
  | Name x pos => exact cName_ok h x pos
  | Constant v j pos =>
    cases v with
    | int i => exact je_int
    | str s => exact je_str
    | bool b => exact je_bl
    | none => exact je_non
    | _ => exact je_stuck
  | BinOp a op b pos =>
    show JE X (.BinOp a op b pos) (match opB op with
      | some g => iBin g (c.E p a) (c.E p b)
      | none => iStuck)
    split
    · rename_i g e1
      exact je_bin (opB_ok e1) (k.E p X a h) (k.E p X b h)
    · exact je_stuck
  | UnaryOp op a pos =>
    cases op with
    | USub => exact je_un oj_neg (k.E p X a h)
    | Not => exact je_not (k.E p X a h)
    | _ => exact je_stuck
  | BoolOp op es pos => exact cBool_ok k h op pos es
  | IfExp t a b pos => exact je_if (k.T p X t h) (k.E p X a h) (k.E p X b h)
  | Compare a ops cs pos => exact (cCmp_ok k h a ops cs pos).1
  | Tuple es kk pos => exact je_tup (cA_ok k h es)
  | List es pos => exact je_lst (cA_ok k h es)
  | Subscript a i pos => exact cSub_ok k h a i pos
  | Attribute o f pos =>
    show JE X (.Attribute o f pos) (if isCall0 o then iStuck else iFld C.fl f (c.E p o))
    split
    · exact je_stuck
    · rename_i hh
      exact je_fld h.ok.fl (k.E p X o h) (base_no (by simpa using hh))
  | ListComp elt gens sc pos =>
    show JE X (.ListComp elt gens sc pos) (match gens with
      | [⟨tg, iter, ifs, k⟩] => if k = 0 then cLc C c p elt tg iter ifs sc else iStuck
      | _ => iStuck)
    split
    · split
      · rename_i hk
        rw [hk]
        exact cLc_ok k h _ _ _ _ _ _
      · exact je_stuck
    · exact je_stuck
  | DictComp kx vx gens sc pos =>
    show JE X (.DictComp kx vx gens sc pos) (match gens with
      | [⟨tg, iter, ifs, k⟩] => if k = 0 then cDc C c p kx vx tg iter ifs sc else iStuck
      | _ => iStuck)
    split
    · split
      · rename_i hk
        rw [hk]
        exact cDc_ok k h _ _ _ _ _ _ _
      · exact je_stuck
    · exact je_stuck
  | Call f args kws pos =>
    cases f with
    | Name x q => exact cCallN_ok k h x q pos args kws
    | Attribute o m apos =>
      cases kws with
      | nil => exact cMeth_ok k h o m apos pos args
      | cons _ _ => exact je_stuck
    | _ => exact je_stuck
  | _ => exact je_stuck
def stepT (c : Comp) (p : Pl) : Expr → BI
  | .UnaryOp op a q => (match op with
    | .Not => bNot (c.T p a)
    | op => bVal (c.E p (.UnaryOp op a q)))
  | .BoolOp op es _ => if es.isEmpty then bStuck else tBool c p op es
  | .Compare a ops cs _ => bVal (cCmp c p a ops cs)
  | .IfExp _ _ _ _ => bStuck
  | e => bVal (c.E p e)
theorem stepT_ok (k : CompOk C c) (h : XOk C p X) (e : Expr) : JT X e (stepT c p e) := by
  cases e with
  | UnaryOp op a pos =>
    cases op with
    | Not => exact jt_not (k.T p X a h)
    | _ => exact jt_val (k.E p X _ h) (fun _ => rfl)
  | BoolOp op es pos =>
    show JT X (.BoolOp op es pos) (if es.isEmpty then bStuck else tBool c p op es)
    split
    · exact jt_stuck
    · rename_i hh
      exact (tBool_ok k h op pos es (by rintro rfl; exact hh rfl)).jt
  | Compare a ops cs pos => exact (cCmp_ok k h a ops cs pos).2
  | IfExp a b d pos => exact jt_stuck
  | _ => exact jt_val (k.E p X _ h) (fun _ => rfl)
end
end J

set_option Elab.async false
set_option linter.all false
set_option maxRecDepth 100000
set_option maxHeartbeats 4000000
/-! J16: statements; the reading of a def's text. -/
namespace J
open PySem PySem.Spec PyProof.Rows L2
set_option autoImplicit false
section
variable {C : Cfg} {c : Comp} {p : Pl} {X : Cx}
/-! ### how two or three names are stored at once -/
def fnKind (p : Pl) : Bool := (if p.sc.kind.isAnnotationScope then ScopeKind.function else p.sc.kind) == .function
def swapP (p : Pl) (ts vs : List Expr) : Option (Option (List Str)) :=
  if (!(ts.length == 2 || ts.length == 3) || vs.length != ts.length || !fnKind p) = true then some none else if (vs.any isStar) = true then some none else
    if ((ts.filterMap fun | .Name id pos => if p.sc.names.lookup id == some .local && pos.line == (ts.head?.map (·.pos.line)).getD 0 then some id else none | _ => none).length != ts.length
        || (ts.filterMap fun | .Name id pos => if p.sc.names.lookup id == some .local && pos.line == (ts.head?.map (·.pos.line)).getD 0 then some id else none | _ => none).eraseDups.length != (ts.filterMap fun | .Name id pos => if p.sc.names.lookup id == some .local && pos.line == (ts.head?.map (·.pos.line)).getD 0 then some id else none | _ => none).length) = true then some none
    else if (vs.all (foldedForSure 8)) = true then some none else if (vs.all (constantsAlone 8)) = true then none
    else some (some (ts.filterMap fun | .Name id pos => if p.sc.names.lookup id == some .local && pos.line == (ts.head?.map (·.pos.line)).getD 0 then some id else none | _ => none))
theorem swapP_ok (h : XOk C p X) {ts vs : List Expr} {r : Option (List Str)} {k k2 : Nat} {pt pt2 : Pos} (e : swapP p ts vs = some r) : swappedStores [.Tuple ts k pt] (.Tuple vs k2 pt2) X.env = pure r := by
  have hk : X.env.blockKind = (if p.sc.kind.isAnnotationScope then ScopeKind.function else p.sc.kind) := by
    unfold Env.blockKind
    rw [h.sc]
  have hn : ∀ x, X.env.kindOf x = p.sc.names.lookup x := fun x => by
    show X.env.scope.names.lookup x = _
    rw [h.sc]
  have hst : (vs.any fun | .Starred .. => true | _ => false) = vs.any isStar := by
    congr 1
  have hb : (X.env.blockKind != .function) = !fnKind p := by
    unfold fnKind
    rw [hk]
    rfl
  unfold swapP at e
  unfold swappedStores
  simp only [hn, hb, hst]
  split at e
  · rename_i q
    cases e
    rw [if_pos q]
  · rename_i q
    rw [if_neg q]
    split at e
    · rename_i q2
      cases e
      exact if_pos q2
    · rename_i q2
      refine (if_neg q2).trans ?_
      split at e
      · rename_i q3
        cases e
        exact if_pos q3
      · rename_i q3
        refine (if_neg q3).trans ?_
        split at e
        · rename_i q4
          cases e
          exact if_pos q4
        · rename_i q4
          refine (if_neg q4).trans ?_
          split at e
          · cases e
          · rename_i q5
            cases e
            exact if_neg q5
theorem swap_none {t e : Expr} {env : PySem.Env} (h : isTupE e = false) : swappedStores [t] e env = pure none := by
  cases e with
  | Tuple _ _ _ => cases h
  | _ => cases t <;> rfl
/-! ### assignments -/
theorem js_dead {s : Stmt} {f : SI} (hf : ∀ env st, f env st = none) : JS X s f := fun F => ⟨fun pins s σ H W I h => by obtain ⟨_, env, st, _, _, _, _, h, _⟩ := h; rw [hf] at h; cases h⟩
def swapB (p : Pl) (sc : Scope) (y : Str) (l1 l2 : Nat) : Bool := fnKind p && p.sc.names.lookup y == some .local && l1 == l2 && !(sc.names.any fun (n, k) => n == y && (k == .local || k == .cell))
theorem swapB_ok (h : XOk C p X) {elt : Expr} {gens : List Comprehension} {sc : Scope} {cpos py : Pos} {y : Str} {l : Nat} : swapsWith (.ListComp elt gens sc cpos) (some (.Name y py)) l X.env = pure (swapB p sc y py.line cpos.line) := by
  have hk : X.env.blockKind = (if p.sc.kind.isAnnotationScope then ScopeKind.function else p.sc.kind) := by
    unfold Env.blockKind
    rw [h.sc]
  have hn : X.env.kindOf y = p.sc.names.lookup y := by
    show X.env.scope.names.lookup y = _
    rw [h.sc]
  show (pure (X.env.blockKind == .function && X.env.kindOf y == some .local && py.line == cpos.line && !(sc.names.any fun (n, k) => n == y && (k == .local || k == .cell))) : Sem Bool) = _
  rw [hk, hn]
  rfl
theorem swapB_okD (h : XOk C p X) {kx vx : Expr} {gens : List Comprehension} {sc : Scope} {cpos py : Pos} {y : Str} {l : Nat} : swapsWith (.DictComp kx vx gens sc cpos) (some (.Name y py)) l X.env = pure (swapB p sc y py.line cpos.line) := by
  have hk : X.env.blockKind = (if p.sc.kind.isAnnotationScope then ScopeKind.function else p.sc.kind) := by
    unfold Env.blockKind
    rw [h.sc]
  have hn : X.env.kindOf y = p.sc.names.lookup y := by
    show X.env.scope.names.lookup y = _
    rw [h.sc]
  show (pure (X.env.blockKind == .function && X.env.kindOf y == some .local && py.line == cpos.line && !(sc.names.any fun (n, k) => n == y && (k == .local || k == .cell))) : Sem Bool) = _
  rw [hk, hn]
  rfl
theorem sole_no {t e : Expr} {l : Nat} {env : PySem.Env} (h : isComp e = false) : swapsWithSole [t] e l env = pure false := by
  show swapsWith e (some t) l env = pure false
  exact swaps_no h
/-- y = e -/
def cAsgN (C : Cfg) (c : Comp) (p : Pl) (y : Str) (py : Pos) (i : Nat) (e : Expr) : SI := match e with
  | .ListComp elt gens sc cpos => (match gens with
    | [⟨tg, iter, ifs, k⟩] => if k = 0 ∧ isSetE iter = false ∧ blkB C.N p.sc sc = true then (if swapB p sc y py.line cpos.line = true then (if p.sc.names.lookup y = some .local then sAsg (cLc C c p elt tg iter ifs sc) (gName i) else sStuck) else sAsg (cLc C c p elt tg iter ifs sc) (gName i)) else sStuck
    | _ => sStuck)
  | .DictComp kx vx gens sc cpos => (match gens with
    | [⟨tg, iter, ifs, k⟩] => if k = 0 ∧ swapB p sc y py.line cpos.line = false then sAsg (cDc C c p kx vx tg iter ifs sc) (gName i) else sStuck
    | _ => sStuck)
  | .SetComp _ _ _ _ => sStuck
  | e => sAsg (c.E p e) (gName i)
theorem cAsgN_ok (k : CompOk C c) (h : XOk C p X) {y : Str} {i : Nat} (hi : ixOf C.N y = some i) (ht : tgtOk p y = true) (py pos : Pos) (e : Expr) : JS X (.Assign [.Name y py] e pos) (cAsgN C c p y py i e) := by
  obtain ⟨l, f⟩ := tgtOk_of h ht
  have hi2 : X.N[i]? = some y := by rw [h.N]; exact ixOf_ok hi
  have gen : isComp e = false → JS X (.Assign [.Name y py] e pos) (sAsg (c.E p e) (gName i)) := fun hc => js_set h.nd hi2 l (k.E p X e h) (swaps_no hc) f
  cases e with
  | ListComp elt gens sc cpos =>
    clear gen
    show JS X (.Assign [.Name y py] (.ListComp elt gens sc cpos) pos) (match gens with
      | [⟨tg, iter, ifs, k⟩] => if k = 0 ∧ isSetE iter = false ∧ blkB C.N p.sc sc = true then (if swapB p sc y py.line cpos.line = true then (if p.sc.names.lookup y = some .local then sAsg (cLc C c p elt tg iter ifs sc) (gName i) else sStuck) else sAsg (cLc C c p elt tg iter ifs sc) (gName i)) else sStuck
      | _ => sStuck)
    split
    · rename_i tg iter ifs kk
      split
      · rename_i hh
        obtain ⟨rfl, h1, h2⟩ := hh
        have bo : BlkOk X.N X.env.scope sc (ownOf C.N sc) := by rw [h.N, h.sc]; exact blkB_ok h2
        split
        · rename_i hs
          split
          · rename_i hl
            have e0 : cLc C c p elt tg iter ifs sc = iLc (cI C c p tg iter) (c.V (blkPl p sc) ((ownOf C.N sc).map (·.2)) tg) (cIfs c (blkPl p sc) ifs) (c.E (blkPl p sc) elt) ((ownOf C.N sc).map (·.2)) := by
              unfold cLc
              rw [h1, h2]
              rfl
            rw [e0]
            exact js_setLc h.calm h.nd hi2 (by rw [h.sc]; exact hl) (by rw [swapB_ok h, hs]) (cI_ok k h tg iter) bo (fun s H a cl fp => k.V _ _ _ _ (xok_blk h sc s H a cl fp)) (fun s H a cl fp => cIfs_ok k (xok_blk h sc s H a cl fp) ifs) (fun s H a cl fp => k.E _ _ _ (xok_blk h sc s H a cl fp)) (fold_no h1)
          · exact js_stuck
        · rename_i hs
          exact js_set h.nd hi2 l (cLc_ok k h _ _ _ _ _ _) (by rw [swapB_ok h]; simp only [Bool.not_eq_true] at hs; rw [hs]) f
      · exact js_stuck
    · exact js_stuck
  | DictComp kx vx gens sc cpos =>
    clear gen
    show JS X (.Assign [.Name y py] (.DictComp kx vx gens sc cpos) pos) (match gens with
      | [⟨tg, iter, ifs, k⟩] => if k = 0 ∧ swapB p sc y py.line cpos.line = false then sAsg (cDc C c p kx vx tg iter ifs sc) (gName i) else sStuck
      | _ => sStuck)
    split
    · split
      · rename_i hh
        obtain ⟨rfl, h1⟩ := hh
        exact js_set h.nd hi2 l (cDc_ok k h _ _ _ _ _ _ _) (by rw [swapB_okD h, h1]) f
      · exact js_stuck
    · exact js_stuck
  | SetComp _ _ _ _ => exact js_stuck
  | _ => exact gen rfl
/-- the names of a target, one by one -/
def nameOf : Expr → Option Str
  | .Name x _ => some x
  | _ => none
def lc (p : Pl) (x : Str) : Bool := decide (p.sc.names.lookup x = some .local)
def cPar (C : Cfg) (c : Comp) (p : Pl) (xs : List Str) (ts vs : List Expr) : SI := match ts, vs with
  | [.Name x _, .Name y _], [a, b] => (match ixOf C.N x, ixOf C.N y with
    | some i, some j => if xs = [x, y] ∧ i ≠ j ∧ lc p x = true ∧ lc p y = true then sPar i j (cA c p [a, b]) else sStuck
    | _, _ => sStuck)
  | [.Name x _, .Name y _, .Name z _], [a, b, d] => (match ixOf C.N x, ixOf C.N y, ixOf C.N z with
    | some i, some j, some l => if xs = [x, y, z] ∧ i ≠ j ∧ i ≠ l ∧ j ≠ l ∧ lc p x = true ∧ lc p y = true ∧ lc p z = true then sPar3 i j l (cA c p [a, b, d]) else sStuck
    | _, _, _ => sStuck)
  | _, _ => sStuck
def cAsgT (C : Cfg) (c : Comp) (p : Pl) (t : Expr) (ts : List Expr) (e : Expr) : SI := match e with
  | .Tuple vs _ _ => (match swapP p ts vs with
    | some none => sAsg (c.E p e) (c.V p (List.range C.N.length) t)
    | some (some xs) => cPar C c p xs ts vs
    | none => sStuck)
  | e => if isComp e then sStuck else sAsg (c.E p e) (c.V p (List.range C.N.length) t)
theorem lc_of (h : XOk C p X) {x : Str} (e : lc p x = true) : X.env.scope.names.lookup x = some .local := by
  rw [h.sc]
  exact of_decide_eq_true e
theorem cPar_ok (k : CompOk C c) (h : XOk C p X) (xs : List Str) (ts vs : List Expr) (kk k2 : Nat) (pt pt2 pos : Pos) (sw : swappedStores [.Tuple ts kk pt] (.Tuple vs k2 pt2) X.env = pure (some xs)) : JS X (.Assign [.Tuple ts kk pt] (.Tuple vs k2 pt2) pos) (cPar C c p xs ts vs) := by
  unfold cPar
  split
  · split
    · rename_i i j e2 e3
      split
      · rename_i hh
        obtain ⟨rfl, h1, h2, h3⟩ := hh
        exact js_par h.calm h.nd (by rw [h.N]; exact ixOf_ok e2) (by rw [h.N]; exact ixOf_ok e3) h1 (lc_of h h2) (lc_of h h3) (cA_ok k h _) sw rfl
      · exact js_stuck
    · exact js_stuck
  · split
    · rename_i i j l e2 e3 e4
      split
      · rename_i hh
        obtain ⟨rfl, h1, h2, h3, h4, h5, h6⟩ := hh
        exact js_par3 h.calm h.nd (by rw [h.N]; exact ixOf_ok e2) (by rw [h.N]; exact ixOf_ok e3) (by rw [h.N]; exact ixOf_ok e4) h1 h2 h3 (lc_of h h4) (lc_of h h5) (lc_of h h6) (cA_ok k h _) sw rfl
      · exact js_stuck
    · exact js_stuck
  · exact js_stuck
theorem cAsgT_ok (k : CompOk C c) (h : XOk C p X) (ts : List Expr) (kk : Nat) (pt pos : Pos) (e : Expr) : JS X (.Assign [.Tuple ts kk pt] e pos) (cAsgT C c p (.Tuple ts kk pt) ts e) := by
  have gen : ∀ e, isComp e = false → swappedStores [.Tuple ts kk pt] e X.env = pure none → JS X (.Assign [.Tuple ts kk pt] e pos) (sAsg (c.E p e) (c.V p (List.range C.N.length) (.Tuple ts kk pt))) := fun e hc hw =>
    js_asg (k.E p X e h) (k.V p X _ _ h).jg (sole_no hc) hw rfl
  cases e with
  | Tuple vs k2 pt2 =>
    show JS X (.Assign [.Tuple ts kk pt] (.Tuple vs k2 pt2) pos) (match swapP p ts vs with
      | some none => sAsg (c.E p (.Tuple vs k2 pt2)) (c.V p (List.range C.N.length) (.Tuple ts kk pt))
      | some (some xs) => cPar C c p xs ts vs
      | none => sStuck)
    split
    · rename_i e1
      exact gen _ rfl (swapP_ok h e1)
    · rename_i xs e1
      exact cPar_ok k h xs ts vs kk k2 pt pt2 pos (swapP_ok h e1)
    · exact js_stuck
  | ListComp _ _ _ _ => exact js_stuck
  | SetComp _ _ _ _ => exact js_stuck
  | DictComp _ _ _ _ _ => exact js_stuck
  | _ => exact gen _ rfl (swap_none rfl)
def cAsg (C : Cfg) (c : Comp) (p : Pl) (t e : Expr) : SI := match t with
  | .Name y py => (match ixOf C.N y with
    | some i => if tgtOk p y then cAsgN C c p y py i e else sStuck
    | none => sStuck)
  | .Tuple ts kk pt => cAsgT C c p (.Tuple ts kk pt) ts e
  | .Attribute o f _ => if isComp e then sStuck else sFldJ C.fl f (c.E p o) (c.E p e)
  | .Subscript o i _ => if isComp e || isSl i then sStuck else sAsg (c.E p e) (gSubJ (c.E p o) (c.E p i))
  | _ => sStuck
theorem cAsg_ok (k : CompOk C c) (h : XOk C p X) (t e : Expr) (pos : Pos) : JS X (.Assign [t] e pos) (cAsg C c p t e) := by
  cases t with
  | Name y py =>
    show JS X (.Assign [.Name y py] e pos) (match ixOf C.N y with
      | some i => if tgtOk p y then cAsgN C c p y py i e else sStuck
      | none => sStuck)
    split
    · rename_i i e1
      split
      · rename_i ht
        exact cAsgN_ok k h e1 ht py pos e
      · exact js_stuck
    · exact js_stuck
  | Tuple ts kk pt => exact cAsgT_ok k h ts kk pt pos e
  | Attribute o f q =>
    show JS X (.Assign [.Attribute o f q] e pos) (if isComp e then sStuck else sFldJ C.fl f (c.E p o) (c.E p e))
    split
    · exact js_stuck
    · rename_i hc
      exact js_fld h.ok.fl (k.E p X o h) (k.E p X e h) (swaps_no (by simpa using hc))
  | Subscript o i q =>
    show JS X (.Assign [.Subscript o i q] e pos) (if isComp e || isSl i then sStuck else sAsg (c.E p e) (gSubJ (c.E p o) (c.E p i)))
    split
    · exact js_stuck
    · rename_i hc
      simp only [Bool.or_eq_true, not_or, Bool.not_eq_true] at hc
      have sw : swappedStores [.Subscript o i q] e X.env = pure none := by cases e <;> rfl
      refine js_asg (k.E p X e h) (jg_sub h.hu1 (k.E p X o h) (k.E p X i h) (fun v => ?_)) (sole_no hc.1) sw rfl
      cases i <;> first | rfl | exact absurd hc.2 (by simp [isSl])
  | _ => exact js_stuck
/-! ### statements -/
def cSs (c : Comp) (p : Pl) : List Stmt → SI
  | [] => sNil
  | s :: ss => sSeq (c.S p s) (cSs c p ss)
theorem cSs_ok (k : CompOk C c) (h : XOk C p X) : ∀ ss, JSs X ss (cSs c p ss)
  | [] => jss_nil
  | s :: ss => jss_cons (k.S p X s h) (cSs_ok k h ss)
def cAug (C : Cfg) (c : Comp) (p : Pl) (t : Expr) (op : Operator) (e : Expr) : SI := match t with
  | .Name x _ => (match ixOf C.N x, opI op with
    | some i, some g => if tgtOk p x then sAug i g (c.E p e) else sStuck
    | _, _ => sStuck)
  | .Attribute o f _ => (match opI op with
    | some g => sFldAugJ C.fl f g (c.E p o) (c.E p e)
    | none => sStuck)
  | _ => sStuck
theorem cAug_ok (k : CompOk C c) (h : XOk C p X) (t : Expr) (op : Operator) (e : Expr) (pos : Pos) : JS X (.AugAssign t op e pos) (cAug C c p t op e) := by
  cases t with
  | Name x q =>
    show JS X (.AugAssign (.Name x q) op e pos) (match ixOf C.N x, opI op with
      | some i, some g => if tgtOk p x then sAug i g (c.E p e) else sStuck
      | _, _ => sStuck)
    split
    · rename_i i g e1 e2
      split
      · rename_i ht
        obtain ⟨l, f⟩ := tgtOk_of h ht
        exact js_aug h.nd (by rw [h.N]; exact ixOf_ok e1) l (k.E p X e h) (opI_ok e2) f
      · exact js_stuck
    · exact js_stuck
  | Attribute o f q =>
    show JS X (.AugAssign (.Attribute o f q) op e pos) (match opI op with
      | some g => sFldAugJ C.fl f g (c.E p o) (c.E p e)
      | none => sStuck)
    split
    · rename_i g e1
      exact js_fldAug h.ok.fl (k.E p X o h) (k.E p X e h) (opI_ok e1)
    · exact js_stuck
  | _ => exact js_stuck
def stepS (C : Cfg) (c : Comp) (p : Pl) : Stmt → SI
  | .Expr e _ => if isComp e then sStuck else sExpr (c.E p e)
  | .Return v _ => (match v with
    | some e => sRet (c.E p e)
    | none => sRetN)
  | .If t a b _ => sIf (c.T p t) (cSs c p a) (cSs c p b)
  | .Pass _ => sNil
  | .Break _ => sBreak
  | .Continue _ => sCont
  | .Assign ts e _ => (match ts with
    | [t] => cAsg C c p t e
    | _ => sStuck)
  | .AugAssign t op e _ => cAug C c p t op e
  | .For tg it body els _ => (match els with
    | [] => if isSetE it then sStuck else sFor (cI C c p tg it) (c.V p (List.range C.N.length) tg) (cSs c p body)
    | _ => sStuck)
  | .While t body els _ => (match els with
    | [] => sWhile (c.T p t) (cSs c p body)
    | _ => sStuck)
  | _ => sStuck
theorem stepS_ok (k : CompOk C c) (h : XOk C p X) (s : Stmt) : JS X s (stepS C c p s) := by
  cases s with
  | Expr e pos =>
    show JS X (.Expr e pos) (if isComp e then sStuck else sExpr (c.E p e))
    split
    · exact js_stuck
    · rename_i hc
      exact js_expr (k.E p X e h) (swaps_no (by simpa using hc))
  | Return v pos =>
    cases v with
    | some e => exact js_ret (k.E p X e h)
    | none => exact js_retN
  | If t a b pos => exact js_if (k.T p X t h) (cSs_ok k h a) (cSs_ok k h b)
  | Pass pos => exact js_pass
  | Break pos => exact js_break
  | Continue pos => exact js_cont
  | Assign ts e pos =>
    show JS X (.Assign ts e pos) (match ts with
      | [t] => cAsg C c p t e
      | _ => sStuck)
    split
    · exact cAsg_ok k h _ _ _
    · exact js_stuck
  | AugAssign t op e pos => exact cAug_ok k h t op e pos
  | For tg it body els pos =>
    show JS X (.For tg it body els pos) (match els with
      | [] => if isSetE it then sStuck else sFor (cI C c p tg it) (c.V p (List.range C.N.length) tg) (cSs c p body)
      | _ => sStuck)
    split
    · split
      · exact js_stuck
      · rename_i hc
        exact js_for h.pass h.calm (cI_ok k h tg it) (k.V p X _ _ h).jg (cSs_ok k h body) (fold_no (by simpa using hc))
    · exact js_stuck
  | While t body els pos =>
    show JS X (.While t body els pos) (match els with
      | [] => sWhile (c.T p t) (cSs c p body)
      | _ => sStuck)
    split
    · exact js_while h.pass (k.T p X t h) (cSs_ok k h body)
    · exact js_stuck
  | _ => exact js_stuck
end
/-! ### the whole -/
def comp (C : Cfg) : Nat → Comp
  | 0 => ⟨fun _ _ => iStuck, fun _ _ => bStuck, fun _ _ => sStuck, fun _ _ _ => gStuck⟩
  | n + 1 => ⟨stepE C (comp C n), stepT (comp C n), stepS C (comp C n), stepV C (comp C n)⟩
theorem comp_ok (C : Cfg) : ∀ n, CompOk C (comp C n)
  | 0 => ⟨fun _ _ _ _ => je_stuck, fun _ _ _ _ => jt_stuck, fun _ _ _ _ => js_stuck, fun _ _ _ _ _ => jgv_stuck⟩
  | n + 1 => ⟨fun p X e h => stepE_ok (comp_ok C n) h e, fun p X e h => stepT_ok (comp_ok C n) h e, fun p X s h => stepS_ok (comp_ok C n) h s, fun p X vs t h => stepV_ok (comp_ok C n) h vs t⟩
def fnScB (N ps : List Str) (sc : Scope) : Bool := decide (sc.kind = .function) && !sc.isCoroutine && !sc.isGenerator && decide N.Nodup && decide (N.take ps.length = ps) && (ps.all fun x => decide (sc.names.lookup x = some .local ∨ sc.names.lookup x = some .cell)) && sc.names.all fun y => decide (y.2 ≠ .free)
theorem fnScB_ok {N ps : List Str} {sc : Scope} (h : fnScB N ps sc = true) : FnScope N ps sc := by
  unfold fnScB at h
  simp only [Bool.and_eq_true, decide_eq_true_eq, Bool.not_eq_true', List.all_eq_true] at h
  obtain ⟨⟨⟨⟨⟨⟨h1, h2⟩, h3⟩, h4⟩, h5⟩, h6⟩, h7⟩ := h
  exact ⟨h1, h2, h3, h4, h5, fun x hx => h6 x hx, fun y hy => h7 y hy⟩
/-- what a def's text does -/
def bodyC (C : Cfg) (n : Nat) (sc : Scope) (body : List Stmt) : SI := cSs (comp C n) ⟨sc, fun _ => true⟩ body
section
variable {P : Program} {w : World} {K : PySem.W.Frag} {mg : Str → Option Value} {base : Heap} {C : Cfg} {x qual : Str} {params : Arguments} {body : List Stmt} {scope : Scope} {f : Addr} {fd : FuncData} {ps : List Str}
theorem fact_of (F : FunD K x qual params body scope [] [] f fd) (hs : fnScB C.N ps scope = true) (ok : CfgOk P w K mg base C) (n : Nat) (kwn : List Nat) {run : SI} (hr : bodyC C n scope body = run)
    (hb : ∀ (kV doc pm : Value) (an : Option Addr) (cdv ct : Value) (us : List Value), us.length = ps.length → bindArgs (PySem.W.fnOf x qual params body scope .none kV doc pm an cdv ct) ⟨us, []⟩ = pure (ps.zip us))
    (hk : ∀ m ∈ kwn, ∀ (kV doc pm : Value) (an : Option Addr) (cdv ct : Value) (us ws : List Value), us.length = m → ws.length = (ps.drop m).length → bindArgs (PySem.W.fnOf x qual params body scope .none kV doc pm an cdv ct) ⟨us, (ps.drop m).zip ws⟩ = pure (ps.zip (us ++ ws))) :
    FnFact P w K mg base f ⟨ps, C.lvl + 1, kwn, runFn ps.length C.N.length run⟩ := by
  subst hr
  refine ⟨⟨fd, ?_, F.bindsN hb, fun m hm => ⟨fun s us ws X l1 l2 => ?_, fun r1 r2 => r1.append r2⟩⟩, fun ds st r e => ?_⟩
  · refine def_ok F (fnScB_ok hs) fun cdv A outer s H E room => ?_
    refine cSs_ok (comp_ok C n) ⟨ok, rfl, rfl, rfl, rfl, room, rfl⟩ body
  · obtain ⟨oc, od, dV, kV, doc, pm, an, cdv, ct, osl, rfl, lk, hcd, hD, hK⟩ := F.ex
    rcases hD with ⟨_, rfl⟩ | ⟨e, _⟩
    · exact .of_eq (hk m hm kV doc pm an cdv ct us ws l1 l2)
    · exact absurd rfl e
  · have e : runFn ps.length C.N.length (bodyC C n scope body) ds st = some r := e
    unfold runFn at e
    split at e
    · rename_i hl; exact hl
    · cases e
end
end J

set_option Elab.async false
set_option linter.all false
set_option maxRecDepth 100000
set_option maxHeartbeats 4000000
/-! JH: what the head of a law is asked, and what the reading needs of it. -/
namespace J
open PySem PySem.Spec PyProof.Rows L2
set_option autoImplicit false
theorem clsB_ok {K : PySem.W.Frag} {cs : List Str} (h : clsB K cs = true) : ClsOk K cs := by
  have at_ : ∀ C ∈ cs, _ := fun C hC => List.all_eq_true.mp h C hC
  refine ⟨fun C hC => ?_, fun C hC E hE => ?_, fun C hC T hT => ?_, fun C hC T hT => ?_⟩
  · obtain ⟨h1, h2⟩ := He.ba (at_ C hC)
    obtain ⟨h2, _⟩ := He.ba h2
    obtain ⟨i1, i2⟩ := He.ba h2
    obtain ⟨i2, i3⟩ := He.ba i2
    obtain ⟨i3, i4⟩ := He.ba i3
    exact ⟨He.cls_ok h1, of_decide_eq_true i1, of_decide_eq_true i2, of_decide_eq_true i3, of_decide_eq_true i4⟩
  · obtain ⟨_, h2⟩ := He.ba (at_ C hC)
    obtain ⟨_, h3⟩ := He.ba h2
    obtain ⟨h3, _⟩ := He.ba h3
    exact of_decide_eq_true (List.all_eq_true.mp h3 E hE)
  · obtain ⟨_, h2⟩ := He.ba (at_ C hC)
    obtain ⟨_, h3⟩ := He.ba h2
    obtain ⟨_, h4⟩ := He.ba h3
    obtain ⟨h4, _⟩ := He.ba h4
    exact of_decide_eq_true (List.all_eq_true.mp h4 T hT)
  · obtain ⟨_, h2⟩ := He.ba (at_ C hC)
    obtain ⟨_, h3⟩ := He.ba h2
    obtain ⟨_, h4⟩ := He.ba h3
    obtain ⟨_, h5⟩ := He.ba h4
    exact of_decide_eq_true (List.all_eq_true.mp h5 T hT)
theorem flB_ok {K : PySem.W.Frag} {fl : Fls} (h : flB K fl = true) : FlsOk K fl := by
  refine ⟨fun C f hf => ?_⟩
  unfold hasFld at hf
  split at hf
  · rename_i fs e
    have mem : (C, fs) ∈ fl := PySem.mem_of_lookup e
    obtain ⟨h1, h2⟩ := He.ba (List.all_eq_true.mp h _ mem)
    exact ⟨He.cls_ok h1, He.noat_ok (List.all_eq_true.mp h2 f (mem_of_contains hf))⟩
  · cases hf
theorem gloB_ok {K : PySem.W.Frag} {h : Heap} {mg : Str → Option Value} (X : K.In h) (G : h.Ns mainGlobals mg) {q : Str × PD} (c : gloB K q = true) : ∃ (v : V) (u : Value), mg q.1 = some u ∧ RelV v u ∧ ∀ B H, RepP K B H v q.2 := by
  obtain ⟨x, d⟩ := q
  unfold gloB at c
  dsimp only at c ⊢
  split at c
  · rename_i i
    obtain ⟨t, e⟩ := He.int_ok X G c
    exact ⟨.int i, _, e, ⟨t, rfl⟩, fun B H => .int i⟩
  · rename_i z
    obtain ⟨t, e⟩ := He.str_ok X G c
    exact ⟨.str z, _, e, ⟨t, rfl⟩, fun B H => .str z⟩
  · rename_i y
    obtain ⟨c1, c2⟩ := He.ba c
    obtain rfl := of_decide_eq_true c1
    exact ⟨.ref _, _, He.glo_ok X G c2, rfl, fun B H => .glo _⟩
  · cases c
section
variable {a : Ask} {w : World} {K : PySem.W.Frag} {h : Heap} {mg : Str → Option Value}
structure Told (a : Ask) (w : World) (K : PySem.W.Frag) (mg : Str → Option Value) : Prop where
  fa : ∀ f ∈ a.fa, f.ok K = true
  def_ : ∀ d ∈ a.fn, ∃ fd, FunD K d.name d.qual d.params d.body d.scope (d.dvs K) (d.kws K) (He.fAd K d.at_) fd
  bt : ∀ x, a.bts.contains x = true → mg x = none
  gl : ∀ x d, a.gls.lookup x = some d → ∃ (v : V) (u : Value), mg x = some u ∧ RelV v u ∧ ∀ B H, RepP K B H v d
  cl : ClsOk K a.cls
  fl : FlsOk K a.fl
  kd : ∀ x tb, a.kds.lookup x = some tb → KdOk K w (He.ga K x) tb ∧ mg x = some (.ref (He.ga K x))
theorem told_of (X : K.In h) (G : h.Ns mainGlobals mg) (c : obsJ a K = valJ a w) : Told a w K mg := by
  have c1 : askB a K = true := congrArg (fun z : AlJ => z.1) c
  have c2 : a.fn.map (fun d => He.fnW K d.at_) = a.fn.map He.DefD.val := congrArg (fun z : AlJ => z.2.1) c
  have c3 : (a.kds.map fun t => He.dicW K (He.ga K t.1)) = a.kds.map fun t => some (He.keysIn w.params (t.2.map (·.1))) := congrArg (fun z : AlJ => z.2.2) c
  obtain ⟨f1, c1⟩ := He.ba c1
  obtain ⟨f2, c1⟩ := He.ba c1
  obtain ⟨f3, c1⟩ := He.ba c1
  obtain ⟨f4, c1⟩ := He.ba c1
  obtain ⟨f5, c1⟩ := He.ba c1
  obtain ⟨f6, f7⟩ := He.ba c1
  refine ⟨fun f hf => List.all_eq_true.mp f1 f hf, fun d hd => ?_, fun x hx => He.free_ok X G (List.all_eq_true.mp f3 x (mem_of_contains hx)), fun x d e => ?_, clsB_ok f5, flB_ok f6, fun x tb e => ?_⟩
  · exact He.DefD.funD (List.map_inj_left.mp c2 d hd) (List.all_eq_true.mp f2 d hd)
  · exact gloB_ok X G (List.all_eq_true.mp f4 (x, d) (PySem.mem_of_lookup e))
  · have mem : (x, tb) ∈ a.kds := PySem.mem_of_lookup e
    obtain ⟨g1, g2⟩ := He.ba (List.all_eq_true.mp f7 _ mem)
    exact ⟨kd_of (List.map_inj_left.mp c3 _ mem) g2, He.glo_ok X G g1⟩
end
/-! ### the reading's module facts, step by step -/
section
variable {P : Program} {w : World} {K : PySem.W.Frag} {mg : Str → Option Value} {base : Heap}
def AllF (P : Program) (w : World) (K : PySem.W.Frag) (mg : Str → Option Value) (base : Heap) (l : List (Str × FnE)) : Prop := ∀ x d, l.lookup x = some d → DefF P w K mg base x d
def AllM (P : Program) (w : World) (K : PySem.W.Frag) (mg : Str → Option Value) (base : Heap) (l : List (Str × FnE)) : Prop := ∀ x d, l.lookup x = some d → MakeF P w K mg base x d
def AllT (P : Program) (w : World) (K : PySem.W.Frag) (mg : Str → Option Value) (base : Heap) (l : List (Str × Str × FnE)) : Prop := ∀ m q, l.lookup m = some q → MethF P w K mg base q.1 m q.2
theorem AllF.cons {x : Str} {d : FnE} {l : List (Str × FnE)} (h : DefF P w K mg base x d) (t : AllF P w K mg base l) : AllF P w K mg base ((x, d) :: l) := fun y e hy => by
  rw [List.lookup_cons] at hy
  split at hy
  · rename_i q
    cases hy
    rw [beq_iff_eq.mp q]
    exact h
  · exact t y e hy
theorem AllM.cons {x : Str} {d : FnE} {l : List (Str × FnE)} (h : MakeF P w K mg base x d) (t : AllM P w K mg base l) : AllM P w K mg base ((x, d) :: l) := fun y e hy => by
  rw [List.lookup_cons] at hy
  split at hy
  · rename_i q
    cases hy
    rw [beq_iff_eq.mp q]
    exact h
  · exact t y e hy
theorem AllT.cons {m : Str} {q : Str × FnE} {l : List (Str × Str × FnE)} (h : MethF P w K mg base q.1 m q.2) (t : AllT P w K mg base l) : AllT P w K mg base ((m, q) :: l) := fun y e hy => by
  rw [List.lookup_cons] at hy
  split at hy
  · rename_i z
    cases hy
    rw [beq_iff_eq.mp z]
    exact h
  · exact t y e hy
theorem cfg_ok {a : Ask} {C : Cfg} (T : Told a w K mg) (nd : C.N.Nodup) (f : AllF P w K mg base C.fns) (m : AllM P w K mg base C.mks) (t : AllT P w K mg base C.mts) (e1 : C.gls = a.gls) (e2 : C.bts = a.bts) (e3 : C.cls = a.cls) (e4 : C.fl = a.fl) (e5 : C.kd = a.kds) : CfgOk P w K mg base C where
  nd := nd
  fn := f
  gl := by rw [e1]; exact T.gl
  bt := by rw [e2]; exact T.bt
  cl := by rw [e3]; exact T.cl
  fl := by rw [e4]; exact T.fl
  mkc := m
  mt := t
  kd := by rw [e5]; exact T.kd
end
end J

set_option Elab.async false
set_option linter.all false
set_option maxRecDepth 100000
set_option maxHeartbeats 4000000
/-! JK: from what the head tells to the facts of each def. -/
namespace J
open PySem PySem.Spec PyProof.Rows L2
set_option autoImplicit false
section
variable {P : Program} {w : World} {K : PySem.W.Frag} {mg : Str → Option Value} {base h : Heap} {a : Ask}
theorem lawOk {C : Cfg} {x qual : Str} {params : Arguments} {body : List Stmt} {scope : Scope} {f : Addr} {fd : FuncData} {ps : List Str} (F : FunD K x qual params body scope [] [] f fd) (hs : fnScB C.N ps scope = true) (ok : CfgOk P w K mg base C) (n : Nat) {run : SI} (hr : bodyC C n scope body = run) :
    FnOk P w K mg base CX0 (C.lvl + 1) f fd ps (spS K ps.length (runFn ps.length C.N.length run)) := by
  subst hr
  exact def_ok F (fnScB_ok hs) fun cdv A outer s H E room => cSs_ok (comp_ok C n) ⟨ok, rfl, rfl, rfl, rfl, room, rfl⟩ body
structure Told2 (a : Ask) (w : World) (K : PySem.W.Frag) (mg : Str → Option Value) : Prop where
  t : Told a w K mg
  glo : ∀ x, He.Fa.glo x ∈ a.fa → mg x = some (.ref (He.ga K x))
theorem told2_of (X : K.In h) (G : h.Ns mainGlobals mg) (c : obsJ a K = valJ a w) : Told2 a w K mg :=
  have T := told_of X G c
  ⟨T, fun x hx => He.glo_ok X G (T.fa _ hx)⟩
theorem at_mem {α : Type} {l : List α} (i : Nat) {x : α} (h : l[i]? = some x) : x ∈ l := List.mem_of_getElem? h
theorem Told2.defF (T : Told2 a w K mg) {d : He.DefD} {x : Str} {e : FnE} (i j : Nat) (hi : a.fn[i]? = some d) (hj : a.fa[j]? = some (.glo x)) (hd : d.at_ = (x, none)) (f : FnFact P w K mg base (He.fAd K d.at_) e) : DefF P w K mg base x e := by
  obtain ⟨fd, F⟩ := T.t.def_ d (at_mem i hi)
  rw [hd] at f F
  exact ⟨_, f, T.glo x (at_mem j hj), F.kp⟩
theorem Told2.makeF (T : Told2 a w K mg) {d : He.DefD} {C : Str} {e : FnE} (i j : Nat) (hi : a.fa[i]? = some (.mkr C)) (hj : a.fa[j]? = some (.glo C)) (hd : d.at_ = (C, some ("__init__" : Str))) (f : FnFact P w K mg base (He.fAd K d.at_) e) : MakeF P w K mg base C e := by
  rw [hd] at f
  exact ⟨_, f, He.mkr_ok (T.t.fa _ (at_mem i hi)), T.glo C (at_mem j hj)⟩
theorem Told2.methF (T : Told2 a w K mg) {d : He.DefD} {C m : Str} {e : FnE} (i j : Nat) (hi : a.fa[i]? = some (.meth C m)) (hj : a.fa[j]? = some (.cls C)) (hd : d.at_ = (C, some m)) (f : FnFact P w K mg base (He.fAd K d.at_) e) : MethF P w K mg base C m e := by
  rw [hd] at f
  exact ⟨_, f, He.meth_ok (T.t.fa _ (at_mem i hi)), He.cls_ok (T.t.fa _ (at_mem j hj))⟩
/-- the law's promise, once its run says yes -/
theorem law_sp {run : Run} {H : Hp} {b : Addr} {ns : List Int} {st' : Store} (hO : Only H) (hS : SqL K H b (ns.map V.int)) (hr : run [.p (.frz (ns.map PD.int))] [] = some (.p (.bl true), st')) : spS K 1 run [.ref b] H (fun v _ => v = .bl true) fun _ _ _ => False := by
  have ha : ∀ (l : List Int), RepPs K (Bad (fun _ => False) []) H (l.map V.int) (l.map PD.int) := fun l => by
    induction l with
    | nil => exact .nil
    | cons i l ih => exact .cons (.int i) ih
  have S0 : Sim K (fun _ => False) [] [] H := ⟨rfl, .nil, fun i c a h _ => by simp at h, fun a h => (nomatch h), fun a h => (nomatch h)⟩
  have q : (∃ o, H b = some (.frz o (.lst (ns.map V.int)))) ∨ ∃ (o : Obj) (its : Array Value) (n : Nat), K.lookup b = some o ∧ o.cls = .type "list" ∧ o.dict = none ∧ o.data = .seq its n ∧ its.size ≤ sizeLine ∧ Vals (ns.map V.int) its.toList := by
    rcases hS with (h | ⟨o, h⟩) | h
    · rcases hO b with e | ⟨o, xs, e⟩
      · rw [e] at h; cases h
      · rw [e] at h; cases h
    · exact .inl ⟨o, h⟩
    · exact .inr h
  refine ⟨rfl, fun _ => False, [], [], _, _, st', S0, .cons (.p (.frz q (ha ns))) .nil, hr, fun new H' v ex S' r => ?_⟩
  cases r with
  | p r => cases r; rfl
end
end J

set_option Elab.async false
set_option linter.all false
set_option maxRecDepth 100000
set_option maxHeartbeats 4000000
/-! LD: loops and comprehensions in plain Lean. -/
namespace J
open PySem PySem.Spec
set_option autoImplicit false
/-- a comprehension whose test and element change nothing -/
theorem lcI_pure {k n : Nat} {t : BI} {e : EI} {env : Env} {w : Wk} (b : D → Bool) (f : D → D) (ds : List D) (ok : Store → Prop)
    (hw : ∀ st, ok st → ∀ j, stepW w j st = some ds[j]?) (hk : ∀ st acc, ok st → ok (st.set n (.lst acc)))
    (ht : ∀ d ∈ ds, ∀ st, t (env.set k (some d)) st = some (b d, st)) (he : ∀ d ∈ ds, ∀ st, e (env.set k (some d)) st = some (f d, st)) (hn : env.set k none = env) :
    ∀ (m j : Nat) (st : Store) (acc : List D), ok st → st[n]? = some (.lst acc) → acc.length + ds.length ≤ 16777216 + j → ds.length < m + j → j ≤ ds.length →
      lcI (gName k) t e w n m j env st = some (st.set n (.lst (acc ++ ((ds.drop j).filter b).map f)))
  | 0, j, st, acc, _, _, _, hm, hj => by omega
  | m + 1, j, st, acc, hok, hst, hl, hm, hj => by
    unfold lcI
    rw [hw st hok j]
    by_cases hlt : j < ds.length
    · have hd : ds[j]? = some ds[j] := List.getElem?_eq_getElem hlt
      have mem : ds[j] ∈ ds := List.getElem_mem hlt
      rw [hd]
      dsimp only
      rw [show gName k ds[j] env st = some (env.set k (some ds[j]), st) from rfl]
      dsimp only
      rw [ht _ mem]
      have dr : ds.drop j = ds[j] :: ds.drop (j + 1) := List.drop_eq_getElem_cons hlt
      cases hb : b ds[j] with
      | true =>
        dsimp only
        rw [he _ mem]
        dsimp only
        have hadd : addTo n (f ds[j]) st = some (st.set n (.lst (acc ++ [f ds[j]]))) := by
          unfold addTo
          rw [hst]
          dsimp only
          rw [if_pos (by omega)]
        rw [hadd]
        dsimp only
        have hnl : n < st.length := (List.getElem?_eq_some_iff.mp hst).1
        rw [lcI_pure b f ds ok hw hk ht he hn m (j + 1) _ (acc ++ [f ds[j]]) (hk _ _ hok) (by rw [List.getElem?_set_self hnl]) (by rw [List.length_append, List.length_singleton]; omega) (by omega) hlt]
        rw [List.set_set, dr, List.filter_cons_of_pos hb, List.map_cons, List.append_assoc]
        rfl
      | false =>
        dsimp only
        rw [lcI_pure b f ds ok hw hk ht he hn m (j + 1) _ acc hok hst (by omega) (by omega) hlt]
        rw [dr, List.filter_cons_of_neg (by rw [hb]; exact Bool.false_ne_true)]
    · have hd : ds[j]? = none := List.getElem?_eq_none (by omega)
      rw [hd]
      dsimp only
      have e1 : ds.drop j = [] := List.drop_eq_nil_of_le (by omega)
      rw [e1]
      have hnl : n < st.length := (List.getElem?_eq_some_iff.mp hst).1
      have e2 : st.set n (.lst (acc ++ ([].filter b).map f)) = st := by
        have := (List.getElem?_eq_some_iff.mp hst).2
        rw [List.filter_nil, List.map_nil, List.append_nil, ← this, List.set_getElem_self]
      rw [e2]
/-- a loop that keeps a promise -/
theorem forI_inv {body : D → SI} {w : Wk} (ds : List D) (P : Nat → Env → Store → Prop) (hw : ∀ j env st, P j env st → stepW w j st = some ds[j]?)
    (hb : ∀ j d env st, ds[j]? = some d → P j env st → ∃ env' st', body d env st = some (.nx env', st') ∧ P (j + 1) env' st') :
    ∀ (m j : Nat) (env : Env) (st : Store), P j env st → ds.length < m + j → j ≤ ds.length → ∃ env' st', forI body w m j env st = some (.nx env', st') ∧ P ds.length env' st'
  | 0, j, env, st, _, hm, hj => by omega
  | m + 1, j, env, st, hp, hm, hj => by
    unfold forI
    rw [hw j env st hp]
    by_cases hlt : j < ds.length
    · have hd : ds[j]? = some ds[j] := List.getElem?_eq_getElem hlt
      rw [hd]
      obtain ⟨env', st', e1, p'⟩ := hb j _ env st hd hp
      obtain ⟨env2, st2, e2, p2⟩ := forI_inv ds P hw hb m (j + 1) env' st' p' (by omega) hlt
      refine ⟨env2, st2, ?_, p2⟩
      dsimp only
      rw [e1]
      exact e2
    · have hd : ds[j]? = none := List.getElem?_eq_none (by omega)
      rw [hd]
      have : j = ds.length := by omega
      subst this
      exact ⟨env, st, rfl, hp⟩
end J

set_option Elab.async false
set_option linter.all false
set_option maxRecDepth 100000
set_option maxHeartbeats 0
namespace J
open PySem PySem.Spec PyProof.Rows L2
set_option autoImplicit false
def r__law_deal : SI := (sSeq (sAsg (iBin oMulT (iBin oMulT (iBin oMulT (iBin oMulT (iBin oMulT (iBin oPow (iP (.int 10)) (iP (.int 64))) (iBin oPow (iP (.int 10)) (iP (.int 64)))) (iBin oPow (iP (.int 10)) (iP (.int 64)))) (iBin oPow (iP (.int 10)) (iP (.int 64)))) (iBin oPow (iP (.int 10)) (iP (.int 64)))) (iBin oPow (iP (.int 10)) (iP (.int 64)))) (gName 2))
  (sSeq (sPar 4 5 (aCons (iLc (wAny (iCut (iVar 0) pNone (pSome (iP (.int 63))))) (gName 3) bYes (iBin oMod (iCallS cInt (aCons (iCallS cAbs (aCons (iCallS cInt (aCons (iVar 3) aNil)) aNil)) aNil)) (iVar 2)) [3]) (aCons (iBin oAdd (iP (.int 70001)) (iBin oMulT (iP (.int 7919)) (iVar 1))) aNil)))
  (sSeq (sFor (wAny (iVar 4)) (gName 3) (sSeq (sAsg (iBin oMod (iCallS cInt (aCons (iBin oAdd (iBin oAdd (iBin oMulT (iVar 5) (iP (.int 69621))) (iBin oMod (iCallS cInt (aCons (iVar 3) aNil)) (iP (.int 2147483563)))) (iP (.int 23))) aNil)) (iP (.int 2147483647))) (gName 5))
  sNil))
  (sSeq (sRet (iLst (aCons (iRev (iLc (wAny (iVar 4)) (gName 3) (bVal (iBin (oInt fun i j => decide (j ≤ i)) (iVar 3) (iBin oPow (iP (.int 10)) (iP (.int 18))))) (iVar 3) [3])) (aCons (iVar 5) aNil))))
  sNil))))
def e__law_deal : FnE := ⟨["script", "salt"], 1, [], runFn 2 6 r__law_deal⟩
def r_run_end : SI := (sSeq (sWhile (bAnd (bVal (iBin oLt (iVar 1) (iCallS cLen (aCons (iVar 0) aNil)))) (bVal (iBin (oIn false) (iBin oIxA (iVar 0) (iVar 1)) (iVar 2)))) (sSeq (sAug 1 oAddI (iP (.int 1)))
  sNil))
  (sSeq (sRet (iVar 1))
  sNil))
def e_run_end : FnE := ⟨["line", "at", "signs"], 1, [], runFn 3 3 r_run_end⟩
def r_sign_end : SI := (sSeq (sIf (bVal (iBin (oIn false) (iBin oIxA (iVar 0) (iVar 1)) (iP (.str "abcdefghijklmnopqrstuvwxyz")))) (sSeq (sRet (iCallC false e_run_end.run (aCons (iVar 0) (aCons (iVar 1) (aCons (iP (.str "abcdefghijklmnopqrstuvwxyz")) aNil)))))
  sNil) sNil)
  (sSeq (sIf (bVal (iBin (oIn false) (iBin oIxA (iVar 0) (iVar 1)) (iP (.str "0123456789")))) (sSeq (sRet (iCallC false e_run_end.run (aCons (iVar 0) (aCons (iVar 1) (aCons (iP (.str "0123456789")) aNil)))))
  sNil) sNil)
  (sSeq (sRet (iBin oAdd (iVar 1) (iP (.int 1))))
  sNil)))
def e_sign_end : FnE := ⟨["line", "at"], 2, [], runFn 2 2 r_sign_end⟩
def r_signs_of : SI := (sSeq (sAsg (iLst aNil) (gName 1))
  (sSeq (sAsg (iP (.int 0)) (gName 2))
  (sSeq (sWhile (bVal (iBin oLt (iVar 2) (iCallS cLen (aCons (iVar 0) aNil)))) (sSeq (sIf (bVal (iBin oEq (iBin oIxA (iVar 0) (iVar 2)) (iP (.str " ")))) (sSeq (sAug 2 oAddI (iP (.int 1)))
  (sSeq sCont
  sNil)) sNil)
  (sSeq (sAsg (iCallC false e_sign_end.run (aCons (iVar 0) (aCons (iVar 2) aNil))) (gName 3))
  (sSeq (sExpr (iMethT "list" mAppend (iVar 1) (aCons (iCut (iVar 0) (pSome (iVar 2)) (pSome (iVar 3))) aNil)))
  (sSeq (sAsg (iVar 3) (gName 2))
  sNil)))))
  (sSeq (sRet (iVar 1))
  sNil))))
def e_signs_of : FnE := ⟨["line"], 3, [], runFn 1 4 r_signs_of⟩
def r_is_due : SI := (sSeq (sRet (iIf (bVal (iBin oLt (iVar 1) (iP (.int 2)))) (iBin oEq (iVar 0) (iVar 1)) (iBin (oInt fun i j => decide (j ≤ i)) (iVar 0) (iCallS cMax (aCons (iVar 2) (aCons (iP (.int 2)) aNil))))))
  sNil)
def e_is_due : FnE := ⟨["rank", "number", "last"], 1, [], runFn 3 3 r_is_due⟩
def r_Cursor_init : SI := (sSeq (sFldJ FL "line" (iVar 0) (iVar 1))
  (sSeq (sFldJ FL "signs" (iVar 0) (iVar 2))
  (sSeq (sFldJ FL "at" (iVar 0) (iP (.int 0)))
  sNil)))
def e_Cursor_init : FnE := ⟨["self", "line", "signs"], 1, [], runFn 3 3 r_Cursor_init⟩
def r_Cursor_sign_ahead : SI := (sSeq (sRet (iIf (bVal (iBin oLt (iBin oAdd (iFld FL "at" (iVar 0)) (iVar 1)) (iCallS cLen (aCons (iFld FL "signs" (iVar 0)) aNil)))) (iBin oIxA (iFld FL "signs" (iVar 0)) (iBin oAdd (iFld FL "at" (iVar 0)) (iVar 1))) (iP (.str ""))))
  sNil)
def e_Cursor_sign_ahead : FnE := ⟨["self", "many"], 1, [], runFn 2 2 r_Cursor_sign_ahead⟩
def r_Cursor_need_end : SI := (sSeq (sIf (bVal (iBin oNe (iMethC false "Cursor" "sign_ahead" e_Cursor_sign_ahead.run (iVar 0) (aCons (iP (.int 0)) aNil)) (iP (.str "")))) (sSeq sStuck
  sNil) sNil)
  sNil)
def e_Cursor_need_end : FnE := ⟨["self"], 2, [], runFn 1 1 r_Cursor_need_end⟩
def r_told_end : SI := (sSeq (sExpr (iMethC false "Cursor" "need_end" e_Cursor_need_end.run (iVar 0) aNil))
  (sSeq (sRet (iVar 1))
  sNil))
def e_told_end : FnE := ⟨["cursor", "value"], 3, [], runFn 2 2 r_told_end⟩
def r_are_figures : SI := (sSeq (sRet (iAnd (iBin oNe (iVar 0) (iP (.str ""))) (iBin oEq (iLc (wAny (iVar 0)) (gName 1) (bVal (iBin (oIn true) (iVar 1) (iP (.str "0123456789")))) (iVar 1) [1]) (iLst aNil))))
  sNil)
def e_are_figures : FnE := ⟨["text"], 1, [], runFn 1 2 r_are_figures⟩
def r_is_number_text : SI := (sSeq (sRet (iAnd (iCallC false e_are_figures.run (aCons (iVar 0) aNil)) (iOr (iBin oEq (iVar 0) (iP (.str "0"))) (iBin oNe (iBin oIxA (iVar 0) (iP (.int 0))) (iP (.str "0"))))))
  sNil)
def e_is_number_text : FnE := ⟨["text"], 2, [], runFn 1 1 r_is_number_text⟩
def r_Cursor_need_number : SI := (sSeq (sAsg (iMethC false "Cursor" "sign_ahead" e_Cursor_sign_ahead.run (iVar 0) (aCons (iP (.int 0)) aNil)) (gName 1))
  (sSeq (sIf (bNot (bVal (iCallC false e_is_number_text.run (aCons (iVar 1) aNil)))) (sSeq sStuck
  sNil) sNil)
  (sSeq (sFldAugJ FL "at" oAddI (iVar 0) (iP (.int 1)))
  (sSeq (sRet (iCallS cInt (aCons (iVar 1) aNil)))
  sNil))))
def e_Cursor_need_number : FnE := ⟨["self"], 3, [], runFn 1 2 r_Cursor_need_number⟩
def r_are_small : SI := (sSeq (sRet (iBin oEq (iLc (wAny (iVar 0)) (gName 1) (bVal (iBin (oIn true) (iVar 1) (iP (.str "abcdefghijklmnopqrstuvwxyz")))) (iVar 1) [1]) (iLst aNil)))
  sNil)
def e_are_small : FnE := ⟨["text"], 1, [], runFn 1 2 r_are_small⟩
def r_is_name : SI := (sSeq (sRet (iAnd (iCallS (cIsi CLS) (aCons (iVar 0) (aCons (iP (.ty "str")) aNil))) (iAnd (iChain oLt (oInt fun i j => decide (i ≤ j)) (iP (.int 0)) (iCallS cLen (aCons (iVar 0) aNil)) (iP (.int 8))) (iCallC false e_are_small.run (aCons (iVar 0) aNil)))))
  sNil)
def e_is_name : FnE := ⟨["value"], 2, [], runFn 1 1 r_is_name⟩
def r_Cursor_need_name : SI := (sSeq (sAsg (iMethC false "Cursor" "sign_ahead" e_Cursor_sign_ahead.run (iVar 0) (aCons (iP (.int 0)) aNil)) (gName 1))
  (sSeq (sIf (bNot (bVal (iCallC false e_is_name.run (aCons (iVar 1) aNil)))) (sSeq sStuck
  sNil) sNil)
  (sSeq (sFldAugJ FL "at" oAddI (iVar 0) (iP (.int 1)))
  (sSeq (sRet (iVar 1))
  sNil))))
def e_Cursor_need_name : FnE := ⟨["self"], 3, [], runFn 1 2 r_Cursor_need_name⟩
def r_told_place : SI := (sSeq (sAsg (iMethC false "Cursor" "need_name" e_Cursor_need_name.run (iVar 0) aNil) (gName 1))
  (sSeq (sRet (iCallC false e_told_end.run (aCons (iVar 0) (aCons (iTup (aCons (iVar 1) (aCons (iMethC false "Cursor" "need_number" e_Cursor_need_number.run (iVar 0) aNil) aNil))) aNil))))
  sNil))
def e_told_place : FnE := ⟨["cursor"], 4, [], runFn 1 2 r_told_place⟩
def r_Cursor_maybe : SI := (sSeq (sIf (bVal (iBin oNe (iMethC false "Cursor" "sign_ahead" e_Cursor_sign_ahead.run (iVar 0) (aCons (iP (.int 0)) aNil)) (iVar 1))) (sSeq (sRet (iP (.bl false)))
  sNil) sNil)
  (sSeq (sFldAugJ FL "at" oAddI (iVar 0) (iP (.int 1)))
  (sSeq (sRet (iP (.bl true)))
  sNil)))
def e_Cursor_maybe : FnE := ⟨["self", "sign"], 2, [], runFn 2 2 r_Cursor_maybe⟩
def r_Cursor_need : SI := (sSeq (sIf (bNot (bVal (iMethC false "Cursor" "maybe" e_Cursor_maybe.run (iVar 0) (aCons (iVar 1) aNil)))) (sSeq sStuck
  sNil) sNil)
  sNil)
def e_Cursor_need : FnE := ⟨["self", "sign"], 3, [], runFn 2 2 r_Cursor_need⟩
def r_common_divisor : SI := (sSeq (sPar 0 1 (aCons (iCallS cAbs (aCons (iVar 0) aNil)) (aCons (iCallS cAbs (aCons (iVar 1) aNil)) aNil)))
  (sSeq (sWhile (bVal (iBin oNe (iVar 1) (iP (.int 0)))) (sSeq (sPar 0 1 (aCons (iVar 1) (aCons (iBin oMod (iVar 0) (iVar 1)) aNil)))
  sNil))
  (sSeq (sRet (iVar 0))
  sNil)))
def e_common_divisor : FnE := ⟨["one", "other"], 1, [], runFn 2 2 r_common_divisor⟩
def r_told_fraction : SI := (sSeq (sAsg (iMethC false "Cursor" "maybe" e_Cursor_maybe.run (iVar 0) (aCons (iP (.str "-")) aNil)) (gName 1))
  (sSeq (sAsg (iMethC false "Cursor" "need_number" e_Cursor_need_number.run (iVar 0) aNil) (gName 2))
  (sSeq (sIf (bAnd (bVal (iVar 1)) (bVal (iBin oEq (iVar 2) (iP (.int 0))))) (sSeq sStuck
  sNil) sNil)
  (sSeq (sIf (bNot (bVal (iMethC false "Cursor" "maybe" e_Cursor_maybe.run (iVar 0) (aCons (iP (.str "/")) aNil)))) (sSeq (sRet (iTup (aCons (iIf (bVal (iVar 1)) (iUn oNeg (iVar 2)) (iVar 2)) (aCons (iP (.int 1)) aNil))))
  sNil) sNil)
  (sSeq (sAsg (iMethC false "Cursor" "need_number" e_Cursor_need_number.run (iVar 0) aNil) (gName 3))
  (sSeq (sIf (bOr (bVal (iBin oLt (iVar 3) (iP (.int 2)))) (bVal (iBin oNe (iCallC false e_common_divisor.run (aCons (iVar 2) (aCons (iVar 3) aNil))) (iP (.int 1))))) (sSeq sStuck
  sNil) sNil)
  (sSeq (sRet (iTup (aCons (iIf (bVal (iVar 1)) (iUn oNeg (iVar 2)) (iVar 2)) (aCons (iVar 3) aNil))))
  sNil)))))))
def e_told_fraction : FnE := ⟨["cursor"], 4, [], runFn 1 4 r_told_fraction⟩
def r_told_number : SI := (sSeq (sRet (iIf (bVal (iBin oEq (iVar 1) (iP (.int 0)))) (iCallC false e_told_fraction.run (aCons (iVar 0) aNil)) (iMethC false "Cursor" "need_number" e_Cursor_need_number.run (iVar 0) aNil)))
  sNil)
def e_told_number : FnE := ⟨["cursor", "field"], 5, [], runFn 2 2 r_told_number⟩
def r_told_row : SI := (sSeq (sAsg (iLst (aCons (iCallC false e_told_number.run (aCons (iVar 0) (aCons (iVar 1) aNil))) aNil)) (gName 2))
  (sSeq (sWhile (bVal (iMethC false "Cursor" "maybe" e_Cursor_maybe.run (iVar 0) (aCons (iP (.str ",")) aNil))) (sSeq (sExpr (iMethT "list" mAppend (iVar 2) (aCons (iCallC false e_told_number.run (aCons (iVar 0) (aCons (iVar 1) aNil))) aNil)))
  sNil))
  (sSeq (sRet (iCallS cTuple (aCons (iVar 2) aNil)))
  sNil)))
def e_told_row : FnE := ⟨["cursor", "field"], 6, [], runFn 2 3 r_told_row⟩
def r_told_table : SI := (sSeq (sAsg (iLst (aCons (iCallC false e_told_row.run (aCons (iVar 0) (aCons (iVar 1) aNil))) aNil)) (gName 2))
  (sSeq (sWhile (bVal (iMethC false "Cursor" "maybe" e_Cursor_maybe.run (iVar 0) (aCons (iP (.str ";")) aNil))) (sSeq (sExpr (iMethT "list" mAppend (iVar 2) (aCons (iCallC false e_told_row.run (aCons (iVar 0) (aCons (iVar 1) aNil))) aNil)))
  sNil))
  (sSeq (sRet (iCallS cTuple (aCons (iVar 2) aNil)))
  sNil)))
def e_told_table : FnE := ⟨["cursor", "field"], 7, [], runFn 2 3 r_told_table⟩
def r_told_arrow : SI := (sSeq (sAsg (iLst (aCons (iMethC false "Cursor" "need_name" e_Cursor_need_name.run (iVar 0) aNil) (aCons (iMethC false "Cursor" "need_name" e_Cursor_need_name.run (iVar 0) aNil) (aCons (iMethC false "Cursor" "need_name" e_Cursor_need_name.run (iVar 0) aNil) aNil)))) (gName 2))
  (sSeq (sFor (wAny (iTup (aCons (iP (.bl true)) (aCons (iP (.bl false)) (aCons (iP (.bl true)) (aCons (iP (.bl false)) aNil)))))) (gName 3) (sSeq (sExpr (iMethC false "Cursor" "need" e_Cursor_need.run (iVar 0) (aCons (iP (.str ":")) aNil)))
  (sSeq (sExpr (iMethT "list" mAppend (iVar 2) (aCons (iIf (bVal (iVar 3)) (iCallC false e_told_table.run (aCons (iVar 0) (aCons (iVar 1) aNil))) (iCallC false e_told_row.run (aCons (iVar 0) (aCons (iVar 1) aNil)))) aNil)))
  sNil)))
  (sSeq (sRet (iCallC false e_told_end.run (aCons (iVar 0) (aCons (iCallS cTuple (aCons (iVar 2) aNil)) aNil))))
  sNil)))
def e_told_arrow : FnE := ⟨["cursor", "field"], 8, [], runFn 2 4 r_told_arrow⟩
def r_told_things : SI := (sSeq (sAsg (iTup (aCons (iLst aNil) (aCons (iLst aNil) (aCons (iLst aNil) (aCons (iLst aNil) aNil))))) (gName 1))
  (sSeq (sAsg (iP (.int 0)) (gName 2))
  (sSeq (sFor (wEnum (aCons (iVar 0) aNil)) (gTup 2 (gCons (gName 3) (gCons (gName 4) gNil))) (sSeq (sAsg (iCallC false e_signs_of.run (aCons (iVar 4) aNil)) (gName 5))
  (sSeq (sAsg (iIf (bVal (iBin oNe (iVar 5) (iLst aNil))) (iKGet kd_RANKS (iBin oIxA (iVar 5) (iP (.int 0))) (iUn oNeg (iP (.int 1)))) (iUn oNeg (iP (.int 1)))) (gName 6))
  (sSeq (sIf (bNot (bVal (iCallC false e_is_due.run (aCons (iVar 6) (aCons (iVar 3) (aCons (iVar 2) aNil)))))) (sSeq sStuck
  sNil) sNil)
  (sSeq (sAsg (iVar 6) (gName 2))
  (sSeq (sAsg (iMake true "Cursor" e_Cursor_init.run (aCons (iVar 3) (aCons (iCut (iVar 5) (pSome (iP (.int 1))) pNone) aNil))) (gName 7))
  (sSeq (sIf (bVal (iBin oLt (iVar 6) (iP (.int 2)))) (sSeq (sExpr (iMethT "list" mAppend (iBin oIxA (iVar 1) (iVar 6)) (aCons (iCallC false e_told_end.run (aCons (iVar 7) (aCons (iMethC false "Cursor" "need_number" e_Cursor_need_number.run (iVar 7) aNil) aNil))) aNil)))
  sNil) (sSeq (sExpr (iMethT "list" mAppend (iBin oIxA (iVar 1) (iVar 6)) (aCons (iIf (bVal (iBin oEq (iVar 6) (iP (.int 2)))) (iCallC false e_told_place.run (aCons (iVar 7) aNil)) (iCallC false e_told_arrow.run (aCons (iVar 7) (aCons (iBin oIxA (iBin oIxA (iVar 1) (iP (.int 0))) (iP (.int 0))) aNil)))) aNil)))
  sNil))
  sNil)))))))
  (sSeq (sRet (iVar 1))
  sNil))))
def e_told_things : FnE := ⟨["lines"], 9, [], runFn 1 8 r_told_things⟩
def r_Machine_init : SI := (sSeq (sFldJ FL "field" (iVar 0) (iVar 1))
  (sSeq (sFldJ FL "reads" (iVar 0) (iVar 2))
  (sSeq (sFldJ FL "places" (iVar 0) (iVar 3))
  (sSeq (sFldJ FL "arrows" (iVar 0) (iVar 4))
  sNil))))
def e_Machine_init : FnE := ⟨["self", "field", "reads", "places", "arrows"], 1, [], runFn 5 5 r_Machine_init⟩
def r_is_integer : SI := (sSeq (sRet (iAnd (iCallS (cIsi CLS) (aCons (iVar 0) (aCons (iP (.ty "int")) aNil))) (iNot (iCallS (cIsi CLS) (aCons (iVar 0) (aCons (iP (.ty "bool")) aNil))))))
  sNil)
def e_is_integer : FnE := ⟨["value"], 1, [], runFn 1 1 r_is_integer⟩
def r_is_prime : SI := (sSeq (sIf (bVal (iBin oLt (iVar 0) (iP (.int 2)))) (sSeq (sRet (iP (.bl false)))
  sNil) sNil)
  (sSeq (sAsg (iP (.int 2)) (gName 1))
  (sSeq (sWhile (bVal (iBin (oInt fun i j => decide (i ≤ j)) (iBin oMulT (iVar 1) (iVar 1)) (iVar 0))) (sSeq (sIf (bVal (iBin oEq (iBin oMod (iVar 0) (iVar 1)) (iP (.int 0)))) (sSeq (sRet (iP (.bl false)))
  sNil) sNil)
  (sSeq (sAug 1 oAddI (iP (.int 1)))
  sNil)))
  (sSeq (sRet (iP (.bl true)))
  sNil))))
def e_is_prime : FnE := ⟨["number"], 1, [], runFn 1 2 r_is_prime⟩
def r_is_field : SI := (sSeq (sRet (iAnd (iCallC false e_is_integer.run (aCons (iVar 0) aNil)) (iOr (iBin oEq (iVar 0) (iP (.int 0))) (iAnd (iChain oLt oLt (iP (.int 0)) (iVar 0) (iP (.int 100))) (iCallC false e_is_prime.run (aCons (iVar 0) aNil))))))
  sNil)
def e_is_field : FnE := ⟨["value"], 2, [0], runFn 1 1 r_is_field⟩
def r_is_number : SI := (sSeq (sRet (iAnd (iCallC false e_is_integer.run (aCons (iVar 0) aNil)) (iBin (oInt fun i j => decide (j ≤ i)) (iVar 0) (iP (.int 0)))))
  sNil)
def e_is_number : FnE := ⟨["value"], 2, [], runFn 1 1 r_is_number⟩
def r_is_tuple : SI := (sSeq (sRet (iAnd (iCallS (cIsi CLS) (aCons (iVar 0) (aCons (iP (.ty "tuple")) aNil))) (iBin oEq (iCallS cLen (aCons (iVar 0) aNil)) (iVar 1))))
  sNil)
def e_is_tuple : FnE := ⟨["value", "many"], 1, [], runFn 2 2 r_is_tuple⟩
def r_is_place : SI := (sSeq (sRet (iAnd (iCallC false e_is_tuple.run (aCons (iVar 0) (aCons (iP (.int 2)) aNil))) (iAnd (iCallC false e_is_name.run (aCons (iBin oIxA (iVar 0) (iP (.int 0))) aNil)) (iAnd (iCallC false e_is_number.run (aCons (iBin oIxA (iVar 0) (iP (.int 1))) aNil)) (iBin (oInt fun i j => decide (j ≤ i)) (iBin oIxA (iVar 0) (iP (.int 1))) (iP (.int 1)))))))
  sNil)
def e_is_place : FnE := ⟨["value"], 3, [], runFn 1 1 r_is_place⟩
def r_is_ascending : SI := (sSeq (sFor (wRng1 (aCons (iBin oSub (iCallS cLen (aCons (iVar 0) aNil)) (iP (.int 1))) aNil)) (gName 1) (sSeq (sIf (bNot (bVal (iBin oLt (iBin oIxA (iVar 0) (iVar 1)) (iBin oIxA (iVar 0) (iBin oAdd (iVar 1) (iP (.int 1))))))) (sSeq (sRet (iP (.bl false)))
  sNil) sNil)
  sNil))
  (sSeq (sRet (iP (.bl true)))
  sNil))
def e_is_ascending : FnE := ⟨["values"], 1, [], runFn 1 2 r_is_ascending⟩
def r_are_places : SI := (sSeq (sIf (bOr (bNot (bVal (iCallS (cIsi CLS) (aCons (iVar 0) (aCons (iP (.ty "tuple")) aNil))))) (bOr (bVal (iBin oEq (iVar 0) (iTup aNil))) (bVal (iBin oNe (iLc (wAny (iVar 0)) (gName 1) (bNot (bVal (iCallC false e_is_place.run (aCons (iVar 1) aNil)))) (iVar 1) [1]) (iLst aNil))))) (sSeq (sRet (iP (.bl false)))
  sNil) sNil)
  (sSeq (sRet (iCallC false e_is_ascending.run (aCons (iLc (wAny (iVar 0)) (gTup 2 (gCons (gName 2) (gCons (gName 3) gNil))) bYes (iVar 2) [2, 3]) aNil)))
  sNil))
def e_are_places : FnE := ⟨["value"], 4, [], runFn 1 4 r_are_places⟩
def r_are_arrows : SI := (sSeq (sIf (bNot (bVal (iCallS (cIsi CLS) (aCons (iVar 0) (aCons (iP (.ty "tuple")) aNil))))) (sSeq (sRet (iP (.bl false)))
  sNil) sNil)
  (sSeq (sIf (bVal (iBin oNe (iLc (wAny (iVar 0)) (gName 1) (bOr (bNot (bVal (iCallC false e_is_tuple.run (aCons (iVar 1) (aCons (iP (.int 7)) aNil))))) (bNot (bVal (iCallC false e_is_name.run (aCons (iBin oIxA (iVar 1) (iP (.int 0))) aNil))))) (iVar 1) [1]) (iLst aNil))) (sSeq (sRet (iP (.bl false)))
  sNil) sNil)
  (sSeq (sRet (iCallC false e_is_ascending.run (aCons (iLc (wAny (iVar 0)) (gName 1) bYes (iBin oIxA (iVar 1) (iP (.int 0))) [1]) aNil)))
  sNil)))
def e_are_arrows : FnE := ⟨["value"], 3, [], runFn 1 2 r_are_arrows⟩
def r_is_fraction : SI := (sSeq (sIf (bOr (bNot (bVal (iCallC false e_is_tuple.run (aCons (iVar 0) (aCons (iP (.int 2)) aNil))))) (bOr (bNot (bVal (iCallC false e_is_integer.run (aCons (iBin oIxA (iVar 0) (iP (.int 0))) aNil)))) (bNot (bVal (iCallC false e_is_integer.run (aCons (iBin oIxA (iVar 0) (iP (.int 1))) aNil)))))) (sSeq (sRet (iP (.bl false)))
  sNil) sNil)
  (sSeq (sRet (iAnd (iBin (oInt fun i j => decide (j ≤ i)) (iBin oIxA (iVar 0) (iP (.int 1))) (iP (.int 1))) (iBin oEq (iCallC false e_common_divisor.run (aCons (iBin oIxA (iVar 0) (iP (.int 0))) (aCons (iBin oIxA (iVar 0) (iP (.int 1))) aNil))) (iP (.int 1)))))
  sNil))
def e_is_fraction : FnE := ⟨["value"], 2, [], runFn 1 1 r_is_fraction⟩
def r_is_number_of : SI := (sSeq (sIf (bVal (iBin oEq (iVar 0) (iP (.int 0)))) (sSeq (sRet (iCallC false e_is_fraction.run (aCons (iVar 1) aNil)))
  sNil) sNil)
  (sSeq (sRet (iAnd (iCallC false e_is_number.run (aCons (iVar 1) aNil)) (iBin oLt (iVar 1) (iVar 0))))
  sNil))
def e_is_number_of : FnE := ⟨["field", "value"], 3, [0], runFn 2 2 r_is_number_of⟩
def r_is_number_row_of : SI := (sSeq (sRet (iAnd (iCallC false e_is_tuple.run (aCons (iVar 2) (aCons (iVar 1) aNil))) (iBin oEq (iLc (wAny (iVar 2)) (gName 3) (bNot (bVal (iCallC false e_is_number_of.run (aCons (iVar 0) (aCons (iVar 3) aNil))))) (iVar 3) [3]) (iLst aNil))))
  sNil)
def e_is_number_row_of : FnE := ⟨["field", "size", "value"], 4, [], runFn 3 4 r_is_number_row_of⟩
def r_is_table_of : SI := (sSeq (sRet (iAnd (iCallC false e_is_tuple.run (aCons (iVar 3) (aCons (iVar 1) aNil))) (iBin oEq (iLc (wAny (iVar 3)) (gName 4) (bNot (bVal (iCallC false e_is_number_row_of.run (aCons (iVar 0) (aCons (iVar 2) (aCons (iVar 4) aNil)))))) (iVar 4) [4]) (iLst aNil))))
  sNil)
def e_is_table_of : FnE := ⟨["field", "many", "size", "value"], 5, [], runFn 4 5 r_is_table_of⟩
def r_is_arrow : SI := (sSeq (sAsg (iVar 2) (gTup 7 (gCons (gName 3) (gCons (gName 4) (gCons (gName 5) (gCons (gName 6) (gCons (gName 7) (gCons (gName 8) (gCons (gName 9) gNil)))))))))
  (sSeq (sIf (bOr (bNot (bVal (iCallC false e_is_name.run (aCons (iVar 4) aNil)))) (bOr (bNot (bVal (iCallC false e_is_name.run (aCons (iVar 5) aNil)))) (bOr (bVal (iBin (oIn true) (iVar 4) (iVar 1))) (bVal (iBin (oIn true) (iVar 5) (iVar 1)))))) (sSeq (sRet (iP (.bl false)))
  sNil) sNil)
  (sSeq (sPar 10 11 (aCons (iFld FL "field" (iVar 0)) (aCons (iFld FL "reads" (iVar 0)) aNil)))
  (sSeq (sIf (bOr (bNot (bVal (iCallC false e_is_table_of.run (aCons (iVar 10) (aCons (iBin oIxA (iVar 1) (iVar 4)) (aCons (iBin oIxA (iVar 1) (iVar 5)) (aCons (iVar 6) aNil))))))) (bNot (bVal (iCallC false e_is_number_row_of.run (aCons (iVar 10) (aCons (iBin oIxA (iVar 1) (iVar 5)) (aCons (iVar 7) aNil))))))) (sSeq (sRet (iP (.bl false)))
  sNil) sNil)
  (sSeq (sRet (iAnd (iCallC false e_is_table_of.run (aCons (iVar 10) (aCons (iBin oIxA (iVar 1) (iVar 4)) (aCons (iVar 11) (aCons (iVar 8) aNil))))) (iCallC false e_is_number_row_of.run (aCons (iVar 10) (aCons (iVar 11) (aCons (iVar 9) aNil))))))
  sNil)))))
def e_is_arrow : FnE := ⟨["machine", "sizes", "arrow"], 6, [], runFn 3 12 r_is_arrow⟩
def r_machine_fault : SI := (sSeq (sIf (bNot (bVal (iCallC false e_is_field.run (aCons (iFld FL "field" (iVar 0)) aNil)))) (sSeq (sRet (iTup (aCons (iP (.str "field")) (aCons (iUn oNeg (iP (.int 1))) aNil))))
  sNil) sNil)
  (sSeq (sIf (bOr (bNot (bVal (iCallC false e_is_number.run (aCons (iFld FL "reads" (iVar 0)) aNil)))) (bVal (iBin oLt (iFld FL "reads" (iVar 0)) (iP (.int 1))))) (sSeq (sRet (iTup (aCons (iP (.str "reads")) (aCons (iUn oNeg (iP (.int 1))) aNil))))
  sNil) sNil)
  (sSeq (sIf (bNot (bVal (iCallC false e_are_places.run (aCons (iFld FL "places" (iVar 0)) aNil)))) (sSeq (sRet (iTup (aCons (iP (.str "places")) (aCons (iUn oNeg (iP (.int 1))) aNil))))
  sNil) sNil)
  (sSeq (sIf (bNot (bVal (iCallC false e_are_arrows.run (aCons (iFld FL "arrows" (iVar 0)) aNil)))) (sSeq (sRet (iTup (aCons (iP (.str "arrows")) (aCons (iUn oNeg (iP (.int 1))) aNil))))
  sNil) sNil)
  (sSeq (sAsg (iCallS cDict (aCons (iFld FL "places" (iVar 0)) aNil)) (gName 1))
  (sSeq (sFor (wEnum (aCons (iFld FL "arrows" (iVar 0)) aNil)) (gTup 2 (gCons (gName 2) (gCons (gName 3) gNil))) (sSeq (sIf (bNot (bVal (iCallC false e_is_arrow.run (aCons (iVar 0) (aCons (iVar 1) (aCons (iVar 3) aNil)))))) (sSeq (sRet (iTup (aCons (iP (.str "arrow")) (aCons (iVar 2) aNil))))
  sNil) sNil)
  sNil))
  (sSeq (sRet (iP .non))
  sNil)))))))
def e_machine_fault : FnE := ⟨["machine"], 7, [], runFn 1 4 r_machine_fault⟩
def r_need_machine : SI := (sSeq (sIf (bNot (bVal (iCallS (cIsi CLS) (aCons (iVar 0) (aCons (iP (.glo "Machine")) aNil))))) (sSeq sStuck
  sNil) sNil)
  (sSeq (sAsg (iCallC false e_machine_fault.run (aCons (iVar 0) aNil)) (gName 1))
  (sSeq (sIf (bVal (iBin oIsN (iVar 1) (iP .non))) (sSeq sStuck
  sNil) sNil)
  sNil)))
def e_need_machine : FnE := ⟨["value"], 8, [], runFn 1 2 r_need_machine⟩
def r_read_machine : SI := (sSeq (sIf (bNot (bVal (iCallS (cIsi CLS) (aCons (iVar 0) (aCons (iP (.ty "str")) aNil))))) (sSeq sStuck
  sNil) sNil)
  (sSeq (sAsg (iCallC false e_told_things.run (aCons (iMethT "str" mSplit (iVar 0) (aCons (iP (.str "\n")) aNil)) aNil)) (gTup 4 (gCons (gName 1) (gCons (gName 2) (gCons (gName 3) (gCons (gName 4) gNil))))))
  (sSeq (sIf (bVal (iBin oEq (iVar 2) (iLst aNil))) (sSeq sStuck
  sNil) sNil)
  (sSeq (sAsg (iMake false "Machine" e_Machine_init.run (aCons (iBin oIxA (iVar 1) (iP (.int 0))) (aCons (iBin oIxA (iVar 2) (iP (.int 0))) (aCons (iCallS cTuple (aCons (iCallS cSorted (aCons (iVar 3) aNil)) aNil)) (aCons (iCallS cTuple (aCons (iCallS cSorted (aCons (iVar 4) aNil)) aNil)) aNil))))) (gName 5))
  (sSeq (sExpr (iCallC false e_need_machine.run (aCons (iVar 5) aNil)))
  (sSeq (sRet (iVar 5))
  sNil))))))
def e_read_machine : FnE := ⟨["text"], 10, [], runFn 1 6 r_read_machine⟩
def r__law_any : SI := (sSeq (sWhile (bAnd (bVal (iBin (oInt fun i j => decide (j < i)) (iCallS cLen (aCons (iBin oIxA (iVar 0) (iP (.int 0))) aNil)) (iP (.int 0)))) (bVal (iBin oEq (iBin oIxA (iBin oIxA (iVar 0) (iP (.int 0))) (iUn oNeg (iP (.int 1)))) (iP (.int 0))))) (sSeq (sExpr (iMethT "list" mPop (iBin oIxA (iVar 0) (iP (.int 0))) aNil))
  sNil))
  (sSeq (sIf (bVal (iBin (oInt fun i j => decide (j < i)) (iCallS cLen (aCons (iBin oIxA (iVar 0) (iP (.int 0))) aNil)) (iP (.int 0)))) (sSeq (sAsg (iCallS cInt (aCons (iMethT "list" mPop (iBin oIxA (iVar 0) (iP (.int 0))) aNil) aNil)) (gName 2))
  (sSeq (sExpr (iMethT "list" mAppend (iBin oIxA (iVar 0) (iP (.int 0))) (aCons (iBin oFdiv (iVar 2) (iVar 1)) aNil)))
  (sSeq (sRet (iBin oMod (iVar 2) (iVar 1)))
  sNil))) sNil)
  (sSeq (sAsg (iBin oMod (iCallS cInt (aCons (iBin oAdd (iBin oMulT (iBin oIxA (iVar 0) (iP (.int 1))) (iP (.int 48271))) (iP (.int 31))) aNil)) (iP (.int 2147483647))) (gSubJ (iVar 0) (iP (.int 1))))
  (sSeq (sRet (iBin oMod (iCallS cInt (aCons (iBin oFdiv (iBin oIxA (iVar 0) (iP (.int 1))) (iP (.int 64))) aNil)) (iVar 1)))
  sNil))))
def e__law_any : FnE := ⟨["deal", "bound"], 1, [], runFn 2 3 r__law_any⟩
def r_Start_init : SI := (sSeq (sFldJ FL "place" (iVar 0) (iVar 1))
  (sSeq (sFldJ FL "row" (iVar 0) (iVar 2))
  sNil))
def e_Start_init : FnE := ⟨["self", "place", "row"], 1, [], runFn 3 3 r_Start_init⟩
def r_Answer_init : SI := (sSeq (sFldJ FL "word" (iVar 0) (iVar 1))
  (sSeq (sFldJ FL "paper" (iVar 0) (iVar 2))
  sNil))
def e_Answer_init : FnE := ⟨["self", "word", "paper"], 1, [], runFn 3 3 r_Answer_init⟩
def r__law_strange : SI := (sSeq (sAsg (iTup aNil) (gName 1))
  (sSeq (sFor (wRng1 (aCons (iCallC false e__law_any.run (aCons (iVar 0) (aCons (iP (.int 60)) aNil))) aNil)) (gName 2) (sSeq (sAsg (iIf (bVal (iBin (oInt fun i j => decide (j < i)) (iVar 2) (iP (.int 0)))) (iTup (aCons (iVar 1) aNil)) (iTup (aCons (iP (.str "a")) aNil))) (gName 1))
  sNil))
  (sSeq (sRet (iLst (aCons (iP .non) (aCons (iP (.bl true)) (aCons (iP (.bl false)) (aCons (iP (.str "")) (aCons (iP (.str "0")) (aCons (iP (.str "field")) (aCons (iBin oSub (iP (.int 0)) (iP (.int 7))) (aCons (iBin oPow (iP (.int 10)) (iP (.int 30))) (aCons (iTup (aCons (iP .non) aNil)) (aCons (iTup (aCons (iTup aNil) aNil)) (aCons (iLst aNil) (aCons (iLst (aCons (iP (.int 0)) aNil)) (aCons (iTup (aCons (iTup (aCons (iP (.int 0)) (aCons (iP (.int 1)) aNil))) aNil)) (aCons (iTup (aCons (iTup (aCons (iP (.str "k")) aNil)) aNil)) (aCons (iIf (bVal (iBin oNe (iVar 1) (iTup aNil))) (iVar 1) (iP .non)) (aCons (iTup (aCons (iP (.str "")) (aCons (iP (.str "")) aNil))) (aCons (iTup (aCons (iP (.bl true)) aNil)) (aCons (iTup (aCons (iTup (aCons (iP (.bl true)) (aCons (iP (.int 1)) aNil))) (aCons (iTup (aCons (iP (.int 0)) (aCons (iP (.int 1)) aNil))) aNil))) (aCons (iMake false "Start" e_Start_init.run (aCons (iP (.str "u")) (aCons (iTup aNil) aNil))) (aCons (iMake false "Answer" e_Answer_init.run (aCons (iP (.str "forgets")) (aCons (iTup aNil) aNil))) aNil))))))))))))))))))))))
  sNil)))
def e__law_strange : FnE := ⟨["deal"], 3, [], runFn 1 3 r__law_strange⟩
def r_is_row_of : SI := (sSeq (sRet (iAnd (iCallC false e_is_tuple.run (aCons (iVar 2) (aCons (iVar 1) aNil))) (iBin oEq (iLc (wAny (iVar 2)) (gName 3) (bNot (bVal (iCallC false e_is_number_of.run (aCons (iVar 0) (aCons (iVar 3) aNil))))) (iVar 3) [3]) (iLst aNil))))
  sNil)
def e_is_row_of : FnE := ⟨["field", "size", "value"], 4, [], runFn 3 4 r_is_row_of⟩
def r_is_zero : SI := (sSeq (sRet (iIf (bVal (iBin oEq (iVar 0) (iP (.int 0)))) (iBin oEq (iBin oIxA (iVar 1) (iP (.int 0))) (iP (.int 0))) (iBin oEq (iVar 1) (iP (.int 0)))))
  sNil)
def e_is_zero : FnE := ⟨["field", "number"], 1, [], runFn 2 2 r_is_zero⟩
def r_head_of : SI := (sSeq (sFor (wEnum (aCons (iVar 1) aNil)) (gTup 2 (gCons (gName 2) (gCons (gName 3) gNil))) (sSeq (sIf (bNot (bVal (iCallC false e_is_zero.run (aCons (iVar 0) (aCons (iVar 3) aNil))))) (sSeq (sRet (iVar 2))
  sNil) sNil)
  sNil))
  (sSeq (sRet (iUn oNeg (iP (.int 1))))
  sNil))
def e_head_of : FnE := ⟨["field", "row"], 2, [], runFn 2 4 r_head_of⟩
def r_one_of : SI := (sSeq (sRet (iIf (bVal (iBin oEq (iVar 0) (iP (.int 0)))) (iTup (aCons (iP (.int 1)) (aCons (iP (.int 1)) aNil))) (iP (.int 1))))
  sNil)
def e_one_of : FnE := ⟨["field"], 1, [], runFn 1 1 r_one_of⟩
def r_are_heads_right : SI := (sSeq (sIf (bVal (iBin oNe (iLc (wRng1 (aCons (iBin oSub (iCallS cLen (aCons (iVar 2) aNil)) (iP (.int 1))) aNil)) (gName 3) (bVal (iBin (oInt fun i j => decide (j ≤ i)) (iBin oIxA (iVar 2) (iVar 3)) (iBin oIxA (iVar 2) (iBin oAdd (iVar 3) (iP (.int 1)))))) (iP (.int 1)) [3]) (iLst aNil))) (sSeq (sRet (iP (.bl false)))
  sNil) sNil)
  (sSeq (sFor (wEnum (aCons (iVar 1) aNil)) (gTup 2 (gCons (gName 3) (gCons (gName 4) gNil))) (sSeq (sIf (bVal (iBin oNe (iBin oIxA (iVar 4) (iBin oIxA (iVar 2) (iVar 3))) (iCallC false e_one_of.run (aCons (iVar 0) aNil)))) (sSeq (sRet (iP (.bl false)))
  sNil) sNil)
  (sSeq (sIf (bVal (iBin oNe (iLc (wAny (iBin oAdd (iCut (iVar 1) pNone (pSome (iVar 3))) (iCut (iVar 1) (pSome (iBin oAdd (iVar 3) (iP (.int 1)))) pNone))) (gName 5) (bNot (bVal (iCallC false e_is_zero.run (aCons (iVar 0) (aCons (iBin oIxA (iVar 5) (iBin oIxA (iVar 2) (iVar 3))) aNil))))) (iP (.int 1)) [5]) (iLst aNil))) (sSeq (sRet (iP (.bl false)))
  sNil) sNil)
  sNil)))
  (sSeq (sRet (iP (.bl true)))
  sNil)))
def e_are_heads_right : FnE := ⟨["field", "room", "heads"], 2, [], runFn 3 6 r_are_heads_right⟩
def r_is_room : SI := (sSeq (sIf (bOr (bNot (bVal (iCallS (cIsi CLS) (aCons (iVar 2) (aCons (iP (.ty "tuple")) aNil))))) (bVal (iBin oNe (iLc (wAny (iVar 2)) (gName 4) (bNot (bVal (iCallC false e_is_row_of.run (aCons (iVar 0) (aCons (iVar 1) (aCons (iVar 4) aNil)))))) (iVar 4) [4]) (iLst aNil)))) (sSeq (sRet (iP (.bl false)))
  sNil) sNil)
  (sSeq (sAsg (iLc (wAny (iVar 2)) (gName 4) bYes (iCallC false e_head_of.run (aCons (iVar 0) (aCons (iVar 4) aNil))) [4]) (gName 3))
  (sSeq (sRet (iAnd (iBin oEq (iLc (wAny (iVar 3)) (gName 5) (bVal (iBin oLt (iVar 5) (iP (.int 0)))) (iP (.int 1)) [5]) (iLst aNil)) (iCallC false e_are_heads_right.run (aCons (iVar 0) (aCons (iVar 2) (aCons (iVar 3) aNil))))))
  sNil)))
def e_is_room : FnE := ⟨["field", "size", "value"], 5, [0], runFn 3 6 r_is_room⟩
def r_arrows_by_name : SI := (sSeq (sRet (iDc (wAny (iFld FL "arrows" (iVar 0))) (gName 1) bYes (iBin oIxA (iVar 1) (iP (.int 0))) (iVar 1) [1]))
  sNil)
def e_arrows_by_name : FnE := ⟨["machine"], 1, [], runFn 1 2 r_arrows_by_name⟩
def r_is_way : SI := (sSeq (sIf (bNot (bVal (iCallS (cIsi CLS) (aCons (iVar 2) (aCons (iP (.ty "tuple")) aNil))))) (sSeq (sRet (iP (.bl false)))
  sNil) sNil)
  (sSeq (sAsg (iCallC false e_arrows_by_name.run (aCons (iVar 0) aNil)) (gName 3))
  (sSeq (sFor (wAny (iVar 2)) (gName 4) (sSeq (sIf (bOr (bNot (bVal (iCallC false e_is_name.run (aCons (iVar 4) aNil)))) (bOr (bVal (iBin (oIn true) (iVar 4) (iVar 3))) (bVal (iBin oNe (iBin oIxA (iBin oIxA (iVar 3) (iVar 4)) (iP (.int 1))) (iVar 1))))) (sSeq (sRet (iP (.bl false)))
  sNil) sNil)
  (sSeq (sAsg (iBin oIxA (iBin oIxA (iVar 3) (iVar 4)) (iP (.int 2))) (gName 1))
  sNil)))
  (sSeq (sRet (iP (.bl true)))
  sNil))))
def e_is_way : FnE := ⟨["machine", "place", "value"], 3, [0], runFn 3 5 r_is_way⟩
def r_is_tuple_of : SI := (sSeq (sRet (iAnd (iCallS (cIsi CLS) (aCons (iVar 0) (aCons (iP (.ty "tuple")) aNil))) (iBin oEq (iCallS cLen (aCons (iVar 0) aNil)) (iVar 1))))
  sNil)
def e_is_tuple_of : FnE := ⟨["value", "many"], 1, [], runFn 2 2 r_is_tuple_of⟩
def r_is_level : SI := (sSeq (sIf (bNot (bVal (iCallC false e_is_tuple_of.run (aCons (iVar 1) (aCons (iCallS cLen (aCons (iFld FL "places" (iVar 0)) aNil)) aNil))))) (sSeq (sRet (iP (.bl false)))
  sNil) sNil)
  (sSeq (sFor (wZip (aCons (iVar 1) (aCons (iFld FL "places" (iVar 0)) aNil))) (gTup 2 (gCons (gName 2) (gCons (gTup 2 (gCons (gName 3) (gCons (gName 4) gNil))) gNil))) (sSeq (sIf (bOr (bNot (bVal (iCallC false e_is_tuple_of.run (aCons (iVar 2) (aCons (iP (.int 2)) aNil))))) (bOr (bNot (bVal (iCallS (cIsi CLS) (aCons (iBin oIxA (iVar 2) (iP (.int 0))) (aCons (iP (.ty "str")) aNil))))) (bVal (iBin oNe (iBin oIxA (iVar 2) (iP (.int 0))) (iVar 3))))) (sSeq (sRet (iP (.bl false)))
  sNil) sNil)
  (sSeq (sIf (bNot (bVal (iCallC false e_is_room.run (aCons (iFld FL "field" (iVar 0)) (aCons (iVar 4) (aCons (iBin oIxA (iVar 2) (iP (.int 1))) aNil)))))) (sSeq (sRet (iP (.bl false)))
  sNil) sNil)
  sNil)))
  (sSeq (sRet (iP (.bl true)))
  sNil)))
def e_is_level : FnE := ⟨["machine", "value"], 6, [], runFn 2 5 r_is_level⟩
def r_zero_of : SI := (sSeq (sRet (iIf (bVal (iBin oEq (iVar 0) (iP (.int 0)))) (iTup (aCons (iP (.int 0)) (aCons (iP (.int 1)) aNil))) (iP (.int 0))))
  sNil)
def e_zero_of : FnE := ⟨["field"], 1, [], runFn 1 1 r_zero_of⟩
def r_no_row : SI := (sSeq (sRet (iBin oMulT (iTup (aCons (iCallC false e_zero_of.run (aCons (iVar 0) aNil)) aNil)) (iVar 1)))
  sNil)
def e_no_row : FnE := ⟨["field", "size"], 2, [], runFn 2 2 r_no_row⟩
def r_unit_row : SI := (sSeq (sRet (iBin oAdd (iBin oAdd (iCallC false e_no_row.run (aCons (iVar 0) (aCons (iVar 2) aNil))) (iTup (aCons (iCallC false e_one_of.run (aCons (iVar 0) aNil)) aNil))) (iCallC false e_no_row.run (aCons (iVar 0) (aCons (iBin oSub (iBin oSub (iVar 1) (iVar 2)) (iP (.int 1))) aNil)))))
  sNil)
def e_unit_row : FnE := ⟨["field", "size", "at"], 3, [], runFn 3 3 r_unit_row⟩
def r_whole_room : SI := (sSeq (sRet (iCallS cTuple (aCons (iLc (wRng1 (aCons (iVar 1) aNil)) (gName 2) bYes (iCallC false e_unit_row.run (aCons (iVar 0) (aCons (iVar 1) (aCons (iVar 2) aNil)))) [2]) aNil)))
  sNil)
def e_whole_room : FnE := ⟨["field", "size"], 4, [], runFn 2 3 r_whole_room⟩
def r_whole_rooms : SI := (sSeq (sRet (iDc (wAny (iFld FL "places" (iVar 0))) (gTup 2 (gCons (gName 1) (gCons (gName 2) gNil))) bYes (iVar 1) (iCallC false e_whole_room.run (aCons (iFld FL "field" (iVar 0)) (aCons (iVar 2) aNil))) [1, 2]))
  sNil)
def e_whole_rooms : FnE := ⟨["machine"], 5, [], runFn 1 3 r_whole_rooms⟩
def r_columns_of : SI := (sSeq (sRet (iCallS cList (aCons iStuck aNil)))
  sNil)
def e_columns_of : FnE := ⟨["table"], 1, [], runFn 1 1 r_columns_of⟩
def r_fraction : SI := (sSeq (sIf (bVal (iBin oEq (iVar 0) (iP (.int 0)))) (sSeq (sRet (iTup (aCons (iP (.int 0)) (aCons (iP (.int 1)) aNil))))
  sNil) sNil)
  (sSeq (sAsg (iCallC false e_common_divisor.run (aCons (iVar 0) (aCons (iVar 1) aNil))) (gName 2))
  (sSeq (sRet (iTup (aCons (iBin oFdiv (iVar 0) (iVar 2)) (aCons (iBin oFdiv (iVar 1) (iVar 2)) aNil))))
  sNil)))
def e_fraction : FnE := ⟨["top", "bottom"], 2, [], runFn 2 3 r_fraction⟩
def r_times : SI := (sSeq (sIf (bVal (iBin oNe (iVar 0) (iP (.int 0)))) (sSeq (sRet (iBin oMod (iBin oMulT (iVar 1) (iVar 2)) (iVar 0)))
  sNil) sNil)
  (sSeq (sRet (iCallC false e_fraction.run (aCons (iBin oMulT (iBin oIxA (iVar 1) (iP (.int 0))) (iBin oIxA (iVar 2) (iP (.int 0)))) (aCons (iBin oMulT (iBin oIxA (iVar 1) (iP (.int 1))) (iBin oIxA (iVar 2) (iP (.int 1)))) aNil))))
  sNil))
def e_times : FnE := ⟨["field", "one", "other"], 3, [], runFn 3 3 r_times⟩
def r_without_divisor : SI := (sSeq (sAsg (iP (.int 0)) (gName 1))
  (sSeq (sFor (wAny (iVar 0)) (gName 2) (sSeq (sAsg (iCallC false e_common_divisor.run (aCons (iVar 1) (aCons (iVar 2) aNil))) (gName 1))
  (sSeq (sIf (bVal (iBin oEq (iVar 1) (iP (.int 1)))) (sSeq (sRet (iVar 0))
  sNil) sNil)
  sNil)))
  (sSeq (sRet (iIf (bVal (iBin (oInt fun i j => decide (j < i)) (iVar 1) (iP (.int 1)))) (iLc (wAny (iVar 0)) (gName 2) bYes (iBin oFdiv (iVar 2) (iVar 1)) [2]) (iVar 0)))
  sNil)))
def e_without_divisor : FnE := ⟨["numbers"], 2, [], runFn 1 3 r_without_divisor⟩
def r_cleared : SI := (sSeq (sIf (bVal (iBin oNe (iVar 0) (iP (.int 0)))) (sSeq (sRet (iLc (wZip (aCons (iVar 1) (aCons (iVar 2) aNil))) (gTup 2 (gCons (gName 7) (gCons (gName 8) gNil))) bYes (iBin oMod (iBin oSub (iVar 7) (iBin oMulT (iBin oIxA (iVar 1) (iVar 3)) (iVar 8))) (iVar 0)) [7, 8]))
  sNil) sNil)
  (sSeq (sAsg (iCallC false e_common_divisor.run (aCons (iBin oIxA (iVar 1) (iVar 3)) (aCons (iBin oIxA (iVar 2) (iVar 3)) aNil))) (gName 4))
  (sSeq (sAsg (iTup (aCons (iBin oFdiv (iBin oIxA (iVar 2) (iVar 3)) (iVar 4)) (aCons (iBin oFdiv (iBin oIxA (iVar 1) (iVar 3)) (iVar 4)) aNil))) (gTup 2 (gCons (gName 5) (gCons (gName 6) gNil))))
  (sSeq (sRet (iCallC false e_without_divisor.run (aCons (iLc (wZip (aCons (iVar 1) (aCons (iVar 2) aNil))) (gTup 2 (gCons (gName 7) (gCons (gName 8) gNil))) bYes (iBin oSub (iBin oMulT (iVar 7) (iVar 5)) (iBin oMulT (iVar 8) (iVar 6))) [7, 8]) aNil)))
  sNil))))
def e_cleared : FnE := ⟨["field", "numbers", "others", "head"], 3, [], runFn 4 9 r_cleared⟩
def r_first_place : SI := (sSeq (sFor (wEnum (aCons (iVar 0) aNil)) (gTup 2 (gCons (gName 1) (gCons (gName 2) gNil))) (sSeq (sIf (bVal (iBin oNe (iVar 2) (iP (.int 0)))) (sSeq (sRet (iVar 1))
  sNil) sNil)
  sNil))
  (sSeq (sRet (iUn oNeg (iP (.int 1))))
  sNil))
def e_first_place : FnE := ⟨["numbers"], 1, [], runFn 1 3 r_first_place⟩
def r_power_of : SI := (sSeq (sAsg (iP (.int 1)) (gName 3))
  (sSeq (sWhile (bVal (iBin (oInt fun i j => decide (j < i)) (iVar 2) (iP (.int 0)))) (sSeq (sIf (bVal (iBin oEq (iBin oMod (iVar 2) (iP (.int 2))) (iP (.int 1)))) (sSeq (sAsg (iBin oMod (iBin oMulT (iVar 3) (iVar 1)) (iVar 0)) (gName 3))
  sNil) sNil)
  (sSeq (sAsg (iBin oMod (iBin oMulT (iVar 1) (iVar 1)) (iVar 0)) (gName 1))
  (sSeq (sAug 2 oDivI (iP (.int 2)))
  sNil))))
  (sSeq (sRet (iVar 3))
  sNil)))
def e_power_of : FnE := ⟨["field", "number", "many"], 1, [], runFn 3 4 r_power_of⟩
def r_inverse : SI := (sSeq (sIf (bVal (iBin oNe (iVar 0) (iP (.int 0)))) (sSeq (sRet (iCallC false e_power_of.run (aCons (iVar 0) (aCons (iVar 1) (aCons (iBin oSub (iVar 0) (iP (.int 2))) aNil)))))
  sNil) sNil)
  (sSeq (sRet (iIf (bVal (iBin (oInt fun i j => decide (j < i)) (iBin oIxA (iVar 1) (iP (.int 0))) (iP (.int 0)))) (iTup (aCons (iBin oIxA (iVar 1) (iP (.int 1))) (aCons (iBin oIxA (iVar 1) (iP (.int 0))) aNil))) (iTup (aCons (iUn oNeg (iBin oIxA (iVar 1) (iP (.int 1)))) (aCons (iUn oNeg (iBin oIxA (iVar 1) (iP (.int 0)))) aNil)))))
  sNil))
def e_inverse : FnE := ⟨["field", "number"], 2, [], runFn 2 2 r_inverse⟩
def r_with_head : SI := (sSeq (sIf (bVal (iBin oEq (iVar 0) (iP (.int 0)))) (sSeq (sRet (iVar 1))
  sNil) sNil)
  (sSeq (sAsg (iCallC false e_inverse.run (aCons (iVar 0) (aCons (iBin oIxA (iVar 1) (iVar 2)) aNil))) (gName 3))
  (sSeq (sRet (iLc (wAny (iVar 1)) (gName 4) bYes (iBin oMod (iBin oMulT (iVar 4) (iVar 3)) (iVar 0)) [4]))
  sNil)))
def e_with_head : FnE := ⟨["field", "numbers", "head"], 3, [], runFn 3 5 r_with_head⟩
def r_with_more : SI := (sSeq (sFor (wAny (iVar 1)) (gTup 2 (gCons (gName 3) (gCons (gName 4) gNil))) (sSeq (sIf (bVal (iBin oNe (iBin oIxA (iVar 2) (iVar 3)) (iP (.int 0)))) (sSeq (sAsg (iCallC false e_cleared.run (aCons (iVar 0) (aCons (iVar 2) (aCons (iVar 4) (aCons (iVar 3) aNil))))) (gName 2))
  sNil) sNil)
  sNil))
  (sSeq (sAsg (iCallC false e_first_place.run (aCons (iVar 2) aNil)) (gName 3))
  (sSeq (sRet (iIf (bVal (iBin (oInt fun i j => decide (j ≤ i)) (iVar 3) (iP (.int 0)))) (iCallS cSorted (aCons (iBin oAdd (iVar 1) (iLst (aCons (iTup (aCons (iVar 3) (aCons (iCallC false e_with_head.run (aCons (iVar 0) (aCons (iVar 2) (aCons (iVar 3) aNil)))) aNil))) aNil))) aNil)) (iVar 1)))
  sNil)))
def e_with_more : FnE := ⟨["field", "found", "numbers"], 4, [], runFn 3 5 r_with_more⟩
def r_whole_numbers : SI := (sSeq (sAsg (iP (.int 1)) (gName 1))
  (sSeq (sFor (wAny (iVar 0)) (gTup 2 (gCons (gName 2) (gCons (gName 3) gNil))) (sSeq (sAsg (iBin oMulT (iBin oFdiv (iVar 1) (iCallC false e_common_divisor.run (aCons (iVar 1) (aCons (iVar 3) aNil)))) (iVar 3)) (gName 1))
  sNil))
  (sSeq (sRet (iCallC false e_without_divisor.run (aCons (iLc (wAny (iVar 0)) (gTup 2 (gCons (gName 4) (gCons (gName 3) gNil))) bYes (iBin oMulT (iVar 4) (iBin oFdiv (iVar 1) (iVar 3))) [4, 3]) aNil)))
  sNil)))
def e_whole_numbers : FnE := ⟨["row"], 3, [], runFn 1 5 r_whole_numbers⟩
def r_begun : SI := (sSeq (sRet (iIf (bVal (iBin oEq (iVar 0) (iP (.int 0)))) (iCallC false e_whole_numbers.run (aCons (iVar 1) aNil)) (iCallS cList (aCons (iVar 1) aNil))))
  sNil)
def e_begun : FnE := ⟨["field", "row"], 4, [], runFn 2 2 r_begun⟩
def r_cleared_above : SI := (sSeq (sFor (wRng3 (aCons (iBin oSub (iCallS cLen (aCons (iVar 1) aNil)) (iP (.int 1))) (aCons (iP (.int 0)) (aCons (iUn oNeg (iP (.int 1))) aNil)))) (gName 2) (sSeq (sAsg (iBin oIxA (iVar 1) (iVar 2)) (gTup 2 (gCons (gName 3) (gCons (gName 4) gNil))))
  (sSeq (sFor (wRng1 (aCons (iVar 2) aNil)) (gName 5) (sSeq (sAsg (iBin oIxA (iVar 1) (iVar 5)) (gTup 2 (gCons (gName 6) (gCons (gName 7) gNil))))
  (sSeq (sIf (bVal (iBin oNe (iBin oIxA (iVar 7) (iVar 3)) (iP (.int 0)))) (sSeq (sAsg (iTup (aCons (iVar 6) (aCons (iCallC false e_cleared.run (aCons (iVar 0) (aCons (iVar 7) (aCons (iVar 4) (aCons (iVar 3) aNil))))) aNil))) (gSubJ (iVar 1) (iVar 5)))
  sNil) sNil)
  sNil)))
  sNil)))
  sNil)
def e_cleared_above : FnE := ⟨["field", "found"], 4, [], runFn 2 8 r_cleared_above⟩
def r_told_row_echelon : SI := (sSeq (sIf (bVal (iBin oNe (iVar 0) (iP (.int 0)))) (sSeq (sRet (iCallS cTuple (aCons (iVar 2) aNil)))
  sNil) sNil)
  (sSeq (sAsg (iBin oIxA (iVar 2) (iVar 1)) (gName 3))
  (sSeq (sIf (bVal (iBin oLt (iVar 3) (iP (.int 0)))) (sSeq (sRet (iCallS cTuple (aCons (iLc (wAny (iVar 2)) (gName 4) bYes (iCallC false e_fraction.run (aCons (iUn oNeg (iVar 4)) (aCons (iUn oNeg (iVar 3)) aNil))) [4]) aNil)))
  sNil) sNil)
  (sSeq (sRet (iCallS cTuple (aCons (iLc (wAny (iVar 2)) (gName 4) bYes (iCallC false e_fraction.run (aCons (iVar 4) (aCons (iVar 3) aNil))) [4]) aNil)))
  sNil))))
def e_told_row_echelon : FnE := ⟨["field", "head", "numbers"], 3, [], runFn 3 5 r_told_row_echelon⟩
def r_echelon : SI := (sSeq (sAsg (iLst aNil) (gName 2))
  (sSeq (sFor (wAny (iVar 1)) (gName 3) (sSeq (sAsg (iCallC false e_with_more.run (aCons (iVar 0) (aCons (iVar 2) (aCons (iCallC false e_begun.run (aCons (iVar 0) (aCons (iVar 3) aNil))) aNil)))) (gName 2))
  sNil))
  (sSeq (sExpr (iCallC false e_cleared_above.run (aCons (iVar 0) (aCons (iVar 2) aNil))))
  (sSeq (sRet (iCallS cTuple (aCons (iLc (wAny (iVar 2)) (gTup 2 (gCons (gName 4) (gCons (gName 5) gNil))) bYes (iCallC false e_told_row_echelon.run (aCons (iVar 0) (aCons (iVar 4) (aCons (iVar 5) aNil)))) [4, 5]) aNil)))
  sNil))))
def e_echelon : FnE := ⟨["field", "rows"], 5, [], runFn 2 6 r_echelon⟩
def r_room_of : SI := (sSeq (sRet (iCallC false e_echelon.run (aCons (iVar 0) (aCons (iCallS cList (aCons (iVar 1) aNil)) aNil))))
  sNil)
def e_room_of : FnE := ⟨["field", "rows"], 6, [], runFn 2 2 r_room_of⟩
def r_sum_of_products : SI := (sSeq (sIf (bVal (iBin oNe (iVar 0) (iP (.int 0)))) (sSeq (sRet (iBin oMod iStuck (iVar 0)))
  sNil) sNil)
  (sSeq (sAsg (iTup (aCons (iP (.int 0)) (aCons (iP (.int 1)) aNil))) (gTup 2 (gCons (gName 5) (gCons (gName 6) gNil))))
  (sSeq (sFor (wZip (aCons (iVar 1) (aCons (iVar 2) aNil))) (gTup 2 (gCons (gName 3) (gCons (gName 4) gNil))) (sSeq (sIf (bOr (bVal (iBin oEq (iBin oIxA (iVar 3) (iP (.int 0))) (iP (.int 0)))) (bVal (iBin oEq (iBin oIxA (iVar 4) (iP (.int 0))) (iP (.int 0))))) (sSeq sCont
  sNil) sNil)
  (sSeq (sAsg (iBin oMulT (iBin oIxA (iVar 3) (iP (.int 1))) (iBin oIxA (iVar 4) (iP (.int 1)))) (gName 7))
  (sSeq (sIf (bVal (iBin oEq (iVar 7) (iVar 6))) (sSeq (sAug 5 oAddI (iBin oMulT (iBin oIxA (iVar 3) (iP (.int 0))) (iBin oIxA (iVar 4) (iP (.int 0)))))
  sNil) (sSeq (sPar 5 6 (aCons (iBin oAdd (iBin oMulT (iVar 5) (iVar 7)) (iBin oMulT (iBin oMulT (iBin oIxA (iVar 3) (iP (.int 0))) (iBin oIxA (iVar 4) (iP (.int 0)))) (iVar 6))) (aCons (iBin oMulT (iVar 6) (iVar 7)) aNil)))
  sNil))
  sNil))))
  (sSeq (sRet (iCallC false e_fraction.run (aCons (iVar 5) (aCons (iVar 6) aNil))))
  sNil))))
def e_sum_of_products : FnE := ⟨["field", "ones", "others"], 3, [], runFn 3 8 r_sum_of_products⟩
def r_led_by : SI := (sSeq (sRet (iCallS cTuple (aCons (iLc (wAny (iVar 2)) (gName 3) bYes (iCallC false e_sum_of_products.run (aCons (iVar 0) (aCons (iVar 1) (aCons (iVar 3) aNil)))) [3]) aNil)))
  sNil)
def e_led_by : FnE := ⟨["field", "row", "columns"], 4, [], runFn 3 4 r_led_by⟩
def r_led_room : SI := (sSeq (sAsg (iCallC false e_columns_of.run (aCons (iVar 2) aNil)) (gName 3))
  (sSeq (sRet (iCallC false e_room_of.run (aCons (iVar 0) (aCons (iLc (wAny (iVar 1)) (gName 4) bYes (iCallC false e_led_by.run (aCons (iVar 0) (aCons (iVar 4) (aCons (iVar 3) aNil)))) [4]) aNil))))
  sNil))
def e_led_room : FnE := ⟨["field", "room", "table"], 7, [], runFn 3 5 r_led_room⟩
def r_is_blind : SI := (sSeq (sAsg (iLc (wAny (iFld FL "arrows" (iVar 0))) (gName 3) (bVal (iBin oNe (iCallC false e_led_room.run (aCons (iFld FL "field" (iVar 0)) (aCons (iBin oIxA (iVar 1) (iBin oIxA (iVar 3) (iP (.int 1)))) (aCons (iBin oIxA (iVar 3) (iP (.int 5))) aNil)))) (iTup aNil))) (iVar 3) [3]) (gName 2))
  (sSeq (sRet (iBin oEq (iVar 2) (iLst aNil)))
  sNil))
def e_is_blind : FnE := ⟨["machine", "level"], 8, [], runFn 2 4 r_is_blind⟩
def r_is_no_row : SI := (sSeq (sRet (iBin oLt (iCallC false e_head_of.run (aCons (iVar 0) (aCons (iVar 1) aNil))) (iP (.int 0))))
  sNil)
def e_is_no_row : FnE := ⟨["field", "row"], 3, [], runFn 2 2 r_is_no_row⟩
def r_opposite : SI := (sSeq (sIf (bVal (iBin oNe (iVar 0) (iP (.int 0)))) (sSeq (sRet (iBin oMod (iUn oNeg (iVar 1)) (iVar 0)))
  sNil) sNil)
  (sSeq (sRet (iTup (aCons (iUn oNeg (iBin oIxA (iVar 1) (iP (.int 0)))) (aCons (iBin oIxA (iVar 1) (iP (.int 1))) aNil))))
  sNil))
def e_opposite : FnE := ⟨["field", "number"], 1, [], runFn 2 2 r_opposite⟩
def r_rest_of : SI := (sSeq (sIf (bVal (iBin oEq (iVar 2) (iTup aNil))) (sSeq (sRet (iCallS cTuple (aCons (iVar 1) aNil)))
  sNil) sNil)
  (sSeq (sAsg (iLc (wAny (iVar 2)) (gName 7) bYes (iCallC false e_opposite.run (aCons (iVar 0) (aCons (iBin oIxA (iVar 1) (iCallC false e_head_of.run (aCons (iVar 0) (aCons (iVar 7) aNil)))) aNil))) [7]) (gName 3))
  (sSeq (sAsg (iLst aNil) (gName 4))
  (sSeq (sFor (wZip (aCons (iVar 1) (aCons (iCallC false e_columns_of.run (aCons (iVar 2) aNil)) aNil))) (gTup 2 (gCons (gName 5) (gCons (gName 6) gNil))) (sSeq (sExpr (iMethT "list" mAppend (iVar 4) (aCons (iCallC false e_sum_of_products.run (aCons (iVar 0) (aCons (iBin oAdd (iLst (aCons (iCallC false e_one_of.run (aCons (iVar 0) aNil)) aNil)) (iVar 3)) (aCons (iBin oAdd (iTup (aCons (iVar 5) aNil)) (iVar 6)) aNil)))) aNil)))
  sNil))
  (sSeq (sRet (iCallS cTuple (aCons (iVar 4) aNil)))
  sNil)))))
def e_rest_of : FnE := ⟨["field", "row", "room"], 4, [], runFn 3 8 r_rest_of⟩
def r_stands_in : SI := (sSeq (sRet (iCallC false e_is_no_row.run (aCons (iVar 0) (aCons (iCallC false e_rest_of.run (aCons (iVar 0) (aCons (iVar 1) (aCons (iVar 2) aNil)))) aNil))))
  sNil)
def e_stands_in : FnE := ⟨["field", "row", "room"], 5, [], runFn 3 3 r_stands_in⟩
def r_room_within : SI := (sSeq (sRet (iBin oEq (iLc (wAny (iVar 1)) (gName 3) (bNot (bVal (iCallC false e_stands_in.run (aCons (iVar 0) (aCons (iVar 3) (aCons (iVar 2) aNil)))))) (iVar 3) [3]) (iLst aNil)))
  sNil)
def e_room_within : FnE := ⟨["field", "one", "other"], 6, [], runFn 3 4 r_room_within⟩
def r_leads_on : SI := (sSeq (sFor (wAny (iFld FL "arrows" (iVar 0))) (gName 3) (sSeq (sAsg (iCallC false e_led_room.run (aCons (iFld FL "field" (iVar 0)) (aCons (iBin oIxA (iVar 1) (iBin oIxA (iVar 3) (iP (.int 1)))) (aCons (iBin oIxA (iVar 3) (iP (.int 3))) aNil)))) (gName 4))
  (sSeq (sIf (bNot (bVal (iCallC false e_room_within.run (aCons (iFld FL "field" (iVar 0)) (aCons (iVar 4) (aCons (iBin oIxA (iVar 2) (iBin oIxA (iVar 3) (iP (.int 2)))) aNil)))))) (sSeq (sRet (iP (.bl false)))
  sNil) sNil)
  sNil)))
  (sSeq (sRet (iP (.bl true)))
  sNil))
def e_leads_on : FnE := ⟨["machine", "one", "other"], 8, [], runFn 3 5 r_leads_on⟩
def r_are_levels : SI := (sSeq (sIf (bOr (bNot (bVal (iCallS (cIsi CLS) (aCons (iVar 1) (aCons (iP (.ty "tuple")) aNil))))) (bVal (iBin oEq (iVar 1) (iTup aNil)))) (sSeq (sRet (iP (.bl false)))
  sNil) sNil)
  (sSeq (sIf (bVal (iBin oNe (iLc (wAny (iVar 1)) (gName 4) (bNot (bVal (iCallC false e_is_level.run (aCons (iVar 0) (aCons (iVar 4) aNil))))) (iVar 4) [4]) (iLst aNil))) (sSeq (sRet (iP (.bl false)))
  sNil) sNil)
  (sSeq (sAsg (iLc (wAny (iVar 1)) (gName 4) bYes (iCallS cDict (aCons (iVar 4) aNil)) [4]) (gName 2))
  (sSeq (sIf (bOr (bVal (iBin oNe (iBin oIxA (iVar 2) (iP (.int 0))) (iCallC false e_whole_rooms.run (aCons (iVar 0) aNil)))) (bNot (bVal (iCallC false e_is_blind.run (aCons (iVar 0) (aCons (iBin oIxA (iVar 2) (iUn oNeg (iP (.int 1)))) aNil)))))) (sSeq (sRet (iP (.bl false)))
  sNil) sNil)
  (sSeq (sAsg iStuck (gName 3))
  (sSeq (sRet (iBin oEq (iLc (wAny (iVar 3)) (gTup 2 (gCons (gName 5) (gCons (gName 6) gNil))) (bNot (bVal (iCallC false e_leads_on.run (aCons (iVar 0) (aCons (iVar 5) (aCons (iVar 6) aNil)))))) (iVar 5) [5, 6]) (iLst aNil)))
  sNil))))))
def e_are_levels : FnE := ⟨["machine", "value"], 9, [], runFn 2 7 r_are_levels⟩
def r_size_at : SI := (sSeq (sRet (iIf (bVal (iCallS (cIsi CLS) (aCons (iVar 1) (aCons (iP (.ty "str")) aNil)))) (iMethT "dict" mGet (iCallS cDict (aCons (iFld FL "places" (iVar 0)) aNil)) (aCons (iVar 1) aNil)) (iP .non)))
  sNil)
def e_size_at : FnE := ⟨["machine", "value"], 1, [], runFn 2 2 r_size_at⟩
def r_is_row_at : SI := (sSeq (sIf (bNot (bVal (iCallC false e_is_tuple_of.run (aCons (iVar 2) (aCons (iCallC false e_size_at.run (aCons (iVar 0) (aCons (iVar 1) aNil))) aNil))))) (sSeq (sRet (iP (.bl false)))
  sNil) sNil)
  (sSeq (sRet (iBin oEq (iLc (wAny (iVar 2)) (gName 3) (bNot (bVal (iCallC false e_is_number_of.run (aCons (iFld FL "field" (iVar 0)) (aCons (iVar 3) aNil))))) (iVar 3) [3]) (iLst aNil)))
  sNil))
def e_is_row_at : FnE := ⟨["machine", "place", "value"], 4, [], runFn 3 4 r_is_row_at⟩
def r_is_nought : SI := (sSeq (sRet (iBin oEq (iVar 1) (iCallC false e_no_row.run (aCons (iVar 0) (aCons (iCallS cLen (aCons (iVar 1) aNil)) aNil)))))
  sNil)
def e_is_nought : FnE := ⟨["field", "row"], 3, [], runFn 2 2 r_is_nought⟩
def r_led : SI := (sSeq (sRet (iCallC false e_led_by.run (aCons (iVar 0) (aCons (iVar 1) (aCons (iCallC false e_columns_of.run (aCons (iVar 2) aNil)) aNil)))))
  sNil)
def e_led : FnE := ⟨["field", "row", "table"], 5, [], runFn 3 3 r_led⟩
def r_arrow_of : SI := (sSeq (sRet (iBin oIxA (iCallC false e_arrows_by_name.run (aCons (iVar 0) aNil)) (iVar 1)))
  sNil)
def e_arrow_of : FnE := ⟨["machine", "name"], 2, [], runFn 2 2 r_arrow_of⟩
def r_led_along : SI := (sSeq (sFor (wAny (iVar 3)) (gName 4) (sSeq (sAsg (iCallC false e_led.run (aCons (iFld FL "field" (iVar 0)) (aCons (iVar 2) (aCons (iBin oIxA (iCallC false e_arrow_of.run (aCons (iVar 0) (aCons (iVar 4) aNil))) (iP (.int 3))) aNil)))) (gName 2))
  sNil))
  (sSeq (sRet (iVar 2))
  sNil))
def e_led_along : FnE := ⟨["machine", "place", "row", "way"], 6, [], runFn 4 5 r_led_along⟩
def r_last_look : SI := (sSeq (sAsg (iCallC false e_led_along.run (aCons (iVar 0) (aCons (iVar 1) (aCons (iVar 2) (aCons (iCut (iVar 3) pNone (pSome (iUn oNeg (iP (.int 1))))) aNil))))) (gName 4))
  (sSeq (sRet (iCallC false e_led.run (aCons (iFld FL "field" (iVar 0)) (aCons (iVar 4) (aCons (iBin oIxA (iCallC false e_arrow_of.run (aCons (iVar 0) (aCons (iBin oIxA (iVar 3) (iUn oNeg (iP (.int 1)))) aNil))) (iP (.int 5))) aNil)))))
  sNil))
def e_last_look : FnE := ⟨["machine", "place", "row", "way"], 7, [], runFn 4 5 r_last_look⟩
def r_is_seen : SI := (sSeq (sIf (bOr (bNot (bVal (iCallC false e_is_way.run (aCons (iVar 0) (aCons (iVar 1) (aCons (iVar 3) aNil)))))) (bVal (iBin oEq (iVar 3) (iTup aNil)))) (sSeq (sRet (iP (.bl false)))
  sNil) sNil)
  (sSeq (sRet (iNot (iCallC false e_is_nought.run (aCons (iFld FL "field" (iVar 0)) (aCons (iCallC false e_last_look.run (aCons (iVar 0) (aCons (iVar 1) (aCons (iVar 2) (aCons (iVar 3) aNil))))) aNil)))))
  sNil))
def e_is_seen : FnE := ⟨["machine", "place", "row", "way"], 8, [], runFn 4 4 r_is_seen⟩
def r_is_late : SI := (sSeq (sIf (bVal (iBin oEq (iVar 2) (iP (.int 0)))) (sSeq (sRet (iBin oIs (iVar 1) (iP .non)))
  sNil) sNil)
  (sSeq (sIf (bOr (bNot (bVal (iCallC false e_is_tuple_of.run (aCons (iVar 1) (aCons (iP (.int 3)) aNil))))) (bVal (iBin oIs (iCallC false e_size_at.run (aCons (iVar 0) (aCons (iBin oIxA (iVar 1) (iP (.int 0))) aNil))) (iP .non)))) (sSeq (sRet (iP (.bl false)))
  sNil) sNil)
  (sSeq (sAsg (iVar 1) (gTup 3 (gCons (gName 3) (gCons (gName 4) (gCons (gName 5) gNil)))))
  (sSeq (sIf (bOr (bNot (bVal (iCallC false e_is_row_at.run (aCons (iVar 0) (aCons (iVar 3) (aCons (iVar 4) aNil)))))) (bNot (bVal (iCallC false e_is_tuple_of.run (aCons (iVar 5) (aCons (iVar 2) aNil)))))) (sSeq (sRet (iP (.bl false)))
  sNil) sNil)
  (sSeq (sRet (iCallC false e_is_seen.run (aCons (iVar 0) (aCons (iVar 3) (aCons (iVar 4) (aCons (iVar 5) aNil))))))
  sNil)))))
def e_is_late : FnE := ⟨["machine", "value", "many"], 9, [], runFn 3 6 r_is_late⟩
def r_reads_forgets : SI := (sSeq (sIf (bOr (bNot (bVal (iCallC false e_is_tuple_of.run (aCons (iVar 1) (aCons (iP (.int 2)) aNil))))) (bNot (bVal (iCallC false e_are_levels.run (aCons (iVar 0) (aCons (iBin oIxA (iVar 1) (iP (.int 0))) aNil)))))) (sSeq (sRet (iP (.bl false)))
  sNil) sNil)
  (sSeq (sRet (iCallC false e_is_late.run (aCons (iVar 0) (aCons (iBin oIxA (iVar 1) (iP (.int 1))) (aCons (iBin oSub (iCallS cLen (aCons (iBin oIxA (iVar 1) (iP (.int 0))) aNil)) (iP (.int 1))) aNil)))))
  sNil))
def e_reads_forgets : FnE := ⟨["machine", "value"], 10, [], runFn 2 2 r_reads_forgets⟩
def r_end_of : SI := (sSeq (sRet (iIf (bVal (iBin (oInt fun i j => decide (j < i)) (iCallS cLen (aCons (iVar 2) aNil)) (iP (.int 0)))) (iBin oIxA (iCallC false e_arrow_of.run (aCons (iVar 0) (aCons (iBin oIxA (iVar 2) (iUn oNeg (iP (.int 1)))) aNil))) (iP (.int 2))) (iVar 1)))
  sNil)
def e_end_of : FnE := ⟨["machine", "place", "way"], 3, [], runFn 3 3 r_end_of⟩
def r_led_by_way : SI := (sSeq (sFor (wAny (iVar 2)) (gName 3) (sSeq (sAsg (iCallC false e_led_room.run (aCons (iFld FL "field" (iVar 0)) (aCons (iVar 1) (aCons (iBin oIxA (iCallC false e_arrow_of.run (aCons (iVar 0) (aCons (iVar 3) aNil))) (iP (.int 3))) aNil)))) (gName 1))
  sNil))
  (sSeq (sRet (iVar 1))
  sNil))
def e_led_by_way : FnE := ⟨["machine", "room", "way"], 8, [], runFn 3 4 r_led_by_way⟩
def r_comes_round : SI := (sSeq (sIf (bOr (bNot (bVal (iCallC false e_is_way.run (aCons (iVar 0) (aCons (iVar 1) (aCons (iVar 2) aNil)))))) (bOr (bVal (iBin oEq (iVar 2) (iTup aNil))) (bVal (iBin oNe (iCallC false e_end_of.run (aCons (iVar 0) (aCons (iVar 1) (aCons (iVar 2) aNil)))) (iVar 1))))) (sSeq (sRet (iP (.bl false)))
  sNil) sNil)
  (sSeq (sRet (iBin oEq (iCallC false e_led_by_way.run (aCons (iVar 0) (aCons (iVar 3) (aCons (iVar 2) aNil)))) (iVar 3)))
  sNil))
def e_comes_round : FnE := ⟨["machine", "place", "way", "room"], 9, [], runFn 4 4 r_comes_round⟩
def r_is_sight : SI := (sSeq (sIf (bOr (bNot (bVal (iCallC false e_is_tuple_of.run (aCons (iVar 3) (aCons (iP (.int 2)) aNil))))) (bOr (bNot (bVal (iCallS (cIsi CLS) (aCons (iBin oIxA (iVar 3) (iP (.int 0))) (aCons (iP (.ty "int")) aNil))))) (bVal (iCallS (cIsi CLS) (aCons (iBin oIxA (iVar 3) (iP (.int 0))) (aCons (iP (.ty "bool")) aNil)))))) (sSeq (sRet (iP (.bl false)))
  sNil) sNil)
  (sSeq (sRet (iAnd (iChain (oInt fun i j => decide (i ≤ j)) oLt (iP (.int 0)) (iBin oIxA (iVar 3) (iP (.int 0))) (iCallS cLen (aCons (iVar 2) aNil))) (iCallC false e_is_seen.run (aCons (iVar 0) (aCons (iVar 1) (aCons (iBin oIxA (iVar 2) (iBin oIxA (iVar 3) (iP (.int 0)))) (aCons (iBin oIxA (iVar 3) (iP (.int 1))) aNil)))))))
  sNil))
def e_is_sight : FnE := ⟨["machine", "place", "room", "value"], 9, [], runFn 4 4 r_is_sight⟩
def r_reads_never : SI := (sSeq (sIf (bOr (bNot (bVal (iCallC false e_is_tuple_of.run (aCons (iVar 1) (aCons (iP (.int 4)) aNil))))) (bVal (iBin oIs (iCallC false e_size_at.run (aCons (iVar 0) (aCons (iBin oIxA (iVar 1) (iP (.int 0))) aNil))) (iP .non)))) (sSeq (sRet (iP (.bl false)))
  sNil) sNil)
  (sSeq (sAsg (iVar 1) (gTup 4 (gCons (gName 2) (gCons (gName 3) (gCons (gName 4) (gCons (gName 5) gNil))))))
  (sSeq (sIf (bOr (bNot (bVal (iCallC false e_is_room.run (aCons (iFld FL "field" (iVar 0)) (aCons (iCallC false e_size_at.run (aCons (iVar 0) (aCons (iVar 2) aNil))) (aCons (iVar 4) aNil)))))) (bVal (iBin oEq (iVar 4) (iTup aNil)))) (sSeq (sRet (iP (.bl false)))
  sNil) sNil)
  (sSeq (sRet (iAnd (iCallC false e_comes_round.run (aCons (iVar 0) (aCons (iVar 2) (aCons (iVar 3) (aCons (iVar 4) aNil))))) (iCallC false e_is_sight.run (aCons (iVar 0) (aCons (iVar 2) (aCons (iVar 4) (aCons (iVar 5) aNil)))))))
  sNil))))
def e_reads_never : FnE := ⟨["machine", "value"], 10, [], runFn 2 6 r_reads_never⟩
def r_read_answer : SI := (sSeq (sIf (bOr (bNot (bVal (iCallS (cIsi CLS) (aCons (iVar 1) (aCons (iP (.glo "Answer")) aNil))))) (bNot (bVal (iCallS (cIsi CLS) (aCons (iFld FL "word" (iVar 1)) (aCons (iP (.ty "str")) aNil)))))) (sSeq (sRet (iP (.bl false)))
  sNil) sNil)
  (sSeq (sIf (bVal (iBin oEq (iFld FL "word" (iVar 1)) (iP (.str "forgets")))) (sSeq (sRet (iCallC false e_reads_forgets.run (aCons (iVar 0) (aCons (iFld FL "paper" (iVar 1)) aNil))))
  sNil) sNil)
  (sSeq (sRet (iAnd (iBin oEq (iFld FL "word" (iVar 1)) (iP (.str "never"))) (iCallC false e_reads_never.run (aCons (iVar 0) (aCons (iFld FL "paper" (iVar 1)) aNil)))))
  sNil)))
def e_read_answer : FnE := ⟨["machine", "value"], 11, [], runFn 2 2 r_read_answer⟩
def r_wide_row : SI := (sSeq (sRet (iBin oAdd (iTup (aCons (iCallC false e_one_of.run (aCons (iVar 0) aNil)) aNil)) (iCallS cTuple (aCons (iVar 1) aNil))))
  sNil)
def e_wide_row : FnE := ⟨["field", "row"], 2, [], runFn 2 2 r_wide_row⟩
def r_are_kept_rooms : SI := (sSeq (sIf (bNot (bVal (iCallC false e_is_level.run (aCons (iVar 0) (aCons (iVar 3) aNil))))) (sSeq (sRet (iP (.bl false)))
  sNil) sNil)
  (sSeq (sAsg (iCallS cDict (aCons (iVar 3) aNil)) (gName 4))
  (sSeq (sRet (iAnd (iCallC false e_stands_in.run (aCons (iFld FL "field" (iVar 0)) (aCons (iVar 2) (aCons (iBin oIxA (iVar 4) (iVar 1)) aNil)))) (iCallC false e_leads_on.run (aCons (iVar 0) (aCons (iVar 4) (aCons (iVar 4) aNil))))))
  sNil)))
def e_are_kept_rooms : FnE := ⟨["machine", "place", "row", "value"], 9, [], runFn 4 5 r_are_kept_rooms⟩
def r_wide_table : SI := (sSeq (sRet (iBin oAdd (iTup (aCons (iCallC false e_wide_row.run (aCons (iVar 0) (aCons (iVar 2) aNil))) aNil)) (iCallS cTuple (aCons (iLc (wAny (iVar 1)) (gName 3) bYes (iBin oAdd (iTup (aCons (iCallC false e_zero_of.run (aCons (iVar 0) aNil)) aNil)) (iVar 3)) [3]) aNil))))
  sNil)
def e_wide_table : FnE := ⟨["field", "table", "shift"], 3, [], runFn 3 4 r_wide_table⟩
def r_wide_arrow : SI := (sSeq (sAsg (iFld FL "field" (iVar 0)) (gName 2))
  (sSeq (sAsg (iCallC false e_wide_table.run (aCons (iVar 2) (aCons (iBin oIxA (iVar 1) (iP (.int 3))) (aCons (iBin oIxA (iVar 1) (iP (.int 4))) aNil)))) (gName 3))
  (sSeq (sAsg (iBin oAdd (iTup (aCons (iBin oIxA (iVar 1) (iP (.int 6))) aNil)) (iBin oIxA (iVar 1) (iP (.int 5)))) (gName 4))
  (sSeq (sRet (iBin oAdd (iCut (iVar 1) pNone (pSome (iP (.int 3)))) (iTup (aCons (iVar 3) (aCons (iCallC false e_no_row.run (aCons (iVar 2) (aCons (iCallS cLen (aCons (iBin oIxA (iVar 3) (iP (.int 0))) aNil)) aNil))) (aCons (iVar 4) (aCons (iCallC false e_no_row.run (aCons (iVar 2) (aCons (iFld FL "reads" (iVar 0)) aNil))) aNil)))))))
  sNil))))
def e_wide_arrow : FnE := ⟨["machine", "arrow"], 4, [], runFn 2 5 r_wide_arrow⟩
def r_wide : SI := (sSeq (sAsg (iCallS cTuple (aCons (iLc (wAny (iFld FL "places" (iVar 0))) (gTup 2 (gCons (gName 3) (gCons (gName 4) gNil))) bYes (iTup (aCons (iVar 3) (aCons (iBin oAdd (iVar 4) (iP (.int 1))) aNil))) [3, 4]) aNil)) (gName 1))
  (sSeq (sAsg (iCallS cTuple (aCons (iLc (wAny (iFld FL "arrows" (iVar 0))) (gName 5) bYes (iCallC false e_wide_arrow.run (aCons (iVar 0) (aCons (iVar 5) aNil))) [5]) aNil)) (gName 2))
  (sSeq (sRet (iMake false "Machine" e_Machine_init.run (aCons (iFld FL "field" (iVar 0)) (aCons (iFld FL "reads" (iVar 0)) (aCons (iVar 1) (aCons (iVar 2) aNil))))))
  sNil)))
def e_wide : FnE := ⟨["machine"], 5, [], runFn 1 6 r_wide⟩
def r_worth : SI := (sSeq (sRet (iCallC false e_sum_of_products.run (aCons (iVar 0) (aCons (iVar 1) (aCons (iVar 2) aNil)))))
  sNil)
def e_worth : FnE := ⟨["field", "relation", "row"], 4, [], runFn 3 3 r_worth⟩
def r_gives_nought : SI := (sSeq (sRet (iCallC false e_is_zero.run (aCons (iVar 0) (aCons (iCallC false e_worth.run (aCons (iVar 0) (aCons (iVar 1) (aCons (iVar 2) aNil)))) aNil))))
  sNil)
def e_gives_nought : FnE := ⟨["field", "relation", "row"], 5, [], runFn 3 3 r_gives_nought⟩
def r_gives_nought_of_all : SI := (sSeq (sRet (iBin oEq (iLc (wAny (iVar 2)) (gName 3) (bNot (bVal (iCallC false e_gives_nought.run (aCons (iVar 0) (aCons (iVar 1) (aCons (iVar 3) aNil)))))) (iVar 3) [3]) (iLst aNil)))
  sNil)
def e_gives_nought_of_all : FnE := ⟨["field", "relation", "room"], 6, [], runFn 3 4 r_gives_nought_of_all⟩
def r_reads_always : SI := (sSeq (sAsg (iCallC false e_wide_row.run (aCons (iFld FL "field" (iVar 0)) (aCons (iFld FL "row" (iVar 1)) aNil))) (gName 5))
  (sSeq (sIf (bNot (bVal (iCallC false e_are_kept_rooms.run (aCons (iCallC false e_wide.run (aCons (iVar 0) aNil)) (aCons (iFld FL "place" (iVar 1)) (aCons (iVar 5) (aCons (iVar 4) aNil))))))) (sSeq (sRet (iP (.bl false)))
  sNil) sNil)
  (sSeq (sRet (iCallC false e_gives_nought_of_all.run (aCons (iFld FL "field" (iVar 0)) (aCons (iVar 3) (aCons (iBin oIxA (iCallS cDict (aCons (iVar 4) aNil)) (iVar 2)) aNil)))))
  sNil)))
def e_reads_always : FnE := ⟨["machine", "start", "place", "relation", "value"], 10, [], runFn 5 6 r_reads_always⟩
def r_reads_broken : SI := (sSeq (sIf (bOr (bNot (bVal (iCallC false e_is_way.run (aCons (iVar 0) (aCons (iFld FL "place" (iVar 1)) (aCons (iVar 4) aNil)))))) (bVal (iBin oNe (iCallC false e_end_of.run (aCons (iVar 0) (aCons (iFld FL "place" (iVar 1)) (aCons (iVar 4) aNil)))) (iVar 2)))) (sSeq (sRet (iP (.bl false)))
  sNil) sNil)
  (sSeq (sAsg (iCallC false e_led_along.run (aCons (iCallC false e_wide.run (aCons (iVar 0) aNil)) (aCons (iFld FL "place" (iVar 1)) (aCons (iCallC false e_wide_row.run (aCons (iFld FL "field" (iVar 0)) (aCons (iFld FL "row" (iVar 1)) aNil))) (aCons (iVar 4) aNil))))) (gName 5))
  (sSeq (sRet (iNot (iCallC false e_gives_nought.run (aCons (iFld FL "field" (iVar 0)) (aCons (iVar 3) (aCons (iVar 5) aNil))))))
  sNil)))
def e_reads_broken : FnE := ⟨["machine", "start", "place", "relation", "value"], 7, [], runFn 5 6 r_reads_broken⟩
def r_read_relation : SI := (sSeq (sIf (bOr (bNot (bVal (iCallS (cIsi CLS) (aCons (iVar 4) (aCons (iP (.glo "Answer")) aNil))))) (bNot (bVal (iCallS (cIsi CLS) (aCons (iFld FL "word" (iVar 4)) (aCons (iP (.ty "str")) aNil)))))) (sSeq (sRet (iP (.bl false)))
  sNil) sNil)
  (sSeq (sIf (bVal (iBin oEq (iFld FL "word" (iVar 4)) (iP (.str "always")))) (sSeq (sRet (iCallC false e_reads_always.run (aCons (iVar 0) (aCons (iVar 1) (aCons (iVar 2) (aCons (iVar 3) (aCons (iFld FL "paper" (iVar 4)) aNil)))))))
  sNil) sNil)
  (sSeq (sRet (iAnd (iBin oEq (iFld FL "word" (iVar 4)) (iP (.str "broken"))) (iCallC false e_reads_broken.run (aCons (iVar 0) (aCons (iVar 1) (aCons (iVar 2) (aCons (iVar 3) (aCons (iFld FL "paper" (iVar 4)) aNil))))))))
  sNil)))
def e_read_relation : FnE := ⟨["machine", "start", "place", "relation", "value"], 11, [], runFn 5 5 r_read_relation⟩
def r_place_names : SI := (sSeq (sRet (iLc (wAny (iFld FL "places" (iVar 0))) (gTup 2 (gCons (gName 1) (gCons (gName 2) gNil))) bYes (iVar 1) [1, 2]))
  sNil)
def e_place_names : FnE := ⟨["machine"], 1, [], runFn 1 3 r_place_names⟩
def r_arrow_heads : SI := (sSeq (sRet (iLc (wAny (iFld FL "arrows" (iVar 0))) (gName 1) bYes (iCut (iVar 1) pNone (pSome (iP (.int 3)))) [1]))
  sNil)
def e_arrow_heads : FnE := ⟨["machine"], 1, [], runFn 1 2 r_arrow_heads⟩
def r_is_same_web : SI := (sSeq (sIf (bOr (bVal (iBin oNe (iFld FL "field" (iVar 0)) (iFld FL "field" (iVar 1)))) (bVal (iBin oNe (iCallC false e_place_names.run (aCons (iVar 0) aNil)) (iCallC false e_place_names.run (aCons (iVar 1) aNil))))) (sSeq (sRet (iP (.bl false)))
  sNil) sNil)
  (sSeq (sRet (iBin oEq (iCallC false e_arrow_heads.run (aCons (iVar 0) aNil)) (iCallC false e_arrow_heads.run (aCons (iVar 1) aNil))))
  sNil))
def e_is_same_web : FnE := ⟨["one", "other"], 2, [], runFn 2 2 r_is_same_web⟩
def r_need_same_web : SI := (sSeq (sIf (bNot (bVal (iCallC false e_is_same_web.run (aCons (iVar 0) (aCons (iVar 1) aNil))))) (sSeq sStuck
  sNil) sNil)
  sNil)
def e_need_same_web : FnE := ⟨["one", "other"], 3, [], runFn 2 2 r_need_same_web⟩
def r_behind_zeros : SI := (sSeq (sRet (iBin oAdd (iCallC false e_no_row.run (aCons (iVar 0) (aCons (iVar 1) aNil))) (iVar 2)))
  sNil)
def e_behind_zeros : FnE := ⟨["field", "many", "row"], 3, [], runFn 3 3 r_behind_zeros⟩
def r_ahead_of_zeros : SI := (sSeq (sRet (iBin oAdd (iVar 1) (iCallC false e_no_row.run (aCons (iVar 0) (aCons (iVar 2) aNil)))))
  sNil)
def e_ahead_of_zeros : FnE := ⟨["field", "row", "many"], 3, [], runFn 3 3 r_ahead_of_zeros⟩
def r_blocks : SI := (sSeq (sAsg (iLc (wAny (iVar 1)) (gName 4) bYes (iCallC false e_ahead_of_zeros.run (aCons (iVar 0) (aCons (iVar 4) (aCons (iCallS cLen (aCons (iBin oIxA (iVar 2) (iP (.int 0))) aNil)) aNil)))) [4]) (gName 3))
  (sSeq (sRet (iCallS cTuple (aCons (iBin oAdd (iVar 3) (iLc (wAny (iVar 2)) (gName 4) bYes (iCallC false e_behind_zeros.run (aCons (iVar 0) (aCons (iCallS cLen (aCons (iBin oIxA (iVar 1) (iP (.int 0))) aNil)) (aCons (iVar 4) aNil)))) [4])) aNil)))
  sNil))
def e_blocks : FnE := ⟨["field", "one", "other"], 4, [], runFn 3 5 r_blocks⟩
def r_plus : SI := (sSeq (sIf (bVal (iBin oNe (iVar 0) (iP (.int 0)))) (sSeq (sRet (iBin oMod (iBin oAdd (iVar 1) (iVar 2)) (iVar 0)))
  sNil) sNil)
  (sSeq (sRet (iCallC false e_fraction.run (aCons (iBin oAdd (iBin oMulT (iBin oIxA (iVar 1) (iP (.int 0))) (iBin oIxA (iVar 2) (iP (.int 1)))) (iBin oMulT (iBin oIxA (iVar 2) (iP (.int 0))) (iBin oIxA (iVar 1) (iP (.int 1))))) (aCons (iBin oMulT (iBin oIxA (iVar 1) (iP (.int 1))) (iBin oIxA (iVar 2) (iP (.int 1)))) aNil))))
  sNil))
def e_plus : FnE := ⟨["field", "one", "other"], 3, [], runFn 3 3 r_plus⟩
def r_row_plus : SI := (sSeq (sRet (iCallS cTuple (aCons (iLc (wZip (aCons (iVar 1) (aCons (iVar 2) aNil))) (gTup 2 (gCons (gName 3) (gCons (gName 4) gNil))) bYes (iCallC false e_plus.run (aCons (iVar 0) (aCons (iVar 3) (aCons (iVar 4) aNil)))) [3, 4]) aNil)))
  sNil)
def e_row_plus : FnE := ⟨["field", "one", "other"], 4, [], runFn 3 5 r_row_plus⟩
def r_scaled : SI := (sSeq (sRet (iCallS cTuple (aCons (iLc (wAny (iVar 2)) (gName 3) bYes (iCallC false e_times.run (aCons (iVar 0) (aCons (iVar 1) (aCons (iVar 3) aNil)))) [3]) aNil)))
  sNil)
def e_scaled : FnE := ⟨["field", "number", "row"], 4, [], runFn 3 4 r_scaled⟩
def r_less_row : SI := (sSeq (sRet (iCallC false e_scaled.run (aCons (iVar 0) (aCons (iCallC false e_opposite.run (aCons (iVar 0) (aCons (iCallC false e_one_of.run (aCons (iVar 0) aNil)) aNil))) (aCons (iVar 1) aNil)))))
  sNil)
def e_less_row : FnE := ⟨["field", "row"], 5, [], runFn 2 2 r_less_row⟩
def r_difference_arrow : SI := (sSeq (sAsg (iTup (aCons (iBin oAdd (iBin oAdd (iTup (aCons (iCallC false e_one_of.run (aCons (iVar 0) aNil)) aNil)) (iBin oIxA (iVar 1) (iP (.int 4)))) (iBin oIxA (iVar 2) (iP (.int 4)))) aNil)) (gName 3))
  (sSeq (sAsg (iBin oAdd (iVar 3) (iCallS cTuple (aCons (iLc (wAny (iCallC false e_blocks.run (aCons (iVar 0) (aCons (iBin oIxA (iVar 1) (iP (.int 3))) (aCons (iBin oIxA (iVar 2) (iP (.int 3))) aNil))))) (gName 5) bYes (iCallC false e_behind_zeros.run (aCons (iVar 0) (aCons (iP (.int 1)) (aCons (iVar 5) aNil)))) [5]) aNil))) (gName 3))
  (sSeq (sAsg (iBin oAdd (iTup (aCons (iCallC false e_row_plus.run (aCons (iVar 0) (aCons (iBin oIxA (iVar 1) (iP (.int 6))) (aCons (iCallC false e_less_row.run (aCons (iVar 0) (aCons (iBin oIxA (iVar 2) (iP (.int 6))) aNil))) aNil)))) aNil)) (iBin oIxA (iVar 1) (iP (.int 5)))) (gName 4))
  (sSeq (sAsg (iBin oAdd (iVar 4) (iCallS cTuple (aCons (iLc (wAny (iBin oIxA (iVar 2) (iP (.int 5)))) (gName 5) bYes (iCallC false e_less_row.run (aCons (iVar 0) (aCons (iVar 5) aNil))) [5]) aNil))) (gName 4))
  (sSeq (sRet (iBin oAdd (iCut (iVar 1) pNone (pSome (iP (.int 3)))) (iTup (aCons (iVar 3) (aCons (iCallC false e_no_row.run (aCons (iVar 0) (aCons (iCallS cLen (aCons (iBin oIxA (iVar 3) (iP (.int 0))) aNil)) aNil))) (aCons (iVar 4) (aCons (iCallC false e_no_row.run (aCons (iVar 0) (aCons (iCallS cLen (aCons (iBin oIxA (iVar 1) (iP (.int 6))) aNil)) aNil))) aNil)))))))
  sNil)))))
def e_difference_arrow : FnE := ⟨["field", "one", "other"], 6, [], runFn 3 6 r_difference_arrow⟩
def r_difference : SI := (sSeq (sExpr (iCallC false e_need_same_web.run (aCons (iVar 0) (aCons (iVar 1) aNil))))
  (sSeq (sIf (bVal (iBin oNe (iFld FL "reads" (iVar 0)) (iFld FL "reads" (iVar 1)))) (sSeq sStuck
  sNil) sNil)
  (sSeq (sAsg (iCallS cTuple (aCons (iLc (wZip (aCons (iFld FL "places" (iVar 0)) (aCons (iFld FL "places" (iVar 1)) aNil))) (gTup 2 (gCons (gTup 2 (gCons (gName 4) (gCons (gName 5) gNil))) (gCons (gTup 2 (gCons (gName 6) (gCons (gName 7) gNil))) gNil))) bYes (iTup (aCons (iVar 4) (aCons (iBin oAdd (iBin oAdd (iP (.int 1)) (iVar 5)) (iVar 7)) aNil))) [4, 5, 6, 7]) aNil)) (gName 2))
  (sSeq (sAsg (iLc (wZip (aCons (iFld FL "arrows" (iVar 0)) (aCons (iFld FL "arrows" (iVar 1)) aNil))) (gTup 2 (gCons (gName 8) (gCons (gName 9) gNil))) bYes (iCallC false e_difference_arrow.run (aCons (iFld FL "field" (iVar 0)) (aCons (iVar 8) (aCons (iVar 9) aNil)))) [8, 9]) (gName 3))
  (sSeq (sRet (iMake false "Machine" e_Machine_init.run (aCons (iFld FL "field" (iVar 0)) (aCons (iFld FL "reads" (iVar 0)) (aCons (iVar 2) (aCons (iCallS cTuple (aCons (iVar 3) aNil)) aNil))))))
  sNil)))))
def e_difference : FnE := ⟨["one", "other"], 7, [], runFn 2 10 r_difference⟩
def r_both_rows : SI := (sSeq (sRet (iCallC false e_wide_row.run (aCons (iVar 0) (aCons (iBin oAdd (iCallS cTuple (aCons (iFld FL "row" (iVar 1)) aNil)) (iCallS cTuple (aCons (iFld FL "row" (iVar 2)) aNil))) aNil))))
  sNil)
def e_both_rows : FnE := ⟨["field", "start", "late"], 3, [], runFn 3 3 r_both_rows⟩
def r_are_blind_rooms : SI := (sSeq (sRet (iCallC false e_is_blind.run (aCons (iVar 0) (aCons (iCallS cDict (aCons (iVar 1) aNil)) aNil))))
  sNil)
def e_are_blind_rooms : FnE := ⟨["machine", "value"], 9, [], runFn 2 2 r_are_blind_rooms⟩
def r_reads_alike : SI := (sSeq (sRet (iAnd (iCallC false e_are_kept_rooms.run (aCons (iVar 0) (aCons (iVar 1) (aCons (iVar 2) (aCons (iVar 3) aNil))))) (iCallC false e_are_blind_rooms.run (aCons (iVar 0) (aCons (iVar 3) aNil)))))
  sNil)
def e_reads_alike : FnE := ⟨["machine", "place", "row", "value"], 10, [], runFn 4 4 r_reads_alike⟩
def r_reads_parted : SI := (sSeq (sIf (bOr (bNot (bVal (iCallC false e_is_way.run (aCons (iVar 0) (aCons (iVar 1) (aCons (iVar 3) aNil)))))) (bVal (iBin oEq (iVar 3) (iTup aNil)))) (sSeq (sRet (iP (.bl false)))
  sNil) sNil)
  (sSeq (sRet (iNot (iCallC false e_is_nought.run (aCons (iFld FL "field" (iVar 0)) (aCons (iCallC false e_last_look.run (aCons (iVar 0) (aCons (iVar 1) (aCons (iVar 2) (aCons (iVar 3) aNil))))) aNil)))))
  sNil))
def e_reads_parted : FnE := ⟨["machine", "place", "row", "value"], 8, [], runFn 4 4 r_reads_parted⟩
def r_read_alike_from : SI := (sSeq (sIf (bOr (bNot (bVal (iCallS (cIsi CLS) (aCons (iVar 4) (aCons (iP (.glo "Answer")) aNil))))) (bNot (bVal (iCallS (cIsi CLS) (aCons (iFld FL "word" (iVar 4)) (aCons (iP (.ty "str")) aNil)))))) (sSeq (sRet (iP (.bl false)))
  sNil) sNil)
  (sSeq (sPar 5 6 (aCons (iCallC false e_difference.run (aCons (iVar 0) (aCons (iVar 1) aNil))) (aCons (iCallC false e_both_rows.run (aCons (iFld FL "field" (iVar 0)) (aCons (iVar 2) (aCons (iVar 3) aNil)))) aNil)))
  (sSeq (sIf (bVal (iBin oEq (iFld FL "word" (iVar 4)) (iP (.str "alike")))) (sSeq (sRet (iCallC false e_reads_alike.run (aCons (iVar 5) (aCons (iFld FL "place" (iVar 2)) (aCons (iVar 6) (aCons (iFld FL "paper" (iVar 4)) aNil))))))
  sNil) sNil)
  (sSeq (sRet (iAnd (iBin oEq (iFld FL "word" (iVar 4)) (iP (.str "parted"))) (iCallC false e_reads_parted.run (aCons (iVar 5) (aCons (iFld FL "place" (iVar 2)) (aCons (iVar 6) (aCons (iFld FL "paper" (iVar 4)) aNil)))))))
  sNil))))
def e_read_alike_from : FnE := ⟨["one", "other", "start", "late", "value"], 11, [], runFn 5 7 r_read_alike_from⟩
def r__law_room_values : SI := (sSeq (sAsg (iTup (aCons (iTup (aCons (iP (.int 0)) (aCons (iP (.int 1)) aNil))) (aCons (iTup (aCons (iP (.int 1)) (aCons (iP (.int 1)) aNil))) (aCons (iTup (aCons (iP (.int 2)) (aCons (iP (.int 1)) aNil))) (aCons (iTup (aCons (iP (.int 1)) (aCons (iP (.int 2)) aNil))) aNil))))) (gTup 4 (gCons (gName 0) (gCons (gName 1) (gCons (gName 2) (gCons (gName 3) gNil))))))
  (sSeq (sAsg (iLst (aCons (iTup aNil) (aCons (iTup (aCons (iTup (aCons (iVar 1) (aCons (iVar 2) (aCons (iVar 3) aNil)))) aNil)) (aCons (iTup (aCons (iTup (aCons (iVar 1) (aCons (iVar 0) (aCons (iVar 0) aNil)))) (aCons (iTup (aCons (iVar 0) (aCons (iVar 1) (aCons (iVar 0) aNil)))) (aCons (iTup (aCons (iVar 0) (aCons (iVar 0) (aCons (iVar 1) aNil)))) aNil)))) (aCons (iTup (aCons (iTup (aCons (iVar 1) (aCons (iVar 3) (aCons (iVar 0) aNil)))) (aCons (iTup (aCons (iVar 0) (aCons (iVar 0) (aCons (iVar 1) aNil)))) aNil))) (aCons (iTup (aCons (iTup (aCons (iVar 0) (aCons (iVar 1) (aCons (iVar 2) aNil)))) aNil)) aNil)))))) (gName 4))
  (sSeq (sAsg (iLst (aCons (iTup (aCons (iTup (aCons (iVar 2) (aCons (iVar 0) (aCons (iVar 0) aNil)))) aNil)) (aCons (iTup (aCons (iTup (aCons (iVar 0) (aCons (iVar 0) (aCons (iVar 0) aNil)))) aNil)) (aCons (iTup (aCons (iTup (aCons (iVar 0) (aCons (iVar 1) (aCons (iVar 0) aNil)))) (aCons (iTup (aCons (iVar 1) (aCons (iVar 0) (aCons (iVar 0) aNil)))) aNil))) (aCons (iTup (aCons (iTup (aCons (iVar 1) (aCons (iVar 0) (aCons (iVar 0) aNil)))) (aCons (iTup (aCons (iVar 1) (aCons (iVar 0) (aCons (iVar 0) aNil)))) aNil))) (aCons (iTup (aCons (iTup (aCons (iVar 1) (aCons (iVar 0) (aCons (iVar 0) aNil)))) (aCons (iTup (aCons (iVar 0) (aCons (iVar 0) (aCons (iVar 0) aNil)))) aNil))) aNil)))))) (gName 5))
  (sSeq (sAsg (iBin oAdd (iVar 5) (iLst (aCons (iTup (aCons (iTup (aCons (iVar 1) (aCons (iVar 2) (aCons (iVar 0) aNil)))) (aCons (iTup (aCons (iVar 0) (aCons (iVar 1) (aCons (iVar 0) aNil)))) aNil))) (aCons (iTup (aCons (iTup (aCons (iVar 1) (aCons (iVar 0) (aCons (iVar 2) aNil)))) (aCons (iTup (aCons (iVar 0) (aCons (iVar 0) (aCons (iVar 1) aNil)))) aNil))) aNil)))) (gName 5))
  (sSeq (sAsg (iBin oAdd (iVar 5) (iLst (aCons (iTup (aCons (iTup (aCons (iVar 1) (aCons (iVar 0) aNil))) aNil)) (aCons (iTup (aCons (iTup (aCons (iVar 1) (aCons (iVar 0) (aCons (iVar 0) (aCons (iVar 0) aNil))))) aNil)) aNil)))) (gName 5))
  (sSeq (sAsg (iBin oAdd (iVar 5) (iLst (aCons (iTup (aCons (iTup (aCons (iVar 1) (aCons (iVar 0) (aCons (iP (.int 0)) aNil)))) aNil)) (aCons (iTup (aCons (iTup (aCons (iVar 1) (aCons (iVar 0) (aCons (iTup (aCons (iP (.int 2)) (aCons (iP (.int 2)) aNil))) aNil)))) aNil)) (aCons (iTup (aCons (iTup (aCons (iVar 1) (aCons (iVar 0) (aCons (iTup (aCons (iP (.int 1)) (aCons (iP (.int 0)) aNil))) aNil)))) aNil)) (aCons (iTup (aCons (iTup (aCons (iVar 1) (aCons (iVar 0) (aCons (iTup (aCons (iP (.int 1)) (aCons (iBin oSub (iP (.int 0)) (iP (.int 2))) aNil))) aNil)))) aNil)) (aCons (iTup (aCons (iTup (aCons (iVar 1) (aCons (iVar 0) (aCons (iTup (aCons (iP (.bl true)) (aCons (iP (.int 1)) aNil))) aNil)))) aNil)) (aCons (iTup (aCons (iTup (aCons (iVar 1) (aCons (iVar 0) (aCons (iTup (aCons (iP (.int 0)) (aCons (iP (.int 2)) aNil))) aNil)))) aNil)) (aCons (iTup (aCons (iLst (aCons (iVar 1) (aCons (iVar 0) (aCons (iVar 0) aNil)))) aNil)) (aCons (iLst (aCons (iTup (aCons (iVar 1) (aCons (iVar 0) (aCons (iVar 0) aNil)))) aNil)) (aCons (iTup (aCons (iTup (aCons (iVar 1) (aCons (iVar 0) (aCons (iLst (aCons (iP (.int 0)) (aCons (iP (.int 1)) aNil))) aNil)))) aNil)) (aCons (iTup (aCons (iTup (aCons (iVar 1) (aCons (iVar 0) (aCons (iP .non) aNil)))) aNil)) (aCons (iTup (aCons (iVar 1) (aCons (iVar 0) (aCons (iVar 0) aNil)))) (aCons (iTup (aCons (iTup (aCons (iVar 1) (aCons (iVar 0) (aCons (iVar 0) aNil)))) (aCons (iP .non) aNil))) (aCons (iTup (aCons (iTup (aCons (iVar 1) (aCons (iVar 0) (aCons (iP (.str "0")) aNil)))) aNil)) (aCons (iTup (aCons (iTup (aCons (iP (.int 1)) (aCons (iP (.int 0)) (aCons (iP (.int 0)) aNil)))) aNil)) aNil)))))))))))))))) (gName 5))
  (sSeq (sRet (iBin oAdd (iLc (wAny (iVar 4)) (gName 6) bYes (iTup (aCons (iVar 6) (aCons (iP (.bl true)) aNil))) [6]) (iLc (wAny (iVar 5)) (gName 6) bYes (iTup (aCons (iVar 6) (aCons (iP (.bl false)) aNil))) [6])))
  sNil)))))))
def e__law_room_values : FnE := ⟨[], 1, [], runFn 0 7 r__law_room_values⟩
def r__law_plain : SI := (sSeq (sRet (iVar 0))
  sNil)
def e__law_plain : FnE := ⟨["value"], 1, [], runFn 1 1 r__law_plain⟩
def r__law_is_kind : SI := (sSeq (sIf (bVal (iBin oIs (iVar 1) (iP .non))) (sSeq (sRet (iBin oIs (iVar 0) (iP .non)))
  sNil) sNil)
  (sSeq (sIf (bOr (bVal (iBin oIs (iVar 1) (iP (.bl true)))) (bVal (iBin oIs (iVar 1) (iP (.bl false))))) (sSeq (sRet (iIf (bVal (iVar 1)) (iBin oIs (iVar 0) (iP (.bl true))) (iBin oIs (iVar 0) (iP (.bl false)))))
  sNil) sNil)
  (sSeq (sIf (bVal (iCallS (cIsi CLS) (aCons (iVar 1) (aCons (iP (.ty "str")) aNil)))) (sSeq (sRet (iAnd (iCallS (cIsi CLS) (aCons (iVar 0) (aCons (iP (.ty "str")) aNil))) (iBin oEq (iVar 0) (iVar 1))))
  sNil) sNil)
  (sSeq (sRet (iAnd (iCallS (cIsi CLS) (aCons (iVar 0) (aCons (iP (.ty "int")) aNil))) (iAnd (iNot (iCallS (cIsi CLS) (aCons (iVar 0) (aCons (iP (.ty "bool")) aNil)))) (iBin oEq (iVar 0) (iVar 1)))))
  sNil))))
def e__law_is_kind : FnE := ⟨["told", "due"], 1, [], runFn 2 2 r__law_is_kind⟩
def r__law_same : SI := (sSeq (sAsg (iLst (aCons (iTup (aCons (iVar 0) (aCons (iVar 1) aNil))) aNil)) (gName 2))
  (sSeq (sWhile (bVal (iBin (oInt fun i j => decide (j < i)) (iCallS cLen (aCons (iVar 2) aNil)) (iP (.int 0)))) (sSeq (sAsg (iMethT "list" mPop (iVar 2) aNil) (gTup 2 (gCons (gName 3) (gCons (gName 4) gNil))))
  (sSeq (sAsg (iCallC false e__law_plain.run (aCons (iVar 3) aNil)) (gName 3))
  (sSeq (sIf (bVal (iCallS (cIsi CLS) (aCons (iVar 4) (aCons (iP (.ty "tuple")) aNil)))) (sSeq (sIf (bOr (bNot (bVal (iCallS (cIsi CLS) (aCons (iVar 3) (aCons (iP (.ty "tuple")) aNil))))) (bVal (iBin oNe (iCallS cLen (aCons (iVar 3) aNil)) (iCallS cLen (aCons (iVar 4) aNil))))) (sSeq (sRet (iP (.bl false)))
  sNil) sNil)
  (sSeq (sAsg (iBin oAdd (iVar 2) (iCallS cList (aCons iStuck aNil))) (gName 2))
  sNil)) (sSeq (sIf (bOr (bVal (iIsiT CLS (iVar 3) (aCons (iP (.ty "tuple")) (aCons (iP (.ty "list")) (aCons (iP (.ty "dict")) aNil))))) (bNot (bVal (iCallC false e__law_is_kind.run (aCons (iVar 3) (aCons (iVar 4) aNil)))))) (sSeq (sRet (iP (.bl false)))
  sNil) sNil)
  sNil))
  sNil))))
  (sSeq (sRet (iP (.bl true)))
  sNil)))
def e__law_same : FnE := ⟨["told", "due"], 2, [], runFn 2 5 r__law_same⟩
def r__law_all : SI := (sSeq (sRet (iBin oEq (iCallS cLen (aCons (iLc (wAny (iVar 0)) (gTup 2 (gCons (gName 1) (gCons (gName 2) gNil))) (bNot (bVal (iCallC false e__law_same.run (aCons (iVar 1) (aCons (iVar 2) aNil))))) (iVar 1) [1, 2]) aNil)) (iP (.int 0))))
  sNil)
def e__law_all : FnE := ⟨["pairs"], 3, [], runFn 1 3 r__law_all⟩
def r_law : SI := (sSeq (sPar 1 2 (aCons (iCallC true e__law_deal.run (aCons (iVar 0) (aCons (iP (.int 198)) aNil))) (aCons (iLst aNil) aNil)))
  (sSeq (sAsg (iCallC false e_read_machine.run (aCons (iP (.str lawText)) aNil)) (gName 3))
  (sSeq (sPar 4 5 (aCons (iCallC false e__law_strange.run (aCons (iVar 1) aNil)) (aCons (iMake false "Start" e_Start_init.run (aCons (iP (.str "u")) (aCons (iTup (aCons (iTup (aCons (iP (.int 0)) (aCons (iP (.int 1)) aNil))) (aCons (iTup (aCons (iP (.int 0)) (aCons (iP (.int 1)) aNil))) aNil))) aNil))) aNil)))
  (sSeq (sFor (wAny (iVar 4)) (gName 6) (sSeq (sAsg (iBin oAdd (iVar 2) (iLst (aCons (iTup (aCons (iCallC false e_is_field.run (aCons (iVar 6) aNil)) (aCons (iP (.bl false)) aNil))) (aCons (iTup (aCons (iCallC false e_is_field.run (aAppN 0 1 aNil (aCons (iVar 6) aNil))) (aCons (iP (.bl false)) aNil))) (aCons (iTup (aCons (iCallC false e_is_number_of.run (aCons (iP (.int 0)) (aCons (iVar 6) aNil))) (aCons (iP (.bl false)) aNil))) (aCons (iTup (aCons (iCallC false e_is_room.run (aCons (iP (.int 0)) (aCons (iP (.int 3)) (aCons (iVar 6) aNil)))) (aCons (iP (.bl false)) aNil))) (aCons (iTup (aCons (iCallC false e_is_room.run (aCons (iP (.int 5)) (aCons (iP (.int 1)) (aCons (iVar 6) aNil)))) (aCons (iP (.bl false)) aNil))) (aCons (iTup (aCons (iCallC false e_is_way.run (aCons (iVar 3) (aCons (iP (.str "u")) (aCons (iVar 6) aNil)))) (aCons (iP (.bl false)) aNil))) (aCons (iTup (aCons (iCallC false e_read_answer.run (aCons (iVar 3) (aCons (iVar 6) aNil))) (aCons (iP (.bl false)) aNil))) (aCons (iTup (aCons (iCallC false e_read_answer.run (aCons (iVar 3) (aCons (iMake false "Answer" e_Answer_init.run (aCons (iP (.str "forgets")) (aCons (iVar 6) aNil))) aNil))) (aCons (iP (.bl false)) aNil))) (aCons (iTup (aCons (iCallC false e_read_answer.run (aCons (iVar 3) (aCons (iMake false "Answer" e_Answer_init.run (aCons (iVar 6) (aCons (iTup aNil) aNil))) aNil))) (aCons (iP (.bl false)) aNil))) aNil))))))))))) (gName 2))
  (sSeq (sAsg (iBin oAdd (iVar 2) (iLst (aCons (iTup (aCons (iCallC false e_read_relation.run (aCons (iVar 3) (aCons (iVar 5) (aCons (iP (.str "u")) (aCons (iTup (aCons (iTup (aCons (iP (.int 1)) (aCons (iP (.int 1)) aNil))) (aCons (iTup (aCons (iP (.int 0)) (aCons (iP (.int 1)) aNil))) (aCons (iTup (aCons (iP (.int 0)) (aCons (iP (.int 1)) aNil))) aNil)))) (aCons (iMake false "Answer" e_Answer_init.run (aCons (iP (.str "always")) (aCons (iVar 6) aNil))) aNil)))))) (aCons (iP (.bl false)) aNil))) (aCons (iTup (aCons (iCallC false e_read_relation.run (aCons (iVar 3) (aCons (iVar 5) (aCons (iP (.str "vv")) (aCons (iTup (aCons (iTup (aCons (iP (.int 1)) (aCons (iP (.int 1)) aNil))) (aCons (iTup (aCons (iP (.int 0)) (aCons (iP (.int 1)) aNil))) aNil))) (aCons (iVar 6) aNil)))))) (aCons (iP (.bl false)) aNil))) (aCons (iTup (aCons (iCallC false e_read_alike_from.run (aCons (iVar 3) (aCons (iVar 3) (aCons (iVar 5) (aCons (iVar 5) (aCons (iMake false "Answer" e_Answer_init.run (aCons (iP (.str "alike")) (aCons (iVar 6) aNil))) aNil)))))) (aCons (iP (.bl false)) aNil))) (aCons (iTup (aCons (iCallC false e_read_alike_from.run (aCons (iVar 3) (aCons (iVar 3) (aCons (iVar 5) (aCons (iVar 5) (aCons (iMake false "Answer" e_Answer_init.run (aCons (iP (.str "parted")) (aCons (iVar 6) aNil))) aNil)))))) (aCons (iP (.bl false)) aNil))) aNil)))))) (gName 2))
  sNil)))
  (sSeq (sFor (wAny (iBin oAdd (iCut (iVar 4) pNone (pSome (iP (.int 6)))) (iCut (iVar 4) (pSome (iP (.int 8))) pNone))) (gName 6) (sSeq (sExpr (iMethT "list" mAppend (iVar 2) (aCons (iTup (aCons (iCallC false e_is_number_of.run (aCons (iP (.int 7)) (aCons (iVar 6) aNil))) (aCons (iP (.bl false)) aNil))) aNil)))
  sNil))
  (sSeq (sFor (wAny (iCallC false e__law_room_values.run aNil)) (gTup 2 (gCons (gName 6) (gCons (gName 7) gNil))) (sSeq (sAsg (iBin oAdd (iVar 2) (iLst (aCons (iTup (aCons (iCallC false e_is_room.run (aCons (iP (.int 0)) (aCons (iP (.int 3)) (aCons (iVar 6) aNil)))) (aCons (iVar 7) aNil))) (aCons (iTup (aCons (iCallC false e_is_room.run (aAppN 0 3 aNil (aCons (iP (.int 0)) (aCons (iP (.int 3)) (aCons (iVar 6) aNil))))) (aCons (iVar 7) aNil))) (aCons (iTup (aCons (iCallC false e_is_room.run (aCons (iP (.int 0)) (aCons (iP (.int 4)) (aCons (iVar 6) aNil)))) (aCons (iOr (iBin oEq (iVar 6) (iTup aNil)) (iBin oEq (iVar 6) (iTup (aCons (iTup (aCons (iTup (aCons (iP (.int 1)) (aCons (iP (.int 1)) aNil))) (aCons (iTup (aCons (iP (.int 0)) (aCons (iP (.int 1)) aNil))) (aCons (iTup (aCons (iP (.int 0)) (aCons (iP (.int 1)) aNil))) (aCons (iTup (aCons (iP (.int 0)) (aCons (iP (.int 1)) aNil))) aNil))))) aNil)))) aNil))) aNil))))) (gName 2))
  sNil))
  (sSeq (sFor (wAny (iLst (aCons (iTup (aCons (iTup aNil) (aCons (iP (.bl true)) aNil))) (aCons (iTup (aCons (iTup (aCons (iTup (aCons (iP (.int 1)) (aCons (iP (.int 2)) aNil))) (aCons (iTup (aCons (iP (.int 0)) (aCons (iP (.int 0)) aNil))) aNil))) (aCons (iP (.bl false)) aNil))) (aCons (iTup (aCons (iTup (aCons (iTup (aCons (iP (.int 1)) (aCons (iP (.int 4)) aNil))) aNil)) (aCons (iP (.bl true)) aNil))) (aCons (iTup (aCons (iTup (aCons (iTup (aCons (iP (.int 0)) (aCons (iP (.int 1)) aNil))) aNil)) (aCons (iP (.bl true)) aNil))) (aCons (iTup (aCons (iTup (aCons (iTup (aCons (iP (.int 1)) (aCons (iP (.int 0)) aNil))) (aCons (iTup (aCons (iP (.int 0)) (aCons (iP (.int 1)) aNil))) aNil))) (aCons (iP (.bl true)) aNil))) (aCons (iTup (aCons (iTup (aCons (iTup (aCons (iP (.int 1)) (aCons (iP (.int 1)) aNil))) (aCons (iTup (aCons (iP (.int 0)) (aCons (iP (.int 1)) aNil))) aNil))) (aCons (iP (.bl false)) aNil))) (aCons (iTup (aCons (iTup (aCons (iTup (aCons (iP (.int 1)) (aCons (iP (.int 5)) aNil))) aNil)) (aCons (iP (.bl false)) aNil))) (aCons (iTup (aCons (iTup (aCons (iTup (aCons (iP (.int 1)) (aCons (iBin oSub (iP (.int 0)) (iP (.int 1))) aNil))) aNil)) (aCons (iP (.bl false)) aNil))) (aCons (iTup (aCons (iTup (aCons (iTup (aCons (iP (.int 3)) (aCons (iP (.int 1)) aNil))) aNil)) (aCons (iP (.bl false)) aNil))) (aCons (iTup (aCons (iTup (aCons (iTup (aCons (iP (.bl true)) (aCons (iP (.int 0)) aNil))) aNil)) (aCons (iP (.bl false)) aNil))) (aCons (iTup (aCons (iTup (aCons (iTup (aCons (iP (.int 1)) (aCons (iP (.bl false)) aNil))) aNil)) (aCons (iP (.bl false)) aNil))) (aCons (iTup (aCons (iTup (aCons (iTup (aCons (iP (.int 1)) (aCons (iTup (aCons (iP (.int 0)) (aCons (iP (.int 1)) aNil))) aNil))) aNil)) (aCons (iP (.bl false)) aNil))) aNil)))))))))))))) (gTup 2 (gCons (gName 6) (gCons (gName 7) gNil))) (sSeq (sExpr (iMethT "list" mAppend (iVar 2) (aCons (iTup (aCons (iCallC false e_is_room.run (aCons (iP (.int 5)) (aCons (iP (.int 2)) (aCons (iVar 6) aNil)))) (aCons (iVar 7) aNil))) aNil)))
  sNil))
  (sSeq (sFor (wAny (iLst (aCons (iTup (aCons (iTup aNil) (aCons (iP (.bl true)) aNil))) (aCons (iTup (aCons (iTup (aCons (iP (.str "k")) aNil)) (aCons (iP (.bl true)) aNil))) (aCons (iTup (aCons (iTup (aCons (iP (.str "k")) (aCons (iP (.str "k")) (aCons (iP (.str "l")) (aCons (iP (.str "m")) (aCons (iP (.str "k")) aNil)))))) (aCons (iP (.bl true)) aNil))) (aCons (iTup (aCons (iTup (aCons (iP (.str "m")) aNil)) (aCons (iP (.bl false)) aNil))) (aCons (iTup (aCons (iTup (aCons (iP (.str "l")) (aCons (iP (.str "l")) aNil))) (aCons (iP (.bl false)) aNil))) (aCons (iTup (aCons (iTup (aCons (iP (.str "k")) (aCons (iP (.str "m")) aNil))) (aCons (iP (.bl false)) aNil))) (aCons (iTup (aCons (iTup (aCons (iP (.str "l")) (aCons (iP (.str "m")) (aCons (iP (.str "z")) aNil)))) (aCons (iP (.bl false)) aNil))) (aCons (iTup (aCons (iLst (aCons (iP (.str "k")) aNil)) (aCons (iP (.bl false)) aNil))) (aCons (iTup (aCons (iP (.str "k")) (aCons (iP (.bl false)) aNil))) (aCons (iTup (aCons (iTup (aCons (iP (.str "k")) (aCons (iP .non) aNil))) (aCons (iP (.bl false)) aNil))) (aCons (iTup (aCons (iTup (aCons (iP (.str "k")) (aCons (iTup (aCons (iP (.str "k")) aNil)) aNil))) (aCons (iP (.bl false)) aNil))) (aCons (iTup (aCons (iTup (aCons (iP (.str "k")) (aCons (iP (.bl true)) aNil))) (aCons (iP (.bl false)) aNil))) (aCons (iTup (aCons (iTup (aCons (iP (.str "")) aNil)) (aCons (iP (.bl false)) aNil))) (aCons (iTup (aCons (iTup (aCons (iP (.int 0)) aNil)) (aCons (iP (.bl false)) aNil))) (aCons (iTup (aCons (iTup (aCons (iP (.str "K")) aNil)) (aCons (iP (.bl false)) aNil))) aNil))))))))))))))))) (gTup 2 (gCons (gName 6) (gCons (gName 7) gNil))) (sSeq (sAsg (iBin oAdd (iVar 2) (iLst (aCons (iTup (aCons (iCallC false e_is_way.run (aCons (iVar 3) (aCons (iP (.str "u")) (aCons (iVar 6) aNil)))) (aCons (iVar 7) aNil))) (aCons (iTup (aCons (iCallC false e_is_way.run (aAppN 0 3 aNil (aCons (iVar 3) (aCons (iP (.str "u")) (aCons (iVar 6) aNil))))) (aCons (iVar 7) aNil))) aNil)))) (gName 2))
  sNil))
  (sSeq (sFor (wAny (iLst (aCons (iTup (aCons (iTup (aCons (iP (.int 0)) (aCons (iP (.int 1)) aNil))) (aCons (iP (.bl true)) aNil))) (aCons (iTup (aCons (iTup (aCons (iBin oSub (iP (.int 0)) (iP (.int 5))) (aCons (iP (.int 7)) aNil))) (aCons (iP (.bl true)) aNil))) (aCons (iTup (aCons (iTup (aCons (iP (.int 6)) (aCons (iP (.int 4)) aNil))) (aCons (iP (.bl false)) aNil))) (aCons (iTup (aCons (iTup (aCons (iP (.int 0)) (aCons (iP (.int 3)) aNil))) (aCons (iP (.bl false)) aNil))) (aCons (iTup (aCons (iTup (aCons (iP (.int 3)) (aCons (iP (.int 0)) aNil))) (aCons (iP (.bl false)) aNil))) (aCons (iTup (aCons (iTup (aCons (iP (.int 3)) (aCons (iBin oSub (iP (.int 0)) (iP (.int 1))) aNil))) (aCons (iP (.bl false)) aNil))) (aCons (iTup (aCons (iTup (aCons (iP (.int 3)) aNil)) (aCons (iP (.bl false)) aNil))) (aCons (iTup (aCons (iTup (aCons (iP (.int 3)) (aCons (iP (.int 1)) (aCons (iP (.int 1)) aNil)))) (aCons (iP (.bl false)) aNil))) (aCons (iTup (aCons (iLst (aCons (iP (.int 3)) (aCons (iP (.int 1)) aNil))) (aCons (iP (.bl false)) aNil))) (aCons (iTup (aCons (iTup (aCons (iP (.int 3)) (aCons (iP (.bl true)) aNil))) (aCons (iP (.bl false)) aNil))) (aCons (iTup (aCons (iTup (aCons (iP (.bl false)) (aCons (iP (.int 1)) aNil))) (aCons (iP (.bl false)) aNil))) (aCons (iTup (aCons (iTup (aCons (iP (.str "3")) (aCons (iP (.int 1)) aNil))) (aCons (iP (.bl false)) aNil))) (aCons (iTup (aCons (iP (.int 3)) (aCons (iP (.bl false)) aNil))) (aCons (iTup (aCons (iTup (aCons (iBin oPow (iP (.int 10)) (iP (.int 30))) (aCons (iBin oAdd (iBin oPow (iP (.int 10)) (iP (.int 30))) (iP (.int 1))) aNil))) (aCons (iP (.bl true)) aNil))) (aCons (iTup (aCons (iTup (aCons (iBin oMulT (iP (.int 2)) (iBin oPow (iP (.int 10)) (iP (.int 30)))) (aCons (iBin oPow (iP (.int 10)) (iP (.int 31))) aNil))) (aCons (iP (.bl false)) aNil))) aNil))))))))))))))))) (gTup 2 (gCons (gName 6) (gCons (gName 7) gNil))) (sSeq (sAsg (iBin oAdd (iVar 2) (iLst (aCons (iTup (aCons (iCallC false e_is_number_of.run (aCons (iP (.int 0)) (aCons (iVar 6) aNil))) (aCons (iVar 7) aNil))) (aCons (iTup (aCons (iCallC false e_is_number_of.run (aAppN 0 2 aNil (aCons (iP (.int 0)) (aCons (iVar 6) aNil)))) (aCons (iVar 7) aNil))) aNil)))) (gName 2))
  sNil))
  (sSeq (sFor (wAny (iLst (aCons (iTup (aCons (iP (.int 0)) (aCons (iP (.bl true)) aNil))) (aCons (iTup (aCons (iP (.int 1)) (aCons (iP (.bl true)) aNil))) (aCons (iTup (aCons (iP (.int 6)) (aCons (iP (.bl true)) aNil))) (aCons (iTup (aCons (iP (.int 7)) (aCons (iP (.bl false)) aNil))) (aCons (iTup (aCons (iBin oSub (iP (.int 0)) (iP (.int 1))) (aCons (iP (.bl false)) aNil))) (aCons (iTup (aCons (iP (.bl true)) (aCons (iP (.bl false)) aNil))) (aCons (iTup (aCons (iP (.bl false)) (aCons (iP (.bl false)) aNil))) (aCons (iTup (aCons (iTup (aCons (iP (.int 1)) (aCons (iP (.int 1)) aNil))) (aCons (iP (.bl false)) aNil))) (aCons (iTup (aCons (iP (.str "1")) (aCons (iP (.bl false)) aNil))) (aCons (iTup (aCons (iP .non) (aCons (iP (.bl false)) aNil))) aNil)))))))))))) (gTup 2 (gCons (gName 6) (gCons (gName 7) gNil))) (sSeq (sExpr (iMethT "list" mAppend (iVar 2) (aCons (iTup (aCons (iCallC false e_is_number_of.run (aCons (iP (.int 7)) (aCons (iVar 6) aNil))) (aCons (iVar 7) aNil))) aNil)))
  sNil))
  (sSeq (sFor (wAny (iLst (aCons (iTup (aCons (iP (.int 0)) (aCons (iP (.bl true)) aNil))) (aCons (iTup (aCons (iP (.int 2)) (aCons (iP (.bl true)) aNil))) (aCons (iTup (aCons (iP (.int 89)) (aCons (iP (.bl true)) aNil))) (aCons (iTup (aCons (iP (.int 97)) (aCons (iP (.bl true)) aNil))) (aCons (iTup (aCons (iP (.int 1)) (aCons (iP (.bl false)) aNil))) (aCons (iTup (aCons (iP (.int 91)) (aCons (iP (.bl false)) aNil))) (aCons (iTup (aCons (iP (.int 101)) (aCons (iP (.bl false)) aNil))) (aCons (iTup (aCons (iBin oSub (iP (.int 0)) (iP (.int 2))) (aCons (iP (.bl false)) aNil))) (aCons (iTup (aCons (iP (.bl true)) (aCons (iP (.bl false)) aNil))) (aCons (iTup (aCons (iTup (aCons (iP (.int 0)) (aCons (iP (.int 1)) aNil))) (aCons (iP (.bl false)) aNil))) aNil)))))))))))) (gTup 2 (gCons (gName 6) (gCons (gName 7) gNil))) (sSeq (sExpr (iMethT "list" mAppend (iVar 2) (aCons (iTup (aCons (iCallC false e_is_field.run (aCons (iVar 6) aNil)) (aCons (iVar 7) aNil))) aNil)))
  sNil))
  (sSeq (sRet (iCallC false e__law_all.run (aCons (iVar 2) aNil)))
  sNil))))))))))))
def e_law : FnE := ⟨["script"], 12, [], runFn 1 8 r_law⟩
end J

set_option Elab.async false
set_option linter.all false
set_option maxRecDepth 100000
set_option maxHeartbeats 4000000
/-! L98: the law's draws, for every script. -/
namespace J
open PySem PySem.Spec L2
set_option autoImplicit false
def intsD (xs : List Int) : List D := xs.map fun x => D.p (.int x)
theorem intsD_get {xs : List Int} {j : Nat} {d : D} (h : (intsD xs)[j]? = some d) : ∃ x, d = .p (.int x) := by
  unfold intsD at h
  rw [List.getElem?_map] at h
  cases e : xs[j]? with
  | none => rw [e] at h; cases h
  | some x => rw [e] at h; cases h; exact ⟨x, rfl⟩
theorem intsD_mem {xs : List Int} {d : D} (h : d ∈ intsD xs) : ∃ x, d = .p (.int x) := by
  obtain ⟨x, _, e⟩ := List.mem_map.mp h
  exact ⟨x, e.symm⟩
/-- a drawn row of numbers, in the store at i: the numbers at j, the mix -/
structure DealAt (i j : Nat) (st : Store) (xs : List Int) (m : Int) : Prop where
  ne : i ≠ j
  at_ : st[i]? = some (.lst [.loc j, .p (.int m)])
  row : st[j]? = some (.lst (intsD xs))
  few : xs.length ≤ 1000
/-! ### _law_deal -/
def big : Int := (10 : Int) ^ 64 * (10 : Int) ^ 64 * (10 : Int) ^ 64 * (10 : Int) ^ 64 * (10 : Int) ^ 64 * (10 : Int) ^ 64
theorem mul_small {i j : Int} (h1 : 0 ≤ i) (h2 : i < 2147483648) (h3 : 0 ≤ j) (h4 : j < 2147483648) : i.natAbs.log2 + j.natAbs.log2 < 900000 := by
  have a1 : i.natAbs.log2 < 32 := by
    by_cases h : i.natAbs = 0
    · rw [h]; decide
    · exact (Nat.log2_lt h).mpr (by omega)
  have a2 : j.natAbs.log2 < 32 := by
    by_cases h : j.natAbs = 0
    · rw [h]; decide
    · exact (Nat.log2_lt h).mpr (by omega)
  omega
def modF (B : Int) : D → D
  | .p (.int x) => .p (.int ((if x < 0 then -x else x) % B))
  | d => d
theorem mapF (B : Int) (zs : List Int) : (intsD zs).map (modF B) = intsD (zs.map fun x => (if x < 0 then -x else x) % B) := by
  unfold intsD
  rw [List.map_map, List.map_map]
  rfl
theorem seq_nx {f g : SI} {env env1 : Env} {st st1 : Store} (h : f env st = some (.nx env1, st1)) : sSeq f g env st = g env1 st1 := by
  unfold sSeq
  rw [h]
theorem seq_rt {f g : SI} {env : Env} {st st1 : Store} {d : D} (h : f env st = some (.rt d, st1)) : sSeq f g env st = some (.rt d, st1) := by
  unfold sSeq
  rw [h]
theorem bin_eq {g : Op2} {fa fb : EI} {env : Env} {st st1 st2 : Store} {a b : D} (h1 : fa env st = some (a, st1)) (h2 : fb env st1 = some (b, st2)) : iBin g fa fb env st = g a b st2 := by
  unfold iBin
  rw [h1]
  dsimp only
  rw [h2]
theorem call1_eq {g : OpN} {fa : EI} {env : Env} {st st1 : Store} {a : D} (h1 : fa env st = some (a, st1)) : iCallS g (aCons fa aNil) env st = g [a] st1 := by
  unfold iCallS aCons
  rw [h1]
  rfl
abbrev dMix : SI := (sSeq (sAsg (iBin oMod (iCallS cInt (aCons (iBin oAdd (iBin oAdd (iBin oMulT (iVar 5) (iP (.int 69621))) (iBin oMod (iCallS cInt (aCons (iVar 3) aNil)) (iP (.int 2147483563)))) (iP (.int 23))) aNil)) (iP (.int 2147483647))) (gName 5)) sNil)
abbrev dLc1 : EI := (iLc (wAny (iCut (iVar 0) pNone (pSome (iP (.int 63))))) (gName 3) bYes (iBin oMod (iCallS cInt (aCons (iCallS cAbs (aCons (iCallS cInt (aCons (iVar 3) aNil)) aNil)) aNil)) (iVar 2)) [3])
abbrev dLc2 : EI := (iLc (wAny (iVar 4)) (gName 3) (bVal (iBin (oInt fun i j => decide (j ≤ i)) (iVar 3) (iBin oPow (iP (.int 10)) (iP (.int 18))))) (iVar 3) [3])
theorem filt (f : D → Bool) : ∀ (ds : List D), (∀ d ∈ ds, ∃ x, d = .p (.int x)) → ∃ xs : List Int, ds.filter f = intsD xs ∧ xs.length ≤ ds.length
  | [], _ => ⟨[], rfl, Nat.le_refl _⟩
  | d :: ds, h => by
    obtain ⟨xs, e, l⟩ := filt f ds fun y hy => h y (List.mem_cons_of_mem _ hy)
    obtain ⟨x, rfl⟩ := h d List.mem_cons_self
    cases q : f (.p (.int x)) with
    | true => exact ⟨x :: xs, by rw [List.filter_cons_of_pos q, e]; rfl, by simp; omega⟩
    | false => exact ⟨xs, by rw [List.filter_cons_of_neg (by rw [q]; exact Bool.false_ne_true), e], by simp; omega⟩
theorem deal_ok (ns : List Int) : ∃ (c0 c1 c2 : Cell) (xs : List Int) (m : Int),
    e__law_deal.run [.p (.frz (ns.map PD.int)), .p (.int 198)] [] = some (.loc 4, [c0, c1, c2, .lst (intsD xs), .lst [.loc 3, .p (.int m)]]) ∧ xs.length ≤ 63 ∧ 0 ≤ m ∧ m < 2147483647 := by
  have hbig : (0 : Int) < big := by decide +kernel
  have e1 : ∀ st : Store, (iBin oMulT (iBin oMulT (iBin oMulT (iBin oMulT (iBin oMulT (iBin oPow (iP (.int 10)) (iP (.int 64))) (iBin oPow (iP (.int 10)) (iP (.int 64)))) (iBin oPow (iP (.int 10)) (iP (.int 64)))) (iBin oPow (iP (.int 10)) (iP (.int 64)))) (iBin oPow (iP (.int 10)) (iP (.int 64)))) (iBin oPow (iP (.int 10)) (iP (.int 64)))) [some (.p (.frz (ns.map PD.int))), some (.p (.int 198)), none, none, none, none] st = some (.p (.int big), st) := fun st => by kernel_rfl
  generalize big = B at hbig e1
  obtain ⟨zs, hz, hzl⟩ : ∃ zs : List Int, cutD ((ns.map PD.int).map D.p) none (some 63) = intsD zs ∧ zs.length ≤ 63 := by
    refine ⟨cutD ns none (some 63), ?_, ?_⟩
    · unfold cutD intsD
      rw [List.length_map, List.length_map, List.map_take, List.map_drop, List.map_map]
      rfl
    · unfold cutD
      rw [List.length_take, List.length_drop]
      have z : HT.sIx ns.length ns.length (some 63) ≤ 63 := by
        unfold HT.sIx
        simp
        omega
      omega
  have lz : (intsD zs).length = zs.length := by unfold intsD; rw [List.length_map]
  -- the row
  let ys := zs.map fun x => (if x < 0 then -x else x) % B
  have lys : (intsD ys).length = zs.length := by show ((zs.map _).map _).length = _; rw [List.length_map, List.length_map]
  have hlc1 : dLc1 [some (.p (.frz (ns.map PD.int))), some (.p (.int 198)), some (.p (.int B)), none, none, none] [] = some (.loc 1, [.lst (intsD zs), .lst (intsD ys)]) := by
    have h0 : (wAny (iCut (iVar 0) pNone (pSome (iP (.int 63))))) [some (.p (.frz (ns.map PD.int))), some (.p (.int 198)), some (.p (.int B)), none, none, none] [] = some (.cell 0, [.lst (intsD zs)]) := by
      rw [← hz]
      rfl
    have hl := lcI_pure (k := 3) (n := 1) (t := bYes) (e := iBin oMod (iCallS cInt (aCons (iCallS cAbs (aCons (iCallS cInt (aCons (iVar 3) aNil)) aNil)) aNil)) (iVar 2)) (env := [some (.p (.frz (ns.map PD.int))), some (.p (.int 198)), some (.p (.int B)), none, none, none]) (w := .cell 0)
      (fun _ => true) (modF B) (intsD zs) (fun st => st[0]? = some (.lst (intsD zs)))
      (fun st h j => by show (match st[0]? with | some (.lst xs) => some xs[j]? | _ => none) = _; rw [h])
      (fun st acc h => by rw [List.getElem?_set_ne (by decide)]; exact h)
      (fun d _ st => rfl)
      (fun d hd st => by
        obtain ⟨x, rfl⟩ := intsD_mem hd
        show (if 0 < B then some (D.p (.int ((if x < 0 then -x else x) % B)), st) else none) = _
        rw [if_pos hbig]
        rfl) rfl ((intsD zs).length + 1) 0 [.lst (intsD zs), .lst []] [] rfl rfl (by rw [lz]; simp; omega) (by omega) (Nat.zero_le _)
    unfold dLc1 iLc
    rw [h0]
    dsimp only
    have hr : roomW (.cell 0) [.lst (intsD zs)] = (intsD zs).length + 1 := rfl
    have hw : wipeE [some (.p (.frz (ns.map PD.int))), some (.p (.int 198)), some (.p (.int B)), none, none, none] [3] = [some (.p (.frz (ns.map PD.int))), some (.p (.int 198)), some (.p (.int B)), none, none, none] := rfl
    rw [hr, hw]
    show (match lcI (gName 3) bYes (iBin oMod (iCallS cInt (aCons (iCallS cAbs (aCons (iCallS cInt (aCons (iVar 3) aNil)) aNil)) aNil)) (iVar 2)) (.cell 0) 1 ((intsD zs).length + 1) 0 _ [.lst (intsD zs), .lst []] with
      | some st2 => some (D.loc 1, st2)
      | none => none) = _
    rw [hl, List.drop_zero, List.filter_eq_self.mpr (fun _ _ => rfl), mapF, List.nil_append]
    rfl
  -- the mix
  obtain ⟨env3, st3, hfor, m, x3, henv, hst, hm0, hm1⟩ := forI_inv (body := turnI (gName 3) dMix) (w := .cell 1) (intsD ys) (fun j env st => ∃ m x3, env = [some (.p (.frz (ns.map PD.int))), some (.p (.int 198)), some (.p (.int B)), x3, some (.loc 1), some (.p (.int m))] ∧ st = [.lst (intsD zs), .lst (intsD ys)] ∧ 0 ≤ m ∧ m < 2147483647)
    (fun j env st ⟨m, x3, _, e2, _, _⟩ => by rw [e2]; rfl)
    (fun j d env st hd ⟨m, x3, e1, e2, h0, h1⟩ => by
      obtain ⟨x, rfl⟩ := intsD_get hd
      subst e1 e2
      refine ⟨[some (.p (.frz (ns.map PD.int))), some (.p (.int 198)), some (.p (.int B)), some (.p (.int x)), some (.loc 1), some (.p (.int ((m * 69621 + x % 2147483563 + 23) % 2147483647)))], [.lst (intsD zs), .lst (intsD ys)], ?_, _, _, rfl, rfl, Int.emod_nonneg _ (by decide), Int.emod_lt_of_pos _ (by decide)⟩
      have hmul : (iBin oMulT (iVar 5) (iP (.int 69621))) [some (.p (.frz (ns.map PD.int))), some (.p (.int 198)), some (.p (.int B)), some (.p (.int x)), some (.loc 1), some (.p (.int m))] [.lst (intsD zs), .lst (intsD ys)] = some (.p (.int (m * 69621)), [.lst (intsD zs), .lst (intsD ys)]) := by
        show (if m.natAbs.log2 + (69621 : Int).natAbs.log2 < 900000 then some (D.p (.int (m * 69621)), [Cell.lst (intsD zs), .lst (intsD ys)]) else none) = _
        rw [if_pos (mul_small h0 (by omega) (by decide) (by decide))]
      show (match (match (iBin oMod (iCallS cInt (aCons (iBin oAdd (iBin oAdd (iBin oMulT (iVar 5) (iP (.int 69621))) (iBin oMod (iCallS cInt (aCons (iVar 3) aNil)) (iP (.int 2147483563)))) (iP (.int 23))) aNil)) (iP (.int 2147483647))) [some (.p (.frz (ns.map PD.int))), some (.p (.int 198)), some (.p (.int B)), some (.p (.int x)), some (.loc 1), some (.p (.int m))] [.lst (intsD zs), .lst (intsD ys)] with
        | some (d, st1) => (match gName 5 d [some (.p (.frz (ns.map PD.int))), some (.p (.int 198)), some (.p (.int B)), some (.p (.int x)), some (.loc 1), some (.p (.int m))] st1 with
          | some (env2, st2) => some (Fl.nx env2, st2)
          | none => none)
        | none => none) with
        | some (.nx env1, st1) => sNil env1 st1
        | r => r) = _
      have hall : (iBin oMod (iCallS cInt (aCons (iBin oAdd (iBin oAdd (iBin oMulT (iVar 5) (iP (.int 69621))) (iBin oMod (iCallS cInt (aCons (iVar 3) aNil)) (iP (.int 2147483563)))) (iP (.int 23))) aNil)) (iP (.int 2147483647))) [some (.p (.frz (ns.map PD.int))), some (.p (.int 198)), some (.p (.int B)), some (.p (.int x)), some (.loc 1), some (.p (.int m))] [.lst (intsD zs), .lst (intsD ys)] = some (.p (.int ((m * 69621 + x % 2147483563 + 23) % 2147483647)), [.lst (intsD zs), .lst (intsD ys)]) := by
        have h2 := bin_eq (g := oAdd) hmul (show (iBin oMod (iCallS cInt (aCons (iVar 3) aNil)) (iP (.int 2147483563))) [some (.p (.frz (ns.map PD.int))), some (.p (.int 198)), some (.p (.int B)), some (.p (.int x)), some (.loc 1), some (.p (.int m))] [.lst (intsD zs), .lst (intsD ys)] = some (.p (.int (x % 2147483563)), [.lst (intsD zs), .lst (intsD ys)]) from rfl)
        have h3 := bin_eq (g := oAdd) (fb := iP (.int 23)) (h2.trans rfl) rfl
        have h4 := call1_eq (g := cInt) (h3.trans rfl)
        exact (bin_eq (g := oMod) (fb := iP (.int 2147483647)) (h4.trans rfl) rfl).trans rfl
      rw [hall]
      rfl) ((intsD ys).length + 1) 0 [some (.p (.frz (ns.map PD.int))), some (.p (.int 198)), some (.p (.int B)), none, some (.loc 1), some (.p (.int 1637963))] [.lst (intsD zs), .lst (intsD ys)] ⟨1637963, none, rfl, rfl, by decide, by decide⟩ (by omega) (Nat.zero_le _)
  subst henv hst
  let big18 : D → Bool := fun d => match d with
    | .p (.int x) => decide ((10 : Int) ^ 18 ≤ x)
    | _ => false
  obtain ⟨xs, hxs, hxl⟩ := filt big18 (intsD ys) fun d hd => intsD_mem hd
  have hlc2 : dLc2 [some (.p (.frz (ns.map PD.int))), some (.p (.int 198)), some (.p (.int B)), x3, some (.loc 1), some (.p (.int m))] [.lst (intsD zs), .lst (intsD ys)] = some (.loc 2, [.lst (intsD zs), .lst (intsD ys), .lst (intsD xs)]) := by
    have hl := lcI_pure (k := 3) (n := 2) (t := (bVal (iBin (oInt fun i j => decide (j ≤ i)) (iVar 3) (iBin oPow (iP (.int 10)) (iP (.int 18)))))) (e := iVar 3) (env := [some (.p (.frz (ns.map PD.int))), some (.p (.int 198)), some (.p (.int B)), none, some (.loc 1), some (.p (.int m))]) (w := .cell 1)
      big18 (fun d => d) (intsD ys) (fun st => st[1]? = some (.lst (intsD ys)))
      (fun st h j => by show (match st[1]? with | some (.lst xs) => some xs[j]? | _ => none) = _; rw [h])
      (fun st acc h => by rw [List.getElem?_set_ne (by decide)]; exact h)
      (fun d hd st => by
        obtain ⟨x, rfl⟩ := intsD_mem hd
        rfl)
      (fun d hd st => rfl) rfl ((intsD ys).length + 1) 0 [.lst (intsD zs), .lst (intsD ys), .lst []] [] rfl rfl (by rw [lys]; simp; omega) (by omega) (Nat.zero_le _)
    show (match lcI (gName 3) (bVal (iBin (oInt fun i j => decide (j ≤ i)) (iVar 3) (iBin oPow (iP (.int 10)) (iP (.int 18))))) (iVar 3) (.cell 1) 2 ((intsD ys).length + 1) 0 [some (.p (.frz (ns.map PD.int))), some (.p (.int 198)), some (.p (.int B)), none, some (.loc 1), some (.p (.int m))] [.lst (intsD zs), .lst (intsD ys), .lst []] with
      | some st2 => some (D.loc 2, st2)
      | none => none) = _
    rw [hl, List.drop_zero, List.map_id', List.nil_append, hxs]
    rfl
  refine ⟨.lst (intsD zs), .lst (intsD ys), .lst (intsD xs), xs.reverse, m, ?_, by rw [List.length_reverse]; rw [lys] at hxl; omega, hm0, hm1⟩
  have s1 : (sAsg (iBin oMulT (iBin oMulT (iBin oMulT (iBin oMulT (iBin oMulT (iBin oPow (iP (.int 10)) (iP (.int 64))) (iBin oPow (iP (.int 10)) (iP (.int 64)))) (iBin oPow (iP (.int 10)) (iP (.int 64)))) (iBin oPow (iP (.int 10)) (iP (.int 64)))) (iBin oPow (iP (.int 10)) (iP (.int 64)))) (iBin oPow (iP (.int 10)) (iP (.int 64)))) (gName 2)) [some (.p (.frz (ns.map PD.int))), some (.p (.int 198)), none, none, none, none] [] = some (.nx [some (.p (.frz (ns.map PD.int))), some (.p (.int 198)), some (.p (.int B)), none, none, none], []) := by
    unfold sAsg
    rw [e1]
    rfl
  have s2 : (sPar 4 5 (aCons dLc1 (aCons (iBin oAdd (iP (.int 70001)) (iBin oMulT (iP (.int 7919)) (iVar 1))) aNil))) [some (.p (.frz (ns.map PD.int))), some (.p (.int 198)), some (.p (.int B)), none, none, none] [] = some (.nx [some (.p (.frz (ns.map PD.int))), some (.p (.int 198)), some (.p (.int B)), none, some (.loc 1), some (.p (.int 1637963))], [.lst (intsD zs), .lst (intsD ys)]) := by
    unfold sPar aCons
    rw [hlc1]
    rfl
  have s3 : (sFor (wAny (iVar 4)) (gName 3) dMix) [some (.p (.frz (ns.map PD.int))), some (.p (.int 198)), some (.p (.int B)), none, some (.loc 1), some (.p (.int 1637963))] [.lst (intsD zs), .lst (intsD ys)] = some (.nx [some (.p (.frz (ns.map PD.int))), some (.p (.int 198)), some (.p (.int B)), x3, some (.loc 1), some (.p (.int m))], [.lst (intsD zs), .lst (intsD ys)]) := hfor
  have s4 : (sRet (iLst (aCons (iRev dLc2) (aCons (iVar 5) aNil)))) [some (.p (.frz (ns.map PD.int))), some (.p (.int 198)), some (.p (.int B)), x3, some (.loc 1), some (.p (.int m))] [.lst (intsD zs), .lst (intsD ys)] = some (.rt (.loc 4), [.lst (intsD zs), .lst (intsD ys), .lst (intsD xs), .lst (intsD xs).reverse, .lst [.loc 3, .p (.int m)]]) := by
    unfold sRet iLst aCons iRev
    rw [hlc2]
    rfl
  show (match r__law_deal [some (.p (.frz (ns.map PD.int))), some (.p (.int 198)), none, none, none, none] [] with
    | some (.rt d, st1) => some (d, st1)
    | some (.nx _, st1) => some (D.p .non, st1)
    | _ => none) = _
  have hr : r__law_deal [some (.p (.frz (ns.map PD.int))), some (.p (.int 198)), none, none, none, none] [] = some (.rt (.loc 4), [.lst (intsD zs), .lst (intsD ys), .lst (intsD xs), .lst (intsD xs).reverse, .lst [.loc 3, .p (.int m)]]) := by
    refine (seq_nx s1).trans ?_
    refine (seq_nx s2).trans ?_
    refine (seq_nx s3).trans ?_
    exact seq_rt s4
  rw [hr]
  have e9 : (intsD xs).reverse = intsD xs.reverse := by unfold intsD; rw [List.map_reverse]
  rw [e9]
/-! ### _law_any -/
section
variable {i j : Nat} {st : Store} {xs : List Int} {m b : Int} {r : Option D}
abbrev row0 : EI := (iBin oIxA (iVar 0) (iP (.int 0)))
theorem ev_row (h : DealAt i j st xs m) : row0 [some (.loc i), some (.p (.int b)), r] st = some (.loc j, st) := by
  have h1 := h.at_
  simp [row0, iBin, iVar, iP, oIxA, dicOf, oIx, seqOf, tupOf, lstR, lstOf, h1, atI, ixN]
theorem ev_len (h : DealAt i j st xs m) : (iCallS cLen (aCons row0 aNil)) [some (.loc i), some (.p (.int b)), r] st = some (.p (.int xs.length), st) := by
  have h1 := h.row
  refine (call1_eq (ev_row h)).trans ?_
  simp [cLen, seqOf, tupOf, lstR, lstOf, h1, intsD]
theorem at_last {α : Type} (l : List α) (x : α) : atI (l ++ [x]) (-1) = some x := by
  have h1 : (1 : Int) ≤ (l.length : Int) + 1 := by omega
  have h2 : (-1 + ((l.length : Int) + 1)).toNat = l.length := by omega
  simp [atI, ixN, h1, h2]
theorem ev_last {x : Int} {zs : List Int} (h : DealAt i j st (zs ++ [x]) m) : (iBin oIxA row0 (iUn oNeg (iP (.int 1)))) [some (.loc i), some (.p (.int b)), r] st = some (.p (.int x), st) := by
  have h1 := h.row
  refine (bin_eq (ev_row h) (show (iUn oNeg (iP (.int 1))) [some (.loc i), some (.p (.int b)), r] st = some (.p (.int (-1)), st) from rfl)).trans ?_
  have e : intsD (zs ++ [x]) = intsD zs ++ [.p (.int x)] := by simp [intsD]
  simp only [oIxA, dicOf, h1]
  simp only [oIx, seqOf, tupOf, lstR, lstOf, h1, e, at_last]
theorem ev_pop {x : Int} {zs : List Int} (h : DealAt i j st (zs ++ [x]) m) : (iMethT "list" mPop row0 aNil) [some (.loc i), some (.p (.int b)), r] st = some (.p (.int x), st.set j (.lst (intsD zs))) := by
  have h1 := h.row
  have e : intsD (zs ++ [x]) = intsD zs ++ [.p (.int x)] := by simp [intsD]
  unfold iMethT
  rw [ev_row h]
  simp [kindIs, h1, aNil, mPop, e]
theorem DealAt.put {ys : List Int} (h : DealAt i j st xs m) (hl : ys.length ≤ 1000) : DealAt i j (st.set j (.lst (intsD ys))) ys m := by
  have hj : j < st.length := (List.getElem?_eq_some_iff.mp h.row).1
  exact ⟨h.ne, by rw [List.getElem?_set_ne (Ne.symm h.ne)]; exact h.at_, by rw [List.getElem?_set_self hj], hl⟩
theorem DealAt.same (h : DealAt i j st xs m) : st.set j (.lst (intsD xs)) = st := by
  have hj := List.getElem?_eq_some_iff.mp h.row
  rw [← hj.2, List.set_getElem_self]
abbrev anyT : BI := (bAnd (bVal (iBin (oInt fun i j => decide (j < i)) (iCallS cLen (aCons row0 aNil)) (iP (.int 0)))) (bVal (iBin oEq (iBin oIxA row0 (iUn oNeg (iP (.int 1)))) (iP (.int 0)))))
abbrev anyB : SI := (sSeq (sExpr (iMethT "list" mPop row0 aNil)) sNil)
theorem ev_gt (h : DealAt i j st xs m) : (bVal (iBin (oInt fun i j => decide (j < i)) (iCallS cLen (aCons row0 aNil)) (iP (.int 0)))) [some (.loc i), some (.p (.int b)), r] st = some (decide (0 < xs.length), st) := by
  unfold bVal
  rw [bin_eq (ev_len h) (show (iP (.int 0)) [some (.loc i), some (.p (.int b)), r] st = some (.p (.int 0), st) from rfl)]
  simp [oInt]
theorem loop_ok : ∀ (n : Nat) (xs : List Int) (st : Store), DealAt i j st xs m → xs.length < n → ∃ ys : List Int, whileI anyT anyB n [some (.loc i), some (.p (.int b)), none] st = some (.nx [some (.loc i), some (.p (.int b)), none], st.set j (.lst (intsD ys))) ∧ ys.length ≤ xs.length
  | 0, xs, st, h, hn => by omega
  | n + 1, xs, st, h, hn => by
    unfold whileI
    rcases List.eq_nil_or_concat xs with e | ⟨zs, x, e⟩
    · subst e
      refine ⟨[], ?_, Nat.le_refl _⟩
      have t : anyT [some (.loc i), some (.p (.int b)), none] st = some (false, st) := by
        unfold anyT bAnd
        rw [ev_gt h]
        rfl
      rw [t]
      dsimp only
      rw [h.same]
    · rw [List.concat_eq_append] at e
      subst e
      by_cases hx : x = 0
      · have t : anyT [some (.loc i), some (.p (.int b)), none] st = some (true, st) := by
          unfold anyT bAnd
          rw [ev_gt h]
          have : decide (0 < (zs ++ [x]).length) = true := by simp
          rw [this]
          dsimp only
          unfold bVal
          rw [bin_eq (ev_last h) (show (iP (.int 0)) [some (.loc i), some (.p (.int b)), none] st = some (.p (.int 0), st) from rfl)]
          simp [oEq, eqJ, hx]
        have bd : anyB [some (.loc i), some (.p (.int b)), none] st = some (.nx [some (.loc i), some (.p (.int b)), none], st.set j (.lst (intsD zs))) := by
          unfold anyB
          refine (seq_nx (st1 := st.set j (.lst (intsD zs))) ?_).trans rfl
          unfold sExpr
          rw [ev_pop h]
        rw [t]
        dsimp only
        rw [bd]
        dsimp only
        have hl : zs.length ≤ 1000 := by have := h.few; simp at this; omega
        obtain ⟨ys, e1, e2⟩ := loop_ok n zs _ (h.put hl) (by simp at hn; omega)
        refine ⟨ys, ?_, by simp; omega⟩
        rw [e1, List.set_set]
      · have t : anyT [some (.loc i), some (.p (.int b)), none] st = some (false, st) := by
          unfold anyT bAnd
          rw [ev_gt h]
          have : decide (0 < (zs ++ [x]).length) = true := by simp
          rw [this]
          dsimp only
          unfold bVal
          rw [bin_eq (ev_last h) (show (iP (.int 0)) [some (.loc i), some (.p (.int b)), none] st = some (.p (.int 0), st) from rfl)]
          simp [oEq, eqJ, hx]
        refine ⟨zs ++ [x], ?_, Nat.le_refl _⟩
        rw [t]
        dsimp only
        rw [h.same]
/-- a draw -/
theorem any_ok (h : DealAt i j st xs m) (hb : 0 < b) (hb2 : b < 2147483648) (hm : 0 ≤ m) (hm2 : m < 2147483647) : ∃ (d : Int) (ys : List Int) (m2 : Int),
    e__law_any.run [.loc i, .p (.int b)] st = some (.p (.int d), (st.set j (.lst (intsD ys))).set i (.lst [.loc j, .p (.int m2)])) ∧ 0 ≤ d ∧ d < b ∧ ys.length ≤ xs.length ∧ 0 ≤ m2 ∧ m2 < 2147483647 := by
  have hi : i < st.length := (List.getElem?_eq_some_iff.mp h.at_).1
  have hj : j < st.length := (List.getElem?_eq_some_iff.mp h.row).1
  obtain ⟨ys, e1, l1⟩ := loop_ok (b := b) 1000000 xs st h (by have := h.few; omega)
  have hw : sWhile anyT anyB [some (.loc i), some (.p (.int b)), none] st = some (.nx [some (.loc i), some (.p (.int b)), none], st.set j (.lst (intsD ys))) := e1
  have hy : ys.length ≤ 1000 := Nat.le_trans l1 h.few
  have h2 := h.put hy
  have hlog : b.natAbs.log2 < 9000 := by
    have : b.natAbs.log2 < 32 := (Nat.log2_lt (by omega)).mpr (by omega)
    omega
  have dv : ∀ (x : Int) (s : Store), oFdiv (.p (.int x)) (.p (.int b)) s = some (.p (.int (x / b)), s) := fun x s => by
    show (if 0 < b ∧ b.natAbs.log2 < 9000 then some (D.p (.int (x / b)), s) else _) = _
    rw [if_pos ⟨hb, hlog⟩]
  have md : ∀ (x : Int) (s : Store), oMod (.p (.int x)) (.p (.int b)) s = some (.p (.int (x % b)), s) := fun x s => by
    show (if 0 < b then some (D.p (.int (x % b)), s) else none) = _
    rw [if_pos hb]
  show ∃ (d : Int) (zs : List Int) (m2 : Int), (match r__law_any [some (.loc i), some (.p (.int b)), none] st with
    | some (.rt d, st1) => some (d, st1)
    | some (.nx _, st1) => some (D.p .non, st1)
    | _ => none) = some (.p (.int d), (st.set j (.lst (intsD zs))).set i (.lst [.loc j, .p (.int m2)])) ∧ _
  generalize hs1 : st.set j (.lst (intsD ys)) = st1 at h2 hw
  have setm : (st1.set i (.lst [.loc j, .p (.int m)])) = st1 := by
    have z := List.getElem?_eq_some_iff.mp h2.at_
    rw [← z.2, List.set_getElem_self]
  rcases List.eq_nil_or_concat ys with e | ⟨zs, x, e⟩
  · subst e
    have t : (bVal (iBin (oInt fun i j => decide (j < i)) (iCallS cLen (aCons row0 aNil)) (iP (.int 0)))) [some (.loc i), some (.p (.int b)), none] st1 = some (false, st1) := by
      rw [ev_gt h2]
      rfl
    let m2 : Int := (m * 48271 + 31) % 2147483647
    have hm20 : 0 ≤ m2 := Int.emod_nonneg _ (by decide)
    have hm21 : m2 < 2147483647 := Int.emod_lt_of_pos _ (by decide)
    have i1 : i < st1.length := by rw [← hs1, List.length_set]; exact hi
    have g1 : (iBin oIxA (iVar 0) (iP (.int 1))) [some (.loc i), some (.p (.int b)), none] st1 = some (.p (.int m), st1) := by
      have h1 := h2.at_
      simp [iBin, iVar, iP, oIxA, dicOf, oIx, seqOf, tupOf, lstR, lstOf, h1, atI, ixN]
    have g2 : (iBin oMulT (iBin oIxA (iVar 0) (iP (.int 1))) (iP (.int 48271))) [some (.loc i), some (.p (.int b)), none] st1 = some (.p (.int (m * 48271)), st1) := by
      refine (bin_eq (fb := iP (.int 48271)) g1 rfl).trans ?_
      show (if m.natAbs.log2 + (48271 : Int).natAbs.log2 < 900000 then some (D.p (.int (m * 48271)), st1) else none) = _
      rw [if_pos (mul_small hm (by omega) (by decide) (by decide))]
    have g3 := bin_eq (g := oAdd) (fb := iP (.int 31)) g2 rfl
    have g4 := call1_eq (g := cInt) (g3.trans rfl)
    have g5 := bin_eq (g := oMod) (fb := iP (.int 2147483647)) (g4.trans rfl) rfl
    have a1 : (sAsg (iBin oMod (iCallS cInt (aCons (iBin oAdd (iBin oMulT (iBin oIxA (iVar 0) (iP (.int 1))) (iP (.int 48271))) (iP (.int 31))) aNil)) (iP (.int 2147483647))) (gSubJ (iVar 0) (iP (.int 1)))) [some (.loc i), some (.p (.int b)), none] st1 = some (.nx [some (.loc i), some (.p (.int b)), none], st1.set i (.lst [.loc j, .p (.int m2)])) := by
      unfold sAsg
      rw [g5.trans (show oMod (.p (.int (m * 48271 + 31))) (.p (.int 2147483647)) st1 = some (.p (.int m2), st1) from rfl)]
      have h1 := h2.at_
      simp [gSubJ, iVar, iP, setJ, h1, ixN]
    let st2 := st1.set i (.lst [.loc j, .p (.int m2)])
    have at2 : st2[i]? = some (.lst [.loc j, .p (.int m2)]) := List.getElem?_set_self i1
    have k1 : (iBin oIxA (iVar 0) (iP (.int 1))) [some (.loc i), some (.p (.int b)), none] st2 = some (.p (.int m2), st2) := by
      simp [iBin, iVar, iP, oIxA, dicOf, oIx, seqOf, tupOf, lstR, lstOf, at2, atI, ixN]
    have k2 := bin_eq (g := oFdiv) (fb := iP (.int 64)) k1 rfl
    have k3 := call1_eq (g := cInt) (k2.trans (show oFdiv (.p (.int m2)) (.p (.int 64)) st2 = some (.p (.int (m2 / 64)), st2) from rfl))
    have k4 := (bin_eq (g := oMod) (fb := iVar 1) (k3.trans (show cInt [.p (.int (m2 / 64))] st2 = some (.p (.int (m2 / 64)), st2) from rfl)) (show iVar 1 [some (.loc i), some (.p (.int b)), none] st2 = some (.p (.int b), st2) from rfl)).trans (md _ _)
    refine ⟨(m2 / 64) % b, [], m2, ?_, Int.emod_nonneg _ (by omega), Int.emod_lt_of_pos _ hb, Nat.zero_le _, hm20, hm21⟩
    have hr : r__law_any [some (.loc i), some (.p (.int b)), none] st = some (.rt (.p (.int ((m2 / 64) % b))), st2) := by
      refine (seq_nx hw).trans ?_
      refine (seq_nx (f := sIf _ _ _) (st1 := st1) (env1 := [some (.loc i), some (.p (.int b)), none]) ?_).trans ?_
      · unfold sIf
        rw [t]
        rfl
      · refine (seq_nx a1).trans ?_
        refine seq_rt ?_
        unfold sRet
        rw [k4]
    rw [hr, hs1]
  · rw [List.concat_eq_append] at e
    subst e
    have t : (bVal (iBin (oInt fun i j => decide (j < i)) (iCallS cLen (aCons row0 aNil)) (iP (.int 0)))) [some (.loc i), some (.p (.int b)), none] st1 = some (true, st1) := by
      rw [ev_gt h2]
      simp
    have hz : zs.length ≤ 1000 := by simp at hy; omega
    have h3 := h2.put (ys := zs) hz
    have j1 : j < st1.length := (List.getElem?_eq_some_iff.mp h2.row).1
    have p1 : (sAsg (iCallS cInt (aCons (iMethT "list" mPop row0 aNil) aNil)) (gName 2)) [some (.loc i), some (.p (.int b)), none] st1 = some (.nx [some (.loc i), some (.p (.int b)), some (.p (.int x))], st1.set j (.lst (intsD zs))) := by
      unfold sAsg
      rw [call1_eq (g := cInt) (ev_pop h2)]
      rfl
    have p2 : (sExpr (iMethT "list" mAppend row0 (aCons (iBin oFdiv (iVar 2) (iVar 1)) aNil))) [some (.loc i), some (.p (.int b)), some (.p (.int x))] (st1.set j (.lst (intsD zs))) = some (.nx [some (.loc i), some (.p (.int b)), some (.p (.int x))], st1.set j (.lst (intsD (zs ++ [x / b])))) := by
      have row := h3.row
      have few : (intsD zs).length < 16777216 := by unfold intsD; rw [List.length_map]; omega
      have ap : intsD (zs ++ [x / b]) = intsD zs ++ [.p (.int (x / b))] := by simp [intsD]
      have q := (bin_eq (g := oFdiv) (show iVar 2 [some (.loc i), some (.p (.int b)), some (.p (.int x))] (st1.set j (.lst (intsD zs))) = some (.p (.int x), st1.set j (.lst (intsD zs))) from rfl) (show iVar 1 [some (.loc i), some (.p (.int b)), some (.p (.int x))] (st1.set j (.lst (intsD zs))) = some (.p (.int b), st1.set j (.lst (intsD zs))) from rfl)).trans (dv _ _)
      unfold sExpr iMethT
      rw [ev_row h3]
      have ar : aCons (iBin oFdiv (iVar 2) (iVar 1)) aNil [some (.loc i), some (.p (.int b)), some (.p (.int x))] (st1.set j (.lst (intsD zs))) = some ([.p (.int (x / b))], st1.set j (.lst (intsD zs))) := by
        unfold aCons
        rw [q]
        rfl
      simp only [kindIs, row]
      rw [ar]
      simp only [mAppend, addTo, row, if_pos few, List.set_set, ap]
      rfl
    have p3 : (iBin oMod (iVar 2) (iVar 1)) [some (.loc i), some (.p (.int b)), some (.p (.int x))] (st1.set j (.lst (intsD (zs ++ [x / b])))) = some (.p (.int (x % b)), st1.set j (.lst (intsD (zs ++ [x / b])))) :=
      (bin_eq (g := oMod) (show iVar 2 [some (.loc i), some (.p (.int b)), some (.p (.int x))] _ = some (.p (.int x), _) from rfl) (show iVar 1 [some (.loc i), some (.p (.int b)), some (.p (.int x))] _ = some (.p (.int b), _) from rfl)).trans (md _ _)
    refine ⟨x % b, zs ++ [x / b], m, ?_, Int.emod_nonneg _ (by omega), Int.emod_lt_of_pos _ hb, by simp at l1 ⊢; omega, hm, hm2⟩
    have hr : r__law_any [some (.loc i), some (.p (.int b)), none] st = some (.rt (.p (.int (x % b))), st1.set j (.lst (intsD (zs ++ [x / b])))) := by
      refine (seq_nx hw).trans ?_
      refine (seq_rt (f := sIf _ _ _) ?_)
      unfold sIf
      rw [t]
      dsimp only
      refine (seq_nx p1).trans ?_
      refine (seq_nx p2).trans ?_
      refine seq_rt ?_
      unfold sRet
      rw [p3]
    rw [hr]
    have h4 := h2.put (ys := zs ++ [x / b]) (by simp at hy ⊢; omega)
    have z := List.getElem?_eq_some_iff.mp h4.at_
    have e5 : ((st1.set j (.lst (intsD (zs ++ [x / b])))).set i (.lst [.loc j, .p (.int m)])) = st1.set j (.lst (intsD (zs ++ [x / b]))) := by
      rw [← z.2, List.set_getElem_self]
    rw [← hs1] at e5 ⊢
    rw [List.set_set] at e5 ⊢
    rw [e5]
end
end J

set_option Elab.async false
set_option linter.all false
set_option maxRecDepth 1000000
set_option maxHeartbeats 0
namespace J
open PySem PySem.Spec L2
set_option autoImplicit false
def law1 : SI := (sPar 1 2 (aCons (iCallC true e__law_deal.run (aCons (iVar 0) (aCons (iP (.int 198)) aNil))) (aCons (iLst aNil) aNil)))
def law2 : SI := (sAsg (iCallC false e_read_machine.run (aCons (iP (.str lawText)) aNil)) (gName 3))
def law3 : SI := (sPar 4 5 (aCons (iCallC false e__law_strange.run (aCons (iVar 1) aNil)) (aCons (iMake false "Start" e_Start_init.run (aCons (iP (.str "u")) (aCons (iTup (aCons (iTup (aCons (iP (.int 0)) (aCons (iP (.int 1)) aNil))) (aCons (iTup (aCons (iP (.int 0)) (aCons (iP (.int 1)) aNil))) aNil))) aNil))) aNil)))
def bodyA : SI := (sSeq (sAsg (iBin oAdd (iVar 2) (iLst (aCons (iTup (aCons (iCallC false e_is_field.run (aCons (iVar 6) aNil)) (aCons (iP (.bl false)) aNil))) (aCons (iTup (aCons (iCallC false e_is_field.run (aAppN 0 1 aNil (aCons (iVar 6) aNil))) (aCons (iP (.bl false)) aNil))) (aCons (iTup (aCons (iCallC false e_is_number_of.run (aCons (iP (.int 0)) (aCons (iVar 6) aNil))) (aCons (iP (.bl false)) aNil))) (aCons (iTup (aCons (iCallC false e_is_room.run (aCons (iP (.int 0)) (aCons (iP (.int 3)) (aCons (iVar 6) aNil)))) (aCons (iP (.bl false)) aNil))) (aCons (iTup (aCons (iCallC false e_is_room.run (aCons (iP (.int 5)) (aCons (iP (.int 1)) (aCons (iVar 6) aNil)))) (aCons (iP (.bl false)) aNil))) (aCons (iTup (aCons (iCallC false e_is_way.run (aCons (iVar 3) (aCons (iP (.str "u")) (aCons (iVar 6) aNil)))) (aCons (iP (.bl false)) aNil))) (aCons (iTup (aCons (iCallC false e_read_answer.run (aCons (iVar 3) (aCons (iVar 6) aNil))) (aCons (iP (.bl false)) aNil))) (aCons (iTup (aCons (iCallC false e_read_answer.run (aCons (iVar 3) (aCons (iMake false "Answer" e_Answer_init.run (aCons (iP (.str "forgets")) (aCons (iVar 6) aNil))) aNil))) (aCons (iP (.bl false)) aNil))) (aCons (iTup (aCons (iCallC false e_read_answer.run (aCons (iVar 3) (aCons (iMake false "Answer" e_Answer_init.run (aCons (iVar 6) (aCons (iTup aNil) aNil))) aNil))) (aCons (iP (.bl false)) aNil))) aNil))))))))))) (gName 2))
(sSeq (sAsg (iBin oAdd (iVar 2) (iLst (aCons (iTup (aCons (iCallC false e_read_relation.run (aCons (iVar 3) (aCons (iVar 5) (aCons (iP (.str "u")) (aCons (iTup (aCons (iTup (aCons (iP (.int 1)) (aCons (iP (.int 1)) aNil))) (aCons (iTup (aCons (iP (.int 0)) (aCons (iP (.int 1)) aNil))) (aCons (iTup (aCons (iP (.int 0)) (aCons (iP (.int 1)) aNil))) aNil)))) (aCons (iMake false "Answer" e_Answer_init.run (aCons (iP (.str "always")) (aCons (iVar 6) aNil))) aNil)))))) (aCons (iP (.bl false)) aNil))) (aCons (iTup (aCons (iCallC false e_read_relation.run (aCons (iVar 3) (aCons (iVar 5) (aCons (iP (.str "vv")) (aCons (iTup (aCons (iTup (aCons (iP (.int 1)) (aCons (iP (.int 1)) aNil))) (aCons (iTup (aCons (iP (.int 0)) (aCons (iP (.int 1)) aNil))) aNil))) (aCons (iVar 6) aNil)))))) (aCons (iP (.bl false)) aNil))) (aCons (iTup (aCons (iCallC false e_read_alike_from.run (aCons (iVar 3) (aCons (iVar 3) (aCons (iVar 5) (aCons (iVar 5) (aCons (iMake false "Answer" e_Answer_init.run (aCons (iP (.str "alike")) (aCons (iVar 6) aNil))) aNil)))))) (aCons (iP (.bl false)) aNil))) (aCons (iTup (aCons (iCallC false e_read_alike_from.run (aCons (iVar 3) (aCons (iVar 3) (aCons (iVar 5) (aCons (iVar 5) (aCons (iMake false "Answer" e_Answer_init.run (aCons (iP (.str "parted")) (aCons (iVar 6) aNil))) aNil)))))) (aCons (iP (.bl false)) aNil))) aNil)))))) (gName 2))
sNil))
def law5 : SI :=
  (sSeq (sFor (wAny (iBin oAdd (iCut (iVar 4) pNone (pSome (iP (.int 6)))) (iCut (iVar 4) (pSome (iP (.int 8))) pNone))) (gName 6) (sSeq (sExpr (iMethT "list" mAppend (iVar 2) (aCons (iTup (aCons (iCallC false e_is_number_of.run (aCons (iP (.int 7)) (aCons (iVar 6) aNil))) (aCons (iP (.bl false)) aNil))) aNil)))
  sNil))
  (sSeq (sFor (wAny (iCallC false e__law_room_values.run aNil)) (gTup 2 (gCons (gName 6) (gCons (gName 7) gNil))) (sSeq (sAsg (iBin oAdd (iVar 2) (iLst (aCons (iTup (aCons (iCallC false e_is_room.run (aCons (iP (.int 0)) (aCons (iP (.int 3)) (aCons (iVar 6) aNil)))) (aCons (iVar 7) aNil))) (aCons (iTup (aCons (iCallC false e_is_room.run (aAppN 0 3 aNil (aCons (iP (.int 0)) (aCons (iP (.int 3)) (aCons (iVar 6) aNil))))) (aCons (iVar 7) aNil))) (aCons (iTup (aCons (iCallC false e_is_room.run (aCons (iP (.int 0)) (aCons (iP (.int 4)) (aCons (iVar 6) aNil)))) (aCons (iOr (iBin oEq (iVar 6) (iTup aNil)) (iBin oEq (iVar 6) (iTup (aCons (iTup (aCons (iTup (aCons (iP (.int 1)) (aCons (iP (.int 1)) aNil))) (aCons (iTup (aCons (iP (.int 0)) (aCons (iP (.int 1)) aNil))) (aCons (iTup (aCons (iP (.int 0)) (aCons (iP (.int 1)) aNil))) (aCons (iTup (aCons (iP (.int 0)) (aCons (iP (.int 1)) aNil))) aNil))))) aNil)))) aNil))) aNil))))) (gName 2))
  sNil))
  (sSeq (sFor (wAny (iLst (aCons (iTup (aCons (iTup aNil) (aCons (iP (.bl true)) aNil))) (aCons (iTup (aCons (iTup (aCons (iTup (aCons (iP (.int 1)) (aCons (iP (.int 2)) aNil))) (aCons (iTup (aCons (iP (.int 0)) (aCons (iP (.int 0)) aNil))) aNil))) (aCons (iP (.bl false)) aNil))) (aCons (iTup (aCons (iTup (aCons (iTup (aCons (iP (.int 1)) (aCons (iP (.int 4)) aNil))) aNil)) (aCons (iP (.bl true)) aNil))) (aCons (iTup (aCons (iTup (aCons (iTup (aCons (iP (.int 0)) (aCons (iP (.int 1)) aNil))) aNil)) (aCons (iP (.bl true)) aNil))) (aCons (iTup (aCons (iTup (aCons (iTup (aCons (iP (.int 1)) (aCons (iP (.int 0)) aNil))) (aCons (iTup (aCons (iP (.int 0)) (aCons (iP (.int 1)) aNil))) aNil))) (aCons (iP (.bl true)) aNil))) (aCons (iTup (aCons (iTup (aCons (iTup (aCons (iP (.int 1)) (aCons (iP (.int 1)) aNil))) (aCons (iTup (aCons (iP (.int 0)) (aCons (iP (.int 1)) aNil))) aNil))) (aCons (iP (.bl false)) aNil))) (aCons (iTup (aCons (iTup (aCons (iTup (aCons (iP (.int 1)) (aCons (iP (.int 5)) aNil))) aNil)) (aCons (iP (.bl false)) aNil))) (aCons (iTup (aCons (iTup (aCons (iTup (aCons (iP (.int 1)) (aCons (iBin oSub (iP (.int 0)) (iP (.int 1))) aNil))) aNil)) (aCons (iP (.bl false)) aNil))) (aCons (iTup (aCons (iTup (aCons (iTup (aCons (iP (.int 3)) (aCons (iP (.int 1)) aNil))) aNil)) (aCons (iP (.bl false)) aNil))) (aCons (iTup (aCons (iTup (aCons (iTup (aCons (iP (.bl true)) (aCons (iP (.int 0)) aNil))) aNil)) (aCons (iP (.bl false)) aNil))) (aCons (iTup (aCons (iTup (aCons (iTup (aCons (iP (.int 1)) (aCons (iP (.bl false)) aNil))) aNil)) (aCons (iP (.bl false)) aNil))) (aCons (iTup (aCons (iTup (aCons (iTup (aCons (iP (.int 1)) (aCons (iTup (aCons (iP (.int 0)) (aCons (iP (.int 1)) aNil))) aNil))) aNil)) (aCons (iP (.bl false)) aNil))) aNil)))))))))))))) (gTup 2 (gCons (gName 6) (gCons (gName 7) gNil))) (sSeq (sExpr (iMethT "list" mAppend (iVar 2) (aCons (iTup (aCons (iCallC false e_is_room.run (aCons (iP (.int 5)) (aCons (iP (.int 2)) (aCons (iVar 6) aNil)))) (aCons (iVar 7) aNil))) aNil)))
  sNil))
  (sSeq (sFor (wAny (iLst (aCons (iTup (aCons (iTup aNil) (aCons (iP (.bl true)) aNil))) (aCons (iTup (aCons (iTup (aCons (iP (.str "k")) aNil)) (aCons (iP (.bl true)) aNil))) (aCons (iTup (aCons (iTup (aCons (iP (.str "k")) (aCons (iP (.str "k")) (aCons (iP (.str "l")) (aCons (iP (.str "m")) (aCons (iP (.str "k")) aNil)))))) (aCons (iP (.bl true)) aNil))) (aCons (iTup (aCons (iTup (aCons (iP (.str "m")) aNil)) (aCons (iP (.bl false)) aNil))) (aCons (iTup (aCons (iTup (aCons (iP (.str "l")) (aCons (iP (.str "l")) aNil))) (aCons (iP (.bl false)) aNil))) (aCons (iTup (aCons (iTup (aCons (iP (.str "k")) (aCons (iP (.str "m")) aNil))) (aCons (iP (.bl false)) aNil))) (aCons (iTup (aCons (iTup (aCons (iP (.str "l")) (aCons (iP (.str "m")) (aCons (iP (.str "z")) aNil)))) (aCons (iP (.bl false)) aNil))) (aCons (iTup (aCons (iLst (aCons (iP (.str "k")) aNil)) (aCons (iP (.bl false)) aNil))) (aCons (iTup (aCons (iP (.str "k")) (aCons (iP (.bl false)) aNil))) (aCons (iTup (aCons (iTup (aCons (iP (.str "k")) (aCons (iP .non) aNil))) (aCons (iP (.bl false)) aNil))) (aCons (iTup (aCons (iTup (aCons (iP (.str "k")) (aCons (iTup (aCons (iP (.str "k")) aNil)) aNil))) (aCons (iP (.bl false)) aNil))) (aCons (iTup (aCons (iTup (aCons (iP (.str "k")) (aCons (iP (.bl true)) aNil))) (aCons (iP (.bl false)) aNil))) (aCons (iTup (aCons (iTup (aCons (iP (.str "")) aNil)) (aCons (iP (.bl false)) aNil))) (aCons (iTup (aCons (iTup (aCons (iP (.int 0)) aNil)) (aCons (iP (.bl false)) aNil))) (aCons (iTup (aCons (iTup (aCons (iP (.str "K")) aNil)) (aCons (iP (.bl false)) aNil))) aNil))))))))))))))))) (gTup 2 (gCons (gName 6) (gCons (gName 7) gNil))) (sSeq (sAsg (iBin oAdd (iVar 2) (iLst (aCons (iTup (aCons (iCallC false e_is_way.run (aCons (iVar 3) (aCons (iP (.str "u")) (aCons (iVar 6) aNil)))) (aCons (iVar 7) aNil))) (aCons (iTup (aCons (iCallC false e_is_way.run (aAppN 0 3 aNil (aCons (iVar 3) (aCons (iP (.str "u")) (aCons (iVar 6) aNil))))) (aCons (iVar 7) aNil))) aNil)))) (gName 2))
  sNil))
  (sSeq (sFor (wAny (iLst (aCons (iTup (aCons (iTup (aCons (iP (.int 0)) (aCons (iP (.int 1)) aNil))) (aCons (iP (.bl true)) aNil))) (aCons (iTup (aCons (iTup (aCons (iBin oSub (iP (.int 0)) (iP (.int 5))) (aCons (iP (.int 7)) aNil))) (aCons (iP (.bl true)) aNil))) (aCons (iTup (aCons (iTup (aCons (iP (.int 6)) (aCons (iP (.int 4)) aNil))) (aCons (iP (.bl false)) aNil))) (aCons (iTup (aCons (iTup (aCons (iP (.int 0)) (aCons (iP (.int 3)) aNil))) (aCons (iP (.bl false)) aNil))) (aCons (iTup (aCons (iTup (aCons (iP (.int 3)) (aCons (iP (.int 0)) aNil))) (aCons (iP (.bl false)) aNil))) (aCons (iTup (aCons (iTup (aCons (iP (.int 3)) (aCons (iBin oSub (iP (.int 0)) (iP (.int 1))) aNil))) (aCons (iP (.bl false)) aNil))) (aCons (iTup (aCons (iTup (aCons (iP (.int 3)) aNil)) (aCons (iP (.bl false)) aNil))) (aCons (iTup (aCons (iTup (aCons (iP (.int 3)) (aCons (iP (.int 1)) (aCons (iP (.int 1)) aNil)))) (aCons (iP (.bl false)) aNil))) (aCons (iTup (aCons (iLst (aCons (iP (.int 3)) (aCons (iP (.int 1)) aNil))) (aCons (iP (.bl false)) aNil))) (aCons (iTup (aCons (iTup (aCons (iP (.int 3)) (aCons (iP (.bl true)) aNil))) (aCons (iP (.bl false)) aNil))) (aCons (iTup (aCons (iTup (aCons (iP (.bl false)) (aCons (iP (.int 1)) aNil))) (aCons (iP (.bl false)) aNil))) (aCons (iTup (aCons (iTup (aCons (iP (.str "3")) (aCons (iP (.int 1)) aNil))) (aCons (iP (.bl false)) aNil))) (aCons (iTup (aCons (iP (.int 3)) (aCons (iP (.bl false)) aNil))) (aCons (iTup (aCons (iTup (aCons (iBin oPow (iP (.int 10)) (iP (.int 30))) (aCons (iBin oAdd (iBin oPow (iP (.int 10)) (iP (.int 30))) (iP (.int 1))) aNil))) (aCons (iP (.bl true)) aNil))) (aCons (iTup (aCons (iTup (aCons (iBin oMulT (iP (.int 2)) (iBin oPow (iP (.int 10)) (iP (.int 30)))) (aCons (iBin oPow (iP (.int 10)) (iP (.int 31))) aNil))) (aCons (iP (.bl false)) aNil))) aNil))))))))))))))))) (gTup 2 (gCons (gName 6) (gCons (gName 7) gNil))) (sSeq (sAsg (iBin oAdd (iVar 2) (iLst (aCons (iTup (aCons (iCallC false e_is_number_of.run (aCons (iP (.int 0)) (aCons (iVar 6) aNil))) (aCons (iVar 7) aNil))) (aCons (iTup (aCons (iCallC false e_is_number_of.run (aAppN 0 2 aNil (aCons (iP (.int 0)) (aCons (iVar 6) aNil)))) (aCons (iVar 7) aNil))) aNil)))) (gName 2))
  sNil))
  (sSeq (sFor (wAny (iLst (aCons (iTup (aCons (iP (.int 0)) (aCons (iP (.bl true)) aNil))) (aCons (iTup (aCons (iP (.int 1)) (aCons (iP (.bl true)) aNil))) (aCons (iTup (aCons (iP (.int 6)) (aCons (iP (.bl true)) aNil))) (aCons (iTup (aCons (iP (.int 7)) (aCons (iP (.bl false)) aNil))) (aCons (iTup (aCons (iBin oSub (iP (.int 0)) (iP (.int 1))) (aCons (iP (.bl false)) aNil))) (aCons (iTup (aCons (iP (.bl true)) (aCons (iP (.bl false)) aNil))) (aCons (iTup (aCons (iP (.bl false)) (aCons (iP (.bl false)) aNil))) (aCons (iTup (aCons (iTup (aCons (iP (.int 1)) (aCons (iP (.int 1)) aNil))) (aCons (iP (.bl false)) aNil))) (aCons (iTup (aCons (iP (.str "1")) (aCons (iP (.bl false)) aNil))) (aCons (iTup (aCons (iP .non) (aCons (iP (.bl false)) aNil))) aNil)))))))))))) (gTup 2 (gCons (gName 6) (gCons (gName 7) gNil))) (sSeq (sExpr (iMethT "list" mAppend (iVar 2) (aCons (iTup (aCons (iCallC false e_is_number_of.run (aCons (iP (.int 7)) (aCons (iVar 6) aNil))) (aCons (iVar 7) aNil))) aNil)))
  sNil))
  (sSeq (sFor (wAny (iLst (aCons (iTup (aCons (iP (.int 0)) (aCons (iP (.bl true)) aNil))) (aCons (iTup (aCons (iP (.int 2)) (aCons (iP (.bl true)) aNil))) (aCons (iTup (aCons (iP (.int 89)) (aCons (iP (.bl true)) aNil))) (aCons (iTup (aCons (iP (.int 97)) (aCons (iP (.bl true)) aNil))) (aCons (iTup (aCons (iP (.int 1)) (aCons (iP (.bl false)) aNil))) (aCons (iTup (aCons (iP (.int 91)) (aCons (iP (.bl false)) aNil))) (aCons (iTup (aCons (iP (.int 101)) (aCons (iP (.bl false)) aNil))) (aCons (iTup (aCons (iBin oSub (iP (.int 0)) (iP (.int 2))) (aCons (iP (.bl false)) aNil))) (aCons (iTup (aCons (iP (.bl true)) (aCons (iP (.bl false)) aNil))) (aCons (iTup (aCons (iTup (aCons (iP (.int 0)) (aCons (iP (.int 1)) aNil))) (aCons (iP (.bl false)) aNil))) aNil)))))))))))) (gTup 2 (gCons (gName 6) (gCons (gName 7) gNil))) (sSeq (sExpr (iMethT "list" mAppend (iVar 2) (aCons (iTup (aCons (iCallC false e_is_field.run (aCons (iVar 6) aNil)) (aCons (iVar 7) aNil))) aNil)))
  sNil))
  (sSeq (sRet (iCallC false e__law_all.run (aCons (iVar 2) aNil)))
  sNil))))))))
theorem law_parts : r_law = sSeq law1 (sSeq law2 (sSeq law3 (sSeq (sFor (wAny (iVar 4)) (gName 6) bodyA) law5))) := rfl
def str1 : SI := (sAsg (iTup aNil) (gName 1))
def strB : SI := (sSeq (sAsg (iIf (bVal (iBin (oInt fun i j => decide (j < i)) (iVar 2) (iP (.int 0)))) (iTup (aCons (iVar 1) aNil)) (iTup (aCons (iP (.str "a")) aNil))) (gName 1))
  sNil)
def str3 : SI := (sSeq (sRet (iLst (aCons (iP .non) (aCons (iP (.bl true)) (aCons (iP (.bl false)) (aCons (iP (.str "")) (aCons (iP (.str "0")) (aCons (iP (.str "field")) (aCons (iBin oSub (iP (.int 0)) (iP (.int 7))) (aCons (iBin oPow (iP (.int 10)) (iP (.int 30))) (aCons (iTup (aCons (iP .non) aNil)) (aCons (iTup (aCons (iTup aNil) aNil)) (aCons (iLst aNil) (aCons (iLst (aCons (iP (.int 0)) aNil)) (aCons (iTup (aCons (iTup (aCons (iP (.int 0)) (aCons (iP (.int 1)) aNil))) aNil)) (aCons (iTup (aCons (iTup (aCons (iP (.str "k")) aNil)) aNil)) (aCons (iIf (bVal (iBin oNe (iVar 1) (iTup aNil))) (iVar 1) (iP .non)) (aCons (iTup (aCons (iP (.str "")) (aCons (iP (.str "")) aNil))) (aCons (iTup (aCons (iP (.bl true)) aNil)) (aCons (iTup (aCons (iTup (aCons (iP (.bl true)) (aCons (iP (.int 1)) aNil))) (aCons (iTup (aCons (iP (.int 0)) (aCons (iP (.int 1)) aNil))) aNil))) (aCons (iMake false "Start" e_Start_init.run (aCons (iP (.str "u")) (aCons (iTup aNil) aNil))) (aCons (iMake false "Answer" e_Answer_init.run (aCons (iP (.str "forgets")) (aCons (iTup aNil) aNil))) aNil))))))))))))))))))))))
  sNil)
theorem str_parts : r__law_strange = sSeq str1 (sSeq (sFor (wRng1 (aCons (iCallC false e__law_any.run (aCons (iVar 0) (aCons (iP (.int 60)) aNil))) aNil)) (gName 2) strB) str3) := rfl
def machS : Str := lawText
def machP : PD := match pureRun e_read_machine.run [.str machS] with
  | some r => r
  | none => .non
def insP (C : Str) (run : Run) (xs : List PD) : PD := match pureMake C run xs with
  | some r => r
  | none => .non
def startP : PD := insP "Start" e_Start_init.run [.str "u", .tun [.tun [.int 0, .int 1], .tun [.int 0, .int 1]]]
def strangeD (k : Nat) (x : PD) : List D := [.p .non, .p (.bl true), .p (.bl false), .p (.str ""), .p (.str "0"), .p (.str "field"), .p (.int (-7)), .p (.int (10 ^ 30)), .p (.tun [.non]), .p (.tun [.tun []]), .loc k, .loc (k + 1), .p (.tun [.tun [.int 0, .int 1]]), .p (.tun [.tun [.str "k"]]), .p x, .p (.tun [.str "", .str ""]), .p (.tun [.bl true]), .p (.tun [.tun [.bl true, .int 1], .tun [.int 0, .int 1]]), .p (insP "Start" e_Start_init.run [.str "u", .tun []]), .p (insP "Answer" e_Answer_init.run [.str "forgets", .tun []])]
def isTrue : Option (Fl × Store) → Bool
  | some (.rt (.p (.bl true)), _) => true
  | _ => false
def runK (body : D → SI) (w : Wk) : Nat → Nat → Env → Store → Option (Env × Store)
  | 0, _, env, st => some (env, st)
  | n + 1, k, env, st => match stepW w k st with
    | some (some d) => (match body d env st with
      | some (.nx env1, st1) => runK body w n (k + 1) env1 st1
      | _ => none)
    | _ => none
theorem forI_runK {body : D → SI} {w : Wk} : ∀ (n m k : Nat) {env env1 : Env} {st st1 : Store}, runK body w n k env st = some (env1, st1) → forI body w (n + m) k env st = forI body w m (k + n) env1 st1
  | 0, m, k, env, env1, st, st1, h => by cases h; rw [Nat.zero_add]; rfl
  | n + 1, m, k, env, env1, st, st1, h => by
    unfold runK at h
    have e : n + 1 + m = (n + m) + 1 := by omega
    rw [e]
    split at h
    · rename_i d hs
      split at h
      · rename_i env2 st2 hb
        rw [show k + (n + 1) = k + 1 + n by omega, ← forI_runK n m (k + 1) h]
        show (match stepW w k st with
          | some (some d) => (match body d env st with
            | some (.nx env2, st2) => forI body w (n + m) (k + 1) env2 st2
            | some (.ct env2, st2) => forI body w (n + m) (k + 1) env2 st2
            | some (.bk env2, st2) => some (.nx env2, st2)
            | some (.rt d, st2) => some (.rt d, st2)
            | none => none)
          | some none => some (.nx env, st)
          | none => none) = _
        rw [hs]
        dsimp only
        rw [hb]
      · cases h
    · cases h
def stA (c0 c1 c2 : Cell) (xs : List D) (m : D) (x : PD) : Store := [c0, c1, c2, .lst xs, .lst [.loc 3, m], .lst [], .lst [], .lst [.p (.int 0)], .lst (strangeD 6 x)]
def envA (s : PD) (p : D) (r : Option D) : Env := [some (.p s), some (.loc 4), some p, some (.p machP), some (.loc 8), some (.p startP), r, none]
def refA (k : Nat) : Env × Store := match runK (turnI (gName 6) bodyA) (.cell 8) k 0 (envA .non (.loc 5) none) (stA (.lst []) (.lst []) (.lst []) [] (.p .non) .non) with
  | some r => r
  | none => ([], [])
def garb (k : Nat) : List Cell := (refA k).2.drop 9
def pv (k : Nat) : D := .loc (8 + (garb k).length)
set_option linter.unusedVariables false
theorem a1 (x s : PD) (c0 c1 c2 : Cell) (xs : List D) (m : D) : runK (turnI (gName 6) bodyA) (.cell 8) 14 0 (envA s (.loc 5) none) (stA c0 c1 c2 xs m x) = some (envA s (pv 14) (some (.p (.tun [.tun [.str "k"]]))), stA c0 c1 c2 xs m x ++ garb 14) := by kernel_rfl
def nest : Nat → PD
  | 0 => .tun []
  | 1 => .tun [.str "a"]
  | n + 2 => .tun [nest (n + 1)]
def answerP : PD := insP "Answer" e_Answer_init.run [.str "forgets", .tun []]
theorem a2 (s : PD) (c0 c1 c2 : Cell) (xs : List D) (m : D) : (List.range 60).map (fun n => runK (turnI (gName 6) bodyA) (.cell 8) 1 14 (envA s (pv 14) (some (.p (.tun [.tun [.str "k"]])))) (stA c0 c1 c2 xs m (nest (n + 1)) ++ garb 14)) = (List.range 60).map (fun n => some (envA s (pv 15) (some (.p (nest (n + 1)))), stA c0 c1 c2 xs m (nest (n + 1)) ++ garb 15)) := by kernel_rfl
theorem a2n (s : PD) (c0 c1 c2 : Cell) (xs : List D) (m : D) : runK (turnI (gName 6) bodyA) (.cell 8) 1 14 (envA s (pv 14) (some (.p (.tun [.tun [.str "k"]])))) (stA c0 c1 c2 xs m .non ++ garb 14) = some (envA s (pv 15) (some (.p .non)), stA c0 c1 c2 xs m .non ++ garb 15) := by kernel_rfl
theorem a3 (x s : PD) (c0 c1 c2 : Cell) (xs : List D) (m : D) : runK (turnI (gName 6) bodyA) (.cell 8) 5 15 (envA s (pv 15) (some (.p x))) (stA c0 c1 c2 xs m x ++ garb 15) = some (envA s (pv 20) (some (.p answerP)), stA c0 c1 c2 xs m x ++ garb 20) := by kernel_rfl
theorem b0 (s : PD) (c0 c1 c2 : Cell) (xs : List D) (m : D) : isTrue (law5 (envA s (pv 20) (some (.p answerP))) (stA c0 c1 c2 xs m .non ++ garb 20)) = true := by kernel_rfl
theorem b1 (y s : PD) (c0 c1 c2 : Cell) (xs : List D) (m : D) : isTrue (law5 (envA s (pv 20) (some (.p answerP))) (stA c0 c1 c2 xs m (.tun [y]) ++ garb 20)) = true := by kernel_rfl
set_option linter.unusedVariables true
theorem at_range {α : Type} {f g : Nat → α} {k n : Nat} (h : (List.range k).map f = (List.range k).map g) (hn : n < k) : f n = g n := by
  have h1 := congrArg (fun l => l[n]?) h
  simp only [List.getElem?_map, List.getElem?_range hn, Option.map_some] at h1
  exact Option.some.inj h1
def deepP : Nat → PD
  | 0 => .non
  | n + 1 => nest (n + 1)
theorem loopA (n : Nat) (hn : n < 60) (s : PD) (c0 c1 c2 : Cell) (xs : List D) (m : D) : (sFor (wAny (iVar 4)) (gName 6) bodyA) (envA s (.loc 5) none) (stA c0 c1 c2 xs m (deepP n)) = some (.nx (envA s (pv 20) (some (.p answerP))), stA c0 c1 c2 xs m (deepP n) ++ garb 20) := by
  show forI (turnI (gName 6) bodyA) (.cell 8) 21 0 (envA s (.loc 5) none) (stA c0 c1 c2 xs m (deepP n)) = _
  rw [show (21 : Nat) = 14 + 7 from rfl, forI_runK 14 7 0 (a1 (deepP n) s c0 c1 c2 xs m)]
  have h2 : runK (turnI (gName 6) bodyA) (.cell 8) 1 14 (envA s (pv 14) (some (.p (.tun [.tun [.str "k"]])))) (stA c0 c1 c2 xs m (deepP n) ++ garb 14) = some (envA s (pv 15) (some (.p (deepP n))), stA c0 c1 c2 xs m (deepP n) ++ garb 15) := by
    cases n with
    | zero => exact a2n s c0 c1 c2 xs m
    | succ k => exact at_range (a2 s c0 c1 c2 xs m) (Nat.lt_of_succ_lt hn)
  rw [show (7 : Nat) = 1 + 6 from rfl, show 0 + 14 = 14 from rfl, forI_runK 1 6 14 h2, show (6 : Nat) = 5 + 1 from rfl, show 14 + 1 = 15 from rfl, forI_runK 5 1 15 (a3 (deepP n) s c0 c1 c2 xs m)]
  rfl
theorem law_end (n : Nat) (s : PD) (c0 c1 c2 : Cell) (xs : List D) (m : D) : isTrue (law5 (envA s (pv 20) (some (.p answerP))) (stA c0 c1 c2 xs m (deepP n) ++ garb 20)) = true := by
  match n with
  | 0 => exact b0 s c0 c1 c2 xs m
  | 1 => exact b1 _ s c0 c1 c2 xs m
  | n + 2 => exact b1 _ s c0 c1 c2 xs m
theorem acons_eq {f : EI} {g : AI} {env : Env} {st st1 st2 : Store} {d : D} {ds : List D} (h : f env st = some (d, st1)) (h2 : g env st1 = some (ds, st2)) : aCons f g env st = some (d :: ds, st2) := by
  unfold aCons
  rw [h]
  dsimp only
  rw [h2]
def stB (c0 c1 c2 : Cell) (xs : List D) (m : D) : Store := [c0, c1, c2, .lst xs, .lst [.loc 3, m], .lst []]
set_option linter.unusedVariables false
theorem s0 (r : Option D) (c0 c1 c2 : Cell) (xs : List D) (m : D) : str3 [some (.loc 4), some (.p (nest 0)), r] (stB c0 c1 c2 xs m) = some (.rt (.loc 8), stA c0 c1 c2 xs m .non) := by kernel_rfl
theorem s1 (r : Option D) (c0 c1 c2 : Cell) (xs : List D) (m : D) : (List.range 60).map (fun n => str3 [some (.loc 4), some (.p (nest (n + 1))), r] (stB c0 c1 c2 xs m)) = (List.range 60).map (fun n => some (.rt (.loc 8), stA c0 c1 c2 xs m (nest (n + 1)))) := by kernel_rfl
theorem mach_ok : pureRun e_read_machine.run [.str machS] = some machP := by kernel_rfl
theorem start_ok : pureMake "Start" e_Start_init.run [.str "u", .tun [.tun [.int 0, .int 1], .tun [.int 0, .int 1]]] = some startP := by kernel_rfl
theorem stepStr (n : Nat) (r : Option D) (st : Store) : (turnI (gName 2) strB) (.p (.int n)) [some (.loc 4), some (.p (nest n)), r] st = some (.nx [some (.loc 4), some (.p (nest (n + 1))), some (.p (.int n))], st) := by
  have e : (oInt fun i j => decide (j < i)) (.p (.int n)) (.p (.int 0)) st = some (.p (.bl (decide ((0 : Int) < n))), st) := rfl
  show strB [some (.loc 4), some (.p (nest n)), some (.p (.int n))] st = _
  have t : (bVal (iBin (oInt fun i j => decide (j < i)) (iVar 2) (iP (.int 0)))) [some (.loc 4), some (.p (nest n)), some (.p (.int n))] st = some (decide ((0 : Int) < n), st) := rfl
  unfold strB
  refine (seq_nx (env1 := [some (.loc 4), some (.p (nest (n + 1))), some (.p (.int n))]) (st1 := st) ?_).trans rfl
  unfold sAsg iIf
  rw [t]
  cases n with
  | zero => rfl
  | succ k =>
    have : decide ((0 : Int) < ((k + 1 : Nat) : Int)) = true := decide_eq_true (by omega)
    rw [this]
    rfl
theorem strange_ok (c0 c1 c2 : Cell) (xs : List Int) (m : Int) (hx : xs.length ≤ 1000) (hm : 0 ≤ m) (hm2 : m < 2147483647) : ∃ (n : Nat) (ys : List Int) (m2 : Int), n < 60 ∧ e__law_strange.run [.loc 4] (stB c0 c1 c2 (intsD xs) (.p (.int m))) = some (.loc 8, stA c0 c1 c2 (intsD ys) (.p (.int m2)) (deepP n)) := by
  have h : DealAt 4 3 (stB c0 c1 c2 (intsD xs) (.p (.int m))) xs m := ⟨by decide, rfl, rfl, hx⟩
  obtain ⟨d, ys, m2, e1, hd0, hd1, _, _, _⟩ := any_ok (b := 60) h (by decide) (by decide) hm hm2
  have e2 : e__law_any.run [.loc 4, .p (.int 60)] (stB c0 c1 c2 (intsD xs) (.p (.int m))) = some (.p (.int d), stB c0 c1 c2 (intsD ys) (.p (.int m2))) := e1
  obtain ⟨n, rfl⟩ : ∃ n : Nat, d = n := ⟨d.toNat, by omega⟩
  refine ⟨n, ys, m2, by omega, ?_⟩
  have P := forI_inv (body := turnI (gName 2) strB) (w := .items (rangeD 0 n)) (rangeD 0 n) (fun j env st => (∃ r, env = [some (.loc 4), some (.p (nest j)), r]) ∧ st = stB c0 c1 c2 (intsD ys) (.p (.int m2))) (fun j env st _ => rfl) (fun j d env st hd hp => by
    obtain ⟨⟨r, rfl⟩, rfl⟩ := hp
    have hd2 : d = .p (.int j) := by
      unfold rangeD at hd
      rw [List.getElem?_map] at hd
      have hj : j < n := by
        by_cases q : j < n
        · exact q
        · rw [List.getElem?_eq_none (by rw [List.length_range]; omega)] at hd; cases hd
      rw [List.getElem?_range hj] at hd
      cases hd
      simp
    subst hd2
    exact ⟨_, _, stepStr j r _, ⟨_, rfl⟩, rfl⟩) ((rangeD 0 n).length + 1) 0 [some (.loc 4), some (.p (nest 0)), none] (stB c0 c1 c2 (intsD ys) (.p (.int m2))) ⟨⟨none, rfl⟩, rfl⟩ (by omega) (Nat.zero_le _)
  obtain ⟨env', st', e3, ⟨r, he⟩, hs⟩ := P
  have hl : (rangeD 0 n).length = n := by unfold rangeD; rw [List.length_map, List.length_range]
  rw [hl] at he e3
  subst he
  subst hs
  have w : (wRng1 (aCons (iCallC false e__law_any.run (aCons (iVar 0) (aCons (iP (.int 60)) aNil))) aNil)) [some (.loc 4), some (.p (nest 0)), none] (stB c0 c1 c2 (intsD xs) (.p (.int m))) = some (.items (rangeD 0 n), stB c0 c1 c2 (intsD ys) (.p (.int m2))) := by
    have sm : small62 (n : Int) = true := by unfold small62; simp; omega
    have q : (iCallC false e__law_any.run (aCons (iVar 0) (aCons (iP (.int 60)) aNil))) [some (.loc 4), some (.p (nest 0)), none] (stB c0 c1 c2 (intsD xs) (.p (.int m))) = some (.p (.int n), stB c0 c1 c2 (intsD ys) (.p (.int m2))) := e2
    unfold wRng1
    rw [acons_eq (g := aNil) q rfl]
    show (if small62 (n : Int) = true then some (Wk.items (rangeD 0 (n : Int).toNat), stB c0 c1 c2 (intsD ys) (.p (.int m2))) else none) = _
    rw [if_pos sm, Int.toNat_natCast]
  have lp : (sFor (wRng1 (aCons (iCallC false e__law_any.run (aCons (iVar 0) (aCons (iP (.int 60)) aNil))) aNil)) (gName 2) strB) [some (.loc 4), some (.p (nest 0)), none] (stB c0 c1 c2 (intsD xs) (.p (.int m))) = some (.nx [some (.loc 4), some (.p (nest n)), r], stB c0 c1 c2 (intsD ys) (.p (.int m2))) := by
    unfold sFor
    rw [w]
    show forI (turnI (gName 2) strB) (.items (rangeD 0 n)) ((rangeD 0 n).length + 1) 0 _ _ = _
    rw [hl]
    exact e3
  have hr : r__law_strange [some (.loc 4), none, none] (stB c0 c1 c2 (intsD xs) (.p (.int m))) = some (.rt (.loc 8), stA c0 c1 c2 (intsD ys) (.p (.int m2)) (deepP n)) := by
    rw [str_parts]
    refine (seq_nx (env1 := [some (.loc 4), some (.p (nest 0)), none]) (st1 := stB c0 c1 c2 (intsD xs) (.p (.int m))) rfl).trans ?_
    refine (seq_nx lp).trans ?_
    cases n with
    | zero => exact s0 _ _ _ _ _ _
    | succ k => exact at_range (s1 r c0 c1 c2 (intsD ys) (.p (.int m2))) (by omega)
  show (match r__law_strange [some (.loc 4), none, none] (stB c0 c1 c2 (intsD xs) (.p (.int m))) with
    | some (.rt d, st1) => some (d, st1)
    | some (.nx _, st1) => some (D.p .non, st1)
    | _ => none) = _
  rw [hr]
/-- the law says yes to every script -/
theorem law_true (ns : List Int) : ∃ st', e_law.run [.p (.frz (ns.map PD.int))] [] = some (.p (.bl true), st') := by
  obtain ⟨c0, c1, c2, xs, m, e1, hx, hm, hm2⟩ := deal_ok ns
  obtain ⟨n, ys, m2, hn, e2⟩ := strange_ok c0 c1 c2 xs m (by omega) hm hm2
  let s : PD := .frz (ns.map PD.int)
  have l1 : law1 [some (.p s), none, none, none, none, none, none, none] [] = some (.nx [some (.p s), some (.loc 4), some (.loc 5), none, none, none, none, none], stB c0 c1 c2 (intsD xs) (.p (.int m))) := by
    have q : (iCallC true e__law_deal.run (aCons (iVar 0) (aCons (iP (.int 198)) aNil))) [some (.p s), none, none, none, none, none, none, none] [] = some (.loc 4, [c0, c1, c2, .lst (intsD xs), .lst [.loc 3, .p (.int m)]]) := e1
    unfold law1 sPar
    rw [acons_eq q (acons_eq (g := aNil) (f := iLst aNil) rfl rfl)]
    rfl
  have l2 : law2 [some (.p s), some (.loc 4), some (.loc 5), none, none, none, none, none] (stB c0 c1 c2 (intsD xs) (.p (.int m))) = some (.nx [some (.p s), some (.loc 4), some (.loc 5), some (.p machP), none, none, none, none], stB c0 c1 c2 (intsD xs) (.p (.int m))) := by
    have q : (iCallC false e_read_machine.run (aCons (iP (.str machS)) aNil)) [some (.p s), some (.loc 4), some (.loc 5), none, none, none, none, none] (stB c0 c1 c2 (intsD xs) (.p (.int m))) = some (.p machP, stB c0 c1 c2 (intsD xs) (.p (.int m))) := by
      show (match pureRun e_read_machine.run [.str machS] with
        | some r => some (D.p r, stB c0 c1 c2 (intsD xs) (.p (.int m)))
        | none => none) = _
      rw [mach_ok]
    show sAsg (iCallC false e_read_machine.run (aCons (iP (.str machS)) aNil)) (gName 3) _ _ = _
    unfold sAsg
    rw [q]
    rfl
  have l3 : law3 [some (.p s), some (.loc 4), some (.loc 5), some (.p machP), none, none, none, none] (stB c0 c1 c2 (intsD xs) (.p (.int m))) = some (.nx (envA s (.loc 5) none), stA c0 c1 c2 (intsD ys) (.p (.int m2)) (deepP n)) := by
    have q : (iCallC false e__law_strange.run (aCons (iVar 1) aNil)) [some (.p s), some (.loc 4), some (.loc 5), some (.p machP), none, none, none, none] (stB c0 c1 c2 (intsD xs) (.p (.int m))) = some (.loc 8, stA c0 c1 c2 (intsD ys) (.p (.int m2)) (deepP n)) := e2
    have q2 : (iMake false "Start" e_Start_init.run (aCons (iP (.str "u")) (aCons (iTup (aCons (iTup (aCons (iP (.int 0)) (aCons (iP (.int 1)) aNil))) (aCons (iTup (aCons (iP (.int 0)) (aCons (iP (.int 1)) aNil))) aNil))) aNil))) [some (.p s), some (.loc 4), some (.loc 5), some (.p machP), none, none, none, none] (stA c0 c1 c2 (intsD ys) (.p (.int m2)) (deepP n)) = some (.p startP, stA c0 c1 c2 (intsD ys) (.p (.int m2)) (deepP n)) := by
      show (match pureMake "Start" e_Start_init.run [.str "u", .tun [.tun [.int 0, .int 1], .tun [.int 0, .int 1]]] with
        | some r => some (D.p r, stA c0 c1 c2 (intsD ys) (.p (.int m2)) (deepP n))
        | none => none) = _
      rw [start_ok]
    unfold law3 sPar
    rw [acons_eq q (acons_eq (g := aNil) q2 rfl)]
    rfl
  have hr : r_law [some (.p s), none, none, none, none, none, none, none] [] = law5 (envA s (pv 20) (some (.p answerP))) (stA c0 c1 c2 (intsD ys) (.p (.int m2)) (deepP n) ++ garb 20) := by
    rw [law_parts]
    exact (seq_nx l1).trans ((seq_nx l2).trans ((seq_nx l3).trans (seq_nx (loopA n hn s c0 c1 c2 (intsD ys) (.p (.int m2))))))
  have ht := law_end n s c0 c1 c2 (intsD ys) (.p (.int m2))
  rw [← hr] at ht
  unfold isTrue at ht
  split at ht
  · rename_i st' e3
    refine ⟨st', ?_⟩
    show (match r_law [some (.p s), none, none, none, none, none, none, none] [] with
      | some (.rt d, st1) => some (d, st1)
      | some (.nx _, st1) => some (D.p .non, st1)
      | _ => none) = _
    rw [e3]
  · cases ht
end J

set_option Elab.async false
set_option linter.all false
set_option maxRecDepth 100000
set_option maxHeartbeats 0
namespace J
open PySem PySem.Spec PyProof.Rows L2
set_option autoImplicit false
def F_0 : List (Str × FnE) := []
def M_0 : List (Str × FnE) := []
def T_0 : List (Str × Str × FnE) := []
def C__law_deal : Cfg := ⟨["script", "salt", "most", "cell", "cells", "mix"], 0, F_0, SHS, GLS, BTS, CLS, FL, M_0, MSH, T_0, KDS⟩
theorem c__law_deal : bodyC C__law_deal 100 (defScope (top 175)) (defBody (top 175)) = r__law_deal := by kernel_rfl
theorem s__law_deal : fnScB C__law_deal.N e__law_deal.ps (defScope (top 175)) = true := by kernel_rfl
def F_1 : List (Str × FnE) := ("_law_deal", e__law_deal) :: F_0
def C_run_end : Cfg := ⟨["line", "at", "signs"], 0, F_1, SHS, GLS, BTS, CLS, FL, M_0, MSH, T_0, KDS⟩
theorem c_run_end : bodyC C_run_end 100 (defScope (top 142)) (defBody (top 142)) = r_run_end := by kernel_rfl
theorem s_run_end : fnScB C_run_end.N e_run_end.ps (defScope (top 142)) = true := by kernel_rfl
def F_2 : List (Str × FnE) := ("run_end", e_run_end) :: F_1
def C_sign_end : Cfg := ⟨["line", "at"], 1, F_2, SHS, GLS, BTS, CLS, FL, M_0, MSH, T_0, KDS⟩
theorem c_sign_end : bodyC C_sign_end 100 (defScope (top 143)) (defBody (top 143)) = r_sign_end := by kernel_rfl
theorem s_sign_end : fnScB C_sign_end.N e_sign_end.ps (defScope (top 143)) = true := by kernel_rfl
def F_3 : List (Str × FnE) := ("sign_end", e_sign_end) :: F_2
def C_signs_of : Cfg := ⟨["line", "found", "at", "end"], 2, F_3, SHS, GLS, BTS, CLS, FL, M_0, MSH, T_0, KDS⟩
theorem c_signs_of : bodyC C_signs_of 100 (defScope (top 144)) (defBody (top 144)) = r_signs_of := by kernel_rfl
theorem s_signs_of : fnScB C_signs_of.N e_signs_of.ps (defScope (top 144)) = true := by kernel_rfl
def F_4 : List (Str × FnE) := ("signs_of", e_signs_of) :: F_3
def C_is_due : Cfg := ⟨["rank", "number", "last"], 0, F_4, SHS, GLS, BTS, CLS, FL, M_0, MSH, T_0, KDS⟩
theorem c_is_due : bodyC C_is_due 100 (defScope (top 151)) (defBody (top 151)) = r_is_due := by kernel_rfl
theorem s_is_due : fnScB C_is_due.N e_is_due.ps (defScope (top 151)) = true := by kernel_rfl
def F_5 : List (Str × FnE) := ("is_due", e_is_due) :: F_4
def C_Cursor_init : Cfg := ⟨["self", "line", "signs"], 0, F_5, SHS, GLS, BTS, CLS, FL, M_0, MSH, T_0, KDS⟩
theorem c_Cursor_init : bodyC C_Cursor_init 100 (defScope (sub (top 145) 0)) (defBody (sub (top 145) 0)) = r_Cursor_init := by kernel_rfl
theorem s_Cursor_init : fnScB C_Cursor_init.N e_Cursor_init.ps (defScope (sub (top 145) 0)) = true := by kernel_rfl
def M_1 : List (Str × FnE) := ("Cursor", e_Cursor_init) :: M_0
def C_Cursor_sign_ahead : Cfg := ⟨["self", "many"], 0, F_5, SHS, GLS, BTS, CLS, FL, M_1, MSH, T_0, KDS⟩
theorem c_Cursor_sign_ahead : bodyC C_Cursor_sign_ahead 100 (defScope (sub (top 145) 1)) (defBody (sub (top 145) 1)) = r_Cursor_sign_ahead := by kernel_rfl
theorem s_Cursor_sign_ahead : fnScB C_Cursor_sign_ahead.N e_Cursor_sign_ahead.ps (defScope (sub (top 145) 1)) = true := by kernel_rfl
def T_1 : List (Str × Str × FnE) := ("sign_ahead", "Cursor", e_Cursor_sign_ahead) :: T_0
def C_Cursor_need_end : Cfg := ⟨["self"], 1, F_5, SHS, GLS, BTS, CLS, FL, M_1, MSH, T_1, KDS⟩
theorem c_Cursor_need_end : bodyC C_Cursor_need_end 100 (defScope (sub (top 145) 6)) (defBody (sub (top 145) 6)) = r_Cursor_need_end := by kernel_rfl
theorem s_Cursor_need_end : fnScB C_Cursor_need_end.N e_Cursor_need_end.ps (defScope (sub (top 145) 6)) = true := by kernel_rfl
def T_2 : List (Str × Str × FnE) := ("need_end", "Cursor", e_Cursor_need_end) :: T_1
def C_told_end : Cfg := ⟨["cursor", "value"], 2, F_5, SHS, GLS, BTS, CLS, FL, M_1, MSH, T_2, KDS⟩
theorem c_told_end : bodyC C_told_end 100 (defScope (top 148)) (defBody (top 148)) = r_told_end := by kernel_rfl
theorem s_told_end : fnScB C_told_end.N e_told_end.ps (defScope (top 148)) = true := by kernel_rfl
def F_6 : List (Str × FnE) := ("told_end", e_told_end) :: F_5
def C_are_figures : Cfg := ⟨["text", "sign"], 0, F_6, SHS, GLS, BTS, CLS, FL, M_1, MSH, T_2, KDS⟩
theorem c_are_figures : bodyC C_are_figures 100 (defScope (top 7)) (defBody (top 7)) = r_are_figures := by kernel_rfl
theorem s_are_figures : fnScB C_are_figures.N e_are_figures.ps (defScope (top 7)) = true := by kernel_rfl
def F_7 : List (Str × FnE) := ("are_figures", e_are_figures) :: F_6
def C_is_number_text : Cfg := ⟨["text"], 1, F_7, SHS, GLS, BTS, CLS, FL, M_1, MSH, T_2, KDS⟩
theorem c_is_number_text : bodyC C_is_number_text 100 (defScope (top 9)) (defBody (top 9)) = r_is_number_text := by kernel_rfl
theorem s_is_number_text : fnScB C_is_number_text.N e_is_number_text.ps (defScope (top 9)) = true := by kernel_rfl
def F_8 : List (Str × FnE) := ("is_number_text", e_is_number_text) :: F_7
def C_Cursor_need_number : Cfg := ⟨["self", "sign"], 2, F_8, SHS, GLS, BTS, CLS, FL, M_1, MSH, T_2, KDS⟩
theorem c_Cursor_need_number : bodyC C_Cursor_need_number 100 (defScope (sub (top 145) 5)) (defBody (sub (top 145) 5)) = r_Cursor_need_number := by kernel_rfl
theorem s_Cursor_need_number : fnScB C_Cursor_need_number.N e_Cursor_need_number.ps (defScope (sub (top 145) 5)) = true := by kernel_rfl
def T_3 : List (Str × Str × FnE) := ("need_number", "Cursor", e_Cursor_need_number) :: T_2
def C_are_small : Cfg := ⟨["text", "sign"], 0, F_8, SHS, GLS, BTS, CLS, FL, M_1, MSH, T_3, KDS⟩
theorem c_are_small : bodyC C_are_small 100 (defScope (top 6)) (defBody (top 6)) = r_are_small := by kernel_rfl
theorem s_are_small : fnScB C_are_small.N e_are_small.ps (defScope (top 6)) = true := by kernel_rfl
def F_9 : List (Str × FnE) := ("are_small", e_are_small) :: F_8
def C_is_name : Cfg := ⟨["value"], 1, F_9, SHS, GLS, BTS, CLS, FL, M_1, MSH, T_3, KDS⟩
theorem c_is_name : bodyC C_is_name 100 (defScope (top 8)) (defBody (top 8)) = r_is_name := by kernel_rfl
theorem s_is_name : fnScB C_is_name.N e_is_name.ps (defScope (top 8)) = true := by kernel_rfl
def F_10 : List (Str × FnE) := ("is_name", e_is_name) :: F_9
def C_Cursor_need_name : Cfg := ⟨["self", "sign"], 2, F_10, SHS, GLS, BTS, CLS, FL, M_1, MSH, T_3, KDS⟩
theorem c_Cursor_need_name : bodyC C_Cursor_need_name 100 (defScope (sub (top 145) 4)) (defBody (sub (top 145) 4)) = r_Cursor_need_name := by kernel_rfl
theorem s_Cursor_need_name : fnScB C_Cursor_need_name.N e_Cursor_need_name.ps (defScope (sub (top 145) 4)) = true := by kernel_rfl
def T_4 : List (Str × Str × FnE) := ("need_name", "Cursor", e_Cursor_need_name) :: T_3
def C_told_place : Cfg := ⟨["cursor", "name"], 3, F_10, SHS, GLS, BTS, CLS, FL, M_1, MSH, T_4, KDS⟩
theorem c_told_place : bodyC C_told_place 100 (defScope (top 149)) (defBody (top 149)) = r_told_place := by kernel_rfl
theorem s_told_place : fnScB C_told_place.N e_told_place.ps (defScope (top 149)) = true := by kernel_rfl
def F_11 : List (Str × FnE) := ("told_place", e_told_place) :: F_10
def C_Cursor_maybe : Cfg := ⟨["self", "sign"], 1, F_11, SHS, GLS, BTS, CLS, FL, M_1, MSH, T_4, KDS⟩
theorem c_Cursor_maybe : bodyC C_Cursor_maybe 100 (defScope (sub (top 145) 2)) (defBody (sub (top 145) 2)) = r_Cursor_maybe := by kernel_rfl
theorem s_Cursor_maybe : fnScB C_Cursor_maybe.N e_Cursor_maybe.ps (defScope (sub (top 145) 2)) = true := by kernel_rfl
def T_5 : List (Str × Str × FnE) := ("maybe", "Cursor", e_Cursor_maybe) :: T_4
def C_Cursor_need : Cfg := ⟨["self", "sign"], 2, F_11, SHS, GLS, BTS, CLS, FL, M_1, MSH, T_5, KDS⟩
theorem c_Cursor_need : bodyC C_Cursor_need 100 (defScope (sub (top 145) 3)) (defBody (sub (top 145) 3)) = r_Cursor_need := by kernel_rfl
theorem s_Cursor_need : fnScB C_Cursor_need.N e_Cursor_need.ps (defScope (sub (top 145) 3)) = true := by kernel_rfl
def T_6 : List (Str × Str × FnE) := ("need", "Cursor", e_Cursor_need) :: T_5
def C_common_divisor : Cfg := ⟨["one", "other"], 0, F_11, SHS, GLS, BTS, CLS, FL, M_1, MSH, T_6, KDS⟩
theorem c_common_divisor : bodyC C_common_divisor 100 (defScope (top 16)) (defBody (top 16)) = r_common_divisor := by kernel_rfl
theorem s_common_divisor : fnScB C_common_divisor.N e_common_divisor.ps (defScope (top 16)) = true := by kernel_rfl
def F_12 : List (Str × FnE) := ("common_divisor", e_common_divisor) :: F_11
def C_told_fraction : Cfg := ⟨["cursor", "is_below", "top", "bottom"], 3, F_12, SHS, GLS, BTS, CLS, FL, M_1, MSH, T_6, KDS⟩
theorem c_told_fraction : bodyC C_told_fraction 100 (defScope (top 135)) (defBody (top 135)) = r_told_fraction := by kernel_rfl
theorem s_told_fraction : fnScB C_told_fraction.N e_told_fraction.ps (defScope (top 135)) = true := by kernel_rfl
def F_13 : List (Str × FnE) := ("told_fraction", e_told_fraction) :: F_12
def C_told_number : Cfg := ⟨["cursor", "field"], 4, F_13, SHS, GLS, BTS, CLS, FL, M_1, MSH, T_6, KDS⟩
theorem c_told_number : bodyC C_told_number 100 (defScope (top 136)) (defBody (top 136)) = r_told_number := by kernel_rfl
theorem s_told_number : fnScB C_told_number.N e_told_number.ps (defScope (top 136)) = true := by kernel_rfl
def F_14 : List (Str × FnE) := ("told_number", e_told_number) :: F_13
def C_told_row : Cfg := ⟨["cursor", "field", "found"], 5, F_14, SHS, GLS, BTS, CLS, FL, M_1, MSH, T_6, KDS⟩
theorem c_told_row : bodyC C_told_row 100 (defScope (top 137)) (defBody (top 137)) = r_told_row := by kernel_rfl
theorem s_told_row : fnScB C_told_row.N e_told_row.ps (defScope (top 137)) = true := by kernel_rfl
def F_15 : List (Str × FnE) := ("told_row", e_told_row) :: F_14
def F_16 : List (Str × FnE) := ("told_row_rowtext", e_told_row) :: F_15
def C_told_table : Cfg := ⟨["cursor", "field", "found"], 6, F_16, SHS, GLS, BTS, CLS, FL, M_1, MSH, T_6, KDS⟩
theorem c_told_table : bodyC C_told_table 100 (defScope (top 139)) (defBody (top 139)) = r_told_table := by kernel_rfl
theorem s_told_table : fnScB C_told_table.N e_told_table.ps (defScope (top 139)) = true := by kernel_rfl
def F_17 : List (Str × FnE) := ("told_table", e_told_table) :: F_16
def C_told_arrow : Cfg := ⟨["cursor", "field", "found", "is_table"], 7, F_17, SHS, GLS, BTS, CLS, FL, M_1, MSH, T_6, KDS⟩
theorem c_told_arrow : bodyC C_told_arrow 100 (defScope (top 150)) (defBody (top 150)) = r_told_arrow := by kernel_rfl
theorem s_told_arrow : fnScB C_told_arrow.N e_told_arrow.ps (defScope (top 150)) = true := by kernel_rfl
def F_18 : List (Str × FnE) := ("told_arrow", e_told_arrow) :: F_17
def C_told_things : Cfg := ⟨["lines", "things", "last", "number", "line", "signs", "rank", "cursor"], 8, F_18, SHS, GLS, BTS, CLS, FL, M_1, MSH, T_6, KDS⟩
theorem c_told_things : bodyC C_told_things 100 (defScope (top 152)) (defBody (top 152)) = r_told_things := by kernel_rfl
theorem s_told_things : fnScB C_told_things.N e_told_things.ps (defScope (top 152)) = true := by kernel_rfl
def F_19 : List (Str × FnE) := ("told_things", e_told_things) :: F_18
def C_Machine_init : Cfg := ⟨["self", "field", "reads", "places", "arrows"], 0, F_19, SHS, GLS, BTS, CLS, FL, M_1, MSH, T_6, KDS⟩
theorem c_Machine_init : bodyC C_Machine_init 100 (defScope (sub (top 76) 0)) (defBody (sub (top 76) 0)) = r_Machine_init := by kernel_rfl
theorem s_Machine_init : fnScB C_Machine_init.N e_Machine_init.ps (defScope (sub (top 76) 0)) = true := by kernel_rfl
def M_2 : List (Str × FnE) := ("Machine", e_Machine_init) :: M_1
def C_is_integer : Cfg := ⟨["value"], 0, F_19, SHS, GLS, BTS, CLS, FL, M_2, MSH, T_6, KDS⟩
theorem c_is_integer : bodyC C_is_integer 100 (defScope (top 4)) (defBody (top 4)) = r_is_integer := by kernel_rfl
theorem s_is_integer : fnScB C_is_integer.N e_is_integer.ps (defScope (top 4)) = true := by kernel_rfl
def F_20 : List (Str × FnE) := ("is_integer", e_is_integer) :: F_19
def C_is_prime : Cfg := ⟨["number", "other"], 0, F_20, SHS, GLS, BTS, CLS, FL, M_2, MSH, T_6, KDS⟩
theorem c_is_prime : bodyC C_is_prime 100 (defScope (top 14)) (defBody (top 14)) = r_is_prime := by kernel_rfl
theorem s_is_prime : fnScB C_is_prime.N e_is_prime.ps (defScope (top 14)) = true := by kernel_rfl
def F_21 : List (Str × FnE) := ("is_prime", e_is_prime) :: F_20
def C_is_field : Cfg := ⟨["value"], 1, F_21, SHS, GLS, BTS, CLS, FL, M_2, MSH, T_6, KDS⟩
theorem c_is_field : bodyC C_is_field 100 (defScope (top 15)) (defBody (top 15)) = r_is_field := by kernel_rfl
theorem s_is_field : fnScB C_is_field.N e_is_field.ps (defScope (top 15)) = true := by kernel_rfl
def F_22 : List (Str × FnE) := ("is_field", e_is_field) :: F_21
def C_is_number : Cfg := ⟨["value"], 1, F_22, SHS, GLS, BTS, CLS, FL, M_2, MSH, T_6, KDS⟩
theorem c_is_number : bodyC C_is_number 100 (defScope (top 5)) (defBody (top 5)) = r_is_number := by kernel_rfl
theorem s_is_number : fnScB C_is_number.N e_is_number.ps (defScope (top 5)) = true := by kernel_rfl
def F_23 : List (Str × FnE) := ("is_number", e_is_number) :: F_22
def C_is_tuple : Cfg := ⟨["value", "many"], 0, F_23, SHS, GLS, BTS, CLS, FL, M_2, MSH, T_6, KDS⟩
theorem c_is_tuple : bodyC C_is_tuple 100 (defScope (top 10)) (defBody (top 10)) = r_is_tuple := by kernel_rfl
theorem s_is_tuple : fnScB C_is_tuple.N e_is_tuple.ps (defScope (top 10)) = true := by kernel_rfl
def F_24 : List (Str × FnE) := ("is_tuple", e_is_tuple) :: F_23
def C_is_place : Cfg := ⟨["value"], 2, F_24, SHS, GLS, BTS, CLS, FL, M_2, MSH, T_6, KDS⟩
theorem c_is_place : bodyC C_is_place 100 (defScope (top 70)) (defBody (top 70)) = r_is_place := by kernel_rfl
theorem s_is_place : fnScB C_is_place.N e_is_place.ps (defScope (top 70)) = true := by kernel_rfl
def F_25 : List (Str × FnE) := ("is_place", e_is_place) :: F_24
def C_is_ascending : Cfg := ⟨["values", "at"], 0, F_25, SHS, GLS, BTS, CLS, FL, M_2, MSH, T_6, KDS⟩
theorem c_is_ascending : bodyC C_is_ascending 100 (defScope (top 11)) (defBody (top 11)) = r_is_ascending := by kernel_rfl
theorem s_is_ascending : fnScB C_is_ascending.N e_is_ascending.ps (defScope (top 11)) = true := by kernel_rfl
def F_26 : List (Str × FnE) := ("is_ascending", e_is_ascending) :: F_25
def C_are_places : Cfg := ⟨["value", "pair", "name", "_"], 3, F_26, SHS, GLS, BTS, CLS, FL, M_2, MSH, T_6, KDS⟩
theorem c_are_places : bodyC C_are_places 100 (defScope (top 71)) (defBody (top 71)) = r_are_places := by kernel_rfl
theorem s_are_places : fnScB C_are_places.N e_are_places.ps (defScope (top 71)) = true := by kernel_rfl
def F_27 : List (Str × FnE) := ("are_places", e_are_places) :: F_26
def C_are_arrows : Cfg := ⟨["value", "arrow"], 2, F_27, SHS, GLS, BTS, CLS, FL, M_2, MSH, T_6, KDS⟩
theorem c_are_arrows : bodyC C_are_arrows 100 (defScope (top 72)) (defBody (top 72)) = r_are_arrows := by kernel_rfl
theorem s_are_arrows : fnScB C_are_arrows.N e_are_arrows.ps (defScope (top 72)) = true := by kernel_rfl
def F_28 : List (Str × FnE) := ("are_arrows", e_are_arrows) :: F_27
def C_is_fraction : Cfg := ⟨["value"], 1, F_28, SHS, GLS, BTS, CLS, FL, M_2, MSH, T_6, KDS⟩
theorem c_is_fraction : bodyC C_is_fraction 100 (defScope (top 18)) (defBody (top 18)) = r_is_fraction := by kernel_rfl
theorem s_is_fraction : fnScB C_is_fraction.N e_is_fraction.ps (defScope (top 18)) = true := by kernel_rfl
def F_29 : List (Str × FnE) := ("is_fraction", e_is_fraction) :: F_28
def C_is_number_of : Cfg := ⟨["field", "value"], 2, F_29, SHS, GLS, BTS, CLS, FL, M_2, MSH, T_6, KDS⟩
theorem c_is_number_of : bodyC C_is_number_of 100 (defScope (top 19)) (defBody (top 19)) = r_is_number_of := by kernel_rfl
theorem s_is_number_of : fnScB C_is_number_of.N e_is_number_of.ps (defScope (top 19)) = true := by kernel_rfl
def F_30 : List (Str × FnE) := ("is_number_of", e_is_number_of) :: F_29
def C_is_number_row_of : Cfg := ⟨["field", "size", "value", "number"], 3, F_30, SHS, GLS, BTS, CLS, FL, M_2, MSH, T_6, KDS⟩
theorem c_is_number_row_of : bodyC C_is_number_row_of 100 (defScope (top 68)) (defBody (top 68)) = r_is_number_row_of := by kernel_rfl
theorem s_is_number_row_of : fnScB C_is_number_row_of.N e_is_number_row_of.ps (defScope (top 68)) = true := by kernel_rfl
def F_31 : List (Str × FnE) := ("is_number_row_of", e_is_number_row_of) :: F_30
def C_is_table_of : Cfg := ⟨["field", "many", "size", "value", "row"], 4, F_31, SHS, GLS, BTS, CLS, FL, M_2, MSH, T_6, KDS⟩
theorem c_is_table_of : bodyC C_is_table_of 100 (defScope (top 69)) (defBody (top 69)) = r_is_table_of := by kernel_rfl
theorem s_is_table_of : fnScB C_is_table_of.N e_is_table_of.ps (defScope (top 69)) = true := by kernel_rfl
def F_32 : List (Str × FnE) := ("is_table_of", e_is_table_of) :: F_31
def C_is_arrow : Cfg := ⟨["machine", "sizes", "arrow", "_", "begin", "end", "table", "shift", "look", "told", "field", "reads"], 5, F_32, SHS, GLS, BTS, CLS, FL, M_2, MSH, T_6, KDS⟩
theorem c_is_arrow : bodyC C_is_arrow 100 (defScope (top 73)) (defBody (top 73)) = r_is_arrow := by kernel_rfl
theorem s_is_arrow : fnScB C_is_arrow.N e_is_arrow.ps (defScope (top 73)) = true := by kernel_rfl
def F_33 : List (Str × FnE) := ("is_arrow", e_is_arrow) :: F_32
def C_machine_fault : Cfg := ⟨["machine", "sizes", "number", "arrow"], 6, F_33, SHS, GLS, BTS, CLS, FL, M_2, MSH, T_6, KDS⟩
theorem c_machine_fault : bodyC C_machine_fault 100 (defScope (top 74)) (defBody (top 74)) = r_machine_fault := by kernel_rfl
theorem s_machine_fault : fnScB C_machine_fault.N e_machine_fault.ps (defScope (top 74)) = true := by kernel_rfl
def F_34 : List (Str × FnE) := ("machine_fault", e_machine_fault) :: F_33
def C_need_machine : Cfg := ⟨["value", "fault"], 7, F_34, SHS, GLS, BTS, CLS, FL, M_2, MSH, T_6, KDS⟩
theorem c_need_machine : bodyC C_need_machine 100 (defScope (top 77)) (defBody (top 77)) = r_need_machine := by kernel_rfl
theorem s_need_machine : fnScB C_need_machine.N e_need_machine.ps (defScope (top 77)) = true := by kernel_rfl
def F_35 : List (Str × FnE) := ("need_machine", e_need_machine) :: F_34
def C_read_machine : Cfg := ⟨["text", "fields", "reads", "places", "arrows", "machine"], 9, F_35, SHS, GLS, BTS, CLS, FL, M_2, MSH, T_6, KDS⟩
theorem c_read_machine : bodyC C_read_machine 100 (defScope (top 153)) (defBody (top 153)) = r_read_machine := by kernel_rfl
theorem s_read_machine : fnScB C_read_machine.N e_read_machine.ps (defScope (top 153)) = true := by kernel_rfl
def F_36 : List (Str × FnE) := ("read_machine", e_read_machine) :: F_35
def C__law_any : Cfg := ⟨["deal", "bound", "rest"], 0, F_36, SHS, GLS, BTS, CLS, FL, M_2, MSH, T_6, KDS⟩
theorem c__law_any : bodyC C__law_any 100 (defScope (top 176)) (defBody (top 176)) = r__law_any := by kernel_rfl
theorem s__law_any : fnScB C__law_any.N e__law_any.ps (defScope (top 176)) = true := by kernel_rfl
def F_37 : List (Str × FnE) := ("_law_any", e__law_any) :: F_36
def C_Start_init : Cfg := ⟨["self", "place", "row"], 0, F_37, SHS, GLS, BTS, CLS, FL, M_2, MSH, T_6, KDS⟩
theorem c_Start_init : bodyC C_Start_init 100 (defScope (sub (top 123) 0)) (defBody (sub (top 123) 0)) = r_Start_init := by kernel_rfl
theorem s_Start_init : fnScB C_Start_init.N e_Start_init.ps (defScope (sub (top 123) 0)) = true := by kernel_rfl
def M_3 : List (Str × FnE) := ("Start", e_Start_init) :: M_2
def C_Answer_init : Cfg := ⟨["self", "word", "paper"], 0, F_37, SHS, GLS, BTS, CLS, FL, M_3, MSH, T_6, KDS⟩
theorem c_Answer_init : bodyC C_Answer_init 100 (defScope (sub (top 99) 0)) (defBody (sub (top 99) 0)) = r_Answer_init := by kernel_rfl
theorem s_Answer_init : fnScB C_Answer_init.N e_Answer_init.ps (defScope (sub (top 99) 0)) = true := by kernel_rfl
def M_4 : List (Str × FnE) := ("Answer", e_Answer_init) :: M_3
def C__law_strange : Cfg := ⟨["deal", "deep", "turn"], 2, F_37, SHS, GLS, BTS, CLS, FL, M_4, MSH, T_6, KDS⟩
theorem c__law_strange : bodyC C__law_strange 100 (defScope (top 181)) (defBody (top 181)) = r__law_strange := by kernel_rfl
theorem s__law_strange : fnScB C__law_strange.N e__law_strange.ps (defScope (top 181)) = true := by kernel_rfl
def F_38 : List (Str × FnE) := ("_law_strange", e__law_strange) :: F_37
def C_is_row_of : Cfg := ⟨["field", "size", "value", "number"], 3, F_38, SHS, GLS, BTS, CLS, FL, M_4, MSH, T_6, KDS⟩
theorem c_is_row_of : bodyC C_is_row_of 100 (defScope (top 53)) (defBody (top 53)) = r_is_row_of := by kernel_rfl
theorem s_is_row_of : fnScB C_is_row_of.N e_is_row_of.ps (defScope (top 53)) = true := by kernel_rfl
def F_39 : List (Str × FnE) := ("is_row_of", e_is_row_of) :: F_38
def C_is_zero : Cfg := ⟨["field", "number"], 0, F_39, SHS, GLS, BTS, CLS, FL, M_4, MSH, T_6, KDS⟩
theorem c_is_zero : bodyC C_is_zero 100 (defScope (top 22)) (defBody (top 22)) = r_is_zero := by kernel_rfl
theorem s_is_zero : fnScB C_is_zero.N e_is_zero.ps (defScope (top 22)) = true := by kernel_rfl
def F_40 : List (Str × FnE) := ("is_zero", e_is_zero) :: F_39
def C_head_of : Cfg := ⟨["field", "row", "at", "number"], 1, F_40, SHS, GLS, BTS, CLS, FL, M_4, MSH, T_6, KDS⟩
theorem c_head_of : bodyC C_head_of 100 (defScope (top 30)) (defBody (top 30)) = r_head_of := by kernel_rfl
theorem s_head_of : fnScB C_head_of.N e_head_of.ps (defScope (top 30)) = true := by kernel_rfl
def F_41 : List (Str × FnE) := ("head_of", e_head_of) :: F_40
def C_one_of : Cfg := ⟨["field"], 0, F_41, SHS, GLS, BTS, CLS, FL, M_4, MSH, T_6, KDS⟩
theorem c_one_of : bodyC C_one_of 100 (defScope (top 21)) (defBody (top 21)) = r_one_of := by kernel_rfl
theorem s_one_of : fnScB C_one_of.N e_one_of.ps (defScope (top 21)) = true := by kernel_rfl
def F_42 : List (Str × FnE) := ("one_of", e_one_of) :: F_41
def C_are_heads_right : Cfg := ⟨["field", "room", "heads", "at", "row", "other"], 1, F_42, SHS, GLS, BTS, CLS, FL, M_4, MSH, T_6, KDS⟩
theorem c_are_heads_right : bodyC C_are_heads_right 100 (defScope (top 54)) (defBody (top 54)) = r_are_heads_right := by kernel_rfl
theorem s_are_heads_right : fnScB C_are_heads_right.N e_are_heads_right.ps (defScope (top 54)) = true := by kernel_rfl
def F_43 : List (Str × FnE) := ("are_heads_right", e_are_heads_right) :: F_42
def C_is_room : Cfg := ⟨["field", "size", "value", "heads", "row", "head"], 4, F_43, SHS, GLS, BTS, CLS, FL, M_4, MSH, T_6, KDS⟩
theorem c_is_room : bodyC C_is_room 100 (defScope (top 55)) (defBody (top 55)) = r_is_room := by kernel_rfl
theorem s_is_room : fnScB C_is_room.N e_is_room.ps (defScope (top 55)) = true := by kernel_rfl
def F_44 : List (Str × FnE) := ("is_room", e_is_room) :: F_43
def C_arrows_by_name : Cfg := ⟨["machine", "arrow"], 0, F_44, SHS, GLS, BTS, CLS, FL, M_4, MSH, T_6, KDS⟩
theorem c_arrows_by_name : bodyC C_arrows_by_name 100 (defScope (top 78)) (defBody (top 78)) = r_arrows_by_name := by kernel_rfl
theorem s_arrows_by_name : fnScB C_arrows_by_name.N e_arrows_by_name.ps (defScope (top 78)) = true := by kernel_rfl
def F_45 : List (Str × FnE) := ("arrows_by_name", e_arrows_by_name) :: F_44
def C_is_way : Cfg := ⟨["machine", "place", "value", "arrows", "name"], 2, F_45, SHS, GLS, BTS, CLS, FL, M_4, MSH, T_6, KDS⟩
theorem c_is_way : bodyC C_is_way 100 (defScope (top 80)) (defBody (top 80)) = r_is_way := by kernel_rfl
theorem s_is_way : fnScB C_is_way.N e_is_way.ps (defScope (top 80)) = true := by kernel_rfl
def F_46 : List (Str × FnE) := ("is_way", e_is_way) :: F_45
def C_is_tuple_of : Cfg := ⟨["value", "many"], 0, F_46, SHS, GLS, BTS, CLS, FL, M_4, MSH, T_6, KDS⟩
theorem c_is_tuple_of : bodyC C_is_tuple_of 100 (defScope (top 101)) (defBody (top 101)) = r_is_tuple_of := by kernel_rfl
theorem s_is_tuple_of : fnScB C_is_tuple_of.N e_is_tuple_of.ps (defScope (top 101)) = true := by kernel_rfl
def F_47 : List (Str × FnE) := ("is_tuple_of", e_is_tuple_of) :: F_46
def C_is_level : Cfg := ⟨["machine", "value", "pair", "place", "size"], 5, F_47, SHS, GLS, BTS, CLS, FL, M_4, MSH, T_6, KDS⟩
theorem c_is_level : bodyC C_is_level 100 (defScope (top 105)) (defBody (top 105)) = r_is_level := by kernel_rfl
theorem s_is_level : fnScB C_is_level.N e_is_level.ps (defScope (top 105)) = true := by kernel_rfl
def F_48 : List (Str × FnE) := ("is_level", e_is_level) :: F_47
def C_zero_of : Cfg := ⟨["field"], 0, F_48, SHS, GLS, BTS, CLS, FL, M_4, MSH, T_6, KDS⟩
theorem c_zero_of : bodyC C_zero_of 100 (defScope (top 20)) (defBody (top 20)) = r_zero_of := by kernel_rfl
theorem s_zero_of : fnScB C_zero_of.N e_zero_of.ps (defScope (top 20)) = true := by kernel_rfl
def F_49 : List (Str × FnE) := ("zero_of", e_zero_of) :: F_48
def C_no_row : Cfg := ⟨["field", "size"], 1, F_49, SHS, GLS, BTS, CLS, FL, M_4, MSH, T_6, KDS⟩
theorem c_no_row : bodyC C_no_row 100 (defScope (top 45)) (defBody (top 45)) = r_no_row := by kernel_rfl
theorem s_no_row : fnScB C_no_row.N e_no_row.ps (defScope (top 45)) = true := by kernel_rfl
def F_50 : List (Str × FnE) := ("no_row", e_no_row) :: F_49
def C_unit_row : Cfg := ⟨["field", "size", "at"], 2, F_50, SHS, GLS, BTS, CLS, FL, M_4, MSH, T_6, KDS⟩
theorem c_unit_row : bodyC C_unit_row 100 (defScope (top 46)) (defBody (top 46)) = r_unit_row := by kernel_rfl
theorem s_unit_row : fnScB C_unit_row.N e_unit_row.ps (defScope (top 46)) = true := by kernel_rfl
def F_51 : List (Str × FnE) := ("unit_row", e_unit_row) :: F_50
def C_whole_room : Cfg := ⟨["field", "size", "at"], 3, F_51, SHS, GLS, BTS, CLS, FL, M_4, MSH, T_6, KDS⟩
theorem c_whole_room : bodyC C_whole_room 100 (defScope (top 52)) (defBody (top 52)) = r_whole_room := by kernel_rfl
theorem s_whole_room : fnScB C_whole_room.N e_whole_room.ps (defScope (top 52)) = true := by kernel_rfl
def F_52 : List (Str × FnE) := ("whole_room", e_whole_room) :: F_51
def C_whole_rooms : Cfg := ⟨["machine", "place", "size"], 4, F_52, SHS, GLS, BTS, CLS, FL, M_4, MSH, T_6, KDS⟩
theorem c_whole_rooms : bodyC C_whole_rooms 100 (defScope (top 89)) (defBody (top 89)) = r_whole_rooms := by kernel_rfl
theorem s_whole_rooms : fnScB C_whole_rooms.N e_whole_rooms.ps (defScope (top 89)) = true := by kernel_rfl
def F_53 : List (Str × FnE) := ("whole_rooms", e_whole_rooms) :: F_52
def C_columns_of : Cfg := ⟨["table"], 0, F_53, SHS, GLS, BTS, CLS, FL, M_4, MSH, T_6, KDS⟩
theorem c_columns_of : bodyC C_columns_of 100 (defScope (top 47)) (defBody (top 47)) = r_columns_of := by kernel_rfl
theorem s_columns_of : fnScB C_columns_of.N e_columns_of.ps (defScope (top 47)) = true := by kernel_rfl
def F_54 : List (Str × FnE) := ("columns_of", e_columns_of) :: F_53
def C_fraction : Cfg := ⟨["top", "bottom", "both"], 1, F_54, SHS, GLS, BTS, CLS, FL, M_4, MSH, T_6, KDS⟩
theorem c_fraction : bodyC C_fraction 100 (defScope (top 17)) (defBody (top 17)) = r_fraction := by kernel_rfl
theorem s_fraction : fnScB C_fraction.N e_fraction.ps (defScope (top 17)) = true := by kernel_rfl
def F_55 : List (Str × FnE) := ("fraction", e_fraction) :: F_54
def C_times : Cfg := ⟨["field", "one", "other"], 2, F_55, SHS, GLS, BTS, CLS, FL, M_4, MSH, T_6, KDS⟩
theorem c_times : bodyC C_times 100 (defScope (top 25)) (defBody (top 25)) = r_times := by kernel_rfl
theorem s_times : fnScB C_times.N e_times.ps (defScope (top 25)) = true := by kernel_rfl
def F_56 : List (Str × FnE) := ("times", e_times) :: F_55
def C_without_divisor : Cfg := ⟨["numbers", "both", "number"], 1, F_56, SHS, GLS, BTS, CLS, FL, M_4, MSH, T_6, KDS⟩
theorem c_without_divisor : bodyC C_without_divisor 100 (defScope (top 32)) (defBody (top 32)) = r_without_divisor := by kernel_rfl
theorem s_without_divisor : fnScB C_without_divisor.N e_without_divisor.ps (defScope (top 32)) = true := by kernel_rfl
def F_57 : List (Str × FnE) := ("without_divisor", e_without_divisor) :: F_56
def C_cleared : Cfg := ⟨["field", "numbers", "others", "head", "both", "times", "less", "one", "other"], 2, F_57, SHS, GLS, BTS, CLS, FL, M_4, MSH, T_6, KDS⟩
theorem c_cleared : bodyC C_cleared 100 (defScope (top 35)) (defBody (top 35)) = r_cleared := by kernel_rfl
theorem s_cleared : fnScB C_cleared.N e_cleared.ps (defScope (top 35)) = true := by kernel_rfl
def F_58 : List (Str × FnE) := ("cleared", e_cleared) :: F_57
def C_first_place : Cfg := ⟨["numbers", "at", "number"], 0, F_58, SHS, GLS, BTS, CLS, FL, M_4, MSH, T_6, KDS⟩
theorem c_first_place : bodyC C_first_place 100 (defScope (top 31)) (defBody (top 31)) = r_first_place := by kernel_rfl
theorem s_first_place : fnScB C_first_place.N e_first_place.ps (defScope (top 31)) = true := by kernel_rfl
def F_59 : List (Str × FnE) := ("first_place", e_first_place) :: F_58
def C_power_of : Cfg := ⟨["field", "number", "many", "found"], 0, F_59, SHS, GLS, BTS, CLS, FL, M_4, MSH, T_6, KDS⟩
theorem c_power_of : bodyC C_power_of 100 (defScope (top 26)) (defBody (top 26)) = r_power_of := by kernel_rfl
theorem s_power_of : fnScB C_power_of.N e_power_of.ps (defScope (top 26)) = true := by kernel_rfl
def F_60 : List (Str × FnE) := ("power_of", e_power_of) :: F_59
def C_inverse : Cfg := ⟨["field", "number"], 1, F_60, SHS, GLS, BTS, CLS, FL, M_4, MSH, T_6, KDS⟩
theorem c_inverse : bodyC C_inverse 100 (defScope (top 27)) (defBody (top 27)) = r_inverse := by kernel_rfl
theorem s_inverse : fnScB C_inverse.N e_inverse.ps (defScope (top 27)) = true := by kernel_rfl
def F_61 : List (Str × FnE) := ("inverse", e_inverse) :: F_60
def C_with_head : Cfg := ⟨["field", "numbers", "head", "factor", "number"], 2, F_61, SHS, GLS, BTS, CLS, FL, M_4, MSH, T_6, KDS⟩
theorem c_with_head : bodyC C_with_head 100 (defScope (top 36)) (defBody (top 36)) = r_with_head := by kernel_rfl
theorem s_with_head : fnScB C_with_head.N e_with_head.ps (defScope (top 36)) = true := by kernel_rfl
def F_62 : List (Str × FnE) := ("with_head", e_with_head) :: F_61
def C_with_more : Cfg := ⟨["field", "found", "numbers", "head", "others"], 3, F_62, SHS, GLS, BTS, CLS, FL, M_4, MSH, T_6, KDS⟩
theorem c_with_more : bodyC C_with_more 100 (defScope (top 37)) (defBody (top 37)) = r_with_more := by kernel_rfl
theorem s_with_more : fnScB C_with_more.N e_with_more.ps (defScope (top 37)) = true := by kernel_rfl
def F_63 : List (Str × FnE) := ("with_more", e_with_more) :: F_62
def C_whole_numbers : Cfg := ⟨["row", "bottom", "_", "below", "top"], 2, F_63, SHS, GLS, BTS, CLS, FL, M_4, MSH, T_6, KDS⟩
theorem c_whole_numbers : bodyC C_whole_numbers 100 (defScope (top 33)) (defBody (top 33)) = r_whole_numbers := by kernel_rfl
theorem s_whole_numbers : fnScB C_whole_numbers.N e_whole_numbers.ps (defScope (top 33)) = true := by kernel_rfl
def F_64 : List (Str × FnE) := ("whole_numbers", e_whole_numbers) :: F_63
def C_begun : Cfg := ⟨["field", "row"], 3, F_64, SHS, GLS, BTS, CLS, FL, M_4, MSH, T_6, KDS⟩
theorem c_begun : bodyC C_begun 100 (defScope (top 34)) (defBody (top 34)) = r_begun := by kernel_rfl
theorem s_begun : fnScB C_begun.N e_begun.ps (defScope (top 34)) = true := by kernel_rfl
def F_65 : List (Str × FnE) := ("begun", e_begun) :: F_64
def C_cleared_above : Cfg := ⟨["field", "found", "at", "head", "others", "above", "place", "numbers"], 3, F_65, SHS, GLS, BTS, CLS, FL, M_4, MSH, T_6, KDS⟩
theorem c_cleared_above : bodyC C_cleared_above 100 (defScope (top 38)) (defBody (top 38)) = r_cleared_above := by kernel_rfl
theorem s_cleared_above : fnScB C_cleared_above.N e_cleared_above.ps (defScope (top 38)) = true := by kernel_rfl
def F_66 : List (Str × FnE) := ("cleared_above", e_cleared_above) :: F_65
def C_told_row_echelon : Cfg := ⟨["field", "head", "numbers", "below", "number"], 2, F_66, SHS, GLS, BTS, CLS, FL, M_4, MSH, T_6, KDS⟩
theorem c_told_row_echelon : bodyC C_told_row_echelon 100 (defScope (top 39)) (defBody (top 39)) = r_told_row_echelon := by kernel_rfl
theorem s_told_row_echelon : fnScB C_told_row_echelon.N e_told_row_echelon.ps (defScope (top 39)) = true := by kernel_rfl
def F_67 : List (Str × FnE) := ("told_row_echelon", e_told_row_echelon) :: F_66
def C_echelon : Cfg := ⟨["field", "rows", "found", "row", "head", "numbers"], 4, F_67, SHS, GLS, BTS, CLS, FL, M_4, MSH, T_6, KDS⟩
theorem c_echelon : bodyC C_echelon 100 (defScope (top 41)) (defBody (top 41)) = r_echelon := by kernel_rfl
theorem s_echelon : fnScB C_echelon.N e_echelon.ps (defScope (top 41)) = true := by kernel_rfl
def F_68 : List (Str × FnE) := ("echelon", e_echelon) :: F_67
def C_room_of : Cfg := ⟨["field", "rows"], 5, F_68, SHS, GLS, BTS, CLS, FL, M_4, MSH, T_6, KDS⟩
theorem c_room_of : bodyC C_room_of 100 (defScope (top 51)) (defBody (top 51)) = r_room_of := by kernel_rfl
theorem s_room_of : fnScB C_room_of.N e_room_of.ps (defScope (top 51)) = true := by kernel_rfl
def F_69 : List (Str × FnE) := ("room_of", e_room_of) :: F_68
def C_sum_of_products : Cfg := ⟨["field", "ones", "others", "one", "other", "top", "bottom", "below"], 2, F_69, SHS, GLS, BTS, CLS, FL, M_4, MSH, T_6, KDS⟩
theorem c_sum_of_products : bodyC C_sum_of_products 100 (defScope (top 28)) (defBody (top 28)) = r_sum_of_products := by kernel_rfl
theorem s_sum_of_products : fnScB C_sum_of_products.N e_sum_of_products.ps (defScope (top 28)) = true := by kernel_rfl
def F_70 : List (Str × FnE) := ("sum_of_products", e_sum_of_products) :: F_69
def C_led_by : Cfg := ⟨["field", "row", "columns", "column"], 3, F_70, SHS, GLS, BTS, CLS, FL, M_4, MSH, T_6, KDS⟩
theorem c_led_by : bodyC C_led_by 100 (defScope (top 48)) (defBody (top 48)) = r_led_by := by kernel_rfl
theorem s_led_by : fnScB C_led_by.N e_led_by.ps (defScope (top 48)) = true := by kernel_rfl
def F_71 : List (Str × FnE) := ("led_by", e_led_by) :: F_70
def C_led_room : Cfg := ⟨["field", "room", "table", "columns", "row"], 6, F_71, SHS, GLS, BTS, CLS, FL, M_4, MSH, T_6, KDS⟩
theorem c_led_room : bodyC C_led_room 100 (defScope (top 60)) (defBody (top 60)) = r_led_room := by kernel_rfl
theorem s_led_room : fnScB C_led_room.N e_led_room.ps (defScope (top 60)) = true := by kernel_rfl
def F_72 : List (Str × FnE) := ("led_room", e_led_room) :: F_71
def C_is_blind : Cfg := ⟨["machine", "level", "seen", "arrow"], 7, F_72, SHS, GLS, BTS, CLS, FL, M_4, MSH, T_6, KDS⟩
theorem c_is_blind : bodyC C_is_blind 100 (defScope (top 107)) (defBody (top 107)) = r_is_blind := by kernel_rfl
theorem s_is_blind : fnScB C_is_blind.N e_is_blind.ps (defScope (top 107)) = true := by kernel_rfl
def F_73 : List (Str × FnE) := ("is_blind", e_is_blind) :: F_72
def C_is_no_row : Cfg := ⟨["field", "row"], 2, F_73, SHS, GLS, BTS, CLS, FL, M_4, MSH, T_6, KDS⟩
theorem c_is_no_row : bodyC C_is_no_row 100 (defScope (top 57)) (defBody (top 57)) = r_is_no_row := by kernel_rfl
theorem s_is_no_row : fnScB C_is_no_row.N e_is_no_row.ps (defScope (top 57)) = true := by kernel_rfl
def F_74 : List (Str × FnE) := ("is_no_row", e_is_no_row) :: F_73
def C_opposite : Cfg := ⟨["field", "number"], 0, F_74, SHS, GLS, BTS, CLS, FL, M_4, MSH, T_6, KDS⟩
theorem c_opposite : bodyC C_opposite 100 (defScope (top 24)) (defBody (top 24)) = r_opposite := by kernel_rfl
theorem s_opposite : fnScB C_opposite.N e_opposite.ps (defScope (top 24)) = true := by kernel_rfl
def F_75 : List (Str × FnE) := ("opposite", e_opposite) :: F_74
def C_rest_of : Cfg := ⟨["field", "row", "room", "factors", "found", "number", "column", "other"], 3, F_75, SHS, GLS, BTS, CLS, FL, M_4, MSH, T_6, KDS⟩
theorem c_rest_of : bodyC C_rest_of 100 (defScope (top 56)) (defBody (top 56)) = r_rest_of := by kernel_rfl
theorem s_rest_of : fnScB C_rest_of.N e_rest_of.ps (defScope (top 56)) = true := by kernel_rfl
def F_76 : List (Str × FnE) := ("rest_of", e_rest_of) :: F_75
def C_stands_in : Cfg := ⟨["field", "row", "room"], 4, F_76, SHS, GLS, BTS, CLS, FL, M_4, MSH, T_6, KDS⟩
theorem c_stands_in : bodyC C_stands_in 100 (defScope (top 58)) (defBody (top 58)) = r_stands_in := by kernel_rfl
theorem s_stands_in : fnScB C_stands_in.N e_stands_in.ps (defScope (top 58)) = true := by kernel_rfl
def F_77 : List (Str × FnE) := ("stands_in", e_stands_in) :: F_76
def C_room_within : Cfg := ⟨["field", "one", "other", "row"], 5, F_77, SHS, GLS, BTS, CLS, FL, M_4, MSH, T_6, KDS⟩
theorem c_room_within : bodyC C_room_within 100 (defScope (top 59)) (defBody (top 59)) = r_room_within := by kernel_rfl
theorem s_room_within : fnScB C_room_within.N e_room_within.ps (defScope (top 59)) = true := by kernel_rfl
def F_78 : List (Str × FnE) := ("room_within", e_room_within) :: F_77
def C_leads_on : Cfg := ⟨["machine", "one", "other", "arrow", "come"], 7, F_78, SHS, GLS, BTS, CLS, FL, M_4, MSH, T_6, KDS⟩
theorem c_leads_on : bodyC C_leads_on 100 (defScope (top 106)) (defBody (top 106)) = r_leads_on := by kernel_rfl
theorem s_leads_on : fnScB C_leads_on.N e_leads_on.ps (defScope (top 106)) = true := by kernel_rfl
def F_79 : List (Str × FnE) := ("leads_on", e_leads_on) :: F_78
def C_are_levels : Cfg := ⟨["machine", "value", "levels", "pairs", "level", "one", "other"], 8, F_79, SHS, GLS, BTS, CLS, FL, M_4, MSH, T_6, KDS⟩
theorem c_are_levels : bodyC C_are_levels 100 (defScope (top 108)) (defBody (top 108)) = r_are_levels := by kernel_rfl
theorem s_are_levels : fnScB C_are_levels.N e_are_levels.ps (defScope (top 108)) = true := by kernel_rfl
def F_80 : List (Str × FnE) := ("are_levels", e_are_levels) :: F_79
def C_size_at : Cfg := ⟨["machine", "value"], 0, F_80, SHS, GLS, BTS, CLS, FL, M_4, MSH, T_6, KDS⟩
theorem c_size_at : bodyC C_size_at 100 (defScope (top 102)) (defBody (top 102)) = r_size_at := by kernel_rfl
theorem s_size_at : fnScB C_size_at.N e_size_at.ps (defScope (top 102)) = true := by kernel_rfl
def F_81 : List (Str × FnE) := ("size_at", e_size_at) :: F_80
def C_is_row_at : Cfg := ⟨["machine", "place", "value", "number"], 3, F_81, SHS, GLS, BTS, CLS, FL, M_4, MSH, T_6, KDS⟩
theorem c_is_row_at : bodyC C_is_row_at 100 (defScope (top 103)) (defBody (top 103)) = r_is_row_at := by kernel_rfl
theorem s_is_row_at : fnScB C_is_row_at.N e_is_row_at.ps (defScope (top 103)) = true := by kernel_rfl
def F_82 : List (Str × FnE) := ("is_row_at", e_is_row_at) :: F_81
def C_is_nought : Cfg := ⟨["field", "row"], 2, F_82, SHS, GLS, BTS, CLS, FL, M_4, MSH, T_6, KDS⟩
theorem c_is_nought : bodyC C_is_nought 100 (defScope (top 90)) (defBody (top 90)) = r_is_nought := by kernel_rfl
theorem s_is_nought : fnScB C_is_nought.N e_is_nought.ps (defScope (top 90)) = true := by kernel_rfl
def F_83 : List (Str × FnE) := ("is_nought", e_is_nought) :: F_82
def C_led : Cfg := ⟨["field", "row", "table"], 4, F_83, SHS, GLS, BTS, CLS, FL, M_4, MSH, T_6, KDS⟩
theorem c_led : bodyC C_led 100 (defScope (top 49)) (defBody (top 49)) = r_led := by kernel_rfl
theorem s_led : fnScB C_led.N e_led.ps (defScope (top 49)) = true := by kernel_rfl
def F_84 : List (Str × FnE) := ("led", e_led) :: F_83
def C_arrow_of : Cfg := ⟨["machine", "name"], 1, F_84, SHS, GLS, BTS, CLS, FL, M_4, MSH, T_6, KDS⟩
theorem c_arrow_of : bodyC C_arrow_of 100 (defScope (top 79)) (defBody (top 79)) = r_arrow_of := by kernel_rfl
theorem s_arrow_of : fnScB C_arrow_of.N e_arrow_of.ps (defScope (top 79)) = true := by kernel_rfl
def F_85 : List (Str × FnE) := ("arrow_of", e_arrow_of) :: F_84
def C_led_along : Cfg := ⟨["machine", "place", "row", "way", "name"], 5, F_85, SHS, GLS, BTS, CLS, FL, M_4, MSH, T_6, KDS⟩
theorem c_led_along : bodyC C_led_along 100 (defScope (top 94)) (defBody (top 94)) = r_led_along := by kernel_rfl
theorem s_led_along : fnScB C_led_along.N e_led_along.ps (defScope (top 94)) = true := by kernel_rfl
def F_86 : List (Str × FnE) := ("led_along", e_led_along) :: F_85
def C_last_look : Cfg := ⟨["machine", "place", "row", "way", "ahead"], 6, F_86, SHS, GLS, BTS, CLS, FL, M_4, MSH, T_6, KDS⟩
theorem c_last_look : bodyC C_last_look 100 (defScope (top 95)) (defBody (top 95)) = r_last_look := by kernel_rfl
theorem s_last_look : fnScB C_last_look.N e_last_look.ps (defScope (top 95)) = true := by kernel_rfl
def F_87 : List (Str × FnE) := ("last_look", e_last_look) :: F_86
def C_is_seen : Cfg := ⟨["machine", "place", "row", "way"], 7, F_87, SHS, GLS, BTS, CLS, FL, M_4, MSH, T_6, KDS⟩
theorem c_is_seen : bodyC C_is_seen 100 (defScope (top 104)) (defBody (top 104)) = r_is_seen := by kernel_rfl
theorem s_is_seen : fnScB C_is_seen.N e_is_seen.ps (defScope (top 104)) = true := by kernel_rfl
def F_88 : List (Str × FnE) := ("is_seen", e_is_seen) :: F_87
def C_is_late : Cfg := ⟨["machine", "value", "many", "place", "row", "way"], 8, F_88, SHS, GLS, BTS, CLS, FL, M_4, MSH, T_6, KDS⟩
theorem c_is_late : bodyC C_is_late 100 (defScope (top 109)) (defBody (top 109)) = r_is_late := by kernel_rfl
theorem s_is_late : fnScB C_is_late.N e_is_late.ps (defScope (top 109)) = true := by kernel_rfl
def F_89 : List (Str × FnE) := ("is_late", e_is_late) :: F_88
def C_reads_forgets : Cfg := ⟨["machine", "value"], 9, F_89, SHS, GLS, BTS, CLS, FL, M_4, MSH, T_6, KDS⟩
theorem c_reads_forgets : bodyC C_reads_forgets 100 (defScope (top 110)) (defBody (top 110)) = r_reads_forgets := by kernel_rfl
theorem s_reads_forgets : fnScB C_reads_forgets.N e_reads_forgets.ps (defScope (top 110)) = true := by kernel_rfl
def F_90 : List (Str × FnE) := ("reads_forgets", e_reads_forgets) :: F_89
def C_end_of : Cfg := ⟨["machine", "place", "way"], 2, F_90, SHS, GLS, BTS, CLS, FL, M_4, MSH, T_6, KDS⟩
theorem c_end_of : bodyC C_end_of 100 (defScope (top 81)) (defBody (top 81)) = r_end_of := by kernel_rfl
theorem s_end_of : fnScB C_end_of.N e_end_of.ps (defScope (top 81)) = true := by kernel_rfl
def F_91 : List (Str × FnE) := ("end_of", e_end_of) :: F_90
def C_led_by_way : Cfg := ⟨["machine", "room", "way", "name"], 7, F_91, SHS, GLS, BTS, CLS, FL, M_4, MSH, T_6, KDS⟩
theorem c_led_by_way : bodyC C_led_by_way 100 (defScope (top 92)) (defBody (top 92)) = r_led_by_way := by kernel_rfl
theorem s_led_by_way : fnScB C_led_by_way.N e_led_by_way.ps (defScope (top 92)) = true := by kernel_rfl
def F_92 : List (Str × FnE) := ("led_by_way", e_led_by_way) :: F_91
def C_comes_round : Cfg := ⟨["machine", "place", "way", "room"], 8, F_92, SHS, GLS, BTS, CLS, FL, M_4, MSH, T_6, KDS⟩
theorem c_comes_round : bodyC C_comes_round 100 (defScope (top 111)) (defBody (top 111)) = r_comes_round := by kernel_rfl
theorem s_comes_round : fnScB C_comes_round.N e_comes_round.ps (defScope (top 111)) = true := by kernel_rfl
def F_93 : List (Str × FnE) := ("comes_round", e_comes_round) :: F_92
def C_is_sight : Cfg := ⟨["machine", "place", "room", "value"], 8, F_93, SHS, GLS, BTS, CLS, FL, M_4, MSH, T_6, KDS⟩
theorem c_is_sight : bodyC C_is_sight 100 (defScope (top 112)) (defBody (top 112)) = r_is_sight := by kernel_rfl
theorem s_is_sight : fnScB C_is_sight.N e_is_sight.ps (defScope (top 112)) = true := by kernel_rfl
def F_94 : List (Str × FnE) := ("is_sight", e_is_sight) :: F_93
def C_reads_never : Cfg := ⟨["machine", "value", "place", "way", "room", "sight"], 9, F_94, SHS, GLS, BTS, CLS, FL, M_4, MSH, T_6, KDS⟩
theorem c_reads_never : bodyC C_reads_never 100 (defScope (top 113)) (defBody (top 113)) = r_reads_never := by kernel_rfl
theorem s_reads_never : fnScB C_reads_never.N e_reads_never.ps (defScope (top 113)) = true := by kernel_rfl
def F_95 : List (Str × FnE) := ("reads_never", e_reads_never) :: F_94
def C_read_answer : Cfg := ⟨["machine", "value"], 10, F_95, SHS, GLS, BTS, CLS, FL, M_4, MSH, T_6, KDS⟩
theorem c_read_answer : bodyC C_read_answer 100 (defScope (top 114)) (defBody (top 114)) = r_read_answer := by kernel_rfl
theorem s_read_answer : fnScB C_read_answer.N e_read_answer.ps (defScope (top 114)) = true := by kernel_rfl
def F_96 : List (Str × FnE) := ("read_answer", e_read_answer) :: F_95
def C_wide_row : Cfg := ⟨["field", "row"], 1, F_96, SHS, GLS, BTS, CLS, FL, M_4, MSH, T_6, KDS⟩
theorem c_wide_row : bodyC C_wide_row 100 (defScope (top 124)) (defBody (top 124)) = r_wide_row := by kernel_rfl
theorem s_wide_row : fnScB C_wide_row.N e_wide_row.ps (defScope (top 124)) = true := by kernel_rfl
def F_97 : List (Str × FnE) := ("wide_row", e_wide_row) :: F_96
def C_are_kept_rooms : Cfg := ⟨["machine", "place", "row", "value", "rooms"], 8, F_97, SHS, GLS, BTS, CLS, FL, M_4, MSH, T_6, KDS⟩
theorem c_are_kept_rooms : bodyC C_are_kept_rooms 100 (defScope (top 116)) (defBody (top 116)) = r_are_kept_rooms := by kernel_rfl
theorem s_are_kept_rooms : fnScB C_are_kept_rooms.N e_are_kept_rooms.ps (defScope (top 116)) = true := by kernel_rfl
def F_98 : List (Str × FnE) := ("are_kept_rooms", e_are_kept_rooms) :: F_97
def C_wide_table : Cfg := ⟨["field", "table", "shift", "row"], 2, F_98, SHS, GLS, BTS, CLS, FL, M_4, MSH, T_6, KDS⟩
theorem c_wide_table : bodyC C_wide_table 100 (defScope (top 125)) (defBody (top 125)) = r_wide_table := by kernel_rfl
theorem s_wide_table : fnScB C_wide_table.N e_wide_table.ps (defScope (top 125)) = true := by kernel_rfl
def F_99 : List (Str × FnE) := ("wide_table", e_wide_table) :: F_98
def C_wide_arrow : Cfg := ⟨["machine", "arrow", "field", "table", "look"], 3, F_99, SHS, GLS, BTS, CLS, FL, M_4, MSH, T_6, KDS⟩
theorem c_wide_arrow : bodyC C_wide_arrow 100 (defScope (top 126)) (defBody (top 126)) = r_wide_arrow := by kernel_rfl
theorem s_wide_arrow : fnScB C_wide_arrow.N e_wide_arrow.ps (defScope (top 126)) = true := by kernel_rfl
def F_100 : List (Str × FnE) := ("wide_arrow", e_wide_arrow) :: F_99
def C_wide : Cfg := ⟨["machine", "places", "arrows", "place", "size", "arrow"], 4, F_100, SHS, GLS, BTS, CLS, FL, M_4, MSH, T_6, KDS⟩
theorem c_wide : bodyC C_wide 100 (defScope (top 127)) (defBody (top 127)) = r_wide := by kernel_rfl
theorem s_wide : fnScB C_wide.N e_wide.ps (defScope (top 127)) = true := by kernel_rfl
def F_101 : List (Str × FnE) := ("wide", e_wide) :: F_100
def C_worth : Cfg := ⟨["field", "relation", "row"], 3, F_101, SHS, GLS, BTS, CLS, FL, M_4, MSH, T_6, KDS⟩
theorem c_worth : bodyC C_worth 100 (defScope (top 119)) (defBody (top 119)) = r_worth := by kernel_rfl
theorem s_worth : fnScB C_worth.N e_worth.ps (defScope (top 119)) = true := by kernel_rfl
def F_102 : List (Str × FnE) := ("worth", e_worth) :: F_101
def C_gives_nought : Cfg := ⟨["field", "relation", "row"], 4, F_102, SHS, GLS, BTS, CLS, FL, M_4, MSH, T_6, KDS⟩
theorem c_gives_nought : bodyC C_gives_nought 100 (defScope (top 120)) (defBody (top 120)) = r_gives_nought := by kernel_rfl
theorem s_gives_nought : fnScB C_gives_nought.N e_gives_nought.ps (defScope (top 120)) = true := by kernel_rfl
def F_103 : List (Str × FnE) := ("gives_nought", e_gives_nought) :: F_102
def C_gives_nought_of_all : Cfg := ⟨["field", "relation", "room", "row"], 5, F_103, SHS, GLS, BTS, CLS, FL, M_4, MSH, T_6, KDS⟩
theorem c_gives_nought_of_all : bodyC C_gives_nought_of_all 100 (defScope (top 121)) (defBody (top 121)) = r_gives_nought_of_all := by kernel_rfl
theorem s_gives_nought_of_all : fnScB C_gives_nought_of_all.N e_gives_nought_of_all.ps (defScope (top 121)) = true := by kernel_rfl
def F_104 : List (Str × FnE) := ("gives_nought_of_all", e_gives_nought_of_all) :: F_103
def C_reads_always : Cfg := ⟨["machine", "start", "place", "relation", "value", "row"], 9, F_104, SHS, GLS, BTS, CLS, FL, M_4, MSH, T_6, KDS⟩
theorem c_reads_always : bodyC C_reads_always 100 (defScope (top 131)) (defBody (top 131)) = r_reads_always := by kernel_rfl
theorem s_reads_always : fnScB C_reads_always.N e_reads_always.ps (defScope (top 131)) = true := by kernel_rfl
def F_105 : List (Str × FnE) := ("reads_always", e_reads_always) :: F_104
def C_reads_broken : Cfg := ⟨["machine", "start", "place", "relation", "value", "row"], 6, F_105, SHS, GLS, BTS, CLS, FL, M_4, MSH, T_6, KDS⟩
theorem c_reads_broken : bodyC C_reads_broken 100 (defScope (top 132)) (defBody (top 132)) = r_reads_broken := by kernel_rfl
theorem s_reads_broken : fnScB C_reads_broken.N e_reads_broken.ps (defScope (top 132)) = true := by kernel_rfl
def F_106 : List (Str × FnE) := ("reads_broken", e_reads_broken) :: F_105
def C_read_relation : Cfg := ⟨["machine", "start", "place", "relation", "value"], 10, F_106, SHS, GLS, BTS, CLS, FL, M_4, MSH, T_6, KDS⟩
theorem c_read_relation : bodyC C_read_relation 100 (defScope (top 133)) (defBody (top 133)) = r_read_relation := by kernel_rfl
theorem s_read_relation : fnScB C_read_relation.N e_read_relation.ps (defScope (top 133)) = true := by kernel_rfl
def F_107 : List (Str × FnE) := ("read_relation", e_read_relation) :: F_106
def C_place_names : Cfg := ⟨["machine", "name", "_"], 0, F_107, SHS, GLS, BTS, CLS, FL, M_4, MSH, T_6, KDS⟩
theorem c_place_names : bodyC C_place_names 100 (defScope (top 156)) (defBody (top 156)) = r_place_names := by kernel_rfl
theorem s_place_names : fnScB C_place_names.N e_place_names.ps (defScope (top 156)) = true := by kernel_rfl
def F_108 : List (Str × FnE) := ("place_names", e_place_names) :: F_107
def C_arrow_heads : Cfg := ⟨["machine", "arrow"], 0, F_108, SHS, GLS, BTS, CLS, FL, M_4, MSH, T_6, KDS⟩
theorem c_arrow_heads : bodyC C_arrow_heads 100 (defScope (top 157)) (defBody (top 157)) = r_arrow_heads := by kernel_rfl
theorem s_arrow_heads : fnScB C_arrow_heads.N e_arrow_heads.ps (defScope (top 157)) = true := by kernel_rfl
def F_109 : List (Str × FnE) := ("arrow_heads", e_arrow_heads) :: F_108
def C_is_same_web : Cfg := ⟨["one", "other"], 1, F_109, SHS, GLS, BTS, CLS, FL, M_4, MSH, T_6, KDS⟩
theorem c_is_same_web : bodyC C_is_same_web 100 (defScope (top 158)) (defBody (top 158)) = r_is_same_web := by kernel_rfl
theorem s_is_same_web : fnScB C_is_same_web.N e_is_same_web.ps (defScope (top 158)) = true := by kernel_rfl
def F_110 : List (Str × FnE) := ("is_same_web", e_is_same_web) :: F_109
def C_need_same_web : Cfg := ⟨["one", "other"], 2, F_110, SHS, GLS, BTS, CLS, FL, M_4, MSH, T_6, KDS⟩
theorem c_need_same_web : bodyC C_need_same_web 100 (defScope (top 159)) (defBody (top 159)) = r_need_same_web := by kernel_rfl
theorem s_need_same_web : fnScB C_need_same_web.N e_need_same_web.ps (defScope (top 159)) = true := by kernel_rfl
def F_111 : List (Str × FnE) := ("need_same_web", e_need_same_web) :: F_110
def C_behind_zeros : Cfg := ⟨["field", "many", "row"], 2, F_111, SHS, GLS, BTS, CLS, FL, M_4, MSH, T_6, KDS⟩
theorem c_behind_zeros : bodyC C_behind_zeros 100 (defScope (top 160)) (defBody (top 160)) = r_behind_zeros := by kernel_rfl
theorem s_behind_zeros : fnScB C_behind_zeros.N e_behind_zeros.ps (defScope (top 160)) = true := by kernel_rfl
def F_112 : List (Str × FnE) := ("behind_zeros", e_behind_zeros) :: F_111
def C_ahead_of_zeros : Cfg := ⟨["field", "row", "many"], 2, F_112, SHS, GLS, BTS, CLS, FL, M_4, MSH, T_6, KDS⟩
theorem c_ahead_of_zeros : bodyC C_ahead_of_zeros 100 (defScope (top 161)) (defBody (top 161)) = r_ahead_of_zeros := by kernel_rfl
theorem s_ahead_of_zeros : fnScB C_ahead_of_zeros.N e_ahead_of_zeros.ps (defScope (top 161)) = true := by kernel_rfl
def F_113 : List (Str × FnE) := ("ahead_of_zeros", e_ahead_of_zeros) :: F_112
def C_blocks : Cfg := ⟨["field", "one", "other", "first", "row"], 3, F_113, SHS, GLS, BTS, CLS, FL, M_4, MSH, T_6, KDS⟩
theorem c_blocks : bodyC C_blocks 100 (defScope (top 162)) (defBody (top 162)) = r_blocks := by kernel_rfl
theorem s_blocks : fnScB C_blocks.N e_blocks.ps (defScope (top 162)) = true := by kernel_rfl
def F_114 : List (Str × FnE) := ("blocks", e_blocks) :: F_113
def C_plus : Cfg := ⟨["field", "one", "other"], 2, F_114, SHS, GLS, BTS, CLS, FL, M_4, MSH, T_6, KDS⟩
theorem c_plus : bodyC C_plus 100 (defScope (top 23)) (defBody (top 23)) = r_plus := by kernel_rfl
theorem s_plus : fnScB C_plus.N e_plus.ps (defScope (top 23)) = true := by kernel_rfl
def F_115 : List (Str × FnE) := ("plus", e_plus) :: F_114
def C_row_plus : Cfg := ⟨["field", "one", "other", "left", "right"], 3, F_115, SHS, GLS, BTS, CLS, FL, M_4, MSH, T_6, KDS⟩
theorem c_row_plus : bodyC C_row_plus 100 (defScope (top 43)) (defBody (top 43)) = r_row_plus := by kernel_rfl
theorem s_row_plus : fnScB C_row_plus.N e_row_plus.ps (defScope (top 43)) = true := by kernel_rfl
def F_116 : List (Str × FnE) := ("row_plus", e_row_plus) :: F_115
def C_scaled : Cfg := ⟨["field", "number", "row", "other"], 3, F_116, SHS, GLS, BTS, CLS, FL, M_4, MSH, T_6, KDS⟩
theorem c_scaled : bodyC C_scaled 100 (defScope (top 44)) (defBody (top 44)) = r_scaled := by kernel_rfl
theorem s_scaled : fnScB C_scaled.N e_scaled.ps (defScope (top 44)) = true := by kernel_rfl
def F_117 : List (Str × FnE) := ("scaled", e_scaled) :: F_116
def C_less_row : Cfg := ⟨["field", "row"], 4, F_117, SHS, GLS, BTS, CLS, FL, M_4, MSH, T_6, KDS⟩
theorem c_less_row : bodyC C_less_row 100 (defScope (top 164)) (defBody (top 164)) = r_less_row := by kernel_rfl
theorem s_less_row : fnScB C_less_row.N e_less_row.ps (defScope (top 164)) = true := by kernel_rfl
def F_118 : List (Str × FnE) := ("less_row", e_less_row) :: F_117
def C_difference_arrow : Cfg := ⟨["field", "one", "other", "table", "look", "row"], 5, F_118, SHS, GLS, BTS, CLS, FL, M_4, MSH, T_6, KDS⟩
theorem c_difference_arrow : bodyC C_difference_arrow 100 (defScope (top 165)) (defBody (top 165)) = r_difference_arrow := by kernel_rfl
theorem s_difference_arrow : fnScB C_difference_arrow.N e_difference_arrow.ps (defScope (top 165)) = true := by kernel_rfl
def F_119 : List (Str × FnE) := ("difference_arrow", e_difference_arrow) :: F_118
def C_difference : Cfg := ⟨["one", "other", "places", "arrows", "name", "size", "_", "more", "first", "second"], 6, F_119, SHS, GLS, BTS, CLS, FL, M_4, MSH, T_6, KDS⟩
theorem c_difference : bodyC C_difference 100 (defScope (top 166)) (defBody (top 166)) = r_difference := by kernel_rfl
theorem s_difference : fnScB C_difference.N e_difference.ps (defScope (top 166)) = true := by kernel_rfl
def F_120 : List (Str × FnE) := ("difference", e_difference) :: F_119
def C_both_rows : Cfg := ⟨["field", "start", "late"], 2, F_120, SHS, GLS, BTS, CLS, FL, M_4, MSH, T_6, KDS⟩
theorem c_both_rows : bodyC C_both_rows 100 (defScope (top 170)) (defBody (top 170)) = r_both_rows := by kernel_rfl
theorem s_both_rows : fnScB C_both_rows.N e_both_rows.ps (defScope (top 170)) = true := by kernel_rfl
def F_121 : List (Str × FnE) := ("both_rows", e_both_rows) :: F_120
def C_are_blind_rooms : Cfg := ⟨["machine", "value"], 8, F_121, SHS, GLS, BTS, CLS, FL, M_4, MSH, T_6, KDS⟩
theorem c_are_blind_rooms : bodyC C_are_blind_rooms 100 (defScope (top 117)) (defBody (top 117)) = r_are_blind_rooms := by kernel_rfl
theorem s_are_blind_rooms : fnScB C_are_blind_rooms.N e_are_blind_rooms.ps (defScope (top 117)) = true := by kernel_rfl
def F_122 : List (Str × FnE) := ("are_blind_rooms", e_are_blind_rooms) :: F_121
def C_reads_alike : Cfg := ⟨["machine", "place", "row", "value"], 9, F_122, SHS, GLS, BTS, CLS, FL, M_4, MSH, T_6, KDS⟩
theorem c_reads_alike : bodyC C_reads_alike 100 (defScope (top 171)) (defBody (top 171)) = r_reads_alike := by kernel_rfl
theorem s_reads_alike : fnScB C_reads_alike.N e_reads_alike.ps (defScope (top 171)) = true := by kernel_rfl
def F_123 : List (Str × FnE) := ("reads_alike", e_reads_alike) :: F_122
def C_reads_parted : Cfg := ⟨["machine", "place", "row", "value"], 7, F_123, SHS, GLS, BTS, CLS, FL, M_4, MSH, T_6, KDS⟩
theorem c_reads_parted : bodyC C_reads_parted 100 (defScope (top 172)) (defBody (top 172)) = r_reads_parted := by kernel_rfl
theorem s_reads_parted : fnScB C_reads_parted.N e_reads_parted.ps (defScope (top 172)) = true := by kernel_rfl
def F_124 : List (Str × FnE) := ("reads_parted", e_reads_parted) :: F_123
def C_read_alike_from : Cfg := ⟨["one", "other", "start", "late", "value", "machine", "row"], 10, F_124, SHS, GLS, BTS, CLS, FL, M_4, MSH, T_6, KDS⟩
theorem c_read_alike_from : bodyC C_read_alike_from 100 (defScope (top 173)) (defBody (top 173)) = r_read_alike_from := by kernel_rfl
theorem s_read_alike_from : fnScB C_read_alike_from.N e_read_alike_from.ps (defScope (top 173)) = true := by kernel_rfl
def F_125 : List (Str × FnE) := ("read_alike_from", e_read_alike_from) :: F_124
def C__law_room_values : Cfg := ⟨["n", "e", "two", "half", "right", "wrong", "value"], 0, F_125, SHS, GLS, BTS, CLS, FL, M_4, MSH, T_6, KDS⟩
theorem c__law_room_values : bodyC C__law_room_values 100 (defScope (top 182)) (defBody (top 182)) = r__law_room_values := by kernel_rfl
theorem s__law_room_values : fnScB C__law_room_values.N e__law_room_values.ps (defScope (top 182)) = true := by kernel_rfl
def F_126 : List (Str × FnE) := ("_law_room_values", e__law_room_values) :: F_125
def C__law_plain : Cfg := ⟨["value"], 0, F_126, SHS, GLS, BTS, CLS, FL, M_4, MSH, T_6, KDS⟩
theorem c__law_plain : bodyC C__law_plain 100 (defScope (top 180)) (defBody (top 180)) = r__law_plain := by kernel_rfl
theorem s__law_plain : fnScB C__law_plain.N e__law_plain.ps (defScope (top 180)) = true := by kernel_rfl
def F_127 : List (Str × FnE) := ("_law_plain", e__law_plain) :: F_126
def C__law_is_kind : Cfg := ⟨["told", "due"], 0, F_127, SHS, GLS, BTS, CLS, FL, M_4, MSH, T_6, KDS⟩
theorem c__law_is_kind : bodyC C__law_is_kind 100 (defScope (top 177)) (defBody (top 177)) = r__law_is_kind := by kernel_rfl
theorem s__law_is_kind : fnScB C__law_is_kind.N e__law_is_kind.ps (defScope (top 177)) = true := by kernel_rfl
def F_128 : List (Str × FnE) := ("_law_is_kind", e__law_is_kind) :: F_127
def C__law_same : Cfg := ⟨["told", "due", "todo", "one", "other"], 1, F_128, SHS, GLS, BTS, CLS, FL, M_4, MSH, T_6, KDS⟩
theorem c__law_same : bodyC C__law_same 100 (defScope (top 178)) (defBody (top 178)) = r__law_same := by kernel_rfl
theorem s__law_same : fnScB C__law_same.N e__law_same.ps (defScope (top 178)) = true := by kernel_rfl
def F_129 : List (Str × FnE) := ("_law_same", e__law_same) :: F_128
def C__law_all : Cfg := ⟨["pairs", "told", "due"], 2, F_129, SHS, GLS, BTS, CLS, FL, M_4, MSH, T_6, KDS⟩
theorem c__law_all : bodyC C__law_all 100 (defScope (top 179)) (defBody (top 179)) = r__law_all := by kernel_rfl
theorem s__law_all : fnScB C__law_all.N e__law_all.ps (defScope (top 179)) = true := by kernel_rfl
def F_130 : List (Str × FnE) := ("_law_all", e__law_all) :: F_129
def C_law : Cfg := ⟨["script", "deal", "pairs", "machine", "strange", "start", "value", "due"], 11, F_130, SHS, GLS, BTS, CLS, FL, M_4, MSH, T_6, KDS⟩
theorem c_law : bodyC C_law 100 (defScope (top 183)) (defBody (top 183)) = r_law := by kernel_rfl
theorem s_law : fnScB C_law.N e_law.ps (defScope (top 183)) = true := by kernel_rfl
def F_131 : List (Str × FnE) := ("law", e_law) :: F_130
end J

set_option Elab.async false
set_option linter.all false
set_option maxRecDepth 100000
set_option maxHeartbeats 0
namespace J
open PySem PySem.Spec PyProof.Rows L2
set_option autoImplicit false
section
variable {P : Program} {w : World} {K : PySem.W.Frag} {mg : Str → Option Value} {base : Heap}
theorem af_0 (T : Told2 ASK w K mg) : AllF P w K mg base F_0 := fun _ _ h => by cases h
theorem am_0 (T : Told2 ASK w K mg) : AllM P w K mg base M_0 := fun _ _ h => by cases h
theorem at_0 (T : Told2 ASK w K mg) : AllT P w K mg base T_0 := fun _ _ h => by cases h
theorem f_D__law_deal__law_deal (T : Told2 ASK w K mg) : FnFact P w K mg base (He.fAd K D__law_deal__law_deal.at_) e__law_deal := by
  obtain ⟨fd, F⟩ := T.t.def_ D__law_deal__law_deal (at_mem 0 rfl)
  exact fact_of F s__law_deal (cfg_ok T.t (fnScB_ok s__law_deal).nd (af_0 T) (am_0 T) (at_0 T) rfl rfl rfl rfl rfl) 100 [] c__law_deal (fun _ _ _ _ _ _ us hl => match us, hl with | [_, _], _ => rfl) (fun m hm => nomatch hm)
theorem af_1 (T : Told2 ASK w K mg) : AllF P w K mg base F_1 := AllF.cons (T.defF (d := D__law_deal__law_deal) 0 0 rfl rfl rfl (f_D__law_deal__law_deal T)) (af_0 T)
theorem f_D_run_end_run_end (T : Told2 ASK w K mg) : FnFact P w K mg base (He.fAd K D_run_end_run_end.at_) e_run_end := by
  obtain ⟨fd, F⟩ := T.t.def_ D_run_end_run_end (at_mem 1 rfl)
  exact fact_of F s_run_end (cfg_ok T.t (fnScB_ok s_run_end).nd (af_1 T) (am_0 T) (at_0 T) rfl rfl rfl rfl rfl) 100 [] c_run_end (fun _ _ _ _ _ _ us hl => match us, hl with | [_, _, _], _ => rfl) (fun m hm => nomatch hm)
theorem af_2 (T : Told2 ASK w K mg) : AllF P w K mg base F_2 := AllF.cons (T.defF (d := D_run_end_run_end) 1 1 rfl rfl rfl (f_D_run_end_run_end T)) (af_1 T)
theorem f_D_sign_end_sign_end (T : Told2 ASK w K mg) : FnFact P w K mg base (He.fAd K D_sign_end_sign_end.at_) e_sign_end := by
  obtain ⟨fd, F⟩ := T.t.def_ D_sign_end_sign_end (at_mem 2 rfl)
  exact fact_of F s_sign_end (cfg_ok T.t (fnScB_ok s_sign_end).nd (af_2 T) (am_0 T) (at_0 T) rfl rfl rfl rfl rfl) 100 [] c_sign_end (fun _ _ _ _ _ _ us hl => match us, hl with | [_, _], _ => rfl) (fun m hm => nomatch hm)
theorem af_3 (T : Told2 ASK w K mg) : AllF P w K mg base F_3 := AllF.cons (T.defF (d := D_sign_end_sign_end) 2 2 rfl rfl rfl (f_D_sign_end_sign_end T)) (af_2 T)
theorem f_D_signs_of_signs_of (T : Told2 ASK w K mg) : FnFact P w K mg base (He.fAd K D_signs_of_signs_of.at_) e_signs_of := by
  obtain ⟨fd, F⟩ := T.t.def_ D_signs_of_signs_of (at_mem 3 rfl)
  exact fact_of F s_signs_of (cfg_ok T.t (fnScB_ok s_signs_of).nd (af_3 T) (am_0 T) (at_0 T) rfl rfl rfl rfl rfl) 100 [] c_signs_of (fun _ _ _ _ _ _ us hl => match us, hl with | [_], _ => rfl) (fun m hm => nomatch hm)
theorem af_4 (T : Told2 ASK w K mg) : AllF P w K mg base F_4 := AllF.cons (T.defF (d := D_signs_of_signs_of) 3 3 rfl rfl rfl (f_D_signs_of_signs_of T)) (af_3 T)
theorem f_D_is_due_is_due (T : Told2 ASK w K mg) : FnFact P w K mg base (He.fAd K D_is_due_is_due.at_) e_is_due := by
  obtain ⟨fd, F⟩ := T.t.def_ D_is_due_is_due (at_mem 4 rfl)
  exact fact_of F s_is_due (cfg_ok T.t (fnScB_ok s_is_due).nd (af_4 T) (am_0 T) (at_0 T) rfl rfl rfl rfl rfl) 100 [] c_is_due (fun _ _ _ _ _ _ us hl => match us, hl with | [_, _, _], _ => rfl) (fun m hm => nomatch hm)
theorem af_5 (T : Told2 ASK w K mg) : AllF P w K mg base F_5 := AllF.cons (T.defF (d := D_is_due_is_due) 4 4 rfl rfl rfl (f_D_is_due_is_due T)) (af_4 T)
theorem f_D_Cursor_init (T : Told2 ASK w K mg) : FnFact P w K mg base (He.fAd K D_Cursor_init.at_) e_Cursor_init := by
  obtain ⟨fd, F⟩ := T.t.def_ D_Cursor_init (at_mem 5 rfl)
  exact fact_of F s_Cursor_init (cfg_ok T.t (fnScB_ok s_Cursor_init).nd (af_5 T) (am_0 T) (at_0 T) rfl rfl rfl rfl rfl) 100 [] c_Cursor_init (fun _ _ _ _ _ _ us hl => match us, hl with | [_, _, _], _ => rfl) (fun m hm => nomatch hm)
theorem am_1 (T : Told2 ASK w K mg) : AllM P w K mg base M_1 := AllM.cons (T.makeF (d := D_Cursor_init) 5 6 rfl rfl rfl (f_D_Cursor_init T)) (am_0 T)
theorem f_D_Cursor_sign_ahead (T : Told2 ASK w K mg) : FnFact P w K mg base (He.fAd K D_Cursor_sign_ahead.at_) e_Cursor_sign_ahead := by
  obtain ⟨fd, F⟩ := T.t.def_ D_Cursor_sign_ahead (at_mem 6 rfl)
  exact fact_of F s_Cursor_sign_ahead (cfg_ok T.t (fnScB_ok s_Cursor_sign_ahead).nd (af_5 T) (am_1 T) (at_0 T) rfl rfl rfl rfl rfl) 100 [] c_Cursor_sign_ahead (fun _ _ _ _ _ _ us hl => match us, hl with | [_, _], _ => rfl) (fun m hm => nomatch hm)
theorem at_1 (T : Told2 ASK w K mg) : AllT P w K mg base T_1 := AllT.cons (q := ("Cursor", e_Cursor_sign_ahead)) (T.methF (d := D_Cursor_sign_ahead) 7 8 rfl rfl rfl (f_D_Cursor_sign_ahead T)) (at_0 T)
theorem f_D_Cursor_need_end (T : Told2 ASK w K mg) : FnFact P w K mg base (He.fAd K D_Cursor_need_end.at_) e_Cursor_need_end := by
  obtain ⟨fd, F⟩ := T.t.def_ D_Cursor_need_end (at_mem 7 rfl)
  exact fact_of F s_Cursor_need_end (cfg_ok T.t (fnScB_ok s_Cursor_need_end).nd (af_5 T) (am_1 T) (at_1 T) rfl rfl rfl rfl rfl) 100 [] c_Cursor_need_end (fun _ _ _ _ _ _ us hl => match us, hl with | [_], _ => rfl) (fun m hm => nomatch hm)
theorem at_2 (T : Told2 ASK w K mg) : AllT P w K mg base T_2 := AllT.cons (q := ("Cursor", e_Cursor_need_end)) (T.methF (d := D_Cursor_need_end) 9 8 rfl rfl rfl (f_D_Cursor_need_end T)) (at_1 T)
theorem f_D_told_end_told_end (T : Told2 ASK w K mg) : FnFact P w K mg base (He.fAd K D_told_end_told_end.at_) e_told_end := by
  obtain ⟨fd, F⟩ := T.t.def_ D_told_end_told_end (at_mem 8 rfl)
  exact fact_of F s_told_end (cfg_ok T.t (fnScB_ok s_told_end).nd (af_5 T) (am_1 T) (at_2 T) rfl rfl rfl rfl rfl) 100 [] c_told_end (fun _ _ _ _ _ _ us hl => match us, hl with | [_, _], _ => rfl) (fun m hm => nomatch hm)
theorem af_6 (T : Told2 ASK w K mg) : AllF P w K mg base F_6 := AllF.cons (T.defF (d := D_told_end_told_end) 8 10 rfl rfl rfl (f_D_told_end_told_end T)) (af_5 T)
theorem f_D_are_figures_are_figures (T : Told2 ASK w K mg) : FnFact P w K mg base (He.fAd K D_are_figures_are_figures.at_) e_are_figures := by
  obtain ⟨fd, F⟩ := T.t.def_ D_are_figures_are_figures (at_mem 9 rfl)
  exact fact_of F s_are_figures (cfg_ok T.t (fnScB_ok s_are_figures).nd (af_6 T) (am_1 T) (at_2 T) rfl rfl rfl rfl rfl) 100 [] c_are_figures (fun _ _ _ _ _ _ us hl => match us, hl with | [_], _ => rfl) (fun m hm => nomatch hm)
theorem af_7 (T : Told2 ASK w K mg) : AllF P w K mg base F_7 := AllF.cons (T.defF (d := D_are_figures_are_figures) 9 11 rfl rfl rfl (f_D_are_figures_are_figures T)) (af_6 T)
theorem f_D_is_number_text_is_number_text (T : Told2 ASK w K mg) : FnFact P w K mg base (He.fAd K D_is_number_text_is_number_text.at_) e_is_number_text := by
  obtain ⟨fd, F⟩ := T.t.def_ D_is_number_text_is_number_text (at_mem 10 rfl)
  exact fact_of F s_is_number_text (cfg_ok T.t (fnScB_ok s_is_number_text).nd (af_7 T) (am_1 T) (at_2 T) rfl rfl rfl rfl rfl) 100 [] c_is_number_text (fun _ _ _ _ _ _ us hl => match us, hl with | [_], _ => rfl) (fun m hm => nomatch hm)
theorem af_8 (T : Told2 ASK w K mg) : AllF P w K mg base F_8 := AllF.cons (T.defF (d := D_is_number_text_is_number_text) 10 12 rfl rfl rfl (f_D_is_number_text_is_number_text T)) (af_7 T)
theorem f_D_Cursor_need_number (T : Told2 ASK w K mg) : FnFact P w K mg base (He.fAd K D_Cursor_need_number.at_) e_Cursor_need_number := by
  obtain ⟨fd, F⟩ := T.t.def_ D_Cursor_need_number (at_mem 11 rfl)
  exact fact_of F s_Cursor_need_number (cfg_ok T.t (fnScB_ok s_Cursor_need_number).nd (af_8 T) (am_1 T) (at_2 T) rfl rfl rfl rfl rfl) 100 [] c_Cursor_need_number (fun _ _ _ _ _ _ us hl => match us, hl with | [_], _ => rfl) (fun m hm => nomatch hm)
theorem at_3 (T : Told2 ASK w K mg) : AllT P w K mg base T_3 := AllT.cons (q := ("Cursor", e_Cursor_need_number)) (T.methF (d := D_Cursor_need_number) 13 8 rfl rfl rfl (f_D_Cursor_need_number T)) (at_2 T)
theorem f_D_are_small_are_small (T : Told2 ASK w K mg) : FnFact P w K mg base (He.fAd K D_are_small_are_small.at_) e_are_small := by
  obtain ⟨fd, F⟩ := T.t.def_ D_are_small_are_small (at_mem 12 rfl)
  exact fact_of F s_are_small (cfg_ok T.t (fnScB_ok s_are_small).nd (af_8 T) (am_1 T) (at_3 T) rfl rfl rfl rfl rfl) 100 [] c_are_small (fun _ _ _ _ _ _ us hl => match us, hl with | [_], _ => rfl) (fun m hm => nomatch hm)
theorem af_9 (T : Told2 ASK w K mg) : AllF P w K mg base F_9 := AllF.cons (T.defF (d := D_are_small_are_small) 12 14 rfl rfl rfl (f_D_are_small_are_small T)) (af_8 T)
theorem f_D_is_name_is_name (T : Told2 ASK w K mg) : FnFact P w K mg base (He.fAd K D_is_name_is_name.at_) e_is_name := by
  obtain ⟨fd, F⟩ := T.t.def_ D_is_name_is_name (at_mem 13 rfl)
  exact fact_of F s_is_name (cfg_ok T.t (fnScB_ok s_is_name).nd (af_9 T) (am_1 T) (at_3 T) rfl rfl rfl rfl rfl) 100 [] c_is_name (fun _ _ _ _ _ _ us hl => match us, hl with | [_], _ => rfl) (fun m hm => nomatch hm)
theorem af_10 (T : Told2 ASK w K mg) : AllF P w K mg base F_10 := AllF.cons (T.defF (d := D_is_name_is_name) 13 15 rfl rfl rfl (f_D_is_name_is_name T)) (af_9 T)
theorem f_D_Cursor_need_name (T : Told2 ASK w K mg) : FnFact P w K mg base (He.fAd K D_Cursor_need_name.at_) e_Cursor_need_name := by
  obtain ⟨fd, F⟩ := T.t.def_ D_Cursor_need_name (at_mem 14 rfl)
  exact fact_of F s_Cursor_need_name (cfg_ok T.t (fnScB_ok s_Cursor_need_name).nd (af_10 T) (am_1 T) (at_3 T) rfl rfl rfl rfl rfl) 100 [] c_Cursor_need_name (fun _ _ _ _ _ _ us hl => match us, hl with | [_], _ => rfl) (fun m hm => nomatch hm)
theorem at_4 (T : Told2 ASK w K mg) : AllT P w K mg base T_4 := AllT.cons (q := ("Cursor", e_Cursor_need_name)) (T.methF (d := D_Cursor_need_name) 16 8 rfl rfl rfl (f_D_Cursor_need_name T)) (at_3 T)
theorem f_D_told_place_told_place (T : Told2 ASK w K mg) : FnFact P w K mg base (He.fAd K D_told_place_told_place.at_) e_told_place := by
  obtain ⟨fd, F⟩ := T.t.def_ D_told_place_told_place (at_mem 15 rfl)
  exact fact_of F s_told_place (cfg_ok T.t (fnScB_ok s_told_place).nd (af_10 T) (am_1 T) (at_4 T) rfl rfl rfl rfl rfl) 100 [] c_told_place (fun _ _ _ _ _ _ us hl => match us, hl with | [_], _ => rfl) (fun m hm => nomatch hm)
theorem af_11 (T : Told2 ASK w K mg) : AllF P w K mg base F_11 := AllF.cons (T.defF (d := D_told_place_told_place) 15 17 rfl rfl rfl (f_D_told_place_told_place T)) (af_10 T)
theorem f_D_Cursor_maybe (T : Told2 ASK w K mg) : FnFact P w K mg base (He.fAd K D_Cursor_maybe.at_) e_Cursor_maybe := by
  obtain ⟨fd, F⟩ := T.t.def_ D_Cursor_maybe (at_mem 16 rfl)
  exact fact_of F s_Cursor_maybe (cfg_ok T.t (fnScB_ok s_Cursor_maybe).nd (af_11 T) (am_1 T) (at_4 T) rfl rfl rfl rfl rfl) 100 [] c_Cursor_maybe (fun _ _ _ _ _ _ us hl => match us, hl with | [_, _], _ => rfl) (fun m hm => nomatch hm)
theorem at_5 (T : Told2 ASK w K mg) : AllT P w K mg base T_5 := AllT.cons (q := ("Cursor", e_Cursor_maybe)) (T.methF (d := D_Cursor_maybe) 18 8 rfl rfl rfl (f_D_Cursor_maybe T)) (at_4 T)
theorem f_D_Cursor_need (T : Told2 ASK w K mg) : FnFact P w K mg base (He.fAd K D_Cursor_need.at_) e_Cursor_need := by
  obtain ⟨fd, F⟩ := T.t.def_ D_Cursor_need (at_mem 17 rfl)
  exact fact_of F s_Cursor_need (cfg_ok T.t (fnScB_ok s_Cursor_need).nd (af_11 T) (am_1 T) (at_5 T) rfl rfl rfl rfl rfl) 100 [] c_Cursor_need (fun _ _ _ _ _ _ us hl => match us, hl with | [_, _], _ => rfl) (fun m hm => nomatch hm)
theorem at_6 (T : Told2 ASK w K mg) : AllT P w K mg base T_6 := AllT.cons (q := ("Cursor", e_Cursor_need)) (T.methF (d := D_Cursor_need) 19 8 rfl rfl rfl (f_D_Cursor_need T)) (at_5 T)
theorem f_D_common_divisor_common_divisor (T : Told2 ASK w K mg) : FnFact P w K mg base (He.fAd K D_common_divisor_common_divisor.at_) e_common_divisor := by
  obtain ⟨fd, F⟩ := T.t.def_ D_common_divisor_common_divisor (at_mem 18 rfl)
  exact fact_of F s_common_divisor (cfg_ok T.t (fnScB_ok s_common_divisor).nd (af_11 T) (am_1 T) (at_6 T) rfl rfl rfl rfl rfl) 100 [] c_common_divisor (fun _ _ _ _ _ _ us hl => match us, hl with | [_, _], _ => rfl) (fun m hm => nomatch hm)
theorem af_12 (T : Told2 ASK w K mg) : AllF P w K mg base F_12 := AllF.cons (T.defF (d := D_common_divisor_common_divisor) 18 20 rfl rfl rfl (f_D_common_divisor_common_divisor T)) (af_11 T)
theorem f_D_told_fraction_told_fraction (T : Told2 ASK w K mg) : FnFact P w K mg base (He.fAd K D_told_fraction_told_fraction.at_) e_told_fraction := by
  obtain ⟨fd, F⟩ := T.t.def_ D_told_fraction_told_fraction (at_mem 19 rfl)
  exact fact_of F s_told_fraction (cfg_ok T.t (fnScB_ok s_told_fraction).nd (af_12 T) (am_1 T) (at_6 T) rfl rfl rfl rfl rfl) 100 [] c_told_fraction (fun _ _ _ _ _ _ us hl => match us, hl with | [_], _ => rfl) (fun m hm => nomatch hm)
theorem af_13 (T : Told2 ASK w K mg) : AllF P w K mg base F_13 := AllF.cons (T.defF (d := D_told_fraction_told_fraction) 19 21 rfl rfl rfl (f_D_told_fraction_told_fraction T)) (af_12 T)
theorem f_D_told_number_told_number (T : Told2 ASK w K mg) : FnFact P w K mg base (He.fAd K D_told_number_told_number.at_) e_told_number := by
  obtain ⟨fd, F⟩ := T.t.def_ D_told_number_told_number (at_mem 20 rfl)
  exact fact_of F s_told_number (cfg_ok T.t (fnScB_ok s_told_number).nd (af_13 T) (am_1 T) (at_6 T) rfl rfl rfl rfl rfl) 100 [] c_told_number (fun _ _ _ _ _ _ us hl => match us, hl with | [_, _], _ => rfl) (fun m hm => nomatch hm)
theorem af_14 (T : Told2 ASK w K mg) : AllF P w K mg base F_14 := AllF.cons (T.defF (d := D_told_number_told_number) 20 22 rfl rfl rfl (f_D_told_number_told_number T)) (af_13 T)
theorem f_D_told_row_told_row (T : Told2 ASK w K mg) : FnFact P w K mg base (He.fAd K D_told_row_told_row.at_) e_told_row := by
  obtain ⟨fd, F⟩ := T.t.def_ D_told_row_told_row (at_mem 21 rfl)
  exact fact_of F s_told_row (cfg_ok T.t (fnScB_ok s_told_row).nd (af_14 T) (am_1 T) (at_6 T) rfl rfl rfl rfl rfl) 100 [] c_told_row (fun _ _ _ _ _ _ us hl => match us, hl with | [_, _], _ => rfl) (fun m hm => nomatch hm)
theorem af_15 (T : Told2 ASK w K mg) : AllF P w K mg base F_15 := AllF.cons (T.defF (d := D_told_row_told_row) 21 23 rfl rfl rfl (f_D_told_row_told_row T)) (af_14 T)
theorem f_D_told_row_told_row_rowtext (T : Told2 ASK w K mg) : FnFact P w K mg base (He.fAd K D_told_row_told_row_rowtext.at_) e_told_row := by
  obtain ⟨fd, F⟩ := T.t.def_ D_told_row_told_row_rowtext (at_mem 22 rfl)
  exact fact_of F s_told_row (cfg_ok T.t (fnScB_ok s_told_row).nd (af_14 T) (am_1 T) (at_6 T) rfl rfl rfl rfl rfl) 100 [] c_told_row (fun _ _ _ _ _ _ us hl => match us, hl with | [_, _], _ => rfl) (fun m hm => nomatch hm)
theorem af_16 (T : Told2 ASK w K mg) : AllF P w K mg base F_16 := AllF.cons (T.defF (d := D_told_row_told_row_rowtext) 22 24 rfl rfl rfl (f_D_told_row_told_row_rowtext T)) (af_15 T)
theorem f_D_told_table_told_table (T : Told2 ASK w K mg) : FnFact P w K mg base (He.fAd K D_told_table_told_table.at_) e_told_table := by
  obtain ⟨fd, F⟩ := T.t.def_ D_told_table_told_table (at_mem 23 rfl)
  exact fact_of F s_told_table (cfg_ok T.t (fnScB_ok s_told_table).nd (af_16 T) (am_1 T) (at_6 T) rfl rfl rfl rfl rfl) 100 [] c_told_table (fun _ _ _ _ _ _ us hl => match us, hl with | [_, _], _ => rfl) (fun m hm => nomatch hm)
theorem af_17 (T : Told2 ASK w K mg) : AllF P w K mg base F_17 := AllF.cons (T.defF (d := D_told_table_told_table) 23 25 rfl rfl rfl (f_D_told_table_told_table T)) (af_16 T)
theorem f_D_told_arrow_told_arrow (T : Told2 ASK w K mg) : FnFact P w K mg base (He.fAd K D_told_arrow_told_arrow.at_) e_told_arrow := by
  obtain ⟨fd, F⟩ := T.t.def_ D_told_arrow_told_arrow (at_mem 24 rfl)
  exact fact_of F s_told_arrow (cfg_ok T.t (fnScB_ok s_told_arrow).nd (af_17 T) (am_1 T) (at_6 T) rfl rfl rfl rfl rfl) 100 [] c_told_arrow (fun _ _ _ _ _ _ us hl => match us, hl with | [_, _], _ => rfl) (fun m hm => nomatch hm)
theorem af_18 (T : Told2 ASK w K mg) : AllF P w K mg base F_18 := AllF.cons (T.defF (d := D_told_arrow_told_arrow) 24 26 rfl rfl rfl (f_D_told_arrow_told_arrow T)) (af_17 T)
theorem f_D_told_things_told_things (T : Told2 ASK w K mg) : FnFact P w K mg base (He.fAd K D_told_things_told_things.at_) e_told_things := by
  obtain ⟨fd, F⟩ := T.t.def_ D_told_things_told_things (at_mem 25 rfl)
  exact fact_of F s_told_things (cfg_ok T.t (fnScB_ok s_told_things).nd (af_18 T) (am_1 T) (at_6 T) rfl rfl rfl rfl rfl) 100 [] c_told_things (fun _ _ _ _ _ _ us hl => match us, hl with | [_], _ => rfl) (fun m hm => nomatch hm)
theorem af_19 (T : Told2 ASK w K mg) : AllF P w K mg base F_19 := AllF.cons (T.defF (d := D_told_things_told_things) 25 27 rfl rfl rfl (f_D_told_things_told_things T)) (af_18 T)
theorem f_D_Machine_init (T : Told2 ASK w K mg) : FnFact P w K mg base (He.fAd K D_Machine_init.at_) e_Machine_init := by
  obtain ⟨fd, F⟩ := T.t.def_ D_Machine_init (at_mem 26 rfl)
  exact fact_of F s_Machine_init (cfg_ok T.t (fnScB_ok s_Machine_init).nd (af_19 T) (am_1 T) (at_6 T) rfl rfl rfl rfl rfl) 100 [] c_Machine_init (fun _ _ _ _ _ _ us hl => match us, hl with | [_, _, _, _, _], _ => rfl) (fun m hm => nomatch hm)
theorem am_2 (T : Told2 ASK w K mg) : AllM P w K mg base M_2 := AllM.cons (T.makeF (d := D_Machine_init) 28 29 rfl rfl rfl (f_D_Machine_init T)) (am_1 T)
theorem f_D_is_integer_is_integer (T : Told2 ASK w K mg) : FnFact P w K mg base (He.fAd K D_is_integer_is_integer.at_) e_is_integer := by
  obtain ⟨fd, F⟩ := T.t.def_ D_is_integer_is_integer (at_mem 27 rfl)
  exact fact_of F s_is_integer (cfg_ok T.t (fnScB_ok s_is_integer).nd (af_19 T) (am_2 T) (at_6 T) rfl rfl rfl rfl rfl) 100 [] c_is_integer (fun _ _ _ _ _ _ us hl => match us, hl with | [_], _ => rfl) (fun m hm => nomatch hm)
theorem af_20 (T : Told2 ASK w K mg) : AllF P w K mg base F_20 := AllF.cons (T.defF (d := D_is_integer_is_integer) 27 30 rfl rfl rfl (f_D_is_integer_is_integer T)) (af_19 T)
theorem f_D_is_prime_is_prime (T : Told2 ASK w K mg) : FnFact P w K mg base (He.fAd K D_is_prime_is_prime.at_) e_is_prime := by
  obtain ⟨fd, F⟩ := T.t.def_ D_is_prime_is_prime (at_mem 28 rfl)
  exact fact_of F s_is_prime (cfg_ok T.t (fnScB_ok s_is_prime).nd (af_20 T) (am_2 T) (at_6 T) rfl rfl rfl rfl rfl) 100 [] c_is_prime (fun _ _ _ _ _ _ us hl => match us, hl with | [_], _ => rfl) (fun m hm => nomatch hm)
theorem af_21 (T : Told2 ASK w K mg) : AllF P w K mg base F_21 := AllF.cons (T.defF (d := D_is_prime_is_prime) 28 31 rfl rfl rfl (f_D_is_prime_is_prime T)) (af_20 T)
theorem f_D_is_field_is_field (T : Told2 ASK w K mg) : FnFact P w K mg base (He.fAd K D_is_field_is_field.at_) e_is_field := by
  obtain ⟨fd, F⟩ := T.t.def_ D_is_field_is_field (at_mem 29 rfl)
  exact fact_of F s_is_field (cfg_ok T.t (fnScB_ok s_is_field).nd (af_21 T) (am_2 T) (at_6 T) rfl rfl rfl rfl rfl) 100 [0] c_is_field (fun _ _ _ _ _ _ us hl => match us, hl with | [_], _ => rfl) (fun m hm => by
    cases List.mem_singleton.mp hm
    exact fun _ _ _ _ _ _ us ws h1 h2 => match us, ws, h1, h2 with | [], [_], _, _ => rfl)
theorem af_22 (T : Told2 ASK w K mg) : AllF P w K mg base F_22 := AllF.cons (T.defF (d := D_is_field_is_field) 29 32 rfl rfl rfl (f_D_is_field_is_field T)) (af_21 T)
theorem f_D_is_number_is_number (T : Told2 ASK w K mg) : FnFact P w K mg base (He.fAd K D_is_number_is_number.at_) e_is_number := by
  obtain ⟨fd, F⟩ := T.t.def_ D_is_number_is_number (at_mem 30 rfl)
  exact fact_of F s_is_number (cfg_ok T.t (fnScB_ok s_is_number).nd (af_22 T) (am_2 T) (at_6 T) rfl rfl rfl rfl rfl) 100 [] c_is_number (fun _ _ _ _ _ _ us hl => match us, hl with | [_], _ => rfl) (fun m hm => nomatch hm)
theorem af_23 (T : Told2 ASK w K mg) : AllF P w K mg base F_23 := AllF.cons (T.defF (d := D_is_number_is_number) 30 33 rfl rfl rfl (f_D_is_number_is_number T)) (af_22 T)
theorem f_D_is_tuple_is_tuple (T : Told2 ASK w K mg) : FnFact P w K mg base (He.fAd K D_is_tuple_is_tuple.at_) e_is_tuple := by
  obtain ⟨fd, F⟩ := T.t.def_ D_is_tuple_is_tuple (at_mem 31 rfl)
  exact fact_of F s_is_tuple (cfg_ok T.t (fnScB_ok s_is_tuple).nd (af_23 T) (am_2 T) (at_6 T) rfl rfl rfl rfl rfl) 100 [] c_is_tuple (fun _ _ _ _ _ _ us hl => match us, hl with | [_, _], _ => rfl) (fun m hm => nomatch hm)
theorem af_24 (T : Told2 ASK w K mg) : AllF P w K mg base F_24 := AllF.cons (T.defF (d := D_is_tuple_is_tuple) 31 34 rfl rfl rfl (f_D_is_tuple_is_tuple T)) (af_23 T)
theorem f_D_is_place_is_place (T : Told2 ASK w K mg) : FnFact P w K mg base (He.fAd K D_is_place_is_place.at_) e_is_place := by
  obtain ⟨fd, F⟩ := T.t.def_ D_is_place_is_place (at_mem 32 rfl)
  exact fact_of F s_is_place (cfg_ok T.t (fnScB_ok s_is_place).nd (af_24 T) (am_2 T) (at_6 T) rfl rfl rfl rfl rfl) 100 [] c_is_place (fun _ _ _ _ _ _ us hl => match us, hl with | [_], _ => rfl) (fun m hm => nomatch hm)
theorem af_25 (T : Told2 ASK w K mg) : AllF P w K mg base F_25 := AllF.cons (T.defF (d := D_is_place_is_place) 32 35 rfl rfl rfl (f_D_is_place_is_place T)) (af_24 T)
theorem f_D_is_ascending_is_ascending (T : Told2 ASK w K mg) : FnFact P w K mg base (He.fAd K D_is_ascending_is_ascending.at_) e_is_ascending := by
  obtain ⟨fd, F⟩ := T.t.def_ D_is_ascending_is_ascending (at_mem 33 rfl)
  exact fact_of F s_is_ascending (cfg_ok T.t (fnScB_ok s_is_ascending).nd (af_25 T) (am_2 T) (at_6 T) rfl rfl rfl rfl rfl) 100 [] c_is_ascending (fun _ _ _ _ _ _ us hl => match us, hl with | [_], _ => rfl) (fun m hm => nomatch hm)
theorem af_26 (T : Told2 ASK w K mg) : AllF P w K mg base F_26 := AllF.cons (T.defF (d := D_is_ascending_is_ascending) 33 36 rfl rfl rfl (f_D_is_ascending_is_ascending T)) (af_25 T)
theorem f_D_are_places_are_places (T : Told2 ASK w K mg) : FnFact P w K mg base (He.fAd K D_are_places_are_places.at_) e_are_places := by
  obtain ⟨fd, F⟩ := T.t.def_ D_are_places_are_places (at_mem 34 rfl)
  exact fact_of F s_are_places (cfg_ok T.t (fnScB_ok s_are_places).nd (af_26 T) (am_2 T) (at_6 T) rfl rfl rfl rfl rfl) 100 [] c_are_places (fun _ _ _ _ _ _ us hl => match us, hl with | [_], _ => rfl) (fun m hm => nomatch hm)
theorem af_27 (T : Told2 ASK w K mg) : AllF P w K mg base F_27 := AllF.cons (T.defF (d := D_are_places_are_places) 34 37 rfl rfl rfl (f_D_are_places_are_places T)) (af_26 T)
theorem f_D_are_arrows_are_arrows (T : Told2 ASK w K mg) : FnFact P w K mg base (He.fAd K D_are_arrows_are_arrows.at_) e_are_arrows := by
  obtain ⟨fd, F⟩ := T.t.def_ D_are_arrows_are_arrows (at_mem 35 rfl)
  exact fact_of F s_are_arrows (cfg_ok T.t (fnScB_ok s_are_arrows).nd (af_27 T) (am_2 T) (at_6 T) rfl rfl rfl rfl rfl) 100 [] c_are_arrows (fun _ _ _ _ _ _ us hl => match us, hl with | [_], _ => rfl) (fun m hm => nomatch hm)
theorem af_28 (T : Told2 ASK w K mg) : AllF P w K mg base F_28 := AllF.cons (T.defF (d := D_are_arrows_are_arrows) 35 38 rfl rfl rfl (f_D_are_arrows_are_arrows T)) (af_27 T)
theorem f_D_is_fraction_is_fraction (T : Told2 ASK w K mg) : FnFact P w K mg base (He.fAd K D_is_fraction_is_fraction.at_) e_is_fraction := by
  obtain ⟨fd, F⟩ := T.t.def_ D_is_fraction_is_fraction (at_mem 36 rfl)
  exact fact_of F s_is_fraction (cfg_ok T.t (fnScB_ok s_is_fraction).nd (af_28 T) (am_2 T) (at_6 T) rfl rfl rfl rfl rfl) 100 [] c_is_fraction (fun _ _ _ _ _ _ us hl => match us, hl with | [_], _ => rfl) (fun m hm => nomatch hm)
theorem af_29 (T : Told2 ASK w K mg) : AllF P w K mg base F_29 := AllF.cons (T.defF (d := D_is_fraction_is_fraction) 36 39 rfl rfl rfl (f_D_is_fraction_is_fraction T)) (af_28 T)
theorem f_D_is_number_of_is_number_of (T : Told2 ASK w K mg) : FnFact P w K mg base (He.fAd K D_is_number_of_is_number_of.at_) e_is_number_of := by
  obtain ⟨fd, F⟩ := T.t.def_ D_is_number_of_is_number_of (at_mem 37 rfl)
  exact fact_of F s_is_number_of (cfg_ok T.t (fnScB_ok s_is_number_of).nd (af_29 T) (am_2 T) (at_6 T) rfl rfl rfl rfl rfl) 100 [0] c_is_number_of (fun _ _ _ _ _ _ us hl => match us, hl with | [_, _], _ => rfl) (fun m hm => by
    cases List.mem_singleton.mp hm
    exact fun _ _ _ _ _ _ us ws h1 h2 => match us, ws, h1, h2 with | [], [_, _], _, _ => rfl)
theorem af_30 (T : Told2 ASK w K mg) : AllF P w K mg base F_30 := AllF.cons (T.defF (d := D_is_number_of_is_number_of) 37 40 rfl rfl rfl (f_D_is_number_of_is_number_of T)) (af_29 T)
theorem f_D_is_number_row_of_is_number_row_of (T : Told2 ASK w K mg) : FnFact P w K mg base (He.fAd K D_is_number_row_of_is_number_row_of.at_) e_is_number_row_of := by
  obtain ⟨fd, F⟩ := T.t.def_ D_is_number_row_of_is_number_row_of (at_mem 38 rfl)
  exact fact_of F s_is_number_row_of (cfg_ok T.t (fnScB_ok s_is_number_row_of).nd (af_30 T) (am_2 T) (at_6 T) rfl rfl rfl rfl rfl) 100 [] c_is_number_row_of (fun _ _ _ _ _ _ us hl => match us, hl with | [_, _, _], _ => rfl) (fun m hm => nomatch hm)
theorem af_31 (T : Told2 ASK w K mg) : AllF P w K mg base F_31 := AllF.cons (T.defF (d := D_is_number_row_of_is_number_row_of) 38 41 rfl rfl rfl (f_D_is_number_row_of_is_number_row_of T)) (af_30 T)
theorem f_D_is_table_of_is_table_of (T : Told2 ASK w K mg) : FnFact P w K mg base (He.fAd K D_is_table_of_is_table_of.at_) e_is_table_of := by
  obtain ⟨fd, F⟩ := T.t.def_ D_is_table_of_is_table_of (at_mem 39 rfl)
  exact fact_of F s_is_table_of (cfg_ok T.t (fnScB_ok s_is_table_of).nd (af_31 T) (am_2 T) (at_6 T) rfl rfl rfl rfl rfl) 100 [] c_is_table_of (fun _ _ _ _ _ _ us hl => match us, hl with | [_, _, _, _], _ => rfl) (fun m hm => nomatch hm)
theorem af_32 (T : Told2 ASK w K mg) : AllF P w K mg base F_32 := AllF.cons (T.defF (d := D_is_table_of_is_table_of) 39 42 rfl rfl rfl (f_D_is_table_of_is_table_of T)) (af_31 T)
theorem f_D_is_arrow_is_arrow (T : Told2 ASK w K mg) : FnFact P w K mg base (He.fAd K D_is_arrow_is_arrow.at_) e_is_arrow := by
  obtain ⟨fd, F⟩ := T.t.def_ D_is_arrow_is_arrow (at_mem 40 rfl)
  exact fact_of F s_is_arrow (cfg_ok T.t (fnScB_ok s_is_arrow).nd (af_32 T) (am_2 T) (at_6 T) rfl rfl rfl rfl rfl) 100 [] c_is_arrow (fun _ _ _ _ _ _ us hl => match us, hl with | [_, _, _], _ => rfl) (fun m hm => nomatch hm)
theorem af_33 (T : Told2 ASK w K mg) : AllF P w K mg base F_33 := AllF.cons (T.defF (d := D_is_arrow_is_arrow) 40 43 rfl rfl rfl (f_D_is_arrow_is_arrow T)) (af_32 T)
theorem f_D_machine_fault_machine_fault (T : Told2 ASK w K mg) : FnFact P w K mg base (He.fAd K D_machine_fault_machine_fault.at_) e_machine_fault := by
  obtain ⟨fd, F⟩ := T.t.def_ D_machine_fault_machine_fault (at_mem 41 rfl)
  exact fact_of F s_machine_fault (cfg_ok T.t (fnScB_ok s_machine_fault).nd (af_33 T) (am_2 T) (at_6 T) rfl rfl rfl rfl rfl) 100 [] c_machine_fault (fun _ _ _ _ _ _ us hl => match us, hl with | [_], _ => rfl) (fun m hm => nomatch hm)
theorem af_34 (T : Told2 ASK w K mg) : AllF P w K mg base F_34 := AllF.cons (T.defF (d := D_machine_fault_machine_fault) 41 44 rfl rfl rfl (f_D_machine_fault_machine_fault T)) (af_33 T)
theorem f_D_need_machine_need_machine (T : Told2 ASK w K mg) : FnFact P w K mg base (He.fAd K D_need_machine_need_machine.at_) e_need_machine := by
  obtain ⟨fd, F⟩ := T.t.def_ D_need_machine_need_machine (at_mem 42 rfl)
  exact fact_of F s_need_machine (cfg_ok T.t (fnScB_ok s_need_machine).nd (af_34 T) (am_2 T) (at_6 T) rfl rfl rfl rfl rfl) 100 [] c_need_machine (fun _ _ _ _ _ _ us hl => match us, hl with | [_], _ => rfl) (fun m hm => nomatch hm)
theorem af_35 (T : Told2 ASK w K mg) : AllF P w K mg base F_35 := AllF.cons (T.defF (d := D_need_machine_need_machine) 42 45 rfl rfl rfl (f_D_need_machine_need_machine T)) (af_34 T)
theorem f_D_read_machine_read_machine (T : Told2 ASK w K mg) : FnFact P w K mg base (He.fAd K D_read_machine_read_machine.at_) e_read_machine := by
  obtain ⟨fd, F⟩ := T.t.def_ D_read_machine_read_machine (at_mem 43 rfl)
  exact fact_of F s_read_machine (cfg_ok T.t (fnScB_ok s_read_machine).nd (af_35 T) (am_2 T) (at_6 T) rfl rfl rfl rfl rfl) 100 [] c_read_machine (fun _ _ _ _ _ _ us hl => match us, hl with | [_], _ => rfl) (fun m hm => nomatch hm)
theorem af_36 (T : Told2 ASK w K mg) : AllF P w K mg base F_36 := AllF.cons (T.defF (d := D_read_machine_read_machine) 43 46 rfl rfl rfl (f_D_read_machine_read_machine T)) (af_35 T)
theorem f_D__law_any__law_any (T : Told2 ASK w K mg) : FnFact P w K mg base (He.fAd K D__law_any__law_any.at_) e__law_any := by
  obtain ⟨fd, F⟩ := T.t.def_ D__law_any__law_any (at_mem 44 rfl)
  exact fact_of F s__law_any (cfg_ok T.t (fnScB_ok s__law_any).nd (af_36 T) (am_2 T) (at_6 T) rfl rfl rfl rfl rfl) 100 [] c__law_any (fun _ _ _ _ _ _ us hl => match us, hl with | [_, _], _ => rfl) (fun m hm => nomatch hm)
theorem af_37 (T : Told2 ASK w K mg) : AllF P w K mg base F_37 := AllF.cons (T.defF (d := D__law_any__law_any) 44 47 rfl rfl rfl (f_D__law_any__law_any T)) (af_36 T)
theorem f_D_Start_init (T : Told2 ASK w K mg) : FnFact P w K mg base (He.fAd K D_Start_init.at_) e_Start_init := by
  obtain ⟨fd, F⟩ := T.t.def_ D_Start_init (at_mem 45 rfl)
  exact fact_of F s_Start_init (cfg_ok T.t (fnScB_ok s_Start_init).nd (af_37 T) (am_2 T) (at_6 T) rfl rfl rfl rfl rfl) 100 [] c_Start_init (fun _ _ _ _ _ _ us hl => match us, hl with | [_, _, _], _ => rfl) (fun m hm => nomatch hm)
theorem am_3 (T : Told2 ASK w K mg) : AllM P w K mg base M_3 := AllM.cons (T.makeF (d := D_Start_init) 48 49 rfl rfl rfl (f_D_Start_init T)) (am_2 T)
theorem f_D_Answer_init (T : Told2 ASK w K mg) : FnFact P w K mg base (He.fAd K D_Answer_init.at_) e_Answer_init := by
  obtain ⟨fd, F⟩ := T.t.def_ D_Answer_init (at_mem 46 rfl)
  exact fact_of F s_Answer_init (cfg_ok T.t (fnScB_ok s_Answer_init).nd (af_37 T) (am_3 T) (at_6 T) rfl rfl rfl rfl rfl) 100 [] c_Answer_init (fun _ _ _ _ _ _ us hl => match us, hl with | [_, _, _], _ => rfl) (fun m hm => nomatch hm)
theorem am_4 (T : Told2 ASK w K mg) : AllM P w K mg base M_4 := AllM.cons (T.makeF (d := D_Answer_init) 50 51 rfl rfl rfl (f_D_Answer_init T)) (am_3 T)
theorem f_D__law_strange__law_strange (T : Told2 ASK w K mg) : FnFact P w K mg base (He.fAd K D__law_strange__law_strange.at_) e__law_strange := by
  obtain ⟨fd, F⟩ := T.t.def_ D__law_strange__law_strange (at_mem 47 rfl)
  exact fact_of F s__law_strange (cfg_ok T.t (fnScB_ok s__law_strange).nd (af_37 T) (am_4 T) (at_6 T) rfl rfl rfl rfl rfl) 100 [] c__law_strange (fun _ _ _ _ _ _ us hl => match us, hl with | [_], _ => rfl) (fun m hm => nomatch hm)
theorem af_38 (T : Told2 ASK w K mg) : AllF P w K mg base F_38 := AllF.cons (T.defF (d := D__law_strange__law_strange) 47 52 rfl rfl rfl (f_D__law_strange__law_strange T)) (af_37 T)
theorem f_D_is_row_of_is_row_of (T : Told2 ASK w K mg) : FnFact P w K mg base (He.fAd K D_is_row_of_is_row_of.at_) e_is_row_of := by
  obtain ⟨fd, F⟩ := T.t.def_ D_is_row_of_is_row_of (at_mem 48 rfl)
  exact fact_of F s_is_row_of (cfg_ok T.t (fnScB_ok s_is_row_of).nd (af_38 T) (am_4 T) (at_6 T) rfl rfl rfl rfl rfl) 100 [] c_is_row_of (fun _ _ _ _ _ _ us hl => match us, hl with | [_, _, _], _ => rfl) (fun m hm => nomatch hm)
theorem af_39 (T : Told2 ASK w K mg) : AllF P w K mg base F_39 := AllF.cons (T.defF (d := D_is_row_of_is_row_of) 48 53 rfl rfl rfl (f_D_is_row_of_is_row_of T)) (af_38 T)
theorem f_D_is_zero_is_zero (T : Told2 ASK w K mg) : FnFact P w K mg base (He.fAd K D_is_zero_is_zero.at_) e_is_zero := by
  obtain ⟨fd, F⟩ := T.t.def_ D_is_zero_is_zero (at_mem 49 rfl)
  exact fact_of F s_is_zero (cfg_ok T.t (fnScB_ok s_is_zero).nd (af_39 T) (am_4 T) (at_6 T) rfl rfl rfl rfl rfl) 100 [] c_is_zero (fun _ _ _ _ _ _ us hl => match us, hl with | [_, _], _ => rfl) (fun m hm => nomatch hm)
theorem af_40 (T : Told2 ASK w K mg) : AllF P w K mg base F_40 := AllF.cons (T.defF (d := D_is_zero_is_zero) 49 54 rfl rfl rfl (f_D_is_zero_is_zero T)) (af_39 T)
theorem f_D_head_of_head_of (T : Told2 ASK w K mg) : FnFact P w K mg base (He.fAd K D_head_of_head_of.at_) e_head_of := by
  obtain ⟨fd, F⟩ := T.t.def_ D_head_of_head_of (at_mem 50 rfl)
  exact fact_of F s_head_of (cfg_ok T.t (fnScB_ok s_head_of).nd (af_40 T) (am_4 T) (at_6 T) rfl rfl rfl rfl rfl) 100 [] c_head_of (fun _ _ _ _ _ _ us hl => match us, hl with | [_, _], _ => rfl) (fun m hm => nomatch hm)
theorem af_41 (T : Told2 ASK w K mg) : AllF P w K mg base F_41 := AllF.cons (T.defF (d := D_head_of_head_of) 50 55 rfl rfl rfl (f_D_head_of_head_of T)) (af_40 T)
theorem f_D_one_of_one_of (T : Told2 ASK w K mg) : FnFact P w K mg base (He.fAd K D_one_of_one_of.at_) e_one_of := by
  obtain ⟨fd, F⟩ := T.t.def_ D_one_of_one_of (at_mem 51 rfl)
  exact fact_of F s_one_of (cfg_ok T.t (fnScB_ok s_one_of).nd (af_41 T) (am_4 T) (at_6 T) rfl rfl rfl rfl rfl) 100 [] c_one_of (fun _ _ _ _ _ _ us hl => match us, hl with | [_], _ => rfl) (fun m hm => nomatch hm)
theorem af_42 (T : Told2 ASK w K mg) : AllF P w K mg base F_42 := AllF.cons (T.defF (d := D_one_of_one_of) 51 56 rfl rfl rfl (f_D_one_of_one_of T)) (af_41 T)
theorem f_D_are_heads_right_are_heads_right (T : Told2 ASK w K mg) : FnFact P w K mg base (He.fAd K D_are_heads_right_are_heads_right.at_) e_are_heads_right := by
  obtain ⟨fd, F⟩ := T.t.def_ D_are_heads_right_are_heads_right (at_mem 52 rfl)
  exact fact_of F s_are_heads_right (cfg_ok T.t (fnScB_ok s_are_heads_right).nd (af_42 T) (am_4 T) (at_6 T) rfl rfl rfl rfl rfl) 100 [] c_are_heads_right (fun _ _ _ _ _ _ us hl => match us, hl with | [_, _, _], _ => rfl) (fun m hm => nomatch hm)
theorem af_43 (T : Told2 ASK w K mg) : AllF P w K mg base F_43 := AllF.cons (T.defF (d := D_are_heads_right_are_heads_right) 52 57 rfl rfl rfl (f_D_are_heads_right_are_heads_right T)) (af_42 T)
theorem f_D_is_room_is_room (T : Told2 ASK w K mg) : FnFact P w K mg base (He.fAd K D_is_room_is_room.at_) e_is_room := by
  obtain ⟨fd, F⟩ := T.t.def_ D_is_room_is_room (at_mem 53 rfl)
  exact fact_of F s_is_room (cfg_ok T.t (fnScB_ok s_is_room).nd (af_43 T) (am_4 T) (at_6 T) rfl rfl rfl rfl rfl) 100 [0] c_is_room (fun _ _ _ _ _ _ us hl => match us, hl with | [_, _, _], _ => rfl) (fun m hm => by
    cases List.mem_singleton.mp hm
    exact fun _ _ _ _ _ _ us ws h1 h2 => match us, ws, h1, h2 with | [], [_, _, _], _, _ => rfl)
theorem af_44 (T : Told2 ASK w K mg) : AllF P w K mg base F_44 := AllF.cons (T.defF (d := D_is_room_is_room) 53 58 rfl rfl rfl (f_D_is_room_is_room T)) (af_43 T)
theorem f_D_arrows_by_name_arrows_by_name (T : Told2 ASK w K mg) : FnFact P w K mg base (He.fAd K D_arrows_by_name_arrows_by_name.at_) e_arrows_by_name := by
  obtain ⟨fd, F⟩ := T.t.def_ D_arrows_by_name_arrows_by_name (at_mem 54 rfl)
  exact fact_of F s_arrows_by_name (cfg_ok T.t (fnScB_ok s_arrows_by_name).nd (af_44 T) (am_4 T) (at_6 T) rfl rfl rfl rfl rfl) 100 [] c_arrows_by_name (fun _ _ _ _ _ _ us hl => match us, hl with | [_], _ => rfl) (fun m hm => nomatch hm)
theorem af_45 (T : Told2 ASK w K mg) : AllF P w K mg base F_45 := AllF.cons (T.defF (d := D_arrows_by_name_arrows_by_name) 54 59 rfl rfl rfl (f_D_arrows_by_name_arrows_by_name T)) (af_44 T)
theorem f_D_is_way_is_way (T : Told2 ASK w K mg) : FnFact P w K mg base (He.fAd K D_is_way_is_way.at_) e_is_way := by
  obtain ⟨fd, F⟩ := T.t.def_ D_is_way_is_way (at_mem 55 rfl)
  exact fact_of F s_is_way (cfg_ok T.t (fnScB_ok s_is_way).nd (af_45 T) (am_4 T) (at_6 T) rfl rfl rfl rfl rfl) 100 [0] c_is_way (fun _ _ _ _ _ _ us hl => match us, hl with | [_, _, _], _ => rfl) (fun m hm => by
    cases List.mem_singleton.mp hm
    exact fun _ _ _ _ _ _ us ws h1 h2 => match us, ws, h1, h2 with | [], [_, _, _], _, _ => rfl)
theorem af_46 (T : Told2 ASK w K mg) : AllF P w K mg base F_46 := AllF.cons (T.defF (d := D_is_way_is_way) 55 60 rfl rfl rfl (f_D_is_way_is_way T)) (af_45 T)
theorem f_D_is_tuple_of_is_tuple_of (T : Told2 ASK w K mg) : FnFact P w K mg base (He.fAd K D_is_tuple_of_is_tuple_of.at_) e_is_tuple_of := by
  obtain ⟨fd, F⟩ := T.t.def_ D_is_tuple_of_is_tuple_of (at_mem 56 rfl)
  exact fact_of F s_is_tuple_of (cfg_ok T.t (fnScB_ok s_is_tuple_of).nd (af_46 T) (am_4 T) (at_6 T) rfl rfl rfl rfl rfl) 100 [] c_is_tuple_of (fun _ _ _ _ _ _ us hl => match us, hl with | [_, _], _ => rfl) (fun m hm => nomatch hm)
theorem af_47 (T : Told2 ASK w K mg) : AllF P w K mg base F_47 := AllF.cons (T.defF (d := D_is_tuple_of_is_tuple_of) 56 61 rfl rfl rfl (f_D_is_tuple_of_is_tuple_of T)) (af_46 T)
theorem f_D_is_level_is_level (T : Told2 ASK w K mg) : FnFact P w K mg base (He.fAd K D_is_level_is_level.at_) e_is_level := by
  obtain ⟨fd, F⟩ := T.t.def_ D_is_level_is_level (at_mem 57 rfl)
  exact fact_of F s_is_level (cfg_ok T.t (fnScB_ok s_is_level).nd (af_47 T) (am_4 T) (at_6 T) rfl rfl rfl rfl rfl) 100 [] c_is_level (fun _ _ _ _ _ _ us hl => match us, hl with | [_, _], _ => rfl) (fun m hm => nomatch hm)
theorem af_48 (T : Told2 ASK w K mg) : AllF P w K mg base F_48 := AllF.cons (T.defF (d := D_is_level_is_level) 57 62 rfl rfl rfl (f_D_is_level_is_level T)) (af_47 T)
theorem f_D_zero_of_zero_of (T : Told2 ASK w K mg) : FnFact P w K mg base (He.fAd K D_zero_of_zero_of.at_) e_zero_of := by
  obtain ⟨fd, F⟩ := T.t.def_ D_zero_of_zero_of (at_mem 58 rfl)
  exact fact_of F s_zero_of (cfg_ok T.t (fnScB_ok s_zero_of).nd (af_48 T) (am_4 T) (at_6 T) rfl rfl rfl rfl rfl) 100 [] c_zero_of (fun _ _ _ _ _ _ us hl => match us, hl with | [_], _ => rfl) (fun m hm => nomatch hm)
theorem af_49 (T : Told2 ASK w K mg) : AllF P w K mg base F_49 := AllF.cons (T.defF (d := D_zero_of_zero_of) 58 63 rfl rfl rfl (f_D_zero_of_zero_of T)) (af_48 T)
theorem f_D_no_row_no_row (T : Told2 ASK w K mg) : FnFact P w K mg base (He.fAd K D_no_row_no_row.at_) e_no_row := by
  obtain ⟨fd, F⟩ := T.t.def_ D_no_row_no_row (at_mem 59 rfl)
  exact fact_of F s_no_row (cfg_ok T.t (fnScB_ok s_no_row).nd (af_49 T) (am_4 T) (at_6 T) rfl rfl rfl rfl rfl) 100 [] c_no_row (fun _ _ _ _ _ _ us hl => match us, hl with | [_, _], _ => rfl) (fun m hm => nomatch hm)
theorem af_50 (T : Told2 ASK w K mg) : AllF P w K mg base F_50 := AllF.cons (T.defF (d := D_no_row_no_row) 59 64 rfl rfl rfl (f_D_no_row_no_row T)) (af_49 T)
theorem f_D_unit_row_unit_row (T : Told2 ASK w K mg) : FnFact P w K mg base (He.fAd K D_unit_row_unit_row.at_) e_unit_row := by
  obtain ⟨fd, F⟩ := T.t.def_ D_unit_row_unit_row (at_mem 60 rfl)
  exact fact_of F s_unit_row (cfg_ok T.t (fnScB_ok s_unit_row).nd (af_50 T) (am_4 T) (at_6 T) rfl rfl rfl rfl rfl) 100 [] c_unit_row (fun _ _ _ _ _ _ us hl => match us, hl with | [_, _, _], _ => rfl) (fun m hm => nomatch hm)
theorem af_51 (T : Told2 ASK w K mg) : AllF P w K mg base F_51 := AllF.cons (T.defF (d := D_unit_row_unit_row) 60 65 rfl rfl rfl (f_D_unit_row_unit_row T)) (af_50 T)
theorem f_D_whole_room_whole_room (T : Told2 ASK w K mg) : FnFact P w K mg base (He.fAd K D_whole_room_whole_room.at_) e_whole_room := by
  obtain ⟨fd, F⟩ := T.t.def_ D_whole_room_whole_room (at_mem 61 rfl)
  exact fact_of F s_whole_room (cfg_ok T.t (fnScB_ok s_whole_room).nd (af_51 T) (am_4 T) (at_6 T) rfl rfl rfl rfl rfl) 100 [] c_whole_room (fun _ _ _ _ _ _ us hl => match us, hl with | [_, _], _ => rfl) (fun m hm => nomatch hm)
theorem af_52 (T : Told2 ASK w K mg) : AllF P w K mg base F_52 := AllF.cons (T.defF (d := D_whole_room_whole_room) 61 66 rfl rfl rfl (f_D_whole_room_whole_room T)) (af_51 T)
theorem f_D_whole_rooms_whole_rooms (T : Told2 ASK w K mg) : FnFact P w K mg base (He.fAd K D_whole_rooms_whole_rooms.at_) e_whole_rooms := by
  obtain ⟨fd, F⟩ := T.t.def_ D_whole_rooms_whole_rooms (at_mem 62 rfl)
  exact fact_of F s_whole_rooms (cfg_ok T.t (fnScB_ok s_whole_rooms).nd (af_52 T) (am_4 T) (at_6 T) rfl rfl rfl rfl rfl) 100 [] c_whole_rooms (fun _ _ _ _ _ _ us hl => match us, hl with | [_], _ => rfl) (fun m hm => nomatch hm)
theorem af_53 (T : Told2 ASK w K mg) : AllF P w K mg base F_53 := AllF.cons (T.defF (d := D_whole_rooms_whole_rooms) 62 67 rfl rfl rfl (f_D_whole_rooms_whole_rooms T)) (af_52 T)
theorem f_D_columns_of_columns_of (T : Told2 ASK w K mg) : FnFact P w K mg base (He.fAd K D_columns_of_columns_of.at_) e_columns_of := by
  obtain ⟨fd, F⟩ := T.t.def_ D_columns_of_columns_of (at_mem 63 rfl)
  exact fact_of F s_columns_of (cfg_ok T.t (fnScB_ok s_columns_of).nd (af_53 T) (am_4 T) (at_6 T) rfl rfl rfl rfl rfl) 100 [] c_columns_of (fun _ _ _ _ _ _ us hl => match us, hl with | [_], _ => rfl) (fun m hm => nomatch hm)
theorem af_54 (T : Told2 ASK w K mg) : AllF P w K mg base F_54 := AllF.cons (T.defF (d := D_columns_of_columns_of) 63 68 rfl rfl rfl (f_D_columns_of_columns_of T)) (af_53 T)
theorem f_D_fraction_fraction (T : Told2 ASK w K mg) : FnFact P w K mg base (He.fAd K D_fraction_fraction.at_) e_fraction := by
  obtain ⟨fd, F⟩ := T.t.def_ D_fraction_fraction (at_mem 64 rfl)
  exact fact_of F s_fraction (cfg_ok T.t (fnScB_ok s_fraction).nd (af_54 T) (am_4 T) (at_6 T) rfl rfl rfl rfl rfl) 100 [] c_fraction (fun _ _ _ _ _ _ us hl => match us, hl with | [_, _], _ => rfl) (fun m hm => nomatch hm)
theorem af_55 (T : Told2 ASK w K mg) : AllF P w K mg base F_55 := AllF.cons (T.defF (d := D_fraction_fraction) 64 69 rfl rfl rfl (f_D_fraction_fraction T)) (af_54 T)
theorem f_D_times_times (T : Told2 ASK w K mg) : FnFact P w K mg base (He.fAd K D_times_times.at_) e_times := by
  obtain ⟨fd, F⟩ := T.t.def_ D_times_times (at_mem 65 rfl)
  exact fact_of F s_times (cfg_ok T.t (fnScB_ok s_times).nd (af_55 T) (am_4 T) (at_6 T) rfl rfl rfl rfl rfl) 100 [] c_times (fun _ _ _ _ _ _ us hl => match us, hl with | [_, _, _], _ => rfl) (fun m hm => nomatch hm)
theorem af_56 (T : Told2 ASK w K mg) : AllF P w K mg base F_56 := AllF.cons (T.defF (d := D_times_times) 65 70 rfl rfl rfl (f_D_times_times T)) (af_55 T)
theorem f_D_without_divisor_without_divisor (T : Told2 ASK w K mg) : FnFact P w K mg base (He.fAd K D_without_divisor_without_divisor.at_) e_without_divisor := by
  obtain ⟨fd, F⟩ := T.t.def_ D_without_divisor_without_divisor (at_mem 66 rfl)
  exact fact_of F s_without_divisor (cfg_ok T.t (fnScB_ok s_without_divisor).nd (af_56 T) (am_4 T) (at_6 T) rfl rfl rfl rfl rfl) 100 [] c_without_divisor (fun _ _ _ _ _ _ us hl => match us, hl with | [_], _ => rfl) (fun m hm => nomatch hm)
theorem af_57 (T : Told2 ASK w K mg) : AllF P w K mg base F_57 := AllF.cons (T.defF (d := D_without_divisor_without_divisor) 66 71 rfl rfl rfl (f_D_without_divisor_without_divisor T)) (af_56 T)
theorem f_D_cleared_cleared (T : Told2 ASK w K mg) : FnFact P w K mg base (He.fAd K D_cleared_cleared.at_) e_cleared := by
  obtain ⟨fd, F⟩ := T.t.def_ D_cleared_cleared (at_mem 67 rfl)
  exact fact_of F s_cleared (cfg_ok T.t (fnScB_ok s_cleared).nd (af_57 T) (am_4 T) (at_6 T) rfl rfl rfl rfl rfl) 100 [] c_cleared (fun _ _ _ _ _ _ us hl => match us, hl with | [_, _, _, _], _ => rfl) (fun m hm => nomatch hm)
theorem af_58 (T : Told2 ASK w K mg) : AllF P w K mg base F_58 := AllF.cons (T.defF (d := D_cleared_cleared) 67 72 rfl rfl rfl (f_D_cleared_cleared T)) (af_57 T)
theorem f_D_first_place_first_place (T : Told2 ASK w K mg) : FnFact P w K mg base (He.fAd K D_first_place_first_place.at_) e_first_place := by
  obtain ⟨fd, F⟩ := T.t.def_ D_first_place_first_place (at_mem 68 rfl)
  exact fact_of F s_first_place (cfg_ok T.t (fnScB_ok s_first_place).nd (af_58 T) (am_4 T) (at_6 T) rfl rfl rfl rfl rfl) 100 [] c_first_place (fun _ _ _ _ _ _ us hl => match us, hl with | [_], _ => rfl) (fun m hm => nomatch hm)
theorem af_59 (T : Told2 ASK w K mg) : AllF P w K mg base F_59 := AllF.cons (T.defF (d := D_first_place_first_place) 68 73 rfl rfl rfl (f_D_first_place_first_place T)) (af_58 T)
theorem f_D_power_of_power_of (T : Told2 ASK w K mg) : FnFact P w K mg base (He.fAd K D_power_of_power_of.at_) e_power_of := by
  obtain ⟨fd, F⟩ := T.t.def_ D_power_of_power_of (at_mem 69 rfl)
  exact fact_of F s_power_of (cfg_ok T.t (fnScB_ok s_power_of).nd (af_59 T) (am_4 T) (at_6 T) rfl rfl rfl rfl rfl) 100 [] c_power_of (fun _ _ _ _ _ _ us hl => match us, hl with | [_, _, _], _ => rfl) (fun m hm => nomatch hm)
theorem af_60 (T : Told2 ASK w K mg) : AllF P w K mg base F_60 := AllF.cons (T.defF (d := D_power_of_power_of) 69 74 rfl rfl rfl (f_D_power_of_power_of T)) (af_59 T)
theorem f_D_inverse_inverse (T : Told2 ASK w K mg) : FnFact P w K mg base (He.fAd K D_inverse_inverse.at_) e_inverse := by
  obtain ⟨fd, F⟩ := T.t.def_ D_inverse_inverse (at_mem 70 rfl)
  exact fact_of F s_inverse (cfg_ok T.t (fnScB_ok s_inverse).nd (af_60 T) (am_4 T) (at_6 T) rfl rfl rfl rfl rfl) 100 [] c_inverse (fun _ _ _ _ _ _ us hl => match us, hl with | [_, _], _ => rfl) (fun m hm => nomatch hm)
theorem af_61 (T : Told2 ASK w K mg) : AllF P w K mg base F_61 := AllF.cons (T.defF (d := D_inverse_inverse) 70 75 rfl rfl rfl (f_D_inverse_inverse T)) (af_60 T)
theorem f_D_with_head_with_head (T : Told2 ASK w K mg) : FnFact P w K mg base (He.fAd K D_with_head_with_head.at_) e_with_head := by
  obtain ⟨fd, F⟩ := T.t.def_ D_with_head_with_head (at_mem 71 rfl)
  exact fact_of F s_with_head (cfg_ok T.t (fnScB_ok s_with_head).nd (af_61 T) (am_4 T) (at_6 T) rfl rfl rfl rfl rfl) 100 [] c_with_head (fun _ _ _ _ _ _ us hl => match us, hl with | [_, _, _], _ => rfl) (fun m hm => nomatch hm)
theorem af_62 (T : Told2 ASK w K mg) : AllF P w K mg base F_62 := AllF.cons (T.defF (d := D_with_head_with_head) 71 76 rfl rfl rfl (f_D_with_head_with_head T)) (af_61 T)
theorem f_D_with_more_with_more (T : Told2 ASK w K mg) : FnFact P w K mg base (He.fAd K D_with_more_with_more.at_) e_with_more := by
  obtain ⟨fd, F⟩ := T.t.def_ D_with_more_with_more (at_mem 72 rfl)
  exact fact_of F s_with_more (cfg_ok T.t (fnScB_ok s_with_more).nd (af_62 T) (am_4 T) (at_6 T) rfl rfl rfl rfl rfl) 100 [] c_with_more (fun _ _ _ _ _ _ us hl => match us, hl with | [_, _, _], _ => rfl) (fun m hm => nomatch hm)
theorem af_63 (T : Told2 ASK w K mg) : AllF P w K mg base F_63 := AllF.cons (T.defF (d := D_with_more_with_more) 72 77 rfl rfl rfl (f_D_with_more_with_more T)) (af_62 T)
theorem f_D_whole_numbers_whole_numbers (T : Told2 ASK w K mg) : FnFact P w K mg base (He.fAd K D_whole_numbers_whole_numbers.at_) e_whole_numbers := by
  obtain ⟨fd, F⟩ := T.t.def_ D_whole_numbers_whole_numbers (at_mem 73 rfl)
  exact fact_of F s_whole_numbers (cfg_ok T.t (fnScB_ok s_whole_numbers).nd (af_63 T) (am_4 T) (at_6 T) rfl rfl rfl rfl rfl) 100 [] c_whole_numbers (fun _ _ _ _ _ _ us hl => match us, hl with | [_], _ => rfl) (fun m hm => nomatch hm)
theorem af_64 (T : Told2 ASK w K mg) : AllF P w K mg base F_64 := AllF.cons (T.defF (d := D_whole_numbers_whole_numbers) 73 78 rfl rfl rfl (f_D_whole_numbers_whole_numbers T)) (af_63 T)
theorem f_D_begun_begun (T : Told2 ASK w K mg) : FnFact P w K mg base (He.fAd K D_begun_begun.at_) e_begun := by
  obtain ⟨fd, F⟩ := T.t.def_ D_begun_begun (at_mem 74 rfl)
  exact fact_of F s_begun (cfg_ok T.t (fnScB_ok s_begun).nd (af_64 T) (am_4 T) (at_6 T) rfl rfl rfl rfl rfl) 100 [] c_begun (fun _ _ _ _ _ _ us hl => match us, hl with | [_, _], _ => rfl) (fun m hm => nomatch hm)
theorem af_65 (T : Told2 ASK w K mg) : AllF P w K mg base F_65 := AllF.cons (T.defF (d := D_begun_begun) 74 79 rfl rfl rfl (f_D_begun_begun T)) (af_64 T)
theorem f_D_cleared_above_cleared_above (T : Told2 ASK w K mg) : FnFact P w K mg base (He.fAd K D_cleared_above_cleared_above.at_) e_cleared_above := by
  obtain ⟨fd, F⟩ := T.t.def_ D_cleared_above_cleared_above (at_mem 75 rfl)
  exact fact_of F s_cleared_above (cfg_ok T.t (fnScB_ok s_cleared_above).nd (af_65 T) (am_4 T) (at_6 T) rfl rfl rfl rfl rfl) 100 [] c_cleared_above (fun _ _ _ _ _ _ us hl => match us, hl with | [_, _], _ => rfl) (fun m hm => nomatch hm)
theorem af_66 (T : Told2 ASK w K mg) : AllF P w K mg base F_66 := AllF.cons (T.defF (d := D_cleared_above_cleared_above) 75 80 rfl rfl rfl (f_D_cleared_above_cleared_above T)) (af_65 T)
theorem f_D_told_row_echelon_told_row_echelon (T : Told2 ASK w K mg) : FnFact P w K mg base (He.fAd K D_told_row_echelon_told_row_echelon.at_) e_told_row_echelon := by
  obtain ⟨fd, F⟩ := T.t.def_ D_told_row_echelon_told_row_echelon (at_mem 76 rfl)
  exact fact_of F s_told_row_echelon (cfg_ok T.t (fnScB_ok s_told_row_echelon).nd (af_66 T) (am_4 T) (at_6 T) rfl rfl rfl rfl rfl) 100 [] c_told_row_echelon (fun _ _ _ _ _ _ us hl => match us, hl with | [_, _, _], _ => rfl) (fun m hm => nomatch hm)
theorem af_67 (T : Told2 ASK w K mg) : AllF P w K mg base F_67 := AllF.cons (T.defF (d := D_told_row_echelon_told_row_echelon) 76 81 rfl rfl rfl (f_D_told_row_echelon_told_row_echelon T)) (af_66 T)
theorem f_D_echelon_echelon (T : Told2 ASK w K mg) : FnFact P w K mg base (He.fAd K D_echelon_echelon.at_) e_echelon := by
  obtain ⟨fd, F⟩ := T.t.def_ D_echelon_echelon (at_mem 77 rfl)
  exact fact_of F s_echelon (cfg_ok T.t (fnScB_ok s_echelon).nd (af_67 T) (am_4 T) (at_6 T) rfl rfl rfl rfl rfl) 100 [] c_echelon (fun _ _ _ _ _ _ us hl => match us, hl with | [_, _], _ => rfl) (fun m hm => nomatch hm)
theorem af_68 (T : Told2 ASK w K mg) : AllF P w K mg base F_68 := AllF.cons (T.defF (d := D_echelon_echelon) 77 82 rfl rfl rfl (f_D_echelon_echelon T)) (af_67 T)
theorem f_D_room_of_room_of (T : Told2 ASK w K mg) : FnFact P w K mg base (He.fAd K D_room_of_room_of.at_) e_room_of := by
  obtain ⟨fd, F⟩ := T.t.def_ D_room_of_room_of (at_mem 78 rfl)
  exact fact_of F s_room_of (cfg_ok T.t (fnScB_ok s_room_of).nd (af_68 T) (am_4 T) (at_6 T) rfl rfl rfl rfl rfl) 100 [] c_room_of (fun _ _ _ _ _ _ us hl => match us, hl with | [_, _], _ => rfl) (fun m hm => nomatch hm)
theorem af_69 (T : Told2 ASK w K mg) : AllF P w K mg base F_69 := AllF.cons (T.defF (d := D_room_of_room_of) 78 83 rfl rfl rfl (f_D_room_of_room_of T)) (af_68 T)
theorem f_D_sum_of_products_sum_of_products (T : Told2 ASK w K mg) : FnFact P w K mg base (He.fAd K D_sum_of_products_sum_of_products.at_) e_sum_of_products := by
  obtain ⟨fd, F⟩ := T.t.def_ D_sum_of_products_sum_of_products (at_mem 79 rfl)
  exact fact_of F s_sum_of_products (cfg_ok T.t (fnScB_ok s_sum_of_products).nd (af_69 T) (am_4 T) (at_6 T) rfl rfl rfl rfl rfl) 100 [] c_sum_of_products (fun _ _ _ _ _ _ us hl => match us, hl with | [_, _, _], _ => rfl) (fun m hm => nomatch hm)
theorem af_70 (T : Told2 ASK w K mg) : AllF P w K mg base F_70 := AllF.cons (T.defF (d := D_sum_of_products_sum_of_products) 79 84 rfl rfl rfl (f_D_sum_of_products_sum_of_products T)) (af_69 T)
theorem f_D_led_by_led_by (T : Told2 ASK w K mg) : FnFact P w K mg base (He.fAd K D_led_by_led_by.at_) e_led_by := by
  obtain ⟨fd, F⟩ := T.t.def_ D_led_by_led_by (at_mem 80 rfl)
  exact fact_of F s_led_by (cfg_ok T.t (fnScB_ok s_led_by).nd (af_70 T) (am_4 T) (at_6 T) rfl rfl rfl rfl rfl) 100 [] c_led_by (fun _ _ _ _ _ _ us hl => match us, hl with | [_, _, _], _ => rfl) (fun m hm => nomatch hm)
theorem af_71 (T : Told2 ASK w K mg) : AllF P w K mg base F_71 := AllF.cons (T.defF (d := D_led_by_led_by) 80 85 rfl rfl rfl (f_D_led_by_led_by T)) (af_70 T)
theorem f_D_led_room_led_room (T : Told2 ASK w K mg) : FnFact P w K mg base (He.fAd K D_led_room_led_room.at_) e_led_room := by
  obtain ⟨fd, F⟩ := T.t.def_ D_led_room_led_room (at_mem 81 rfl)
  exact fact_of F s_led_room (cfg_ok T.t (fnScB_ok s_led_room).nd (af_71 T) (am_4 T) (at_6 T) rfl rfl rfl rfl rfl) 100 [] c_led_room (fun _ _ _ _ _ _ us hl => match us, hl with | [_, _, _], _ => rfl) (fun m hm => nomatch hm)
theorem af_72 (T : Told2 ASK w K mg) : AllF P w K mg base F_72 := AllF.cons (T.defF (d := D_led_room_led_room) 81 86 rfl rfl rfl (f_D_led_room_led_room T)) (af_71 T)
theorem f_D_is_blind_is_blind (T : Told2 ASK w K mg) : FnFact P w K mg base (He.fAd K D_is_blind_is_blind.at_) e_is_blind := by
  obtain ⟨fd, F⟩ := T.t.def_ D_is_blind_is_blind (at_mem 82 rfl)
  exact fact_of F s_is_blind (cfg_ok T.t (fnScB_ok s_is_blind).nd (af_72 T) (am_4 T) (at_6 T) rfl rfl rfl rfl rfl) 100 [] c_is_blind (fun _ _ _ _ _ _ us hl => match us, hl with | [_, _], _ => rfl) (fun m hm => nomatch hm)
theorem af_73 (T : Told2 ASK w K mg) : AllF P w K mg base F_73 := AllF.cons (T.defF (d := D_is_blind_is_blind) 82 87 rfl rfl rfl (f_D_is_blind_is_blind T)) (af_72 T)
theorem f_D_is_no_row_is_no_row (T : Told2 ASK w K mg) : FnFact P w K mg base (He.fAd K D_is_no_row_is_no_row.at_) e_is_no_row := by
  obtain ⟨fd, F⟩ := T.t.def_ D_is_no_row_is_no_row (at_mem 83 rfl)
  exact fact_of F s_is_no_row (cfg_ok T.t (fnScB_ok s_is_no_row).nd (af_73 T) (am_4 T) (at_6 T) rfl rfl rfl rfl rfl) 100 [] c_is_no_row (fun _ _ _ _ _ _ us hl => match us, hl with | [_, _], _ => rfl) (fun m hm => nomatch hm)
theorem af_74 (T : Told2 ASK w K mg) : AllF P w K mg base F_74 := AllF.cons (T.defF (d := D_is_no_row_is_no_row) 83 88 rfl rfl rfl (f_D_is_no_row_is_no_row T)) (af_73 T)
theorem f_D_opposite_opposite (T : Told2 ASK w K mg) : FnFact P w K mg base (He.fAd K D_opposite_opposite.at_) e_opposite := by
  obtain ⟨fd, F⟩ := T.t.def_ D_opposite_opposite (at_mem 84 rfl)
  exact fact_of F s_opposite (cfg_ok T.t (fnScB_ok s_opposite).nd (af_74 T) (am_4 T) (at_6 T) rfl rfl rfl rfl rfl) 100 [] c_opposite (fun _ _ _ _ _ _ us hl => match us, hl with | [_, _], _ => rfl) (fun m hm => nomatch hm)
theorem af_75 (T : Told2 ASK w K mg) : AllF P w K mg base F_75 := AllF.cons (T.defF (d := D_opposite_opposite) 84 89 rfl rfl rfl (f_D_opposite_opposite T)) (af_74 T)
theorem f_D_rest_of_rest_of (T : Told2 ASK w K mg) : FnFact P w K mg base (He.fAd K D_rest_of_rest_of.at_) e_rest_of := by
  obtain ⟨fd, F⟩ := T.t.def_ D_rest_of_rest_of (at_mem 85 rfl)
  exact fact_of F s_rest_of (cfg_ok T.t (fnScB_ok s_rest_of).nd (af_75 T) (am_4 T) (at_6 T) rfl rfl rfl rfl rfl) 100 [] c_rest_of (fun _ _ _ _ _ _ us hl => match us, hl with | [_, _, _], _ => rfl) (fun m hm => nomatch hm)
theorem af_76 (T : Told2 ASK w K mg) : AllF P w K mg base F_76 := AllF.cons (T.defF (d := D_rest_of_rest_of) 85 90 rfl rfl rfl (f_D_rest_of_rest_of T)) (af_75 T)
theorem f_D_stands_in_stands_in (T : Told2 ASK w K mg) : FnFact P w K mg base (He.fAd K D_stands_in_stands_in.at_) e_stands_in := by
  obtain ⟨fd, F⟩ := T.t.def_ D_stands_in_stands_in (at_mem 86 rfl)
  exact fact_of F s_stands_in (cfg_ok T.t (fnScB_ok s_stands_in).nd (af_76 T) (am_4 T) (at_6 T) rfl rfl rfl rfl rfl) 100 [] c_stands_in (fun _ _ _ _ _ _ us hl => match us, hl with | [_, _, _], _ => rfl) (fun m hm => nomatch hm)
theorem af_77 (T : Told2 ASK w K mg) : AllF P w K mg base F_77 := AllF.cons (T.defF (d := D_stands_in_stands_in) 86 91 rfl rfl rfl (f_D_stands_in_stands_in T)) (af_76 T)
theorem f_D_room_within_room_within (T : Told2 ASK w K mg) : FnFact P w K mg base (He.fAd K D_room_within_room_within.at_) e_room_within := by
  obtain ⟨fd, F⟩ := T.t.def_ D_room_within_room_within (at_mem 87 rfl)
  exact fact_of F s_room_within (cfg_ok T.t (fnScB_ok s_room_within).nd (af_77 T) (am_4 T) (at_6 T) rfl rfl rfl rfl rfl) 100 [] c_room_within (fun _ _ _ _ _ _ us hl => match us, hl with | [_, _, _], _ => rfl) (fun m hm => nomatch hm)
theorem af_78 (T : Told2 ASK w K mg) : AllF P w K mg base F_78 := AllF.cons (T.defF (d := D_room_within_room_within) 87 92 rfl rfl rfl (f_D_room_within_room_within T)) (af_77 T)
theorem f_D_leads_on_leads_on (T : Told2 ASK w K mg) : FnFact P w K mg base (He.fAd K D_leads_on_leads_on.at_) e_leads_on := by
  obtain ⟨fd, F⟩ := T.t.def_ D_leads_on_leads_on (at_mem 88 rfl)
  exact fact_of F s_leads_on (cfg_ok T.t (fnScB_ok s_leads_on).nd (af_78 T) (am_4 T) (at_6 T) rfl rfl rfl rfl rfl) 100 [] c_leads_on (fun _ _ _ _ _ _ us hl => match us, hl with | [_, _, _], _ => rfl) (fun m hm => nomatch hm)
theorem af_79 (T : Told2 ASK w K mg) : AllF P w K mg base F_79 := AllF.cons (T.defF (d := D_leads_on_leads_on) 88 93 rfl rfl rfl (f_D_leads_on_leads_on T)) (af_78 T)
theorem f_D_are_levels_are_levels (T : Told2 ASK w K mg) : FnFact P w K mg base (He.fAd K D_are_levels_are_levels.at_) e_are_levels := by
  obtain ⟨fd, F⟩ := T.t.def_ D_are_levels_are_levels (at_mem 89 rfl)
  exact fact_of F s_are_levels (cfg_ok T.t (fnScB_ok s_are_levels).nd (af_79 T) (am_4 T) (at_6 T) rfl rfl rfl rfl rfl) 100 [] c_are_levels (fun _ _ _ _ _ _ us hl => match us, hl with | [_, _], _ => rfl) (fun m hm => nomatch hm)
theorem af_80 (T : Told2 ASK w K mg) : AllF P w K mg base F_80 := AllF.cons (T.defF (d := D_are_levels_are_levels) 89 94 rfl rfl rfl (f_D_are_levels_are_levels T)) (af_79 T)
theorem f_D_size_at_size_at (T : Told2 ASK w K mg) : FnFact P w K mg base (He.fAd K D_size_at_size_at.at_) e_size_at := by
  obtain ⟨fd, F⟩ := T.t.def_ D_size_at_size_at (at_mem 90 rfl)
  exact fact_of F s_size_at (cfg_ok T.t (fnScB_ok s_size_at).nd (af_80 T) (am_4 T) (at_6 T) rfl rfl rfl rfl rfl) 100 [] c_size_at (fun _ _ _ _ _ _ us hl => match us, hl with | [_, _], _ => rfl) (fun m hm => nomatch hm)
theorem af_81 (T : Told2 ASK w K mg) : AllF P w K mg base F_81 := AllF.cons (T.defF (d := D_size_at_size_at) 90 95 rfl rfl rfl (f_D_size_at_size_at T)) (af_80 T)
theorem f_D_is_row_at_is_row_at (T : Told2 ASK w K mg) : FnFact P w K mg base (He.fAd K D_is_row_at_is_row_at.at_) e_is_row_at := by
  obtain ⟨fd, F⟩ := T.t.def_ D_is_row_at_is_row_at (at_mem 91 rfl)
  exact fact_of F s_is_row_at (cfg_ok T.t (fnScB_ok s_is_row_at).nd (af_81 T) (am_4 T) (at_6 T) rfl rfl rfl rfl rfl) 100 [] c_is_row_at (fun _ _ _ _ _ _ us hl => match us, hl with | [_, _, _], _ => rfl) (fun m hm => nomatch hm)
theorem af_82 (T : Told2 ASK w K mg) : AllF P w K mg base F_82 := AllF.cons (T.defF (d := D_is_row_at_is_row_at) 91 96 rfl rfl rfl (f_D_is_row_at_is_row_at T)) (af_81 T)
theorem f_D_is_nought_is_nought (T : Told2 ASK w K mg) : FnFact P w K mg base (He.fAd K D_is_nought_is_nought.at_) e_is_nought := by
  obtain ⟨fd, F⟩ := T.t.def_ D_is_nought_is_nought (at_mem 92 rfl)
  exact fact_of F s_is_nought (cfg_ok T.t (fnScB_ok s_is_nought).nd (af_82 T) (am_4 T) (at_6 T) rfl rfl rfl rfl rfl) 100 [] c_is_nought (fun _ _ _ _ _ _ us hl => match us, hl with | [_, _], _ => rfl) (fun m hm => nomatch hm)
theorem af_83 (T : Told2 ASK w K mg) : AllF P w K mg base F_83 := AllF.cons (T.defF (d := D_is_nought_is_nought) 92 97 rfl rfl rfl (f_D_is_nought_is_nought T)) (af_82 T)
theorem f_D_led_led (T : Told2 ASK w K mg) : FnFact P w K mg base (He.fAd K D_led_led.at_) e_led := by
  obtain ⟨fd, F⟩ := T.t.def_ D_led_led (at_mem 93 rfl)
  exact fact_of F s_led (cfg_ok T.t (fnScB_ok s_led).nd (af_83 T) (am_4 T) (at_6 T) rfl rfl rfl rfl rfl) 100 [] c_led (fun _ _ _ _ _ _ us hl => match us, hl with | [_, _, _], _ => rfl) (fun m hm => nomatch hm)
theorem af_84 (T : Told2 ASK w K mg) : AllF P w K mg base F_84 := AllF.cons (T.defF (d := D_led_led) 93 98 rfl rfl rfl (f_D_led_led T)) (af_83 T)
theorem f_D_arrow_of_arrow_of (T : Told2 ASK w K mg) : FnFact P w K mg base (He.fAd K D_arrow_of_arrow_of.at_) e_arrow_of := by
  obtain ⟨fd, F⟩ := T.t.def_ D_arrow_of_arrow_of (at_mem 94 rfl)
  exact fact_of F s_arrow_of (cfg_ok T.t (fnScB_ok s_arrow_of).nd (af_84 T) (am_4 T) (at_6 T) rfl rfl rfl rfl rfl) 100 [] c_arrow_of (fun _ _ _ _ _ _ us hl => match us, hl with | [_, _], _ => rfl) (fun m hm => nomatch hm)
theorem af_85 (T : Told2 ASK w K mg) : AllF P w K mg base F_85 := AllF.cons (T.defF (d := D_arrow_of_arrow_of) 94 99 rfl rfl rfl (f_D_arrow_of_arrow_of T)) (af_84 T)
theorem f_D_led_along_led_along (T : Told2 ASK w K mg) : FnFact P w K mg base (He.fAd K D_led_along_led_along.at_) e_led_along := by
  obtain ⟨fd, F⟩ := T.t.def_ D_led_along_led_along (at_mem 95 rfl)
  exact fact_of F s_led_along (cfg_ok T.t (fnScB_ok s_led_along).nd (af_85 T) (am_4 T) (at_6 T) rfl rfl rfl rfl rfl) 100 [] c_led_along (fun _ _ _ _ _ _ us hl => match us, hl with | [_, _, _, _], _ => rfl) (fun m hm => nomatch hm)
theorem af_86 (T : Told2 ASK w K mg) : AllF P w K mg base F_86 := AllF.cons (T.defF (d := D_led_along_led_along) 95 100 rfl rfl rfl (f_D_led_along_led_along T)) (af_85 T)
theorem f_D_last_look_last_look (T : Told2 ASK w K mg) : FnFact P w K mg base (He.fAd K D_last_look_last_look.at_) e_last_look := by
  obtain ⟨fd, F⟩ := T.t.def_ D_last_look_last_look (at_mem 96 rfl)
  exact fact_of F s_last_look (cfg_ok T.t (fnScB_ok s_last_look).nd (af_86 T) (am_4 T) (at_6 T) rfl rfl rfl rfl rfl) 100 [] c_last_look (fun _ _ _ _ _ _ us hl => match us, hl with | [_, _, _, _], _ => rfl) (fun m hm => nomatch hm)
theorem af_87 (T : Told2 ASK w K mg) : AllF P w K mg base F_87 := AllF.cons (T.defF (d := D_last_look_last_look) 96 101 rfl rfl rfl (f_D_last_look_last_look T)) (af_86 T)
theorem f_D_is_seen_is_seen (T : Told2 ASK w K mg) : FnFact P w K mg base (He.fAd K D_is_seen_is_seen.at_) e_is_seen := by
  obtain ⟨fd, F⟩ := T.t.def_ D_is_seen_is_seen (at_mem 97 rfl)
  exact fact_of F s_is_seen (cfg_ok T.t (fnScB_ok s_is_seen).nd (af_87 T) (am_4 T) (at_6 T) rfl rfl rfl rfl rfl) 100 [] c_is_seen (fun _ _ _ _ _ _ us hl => match us, hl with | [_, _, _, _], _ => rfl) (fun m hm => nomatch hm)
theorem af_88 (T : Told2 ASK w K mg) : AllF P w K mg base F_88 := AllF.cons (T.defF (d := D_is_seen_is_seen) 97 102 rfl rfl rfl (f_D_is_seen_is_seen T)) (af_87 T)
theorem f_D_is_late_is_late (T : Told2 ASK w K mg) : FnFact P w K mg base (He.fAd K D_is_late_is_late.at_) e_is_late := by
  obtain ⟨fd, F⟩ := T.t.def_ D_is_late_is_late (at_mem 98 rfl)
  exact fact_of F s_is_late (cfg_ok T.t (fnScB_ok s_is_late).nd (af_88 T) (am_4 T) (at_6 T) rfl rfl rfl rfl rfl) 100 [] c_is_late (fun _ _ _ _ _ _ us hl => match us, hl with | [_, _, _], _ => rfl) (fun m hm => nomatch hm)
theorem af_89 (T : Told2 ASK w K mg) : AllF P w K mg base F_89 := AllF.cons (T.defF (d := D_is_late_is_late) 98 103 rfl rfl rfl (f_D_is_late_is_late T)) (af_88 T)
theorem f_D_reads_forgets_reads_forgets (T : Told2 ASK w K mg) : FnFact P w K mg base (He.fAd K D_reads_forgets_reads_forgets.at_) e_reads_forgets := by
  obtain ⟨fd, F⟩ := T.t.def_ D_reads_forgets_reads_forgets (at_mem 99 rfl)
  exact fact_of F s_reads_forgets (cfg_ok T.t (fnScB_ok s_reads_forgets).nd (af_89 T) (am_4 T) (at_6 T) rfl rfl rfl rfl rfl) 100 [] c_reads_forgets (fun _ _ _ _ _ _ us hl => match us, hl with | [_, _], _ => rfl) (fun m hm => nomatch hm)
theorem af_90 (T : Told2 ASK w K mg) : AllF P w K mg base F_90 := AllF.cons (T.defF (d := D_reads_forgets_reads_forgets) 99 104 rfl rfl rfl (f_D_reads_forgets_reads_forgets T)) (af_89 T)
theorem f_D_end_of_end_of (T : Told2 ASK w K mg) : FnFact P w K mg base (He.fAd K D_end_of_end_of.at_) e_end_of := by
  obtain ⟨fd, F⟩ := T.t.def_ D_end_of_end_of (at_mem 100 rfl)
  exact fact_of F s_end_of (cfg_ok T.t (fnScB_ok s_end_of).nd (af_90 T) (am_4 T) (at_6 T) rfl rfl rfl rfl rfl) 100 [] c_end_of (fun _ _ _ _ _ _ us hl => match us, hl with | [_, _, _], _ => rfl) (fun m hm => nomatch hm)
theorem af_91 (T : Told2 ASK w K mg) : AllF P w K mg base F_91 := AllF.cons (T.defF (d := D_end_of_end_of) 100 105 rfl rfl rfl (f_D_end_of_end_of T)) (af_90 T)
theorem f_D_led_by_way_led_by_way (T : Told2 ASK w K mg) : FnFact P w K mg base (He.fAd K D_led_by_way_led_by_way.at_) e_led_by_way := by
  obtain ⟨fd, F⟩ := T.t.def_ D_led_by_way_led_by_way (at_mem 101 rfl)
  exact fact_of F s_led_by_way (cfg_ok T.t (fnScB_ok s_led_by_way).nd (af_91 T) (am_4 T) (at_6 T) rfl rfl rfl rfl rfl) 100 [] c_led_by_way (fun _ _ _ _ _ _ us hl => match us, hl with | [_, _, _], _ => rfl) (fun m hm => nomatch hm)
theorem af_92 (T : Told2 ASK w K mg) : AllF P w K mg base F_92 := AllF.cons (T.defF (d := D_led_by_way_led_by_way) 101 106 rfl rfl rfl (f_D_led_by_way_led_by_way T)) (af_91 T)
theorem f_D_comes_round_comes_round (T : Told2 ASK w K mg) : FnFact P w K mg base (He.fAd K D_comes_round_comes_round.at_) e_comes_round := by
  obtain ⟨fd, F⟩ := T.t.def_ D_comes_round_comes_round (at_mem 102 rfl)
  exact fact_of F s_comes_round (cfg_ok T.t (fnScB_ok s_comes_round).nd (af_92 T) (am_4 T) (at_6 T) rfl rfl rfl rfl rfl) 100 [] c_comes_round (fun _ _ _ _ _ _ us hl => match us, hl with | [_, _, _, _], _ => rfl) (fun m hm => nomatch hm)
theorem af_93 (T : Told2 ASK w K mg) : AllF P w K mg base F_93 := AllF.cons (T.defF (d := D_comes_round_comes_round) 102 107 rfl rfl rfl (f_D_comes_round_comes_round T)) (af_92 T)
theorem f_D_is_sight_is_sight (T : Told2 ASK w K mg) : FnFact P w K mg base (He.fAd K D_is_sight_is_sight.at_) e_is_sight := by
  obtain ⟨fd, F⟩ := T.t.def_ D_is_sight_is_sight (at_mem 103 rfl)
  exact fact_of F s_is_sight (cfg_ok T.t (fnScB_ok s_is_sight).nd (af_93 T) (am_4 T) (at_6 T) rfl rfl rfl rfl rfl) 100 [] c_is_sight (fun _ _ _ _ _ _ us hl => match us, hl with | [_, _, _, _], _ => rfl) (fun m hm => nomatch hm)
theorem af_94 (T : Told2 ASK w K mg) : AllF P w K mg base F_94 := AllF.cons (T.defF (d := D_is_sight_is_sight) 103 108 rfl rfl rfl (f_D_is_sight_is_sight T)) (af_93 T)
theorem f_D_reads_never_reads_never (T : Told2 ASK w K mg) : FnFact P w K mg base (He.fAd K D_reads_never_reads_never.at_) e_reads_never := by
  obtain ⟨fd, F⟩ := T.t.def_ D_reads_never_reads_never (at_mem 104 rfl)
  exact fact_of F s_reads_never (cfg_ok T.t (fnScB_ok s_reads_never).nd (af_94 T) (am_4 T) (at_6 T) rfl rfl rfl rfl rfl) 100 [] c_reads_never (fun _ _ _ _ _ _ us hl => match us, hl with | [_, _], _ => rfl) (fun m hm => nomatch hm)
theorem af_95 (T : Told2 ASK w K mg) : AllF P w K mg base F_95 := AllF.cons (T.defF (d := D_reads_never_reads_never) 104 109 rfl rfl rfl (f_D_reads_never_reads_never T)) (af_94 T)
theorem f_D_read_answer_read_answer (T : Told2 ASK w K mg) : FnFact P w K mg base (He.fAd K D_read_answer_read_answer.at_) e_read_answer := by
  obtain ⟨fd, F⟩ := T.t.def_ D_read_answer_read_answer (at_mem 105 rfl)
  exact fact_of F s_read_answer (cfg_ok T.t (fnScB_ok s_read_answer).nd (af_95 T) (am_4 T) (at_6 T) rfl rfl rfl rfl rfl) 100 [] c_read_answer (fun _ _ _ _ _ _ us hl => match us, hl with | [_, _], _ => rfl) (fun m hm => nomatch hm)
theorem af_96 (T : Told2 ASK w K mg) : AllF P w K mg base F_96 := AllF.cons (T.defF (d := D_read_answer_read_answer) 105 110 rfl rfl rfl (f_D_read_answer_read_answer T)) (af_95 T)
theorem f_D_wide_row_wide_row (T : Told2 ASK w K mg) : FnFact P w K mg base (He.fAd K D_wide_row_wide_row.at_) e_wide_row := by
  obtain ⟨fd, F⟩ := T.t.def_ D_wide_row_wide_row (at_mem 106 rfl)
  exact fact_of F s_wide_row (cfg_ok T.t (fnScB_ok s_wide_row).nd (af_96 T) (am_4 T) (at_6 T) rfl rfl rfl rfl rfl) 100 [] c_wide_row (fun _ _ _ _ _ _ us hl => match us, hl with | [_, _], _ => rfl) (fun m hm => nomatch hm)
theorem af_97 (T : Told2 ASK w K mg) : AllF P w K mg base F_97 := AllF.cons (T.defF (d := D_wide_row_wide_row) 106 111 rfl rfl rfl (f_D_wide_row_wide_row T)) (af_96 T)
theorem f_D_are_kept_rooms_are_kept_rooms (T : Told2 ASK w K mg) : FnFact P w K mg base (He.fAd K D_are_kept_rooms_are_kept_rooms.at_) e_are_kept_rooms := by
  obtain ⟨fd, F⟩ := T.t.def_ D_are_kept_rooms_are_kept_rooms (at_mem 107 rfl)
  exact fact_of F s_are_kept_rooms (cfg_ok T.t (fnScB_ok s_are_kept_rooms).nd (af_97 T) (am_4 T) (at_6 T) rfl rfl rfl rfl rfl) 100 [] c_are_kept_rooms (fun _ _ _ _ _ _ us hl => match us, hl with | [_, _, _, _], _ => rfl) (fun m hm => nomatch hm)
theorem af_98 (T : Told2 ASK w K mg) : AllF P w K mg base F_98 := AllF.cons (T.defF (d := D_are_kept_rooms_are_kept_rooms) 107 112 rfl rfl rfl (f_D_are_kept_rooms_are_kept_rooms T)) (af_97 T)
theorem f_D_wide_table_wide_table (T : Told2 ASK w K mg) : FnFact P w K mg base (He.fAd K D_wide_table_wide_table.at_) e_wide_table := by
  obtain ⟨fd, F⟩ := T.t.def_ D_wide_table_wide_table (at_mem 108 rfl)
  exact fact_of F s_wide_table (cfg_ok T.t (fnScB_ok s_wide_table).nd (af_98 T) (am_4 T) (at_6 T) rfl rfl rfl rfl rfl) 100 [] c_wide_table (fun _ _ _ _ _ _ us hl => match us, hl with | [_, _, _], _ => rfl) (fun m hm => nomatch hm)
theorem af_99 (T : Told2 ASK w K mg) : AllF P w K mg base F_99 := AllF.cons (T.defF (d := D_wide_table_wide_table) 108 113 rfl rfl rfl (f_D_wide_table_wide_table T)) (af_98 T)
theorem f_D_wide_arrow_wide_arrow (T : Told2 ASK w K mg) : FnFact P w K mg base (He.fAd K D_wide_arrow_wide_arrow.at_) e_wide_arrow := by
  obtain ⟨fd, F⟩ := T.t.def_ D_wide_arrow_wide_arrow (at_mem 109 rfl)
  exact fact_of F s_wide_arrow (cfg_ok T.t (fnScB_ok s_wide_arrow).nd (af_99 T) (am_4 T) (at_6 T) rfl rfl rfl rfl rfl) 100 [] c_wide_arrow (fun _ _ _ _ _ _ us hl => match us, hl with | [_, _], _ => rfl) (fun m hm => nomatch hm)
theorem af_100 (T : Told2 ASK w K mg) : AllF P w K mg base F_100 := AllF.cons (T.defF (d := D_wide_arrow_wide_arrow) 109 114 rfl rfl rfl (f_D_wide_arrow_wide_arrow T)) (af_99 T)
theorem f_D_wide_wide (T : Told2 ASK w K mg) : FnFact P w K mg base (He.fAd K D_wide_wide.at_) e_wide := by
  obtain ⟨fd, F⟩ := T.t.def_ D_wide_wide (at_mem 110 rfl)
  exact fact_of F s_wide (cfg_ok T.t (fnScB_ok s_wide).nd (af_100 T) (am_4 T) (at_6 T) rfl rfl rfl rfl rfl) 100 [] c_wide (fun _ _ _ _ _ _ us hl => match us, hl with | [_], _ => rfl) (fun m hm => nomatch hm)
theorem af_101 (T : Told2 ASK w K mg) : AllF P w K mg base F_101 := AllF.cons (T.defF (d := D_wide_wide) 110 115 rfl rfl rfl (f_D_wide_wide T)) (af_100 T)
theorem f_D_worth_worth (T : Told2 ASK w K mg) : FnFact P w K mg base (He.fAd K D_worth_worth.at_) e_worth := by
  obtain ⟨fd, F⟩ := T.t.def_ D_worth_worth (at_mem 111 rfl)
  exact fact_of F s_worth (cfg_ok T.t (fnScB_ok s_worth).nd (af_101 T) (am_4 T) (at_6 T) rfl rfl rfl rfl rfl) 100 [] c_worth (fun _ _ _ _ _ _ us hl => match us, hl with | [_, _, _], _ => rfl) (fun m hm => nomatch hm)
theorem af_102 (T : Told2 ASK w K mg) : AllF P w K mg base F_102 := AllF.cons (T.defF (d := D_worth_worth) 111 116 rfl rfl rfl (f_D_worth_worth T)) (af_101 T)
theorem f_D_gives_nought_gives_nought (T : Told2 ASK w K mg) : FnFact P w K mg base (He.fAd K D_gives_nought_gives_nought.at_) e_gives_nought := by
  obtain ⟨fd, F⟩ := T.t.def_ D_gives_nought_gives_nought (at_mem 112 rfl)
  exact fact_of F s_gives_nought (cfg_ok T.t (fnScB_ok s_gives_nought).nd (af_102 T) (am_4 T) (at_6 T) rfl rfl rfl rfl rfl) 100 [] c_gives_nought (fun _ _ _ _ _ _ us hl => match us, hl with | [_, _, _], _ => rfl) (fun m hm => nomatch hm)
theorem af_103 (T : Told2 ASK w K mg) : AllF P w K mg base F_103 := AllF.cons (T.defF (d := D_gives_nought_gives_nought) 112 117 rfl rfl rfl (f_D_gives_nought_gives_nought T)) (af_102 T)
theorem f_D_gives_nought_of_all_gives_nought_of_all (T : Told2 ASK w K mg) : FnFact P w K mg base (He.fAd K D_gives_nought_of_all_gives_nought_of_all.at_) e_gives_nought_of_all := by
  obtain ⟨fd, F⟩ := T.t.def_ D_gives_nought_of_all_gives_nought_of_all (at_mem 113 rfl)
  exact fact_of F s_gives_nought_of_all (cfg_ok T.t (fnScB_ok s_gives_nought_of_all).nd (af_103 T) (am_4 T) (at_6 T) rfl rfl rfl rfl rfl) 100 [] c_gives_nought_of_all (fun _ _ _ _ _ _ us hl => match us, hl with | [_, _, _], _ => rfl) (fun m hm => nomatch hm)
theorem af_104 (T : Told2 ASK w K mg) : AllF P w K mg base F_104 := AllF.cons (T.defF (d := D_gives_nought_of_all_gives_nought_of_all) 113 118 rfl rfl rfl (f_D_gives_nought_of_all_gives_nought_of_all T)) (af_103 T)
theorem f_D_reads_always_reads_always (T : Told2 ASK w K mg) : FnFact P w K mg base (He.fAd K D_reads_always_reads_always.at_) e_reads_always := by
  obtain ⟨fd, F⟩ := T.t.def_ D_reads_always_reads_always (at_mem 114 rfl)
  exact fact_of F s_reads_always (cfg_ok T.t (fnScB_ok s_reads_always).nd (af_104 T) (am_4 T) (at_6 T) rfl rfl rfl rfl rfl) 100 [] c_reads_always (fun _ _ _ _ _ _ us hl => match us, hl with | [_, _, _, _, _], _ => rfl) (fun m hm => nomatch hm)
theorem af_105 (T : Told2 ASK w K mg) : AllF P w K mg base F_105 := AllF.cons (T.defF (d := D_reads_always_reads_always) 114 119 rfl rfl rfl (f_D_reads_always_reads_always T)) (af_104 T)
theorem f_D_reads_broken_reads_broken (T : Told2 ASK w K mg) : FnFact P w K mg base (He.fAd K D_reads_broken_reads_broken.at_) e_reads_broken := by
  obtain ⟨fd, F⟩ := T.t.def_ D_reads_broken_reads_broken (at_mem 115 rfl)
  exact fact_of F s_reads_broken (cfg_ok T.t (fnScB_ok s_reads_broken).nd (af_105 T) (am_4 T) (at_6 T) rfl rfl rfl rfl rfl) 100 [] c_reads_broken (fun _ _ _ _ _ _ us hl => match us, hl with | [_, _, _, _, _], _ => rfl) (fun m hm => nomatch hm)
theorem af_106 (T : Told2 ASK w K mg) : AllF P w K mg base F_106 := AllF.cons (T.defF (d := D_reads_broken_reads_broken) 115 120 rfl rfl rfl (f_D_reads_broken_reads_broken T)) (af_105 T)
theorem f_D_read_relation_read_relation (T : Told2 ASK w K mg) : FnFact P w K mg base (He.fAd K D_read_relation_read_relation.at_) e_read_relation := by
  obtain ⟨fd, F⟩ := T.t.def_ D_read_relation_read_relation (at_mem 116 rfl)
  exact fact_of F s_read_relation (cfg_ok T.t (fnScB_ok s_read_relation).nd (af_106 T) (am_4 T) (at_6 T) rfl rfl rfl rfl rfl) 100 [] c_read_relation (fun _ _ _ _ _ _ us hl => match us, hl with | [_, _, _, _, _], _ => rfl) (fun m hm => nomatch hm)
theorem af_107 (T : Told2 ASK w K mg) : AllF P w K mg base F_107 := AllF.cons (T.defF (d := D_read_relation_read_relation) 116 121 rfl rfl rfl (f_D_read_relation_read_relation T)) (af_106 T)
theorem f_D_place_names_place_names (T : Told2 ASK w K mg) : FnFact P w K mg base (He.fAd K D_place_names_place_names.at_) e_place_names := by
  obtain ⟨fd, F⟩ := T.t.def_ D_place_names_place_names (at_mem 117 rfl)
  exact fact_of F s_place_names (cfg_ok T.t (fnScB_ok s_place_names).nd (af_107 T) (am_4 T) (at_6 T) rfl rfl rfl rfl rfl) 100 [] c_place_names (fun _ _ _ _ _ _ us hl => match us, hl with | [_], _ => rfl) (fun m hm => nomatch hm)
theorem af_108 (T : Told2 ASK w K mg) : AllF P w K mg base F_108 := AllF.cons (T.defF (d := D_place_names_place_names) 117 122 rfl rfl rfl (f_D_place_names_place_names T)) (af_107 T)
theorem f_D_arrow_heads_arrow_heads (T : Told2 ASK w K mg) : FnFact P w K mg base (He.fAd K D_arrow_heads_arrow_heads.at_) e_arrow_heads := by
  obtain ⟨fd, F⟩ := T.t.def_ D_arrow_heads_arrow_heads (at_mem 118 rfl)
  exact fact_of F s_arrow_heads (cfg_ok T.t (fnScB_ok s_arrow_heads).nd (af_108 T) (am_4 T) (at_6 T) rfl rfl rfl rfl rfl) 100 [] c_arrow_heads (fun _ _ _ _ _ _ us hl => match us, hl with | [_], _ => rfl) (fun m hm => nomatch hm)
theorem af_109 (T : Told2 ASK w K mg) : AllF P w K mg base F_109 := AllF.cons (T.defF (d := D_arrow_heads_arrow_heads) 118 123 rfl rfl rfl (f_D_arrow_heads_arrow_heads T)) (af_108 T)
theorem f_D_is_same_web_is_same_web (T : Told2 ASK w K mg) : FnFact P w K mg base (He.fAd K D_is_same_web_is_same_web.at_) e_is_same_web := by
  obtain ⟨fd, F⟩ := T.t.def_ D_is_same_web_is_same_web (at_mem 119 rfl)
  exact fact_of F s_is_same_web (cfg_ok T.t (fnScB_ok s_is_same_web).nd (af_109 T) (am_4 T) (at_6 T) rfl rfl rfl rfl rfl) 100 [] c_is_same_web (fun _ _ _ _ _ _ us hl => match us, hl with | [_, _], _ => rfl) (fun m hm => nomatch hm)
theorem af_110 (T : Told2 ASK w K mg) : AllF P w K mg base F_110 := AllF.cons (T.defF (d := D_is_same_web_is_same_web) 119 124 rfl rfl rfl (f_D_is_same_web_is_same_web T)) (af_109 T)
theorem f_D_need_same_web_need_same_web (T : Told2 ASK w K mg) : FnFact P w K mg base (He.fAd K D_need_same_web_need_same_web.at_) e_need_same_web := by
  obtain ⟨fd, F⟩ := T.t.def_ D_need_same_web_need_same_web (at_mem 120 rfl)
  exact fact_of F s_need_same_web (cfg_ok T.t (fnScB_ok s_need_same_web).nd (af_110 T) (am_4 T) (at_6 T) rfl rfl rfl rfl rfl) 100 [] c_need_same_web (fun _ _ _ _ _ _ us hl => match us, hl with | [_, _], _ => rfl) (fun m hm => nomatch hm)
theorem af_111 (T : Told2 ASK w K mg) : AllF P w K mg base F_111 := AllF.cons (T.defF (d := D_need_same_web_need_same_web) 120 125 rfl rfl rfl (f_D_need_same_web_need_same_web T)) (af_110 T)
theorem f_D_behind_zeros_behind_zeros (T : Told2 ASK w K mg) : FnFact P w K mg base (He.fAd K D_behind_zeros_behind_zeros.at_) e_behind_zeros := by
  obtain ⟨fd, F⟩ := T.t.def_ D_behind_zeros_behind_zeros (at_mem 121 rfl)
  exact fact_of F s_behind_zeros (cfg_ok T.t (fnScB_ok s_behind_zeros).nd (af_111 T) (am_4 T) (at_6 T) rfl rfl rfl rfl rfl) 100 [] c_behind_zeros (fun _ _ _ _ _ _ us hl => match us, hl with | [_, _, _], _ => rfl) (fun m hm => nomatch hm)
theorem af_112 (T : Told2 ASK w K mg) : AllF P w K mg base F_112 := AllF.cons (T.defF (d := D_behind_zeros_behind_zeros) 121 126 rfl rfl rfl (f_D_behind_zeros_behind_zeros T)) (af_111 T)
theorem f_D_ahead_of_zeros_ahead_of_zeros (T : Told2 ASK w K mg) : FnFact P w K mg base (He.fAd K D_ahead_of_zeros_ahead_of_zeros.at_) e_ahead_of_zeros := by
  obtain ⟨fd, F⟩ := T.t.def_ D_ahead_of_zeros_ahead_of_zeros (at_mem 122 rfl)
  exact fact_of F s_ahead_of_zeros (cfg_ok T.t (fnScB_ok s_ahead_of_zeros).nd (af_112 T) (am_4 T) (at_6 T) rfl rfl rfl rfl rfl) 100 [] c_ahead_of_zeros (fun _ _ _ _ _ _ us hl => match us, hl with | [_, _, _], _ => rfl) (fun m hm => nomatch hm)
theorem af_113 (T : Told2 ASK w K mg) : AllF P w K mg base F_113 := AllF.cons (T.defF (d := D_ahead_of_zeros_ahead_of_zeros) 122 127 rfl rfl rfl (f_D_ahead_of_zeros_ahead_of_zeros T)) (af_112 T)
theorem f_D_blocks_blocks (T : Told2 ASK w K mg) : FnFact P w K mg base (He.fAd K D_blocks_blocks.at_) e_blocks := by
  obtain ⟨fd, F⟩ := T.t.def_ D_blocks_blocks (at_mem 123 rfl)
  exact fact_of F s_blocks (cfg_ok T.t (fnScB_ok s_blocks).nd (af_113 T) (am_4 T) (at_6 T) rfl rfl rfl rfl rfl) 100 [] c_blocks (fun _ _ _ _ _ _ us hl => match us, hl with | [_, _, _], _ => rfl) (fun m hm => nomatch hm)
theorem af_114 (T : Told2 ASK w K mg) : AllF P w K mg base F_114 := AllF.cons (T.defF (d := D_blocks_blocks) 123 128 rfl rfl rfl (f_D_blocks_blocks T)) (af_113 T)
theorem f_D_plus_plus (T : Told2 ASK w K mg) : FnFact P w K mg base (He.fAd K D_plus_plus.at_) e_plus := by
  obtain ⟨fd, F⟩ := T.t.def_ D_plus_plus (at_mem 124 rfl)
  exact fact_of F s_plus (cfg_ok T.t (fnScB_ok s_plus).nd (af_114 T) (am_4 T) (at_6 T) rfl rfl rfl rfl rfl) 100 [] c_plus (fun _ _ _ _ _ _ us hl => match us, hl with | [_, _, _], _ => rfl) (fun m hm => nomatch hm)
theorem af_115 (T : Told2 ASK w K mg) : AllF P w K mg base F_115 := AllF.cons (T.defF (d := D_plus_plus) 124 129 rfl rfl rfl (f_D_plus_plus T)) (af_114 T)
theorem f_D_row_plus_row_plus (T : Told2 ASK w K mg) : FnFact P w K mg base (He.fAd K D_row_plus_row_plus.at_) e_row_plus := by
  obtain ⟨fd, F⟩ := T.t.def_ D_row_plus_row_plus (at_mem 125 rfl)
  exact fact_of F s_row_plus (cfg_ok T.t (fnScB_ok s_row_plus).nd (af_115 T) (am_4 T) (at_6 T) rfl rfl rfl rfl rfl) 100 [] c_row_plus (fun _ _ _ _ _ _ us hl => match us, hl with | [_, _, _], _ => rfl) (fun m hm => nomatch hm)
theorem af_116 (T : Told2 ASK w K mg) : AllF P w K mg base F_116 := AllF.cons (T.defF (d := D_row_plus_row_plus) 125 130 rfl rfl rfl (f_D_row_plus_row_plus T)) (af_115 T)
theorem f_D_scaled_scaled (T : Told2 ASK w K mg) : FnFact P w K mg base (He.fAd K D_scaled_scaled.at_) e_scaled := by
  obtain ⟨fd, F⟩ := T.t.def_ D_scaled_scaled (at_mem 126 rfl)
  exact fact_of F s_scaled (cfg_ok T.t (fnScB_ok s_scaled).nd (af_116 T) (am_4 T) (at_6 T) rfl rfl rfl rfl rfl) 100 [] c_scaled (fun _ _ _ _ _ _ us hl => match us, hl with | [_, _, _], _ => rfl) (fun m hm => nomatch hm)
theorem af_117 (T : Told2 ASK w K mg) : AllF P w K mg base F_117 := AllF.cons (T.defF (d := D_scaled_scaled) 126 131 rfl rfl rfl (f_D_scaled_scaled T)) (af_116 T)
theorem f_D_less_row_less_row (T : Told2 ASK w K mg) : FnFact P w K mg base (He.fAd K D_less_row_less_row.at_) e_less_row := by
  obtain ⟨fd, F⟩ := T.t.def_ D_less_row_less_row (at_mem 127 rfl)
  exact fact_of F s_less_row (cfg_ok T.t (fnScB_ok s_less_row).nd (af_117 T) (am_4 T) (at_6 T) rfl rfl rfl rfl rfl) 100 [] c_less_row (fun _ _ _ _ _ _ us hl => match us, hl with | [_, _], _ => rfl) (fun m hm => nomatch hm)
theorem af_118 (T : Told2 ASK w K mg) : AllF P w K mg base F_118 := AllF.cons (T.defF (d := D_less_row_less_row) 127 132 rfl rfl rfl (f_D_less_row_less_row T)) (af_117 T)
theorem f_D_difference_arrow_difference_arrow (T : Told2 ASK w K mg) : FnFact P w K mg base (He.fAd K D_difference_arrow_difference_arrow.at_) e_difference_arrow := by
  obtain ⟨fd, F⟩ := T.t.def_ D_difference_arrow_difference_arrow (at_mem 128 rfl)
  exact fact_of F s_difference_arrow (cfg_ok T.t (fnScB_ok s_difference_arrow).nd (af_118 T) (am_4 T) (at_6 T) rfl rfl rfl rfl rfl) 100 [] c_difference_arrow (fun _ _ _ _ _ _ us hl => match us, hl with | [_, _, _], _ => rfl) (fun m hm => nomatch hm)
theorem af_119 (T : Told2 ASK w K mg) : AllF P w K mg base F_119 := AllF.cons (T.defF (d := D_difference_arrow_difference_arrow) 128 133 rfl rfl rfl (f_D_difference_arrow_difference_arrow T)) (af_118 T)
theorem f_D_difference_difference (T : Told2 ASK w K mg) : FnFact P w K mg base (He.fAd K D_difference_difference.at_) e_difference := by
  obtain ⟨fd, F⟩ := T.t.def_ D_difference_difference (at_mem 129 rfl)
  exact fact_of F s_difference (cfg_ok T.t (fnScB_ok s_difference).nd (af_119 T) (am_4 T) (at_6 T) rfl rfl rfl rfl rfl) 100 [] c_difference (fun _ _ _ _ _ _ us hl => match us, hl with | [_, _], _ => rfl) (fun m hm => nomatch hm)
theorem af_120 (T : Told2 ASK w K mg) : AllF P w K mg base F_120 := AllF.cons (T.defF (d := D_difference_difference) 129 134 rfl rfl rfl (f_D_difference_difference T)) (af_119 T)
theorem f_D_both_rows_both_rows (T : Told2 ASK w K mg) : FnFact P w K mg base (He.fAd K D_both_rows_both_rows.at_) e_both_rows := by
  obtain ⟨fd, F⟩ := T.t.def_ D_both_rows_both_rows (at_mem 130 rfl)
  exact fact_of F s_both_rows (cfg_ok T.t (fnScB_ok s_both_rows).nd (af_120 T) (am_4 T) (at_6 T) rfl rfl rfl rfl rfl) 100 [] c_both_rows (fun _ _ _ _ _ _ us hl => match us, hl with | [_, _, _], _ => rfl) (fun m hm => nomatch hm)
theorem af_121 (T : Told2 ASK w K mg) : AllF P w K mg base F_121 := AllF.cons (T.defF (d := D_both_rows_both_rows) 130 135 rfl rfl rfl (f_D_both_rows_both_rows T)) (af_120 T)
theorem f_D_are_blind_rooms_are_blind_rooms (T : Told2 ASK w K mg) : FnFact P w K mg base (He.fAd K D_are_blind_rooms_are_blind_rooms.at_) e_are_blind_rooms := by
  obtain ⟨fd, F⟩ := T.t.def_ D_are_blind_rooms_are_blind_rooms (at_mem 131 rfl)
  exact fact_of F s_are_blind_rooms (cfg_ok T.t (fnScB_ok s_are_blind_rooms).nd (af_121 T) (am_4 T) (at_6 T) rfl rfl rfl rfl rfl) 100 [] c_are_blind_rooms (fun _ _ _ _ _ _ us hl => match us, hl with | [_, _], _ => rfl) (fun m hm => nomatch hm)
theorem af_122 (T : Told2 ASK w K mg) : AllF P w K mg base F_122 := AllF.cons (T.defF (d := D_are_blind_rooms_are_blind_rooms) 131 136 rfl rfl rfl (f_D_are_blind_rooms_are_blind_rooms T)) (af_121 T)
theorem f_D_reads_alike_reads_alike (T : Told2 ASK w K mg) : FnFact P w K mg base (He.fAd K D_reads_alike_reads_alike.at_) e_reads_alike := by
  obtain ⟨fd, F⟩ := T.t.def_ D_reads_alike_reads_alike (at_mem 132 rfl)
  exact fact_of F s_reads_alike (cfg_ok T.t (fnScB_ok s_reads_alike).nd (af_122 T) (am_4 T) (at_6 T) rfl rfl rfl rfl rfl) 100 [] c_reads_alike (fun _ _ _ _ _ _ us hl => match us, hl with | [_, _, _, _], _ => rfl) (fun m hm => nomatch hm)
theorem af_123 (T : Told2 ASK w K mg) : AllF P w K mg base F_123 := AllF.cons (T.defF (d := D_reads_alike_reads_alike) 132 137 rfl rfl rfl (f_D_reads_alike_reads_alike T)) (af_122 T)
theorem f_D_reads_parted_reads_parted (T : Told2 ASK w K mg) : FnFact P w K mg base (He.fAd K D_reads_parted_reads_parted.at_) e_reads_parted := by
  obtain ⟨fd, F⟩ := T.t.def_ D_reads_parted_reads_parted (at_mem 133 rfl)
  exact fact_of F s_reads_parted (cfg_ok T.t (fnScB_ok s_reads_parted).nd (af_123 T) (am_4 T) (at_6 T) rfl rfl rfl rfl rfl) 100 [] c_reads_parted (fun _ _ _ _ _ _ us hl => match us, hl with | [_, _, _, _], _ => rfl) (fun m hm => nomatch hm)
theorem af_124 (T : Told2 ASK w K mg) : AllF P w K mg base F_124 := AllF.cons (T.defF (d := D_reads_parted_reads_parted) 133 138 rfl rfl rfl (f_D_reads_parted_reads_parted T)) (af_123 T)
theorem f_D_read_alike_from_read_alike_from (T : Told2 ASK w K mg) : FnFact P w K mg base (He.fAd K D_read_alike_from_read_alike_from.at_) e_read_alike_from := by
  obtain ⟨fd, F⟩ := T.t.def_ D_read_alike_from_read_alike_from (at_mem 134 rfl)
  exact fact_of F s_read_alike_from (cfg_ok T.t (fnScB_ok s_read_alike_from).nd (af_124 T) (am_4 T) (at_6 T) rfl rfl rfl rfl rfl) 100 [] c_read_alike_from (fun _ _ _ _ _ _ us hl => match us, hl with | [_, _, _, _, _], _ => rfl) (fun m hm => nomatch hm)
theorem af_125 (T : Told2 ASK w K mg) : AllF P w K mg base F_125 := AllF.cons (T.defF (d := D_read_alike_from_read_alike_from) 134 139 rfl rfl rfl (f_D_read_alike_from_read_alike_from T)) (af_124 T)
theorem f_D__law_room_values__law_room_values (T : Told2 ASK w K mg) : FnFact P w K mg base (He.fAd K D__law_room_values__law_room_values.at_) e__law_room_values := by
  obtain ⟨fd, F⟩ := T.t.def_ D__law_room_values__law_room_values (at_mem 135 rfl)
  exact fact_of F s__law_room_values (cfg_ok T.t (fnScB_ok s__law_room_values).nd (af_125 T) (am_4 T) (at_6 T) rfl rfl rfl rfl rfl) 100 [] c__law_room_values (fun _ _ _ _ _ _ us hl => match us, hl with | [], _ => rfl) (fun m hm => nomatch hm)
theorem af_126 (T : Told2 ASK w K mg) : AllF P w K mg base F_126 := AllF.cons (T.defF (d := D__law_room_values__law_room_values) 135 140 rfl rfl rfl (f_D__law_room_values__law_room_values T)) (af_125 T)
theorem f_D__law_plain__law_plain (T : Told2 ASK w K mg) : FnFact P w K mg base (He.fAd K D__law_plain__law_plain.at_) e__law_plain := by
  obtain ⟨fd, F⟩ := T.t.def_ D__law_plain__law_plain (at_mem 136 rfl)
  exact fact_of F s__law_plain (cfg_ok T.t (fnScB_ok s__law_plain).nd (af_126 T) (am_4 T) (at_6 T) rfl rfl rfl rfl rfl) 100 [] c__law_plain (fun _ _ _ _ _ _ us hl => match us, hl with | [_], _ => rfl) (fun m hm => nomatch hm)
theorem af_127 (T : Told2 ASK w K mg) : AllF P w K mg base F_127 := AllF.cons (T.defF (d := D__law_plain__law_plain) 136 141 rfl rfl rfl (f_D__law_plain__law_plain T)) (af_126 T)
theorem f_D__law_is_kind__law_is_kind (T : Told2 ASK w K mg) : FnFact P w K mg base (He.fAd K D__law_is_kind__law_is_kind.at_) e__law_is_kind := by
  obtain ⟨fd, F⟩ := T.t.def_ D__law_is_kind__law_is_kind (at_mem 137 rfl)
  exact fact_of F s__law_is_kind (cfg_ok T.t (fnScB_ok s__law_is_kind).nd (af_127 T) (am_4 T) (at_6 T) rfl rfl rfl rfl rfl) 100 [] c__law_is_kind (fun _ _ _ _ _ _ us hl => match us, hl with | [_, _], _ => rfl) (fun m hm => nomatch hm)
theorem af_128 (T : Told2 ASK w K mg) : AllF P w K mg base F_128 := AllF.cons (T.defF (d := D__law_is_kind__law_is_kind) 137 142 rfl rfl rfl (f_D__law_is_kind__law_is_kind T)) (af_127 T)
theorem f_D__law_same__law_same (T : Told2 ASK w K mg) : FnFact P w K mg base (He.fAd K D__law_same__law_same.at_) e__law_same := by
  obtain ⟨fd, F⟩ := T.t.def_ D__law_same__law_same (at_mem 138 rfl)
  exact fact_of F s__law_same (cfg_ok T.t (fnScB_ok s__law_same).nd (af_128 T) (am_4 T) (at_6 T) rfl rfl rfl rfl rfl) 100 [] c__law_same (fun _ _ _ _ _ _ us hl => match us, hl with | [_, _], _ => rfl) (fun m hm => nomatch hm)
theorem af_129 (T : Told2 ASK w K mg) : AllF P w K mg base F_129 := AllF.cons (T.defF (d := D__law_same__law_same) 138 143 rfl rfl rfl (f_D__law_same__law_same T)) (af_128 T)
theorem f_D__law_all__law_all (T : Told2 ASK w K mg) : FnFact P w K mg base (He.fAd K D__law_all__law_all.at_) e__law_all := by
  obtain ⟨fd, F⟩ := T.t.def_ D__law_all__law_all (at_mem 139 rfl)
  exact fact_of F s__law_all (cfg_ok T.t (fnScB_ok s__law_all).nd (af_129 T) (am_4 T) (at_6 T) rfl rfl rfl rfl rfl) 100 [] c__law_all (fun _ _ _ _ _ _ us hl => match us, hl with | [_], _ => rfl) (fun m hm => nomatch hm)
theorem af_130 (T : Told2 ASK w K mg) : AllF P w K mg base F_130 := AllF.cons (T.defF (d := D__law_all__law_all) 139 144 rfl rfl rfl (f_D__law_all__law_all T)) (af_129 T)
theorem law_ok (T : Told2 ASK w K mg) {fd : FuncData} (F : FunD K D_law_law.name D_law_law.qual D_law_law.params D_law_law.body D_law_law.scope [] [] (He.fAd K D_law_law.at_) fd) : FnOk P w K mg base CX0 12 (He.ga K "law") fd ["script"] (spS K 1 e_law.run) := lawOk F s_law (cfg_ok T.t (fnScB_ok s_law).nd (af_130 T) (am_4 T) (at_6 T) rfl rfl rfl rfl rfl) 100 c_law
theorem f_D_law_law (T : Told2 ASK w K mg) : FnFact P w K mg base (He.fAd K D_law_law.at_) e_law := by
  obtain ⟨fd, F⟩ := T.t.def_ D_law_law (at_mem 140 rfl)
  exact fact_of F s_law (cfg_ok T.t (fnScB_ok s_law).nd (af_130 T) (am_4 T) (at_6 T) rfl rfl rfl rfl rfl) 100 [] c_law (fun _ _ _ _ _ _ us hl => match us, hl with | [_], _ => rfl) (fun m hm => nomatch hm)
theorem af_131 (T : Told2 ASK w K mg) : AllF P w K mg base F_131 := AllF.cons (T.defF (d := D_law_law) 140 145 rfl rfl rfl (f_D_law_law T)) (af_130 T)
end
end J

set_option Elab.async false
set_option linter.all false
set_option maxRecDepth 100000
set_option maxHeartbeats 0
namespace J
open PySem PySem.Spec PyProof.Rows L2
theorem facts {P : Program} {w : World} {K : PySem.W.Frag} {mg : Str → Option Value} {h : Heap} {f : Addr} (X : K.In h) (G : h.Ns mainGlobals mg) (hfa : mg ("law" : Str) = some (.ref f)) (c : obsJ ASK K = valJ ASK w) :
    ∃ fd : FuncData, (∀ (s : Shared) (v : Value), BindsTo s fd ⟨[v], []⟩ [("script", v)]) ∧ ∀ base : Heap, K.In base → base.Ns mainGlobals mg → FnOk P w K mg base CX0 12 f fd ["script"] (spS K 1 e_law.run) := by
  have T := told2_of X G c
  obtain ⟨fd, F⟩ := T.t.def_ D_law_law (at_mem 140 rfl)
  have e := hfa.symm.trans (T.glo "law" (at_mem 145 rfl))
  cases e
  have b := FunD.bindsA (ps := ["script"]) F fun _ _ _ _ _ _ us hl => match us, hl with | [_], _ => rfl
  exact ⟨fd, fun s v => b s [v] rfl, fun base _ _ => law_ok T F⟩
end J
open PySem PySem.W PySem.Calls PyProof.Rows
theorem holds_of {loose : List PySem.Str} (run : ∀ w : World, HandSHeadRun.RunEq (OpenLaw.row PySem.Challenge.rw_firstways_k98_whole_values_of_all_sorts) (PySem.W.view (OpenLaw.row PySem.Challenge.rw_firstways_k98_whole_values_of_all_sorts).prog [183]) (J.hookJ J.ASK) (J.obJ J.ASK) 20000 loose w)
    : PySem.Challenge.rw_firstways_k98_whole_values_of_all_sorts.Holds := by
  w_on; o_law
  refine HandSHeadRun.head_any (r := OpenLaw.row PySem.Challenge.rw_firstways_k98_whole_values_of_all_sorts) (q := view (OpenLaw.row PySem.Challenge.rw_firstways_k98_whole_values_of_all_sorts).prog [183]) (H := J.hookJ J.ASK) (ob := J.obJ J.ASK) (M := 20000) (loose := loose) (d := HandSHeadRun.topDef (OpenLaw.row PySem.Challenge.rw_firstways_k98_whole_values_of_all_sorts).prog 183) (kwd := []) (J.obJ_eq J.ASK)
    (by kernel_rfl) (fun s => by kernel_rfl) run (by kernel_rfl) (by kernel_rfl) (by kernel_rfl) (by rfl) (by first | assumption | decide +kernel) (by decide +kernel) ⟨rfl, rfl, rfl, rfl, rfl, by decide +kernel⟩ ?hw ?hc
  case hw => w_witness2
  case hc =>
    refine L2.walk_ofE (l := PySem.Challenge.rw_firstways_k98_whole_values_of_all_sorts) (n := 63) (k := 12) (x := "script") (CX := L2.CX0) rfl (by decide) (by kernel_rfl) ⟨rfl, by decide, by decide⟩ ?F (fun _ _ _ _ z => z)
    intro w mg fa h Y G hmg0
    obtain ⟨K, KX, c⟩ := Y
    have hmg : mg ("law" : PySem.Str) = some (.ref fa) := by
      have e : (HandSHeadRun.topDef (OpenLaw.row PySem.Challenge.rw_firstways_k98_whole_values_of_all_sorts).prog 183).name = ("law" : PySem.Str) := by kernel_rfl
      rw [← e]
      exact hmg0
    obtain ⟨fd, hb, hF⟩ := J.facts (P := (PySem.Challenge.rw_firstways_k98_whole_values_of_all_sorts).prog) (w := w) KX G hmg c
    exact ⟨K, fd, J.spS K 1 J.e_law.run, KX, hb, fun H a ns hl hO hS => by
      obtain ⟨st', hr⟩ := J.law_true ns
      exact J.law_sp hO hS hr, hF⟩

set_option Elab.async false
set_option maxRecDepth 100000
theorem PySem.Challenge.cw_firstways_k98_whole_values_of_all_sorts_holds : PySem.Challenge.rw_firstways_k98_whole_values_of_all_sorts.Holds :=
  holds_of TH.run

