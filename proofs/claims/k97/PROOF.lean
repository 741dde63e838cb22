import PyProof.Rows.All
import Wide.All
import OpenK.AllK
import Wide.FinOn
import KE.KStateDown
import Lean
import HandS.ForMost
import HandS.More
import HandS.Exc
import HandS.Defaults
import HandS.CallLocal
import HandS.Walk
import HandS.Flow
import HandS.Head0
import HandS.Head1
import HandS.Head2
import HandS.HeadEnd
import HandS.HeadHook1
import HandS.HeadHook2
import HandS.HeadHook3
import HandS.HeadHook4
import PySem.Challenge.RW_plinth_k97_whole_twins_come_together
import PyProof.TableCode
set_option Elab.async false
set_option linter.all false
set_option maxRecDepth 100000
set_option maxHeartbeats 4000000
/-! The text by places, the facts that the head tells. Printed by genp0.py. -/
noncomputable section
namespace Pz
open PySem PySem.Spec PyProof.Rows L2
def top (i : Nat) : Stmt := PySem.Challenge.pw_plinth_k97_whole_twins_come_together.main.body.getD i (.Pass ⟨0, 0, 0, 0⟩)
abbrev s_nodes_of : Stmt := top 6
abbrev s_table_of : Stmt := top 7
abbrev s_d_push : Stmt := top 14
abbrev s_d_plus : Stmt := top 15
abbrev s_d_minus : Stmt := top 16
abbrev s_d_digit : Stmt := top 17
abbrev s_d_less : Stmt := top 18
abbrev s_d_same : Stmt := top 19
abbrev s_d_assign : Stmt := top 22
abbrev s_d_take : Stmt := top 23
abbrev s_d_emit : Stmt := top 25
abbrev s_d_drop : Stmt := top 27
abbrev s_d_double : Stmt := top 28
abbrev s_d_exchange : Stmt := top 29
abbrev s_d_test : Stmt := top 30
abbrev s_d_call : Stmt := top 31
abbrev s_d_call_low : Stmt := top 32
abbrev s_d_return : Stmt := top 33
abbrev s_init : Stmt := inClass (top 35) 0
abbrev s_pull : Stmt := inClass (top 35) 1
abbrev s_has_ended : Stmt := inClass (top 35) 2
abbrev s_step : Stmt := inClass (top 35) 3
abbrev s_advance : Stmt := inClass (top 35) 4
abbrev s_run : Stmt := top 36
abbrev s_codes_of : Stmt := top 39
abbrev s_checked_codes : Stmt := top 41
abbrev s_child_of : Stmt := top 42
abbrev s_child : Stmt := top 43
abbrev s_generations : Stmt := top 44
abbrev s_first_apart : Stmt := top 46
abbrev s_double : Stmt := top 47
abbrev s_rung_text : Stmt := top 54
abbrev s_l_number : Stmt := top 56
abbrev s_l_draws : Stmt := top 57
abbrev s_l_next : Stmt := top 58
abbrev s_l_short : Stmt := top 59
abbrev s_l_pull : Stmt := top 60
abbrev s_l_emit : Stmt := top 61
abbrev s_l_take : Stmt := top 62
abbrev s_l_bracket : Stmt := top 63
abbrev s_l_second_code : Stmt := top 64
abbrev s_l_twig : Stmt := top 65
abbrev s_l_text_codes : Stmt := top 66
abbrev s_l_second : Stmt := top 67
abbrev s_l_suspect : Stmt := top 68
abbrev s_l_apart : Stmt := top 69
abbrev s_l_short_text : Stmt := top 70
abbrev s_l_short_program : Stmt := top 71
abbrev s_l_compiler : Stmt := top 72
abbrev s_law : Stmt := top 73
/-! ### the facts -/
def D_nodes_of : He.DefD := ⟨("nodes_of", none), "nodes_of", "nodes_of", defArgs s_nodes_of, defBody s_nodes_of, defScope s_nodes_of, [], []⟩
def D_table_of : He.DefD := ⟨("table_of", none), "table_of", "table_of", defArgs s_table_of, defBody s_table_of, defScope s_table_of, [], []⟩
def D_d_push : He.DefD := ⟨("_push", none), "_push", "_push", defArgs s_d_push, defBody s_d_push, defScope s_d_push, [], []⟩
def D_d_plus : He.DefD := ⟨("_plus", none), "_plus", "_plus", defArgs s_d_plus, defBody s_d_plus, defScope s_d_plus, [], []⟩
def D_d_minus : He.DefD := ⟨("_minus", none), "_minus", "_minus", defArgs s_d_minus, defBody s_d_minus, defScope s_d_minus, [], []⟩
def D_d_digit : He.DefD := ⟨("_digit", none), "_digit", "_digit", defArgs s_d_digit, defBody s_d_digit, defScope s_d_digit, [], []⟩
def D_d_less : He.DefD := ⟨("_less", none), "_less", "_less", defArgs s_d_less, defBody s_d_less, defScope s_d_less, [], []⟩
def D_d_same : He.DefD := ⟨("_same", none), "_same", "_same", defArgs s_d_same, defBody s_d_same, defScope s_d_same, [], []⟩
def D_d_assign : He.DefD := ⟨("_assign", none), "_assign", "_assign", defArgs s_d_assign, defBody s_d_assign, defScope s_d_assign, [], []⟩
def D_d_take : He.DefD := ⟨("_take", none), "_take", "_take", defArgs s_d_take, defBody s_d_take, defScope s_d_take, [], []⟩
def D_d_emit : He.DefD := ⟨("_emit", none), "_emit", "_emit", defArgs s_d_emit, defBody s_d_emit, defScope s_d_emit, [], []⟩
def D_d_drop : He.DefD := ⟨("_drop", none), "_drop", "_drop", defArgs s_d_drop, defBody s_d_drop, defScope s_d_drop, [], []⟩
def D_d_double : He.DefD := ⟨("_double", none), "_double", "_double", defArgs s_d_double, defBody s_d_double, defScope s_d_double, [], []⟩
def D_d_exchange : He.DefD := ⟨("_exchange", none), "_exchange", "_exchange", defArgs s_d_exchange, defBody s_d_exchange, defScope s_d_exchange, [], []⟩
def D_d_test : He.DefD := ⟨("_test", none), "_test", "_test", defArgs s_d_test, defBody s_d_test, defScope s_d_test, [], []⟩
def D_d_call : He.DefD := ⟨("_call", none), "_call", "_call", defArgs s_d_call, defBody s_d_call, defScope s_d_call, [], []⟩
def D_d_call_low : He.DefD := ⟨("_call_low", none), "_call_low", "_call_low", defArgs s_d_call_low, defBody s_d_call_low, defScope s_d_call_low, [], []⟩
def D_d_return : He.DefD := ⟨("_return", none), "_return", "_return", defArgs s_d_return, defBody s_d_return, defScope s_d_return, [], []⟩
def D_init : He.DefD := ⟨("State", some "__init__"), "__init__", "State.__init__", defArgs s_init, defBody s_init, defScope s_init, [], []⟩
def D_pull : He.DefD := ⟨("State", some "pull"), "pull", "State.pull", defArgs s_pull, defBody s_pull, defScope s_pull, [], []⟩
def D_has_ended : He.DefD := ⟨("State", some "has_ended"), "has_ended", "State.has_ended", defArgs s_has_ended, defBody s_has_ended, defScope s_has_ended, [], []⟩
def D_step : He.DefD := ⟨("State", some "step"), "step", "State.step", defArgs s_step, defBody s_step, defScope s_step, [], []⟩
def D_advance : He.DefD := ⟨("State", some "advance"), "advance", "State.advance", defArgs s_advance, defBody s_advance, defScope s_advance, [], []⟩
def D_run : He.DefD := ⟨("run", none), "run", "run", defArgs s_run, defBody s_run, defScope s_run, [], []⟩
def D_codes_of : He.DefD := ⟨("codes_of", none), "codes_of", "codes_of", defArgs s_codes_of, defBody s_codes_of, defScope s_codes_of, [], []⟩
def D_checked_codes : He.DefD := ⟨("checked_codes", none), "checked_codes", "checked_codes", defArgs s_checked_codes, defBody s_checked_codes, defScope s_checked_codes, [], []⟩
def D_child_of : He.DefD := ⟨("child_of", none), "child_of", "child_of", defArgs s_child_of, defBody s_child_of, defScope s_child_of, [], []⟩
def D_child : He.DefD := ⟨("child", none), "child", "child", defArgs s_child, defBody s_child, defScope s_child, [], [((PySem.Str.ofString "fuel"), .int 100000)]⟩
def D_generations : He.DefD := ⟨("generations", none), "generations", "generations", defArgs s_generations, defBody s_generations, defScope s_generations, [], [((PySem.Str.ofString "fuel"), .int 100000)]⟩
def D_first_apart : He.DefD := ⟨("first_apart", none), "first_apart", "first_apart", defArgs s_first_apart, defBody s_first_apart, defScope s_first_apart, [], []⟩
def D_double : He.DefD := ⟨("double", none), "double", "double", defArgs s_double, defBody s_double, defScope s_double, [], [((PySem.Str.ofString "fuel"), .int 100000)]⟩
def D_rung_text : He.DefD := ⟨("rung_text", none), "rung_text", "rung_text", defArgs s_rung_text, defBody s_rung_text, defScope s_rung_text, [], []⟩
def D_l_number : He.DefD := ⟨("_law_number", none), "_law_number", "_law_number", defArgs s_l_number, defBody s_l_number, defScope s_l_number, [], []⟩
def D_l_draws : He.DefD := ⟨("_law_draws", none), "_law_draws", "_law_draws", defArgs s_l_draws, defBody s_l_draws, defScope s_l_draws, [], []⟩
def D_l_next : He.DefD := ⟨("_law_next", none), "_law_next", "_law_next", defArgs s_l_next, defBody s_l_next, defScope s_l_next, [], []⟩
def D_l_short : He.DefD := ⟨("_law_short", none), "_law_short", "_law_short", defArgs s_l_short, defBody s_l_short, defScope s_l_short, [], []⟩
def D_l_pull : He.DefD := ⟨("_law_pull", none), "_law_pull", "_law_pull", defArgs s_l_pull, defBody s_l_pull, defScope s_l_pull, [], []⟩
def D_l_emit : He.DefD := ⟨("_law_emit", none), "_law_emit", "_law_emit", defArgs s_l_emit, defBody s_l_emit, defScope s_l_emit, [], []⟩
def D_l_take : He.DefD := ⟨("_law_take", none), "_law_take", "_law_take", defArgs s_l_take, defBody s_l_take, defScope s_l_take, [], []⟩
def D_l_bracket : He.DefD := ⟨("_law_bracket", none), "_law_bracket", "_law_bracket", defArgs s_l_bracket, defBody s_l_bracket, defScope s_l_bracket, [], []⟩
def D_l_second_code : He.DefD := ⟨("_law_second_code", none), "_law_second_code", "_law_second_code", defArgs s_l_second_code, defBody s_l_second_code, defScope s_l_second_code, [], []⟩
def D_l_twig : He.DefD := ⟨("_law_twig", none), "_law_twig", "_law_twig", defArgs s_l_twig, defBody s_l_twig, defScope s_l_twig, [], []⟩
def D_l_text_codes : He.DefD := ⟨("_law_text_codes", none), "_law_text_codes", "_law_text_codes", defArgs s_l_text_codes, defBody s_l_text_codes, defScope s_l_text_codes, [], []⟩
def D_l_second : He.DefD := ⟨("_law_second", none), "_law_second", "_law_second", defArgs s_l_second, defBody s_l_second, defScope s_l_second, [], []⟩
def D_l_suspect : He.DefD := ⟨("_law_suspect", none), "_law_suspect", "_law_suspect", defArgs s_l_suspect, defBody s_l_suspect, defScope s_l_suspect, [], []⟩
def D_l_apart : He.DefD := ⟨("_law_apart", none), "_law_apart", "_law_apart", defArgs s_l_apart, defBody s_l_apart, defScope s_l_apart, [], []⟩
def D_l_short_text : He.DefD := ⟨("_law_short_text", none), "_law_short_text", "_law_short_text", defArgs s_l_short_text, defBody s_l_short_text, defScope s_l_short_text, [], []⟩
def D_l_short_program : He.DefD := ⟨("_law_short_program", none), "_law_short_program", "_law_short_program", defArgs s_l_short_program, defBody s_l_short_program, defScope s_l_short_program, [], []⟩
def D_l_compiler : He.DefD := ⟨("_law_compiler", none), "_law_compiler", "_law_compiler", defArgs s_l_compiler, defBody s_l_compiler, defScope s_l_compiler, [], []⟩
def D_law : He.DefD := ⟨("law", none), "law", "law", defArgs s_law, defBody s_law, defScope s_law, [], []⟩
def fn0 : List He.DefD := [D_nodes_of, D_table_of, D_d_push, D_d_plus, D_d_minus, D_d_digit, D_d_less, D_d_same, D_d_assign, D_d_take, D_d_emit, D_d_drop]
def fn1 : List He.DefD := [D_d_double, D_d_exchange, D_d_test, D_d_call, D_d_call_low, D_d_return, D_init, D_pull, D_has_ended, D_step, D_advance, D_run]
def fn2 : List He.DefD := [D_codes_of, D_checked_codes, D_child_of, D_child, D_generations, D_first_apart, D_double, D_rung_text, D_l_number, D_l_draws, D_l_next, D_l_short]
def fn3 : List He.DefD := [D_l_pull, D_l_emit, D_l_take, D_l_bracket, D_l_second_code, D_l_twig, D_l_text_codes, D_l_second, D_l_suspect, D_l_apart, D_l_short_text, D_l_short_program]
def fn4 : List He.DefD := [D_l_compiler, D_law]
def fn : List He.DefD := fn0 ++ fn1 ++ fn2 ++ fn3 ++ fn4
/-- the library's twin of two texts joined -/
abbrev cat : Str → Str → Str := PySem.W.Fast.tw3133850215942858360
theorem cat_eq (a b : Str) : cat a b = a ++ b := (congrFun (congrFun PySem.W.Fast.te3133850215942858360 a) b).symm
def printable : Str := Str.ofString " !\"#$&'()*+,-./0123456789:;<=>?@ABCDEFGHIJKLMNOPQRSTUVWXYZ[\\]^_`abcdefghijklmnopqrstuvwxyz{|}~"
def fa0 : List He.Fa := [(.free "len" : He.Fa), (.free "range" : He.Fa), (.free "tuple" : He.Fa), (.free "list" : He.Fa), (.free "int" : He.Fa), (.free "ord" : He.Fa), (.free "max" : He.Fa), (.glo "nodes_of" : He.Fa), (.glo "table_of" : He.Fa), (.glo "_push" : He.Fa), (.glo "_plus" : He.Fa), (.glo "_minus" : He.Fa)]
def fa1 : List He.Fa := [(.glo "_digit" : He.Fa), (.glo "_less" : He.Fa), (.glo "_same" : He.Fa), (.glo "_assign" : He.Fa), (.glo "_take" : He.Fa), (.glo "_emit" : He.Fa), (.glo "_drop" : He.Fa), (.glo "_double" : He.Fa), (.glo "_exchange" : He.Fa), (.glo "_test" : He.Fa), (.glo "_call" : He.Fa), (.glo "_call_low" : He.Fa)]
def fa2 : List He.Fa := [(.glo "_return" : He.Fa), (.glo "run" : He.Fa), (.glo "codes_of" : He.Fa), (.glo "checked_codes" : He.Fa), (.glo "child_of" : He.Fa), (.glo "child" : He.Fa), (.glo "generations" : He.Fa), (.glo "first_apart" : He.Fa), (.glo "double" : He.Fa), (.glo "rung_text" : He.Fa), (.glo "_law_number" : He.Fa), (.glo "_law_draws" : He.Fa)]
def fa3 : List He.Fa := [(.glo "_law_next" : He.Fa), (.glo "_law_short" : He.Fa), (.glo "_law_pull" : He.Fa), (.glo "_law_emit" : He.Fa), (.glo "_law_take" : He.Fa), (.glo "_law_bracket" : He.Fa), (.glo "_law_second_code" : He.Fa), (.glo "_law_twig" : He.Fa), (.glo "_law_text_codes" : He.Fa), (.glo "_law_second" : He.Fa), (.glo "_law_suspect" : He.Fa), (.glo "_law_apart" : He.Fa)]
def fa4 : List He.Fa := [(.glo "_law_short_text" : He.Fa), (.glo "_law_short_program" : He.Fa), (.glo "_law_compiler" : He.Fa), (.glo "law" : He.Fa), (.glo "State" : He.Fa), (.glo "DEEDS" : He.Fa), (.glo "TEXTS" : He.Fa), (.int "FIRST_LETTER" 97 : He.Fa), (.int "LAST_LETTER" 122 : He.Fa), (.int "FIRST_CAPITAL" 65 : He.Fa), (.int "LAST_CAPITAL" 90 : He.Fa), (.int "LAST_LOW" 199 : He.Fa)]
def fa5 : List He.Fa := [(.str "PRINTABLE" printable : He.Fa), (.cls "State" : He.Fa), (.noat "State" "image" : He.Fa), (.noat "State" "numbers" : He.Fa), (.noat "State" "table" : He.Fa), (.noat "State" "at" : He.Fa), (.noat "State" "stack" : He.Fa), (.noat "State" "store" : He.Fa), (.noat "State" "back" : He.Fa), (.noat "State" "place" : He.Fa), (.noat "State" "output" : He.Fa), (.noat "State" "steps" : He.Fa)]
def fa6 : List He.Fa := [(.meth "State" "pull" : He.Fa), (.meth "State" "has_ended" : He.Fa), (.meth "State" "step" : He.Fa), (.meth "State" "advance" : He.Fa), (.mkr "State" : He.Fa), (.keep "nodes_of" : He.Fa), (.keep "table_of" : He.Fa), (.keep "_push" : He.Fa), (.keep "_plus" : He.Fa), (.keep "_minus" : He.Fa), (.keep "_digit" : He.Fa), (.keep "_less" : He.Fa)]
def fa7 : List He.Fa := [(.keep "_same" : He.Fa), (.keep "_assign" : He.Fa), (.keep "_take" : He.Fa), (.keep "_emit" : He.Fa), (.keep "_drop" : He.Fa), (.keep "_double" : He.Fa), (.keep "_exchange" : He.Fa), (.keep "_test" : He.Fa), (.keep "_call" : He.Fa), (.keep "_call_low" : He.Fa), (.keep "_return" : He.Fa), (.keep "run" : He.Fa)]
def fa8 : List He.Fa := [(.keep "codes_of" : He.Fa), (.keep "checked_codes" : He.Fa), (.keep "child_of" : He.Fa), (.keep "child" : He.Fa), (.keep "generations" : He.Fa), (.keep "first_apart" : He.Fa), (.keep "double" : He.Fa), (.keep "rung_text" : He.Fa), (.keep "_law_number" : He.Fa), (.keep "_law_draws" : He.Fa), (.keep "_law_next" : He.Fa), (.keep "_law_short" : He.Fa)]
def fa9 : List He.Fa := [(.keep "_law_pull" : He.Fa), (.keep "_law_emit" : He.Fa), (.keep "_law_take" : He.Fa), (.keep "_law_bracket" : He.Fa), (.keep "_law_second_code" : He.Fa), (.keep "_law_twig" : He.Fa), (.keep "_law_text_codes" : He.Fa), (.keep "_law_second" : He.Fa), (.keep "_law_suspect" : He.Fa), (.keep "_law_apart" : He.Fa), (.keep "_law_short_text" : He.Fa), (.keep "_law_short_program" : He.Fa)]
def fa10 : List He.Fa := [(.keep "_law_compiler" : He.Fa), (.keep "law" : He.Fa)]
def fa : List He.Fa := fa0 ++ fa1 ++ fa2 ++ fa3 ++ fa4 ++ fa5 ++ fa6 ++ fa7 ++ fa8 ++ fa9 ++ fa10
/-! ### tables of the top -/
/-- the table of deeds, as the text has it -/
def deedNames : List (Int × Str) := [(35, "_push"), (43, "_plus"), (45, "_minus"), (42, "_digit"), (60, "_less"), (126, "_same"), (64, "_load"), (33, "_keep"), (61, "_assign"), (44, "_take"), (94, "_rewind"), (46, "_emit"), (38, "_cell"), (95, "_drop"), (34, "_double"), (92, "_exchange"), (63, "_test"), (40, "_call"), (36, "_call_low"), (41, "_return")]
def deedsL (K : PySem.W.Frag) : List DictEntry → List (Int × Str) → Bool
  | [], [] => true
  | e :: es, (i, x) :: D => (match e.key with | .int j _ => decide (j = i) | _ => false) && (decide (e.hash = hashInt i) && ((match e.val with | .ref a => Nat.beq a (He.ga K x) | _ => false) && deedsL K es D))
  | _, _ => false
def deedsB (K : PySem.W.Frag) : Bool := match K.lookup (He.ga K "DEEDS") with
  | some ⟨.type c, none, .dict es _, sl⟩ => decide (c = "dict") && (sl.isEmpty && (!(He.ga K "DEEDS" == sysModules) && deedsL K es.toList deedNames))
  | _ => false
abbrev tx_SECOND_0 : Str := Str.ofString "200>39:298>58:314>370>61:306>91:321>93:340>123:347>331>357>200:200#107=32#0#277#(,\"99=47#\\<226?c58"
abbrev tx_SECOND_1 : Str := Str.ofString "#<226?rc48#-*114=1#102=206>f236?35#r277#(0#\"114=102=c33#<249?c0#<206?41#0#277#(1>c$\"257?0#277#(206"
abbrev tx_SECOND_2 : Str := Str.ofString ">_206>110=97=111=m.o.a.n.)kk1#+107=)k259#(271#(109=)32#0#t259#(),\"99=0#<297?244>)290#(35#c277#(0#)2"
abbrev tx_SECOND_3 : Str := Str.ofString "90#(61#c277#(0#)290#(mc109=0#)271#(\"116=63#t277#(0#)271#(116=284#(109=t0#)116=284#(t109=0#)271#(116"
abbrev tx_SECOND_4 : Str := Str.ofString "=284#(t109=t0#)115=271#(116=63#ts259#(t109=0#)41#0#1#259#(109=0#)"
abbrev txt_SECOND : Str := (cat (cat (cat (cat tx_SECOND_0 tx_SECOND_1) tx_SECOND_2) tx_SECOND_3) tx_SECOND_4)
abbrev tx_PLAIN_0 : Str := Str.ofString "200=k32 0'3({,=c47c<[c58<|0][rc48-*=r1=f|f[35r'3(0\"=r=f]c33<[c0<=e|c$\"[0'3(|_]]]e0~}41 0'3(:1=n=a="
abbrev tx_PLAIN_1 : Str := Str.ofString "om.o.a.n.;:2kk1+=k;:3k'1('2(=m;:',\"=c0<[1=e|35c'3(]0;:=,\"=c0<[1=e|61c'3(]0;::,\"=c0<[1=e|mc=m]0;:["
abbrev tx_PLAIN_2 : Str := Str.ofString "'2(\"=t63t'3(0;:|'2(=t32 0t'1(=mt0;:]=t32 0t'1(t=m0;:{'2(=t32 0t'1(t=mt0;:}=s'2(=t63ts'1(t=m0;:;41 0"
abbrev tx_PLAIN_3 : Str := Str.ofString " 1'1(=m0;"
abbrev txt_PLAIN : Str := (cat (cat (cat tx_PLAIN_0 tx_PLAIN_1) tx_PLAIN_2) tx_PLAIN_3)
abbrev tx_TURNED_0 : Str := Str.ofString "0 1-=k32 0'3({,=c47c<[c58<|0][rc48-*=r1=f|f[35r'3(0\"=r=f]c33<[c0<=e|c$\"[0'3(|_]]]e0~}41 0'3(:1=n=a"
abbrev tx_TURNED_1 : Str := Str.ofString "=om.o.a.n.;:2kk1-=k;:3k'1('2(=m;:',\"=c0<[1=e|35c'3(]0;:=,\"=c0<[1=e|61c'3(]0;::,\"=c0<[1=e|mc=m]0;:"
abbrev tx_TURNED_2 : Str := Str.ofString "['2(\"=t63t'3(0;:|'2(=t32 0t'1(=mt0;:]=t32 0t'1(t=m0;:{'2(=t32 0t'1(t=mt0;:}=s'2(=t63ts'1(t=m0;:;41 "
abbrev tx_TURNED_3 : Str := Str.ofString "0 1'1(=m0;"
abbrev txt_TURNED : Str := (cat (cat (cat tx_TURNED_0 tx_TURNED_1) tx_TURNED_2) tx_TURNED_3)
def usedNames : List (Int × Str) := [(35, "_push"), (43, "_plus"), (45, "_minus"), (42, "_digit"), (60, "_less"), (126, "_same"), (61, "_assign"), (44, "_take"), (46, "_emit"), (95, "_drop"), (34, "_double"), (92, "_exchange"), (63, "_test"), (40, "_call"), (36, "_call_low"), (41, "_return")]
def exB (K : PySem.W.Frag) : Bool := deedsB K && decide ((usedNames.map fun q => He.ga K q.2).Nodup)
def ts : List He.Tab := [(fun K => He.ga K "TEXTS", [Str.ofString "first", Str.ofString "second", Str.ofString "plain", Str.ofString "turned"])]
def strAt (K : PySem.W.Frag) (k : Str) : Option Str := match PySem.W.nsIn K (He.ga K "TEXTS") k with
  | some (some (.str y _)) => some y
  | _ => none
def txs : List (Str × Str) := [(Str.ofString "second", txt_SECOND), (Str.ofString "plain", txt_PLAIN), (Str.ofString "turned", txt_TURNED)]
abbrev AlY : Type := He.AlX × List (Option Str)
def obsY (K : PySem.W.Frag) : AlY := ((He.obsT fa fn ts K, exB K), txs.map fun q => strAt K q.1)
def valY (w : World) : AlY := (He.valX fn ts w, txs.map fun q => some q.2)
/-- all objects that the top leaves -/
def asL : List Addr := List.range 500
def hk : PySem.W.Hook where
  α := AlY
  obs := fun s => obsY (He.frG s.heap.get? asL)
  val := fun w => valY w
  says := fun w h => ∃ K : PySem.W.Frag, K.In h ∧ obsY K = valY w
  of := fun _ _ e => ⟨_, He.frG_in, e⟩
  keeps := fun _ _ _ ⟨K, hK, c⟩ k => ⟨K, PySem.W.Frag.In.keeps hK k, c⟩
/-- what every def below may lean on -/
structure Wd (K : PySem.W.Frag) (mg : Str → Option Value) (w : World) : Prop where
  o : obsY K = valY w
  h : ∃ h : Heap, K.In h ∧ h.Ns mainGlobals mg
section
variable {K : PySem.W.Frag} {mg : Str → Option Value} {w : World}
theorem Wd.c (W : Wd K mg w) : He.SaysT fa fn ts w K := congrArg (fun z : AlY => z.1.1) W.o
theorem Wd.e (W : Wd K mg w) : exB K = true := congrArg (fun z : AlY => z.1.2) W.o
theorem Wd.tx (W : Wd K mg w) (i : Nat) {q : Str × Str} (h : txs[i]? = some q) : ∃ t, PySem.W.nsIn K (He.ga K "TEXTS") q.1 = some (some (.str q.2 t)) := by
  have e : txs.map (fun q => strAt K q.1) = txs.map fun q => some q.2 := congrArg (fun z : AlY => z.2) W.o
  have e2 : (txs.map fun q => strAt K q.1)[i]? = (txs.map fun q => some q.2)[i]? := by rw [e]
  rw [List.getElem?_map, List.getElem?_map, h] at e2
  have e3 : strAt K q.1 = some q.2 := Option.some.inj e2
  unfold strAt at e3
  split at e3
  · rename_i y t hy
    exact ⟨t, by rw [hy, Option.some.inj e3]⟩
  · cases e3
theorem Wd.fact (W : Wd K mg w) (i : Nat) {f : He.Fa} (h : fa[i]? = some f) : f.ok K = true := W.c.d.fact i h
theorem Wd.mgo (W : Wd K mg w) {x : Str} (c : (He.Fa.glo x).ok K = true) : mg x = some (.ref (He.ga K x)) := by
  obtain ⟨h, X, G⟩ := W.h
  exact He.glo_ok X G c
theorem Wd.mgn (W : Wd K mg w) {x : Str} (c : (He.Fa.free x).ok K = true) : mg x = none := by
  obtain ⟨h, X, G⟩ := W.h
  exact He.free_ok X G c
theorem Wd.no_len (W : Wd K mg w) : mg "len" = none := W.mgn (W.fact 0 (f := .free "len") rfl)
theorem Wd.no_range (W : Wd K mg w) : mg "range" = none := W.mgn (W.fact 1 (f := .free "range") rfl)
theorem Wd.no_tuple (W : Wd K mg w) : mg "tuple" = none := W.mgn (W.fact 2 (f := .free "tuple") rfl)
theorem Wd.no_list (W : Wd K mg w) : mg "list" = none := W.mgn (W.fact 3 (f := .free "list") rfl)
theorem Wd.no_int (W : Wd K mg w) : mg "int" = none := W.mgn (W.fact 4 (f := .free "int") rfl)
theorem Wd.no_ord (W : Wd K mg w) : mg "ord" = none := W.mgn (W.fact 5 (f := .free "ord") rfl)
theorem Wd.no_max (W : Wd K mg w) : mg "max" = none := W.mgn (W.fact 6 (f := .free "max") rfl)
theorem Wd.g_nodes_of (W : Wd K mg w) : mg "nodes_of" = some (.ref (He.ga K "nodes_of")) := W.mgo (W.fact 7 (f := .glo "nodes_of") rfl)
theorem Wd.g_table_of (W : Wd K mg w) : mg "table_of" = some (.ref (He.ga K "table_of")) := W.mgo (W.fact 8 (f := .glo "table_of") rfl)
theorem Wd.g_d_push (W : Wd K mg w) : mg "_push" = some (.ref (He.ga K "_push")) := W.mgo (W.fact 9 (f := .glo "_push") rfl)
theorem Wd.g_d_plus (W : Wd K mg w) : mg "_plus" = some (.ref (He.ga K "_plus")) := W.mgo (W.fact 10 (f := .glo "_plus") rfl)
theorem Wd.g_d_minus (W : Wd K mg w) : mg "_minus" = some (.ref (He.ga K "_minus")) := W.mgo (W.fact 11 (f := .glo "_minus") rfl)
theorem Wd.g_d_digit (W : Wd K mg w) : mg "_digit" = some (.ref (He.ga K "_digit")) := W.mgo (W.fact 12 (f := .glo "_digit") rfl)
theorem Wd.g_d_less (W : Wd K mg w) : mg "_less" = some (.ref (He.ga K "_less")) := W.mgo (W.fact 13 (f := .glo "_less") rfl)
theorem Wd.g_d_same (W : Wd K mg w) : mg "_same" = some (.ref (He.ga K "_same")) := W.mgo (W.fact 14 (f := .glo "_same") rfl)
theorem Wd.g_d_assign (W : Wd K mg w) : mg "_assign" = some (.ref (He.ga K "_assign")) := W.mgo (W.fact 15 (f := .glo "_assign") rfl)
theorem Wd.g_d_take (W : Wd K mg w) : mg "_take" = some (.ref (He.ga K "_take")) := W.mgo (W.fact 16 (f := .glo "_take") rfl)
theorem Wd.g_d_emit (W : Wd K mg w) : mg "_emit" = some (.ref (He.ga K "_emit")) := W.mgo (W.fact 17 (f := .glo "_emit") rfl)
theorem Wd.g_d_drop (W : Wd K mg w) : mg "_drop" = some (.ref (He.ga K "_drop")) := W.mgo (W.fact 18 (f := .glo "_drop") rfl)
theorem Wd.g_d_double (W : Wd K mg w) : mg "_double" = some (.ref (He.ga K "_double")) := W.mgo (W.fact 19 (f := .glo "_double") rfl)
theorem Wd.g_d_exchange (W : Wd K mg w) : mg "_exchange" = some (.ref (He.ga K "_exchange")) := W.mgo (W.fact 20 (f := .glo "_exchange") rfl)
theorem Wd.g_d_test (W : Wd K mg w) : mg "_test" = some (.ref (He.ga K "_test")) := W.mgo (W.fact 21 (f := .glo "_test") rfl)
theorem Wd.g_d_call (W : Wd K mg w) : mg "_call" = some (.ref (He.ga K "_call")) := W.mgo (W.fact 22 (f := .glo "_call") rfl)
theorem Wd.g_d_call_low (W : Wd K mg w) : mg "_call_low" = some (.ref (He.ga K "_call_low")) := W.mgo (W.fact 23 (f := .glo "_call_low") rfl)
theorem Wd.g_d_return (W : Wd K mg w) : mg "_return" = some (.ref (He.ga K "_return")) := W.mgo (W.fact 24 (f := .glo "_return") rfl)
theorem Wd.g_run (W : Wd K mg w) : mg "run" = some (.ref (He.ga K "run")) := W.mgo (W.fact 25 (f := .glo "run") rfl)
theorem Wd.g_codes_of (W : Wd K mg w) : mg "codes_of" = some (.ref (He.ga K "codes_of")) := W.mgo (W.fact 26 (f := .glo "codes_of") rfl)
theorem Wd.g_checked_codes (W : Wd K mg w) : mg "checked_codes" = some (.ref (He.ga K "checked_codes")) := W.mgo (W.fact 27 (f := .glo "checked_codes") rfl)
theorem Wd.g_child_of (W : Wd K mg w) : mg "child_of" = some (.ref (He.ga K "child_of")) := W.mgo (W.fact 28 (f := .glo "child_of") rfl)
theorem Wd.g_child (W : Wd K mg w) : mg "child" = some (.ref (He.ga K "child")) := W.mgo (W.fact 29 (f := .glo "child") rfl)
theorem Wd.g_generations (W : Wd K mg w) : mg "generations" = some (.ref (He.ga K "generations")) := W.mgo (W.fact 30 (f := .glo "generations") rfl)
theorem Wd.g_first_apart (W : Wd K mg w) : mg "first_apart" = some (.ref (He.ga K "first_apart")) := W.mgo (W.fact 31 (f := .glo "first_apart") rfl)
theorem Wd.g_double (W : Wd K mg w) : mg "double" = some (.ref (He.ga K "double")) := W.mgo (W.fact 32 (f := .glo "double") rfl)
theorem Wd.g_rung_text (W : Wd K mg w) : mg "rung_text" = some (.ref (He.ga K "rung_text")) := W.mgo (W.fact 33 (f := .glo "rung_text") rfl)
theorem Wd.g_l_number (W : Wd K mg w) : mg "_law_number" = some (.ref (He.ga K "_law_number")) := W.mgo (W.fact 34 (f := .glo "_law_number") rfl)
theorem Wd.g_l_draws (W : Wd K mg w) : mg "_law_draws" = some (.ref (He.ga K "_law_draws")) := W.mgo (W.fact 35 (f := .glo "_law_draws") rfl)
theorem Wd.g_l_next (W : Wd K mg w) : mg "_law_next" = some (.ref (He.ga K "_law_next")) := W.mgo (W.fact 36 (f := .glo "_law_next") rfl)
theorem Wd.g_l_short (W : Wd K mg w) : mg "_law_short" = some (.ref (He.ga K "_law_short")) := W.mgo (W.fact 37 (f := .glo "_law_short") rfl)
theorem Wd.g_l_pull (W : Wd K mg w) : mg "_law_pull" = some (.ref (He.ga K "_law_pull")) := W.mgo (W.fact 38 (f := .glo "_law_pull") rfl)
theorem Wd.g_l_emit (W : Wd K mg w) : mg "_law_emit" = some (.ref (He.ga K "_law_emit")) := W.mgo (W.fact 39 (f := .glo "_law_emit") rfl)
theorem Wd.g_l_take (W : Wd K mg w) : mg "_law_take" = some (.ref (He.ga K "_law_take")) := W.mgo (W.fact 40 (f := .glo "_law_take") rfl)
theorem Wd.g_l_bracket (W : Wd K mg w) : mg "_law_bracket" = some (.ref (He.ga K "_law_bracket")) := W.mgo (W.fact 41 (f := .glo "_law_bracket") rfl)
theorem Wd.g_l_second_code (W : Wd K mg w) : mg "_law_second_code" = some (.ref (He.ga K "_law_second_code")) := W.mgo (W.fact 42 (f := .glo "_law_second_code") rfl)
theorem Wd.g_l_twig (W : Wd K mg w) : mg "_law_twig" = some (.ref (He.ga K "_law_twig")) := W.mgo (W.fact 43 (f := .glo "_law_twig") rfl)
theorem Wd.g_l_text_codes (W : Wd K mg w) : mg "_law_text_codes" = some (.ref (He.ga K "_law_text_codes")) := W.mgo (W.fact 44 (f := .glo "_law_text_codes") rfl)
theorem Wd.g_l_second (W : Wd K mg w) : mg "_law_second" = some (.ref (He.ga K "_law_second")) := W.mgo (W.fact 45 (f := .glo "_law_second") rfl)
theorem Wd.g_l_suspect (W : Wd K mg w) : mg "_law_suspect" = some (.ref (He.ga K "_law_suspect")) := W.mgo (W.fact 46 (f := .glo "_law_suspect") rfl)
theorem Wd.g_l_apart (W : Wd K mg w) : mg "_law_apart" = some (.ref (He.ga K "_law_apart")) := W.mgo (W.fact 47 (f := .glo "_law_apart") rfl)
theorem Wd.g_l_short_text (W : Wd K mg w) : mg "_law_short_text" = some (.ref (He.ga K "_law_short_text")) := W.mgo (W.fact 48 (f := .glo "_law_short_text") rfl)
theorem Wd.g_l_short_program (W : Wd K mg w) : mg "_law_short_program" = some (.ref (He.ga K "_law_short_program")) := W.mgo (W.fact 49 (f := .glo "_law_short_program") rfl)
theorem Wd.g_l_compiler (W : Wd K mg w) : mg "_law_compiler" = some (.ref (He.ga K "_law_compiler")) := W.mgo (W.fact 50 (f := .glo "_law_compiler") rfl)
theorem Wd.g_law (W : Wd K mg w) : mg "law" = some (.ref (He.ga K "law")) := W.mgo (W.fact 51 (f := .glo "law") rfl)
theorem Wd.g_State (W : Wd K mg w) : mg "State" = some (.ref (He.ga K "State")) := W.mgo (W.fact 52 (f := .glo "State") rfl)
theorem Wd.g_DEEDS (W : Wd K mg w) : mg "DEEDS" = some (.ref (He.ga K "DEEDS")) := W.mgo (W.fact 53 (f := .glo "DEEDS") rfl)
theorem Wd.g_TEXTS (W : Wd K mg w) : mg "TEXTS" = some (.ref (He.ga K "TEXTS")) := W.mgo (W.fact 54 (f := .glo "TEXTS") rfl)
theorem Wd.i_FIRST_LETTER (W : Wd K mg w) : ∃ t, mg "FIRST_LETTER" = some (.int 97 t) := by
  obtain ⟨h, X, G⟩ := W.h
  exact He.int_ok X G (W.fact 55 (f := .int "FIRST_LETTER" 97) rfl)
theorem Wd.i_LAST_LETTER (W : Wd K mg w) : ∃ t, mg "LAST_LETTER" = some (.int 122 t) := by
  obtain ⟨h, X, G⟩ := W.h
  exact He.int_ok X G (W.fact 56 (f := .int "LAST_LETTER" 122) rfl)
theorem Wd.i_FIRST_CAPITAL (W : Wd K mg w) : ∃ t, mg "FIRST_CAPITAL" = some (.int 65 t) := by
  obtain ⟨h, X, G⟩ := W.h
  exact He.int_ok X G (W.fact 57 (f := .int "FIRST_CAPITAL" 65) rfl)
theorem Wd.i_LAST_CAPITAL (W : Wd K mg w) : ∃ t, mg "LAST_CAPITAL" = some (.int 90 t) := by
  obtain ⟨h, X, G⟩ := W.h
  exact He.int_ok X G (W.fact 58 (f := .int "LAST_CAPITAL" 90) rfl)
theorem Wd.i_LAST_LOW (W : Wd K mg w) : ∃ t, mg "LAST_LOW" = some (.int 199 t) := by
  obtain ⟨h, X, G⟩ := W.h
  exact He.int_ok X G (W.fact 59 (f := .int "LAST_LOW" 199) rfl)
theorem Wd.z_PRINTABLE (W : Wd K mg w) : ∃ t, mg "PRINTABLE" = some (.str printable t) := by
  obtain ⟨h, X, G⟩ := W.h
  exact He.str_ok X G (W.fact 60 (f := .str "PRINTABLE" printable) rfl)
theorem Wd.c_State (W : Wd K mg w) : Cls K (He.ga K "State") := He.cls_ok (W.fact 61 (f := .cls "State") rfl)
theorem Wd.n_image (W : Wd K mg w) : NoAttr K (He.ga K "State") "image" := He.noat_ok (W.fact 62 (f := .noat "State" "image") rfl)
theorem Wd.n_numbers (W : Wd K mg w) : NoAttr K (He.ga K "State") "numbers" := He.noat_ok (W.fact 63 (f := .noat "State" "numbers") rfl)
theorem Wd.n_table (W : Wd K mg w) : NoAttr K (He.ga K "State") "table" := He.noat_ok (W.fact 64 (f := .noat "State" "table") rfl)
theorem Wd.n_at (W : Wd K mg w) : NoAttr K (He.ga K "State") "at" := He.noat_ok (W.fact 65 (f := .noat "State" "at") rfl)
theorem Wd.n_stack (W : Wd K mg w) : NoAttr K (He.ga K "State") "stack" := He.noat_ok (W.fact 66 (f := .noat "State" "stack") rfl)
theorem Wd.n_store (W : Wd K mg w) : NoAttr K (He.ga K "State") "store" := He.noat_ok (W.fact 67 (f := .noat "State" "store") rfl)
theorem Wd.n_back (W : Wd K mg w) : NoAttr K (He.ga K "State") "back" := He.noat_ok (W.fact 68 (f := .noat "State" "back") rfl)
theorem Wd.n_place (W : Wd K mg w) : NoAttr K (He.ga K "State") "place" := He.noat_ok (W.fact 69 (f := .noat "State" "place") rfl)
theorem Wd.n_output (W : Wd K mg w) : NoAttr K (He.ga K "State") "output" := He.noat_ok (W.fact 70 (f := .noat "State" "output") rfl)
theorem Wd.n_steps (W : Wd K mg w) : NoAttr K (He.ga K "State") "steps" := He.noat_ok (W.fact 71 (f := .noat "State" "steps") rfl)
theorem Wd.m_pull (W : Wd K mg w) : Meth K (He.ga K "State") "pull" (He.ma K (He.ga K "State") "pull") := He.meth_ok (W.fact 72 (f := .meth "State" "pull") rfl)
theorem Wd.m_has_ended (W : Wd K mg w) : Meth K (He.ga K "State") "has_ended" (He.ma K (He.ga K "State") "has_ended") := He.meth_ok (W.fact 73 (f := .meth "State" "has_ended") rfl)
theorem Wd.m_step (W : Wd K mg w) : Meth K (He.ga K "State") "step" (He.ma K (He.ga K "State") "step") := He.meth_ok (W.fact 74 (f := .meth "State" "step") rfl)
theorem Wd.m_advance (W : Wd K mg w) : Meth K (He.ga K "State") "advance" (He.ma K (He.ga K "State") "advance") := He.meth_ok (W.fact 75 (f := .meth "State" "advance") rfl)
theorem Wd.k_State (W : Wd K mg w) : Mk K (He.ga K "State") (He.ma K (He.ga K "State") "__init__") := He.mkr_ok (W.fact 76 (f := .mkr "State") rfl)
theorem Wd.p_nodes_of (W : Wd K mg w) : PySem.W.keepIn K (.ref (He.ga K "nodes_of")) = true := He.keep_ok (W.fact 77 (f := .keep "nodes_of") rfl)
theorem Wd.p_table_of (W : Wd K mg w) : PySem.W.keepIn K (.ref (He.ga K "table_of")) = true := He.keep_ok (W.fact 78 (f := .keep "table_of") rfl)
theorem Wd.p_d_push (W : Wd K mg w) : PySem.W.keepIn K (.ref (He.ga K "_push")) = true := He.keep_ok (W.fact 79 (f := .keep "_push") rfl)
theorem Wd.p_d_plus (W : Wd K mg w) : PySem.W.keepIn K (.ref (He.ga K "_plus")) = true := He.keep_ok (W.fact 80 (f := .keep "_plus") rfl)
theorem Wd.p_d_minus (W : Wd K mg w) : PySem.W.keepIn K (.ref (He.ga K "_minus")) = true := He.keep_ok (W.fact 81 (f := .keep "_minus") rfl)
theorem Wd.p_d_digit (W : Wd K mg w) : PySem.W.keepIn K (.ref (He.ga K "_digit")) = true := He.keep_ok (W.fact 82 (f := .keep "_digit") rfl)
theorem Wd.p_d_less (W : Wd K mg w) : PySem.W.keepIn K (.ref (He.ga K "_less")) = true := He.keep_ok (W.fact 83 (f := .keep "_less") rfl)
theorem Wd.p_d_same (W : Wd K mg w) : PySem.W.keepIn K (.ref (He.ga K "_same")) = true := He.keep_ok (W.fact 84 (f := .keep "_same") rfl)
theorem Wd.p_d_assign (W : Wd K mg w) : PySem.W.keepIn K (.ref (He.ga K "_assign")) = true := He.keep_ok (W.fact 85 (f := .keep "_assign") rfl)
theorem Wd.p_d_take (W : Wd K mg w) : PySem.W.keepIn K (.ref (He.ga K "_take")) = true := He.keep_ok (W.fact 86 (f := .keep "_take") rfl)
theorem Wd.p_d_emit (W : Wd K mg w) : PySem.W.keepIn K (.ref (He.ga K "_emit")) = true := He.keep_ok (W.fact 87 (f := .keep "_emit") rfl)
theorem Wd.p_d_drop (W : Wd K mg w) : PySem.W.keepIn K (.ref (He.ga K "_drop")) = true := He.keep_ok (W.fact 88 (f := .keep "_drop") rfl)
theorem Wd.p_d_double (W : Wd K mg w) : PySem.W.keepIn K (.ref (He.ga K "_double")) = true := He.keep_ok (W.fact 89 (f := .keep "_double") rfl)
theorem Wd.p_d_exchange (W : Wd K mg w) : PySem.W.keepIn K (.ref (He.ga K "_exchange")) = true := He.keep_ok (W.fact 90 (f := .keep "_exchange") rfl)
theorem Wd.p_d_test (W : Wd K mg w) : PySem.W.keepIn K (.ref (He.ga K "_test")) = true := He.keep_ok (W.fact 91 (f := .keep "_test") rfl)
theorem Wd.p_d_call (W : Wd K mg w) : PySem.W.keepIn K (.ref (He.ga K "_call")) = true := He.keep_ok (W.fact 92 (f := .keep "_call") rfl)
theorem Wd.p_d_call_low (W : Wd K mg w) : PySem.W.keepIn K (.ref (He.ga K "_call_low")) = true := He.keep_ok (W.fact 93 (f := .keep "_call_low") rfl)
theorem Wd.p_d_return (W : Wd K mg w) : PySem.W.keepIn K (.ref (He.ga K "_return")) = true := He.keep_ok (W.fact 94 (f := .keep "_return") rfl)
theorem Wd.p_run (W : Wd K mg w) : PySem.W.keepIn K (.ref (He.ga K "run")) = true := He.keep_ok (W.fact 95 (f := .keep "run") rfl)
theorem Wd.p_codes_of (W : Wd K mg w) : PySem.W.keepIn K (.ref (He.ga K "codes_of")) = true := He.keep_ok (W.fact 96 (f := .keep "codes_of") rfl)
theorem Wd.p_checked_codes (W : Wd K mg w) : PySem.W.keepIn K (.ref (He.ga K "checked_codes")) = true := He.keep_ok (W.fact 97 (f := .keep "checked_codes") rfl)
theorem Wd.p_child_of (W : Wd K mg w) : PySem.W.keepIn K (.ref (He.ga K "child_of")) = true := He.keep_ok (W.fact 98 (f := .keep "child_of") rfl)
theorem Wd.p_child (W : Wd K mg w) : PySem.W.keepIn K (.ref (He.ga K "child")) = true := He.keep_ok (W.fact 99 (f := .keep "child") rfl)
theorem Wd.p_generations (W : Wd K mg w) : PySem.W.keepIn K (.ref (He.ga K "generations")) = true := He.keep_ok (W.fact 100 (f := .keep "generations") rfl)
theorem Wd.p_first_apart (W : Wd K mg w) : PySem.W.keepIn K (.ref (He.ga K "first_apart")) = true := He.keep_ok (W.fact 101 (f := .keep "first_apart") rfl)
theorem Wd.p_double (W : Wd K mg w) : PySem.W.keepIn K (.ref (He.ga K "double")) = true := He.keep_ok (W.fact 102 (f := .keep "double") rfl)
theorem Wd.p_rung_text (W : Wd K mg w) : PySem.W.keepIn K (.ref (He.ga K "rung_text")) = true := He.keep_ok (W.fact 103 (f := .keep "rung_text") rfl)
theorem Wd.p_l_number (W : Wd K mg w) : PySem.W.keepIn K (.ref (He.ga K "_law_number")) = true := He.keep_ok (W.fact 104 (f := .keep "_law_number") rfl)
theorem Wd.p_l_draws (W : Wd K mg w) : PySem.W.keepIn K (.ref (He.ga K "_law_draws")) = true := He.keep_ok (W.fact 105 (f := .keep "_law_draws") rfl)
theorem Wd.p_l_next (W : Wd K mg w) : PySem.W.keepIn K (.ref (He.ga K "_law_next")) = true := He.keep_ok (W.fact 106 (f := .keep "_law_next") rfl)
theorem Wd.p_l_short (W : Wd K mg w) : PySem.W.keepIn K (.ref (He.ga K "_law_short")) = true := He.keep_ok (W.fact 107 (f := .keep "_law_short") rfl)
theorem Wd.p_l_pull (W : Wd K mg w) : PySem.W.keepIn K (.ref (He.ga K "_law_pull")) = true := He.keep_ok (W.fact 108 (f := .keep "_law_pull") rfl)
theorem Wd.p_l_emit (W : Wd K mg w) : PySem.W.keepIn K (.ref (He.ga K "_law_emit")) = true := He.keep_ok (W.fact 109 (f := .keep "_law_emit") rfl)
theorem Wd.p_l_take (W : Wd K mg w) : PySem.W.keepIn K (.ref (He.ga K "_law_take")) = true := He.keep_ok (W.fact 110 (f := .keep "_law_take") rfl)
theorem Wd.p_l_bracket (W : Wd K mg w) : PySem.W.keepIn K (.ref (He.ga K "_law_bracket")) = true := He.keep_ok (W.fact 111 (f := .keep "_law_bracket") rfl)
theorem Wd.p_l_second_code (W : Wd K mg w) : PySem.W.keepIn K (.ref (He.ga K "_law_second_code")) = true := He.keep_ok (W.fact 112 (f := .keep "_law_second_code") rfl)
theorem Wd.p_l_twig (W : Wd K mg w) : PySem.W.keepIn K (.ref (He.ga K "_law_twig")) = true := He.keep_ok (W.fact 113 (f := .keep "_law_twig") rfl)
theorem Wd.p_l_text_codes (W : Wd K mg w) : PySem.W.keepIn K (.ref (He.ga K "_law_text_codes")) = true := He.keep_ok (W.fact 114 (f := .keep "_law_text_codes") rfl)
theorem Wd.p_l_second (W : Wd K mg w) : PySem.W.keepIn K (.ref (He.ga K "_law_second")) = true := He.keep_ok (W.fact 115 (f := .keep "_law_second") rfl)
theorem Wd.p_l_suspect (W : Wd K mg w) : PySem.W.keepIn K (.ref (He.ga K "_law_suspect")) = true := He.keep_ok (W.fact 116 (f := .keep "_law_suspect") rfl)
theorem Wd.p_l_apart (W : Wd K mg w) : PySem.W.keepIn K (.ref (He.ga K "_law_apart")) = true := He.keep_ok (W.fact 117 (f := .keep "_law_apart") rfl)
theorem Wd.p_l_short_text (W : Wd K mg w) : PySem.W.keepIn K (.ref (He.ga K "_law_short_text")) = true := He.keep_ok (W.fact 118 (f := .keep "_law_short_text") rfl)
theorem Wd.p_l_short_program (W : Wd K mg w) : PySem.W.keepIn K (.ref (He.ga K "_law_short_program")) = true := He.keep_ok (W.fact 119 (f := .keep "_law_short_program") rfl)
theorem Wd.p_l_compiler (W : Wd K mg w) : PySem.W.keepIn K (.ref (He.ga K "_law_compiler")) = true := He.keep_ok (W.fact 120 (f := .keep "_law_compiler") rfl)
theorem Wd.p_law (W : Wd K mg w) : PySem.W.keepIn K (.ref (He.ga K "law")) = true := He.keep_ok (W.fact 121 (f := .keep "law") rfl)
theorem Wd.d_nodes_of (W : Wd K mg w) : ∃ fd, FunD K "nodes_of" "nodes_of" (defArgs s_nodes_of) (defBody s_nodes_of) (defScope s_nodes_of) [] [] (He.ga K "nodes_of") fd := W.c.d.def_ 0 (d := D_nodes_of) rfl
theorem Wd.d_table_of (W : Wd K mg w) : ∃ fd, FunD K "table_of" "table_of" (defArgs s_table_of) (defBody s_table_of) (defScope s_table_of) [] [] (He.ga K "table_of") fd := W.c.d.def_ 1 (d := D_table_of) rfl
theorem Wd.d_d_push (W : Wd K mg w) : ∃ fd, FunD K "_push" "_push" (defArgs s_d_push) (defBody s_d_push) (defScope s_d_push) [] [] (He.ga K "_push") fd := W.c.d.def_ 2 (d := D_d_push) rfl
theorem Wd.d_d_plus (W : Wd K mg w) : ∃ fd, FunD K "_plus" "_plus" (defArgs s_d_plus) (defBody s_d_plus) (defScope s_d_plus) [] [] (He.ga K "_plus") fd := W.c.d.def_ 3 (d := D_d_plus) rfl
theorem Wd.d_d_minus (W : Wd K mg w) : ∃ fd, FunD K "_minus" "_minus" (defArgs s_d_minus) (defBody s_d_minus) (defScope s_d_minus) [] [] (He.ga K "_minus") fd := W.c.d.def_ 4 (d := D_d_minus) rfl
theorem Wd.d_d_digit (W : Wd K mg w) : ∃ fd, FunD K "_digit" "_digit" (defArgs s_d_digit) (defBody s_d_digit) (defScope s_d_digit) [] [] (He.ga K "_digit") fd := W.c.d.def_ 5 (d := D_d_digit) rfl
theorem Wd.d_d_less (W : Wd K mg w) : ∃ fd, FunD K "_less" "_less" (defArgs s_d_less) (defBody s_d_less) (defScope s_d_less) [] [] (He.ga K "_less") fd := W.c.d.def_ 6 (d := D_d_less) rfl
theorem Wd.d_d_same (W : Wd K mg w) : ∃ fd, FunD K "_same" "_same" (defArgs s_d_same) (defBody s_d_same) (defScope s_d_same) [] [] (He.ga K "_same") fd := W.c.d.def_ 7 (d := D_d_same) rfl
theorem Wd.d_d_assign (W : Wd K mg w) : ∃ fd, FunD K "_assign" "_assign" (defArgs s_d_assign) (defBody s_d_assign) (defScope s_d_assign) [] [] (He.ga K "_assign") fd := W.c.d.def_ 8 (d := D_d_assign) rfl
theorem Wd.d_d_take (W : Wd K mg w) : ∃ fd, FunD K "_take" "_take" (defArgs s_d_take) (defBody s_d_take) (defScope s_d_take) [] [] (He.ga K "_take") fd := W.c.d.def_ 9 (d := D_d_take) rfl
theorem Wd.d_d_emit (W : Wd K mg w) : ∃ fd, FunD K "_emit" "_emit" (defArgs s_d_emit) (defBody s_d_emit) (defScope s_d_emit) [] [] (He.ga K "_emit") fd := W.c.d.def_ 10 (d := D_d_emit) rfl
theorem Wd.d_d_drop (W : Wd K mg w) : ∃ fd, FunD K "_drop" "_drop" (defArgs s_d_drop) (defBody s_d_drop) (defScope s_d_drop) [] [] (He.ga K "_drop") fd := W.c.d.def_ 11 (d := D_d_drop) rfl
theorem Wd.d_d_double (W : Wd K mg w) : ∃ fd, FunD K "_double" "_double" (defArgs s_d_double) (defBody s_d_double) (defScope s_d_double) [] [] (He.ga K "_double") fd := W.c.d.def_ 12 (d := D_d_double) rfl
theorem Wd.d_d_exchange (W : Wd K mg w) : ∃ fd, FunD K "_exchange" "_exchange" (defArgs s_d_exchange) (defBody s_d_exchange) (defScope s_d_exchange) [] [] (He.ga K "_exchange") fd := W.c.d.def_ 13 (d := D_d_exchange) rfl
theorem Wd.d_d_test (W : Wd K mg w) : ∃ fd, FunD K "_test" "_test" (defArgs s_d_test) (defBody s_d_test) (defScope s_d_test) [] [] (He.ga K "_test") fd := W.c.d.def_ 14 (d := D_d_test) rfl
theorem Wd.d_d_call (W : Wd K mg w) : ∃ fd, FunD K "_call" "_call" (defArgs s_d_call) (defBody s_d_call) (defScope s_d_call) [] [] (He.ga K "_call") fd := W.c.d.def_ 15 (d := D_d_call) rfl
theorem Wd.d_d_call_low (W : Wd K mg w) : ∃ fd, FunD K "_call_low" "_call_low" (defArgs s_d_call_low) (defBody s_d_call_low) (defScope s_d_call_low) [] [] (He.ga K "_call_low") fd := W.c.d.def_ 16 (d := D_d_call_low) rfl
theorem Wd.d_d_return (W : Wd K mg w) : ∃ fd, FunD K "_return" "_return" (defArgs s_d_return) (defBody s_d_return) (defScope s_d_return) [] [] (He.ga K "_return") fd := W.c.d.def_ 17 (d := D_d_return) rfl
theorem Wd.d_init (W : Wd K mg w) : ∃ fd, FunD K "__init__" "State.__init__" (defArgs s_init) (defBody s_init) (defScope s_init) [] [] (He.ma K (He.ga K "State") "__init__") fd := W.c.d.def_ 18 (d := D_init) rfl
theorem Wd.d_pull (W : Wd K mg w) : ∃ fd, FunD K "pull" "State.pull" (defArgs s_pull) (defBody s_pull) (defScope s_pull) [] [] (He.ma K (He.ga K "State") "pull") fd := W.c.d.def_ 19 (d := D_pull) rfl
theorem Wd.d_has_ended (W : Wd K mg w) : ∃ fd, FunD K "has_ended" "State.has_ended" (defArgs s_has_ended) (defBody s_has_ended) (defScope s_has_ended) [] [] (He.ma K (He.ga K "State") "has_ended") fd := W.c.d.def_ 20 (d := D_has_ended) rfl
theorem Wd.d_step (W : Wd K mg w) : ∃ fd, FunD K "step" "State.step" (defArgs s_step) (defBody s_step) (defScope s_step) [] [] (He.ma K (He.ga K "State") "step") fd := W.c.d.def_ 21 (d := D_step) rfl
theorem Wd.d_advance (W : Wd K mg w) : ∃ fd, FunD K "advance" "State.advance" (defArgs s_advance) (defBody s_advance) (defScope s_advance) [] [] (He.ma K (He.ga K "State") "advance") fd := W.c.d.def_ 22 (d := D_advance) rfl
theorem Wd.d_run (W : Wd K mg w) : ∃ fd, FunD K "run" "run" (defArgs s_run) (defBody s_run) (defScope s_run) [] [] (He.ga K "run") fd := W.c.d.def_ 23 (d := D_run) rfl
theorem Wd.d_codes_of (W : Wd K mg w) : ∃ fd, FunD K "codes_of" "codes_of" (defArgs s_codes_of) (defBody s_codes_of) (defScope s_codes_of) [] [] (He.ga K "codes_of") fd := W.c.d.def_ 24 (d := D_codes_of) rfl
theorem Wd.d_checked_codes (W : Wd K mg w) : ∃ fd, FunD K "checked_codes" "checked_codes" (defArgs s_checked_codes) (defBody s_checked_codes) (defScope s_checked_codes) [] [] (He.ga K "checked_codes") fd := W.c.d.def_ 25 (d := D_checked_codes) rfl
theorem Wd.d_child_of (W : Wd K mg w) : ∃ fd, FunD K "child_of" "child_of" (defArgs s_child_of) (defBody s_child_of) (defScope s_child_of) [] [] (He.ga K "child_of") fd := W.c.d.def_ 26 (d := D_child_of) rfl
theorem Wd.d_child (W : Wd K mg w) : ∃ fd, FunD K "child" "child" (defArgs s_child) (defBody s_child) (defScope s_child) [] [((PySem.Str.ofString "fuel"), V.int 100000)] (He.ga K "child") fd := W.c.d.def_ 27 (d := D_child) rfl
theorem Wd.d_generations (W : Wd K mg w) : ∃ fd, FunD K "generations" "generations" (defArgs s_generations) (defBody s_generations) (defScope s_generations) [] [((PySem.Str.ofString "fuel"), V.int 100000)] (He.ga K "generations") fd := W.c.d.def_ 28 (d := D_generations) rfl
theorem Wd.d_first_apart (W : Wd K mg w) : ∃ fd, FunD K "first_apart" "first_apart" (defArgs s_first_apart) (defBody s_first_apart) (defScope s_first_apart) [] [] (He.ga K "first_apart") fd := W.c.d.def_ 29 (d := D_first_apart) rfl
theorem Wd.d_double (W : Wd K mg w) : ∃ fd, FunD K "double" "double" (defArgs s_double) (defBody s_double) (defScope s_double) [] [((PySem.Str.ofString "fuel"), V.int 100000)] (He.ga K "double") fd := W.c.d.def_ 30 (d := D_double) rfl
theorem Wd.d_rung_text (W : Wd K mg w) : ∃ fd, FunD K "rung_text" "rung_text" (defArgs s_rung_text) (defBody s_rung_text) (defScope s_rung_text) [] [] (He.ga K "rung_text") fd := W.c.d.def_ 31 (d := D_rung_text) rfl
theorem Wd.d_l_number (W : Wd K mg w) : ∃ fd, FunD K "_law_number" "_law_number" (defArgs s_l_number) (defBody s_l_number) (defScope s_l_number) [] [] (He.ga K "_law_number") fd := W.c.d.def_ 32 (d := D_l_number) rfl
theorem Wd.d_l_draws (W : Wd K mg w) : ∃ fd, FunD K "_law_draws" "_law_draws" (defArgs s_l_draws) (defBody s_l_draws) (defScope s_l_draws) [] [] (He.ga K "_law_draws") fd := W.c.d.def_ 33 (d := D_l_draws) rfl
theorem Wd.d_l_next (W : Wd K mg w) : ∃ fd, FunD K "_law_next" "_law_next" (defArgs s_l_next) (defBody s_l_next) (defScope s_l_next) [] [] (He.ga K "_law_next") fd := W.c.d.def_ 34 (d := D_l_next) rfl
theorem Wd.d_l_short (W : Wd K mg w) : ∃ fd, FunD K "_law_short" "_law_short" (defArgs s_l_short) (defBody s_l_short) (defScope s_l_short) [] [] (He.ga K "_law_short") fd := W.c.d.def_ 35 (d := D_l_short) rfl
theorem Wd.d_l_pull (W : Wd K mg w) : ∃ fd, FunD K "_law_pull" "_law_pull" (defArgs s_l_pull) (defBody s_l_pull) (defScope s_l_pull) [] [] (He.ga K "_law_pull") fd := W.c.d.def_ 36 (d := D_l_pull) rfl
theorem Wd.d_l_emit (W : Wd K mg w) : ∃ fd, FunD K "_law_emit" "_law_emit" (defArgs s_l_emit) (defBody s_l_emit) (defScope s_l_emit) [] [] (He.ga K "_law_emit") fd := W.c.d.def_ 37 (d := D_l_emit) rfl
theorem Wd.d_l_take (W : Wd K mg w) : ∃ fd, FunD K "_law_take" "_law_take" (defArgs s_l_take) (defBody s_l_take) (defScope s_l_take) [] [] (He.ga K "_law_take") fd := W.c.d.def_ 38 (d := D_l_take) rfl
theorem Wd.d_l_bracket (W : Wd K mg w) : ∃ fd, FunD K "_law_bracket" "_law_bracket" (defArgs s_l_bracket) (defBody s_l_bracket) (defScope s_l_bracket) [] [] (He.ga K "_law_bracket") fd := W.c.d.def_ 39 (d := D_l_bracket) rfl
theorem Wd.d_l_second_code (W : Wd K mg w) : ∃ fd, FunD K "_law_second_code" "_law_second_code" (defArgs s_l_second_code) (defBody s_l_second_code) (defScope s_l_second_code) [] [] (He.ga K "_law_second_code") fd := W.c.d.def_ 40 (d := D_l_second_code) rfl
theorem Wd.d_l_twig (W : Wd K mg w) : ∃ fd, FunD K "_law_twig" "_law_twig" (defArgs s_l_twig) (defBody s_l_twig) (defScope s_l_twig) [] [] (He.ga K "_law_twig") fd := W.c.d.def_ 41 (d := D_l_twig) rfl
theorem Wd.d_l_text_codes (W : Wd K mg w) : ∃ fd, FunD K "_law_text_codes" "_law_text_codes" (defArgs s_l_text_codes) (defBody s_l_text_codes) (defScope s_l_text_codes) [] [] (He.ga K "_law_text_codes") fd := W.c.d.def_ 42 (d := D_l_text_codes) rfl
theorem Wd.d_l_second (W : Wd K mg w) : ∃ fd, FunD K "_law_second" "_law_second" (defArgs s_l_second) (defBody s_l_second) (defScope s_l_second) [] [] (He.ga K "_law_second") fd := W.c.d.def_ 43 (d := D_l_second) rfl
theorem Wd.d_l_suspect (W : Wd K mg w) : ∃ fd, FunD K "_law_suspect" "_law_suspect" (defArgs s_l_suspect) (defBody s_l_suspect) (defScope s_l_suspect) [] [] (He.ga K "_law_suspect") fd := W.c.d.def_ 44 (d := D_l_suspect) rfl
theorem Wd.d_l_apart (W : Wd K mg w) : ∃ fd, FunD K "_law_apart" "_law_apart" (defArgs s_l_apart) (defBody s_l_apart) (defScope s_l_apart) [] [] (He.ga K "_law_apart") fd := W.c.d.def_ 45 (d := D_l_apart) rfl
theorem Wd.d_l_short_text (W : Wd K mg w) : ∃ fd, FunD K "_law_short_text" "_law_short_text" (defArgs s_l_short_text) (defBody s_l_short_text) (defScope s_l_short_text) [] [] (He.ga K "_law_short_text") fd := W.c.d.def_ 46 (d := D_l_short_text) rfl
theorem Wd.d_l_short_program (W : Wd K mg w) : ∃ fd, FunD K "_law_short_program" "_law_short_program" (defArgs s_l_short_program) (defBody s_l_short_program) (defScope s_l_short_program) [] [] (He.ga K "_law_short_program") fd := W.c.d.def_ 47 (d := D_l_short_program) rfl
theorem Wd.d_l_compiler (W : Wd K mg w) : ∃ fd, FunD K "_law_compiler" "_law_compiler" (defArgs s_l_compiler) (defBody s_l_compiler) (defScope s_l_compiler) [] [] (He.ga K "_law_compiler") fd := W.c.d.def_ 48 (d := D_l_compiler) rfl
theorem Wd.d_law (W : Wd K mg w) : ∃ fd, FunD K "law" "law" (defArgs s_law) (defBody s_law) (defScope s_law) [] [] (He.ga K "law") fd := W.c.d.def_ 49 (d := D_law) rfl
end
end Pz
end
set_option Elab.async false
set_option linter.all false
set_option maxRecDepth 100000
set_option maxHeartbeats 0
namespace Pz
open PySem PySem.Spec PyProof.Rows L2
abbrev R : PySem.W.OpenRow := PySem.W.OpenLaw.row PySem.Challenge.rw_plinth_k97_whole_twins_come_together
abbrev qv : Program := PySem.W.view R.prog [73]
def names0 : List PySem.Str := [(PySem.Str.ofString "PlinthError"), (PySem.Str.ofString "NotText"), (PySem.Str.ofString "BadFuel"), (PySem.Str.ofString "NoRung"), (PySem.Str.ofString "nodes_of"), (PySem.Str.ofString "table_of"), (PySem.Str.ofString "FIRST_LETTER"), (PySem.Str.ofString "LAST_LETTER"), (PySem.Str.ofString "FIRST_CAPITAL"), (PySem.Str.ofString "LAST_CAPITAL"), (PySem.Str.ofString "LAST_LOW"), (PySem.Str.ofString "_push"), (PySem.Str.ofString "_plus"), (PySem.Str.ofString "_minus"), (PySem.Str.ofString "_digit"), (PySem.Str.ofString "_less"), (PySem.Str.ofString "_same"), (PySem.Str.ofString "_load"), (PySem.Str.ofString "_keep"), (PySem.Str.ofString "_assign"), (PySem.Str.ofString "_take"), (PySem.Str.ofString "_rewind"), (PySem.Str.ofString "_emit"), (PySem.Str.ofString "_cell"), (PySem.Str.ofString "_drop"), (PySem.Str.ofString "_double"), (PySem.Str.ofString "_exchange"), (PySem.Str.ofString "_test"), (PySem.Str.ofString "_call"), (PySem.Str.ofString "_call_low"), (PySem.Str.ofString "_return"), (PySem.Str.ofString "DEEDS"), (PySem.Str.ofString "State"), (PySem.Str.ofString "run"), (PySem.Str.ofString "PRINTABLE")]
def names1 : List PySem.Str := [(PySem.Str.ofString "codes_of"), (PySem.Str.ofString "checked_codes"), (PySem.Str.ofString "child_of"), (PySem.Str.ofString "child"), (PySem.Str.ofString "generations"), (PySem.Str.ofString "first_apart"), (PySem.Str.ofString "double"), (PySem.Str.ofString "FIRST"), (PySem.Str.ofString "SECOND"), (PySem.Str.ofString "PLAIN"), (PySem.Str.ofString "TURNED"), (PySem.Str.ofString "TEXTS"), (PySem.Str.ofString "rung_text"), (PySem.Str.ofString "_law_number"), (PySem.Str.ofString "_law_draws"), (PySem.Str.ofString "_law_next"), (PySem.Str.ofString "_law_short"), (PySem.Str.ofString "_law_pull"), (PySem.Str.ofString "_law_emit"), (PySem.Str.ofString "_law_take"), (PySem.Str.ofString "_law_bracket"), (PySem.Str.ofString "_law_second_code"), (PySem.Str.ofString "_law_twig"), (PySem.Str.ofString "_law_text_codes"), (PySem.Str.ofString "_law_second"), (PySem.Str.ofString "_law_suspect"), (PySem.Str.ofString "_law_apart"), (PySem.Str.ofString "_law_short_text"), (PySem.Str.ofString "_law_short_program"), (PySem.Str.ofString "_law_compiler")]
def names : List PySem.Str := names0 ++ names1
noncomputable def ob (s : PySem.W.SharedT) : hk.α := obsY (He.frG (HandSHeadRun.getT s) asL)
theorem ob_eq (s : PySem.W.SharedT) : ob s = hk.obs s.abs := by
  have e : HandSHeadRun.getT s = s.abs.heap.get? := funext (HandSHeadRun.getT_eq s)
  unfold ob
  rw [e]
  rfl
theorem run0 (w : World) : HandSHeadRun.RunEq R qv hk ob 4000 names (w.withFollow "special-get-raises" false) := by intro os; kernel_rfl
theorem run1 (w : World) : HandSHeadRun.RunEq R qv hk ob 4000 names (w.withFollow "special-get-raises" true) := by intro os; kernel_rfl
theorem run (w : World) : HandSHeadRun.RunEq R qv hk ob 4000 names w :=
  PySem.W.byRow2 "special-get-raises" (P := fun w => HandSHeadRun.RunEq R qv hk ob 4000 names w) run0 run1 w
end Pz
set_option Elab.async false
set_option maxRecDepth 100000
set_option maxHeartbeats 4000000
/-! The machine, twice: over whole numbers, as the program has it; and over plain numbers, for walks by the kernel. -/
namespace TW
/-- the head of a pile, 0 if there is none -/
def hd : List Int → Int
  | [] => 0
  | x :: _ => x
/-! ### the machine over whole numbers -/
structure S where
  at' : Int
  stk : List Int
  sto : Int → Int
  back : List Int
  inp : List Int
  out : List Int
def lt (x y : Int) : Int := if x < y then 1 else 0
def eq (x y : Int) : Int := if x = y then 1 else 0
def upd (f : Int → Int) (x v : Int) : Int → Int := fun y => if y = x then v else f y
abbrev Tab := Int → Option (Int × Int × Int)
/-- one operation that these binaries use; none: another one -/
def deed (T : Tab) (op arg nx : Int) (s : S) : Option S :=
  if op = 35 then some { s with at' := nx, stk := arg :: s.stk }
  else if op = 43 then some { s with at' := nx, stk := (hd s.stk.tail + hd s.stk) :: s.stk.tail.tail }
  else if op = 45 then some { s with at' := nx, stk := (hd s.stk.tail - hd s.stk) :: s.stk.tail.tail }
  else if op = 42 then some { s with at' := nx, stk := (10 * hd s.stk.tail + hd s.stk) :: s.stk.tail.tail }
  else if op = 60 then some { s with at' := nx, stk := lt (hd s.stk.tail) (hd s.stk) :: s.stk.tail.tail }
  else if op = 126 then some { s with at' := nx, stk := eq (hd s.stk.tail) (hd s.stk) :: s.stk.tail.tail }
  else if op = 61 then some { s with at' := nx, stk := s.stk.tail, sto := upd s.sto arg (hd s.stk) }
  else if op = 44 then
    (match s.inp with
    | [] => some { s with at' := nx, stk := -1 :: s.stk }
    | c :: r => some { s with at' := nx, stk := c :: s.stk, inp := r })
  else if op = 46 then some { s with at' := nx, stk := s.stk.tail, out := hd s.stk :: s.out }
  else if op = 95 then some { s with at' := nx, stk := s.stk.tail }
  else if op = 34 then some { s with at' := nx, stk := hd s.stk :: hd s.stk :: s.stk.tail }
  else if op = 92 then some { s with at' := nx, stk := hd s.stk.tail :: hd s.stk :: s.stk.tail.tail }
  else if op = 63 then some { s with at' := if hd s.stk = 0 then arg else nx, stk := s.stk.tail }
  else if op = 40 then some { s with at' := hd s.stk, stk := s.stk.tail, back := nx :: s.back }
  else if op = 36 then
    (if 1 ≤ hd s.stk ∧ hd s.stk ≤ 199 ∧ (T (hd s.stk)).isSome = true then some { s with at' := hd s.stk, stk := s.stk.tail, back := nx :: s.back }
    else some { s with at' := nx, stk := hd s.stk :: s.stk.tail })
  else if op = 41 then
    (match s.back with
    | [] => some { s with at' := nx }
    | b :: r => some { s with at' := b, back := r })
  else if 97 ≤ op ∧ op ≤ 122 then some { s with at' := nx, stk := s.sto op :: s.stk }
  else if op = 32 then some { s with at' := nx }
  else none
def step (T : Tab) (s : S) : Option S :=
  match T s.at' with
  | none => none
  | some (op, arg, nx) => deed T op arg nx s
def crun (T : Tab) : Nat → S → Option S
  | 0, s => some s
  | n + 1, s => (step T s).bind (crun T n)
def init (codes : List Int) : S := ⟨0, [], fun _ => 0, [], codes, []⟩
/-! ### the machine over plain numbers, its store eleven letters -/
structure R where
  a : Int
  c : Int
  e : Int
  f : Int
  k : Int
  m : Int
  n : Int
  o : Int
  r : Int
  s : Int
  t : Int
def R.get (x : R) (i : Nat) : Option Int :=
  match i with
  | 97 => some x.a
  | 99 => some x.c
  | 101 => some x.e
  | 102 => some x.f
  | 107 => some x.k
  | 109 => some x.m
  | 110 => some x.n
  | 111 => some x.o
  | 114 => some x.r
  | 115 => some x.s
  | 116 => some x.t
  | _ => none
def R.put (x : R) (i : Nat) (v : Int) : Option R :=
  match i with
  | 97 => some { x with a := v }
  | 99 => some { x with c := v }
  | 101 => some { x with e := v }
  | 102 => some { x with f := v }
  | 107 => some { x with k := v }
  | 109 => some { x with m := v }
  | 110 => some { x with n := v }
  | 111 => some { x with o := v }
  | 114 => some { x with r := v }
  | 115 => some { x with s := v }
  | 116 => some { x with t := v }
  | _ => none
def R.fn (x : R) (i : Int) : Int := if i < 0 then 0 else (x.get i.toNat).getD 0
structure A where
  at' : Nat
  stk : List Int
  sto : R
  back : List Nat
  inp : List Int
  out : List Int
abbrev Rows := List (Nat × Nat × Int × Nat)
def look : Rows → Nat → Option (Nat × Int × Nat)
  | [], _ => none
  | (n, e) :: r, x => bif Nat.beq n x then some e else look r x
def adeed (L : Nat → Option (Nat × Int × Nat)) (lim : Nat) (op : Nat) (arg : Int) (nx : Nat) (s : A) : Option A :=
  match op with
  | 35 => some { s with at' := nx, stk := arg :: s.stk }
  | 43 => some { s with at' := nx, stk := (hd s.stk.tail + hd s.stk) :: s.stk.tail.tail }
  | 45 => some { s with at' := nx, stk := (hd s.stk.tail - hd s.stk) :: s.stk.tail.tail }
  | 42 => some { s with at' := nx, stk := (10 * hd s.stk.tail + hd s.stk) :: s.stk.tail.tail }
  | 60 => some { s with at' := nx, stk := lt (hd s.stk.tail) (hd s.stk) :: s.stk.tail.tail }
  | 126 => some { s with at' := nx, stk := eq (hd s.stk.tail) (hd s.stk) :: s.stk.tail.tail }
  | 61 => (s.sto.put arg.toNat (hd s.stk)).bind fun x => some { s with at' := nx, stk := s.stk.tail, sto := x }
  | 44 =>
    match s.inp with
    | [] => some { s with at' := nx, stk := -1 :: s.stk }
    | c :: r => some { s with at' := nx, stk := c :: s.stk, inp := r }
  | 46 => some { s with at' := nx, stk := s.stk.tail, out := hd s.stk :: s.out }
  | 95 => some { s with at' := nx, stk := s.stk.tail }
  | 34 => some { s with at' := nx, stk := hd s.stk :: hd s.stk :: s.stk.tail }
  | 92 => some { s with at' := nx, stk := hd s.stk.tail :: hd s.stk :: s.stk.tail.tail }
  | 63 => some { s with at' := if hd s.stk = 0 then arg.toNat else nx, stk := s.stk.tail }
  | 40 => if 0 ≤ hd s.stk ∧ hd s.stk < lim then some { s with at' := (hd s.stk).toNat, stk := s.stk.tail, back := nx :: s.back } else none
  | 36 =>
    if 1 ≤ hd s.stk ∧ hd s.stk ≤ 199 ∧ (L (hd s.stk).toNat).isSome = true then some { s with at' := (hd s.stk).toNat, stk := s.stk.tail, back := nx :: s.back }
    else some { s with at' := nx, stk := hd s.stk :: s.stk.tail }
  | 41 =>
    match s.back with
    | [] => some { s with at' := nx }
    | b :: r => some { s with at' := b, back := r }
  | 32 => some { s with at' := nx }
  | x => if 97 ≤ x ∧ x ≤ 122 then (s.sto.get x).bind fun v => some { s with at' := nx, stk := v :: s.stk } else none
def astep (L : Nat → Option (Nat × Int × Nat)) (lim : Nat) (s : A) : Option A :=
  match L s.at' with
  | none => none
  | some (op, arg, nx) => adeed L lim op arg nx s
def arun (L : Nat → Option (Nat × Int × Nat)) (lim : Nat) : Nat → A → Option A
  | 0, s => some s
  | n + 1, s => (astep L lim s).bind (arun L lim n)
abbrev Rn (L : Nat → Option (Nat × Int × Nat)) (lim n : Nat) (s t : A) : Prop := arun L lim n s = some t
theorem Rn.trans {L lim a b s t u} (h : Rn L lim a s t) (g : Rn L lim b t u) : Rn L lim (a + b) s u := by
  induction a generalizing s with
  | zero =>
    have e : s = t := by simpa [Rn, arun] using h
    subst e; simpa using g
  | succ n ih =>
    have h' : (astep L lim s).bind (arun L lim n) = some t := h
    rw [show n + 1 + b = (n + b) + 1 by omega]
    show (astep L lim s).bind (arun L lim (n + b)) = some u
    cases e : astep L lim s with
    | none => rw [e] at h'; simp at h'
    | some x =>
      rw [e] at h'
      exact ih h'
theorem Rn.cast {L lim a b s t} (e : a = b) (h : Rn L lim a s t) : Rn L lim b s t := e ▸ h
theorem tst0 {L lim} {at' : Nat} {v : Int} {stk st bk inp out} (x : Int) (nx y : Nat) (hL : L at' = some (63, x, nx)) (hx : x.toNat = y) (hv : v = 0) :
    Rn L lim 1 ⟨at', v :: stk, st, bk, inp, out⟩ ⟨y, stk, st, bk, inp, out⟩ := by
  subst hv; subst hx
  simp [Rn, arun, astep, hL, adeed, hd]
theorem tst1 {L lim} {at' : Nat} {v : Int} {stk st bk inp out} (x : Int) (nx : Nat) (hL : L at' = some (63, x, nx)) (hv : v ≠ 0) :
    Rn L lim 1 ⟨at', v :: stk, st, bk, inp, out⟩ ⟨nx, stk, st, bk, inp, out⟩ := by
  simp [Rn, arun, astep, hL, adeed, hd, hv]
theorem low0 {L lim} {at' : Nat} {v : Int} {stk st bk inp out} (x : Int) (nx : Nat) (hL : L at' = some (36, x, nx)) (hv : L v.toNat = none) :
    Rn L lim 1 ⟨at', v :: stk, st, bk, inp, out⟩ ⟨nx, v :: stk, st, bk, inp, out⟩ := by
  simp [Rn, arun, astep, hL, adeed, hd, hv]
theorem lt_t {x y : Int} (h : x < y) : lt x y ≠ 0 := by simp [lt, h]
theorem lt_f {x y : Int} (h : ¬ x < y) : lt x y = 0 := by simp [lt, h]
end TW
set_option Elab.async false
set_option maxRecDepth 100000
set_option maxHeartbeats 4000000
/-! What a translation is, in plain Lean; what a compiler's walks must be; that they then give the translation. -/
namespace TW
abbrev Node := Int × Int × Int × Int
structure Tw where
  img : List Node
  m : Int
  k : Int
  pile : List Int
  val : Int
  sign : Int
def Tw.emit (dk : Int) (s : Tw) (op arg : Int) : Tw := { s with img := (s.m, op, arg, s.k) :: s.img, m := s.k, k := s.k + dk }
def Tw.flush (dk : Int) (s : Tw) : Tw := if 0 ≤ s.val then { (s.emit dk 35 s.val) with val := -1 } else s
def Tw.bracket (dk : Int) (s : Tw) (c : Int) : Tw :=
  if c = 91 then { s with img := (s.m, 63, s.k, s.k + dk) :: s.img, m := s.k + dk, k := s.k + dk + dk, pile := s.k :: s.pile }
  else if c = 124 then { s with img := (s.m, 32, 0, s.k) :: s.img, m := hd s.pile, k := s.k + dk, pile := s.k :: s.pile.tail }
  else if c = 93 then { s with img := (s.m, 32, 0, hd s.pile) :: s.img, m := hd s.pile, pile := s.pile.tail }
  else if c = 123 then { s with img := (s.m, 32, 0, s.k) :: s.img, m := s.k, k := s.k + dk, pile := s.k :: s.pile }
  else if c = 125 then { s with img := (s.m, 63, s.k, hd s.pile) :: s.img, m := s.k, k := s.k + dk, pile := s.pile.tail }
  else if c = 59 then { s with img := (s.m, 41, 0, 1) :: s.img, m := hd s.pile, pile := s.pile.tail }
  else if 32 < c then s.emit dk c 0
  else s
def Tw.second (dk : Int) (s : Tw) (c : Int) : Tw :=
  if s.sign = 39 then s.emit dk 35 c
  else if s.sign = 61 then s.emit dk 61 c
  else { s with pile := s.m :: s.pile, m := c }
def Tw.one (dk : Int) (s : Tw) (c : Int) : Tw :=
  if 0 < s.sign then { (s.second dk c) with sign := 0 }
  else if 48 ≤ c ∧ c ≤ 57 then { s with val := 10 * (if s.val < 0 then 0 else s.val) + c - 48 }
  else if c = 39 ∨ c = 61 ∨ c = 58 then { (s.flush dk) with sign := c }
  else (s.flush dk).bracket dk c
def Tw.finish (dk : Int) (s : Tw) : List Node := ((s.flush dk).emit dk 41 0).img
def Tw.start (first dk : Int) : Tw := ⟨[(0, 32, 0, first)], first, first + dk, [], -1, 0⟩
/-- the nodes of a translation, the last one first -/
def twigR (codes : List Int) (first dk : Int) : List Node := (codes.foldl (Tw.one dk) (Tw.start first dk)).finish dk
/-- cells of nodes, the last first -/
def flat : List Node → List Int
  | [] => []
  | (n, o, a, s) :: r => s :: a :: o :: n :: flat r
/-! ### bounded walks -/
section
variable (L : Nat → Option (Nat × Int × Nat)) (lim : Nat)
def Go (n : Nat) (P Q : A → Prop) : Prop := ∀ s, P s → ∃ j t, j ≤ n ∧ Rn L lim j s t ∧ Q t
end
theorem Go.trans {L lim a b P Q U} (h : Go L lim a P Q) (g : Go L lim b Q U) : Go L lim (a + b) P U := fun s hs => by
  obtain ⟨i, t, hi, r, ht⟩ := h s hs
  obtain ⟨j, u, hj, q, hu⟩ := g t ht
  exact ⟨i + j, u, by omega, r.trans q, hu⟩
theorem Go.mono {L lim a b P Q} (h : Go L lim a P Q) (e : a ≤ b) : Go L lim b P Q := fun s hs => by
  obtain ⟨i, t, hi, r, ht⟩ := h s hs
  exact ⟨i, t, by omega, r, ht⟩
def Sta (at' : Nat) (stk : List Int) (c f k m r : Int) (inp out : List Int) (s : A) : Prop :=
  ∃ a n o s' t, s = ⟨at', stk, ⟨a, c, 0, f, k, m, n, o, r, s', t⟩, [], inp, out⟩
def End (fin : Nat) (out : List Int) (s : A) : Prop := s.at' = fin ∧ s.out = out
/-- the signs that have a word of their own -/
def special (c : Int) : Prop := c = 39 ∨ c = 61 ∨ c = 58 ∨ c = 91 ∨ c = 124 ∨ c = 93 ∨ c = 123 ∨ c = 125 ∨ c = 59
instance (c : Int) : Decidable (special c) := by unfold special; infer_instance
/-- the walks of a compiler from place to place: H its loop's head, F the test of a numeral, G the test of a blank, D the look for a sign's word -/
structure Comp (L : Nat → Option (Nat × Int × Nat)) (lim H F G D fin : Nat) (first dk : Int) : Prop where
  start : ∀ inp, Go L lim 60 (fun s => s = ⟨0, [], ⟨0, 0, 0, 0, 0, 0, 0, 0, 0, 0, 0⟩, [], inp, []⟩) (Sta H [] 0 0 (first + dk) first 0 inp (flat [(0, 32, 0, first)]))
  digit : ∀ stk c f k m r d inp out, 47 < d → d < 58 → Go L lim 60 (Sta H stk c f k m r (d :: inp) out) (Sta H stk d 1 k m (10 * r + (d - 48)) inp out)
  non : ∀ stk c f k m r d inp out, ¬ (47 < d ∧ d < 58) → Go L lim 20 (Sta H stk c f k m r (d :: inp) out) (Sta F (f :: stk) d f k m r inp out)
  none : ∀ stk c f k m r out, Go L lim 20 (Sta H stk c f k m r [] out) (Sta F (f :: stk) (-1) f k m r [] out)
  nof : ∀ stk c k m r inp out, Go L lim 60 (Sta F (0 :: stk) c 0 k m r inp out) (Sta G (lt c 33 :: stk) c 0 k m r inp out)
  flush : ∀ stk c k m r inp out, Go L lim 60 (Sta F (1 :: stk) c 1 k m r inp out) (Sta G (lt c 33 :: stk) c 0 (k + dk) k 0 inp (k :: r :: 35 :: m :: out))
  blank : ∀ stk c f k m r inp out, 0 ≤ c → c < 33 → Go L lim 60 (Sta G (lt c 33 :: stk) c f k m r inp out) (Sta H stk c f k m r inp out)
  fin' : ∀ stk f k m r out, Go L lim 60 (Sta G (lt (-1) 33 :: stk) (-1) f k m r [] out) (End fin (k :: 0 :: 41 :: m :: out))
  sign : ∀ stk c f k m r inp out, 33 ≤ c → Go L lim 10 (Sta G (lt c 33 :: stk) c f k m r inp out) (Sta D (c :: stk) c f k m r inp out)
  other : ∀ stk c f k m r inp out, 33 ≤ c → c ≤ 126 → ¬ (47 < c ∧ c < 58) → ¬ special c → Go L lim 60 (Sta D (c :: stk) c f k m r inp out) (Sta H stk c f (k + dk) k r inp (k :: 0 :: c :: m :: out))
  c91 : ∀ stk f k m r inp out, Go L lim 60 (Sta D (91 :: stk) 91 f k m r inp out) (Sta H (k :: stk) 91 f (k + dk + dk) (k + dk) r inp ((k + dk) :: k :: 63 :: m :: out))
  c124 : ∀ stk f k m r inp out, Go L lim 60 (Sta D (124 :: stk) 124 f k m r inp out) (Sta H (k :: stk.tail) 124 f (k + dk) (hd stk) r inp (k :: 0 :: 32 :: m :: out))
  c93 : ∀ stk f k m r inp out, Go L lim 60 (Sta D (93 :: stk) 93 f k m r inp out) (Sta H stk.tail 93 f k (hd stk) r inp (hd stk :: 0 :: 32 :: m :: out))
  c123 : ∀ stk f k m r inp out, Go L lim 60 (Sta D (123 :: stk) 123 f k m r inp out) (Sta H (k :: stk) 123 f (k + dk) k r inp (k :: 0 :: 32 :: m :: out))
  c125 : ∀ stk f k m r inp out, Go L lim 60 (Sta D (125 :: stk) 125 f k m r inp out) (Sta H stk.tail 125 f (k + dk) k r inp (hd stk :: k :: 63 :: m :: out))
  c59 : ∀ stk f k m r inp out, Go L lim 60 (Sta D (59 :: stk) 59 f k m r inp out) (Sta H stk.tail 59 f k (hd stk) r inp (1 :: 0 :: 41 :: m :: out))
  c39 : ∀ stk f k m r d inp out, 0 ≤ d → Go L lim 60 (Sta D (39 :: stk) 39 f k m r (d :: inp) out) (Sta H stk d f (k + dk) k r inp (k :: d :: 35 :: m :: out))
  c61 : ∀ stk f k m r d inp out, 0 ≤ d → Go L lim 60 (Sta D (61 :: stk) 61 f k m r (d :: inp) out) (Sta H stk d f (k + dk) k r inp (k :: d :: 61 :: m :: out))
  c58 : ∀ stk f k m r d inp out, 0 ≤ d → Go L lim 60 (Sta D (58 :: stk) 58 f k m r (d :: inp) out) (Sta H (m :: stk) d f k d r inp out)
  c39e : ∀ stk f k m r out, Go L lim 60 (Sta D (39 :: stk) 39 f k m r [] out) (End fin (k :: 0 :: 41 :: m :: out))
  c61e : ∀ stk f k m r out, Go L lim 60 (Sta D (61 :: stk) 61 f k m r [] out) (End fin (k :: 0 :: 41 :: m :: out))
  c58e : ∀ stk f k m r out, Go L lim 60 (Sta D (58 :: stk) 58 f k m r [] out) (End fin (k :: 0 :: 41 :: m :: out))
/-- the loop's head, the work so far told by a translation's state -/
def Hd (H : Nat) (w : Tw) (inp : List Int) (s : A) : Prop :=
  ∃ c f r, Sta H w.pile c f w.k w.m r inp (flat w.img) s ∧ (w.val < 0 ∧ f = 0 ∧ r = 0 ∨ 0 ≤ w.val ∧ f = 1 ∧ r = w.val)
section
variable {L : Nat → Option (Nat × Int × Nat)} {lim H F G D fin : Nat} {first dk : Int}
/-- from the test of a numeral to the test of a blank -/
theorem toG (C : Comp L lim H F G D fin first dk) (w : Tw) (c f r : Int) (inp : List Int)
    (h : w.val < 0 ∧ f = 0 ∧ r = 0 ∨ 0 ≤ w.val ∧ f = 1 ∧ r = w.val) :
    Go L lim 60 (Sta F (f :: w.pile) c f w.k w.m r inp (flat w.img))
      (Sta G (lt c 33 :: (w.flush dk).pile) c 0 (w.flush dk).k (w.flush dk).m 0 inp (flat (w.flush dk).img)) := by
  rcases h with ⟨h, rfl, rfl⟩ | ⟨h, rfl, rfl⟩
  · have e : w.flush dk = w := by unfold Tw.flush; rw [if_neg (by omega)]
    rw [e]
    exact C.nof _ _ _ _ _ _ _
  · have e : w.flush dk = { (w.emit dk 35 w.val) with val := -1 } := by unfold Tw.flush; rw [if_pos h]
    rw [e]
    exact C.flush _ _ _ _ _ _ _
theorem flush_val (w : Tw) : (w.flush dk).val < 0 := by
  unfold Tw.flush
  split
  · show (-1 : Int) < 0; decide
  · omega
theorem flush_sign (w : Tw) : (w.flush dk).sign = w.sign := by
  unfold Tw.flush
  split
  · rfl
  · rfl
theorem flush_flush (w : Tw) : (w.flush dk).flush dk = w.flush dk := by
  have h := flush_val (dk := dk) w
  generalize w.flush dk = u at *
  unfold Tw.flush
  rw [if_neg (by omega)]
theorem hd_of {H : Nat} {w : Tw} {inp : List Int} {c : Int} (h : w.val < 0) (s : A) (g : Sta H w.pile c 0 w.k w.m 0 inp (flat w.img) s) : Hd H w inp s :=
  ⟨c, 0, 0, g, .inl ⟨h, rfl, rfl⟩⟩
theorem Go.post {L lim a P Q Q'} (h : Go L lim a P Q) (g : ∀ s, Q s → Q' s) : Go L lim a P Q' := fun s hs => by
  obtain ⟨i, t, hi, r, ht⟩ := h s hs
  exact ⟨i, t, hi, r, g t ht⟩
theorem Go.pre {L lim a P P' Q} (h : Go L lim a P Q) (g : ∀ s, P' s → P s) : Go L lim a P' Q := fun s hs => h s (g s hs)
/-- from the head, by a sign that is no digit, to the test of a blank -/
theorem headG (C : Comp L lim H F G D fin first dk) (w : Tw) (d : Int) (inp : List Int) (nd : ¬ (47 < d ∧ d < 58)) :
    Go L lim 80 (Hd H w (d :: inp)) (Sta G (lt d 33 :: (w.flush dk).pile) d 0 (w.flush dk).k (w.flush dk).m 0 inp (flat (w.flush dk).img)) := by
  rintro s ⟨c, f, r, hs, hv⟩
  exact ((C.non _ _ _ _ _ _ _ _ _ nd).trans (toG C w d f r inp hv)) s hs
theorem headD (C : Comp L lim H F G D fin first dk) (w : Tw) (d : Int) (inp : List Int) (nd : ¬ (47 < d ∧ d < 58)) (h33 : 33 ≤ d) :
    Go L lim 90 (Hd H w (d :: inp)) (Sta D (d :: (w.flush dk).pile) d 0 (w.flush dk).k (w.flush dk).m 0 inp (flat (w.flush dk).img)) :=
  (headG C w d inp nd).trans (C.sign _ _ _ _ _ _ _ _ h33)
/-- one sign that waits for no other -/
theorem turn (C : Comp L lim H F G D fin first dk) (w : Tw) (d : Int) (inp : List Int) (h0 : w.sign = 0) (lo : 0 ≤ d) (hi : d ≤ 126) (nq : ¬ (d = 39 ∨ d = 61 ∨ d = 58)) :
    Go L lim 150 (Hd H w (d :: inp)) (Hd H (w.one dk d) inp) ∧ (w.one dk d).sign = 0 := by
  by_cases dg : 48 ≤ d ∧ d ≤ 57
  · have e : w.one dk d = { w with val := 10 * (if w.val < 0 then 0 else w.val) + d - 48 } := by
      unfold Tw.one
      rw [if_neg (by omega), if_pos dg]
    rw [e]
    refine ⟨?_, h0⟩
    rintro s ⟨c, f, r, hs, hv⟩
    obtain ⟨i, t, hi', R, ht⟩ := C.digit w.pile c f w.k w.m r d inp (flat w.img) (by omega) (by omega) s hs
    refine ⟨i, t, by omega, R, d, 1, _, ht, .inr ⟨?_, rfl, ?_⟩⟩
    · show 0 ≤ 10 * (if w.val < 0 then 0 else w.val) + d - 48
      split <;> omega
    · show 10 * r + (d - 48) = 10 * (if w.val < 0 then 0 else w.val) + d - 48
      rcases hv with ⟨h, rfl, rfl⟩ | ⟨h, rfl, rfl⟩
      · rw [if_pos h]; omega
      · rw [if_neg (by omega)]; omega
  · have nd : ¬ (47 < d ∧ d < 58) := by omega
    have e : w.one dk d = (w.flush dk).bracket dk d := by
      unfold Tw.one
      rw [if_neg (by omega), if_neg dg, if_neg nq]
    have hG := headG C w d inp nd
    rw [e]
    have hfv := flush_val (dk := dk) w
    have hfs : (w.flush dk).sign = 0 := (flush_sign w).trans h0
    generalize w.flush dk = u at *
    by_cases bl : d < 33
    · have e2 : u.bracket dk d = u := by
        unfold Tw.bracket
        rw [if_neg (by omega), if_neg (by omega), if_neg (by omega), if_neg (by omega), if_neg (by omega), if_neg (by omega), if_neg (by omega)]
      rw [e2]
      exact ⟨((hG.trans (C.blank _ _ _ _ _ _ _ _ lo bl)).post (hd_of hfv)).mono (b := 150) (by decide), hfs⟩
    · have hD := hG.trans (C.sign _ _ _ _ _ _ _ _ (by omega : 33 ≤ d))
      unfold Tw.bracket
      by_cases c1 : d = 91
      · subst c1
        rw [if_pos rfl]
        exact ⟨((hD.trans (C.c91 _ _ _ _ _ _ _)).post (fun s h => ⟨_, _, _, h, .inl ⟨hfv, rfl, rfl⟩⟩)).mono (b := 150) (by decide), hfs⟩
      rw [if_neg c1]
      by_cases c2 : d = 124
      · subst c2
        rw [if_pos rfl]
        exact ⟨((hD.trans (C.c124 _ _ _ _ _ _ _)).post (fun s h => ⟨_, _, _, h, .inl ⟨hfv, rfl, rfl⟩⟩)).mono (b := 150) (by decide), hfs⟩
      rw [if_neg c2]
      by_cases c3 : d = 93
      · subst c3
        rw [if_pos rfl]
        exact ⟨((hD.trans (C.c93 _ _ _ _ _ _ _)).post (fun s h => ⟨_, _, _, h, .inl ⟨hfv, rfl, rfl⟩⟩)).mono (b := 150) (by decide), hfs⟩
      rw [if_neg c3]
      by_cases c4 : d = 123
      · subst c4
        rw [if_pos rfl]
        exact ⟨((hD.trans (C.c123 _ _ _ _ _ _ _)).post (fun s h => ⟨_, _, _, h, .inl ⟨hfv, rfl, rfl⟩⟩)).mono (b := 150) (by decide), hfs⟩
      rw [if_neg c4]
      by_cases c5 : d = 125
      · subst c5
        rw [if_pos rfl]
        exact ⟨((hD.trans (C.c125 _ _ _ _ _ _ _)).post (fun s h => ⟨_, _, _, h, .inl ⟨hfv, rfl, rfl⟩⟩)).mono (b := 150) (by decide), hfs⟩
      rw [if_neg c5]
      by_cases c6 : d = 59
      · subst c6
        rw [if_pos rfl]
        exact ⟨((hD.trans (C.c59 _ _ _ _ _ _ _)).post (fun s h => ⟨_, _, _, h, .inl ⟨hfv, rfl, rfl⟩⟩)).mono (b := 150) (by decide), hfs⟩
      rw [if_neg c6, if_pos (by omega)]
      refine ⟨((hD.trans (C.other _ _ _ _ _ _ _ _ (by omega) hi nd ?_)).post (fun s h => ⟨_, _, _, h, .inl ⟨hfv, rfl, rfl⟩⟩)).mono (b := 150) (by decide), hfs⟩
      unfold special
      omega
theorem finish_of (w : Tw) (h : w.val < 0) : w.finish dk = (w.emit dk 41 0).img := by
  unfold Tw.finish Tw.flush
  rw [if_neg (by omega)]
theorem bracket_eq {a b : Int} (h : a = b) : a = b := h
theorem walks (C : Comp L lim H F G D fin first dk) : ∀ (n : Nat) (w : Tw) (codes : List Int), codes.length ≤ n → w.sign = 0 → (∀ c ∈ codes, 0 ≤ c ∧ c ≤ 126) →
    Go L lim (150 * codes.length + 150) (Hd H w codes) (End fin (flat ((codes.foldl (Tw.one dk) w).finish dk)))
  | n, w, [], _, h0, hc => by
    rintro s ⟨c, f, r, hs, hv⟩
    have g := (C.none w.pile c f w.k w.m r (flat w.img)).trans ((toG C w (-1) f r [] hv).trans (C.fin' _ _ _ _ _ _))
    obtain ⟨i, t, hi, R, ht⟩ := g s hs
    refine ⟨i, t, by simp; omega, R, ?_⟩
    exact ht
  | 0, w, d :: r, hn, h0, hc => by simp at hn
  | n + 1, w, d :: r, hn, h0, hc => by
    have hd0 := hc d (List.mem_cons_self ..)
    by_cases nq : d = 39 ∨ d = 61 ∨ d = 58
    · have nd : ¬ (47 < d ∧ d < 58) := by omega
      have hD := headD C w d r nd (by omega)
      have e : w.one dk d = { (w.flush dk) with sign := d } := by
        unfold Tw.one
        rw [if_neg (by omega), if_neg (by omega), if_pos nq]
      cases r with
      | nil =>
        have ef : (([d] : List Int).foldl (Tw.one dk) w).finish dk = ((w.flush dk).emit dk 41 0).img := by
          show (w.one dk d).finish dk = _
          rw [e]
          exact finish_of (dk := dk) _ (flush_val (dk := dk) w)
        rw [ef]
        rcases nq with rfl | rfl | rfl
        · exact (hD.trans (C.c39e _ _ _ _ _ _)).mono (by simp)
        · exact (hD.trans (C.c61e _ _ _ _ _ _)).mono (by simp)
        · exact (hD.trans (C.c58e _ _ _ _ _ _)).mono (by simp)
      | cons x r =>
        have hx0 := hc x (List.mem_cons_of_mem _ (List.mem_cons_self ..))
        have e2 : (w.one dk d).one dk x = { (({ (w.flush dk) with sign := d } : Tw).second dk x) with sign := 0 } := by
          rw [e]
          conv => lhs; unfold Tw.one
          rw [if_pos (show 0 < d by omega)]
        have ih := walks C n ((w.one dk d).one dk x) r (by simp at hn; omega) (by rw [e2]) (fun c h => hc c (List.mem_cons_of_mem _ (List.mem_cons_of_mem _ h)))
        have hfv := flush_val (dk := dk) w
        have step : Go L lim 150 (Hd H w (d :: x :: r)) (Hd H ((w.one dk d).one dk x) r) := by
          rw [e2]
          generalize w.flush dk = u at *
          unfold Tw.second
          rcases nq with rfl | rfl | rfl
          · rw [if_pos rfl]
            exact (hD.trans (C.c39 _ _ _ _ _ _ _ _ hx0.1)).post (fun s h => ⟨_, _, _, h, .inl ⟨hfv, rfl, rfl⟩⟩)
          · rw [if_neg (by show ¬ (61 : Int) = 39; decide), if_pos rfl]
            exact (hD.trans (C.c61 _ _ _ _ _ _ _ _ hx0.1)).post (fun s h => ⟨_, _, _, h, .inl ⟨hfv, rfl, rfl⟩⟩)
          · rw [if_neg (by show ¬ (58 : Int) = 39; decide), if_neg (by show ¬ (58 : Int) = 61; decide)]
            exact (hD.trans (C.c58 _ _ _ _ _ _ _ _ hx0.1)).post (fun s h => ⟨_, _, _, h, .inl ⟨hfv, rfl, rfl⟩⟩)
        exact (step.trans ih).mono (by simp; omega)
    · obtain ⟨g, gs⟩ := turn C w d r h0 hd0.1 hd0.2 nq
      have ih := walks C n (w.one dk d) r (by simp at hn; omega) gs (fun c h => hc c (List.mem_cons_of_mem _ h))
      exact (g.trans ih).mono (by simp; omega)
/-- a compiler's run over a text ends with the translation written -/
theorem compiles (C : Comp L lim H F G D fin first dk) (codes : List Int) (hc : ∀ c ∈ codes, 0 ≤ c ∧ c ≤ 126) :
    ∃ j t, j ≤ 150 * codes.length + 210 ∧ Rn L lim j ⟨0, [], ⟨0, 0, 0, 0, 0, 0, 0, 0, 0, 0, 0⟩, [], codes, []⟩ t ∧ t.at' = fin ∧ t.out = flat (twigR codes first dk) := by
  have g := ((C.start codes).post (hd_of (w := Tw.start first dk) (show (-1 : Int) < 0 by decide))).trans (walks C codes.length (Tw.start first dk) codes (Nat.le_refl _) rfl hc)
  obtain ⟨j, t, hj, R, ha, ho⟩ := g _ rfl
  exact ⟨j, t, by omega, R, ha, ho⟩
end
end TW
set_option Elab.async false
set_option maxRecDepth 100000
set_option maxHeartbeats 4000000
/-! Printed by gen.py: the walks of the three compilers from loop head to loop head. -/
namespace TW
def rowsSe : Rows := [(0, 32, 0, 200),
  (39, 32, 0, 298),
  (58, 32, 0, 314),
  (59, 32, 0, 370),
  (61, 32, 0, 306),
  (91, 32, 0, 321),
  (93, 32, 0, 340),
  (123, 32, 0, 347),
  (124, 32, 0, 331),
  (125, 32, 0, 357),
  (200, 35, 200, 201),
  (201, 61, 107, 202),
  (202, 35, 32, 203),
  (203, 35, 0, 204),
  (204, 35, 277, 205),
  (205, 40, 0, 206),
  (206, 44, 0, 207),
  (207, 34, 0, 208),
  (208, 61, 99, 209),
  (209, 35, 47, 210),
  (210, 92, 0, 211),
  (211, 60, 0, 212),
  (212, 63, 226, 213),
  (213, 99, 0, 214),
  (214, 35, 58, 215),
  (215, 60, 0, 216),
  (216, 63, 226, 217),
  (217, 114, 0, 218),
  (218, 99, 0, 219),
  (219, 35, 48, 220),
  (220, 45, 0, 221),
  (221, 42, 0, 222),
  (222, 61, 114, 223),
  (223, 35, 1, 224),
  (224, 61, 102, 225),
  (225, 32, 0, 206),
  (226, 102, 0, 227),
  (227, 63, 236, 228),
  (228, 35, 35, 229),
  (229, 114, 0, 230),
  (230, 35, 277, 231),
  (231, 40, 0, 232),
  (232, 35, 0, 233),
  (233, 34, 0, 234),
  (234, 61, 114, 235),
  (235, 61, 102, 236),
  (236, 99, 0, 237),
  (237, 35, 33, 238),
  (238, 60, 0, 239),
  (239, 63, 249, 240),
  (240, 99, 0, 241),
  (241, 35, 0, 242),
  (242, 60, 0, 243),
  (243, 63, 206, 244),
  (244, 35, 41, 245),
  (245, 35, 0, 246),
  (246, 35, 277, 247),
  (247, 40, 0, 248),
  (248, 32, 0, 1),
  (249, 99, 0, 250),
  (250, 36, 0, 251),
  (251, 34, 0, 252),
  (252, 63, 257, 253),
  (253, 35, 0, 254),
  (254, 35, 277, 255),
  (255, 40, 0, 256),
  (256, 32, 0, 206),
  (257, 95, 0, 258),
  (258, 32, 0, 206),
  (259, 61, 110, 260),
  (260, 61, 97, 261),
  (261, 61, 111, 262),
  (262, 109, 0, 263),
  (263, 46, 0, 264),
  (264, 111, 0, 265),
  (265, 46, 0, 266),
  (266, 97, 0, 267),
  (267, 46, 0, 268),
  (268, 110, 0, 269),
  (269, 46, 0, 270),
  (270, 41, 0, 271),
  (271, 107, 0, 272),
  (272, 107, 0, 273),
  (273, 35, 1, 274),
  (274, 43, 0, 275),
  (275, 61, 107, 276),
  (276, 41, 0, 277),
  (277, 107, 0, 278),
  (278, 35, 259, 279),
  (279, 40, 0, 280),
  (280, 35, 271, 281),
  (281, 40, 0, 282),
  (282, 61, 109, 283),
  (283, 41, 0, 284),
  (284, 35, 32, 285),
  (285, 35, 0, 286),
  (286, 116, 0, 287),
  (287, 35, 259, 288),
  (288, 40, 0, 289),
  (289, 41, 0, 290),
  (290, 44, 0, 291),
  (291, 34, 0, 292),
  (292, 61, 99, 293),
  (293, 35, 0, 294),
  (294, 60, 0, 295),
  (295, 63, 297, 296),
  (296, 32, 0, 244),
  (297, 41, 0, 298),
  (298, 35, 290, 299),
  (299, 40, 0, 300),
  (300, 35, 35, 301),
  (301, 99, 0, 302),
  (302, 35, 277, 303),
  (303, 40, 0, 304),
  (304, 35, 0, 305),
  (305, 41, 0, 306),
  (306, 35, 290, 307),
  (307, 40, 0, 308),
  (308, 35, 61, 309),
  (309, 99, 0, 310),
  (310, 35, 277, 311),
  (311, 40, 0, 312),
  (312, 35, 0, 313),
  (313, 41, 0, 314),
  (314, 35, 290, 315),
  (315, 40, 0, 316),
  (316, 109, 0, 317),
  (317, 99, 0, 318),
  (318, 61, 109, 319),
  (319, 35, 0, 320),
  (320, 41, 0, 321),
  (321, 35, 271, 322),
  (322, 40, 0, 323),
  (323, 34, 0, 324),
  (324, 61, 116, 325),
  (325, 35, 63, 326),
  (326, 116, 0, 327),
  (327, 35, 277, 328),
  (328, 40, 0, 329),
  (329, 35, 0, 330),
  (330, 41, 0, 331),
  (331, 35, 271, 332),
  (332, 40, 0, 333),
  (333, 61, 116, 334),
  (334, 35, 284, 335),
  (335, 40, 0, 336),
  (336, 61, 109, 337),
  (337, 116, 0, 338),
  (338, 35, 0, 339),
  (339, 41, 0, 340),
  (340, 61, 116, 341),
  (341, 35, 284, 342),
  (342, 40, 0, 343),
  (343, 116, 0, 344),
  (344, 61, 109, 345),
  (345, 35, 0, 346),
  (346, 41, 0, 347),
  (347, 35, 271, 348),
  (348, 40, 0, 349),
  (349, 61, 116, 350),
  (350, 35, 284, 351),
  (351, 40, 0, 352),
  (352, 116, 0, 353),
  (353, 61, 109, 354),
  (354, 116, 0, 355),
  (355, 35, 0, 356),
  (356, 41, 0, 357),
  (357, 61, 115, 358),
  (358, 35, 271, 359),
  (359, 40, 0, 360),
  (360, 61, 116, 361),
  (361, 35, 63, 362),
  (362, 116, 0, 363),
  (363, 115, 0, 364),
  (364, 35, 259, 365),
  (365, 40, 0, 366),
  (366, 116, 0, 367),
  (367, 61, 109, 368),
  (368, 35, 0, 369),
  (369, 41, 0, 370),
  (370, 35, 41, 371),
  (371, 35, 0, 372),
  (372, 35, 1, 373),
  (373, 35, 259, 374),
  (374, 40, 0, 375),
  (375, 61, 109, 376),
  (376, 35, 0, 377),
  (377, 41, 0, 378)]
abbrev LSe : Nat → Option (Nat × Int × Nat) := look rowsSe
theorem Se_start (inp : List Int) : Rn LSe 1000 32 ⟨0, [], ⟨0, 0, 0, 0, 0, 0, 0, 0, 0, 0, 0⟩, [], inp, []⟩ ⟨206, [], ⟨0, 0, 0, 0, 201, 200, 200, 32, 0, 0, 0⟩, [], inp, 200 :: 0 :: 32 :: 0 :: []⟩ :=
  (Rn.cast (by decide) (show Rn LSe 1000 32 ⟨0, [], ⟨0, 0, 0, 0, 0, 0, 0, 0, 0, 0, 0⟩, [], inp, []⟩ ⟨206, [], ⟨0, 0, 0, 0, 201, 200, 200, 32, 0, 0, 0⟩, [], inp, 200 :: 0 :: 32 :: 0 :: []⟩ by kernel_rfl))

theorem Se_digit (a c e f k m n o r s t : Int) (d : Int) (stk inp out : List Int) (h0 : (lt 47 d) ≠ 0) (h1 : (lt d 58) ≠ 0) : Rn LSe 1000 20 ⟨206, stk, ⟨a, c, e, f, k, m, n, o, r, s, t⟩, [], d :: inp, out⟩ ⟨206, stk, ⟨a, d, e, 1, k, m, n, o, (10 * r + (d - 48)), s, t⟩, [], inp, out⟩ :=
  (Rn.cast (by decide) (Rn.trans (show Rn LSe 1000 6 ⟨206, stk, ⟨a, c, e, f, k, m, n, o, r, s, t⟩, [], d :: inp, out⟩ ⟨212, (lt 47 d) :: stk, ⟨a, d, e, f, k, m, n, o, r, s, t⟩, [], inp, out⟩ by kernel_rfl)
    (Rn.trans (tst1 226 213 (by kernel_rfl) h0)
    (Rn.trans (show Rn LSe 1000 3 ⟨213, stk, ⟨a, d, e, f, k, m, n, o, r, s, t⟩, [], inp, out⟩ ⟨216, (lt d 58) :: stk, ⟨a, d, e, f, k, m, n, o, r, s, t⟩, [], inp, out⟩ by kernel_rfl)
    (Rn.trans (tst1 226 217 (by kernel_rfl) h1)
    (show Rn LSe 1000 9 ⟨217, stk, ⟨a, d, e, f, k, m, n, o, r, s, t⟩, [], inp, out⟩ ⟨206, stk, ⟨a, d, e, 1, k, m, n, o, (10 * r + (d - 48)), s, t⟩, [], inp, out⟩ by kernel_rfl))))))

theorem Se_low (a c e f k m n o r s t : Int) (d : Int) (stk inp out : List Int) (h0 : (lt 47 d) = 0) : Rn LSe 1000 8 ⟨206, stk, ⟨a, c, e, f, k, m, n, o, r, s, t⟩, [], d :: inp, out⟩ ⟨227, f :: stk, ⟨a, d, e, f, k, m, n, o, r, s, t⟩, [], inp, out⟩ :=
  (Rn.cast (by decide) (Rn.trans (show Rn LSe 1000 6 ⟨206, stk, ⟨a, c, e, f, k, m, n, o, r, s, t⟩, [], d :: inp, out⟩ ⟨212, (lt 47 d) :: stk, ⟨a, d, e, f, k, m, n, o, r, s, t⟩, [], inp, out⟩ by kernel_rfl)
    (Rn.trans (tst0 226 213 226 (by kernel_rfl) (by kernel_rfl) h0)
    (show Rn LSe 1000 1 ⟨226, stk, ⟨a, d, e, f, k, m, n, o, r, s, t⟩, [], inp, out⟩ ⟨227, f :: stk, ⟨a, d, e, f, k, m, n, o, r, s, t⟩, [], inp, out⟩ by kernel_rfl))))

theorem Se_high (a c e f k m n o r s t : Int) (d : Int) (stk inp out : List Int) (h0 : (lt 47 d) ≠ 0) (h1 : (lt d 58) = 0) : Rn LSe 1000 12 ⟨206, stk, ⟨a, c, e, f, k, m, n, o, r, s, t⟩, [], d :: inp, out⟩ ⟨227, f :: stk, ⟨a, d, e, f, k, m, n, o, r, s, t⟩, [], inp, out⟩ :=
  (Rn.cast (by decide) (Rn.trans (show Rn LSe 1000 6 ⟨206, stk, ⟨a, c, e, f, k, m, n, o, r, s, t⟩, [], d :: inp, out⟩ ⟨212, (lt 47 d) :: stk, ⟨a, d, e, f, k, m, n, o, r, s, t⟩, [], inp, out⟩ by kernel_rfl)
    (Rn.trans (tst1 226 213 (by kernel_rfl) h0)
    (Rn.trans (show Rn LSe 1000 3 ⟨213, stk, ⟨a, d, e, f, k, m, n, o, r, s, t⟩, [], inp, out⟩ ⟨216, (lt d 58) :: stk, ⟨a, d, e, f, k, m, n, o, r, s, t⟩, [], inp, out⟩ by kernel_rfl)
    (Rn.trans (tst0 226 217 226 (by kernel_rfl) (by kernel_rfl) h1)
    (show Rn LSe 1000 1 ⟨226, stk, ⟨a, d, e, f, k, m, n, o, r, s, t⟩, [], inp, out⟩ ⟨227, f :: stk, ⟨a, d, e, f, k, m, n, o, r, s, t⟩, [], inp, out⟩ by kernel_rfl))))))

theorem Se_none (a c e f k m n o r s t : Int) (stk out : List Int) : Rn LSe 1000 8 ⟨206, stk, ⟨a, c, e, f, k, m, n, o, r, s, t⟩, [], [], out⟩ ⟨227, f :: stk, ⟨a, (-1), e, f, k, m, n, o, r, s, t⟩, [], [], out⟩ :=
  (Rn.cast (by decide) (show Rn LSe 1000 8 ⟨206, stk, ⟨a, c, e, f, k, m, n, o, r, s, t⟩, [], [], out⟩ ⟨227, f :: stk, ⟨a, (-1), e, f, k, m, n, o, r, s, t⟩, [], [], out⟩ by kernel_rfl))

theorem Se_nof (a c e f k m n o r s t : Int) (d : Int) (stk inp out : List Int) (h0 : f = 0) : Rn LSe 1000 4 ⟨227, f :: stk, ⟨a, c, e, f, k, m, n, o, r, s, t⟩, [], inp, out⟩ ⟨239, (lt c 33) :: stk, ⟨a, c, e, f, k, m, n, o, r, s, t⟩, [], inp, out⟩ :=
  (Rn.cast (by decide) (Rn.trans (tst0 236 228 236 (by kernel_rfl) (by kernel_rfl) h0)
    (show Rn LSe 1000 3 ⟨236, stk, ⟨a, c, e, f, k, m, n, o, r, s, t⟩, [], inp, out⟩ ⟨239, (lt c 33) :: stk, ⟨a, c, e, f, k, m, n, o, r, s, t⟩, [], inp, out⟩ by kernel_rfl)))

theorem Se_flush (a c e f k m n o r s t : Int) (d : Int) (stk inp out : List Int) (h0 : f ≠ 0) : Rn LSe 1000 37 ⟨227, f :: stk, ⟨a, c, e, f, k, m, n, o, r, s, t⟩, [], inp, out⟩ ⟨239, (lt c 33) :: stk, ⟨r, c, e, 0, (k + 1), k, k, 35, 0, s, t⟩, [], inp, k :: r :: 35 :: m :: out⟩ :=
  (Rn.cast (by decide) (Rn.trans (tst1 236 228 (by kernel_rfl) h0)
    (show Rn LSe 1000 36 ⟨228, stk, ⟨a, c, e, f, k, m, n, o, r, s, t⟩, [], inp, out⟩ ⟨239, (lt c 33) :: stk, ⟨r, c, e, 0, (k + 1), k, k, 35, 0, s, t⟩, [], inp, k :: r :: 35 :: m :: out⟩ by kernel_rfl)))

theorem Se_blank (a c e f k m n o r s t : Int) (d : Int) (stk inp out : List Int) (h0 : (lt c 33) ≠ 0) (h1 : (lt c 0) = 0) : Rn LSe 1000 5 ⟨239, (lt c 33) :: stk, ⟨a, c, e, f, k, m, n, o, r, s, t⟩, [], inp, out⟩ ⟨206, stk, ⟨a, c, e, f, k, m, n, o, r, s, t⟩, [], inp, out⟩ :=
  (Rn.cast (by decide) (Rn.trans (tst1 249 240 (by kernel_rfl) h0)
    (Rn.trans (show Rn LSe 1000 3 ⟨240, stk, ⟨a, c, e, f, k, m, n, o, r, s, t⟩, [], inp, out⟩ ⟨243, (lt c 0) :: stk, ⟨a, c, e, f, k, m, n, o, r, s, t⟩, [], inp, out⟩ by kernel_rfl)
    (tst0 206 244 206 (by kernel_rfl) (by kernel_rfl) h1))))

theorem Se_end (a e f k m n o r s t : Int) (stk out : List Int) : Rn LSe 1000 35 ⟨239, 1 :: stk, ⟨a, (-1), e, f, k, m, n, o, r, s, t⟩, [], [], out⟩ ⟨1, stk, ⟨0, (-1), e, f, (k + 1), k, k, 41, r, s, t⟩, [], [], k :: 0 :: 41 :: m :: out⟩ :=
  (Rn.cast (by decide) (show Rn LSe 1000 35 ⟨239, 1 :: stk, ⟨a, (-1), e, f, k, m, n, o, r, s, t⟩, [], [], out⟩ ⟨1, stk, ⟨0, (-1), e, f, (k + 1), k, k, 41, r, s, t⟩, [], [], k :: 0 :: 41 :: m :: out⟩ by kernel_rfl))

theorem Se_sign (a c e f k m n o r s t : Int) (d : Int) (stk inp out : List Int) (h0 : (lt c 33) = 0) : Rn LSe 1000 2 ⟨239, (lt c 33) :: stk, ⟨a, c, e, f, k, m, n, o, r, s, t⟩, [], inp, out⟩ ⟨250, c :: stk, ⟨a, c, e, f, k, m, n, o, r, s, t⟩, [], inp, out⟩ :=
  (Rn.cast (by decide) (Rn.trans (tst0 249 240 249 (by kernel_rfl) (by kernel_rfl) h0)
    (show Rn LSe 1000 1 ⟨249, stk, ⟨a, c, e, f, k, m, n, o, r, s, t⟩, [], inp, out⟩ ⟨250, c :: stk, ⟨a, c, e, f, k, m, n, o, r, s, t⟩, [], inp, out⟩ by kernel_rfl)))

theorem Se_other (a c e f k m n o r s t : Int) (d : Int) (stk inp out : List Int) (h0 : LSe (c).toNat = none) (h1 : c ≠ 0) : Rn LSe 1000 32 ⟨250, c :: stk, ⟨a, c, e, f, k, m, n, o, r, s, t⟩, [], inp, out⟩ ⟨206, stk, ⟨0, c, e, f, (k + 1), k, k, c, r, s, t⟩, [], inp, k :: 0 :: c :: m :: out⟩ :=
  (Rn.cast (by decide) (Rn.trans (low0 0 251 (by kernel_rfl) h0)
    (Rn.trans (show Rn LSe 1000 1 ⟨251, c :: stk, ⟨a, c, e, f, k, m, n, o, r, s, t⟩, [], inp, out⟩ ⟨252, c :: c :: stk, ⟨a, c, e, f, k, m, n, o, r, s, t⟩, [], inp, out⟩ by kernel_rfl)
    (Rn.trans (tst1 257 253 (by kernel_rfl) h1)
    (show Rn LSe 1000 29 ⟨253, c :: stk, ⟨a, c, e, f, k, m, n, o, r, s, t⟩, [], inp, out⟩ ⟨206, stk, ⟨0, c, e, f, (k + 1), k, k, c, r, s, t⟩, [], inp, k :: 0 :: c :: m :: out⟩ by kernel_rfl)))))

theorem Se_c91 (a e f k m n o r s t : Int) (stk inp out : List Int) : Rn LSe 1000 47 ⟨250, 91 :: stk, ⟨a, 91, e, f, k, m, n, o, r, s, t⟩, [], inp, out⟩ ⟨206, k :: stk, ⟨k, 91, e, f, ((k + 1) + 1), (k + 1), (k + 1), 63, r, s, k⟩, [], inp, (k + 1) :: k :: 63 :: m :: out⟩ :=
  (Rn.cast (by decide) (show Rn LSe 1000 47 ⟨250, 91 :: stk, ⟨a, 91, e, f, k, m, n, o, r, s, t⟩, [], inp, out⟩ ⟨206, k :: stk, ⟨k, 91, e, f, ((k + 1) + 1), (k + 1), (k + 1), 63, r, s, k⟩, [], inp, (k + 1) :: k :: 63 :: m :: out⟩ by kernel_rfl))

theorem Se_c124 (a e f k m n o r s t : Int) (stk inp out : List Int) : Rn LSe 1000 39 ⟨250, 124 :: stk, ⟨a, 124, e, f, k, m, n, o, r, s, t⟩, [], inp, out⟩ ⟨206, k :: stk.tail, ⟨0, 124, e, f, (k + 1), (hd stk), k, 32, r, s, k⟩, [], inp, k :: 0 :: 32 :: m :: out⟩ :=
  (Rn.cast (by decide) (show Rn LSe 1000 39 ⟨250, 124 :: stk, ⟨a, 124, e, f, k, m, n, o, r, s, t⟩, [], inp, out⟩ ⟨206, k :: stk.tail, ⟨0, 124, e, f, (k + 1), (hd stk), k, 32, r, s, k⟩, [], inp, k :: 0 :: 32 :: m :: out⟩ by kernel_rfl))

theorem Se_c93 (a e f k m n o r s t : Int) (stk inp out : List Int) : Rn LSe 1000 31 ⟨250, 93 :: stk, ⟨a, 93, e, f, k, m, n, o, r, s, t⟩, [], inp, out⟩ ⟨206, stk.tail, ⟨0, 93, e, f, k, (hd stk), (hd stk), 32, r, s, (hd stk)⟩, [], inp, (hd stk) :: 0 :: 32 :: m :: out⟩ :=
  (Rn.cast (by decide) (show Rn LSe 1000 31 ⟨250, 93 :: stk, ⟨a, 93, e, f, k, m, n, o, r, s, t⟩, [], inp, out⟩ ⟨206, stk.tail, ⟨0, 93, e, f, k, (hd stk), (hd stk), 32, r, s, (hd stk)⟩, [], inp, (hd stk) :: 0 :: 32 :: m :: out⟩ by kernel_rfl))

theorem Se_c123 (a e f k m n o r s t : Int) (stk inp out : List Int) : Rn LSe 1000 40 ⟨250, 123 :: stk, ⟨a, 123, e, f, k, m, n, o, r, s, t⟩, [], inp, out⟩ ⟨206, k :: stk, ⟨0, 123, e, f, (k + 1), k, k, 32, r, s, k⟩, [], inp, k :: 0 :: 32 :: m :: out⟩ :=
  (Rn.cast (by decide) (show Rn LSe 1000 40 ⟨250, 123 :: stk, ⟨a, 123, e, f, k, m, n, o, r, s, t⟩, [], inp, out⟩ ⟨206, k :: stk, ⟨0, 123, e, f, (k + 1), k, k, 32, r, s, k⟩, [], inp, k :: 0 :: 32 :: m :: out⟩ by kernel_rfl))

theorem Se_c125 (a e f k m n o r s t : Int) (stk inp out : List Int) : Rn LSe 1000 37 ⟨250, 125 :: stk, ⟨a, 125, e, f, k, m, n, o, r, s, t⟩, [], inp, out⟩ ⟨206, stk.tail, ⟨k, 125, e, f, (k + 1), k, (hd stk), 63, r, (hd stk), k⟩, [], inp, (hd stk) :: k :: 63 :: m :: out⟩ :=
  (Rn.cast (by decide) (show Rn LSe 1000 37 ⟨250, 125 :: stk, ⟨a, 125, e, f, k, m, n, o, r, s, t⟩, [], inp, out⟩ ⟨206, stk.tail, ⟨k, 125, e, f, (k + 1), k, (hd stk), 63, r, (hd stk), k⟩, [], inp, (hd stk) :: k :: 63 :: m :: out⟩ by kernel_rfl))

theorem Se_c59 (a e f k m n o r s t : Int) (stk inp out : List Int) : Rn LSe 1000 26 ⟨250, 59 :: stk, ⟨a, 59, e, f, k, m, n, o, r, s, t⟩, [], inp, out⟩ ⟨206, stk.tail, ⟨0, 59, e, f, k, (hd stk), 1, 41, r, s, t⟩, [], inp, 1 :: 0 :: 41 :: m :: out⟩ :=
  (Rn.cast (by decide) (show Rn LSe 1000 26 ⟨250, 59 :: stk, ⟨a, 59, e, f, k, m, n, o, r, s, t⟩, [], inp, out⟩ ⟨206, stk.tail, ⟨0, 59, e, f, k, (hd stk), 1, 41, r, s, t⟩, [], inp, 1 :: 0 :: 41 :: m :: out⟩ by kernel_rfl))

theorem Se_c39 (a e f k m n o r s t : Int) (d : Int) (stk inp out : List Int) (h0 : (lt d 0) = 0) : Rn LSe 1000 46 ⟨250, 39 :: stk, ⟨a, 39, e, f, k, m, n, o, r, s, t⟩, [], d :: inp, out⟩ ⟨206, stk, ⟨d, d, e, f, (k + 1), k, k, 35, r, s, t⟩, [], inp, k :: d :: 35 :: m :: out⟩ :=
  (Rn.cast (by decide) (Rn.trans (show Rn LSe 1000 9 ⟨250, 39 :: stk, ⟨a, 39, e, f, k, m, n, o, r, s, t⟩, [], d :: inp, out⟩ ⟨295, (lt d 0) :: stk, ⟨a, d, e, f, k, m, n, o, r, s, t⟩, 300 :: 251 :: [], inp, out⟩ by kernel_rfl)
    (Rn.trans (tst0 297 296 297 (by kernel_rfl) (by kernel_rfl) h0)
    (show Rn LSe 1000 36 ⟨297, stk, ⟨a, d, e, f, k, m, n, o, r, s, t⟩, 300 :: 251 :: [], inp, out⟩ ⟨206, stk, ⟨d, d, e, f, (k + 1), k, k, 35, r, s, t⟩, [], inp, k :: d :: 35 :: m :: out⟩ by kernel_rfl))))

theorem Se_c39e (a e f k m n o r s t : Int) (stk out : List Int) : Rn LSe 1000 41 ⟨250, 39 :: stk, ⟨a, 39, e, f, k, m, n, o, r, s, t⟩, [], [], out⟩ ⟨1, stk, ⟨0, (-1), e, f, (k + 1), k, k, 41, r, s, t⟩, 300 :: 251 :: [], [], k :: 0 :: 41 :: m :: out⟩ :=
  (Rn.cast (by decide) (show Rn LSe 1000 41 ⟨250, 39 :: stk, ⟨a, 39, e, f, k, m, n, o, r, s, t⟩, [], [], out⟩ ⟨1, stk, ⟨0, (-1), e, f, (k + 1), k, k, 41, r, s, t⟩, 300 :: 251 :: [], [], k :: 0 :: 41 :: m :: out⟩ by kernel_rfl))

theorem Se_c61 (a e f k m n o r s t : Int) (d : Int) (stk inp out : List Int) (h0 : (lt d 0) = 0) : Rn LSe 1000 46 ⟨250, 61 :: stk, ⟨a, 61, e, f, k, m, n, o, r, s, t⟩, [], d :: inp, out⟩ ⟨206, stk, ⟨d, d, e, f, (k + 1), k, k, 61, r, s, t⟩, [], inp, k :: d :: 61 :: m :: out⟩ :=
  (Rn.cast (by decide) (Rn.trans (show Rn LSe 1000 9 ⟨250, 61 :: stk, ⟨a, 61, e, f, k, m, n, o, r, s, t⟩, [], d :: inp, out⟩ ⟨295, (lt d 0) :: stk, ⟨a, d, e, f, k, m, n, o, r, s, t⟩, 308 :: 251 :: [], inp, out⟩ by kernel_rfl)
    (Rn.trans (tst0 297 296 297 (by kernel_rfl) (by kernel_rfl) h0)
    (show Rn LSe 1000 36 ⟨297, stk, ⟨a, d, e, f, k, m, n, o, r, s, t⟩, 308 :: 251 :: [], inp, out⟩ ⟨206, stk, ⟨d, d, e, f, (k + 1), k, k, 61, r, s, t⟩, [], inp, k :: d :: 61 :: m :: out⟩ by kernel_rfl))))

theorem Se_c61e (a e f k m n o r s t : Int) (stk out : List Int) : Rn LSe 1000 41 ⟨250, 61 :: stk, ⟨a, 61, e, f, k, m, n, o, r, s, t⟩, [], [], out⟩ ⟨1, stk, ⟨0, (-1), e, f, (k + 1), k, k, 41, r, s, t⟩, 308 :: 251 :: [], [], k :: 0 :: 41 :: m :: out⟩ :=
  (Rn.cast (by decide) (show Rn LSe 1000 41 ⟨250, 61 :: stk, ⟨a, 61, e, f, k, m, n, o, r, s, t⟩, [], [], out⟩ ⟨1, stk, ⟨0, (-1), e, f, (k + 1), k, k, 41, r, s, t⟩, 308 :: 251 :: [], [], k :: 0 :: 41 :: m :: out⟩ by kernel_rfl))

theorem Se_c58 (a e f k m n o r s t : Int) (d : Int) (stk inp out : List Int) (h0 : (lt d 0) = 0) : Rn LSe 1000 20 ⟨250, 58 :: stk, ⟨a, 58, e, f, k, m, n, o, r, s, t⟩, [], d :: inp, out⟩ ⟨206, m :: stk, ⟨a, d, e, f, k, d, n, o, r, s, t⟩, [], inp, out⟩ :=
  (Rn.cast (by decide) (Rn.trans (show Rn LSe 1000 9 ⟨250, 58 :: stk, ⟨a, 58, e, f, k, m, n, o, r, s, t⟩, [], d :: inp, out⟩ ⟨295, (lt d 0) :: stk, ⟨a, d, e, f, k, m, n, o, r, s, t⟩, 316 :: 251 :: [], inp, out⟩ by kernel_rfl)
    (Rn.trans (tst0 297 296 297 (by kernel_rfl) (by kernel_rfl) h0)
    (show Rn LSe 1000 10 ⟨297, stk, ⟨a, d, e, f, k, m, n, o, r, s, t⟩, 316 :: 251 :: [], inp, out⟩ ⟨206, m :: stk, ⟨a, d, e, f, k, d, n, o, r, s, t⟩, [], inp, out⟩ by kernel_rfl))))

theorem Se_c58e (a e f k m n o r s t : Int) (stk out : List Int) : Rn LSe 1000 41 ⟨250, 58 :: stk, ⟨a, 58, e, f, k, m, n, o, r, s, t⟩, [], [], out⟩ ⟨1, stk, ⟨0, (-1), e, f, (k + 1), k, k, 41, r, s, t⟩, 316 :: 251 :: [], [], k :: 0 :: 41 :: m :: out⟩ :=
  (Rn.cast (by decide) (show Rn LSe 1000 41 ⟨250, 58 :: stk, ⟨a, 58, e, f, k, m, n, o, r, s, t⟩, [], [], out⟩ ⟨1, stk, ⟨0, (-1), e, f, (k + 1), k, k, 41, r, s, t⟩, 316 :: 251 :: [], [], k :: 0 :: 41 :: m :: out⟩ by kernel_rfl))

def specSe (n : Nat) : Bool := n == 39 || n == 61 || n == 58 || n == 91 || n == 124 || n == 93 || n == 123 || n == 125 || n == 59
theorem Se_free0 : ∀ n : Nat, n < 127 → (33 ≤ n ∧ ¬ (47 < n ∧ n < 58) ∧ specSe n = false) → (LSe n).isNone = true := by decide +kernel
theorem Se_free {c : Int} (h1 : 33 ≤ c) (h2 : c ≤ 126) (h3 : ¬ (47 < c ∧ c < 58)) (h4 : ¬ special c) : LSe c.toNat = none := by
  have h := Se_free0 c.toNat (by omega) ⟨by omega, by omega, by
    unfold special at h4
    unfold specSe
    simp only [Bool.or_eq_false_iff, beq_eq_false_iff_ne]
    omega⟩
  cases e : LSe c.toNat with
  | none => rfl
  | some x => rw [e] at h; cases h
theorem compSe : Comp LSe 1000 206 227 239 250 1 (200) (1) where
  start := fun inp => by rintro z rfl; exact ⟨_, _, by decide, Se_start inp, _, _, _, _, _, rfl⟩
  digit := fun stk c f k m r d inp out h1 h2 => by rintro z ⟨a, n, o, s, t, rfl⟩; exact ⟨_, _, by decide, Se_digit a c 0 f k m n o r s t d stk inp out (lt_t h1) (lt_t h2), _, _, _, _, _, rfl⟩
  non := fun stk c f k m r d inp out h => by
    rintro z ⟨a, n, o, s, t, rfl⟩
    by_cases h1 : 47 < d
    · exact ⟨_, _, by decide, Se_high a c 0 f k m n o r s t d stk inp out (lt_t h1) (lt_f (by omega)), _, _, _, _, _, rfl⟩
    · exact ⟨_, _, by decide, Se_low a c 0 f k m n o r s t d stk inp out (lt_f h1), _, _, _, _, _, rfl⟩
  none := fun stk c f k m r out => by rintro z ⟨a, n, o, s, t, rfl⟩; exact ⟨_, _, by decide, Se_none a c 0 f k m n o r s t stk out, _, _, _, _, _, rfl⟩
  nof := fun stk c k m r inp out => by rintro z ⟨a, n, o, s, t, rfl⟩; exact ⟨_, _, by decide, Se_nof a c 0 0 k m n o r s t 0 stk inp out rfl, _, _, _, _, _, rfl⟩
  flush := fun stk c k m r inp out => by rintro z ⟨a, n, o, s, t, rfl⟩; exact ⟨_, _, by decide, Se_flush a c 0 1 k m n o r s t 0 stk inp out (by decide), _, _, _, _, _, rfl⟩
  blank := fun stk c f k m r inp out h1 h2 => by rintro z ⟨a, n, o, s, t, rfl⟩; exact ⟨_, _, by decide, Se_blank a c 0 f k m n o r s t 0 stk inp out (lt_t h2) (lt_f (by omega)), _, _, _, _, _, rfl⟩
  fin' := fun stk f k m r out => by rintro z ⟨a, n, o, s, t, rfl⟩; exact ⟨_, _, by decide, Se_end a 0 f k m n o r s t stk out, rfl, rfl⟩
  sign := fun stk c f k m r inp out h => by rintro z ⟨a, n, o, s, t, rfl⟩; exact ⟨_, _, by decide, Se_sign a c 0 f k m n o r s t 0 stk inp out (lt_f (by omega)), _, _, _, _, _, rfl⟩
  other := fun stk c f k m r inp out h1 h2 h3 h4 => by rintro z ⟨a, n, o, s, t, rfl⟩; exact ⟨_, _, by decide, Se_other a c 0 f k m n o r s t 0 stk inp out (Se_free h1 h2 h3 h4) (by omega), _, _, _, _, _, rfl⟩
  c91 := fun stk f k m r inp out => by rintro z ⟨a, n, o, s, t, rfl⟩; exact ⟨_, _, by decide, Se_c91 a 0 f k m n o r s t stk inp out, _, _, _, _, _, rfl⟩
  c124 := fun stk f k m r inp out => by rintro z ⟨a, n, o, s, t, rfl⟩; exact ⟨_, _, by decide, Se_c124 a 0 f k m n o r s t stk inp out, _, _, _, _, _, rfl⟩
  c93 := fun stk f k m r inp out => by rintro z ⟨a, n, o, s, t, rfl⟩; exact ⟨_, _, by decide, Se_c93 a 0 f k m n o r s t stk inp out, _, _, _, _, _, rfl⟩
  c123 := fun stk f k m r inp out => by rintro z ⟨a, n, o, s, t, rfl⟩; exact ⟨_, _, by decide, Se_c123 a 0 f k m n o r s t stk inp out, _, _, _, _, _, rfl⟩
  c125 := fun stk f k m r inp out => by rintro z ⟨a, n, o, s, t, rfl⟩; exact ⟨_, _, by decide, Se_c125 a 0 f k m n o r s t stk inp out, _, _, _, _, _, rfl⟩
  c59 := fun stk f k m r inp out => by rintro z ⟨a, n, o, s, t, rfl⟩; exact ⟨_, _, by decide, Se_c59 a 0 f k m n o r s t stk inp out, _, _, _, _, _, rfl⟩
  c39 := fun stk f k m r d inp out h => by rintro z ⟨a, n, o, s, t, rfl⟩; exact ⟨_, _, by decide, Se_c39 a 0 f k m n o r s t d stk inp out (lt_f (by omega)), _, _, _, _, _, rfl⟩
  c61 := fun stk f k m r d inp out h => by rintro z ⟨a, n, o, s, t, rfl⟩; exact ⟨_, _, by decide, Se_c61 a 0 f k m n o r s t d stk inp out (lt_f (by omega)), _, _, _, _, _, rfl⟩
  c58 := fun stk f k m r d inp out h => by rintro z ⟨a, n, o, s, t, rfl⟩; exact ⟨_, _, by decide, Se_c58 a 0 f k m n o r s t d stk inp out (lt_f (by omega)), _, _, _, _, _, rfl⟩
  c39e := fun stk f k m r out => by rintro z ⟨a, n, o, s, t, rfl⟩; exact ⟨_, _, by decide, Se_c39e a 0 f k m n o r s t stk out, rfl, rfl⟩
  c61e := fun stk f k m r out => by rintro z ⟨a, n, o, s, t, rfl⟩; exact ⟨_, _, by decide, Se_c61e a 0 f k m n o r s t stk out, rfl, rfl⟩
  c58e := fun stk f k m r out => by rintro z ⟨a, n, o, s, t, rfl⟩; exact ⟨_, _, by decide, Se_c58e a 0 f k m n o r s t stk out, rfl, rfl⟩
end TW
set_option Elab.async false
set_option maxRecDepth 100000
set_option maxHeartbeats 4000000
/-! Printed by gen.py: the walks of the three compilers from loop head to loop head. -/
namespace TW
def rowsPl : Rows := [(0, 32, 0, 200),
  (200, 35, 200, 201),
  (201, 61, 107, 202),
  (202, 35, 32, 203),
  (203, 35, 0, 204),
  (204, 35, 51, 205),
  (205, 40, 0, 206),
  (206, 32, 0, 207),
  (207, 44, 0, 208),
  (208, 61, 99, 209),
  (209, 35, 47, 210),
  (210, 99, 0, 211),
  (211, 60, 0, 212),
  (212, 63, 213, 214),
  (214, 99, 0, 215),
  (215, 35, 58, 216),
  (216, 60, 0, 217),
  (217, 32, 0, 218),
  (213, 35, 0, 219),
  (219, 32, 0, 218),
  (218, 63, 220, 221),
  (221, 114, 0, 222),
  (222, 99, 0, 223),
  (223, 35, 48, 224),
  (224, 45, 0, 225),
  (225, 42, 0, 226),
  (226, 61, 114, 227),
  (227, 35, 1, 228),
  (228, 61, 102, 229),
  (229, 32, 0, 230),
  (220, 102, 0, 231),
  (231, 63, 232, 233),
  (233, 35, 35, 234),
  (234, 114, 0, 235),
  (235, 35, 51, 236),
  (236, 40, 0, 237),
  (237, 35, 0, 238),
  (238, 34, 0, 239),
  (239, 61, 114, 240),
  (240, 61, 102, 241),
  (241, 32, 0, 232),
  (232, 99, 0, 242),
  (242, 35, 33, 243),
  (243, 60, 0, 244),
  (244, 63, 245, 246),
  (246, 99, 0, 247),
  (247, 35, 0, 248),
  (248, 60, 0, 249),
  (249, 61, 101, 250),
  (250, 32, 0, 251),
  (245, 99, 0, 252),
  (252, 36, 0, 253),
  (253, 34, 0, 254),
  (254, 63, 255, 256),
  (256, 35, 0, 257),
  (257, 35, 51, 258),
  (258, 40, 0, 259),
  (259, 32, 0, 260),
  (255, 95, 0, 261),
  (261, 32, 0, 260),
  (260, 32, 0, 251),
  (251, 32, 0, 230),
  (230, 101, 0, 262),
  (262, 35, 0, 263),
  (263, 126, 0, 264),
  (264, 63, 265, 207),
  (265, 35, 41, 266),
  (266, 35, 0, 267),
  (267, 35, 51, 268),
  (268, 40, 0, 269),
  (49, 61, 110, 270),
  (270, 61, 97, 271),
  (271, 61, 111, 272),
  (272, 109, 0, 273),
  (273, 46, 0, 274),
  (274, 111, 0, 275),
  (275, 46, 0, 276),
  (276, 97, 0, 277),
  (277, 46, 0, 278),
  (278, 110, 0, 279),
  (279, 46, 0, 280),
  (280, 41, 0, 1),
  (50, 107, 0, 281),
  (281, 107, 0, 282),
  (282, 35, 1, 283),
  (283, 43, 0, 284),
  (284, 61, 107, 285),
  (285, 41, 0, 1),
  (51, 107, 0, 286),
  (286, 35, 49, 287),
  (287, 40, 0, 288),
  (288, 35, 50, 289),
  (289, 40, 0, 290),
  (290, 61, 109, 291),
  (291, 41, 0, 1),
  (39, 44, 0, 292),
  (292, 34, 0, 293),
  (293, 61, 99, 294),
  (294, 35, 0, 295),
  (295, 60, 0, 296),
  (296, 63, 297, 298),
  (298, 35, 1, 299),
  (299, 61, 101, 300),
  (300, 32, 0, 301),
  (297, 35, 35, 302),
  (302, 99, 0, 303),
  (303, 35, 51, 304),
  (304, 40, 0, 305),
  (305, 32, 0, 301),
  (301, 35, 0, 306),
  (306, 41, 0, 1),
  (61, 44, 0, 307),
  (307, 34, 0, 308),
  (308, 61, 99, 309),
  (309, 35, 0, 310),
  (310, 60, 0, 311),
  (311, 63, 312, 313),
  (313, 35, 1, 314),
  (314, 61, 101, 315),
  (315, 32, 0, 316),
  (312, 35, 61, 317),
  (317, 99, 0, 318),
  (318, 35, 51, 319),
  (319, 40, 0, 320),
  (320, 32, 0, 316),
  (316, 35, 0, 321),
  (321, 41, 0, 1),
  (58, 44, 0, 322),
  (322, 34, 0, 323),
  (323, 61, 99, 324),
  (324, 35, 0, 325),
  (325, 60, 0, 326),
  (326, 63, 327, 328),
  (328, 35, 1, 329),
  (329, 61, 101, 330),
  (330, 32, 0, 331),
  (327, 109, 0, 332),
  (332, 99, 0, 333),
  (333, 61, 109, 334),
  (334, 32, 0, 331),
  (331, 35, 0, 335),
  (335, 41, 0, 1),
  (91, 35, 50, 336),
  (336, 40, 0, 337),
  (337, 34, 0, 338),
  (338, 61, 116, 339),
  (339, 35, 63, 340),
  (340, 116, 0, 341),
  (341, 35, 51, 342),
  (342, 40, 0, 343),
  (343, 35, 0, 344),
  (344, 41, 0, 1),
  (124, 35, 50, 345),
  (345, 40, 0, 346),
  (346, 61, 116, 347),
  (347, 35, 32, 348),
  (348, 35, 0, 349),
  (349, 116, 0, 350),
  (350, 35, 49, 351),
  (351, 40, 0, 352),
  (352, 61, 109, 353),
  (353, 116, 0, 354),
  (354, 35, 0, 355),
  (355, 41, 0, 1),
  (93, 61, 116, 356),
  (356, 35, 32, 357),
  (357, 35, 0, 358),
  (358, 116, 0, 359),
  (359, 35, 49, 360),
  (360, 40, 0, 361),
  (361, 116, 0, 362),
  (362, 61, 109, 363),
  (363, 35, 0, 364),
  (364, 41, 0, 1),
  (123, 35, 50, 365),
  (365, 40, 0, 366),
  (366, 61, 116, 367),
  (367, 35, 32, 368),
  (368, 35, 0, 369),
  (369, 116, 0, 370),
  (370, 35, 49, 371),
  (371, 40, 0, 372),
  (372, 116, 0, 373),
  (373, 61, 109, 374),
  (374, 116, 0, 375),
  (375, 35, 0, 376),
  (376, 41, 0, 1),
  (125, 61, 115, 377),
  (377, 35, 50, 378),
  (378, 40, 0, 379),
  (379, 61, 116, 380),
  (380, 35, 63, 381),
  (381, 116, 0, 382),
  (382, 115, 0, 383),
  (383, 35, 49, 384),
  (384, 40, 0, 385),
  (385, 116, 0, 386),
  (386, 61, 109, 387),
  (387, 35, 0, 388),
  (388, 41, 0, 1),
  (59, 35, 41, 389),
  (389, 35, 0, 390),
  (390, 35, 1, 391),
  (391, 35, 49, 392),
  (392, 40, 0, 393),
  (393, 61, 109, 394),
  (394, 35, 0, 395),
  (395, 41, 0, 1),
  (269, 41, 0, 396)]
abbrev LPl : Nat → Option (Nat × Int × Nat) := look rowsPl
theorem Pl_start (inp : List Int) : Rn LPl 200 33 ⟨0, [], ⟨0, 0, 0, 0, 0, 0, 0, 0, 0, 0, 0⟩, [], inp, []⟩ ⟨207, [], ⟨0, 0, 0, 0, 201, 200, 200, 32, 0, 0, 0⟩, [], inp, 200 :: 0 :: 32 :: 0 :: []⟩ :=
  (Rn.cast (by decide) (show Rn LPl 200 33 ⟨0, [], ⟨0, 0, 0, 0, 0, 0, 0, 0, 0, 0, 0⟩, [], inp, []⟩ ⟨207, [], ⟨0, 0, 0, 0, 201, 200, 200, 32, 0, 0, 0⟩, [], inp, 200 :: 0 :: 32 :: 0 :: []⟩ by kernel_rfl))

theorem Pl_digit (a c e f k m n o r s t : Int) (d : Int) (stk inp out : List Int) (h0 : (lt 47 d) ≠ 0) (h1 : (lt d 58) ≠ 0) (h2 : (eq e 0) ≠ 0) : Rn LPl 200 24 ⟨207, stk, ⟨a, c, e, f, k, m, n, o, r, s, t⟩, [], d :: inp, out⟩ ⟨207, stk, ⟨a, d, e, 1, k, m, n, o, (10 * r + (d - 48)), s, t⟩, [], inp, out⟩ :=
  (Rn.cast (by decide) (Rn.trans (show Rn LPl 200 5 ⟨207, stk, ⟨a, c, e, f, k, m, n, o, r, s, t⟩, [], d :: inp, out⟩ ⟨212, (lt 47 d) :: stk, ⟨a, d, e, f, k, m, n, o, r, s, t⟩, [], inp, out⟩ by kernel_rfl)
    (Rn.trans (tst1 213 214 (by kernel_rfl) h0)
    (Rn.trans (show Rn LPl 200 4 ⟨214, stk, ⟨a, d, e, f, k, m, n, o, r, s, t⟩, [], inp, out⟩ ⟨218, (lt d 58) :: stk, ⟨a, d, e, f, k, m, n, o, r, s, t⟩, [], inp, out⟩ by kernel_rfl)
    (Rn.trans (tst1 220 221 (by kernel_rfl) h1)
    (Rn.trans (show Rn LPl 200 12 ⟨221, stk, ⟨a, d, e, f, k, m, n, o, r, s, t⟩, [], inp, out⟩ ⟨264, (eq e 0) :: stk, ⟨a, d, e, 1, k, m, n, o, (10 * r + (d - 48)), s, t⟩, [], inp, out⟩ by kernel_rfl)
    (tst1 265 207 (by kernel_rfl) h2)))))))

theorem Pl_low (a c e f k m n o r s t : Int) (d : Int) (stk inp out : List Int) (h0 : (lt 47 d) = 0) : Rn LPl 200 10 ⟨207, stk, ⟨a, c, e, f, k, m, n, o, r, s, t⟩, [], d :: inp, out⟩ ⟨231, f :: stk, ⟨a, d, e, f, k, m, n, o, r, s, t⟩, [], inp, out⟩ :=
  (Rn.cast (by decide) (Rn.trans (show Rn LPl 200 5 ⟨207, stk, ⟨a, c, e, f, k, m, n, o, r, s, t⟩, [], d :: inp, out⟩ ⟨212, (lt 47 d) :: stk, ⟨a, d, e, f, k, m, n, o, r, s, t⟩, [], inp, out⟩ by kernel_rfl)
    (Rn.trans (tst0 213 214 213 (by kernel_rfl) (by kernel_rfl) h0)
    (show Rn LPl 200 4 ⟨213, stk, ⟨a, d, e, f, k, m, n, o, r, s, t⟩, [], inp, out⟩ ⟨231, f :: stk, ⟨a, d, e, f, k, m, n, o, r, s, t⟩, [], inp, out⟩ by kernel_rfl))))

theorem Pl_high (a c e f k m n o r s t : Int) (d : Int) (stk inp out : List Int) (h0 : (lt 47 d) ≠ 0) (h1 : (lt d 58) = 0) : Rn LPl 200 12 ⟨207, stk, ⟨a, c, e, f, k, m, n, o, r, s, t⟩, [], d :: inp, out⟩ ⟨231, f :: stk, ⟨a, d, e, f, k, m, n, o, r, s, t⟩, [], inp, out⟩ :=
  (Rn.cast (by decide) (Rn.trans (show Rn LPl 200 5 ⟨207, stk, ⟨a, c, e, f, k, m, n, o, r, s, t⟩, [], d :: inp, out⟩ ⟨212, (lt 47 d) :: stk, ⟨a, d, e, f, k, m, n, o, r, s, t⟩, [], inp, out⟩ by kernel_rfl)
    (Rn.trans (tst1 213 214 (by kernel_rfl) h0)
    (Rn.trans (show Rn LPl 200 4 ⟨214, stk, ⟨a, d, e, f, k, m, n, o, r, s, t⟩, [], inp, out⟩ ⟨218, (lt d 58) :: stk, ⟨a, d, e, f, k, m, n, o, r, s, t⟩, [], inp, out⟩ by kernel_rfl)
    (Rn.trans (tst0 220 221 220 (by kernel_rfl) (by kernel_rfl) h1)
    (show Rn LPl 200 1 ⟨220, stk, ⟨a, d, e, f, k, m, n, o, r, s, t⟩, [], inp, out⟩ ⟨231, f :: stk, ⟨a, d, e, f, k, m, n, o, r, s, t⟩, [], inp, out⟩ by kernel_rfl))))))

theorem Pl_none (a c e f k m n o r s t : Int) (stk out : List Int) : Rn LPl 200 10 ⟨207, stk, ⟨a, c, e, f, k, m, n, o, r, s, t⟩, [], [], out⟩ ⟨231, f :: stk, ⟨a, (-1), e, f, k, m, n, o, r, s, t⟩, [], [], out⟩ :=
  (Rn.cast (by decide) (show Rn LPl 200 10 ⟨207, stk, ⟨a, c, e, f, k, m, n, o, r, s, t⟩, [], [], out⟩ ⟨231, f :: stk, ⟨a, (-1), e, f, k, m, n, o, r, s, t⟩, [], [], out⟩ by kernel_rfl))

theorem Pl_nof (a c e f k m n o r s t : Int) (d : Int) (stk inp out : List Int) (h0 : f = 0) : Rn LPl 200 4 ⟨231, f :: stk, ⟨a, c, e, f, k, m, n, o, r, s, t⟩, [], inp, out⟩ ⟨244, (lt c 33) :: stk, ⟨a, c, e, f, k, m, n, o, r, s, t⟩, [], inp, out⟩ :=
  (Rn.cast (by decide) (Rn.trans (tst0 232 233 232 (by kernel_rfl) (by kernel_rfl) h0)
    (show Rn LPl 200 3 ⟨232, stk, ⟨a, c, e, f, k, m, n, o, r, s, t⟩, [], inp, out⟩ ⟨244, (lt c 33) :: stk, ⟨a, c, e, f, k, m, n, o, r, s, t⟩, [], inp, out⟩ by kernel_rfl)))

theorem Pl_flush (a c e f k m n o r s t : Int) (d : Int) (stk inp out : List Int) (h0 : f ≠ 0) : Rn LPl 200 38 ⟨231, f :: stk, ⟨a, c, e, f, k, m, n, o, r, s, t⟩, [], inp, out⟩ ⟨244, (lt c 33) :: stk, ⟨r, c, e, 0, (k + 1), k, k, 35, 0, s, t⟩, [], inp, k :: r :: 35 :: m :: out⟩ :=
  (Rn.cast (by decide) (Rn.trans (tst1 232 233 (by kernel_rfl) h0)
    (show Rn LPl 200 37 ⟨233, stk, ⟨a, c, e, f, k, m, n, o, r, s, t⟩, [], inp, out⟩ ⟨244, (lt c 33) :: stk, ⟨r, c, e, 0, (k + 1), k, k, 35, 0, s, t⟩, [], inp, k :: r :: 35 :: m :: out⟩ by kernel_rfl)))

theorem Pl_blank (a c e f k m n o r s t : Int) (d : Int) (stk inp out : List Int) (h0 : (lt c 33) ≠ 0) (h1 : (eq (lt c 0) 0) ≠ 0) : Rn LPl 200 11 ⟨244, (lt c 33) :: stk, ⟨a, c, e, f, k, m, n, o, r, s, t⟩, [], inp, out⟩ ⟨207, stk, ⟨a, c, (lt c 0), f, k, m, n, o, r, s, t⟩, [], inp, out⟩ :=
  (Rn.cast (by decide) (Rn.trans (tst1 245 246 (by kernel_rfl) h0)
    (Rn.trans (show Rn LPl 200 9 ⟨246, stk, ⟨a, c, e, f, k, m, n, o, r, s, t⟩, [], inp, out⟩ ⟨264, (eq (lt c 0) 0) :: stk, ⟨a, c, (lt c 0), f, k, m, n, o, r, s, t⟩, [], inp, out⟩ by kernel_rfl)
    (tst1 265 207 (by kernel_rfl) h1))))

theorem Pl_end (a e f k m n o r s t : Int) (stk out : List Int) : Rn LPl 200 41 ⟨244, 1 :: stk, ⟨a, (-1), e, f, k, m, n, o, r, s, t⟩, [], [], out⟩ ⟨396, stk, ⟨0, (-1), 1, f, (k + 1), k, k, 41, r, s, t⟩, [], [], k :: 0 :: 41 :: m :: out⟩ :=
  (Rn.cast (by decide) (show Rn LPl 200 41 ⟨244, 1 :: stk, ⟨a, (-1), e, f, k, m, n, o, r, s, t⟩, [], [], out⟩ ⟨396, stk, ⟨0, (-1), 1, f, (k + 1), k, k, 41, r, s, t⟩, [], [], k :: 0 :: 41 :: m :: out⟩ by kernel_rfl))

theorem Pl_sign (a c e f k m n o r s t : Int) (d : Int) (stk inp out : List Int) (h0 : (lt c 33) = 0) : Rn LPl 200 2 ⟨244, (lt c 33) :: stk, ⟨a, c, e, f, k, m, n, o, r, s, t⟩, [], inp, out⟩ ⟨252, c :: stk, ⟨a, c, e, f, k, m, n, o, r, s, t⟩, [], inp, out⟩ :=
  (Rn.cast (by decide) (Rn.trans (tst0 245 246 245 (by kernel_rfl) (by kernel_rfl) h0)
    (show Rn LPl 200 1 ⟨245, stk, ⟨a, c, e, f, k, m, n, o, r, s, t⟩, [], inp, out⟩ ⟨252, c :: stk, ⟨a, c, e, f, k, m, n, o, r, s, t⟩, [], inp, out⟩ by kernel_rfl)))

theorem Pl_other (a c e f k m n o r s t : Int) (d : Int) (stk inp out : List Int) (h0 : LPl (c).toNat = none) (h1 : c ≠ 0) (h2 : (eq e 0) ≠ 0) : Rn LPl 200 38 ⟨252, c :: stk, ⟨a, c, e, f, k, m, n, o, r, s, t⟩, [], inp, out⟩ ⟨207, stk, ⟨0, c, e, f, (k + 1), k, k, c, r, s, t⟩, [], inp, k :: 0 :: c :: m :: out⟩ :=
  (Rn.cast (by decide) (Rn.trans (low0 0 253 (by kernel_rfl) h0)
    (Rn.trans (show Rn LPl 200 1 ⟨253, c :: stk, ⟨a, c, e, f, k, m, n, o, r, s, t⟩, [], inp, out⟩ ⟨254, c :: c :: stk, ⟨a, c, e, f, k, m, n, o, r, s, t⟩, [], inp, out⟩ by kernel_rfl)
    (Rn.trans (tst1 255 256 (by kernel_rfl) h1)
    (Rn.trans (show Rn LPl 200 34 ⟨256, c :: stk, ⟨a, c, e, f, k, m, n, o, r, s, t⟩, [], inp, out⟩ ⟨264, (eq e 0) :: stk, ⟨0, c, e, f, (k + 1), k, k, c, r, s, t⟩, [], inp, k :: 0 :: c :: m :: out⟩ by kernel_rfl)
    (tst1 265 207 (by kernel_rfl) h2))))))

theorem Pl_c91 (a e f k m n o r s t : Int) (stk inp out : List Int) (h0 : (eq e 0) ≠ 0) : Rn LPl 200 52 ⟨252, 91 :: stk, ⟨a, 91, e, f, k, m, n, o, r, s, t⟩, [], inp, out⟩ ⟨207, k :: stk, ⟨k, 91, e, f, ((k + 1) + 1), (k + 1), (k + 1), 63, r, s, k⟩, [], inp, (k + 1) :: k :: 63 :: m :: out⟩ :=
  (Rn.cast (by decide) (Rn.trans (show Rn LPl 200 51 ⟨252, 91 :: stk, ⟨a, 91, e, f, k, m, n, o, r, s, t⟩, [], inp, out⟩ ⟨264, (eq e 0) :: k :: stk, ⟨k, 91, e, f, ((k + 1) + 1), (k + 1), (k + 1), 63, r, s, k⟩, [], inp, (k + 1) :: k :: 63 :: m :: out⟩ by kernel_rfl)
    (tst1 265 207 (by kernel_rfl) h0)))

theorem Pl_c124 (a e f k m n o r s t : Int) (stk inp out : List Int) (h0 : (eq e 0) ≠ 0) : Rn LPl 200 41 ⟨252, 124 :: stk, ⟨a, 124, e, f, k, m, n, o, r, s, t⟩, [], inp, out⟩ ⟨207, k :: stk.tail, ⟨0, 124, e, f, (k + 1), (hd stk), k, 32, r, s, k⟩, [], inp, k :: 0 :: 32 :: m :: out⟩ :=
  (Rn.cast (by decide) (Rn.trans (show Rn LPl 200 40 ⟨252, 124 :: stk, ⟨a, 124, e, f, k, m, n, o, r, s, t⟩, [], inp, out⟩ ⟨264, (eq e 0) :: k :: stk.tail, ⟨0, 124, e, f, (k + 1), (hd stk), k, 32, r, s, k⟩, [], inp, k :: 0 :: 32 :: m :: out⟩ by kernel_rfl)
    (tst1 265 207 (by kernel_rfl) h0)))

theorem Pl_c93 (a e f k m n o r s t : Int) (stk inp out : List Int) (h0 : (eq e 0) ≠ 0) : Rn LPl 200 33 ⟨252, 93 :: stk, ⟨a, 93, e, f, k, m, n, o, r, s, t⟩, [], inp, out⟩ ⟨207, stk.tail, ⟨0, 93, e, f, k, (hd stk), (hd stk), 32, r, s, (hd stk)⟩, [], inp, (hd stk) :: 0 :: 32 :: m :: out⟩ :=
  (Rn.cast (by decide) (Rn.trans (show Rn LPl 200 32 ⟨252, 93 :: stk, ⟨a, 93, e, f, k, m, n, o, r, s, t⟩, [], inp, out⟩ ⟨264, (eq e 0) :: stk.tail, ⟨0, 93, e, f, k, (hd stk), (hd stk), 32, r, s, (hd stk)⟩, [], inp, (hd stk) :: 0 :: 32 :: m :: out⟩ by kernel_rfl)
    (tst1 265 207 (by kernel_rfl) h0)))

theorem Pl_c123 (a e f k m n o r s t : Int) (stk inp out : List Int) (h0 : (eq e 0) ≠ 0) : Rn LPl 200 42 ⟨252, 123 :: stk, ⟨a, 123, e, f, k, m, n, o, r, s, t⟩, [], inp, out⟩ ⟨207, k :: stk, ⟨0, 123, e, f, (k + 1), k, k, 32, r, s, k⟩, [], inp, k :: 0 :: 32 :: m :: out⟩ :=
  (Rn.cast (by decide) (Rn.trans (show Rn LPl 200 41 ⟨252, 123 :: stk, ⟨a, 123, e, f, k, m, n, o, r, s, t⟩, [], inp, out⟩ ⟨264, (eq e 0) :: k :: stk, ⟨0, 123, e, f, (k + 1), k, k, 32, r, s, k⟩, [], inp, k :: 0 :: 32 :: m :: out⟩ by kernel_rfl)
    (tst1 265 207 (by kernel_rfl) h0)))

theorem Pl_c125 (a e f k m n o r s t : Int) (stk inp out : List Int) (h0 : (eq e 0) ≠ 0) : Rn LPl 200 42 ⟨252, 125 :: stk, ⟨a, 125, e, f, k, m, n, o, r, s, t⟩, [], inp, out⟩ ⟨207, stk.tail, ⟨k, 125, e, f, (k + 1), k, (hd stk), 63, r, (hd stk), k⟩, [], inp, (hd stk) :: k :: 63 :: m :: out⟩ :=
  (Rn.cast (by decide) (Rn.trans (show Rn LPl 200 41 ⟨252, 125 :: stk, ⟨a, 125, e, f, k, m, n, o, r, s, t⟩, [], inp, out⟩ ⟨264, (eq e 0) :: stk.tail, ⟨k, 125, e, f, (k + 1), k, (hd stk), 63, r, (hd stk), k⟩, [], inp, (hd stk) :: k :: 63 :: m :: out⟩ by kernel_rfl)
    (tst1 265 207 (by kernel_rfl) h0)))

theorem Pl_c59 (a e f k m n o r s t : Int) (stk inp out : List Int) (h0 : (eq e 0) ≠ 0) : Rn LPl 200 31 ⟨252, 59 :: stk, ⟨a, 59, e, f, k, m, n, o, r, s, t⟩, [], inp, out⟩ ⟨207, stk.tail, ⟨0, 59, e, f, k, (hd stk), 1, 41, r, s, t⟩, [], inp, 1 :: 0 :: 41 :: m :: out⟩ :=
  (Rn.cast (by decide) (Rn.trans (show Rn LPl 200 30 ⟨252, 59 :: stk, ⟨a, 59, e, f, k, m, n, o, r, s, t⟩, [], inp, out⟩ ⟨264, (eq e 0) :: stk.tail, ⟨0, 59, e, f, k, (hd stk), 1, 41, r, s, t⟩, [], inp, 1 :: 0 :: 41 :: m :: out⟩ by kernel_rfl)
    (tst1 265 207 (by kernel_rfl) h0)))

theorem Pl_c39 (a e f k m n o r s t : Int) (d : Int) (stk inp out : List Int) (h0 : (lt d 0) = 0) (h1 : (eq e 0) ≠ 0) : Rn LPl 200 49 ⟨252, 39 :: stk, ⟨a, 39, e, f, k, m, n, o, r, s, t⟩, [], d :: inp, out⟩ ⟨207, stk, ⟨d, d, e, f, (k + 1), k, k, 35, r, s, t⟩, [], inp, k :: d :: 35 :: m :: out⟩ :=
  (Rn.cast (by decide) (Rn.trans (show Rn LPl 200 6 ⟨252, 39 :: stk, ⟨a, 39, e, f, k, m, n, o, r, s, t⟩, [], d :: inp, out⟩ ⟨296, (lt d 0) :: stk, ⟨a, d, e, f, k, m, n, o, r, s, t⟩, 253 :: [], inp, out⟩ by kernel_rfl)
    (Rn.trans (tst0 297 298 297 (by kernel_rfl) (by kernel_rfl) h0)
    (Rn.trans (show Rn LPl 200 41 ⟨297, stk, ⟨a, d, e, f, k, m, n, o, r, s, t⟩, 253 :: [], inp, out⟩ ⟨264, (eq e 0) :: stk, ⟨d, d, e, f, (k + 1), k, k, 35, r, s, t⟩, [], inp, k :: d :: 35 :: m :: out⟩ by kernel_rfl)
    (tst1 265 207 (by kernel_rfl) h1)))))

theorem Pl_c39e (a e f k m n o r s t : Int) (stk out : List Int) : Rn LPl 200 52 ⟨252, 39 :: stk, ⟨a, 39, e, f, k, m, n, o, r, s, t⟩, [], [], out⟩ ⟨396, stk, ⟨0, (-1), 1, f, (k + 1), k, k, 41, r, s, t⟩, [], [], k :: 0 :: 41 :: m :: out⟩ :=
  (Rn.cast (by decide) (show Rn LPl 200 52 ⟨252, 39 :: stk, ⟨a, 39, e, f, k, m, n, o, r, s, t⟩, [], [], out⟩ ⟨396, stk, ⟨0, (-1), 1, f, (k + 1), k, k, 41, r, s, t⟩, [], [], k :: 0 :: 41 :: m :: out⟩ by kernel_rfl))

theorem Pl_c61 (a e f k m n o r s t : Int) (d : Int) (stk inp out : List Int) (h0 : (lt d 0) = 0) (h1 : (eq e 0) ≠ 0) : Rn LPl 200 49 ⟨252, 61 :: stk, ⟨a, 61, e, f, k, m, n, o, r, s, t⟩, [], d :: inp, out⟩ ⟨207, stk, ⟨d, d, e, f, (k + 1), k, k, 61, r, s, t⟩, [], inp, k :: d :: 61 :: m :: out⟩ :=
  (Rn.cast (by decide) (Rn.trans (show Rn LPl 200 6 ⟨252, 61 :: stk, ⟨a, 61, e, f, k, m, n, o, r, s, t⟩, [], d :: inp, out⟩ ⟨311, (lt d 0) :: stk, ⟨a, d, e, f, k, m, n, o, r, s, t⟩, 253 :: [], inp, out⟩ by kernel_rfl)
    (Rn.trans (tst0 312 313 312 (by kernel_rfl) (by kernel_rfl) h0)
    (Rn.trans (show Rn LPl 200 41 ⟨312, stk, ⟨a, d, e, f, k, m, n, o, r, s, t⟩, 253 :: [], inp, out⟩ ⟨264, (eq e 0) :: stk, ⟨d, d, e, f, (k + 1), k, k, 61, r, s, t⟩, [], inp, k :: d :: 61 :: m :: out⟩ by kernel_rfl)
    (tst1 265 207 (by kernel_rfl) h1)))))

theorem Pl_c61e (a e f k m n o r s t : Int) (stk out : List Int) : Rn LPl 200 52 ⟨252, 61 :: stk, ⟨a, 61, e, f, k, m, n, o, r, s, t⟩, [], [], out⟩ ⟨396, stk, ⟨0, (-1), 1, f, (k + 1), k, k, 41, r, s, t⟩, [], [], k :: 0 :: 41 :: m :: out⟩ :=
  (Rn.cast (by decide) (show Rn LPl 200 52 ⟨252, 61 :: stk, ⟨a, 61, e, f, k, m, n, o, r, s, t⟩, [], [], out⟩ ⟨396, stk, ⟨0, (-1), 1, f, (k + 1), k, k, 41, r, s, t⟩, [], [], k :: 0 :: 41 :: m :: out⟩ by kernel_rfl))

theorem Pl_c58 (a e f k m n o r s t : Int) (d : Int) (stk inp out : List Int) (h0 : (lt d 0) = 0) (h1 : (eq e 0) ≠ 0) : Rn LPl 200 23 ⟨252, 58 :: stk, ⟨a, 58, e, f, k, m, n, o, r, s, t⟩, [], d :: inp, out⟩ ⟨207, m :: stk, ⟨a, d, e, f, k, d, n, o, r, s, t⟩, [], inp, out⟩ :=
  (Rn.cast (by decide) (Rn.trans (show Rn LPl 200 6 ⟨252, 58 :: stk, ⟨a, 58, e, f, k, m, n, o, r, s, t⟩, [], d :: inp, out⟩ ⟨326, (lt d 0) :: stk, ⟨a, d, e, f, k, m, n, o, r, s, t⟩, 253 :: [], inp, out⟩ by kernel_rfl)
    (Rn.trans (tst0 327 328 327 (by kernel_rfl) (by kernel_rfl) h0)
    (Rn.trans (show Rn LPl 200 15 ⟨327, stk, ⟨a, d, e, f, k, m, n, o, r, s, t⟩, 253 :: [], inp, out⟩ ⟨264, (eq e 0) :: m :: stk, ⟨a, d, e, f, k, d, n, o, r, s, t⟩, [], inp, out⟩ by kernel_rfl)
    (tst1 265 207 (by kernel_rfl) h1)))))

theorem Pl_c58e (a e f k m n o r s t : Int) (stk out : List Int) : Rn LPl 200 52 ⟨252, 58 :: stk, ⟨a, 58, e, f, k, m, n, o, r, s, t⟩, [], [], out⟩ ⟨396, stk, ⟨0, (-1), 1, f, (k + 1), k, k, 41, r, s, t⟩, [], [], k :: 0 :: 41 :: m :: out⟩ :=
  (Rn.cast (by decide) (show Rn LPl 200 52 ⟨252, 58 :: stk, ⟨a, 58, e, f, k, m, n, o, r, s, t⟩, [], [], out⟩ ⟨396, stk, ⟨0, (-1), 1, f, (k + 1), k, k, 41, r, s, t⟩, [], [], k :: 0 :: 41 :: m :: out⟩ by kernel_rfl))

def specPl (n : Nat) : Bool := n == 39 || n == 61 || n == 58 || n == 91 || n == 124 || n == 93 || n == 123 || n == 125 || n == 59
theorem Pl_free0 : ∀ n : Nat, n < 127 → (33 ≤ n ∧ ¬ (47 < n ∧ n < 58) ∧ specPl n = false) → (LPl n).isNone = true := by decide +kernel
theorem Pl_free {c : Int} (h1 : 33 ≤ c) (h2 : c ≤ 126) (h3 : ¬ (47 < c ∧ c < 58)) (h4 : ¬ special c) : LPl c.toNat = none := by
  have h := Pl_free0 c.toNat (by omega) ⟨by omega, by omega, by
    unfold special at h4
    unfold specPl
    simp only [Bool.or_eq_false_iff, beq_eq_false_iff_ne]
    omega⟩
  cases e : LPl c.toNat with
  | none => rfl
  | some x => rw [e] at h; cases h
theorem compPl : Comp LPl 200 207 231 244 252 396 (200) (1) where
  start := fun inp => by rintro z rfl; exact ⟨_, _, by decide, Pl_start inp, _, _, _, _, _, rfl⟩
  digit := fun stk c f k m r d inp out h1 h2 => by rintro z ⟨a, n, o, s, t, rfl⟩; exact ⟨_, _, by decide, Pl_digit a c 0 f k m n o r s t d stk inp out (lt_t h1) (lt_t h2) (by decide), _, _, _, _, _, rfl⟩
  non := fun stk c f k m r d inp out h => by
    rintro z ⟨a, n, o, s, t, rfl⟩
    by_cases h1 : 47 < d
    · exact ⟨_, _, by decide, Pl_high a c 0 f k m n o r s t d stk inp out (lt_t h1) (lt_f (by omega)), _, _, _, _, _, rfl⟩
    · exact ⟨_, _, by decide, Pl_low a c 0 f k m n o r s t d stk inp out (lt_f h1), _, _, _, _, _, rfl⟩
  none := fun stk c f k m r out => by rintro z ⟨a, n, o, s, t, rfl⟩; exact ⟨_, _, by decide, Pl_none a c 0 f k m n o r s t stk out, _, _, _, _, _, rfl⟩
  nof := fun stk c k m r inp out => by rintro z ⟨a, n, o, s, t, rfl⟩; exact ⟨_, _, by decide, Pl_nof a c 0 0 k m n o r s t 0 stk inp out rfl, _, _, _, _, _, rfl⟩
  flush := fun stk c k m r inp out => by rintro z ⟨a, n, o, s, t, rfl⟩; exact ⟨_, _, by decide, Pl_flush a c 0 1 k m n o r s t 0 stk inp out (by decide), _, _, _, _, _, rfl⟩
  blank := fun stk c f k m r inp out h1 h2 => by
    rintro z ⟨a, n, o, s, t, rfl⟩
    have e : lt c 0 = 0 := lt_f (by omega)
    have g := Pl_blank a c 0 f k m n o r s t 0 stk inp out (lt_t h2) (by rw [e]; decide)
    rw [e] at g
    exact ⟨_, _, by decide, g, _, _, _, _, _, rfl⟩
  fin' := fun stk f k m r out => by rintro z ⟨a, n, o, s, t, rfl⟩; exact ⟨_, _, by decide, Pl_end a 0 f k m n o r s t stk out, rfl, rfl⟩
  sign := fun stk c f k m r inp out h => by rintro z ⟨a, n, o, s, t, rfl⟩; exact ⟨_, _, by decide, Pl_sign a c 0 f k m n o r s t 0 stk inp out (lt_f (by omega)), _, _, _, _, _, rfl⟩
  other := fun stk c f k m r inp out h1 h2 h3 h4 => by rintro z ⟨a, n, o, s, t, rfl⟩; exact ⟨_, _, by decide, Pl_other a c 0 f k m n o r s t 0 stk inp out (Pl_free h1 h2 h3 h4) (by omega) (by decide), _, _, _, _, _, rfl⟩
  c91 := fun stk f k m r inp out => by rintro z ⟨a, n, o, s, t, rfl⟩; exact ⟨_, _, by decide, Pl_c91 a 0 f k m n o r s t stk inp out (by decide), _, _, _, _, _, rfl⟩
  c124 := fun stk f k m r inp out => by rintro z ⟨a, n, o, s, t, rfl⟩; exact ⟨_, _, by decide, Pl_c124 a 0 f k m n o r s t stk inp out (by decide), _, _, _, _, _, rfl⟩
  c93 := fun stk f k m r inp out => by rintro z ⟨a, n, o, s, t, rfl⟩; exact ⟨_, _, by decide, Pl_c93 a 0 f k m n o r s t stk inp out (by decide), _, _, _, _, _, rfl⟩
  c123 := fun stk f k m r inp out => by rintro z ⟨a, n, o, s, t, rfl⟩; exact ⟨_, _, by decide, Pl_c123 a 0 f k m n o r s t stk inp out (by decide), _, _, _, _, _, rfl⟩
  c125 := fun stk f k m r inp out => by rintro z ⟨a, n, o, s, t, rfl⟩; exact ⟨_, _, by decide, Pl_c125 a 0 f k m n o r s t stk inp out (by decide), _, _, _, _, _, rfl⟩
  c59 := fun stk f k m r inp out => by rintro z ⟨a, n, o, s, t, rfl⟩; exact ⟨_, _, by decide, Pl_c59 a 0 f k m n o r s t stk inp out (by decide), _, _, _, _, _, rfl⟩
  c39 := fun stk f k m r d inp out h => by rintro z ⟨a, n, o, s, t, rfl⟩; exact ⟨_, _, by decide, Pl_c39 a 0 f k m n o r s t d stk inp out (lt_f (by omega)) (by decide), _, _, _, _, _, rfl⟩
  c61 := fun stk f k m r d inp out h => by rintro z ⟨a, n, o, s, t, rfl⟩; exact ⟨_, _, by decide, Pl_c61 a 0 f k m n o r s t d stk inp out (lt_f (by omega)) (by decide), _, _, _, _, _, rfl⟩
  c58 := fun stk f k m r d inp out h => by rintro z ⟨a, n, o, s, t, rfl⟩; exact ⟨_, _, by decide, Pl_c58 a 0 f k m n o r s t d stk inp out (lt_f (by omega)) (by decide), _, _, _, _, _, rfl⟩
  c39e := fun stk f k m r out => by rintro z ⟨a, n, o, s, t, rfl⟩; exact ⟨_, _, by decide, Pl_c39e a 0 f k m n o r s t stk out, rfl, rfl⟩
  c61e := fun stk f k m r out => by rintro z ⟨a, n, o, s, t, rfl⟩; exact ⟨_, _, by decide, Pl_c61e a 0 f k m n o r s t stk out, rfl, rfl⟩
  c58e := fun stk f k m r out => by rintro z ⟨a, n, o, s, t, rfl⟩; exact ⟨_, _, by decide, Pl_c58e a 0 f k m n o r s t stk out, rfl, rfl⟩
end TW
set_option Elab.async false
set_option maxRecDepth 100000
set_option maxHeartbeats 4000000
/-! Printed by gen.py: the walks of the three compilers from loop head to loop head. -/
namespace TW
def rowsTu : Rows := [(0, 32, 0, 200),
  (200, 35, 0, 201),
  (201, 35, 1, 202),
  (202, 45, 0, 203),
  (203, 61, 107, 204),
  (204, 35, 32, 205),
  (205, 35, 0, 206),
  (206, 35, 51, 207),
  (207, 40, 0, 208),
  (208, 32, 0, 209),
  (209, 44, 0, 210),
  (210, 61, 99, 211),
  (211, 35, 47, 212),
  (212, 99, 0, 213),
  (213, 60, 0, 214),
  (214, 63, 215, 216),
  (216, 99, 0, 217),
  (217, 35, 58, 218),
  (218, 60, 0, 219),
  (219, 32, 0, 220),
  (215, 35, 0, 221),
  (221, 32, 0, 220),
  (220, 63, 222, 223),
  (223, 114, 0, 224),
  (224, 99, 0, 225),
  (225, 35, 48, 226),
  (226, 45, 0, 227),
  (227, 42, 0, 228),
  (228, 61, 114, 229),
  (229, 35, 1, 230),
  (230, 61, 102, 231),
  (231, 32, 0, 232),
  (222, 102, 0, 233),
  (233, 63, 234, 235),
  (235, 35, 35, 236),
  (236, 114, 0, 237),
  (237, 35, 51, 238),
  (238, 40, 0, 239),
  (239, 35, 0, 240),
  (240, 34, 0, 241),
  (241, 61, 114, 242),
  (242, 61, 102, 243),
  (243, 32, 0, 234),
  (234, 99, 0, 244),
  (244, 35, 33, 245),
  (245, 60, 0, 246),
  (246, 63, 247, 248),
  (248, 99, 0, 249),
  (249, 35, 0, 250),
  (250, 60, 0, 251),
  (251, 61, 101, 252),
  (252, 32, 0, 253),
  (247, 99, 0, 254),
  (254, 36, 0, 255),
  (255, 34, 0, 256),
  (256, 63, 257, 258),
  (258, 35, 0, 259),
  (259, 35, 51, 260),
  (260, 40, 0, 261),
  (261, 32, 0, 262),
  (257, 95, 0, 263),
  (263, 32, 0, 262),
  (262, 32, 0, 253),
  (253, 32, 0, 232),
  (232, 101, 0, 264),
  (264, 35, 0, 265),
  (265, 126, 0, 266),
  (266, 63, 267, 209),
  (267, 35, 41, 268),
  (268, 35, 0, 269),
  (269, 35, 51, 270),
  (270, 40, 0, 271),
  (49, 61, 110, 272),
  (272, 61, 97, 273),
  (273, 61, 111, 274),
  (274, 109, 0, 275),
  (275, 46, 0, 276),
  (276, 111, 0, 277),
  (277, 46, 0, 278),
  (278, 97, 0, 279),
  (279, 46, 0, 280),
  (280, 110, 0, 281),
  (281, 46, 0, 282),
  (282, 41, 0, 1),
  (50, 107, 0, 283),
  (283, 107, 0, 284),
  (284, 35, 1, 285),
  (285, 45, 0, 286),
  (286, 61, 107, 287),
  (287, 41, 0, 1),
  (51, 107, 0, 288),
  (288, 35, 49, 289),
  (289, 40, 0, 290),
  (290, 35, 50, 291),
  (291, 40, 0, 292),
  (292, 61, 109, 293),
  (293, 41, 0, 1),
  (39, 44, 0, 294),
  (294, 34, 0, 295),
  (295, 61, 99, 296),
  (296, 35, 0, 297),
  (297, 60, 0, 298),
  (298, 63, 299, 300),
  (300, 35, 1, 301),
  (301, 61, 101, 302),
  (302, 32, 0, 303),
  (299, 35, 35, 304),
  (304, 99, 0, 305),
  (305, 35, 51, 306),
  (306, 40, 0, 307),
  (307, 32, 0, 303),
  (303, 35, 0, 308),
  (308, 41, 0, 1),
  (61, 44, 0, 309),
  (309, 34, 0, 310),
  (310, 61, 99, 311),
  (311, 35, 0, 312),
  (312, 60, 0, 313),
  (313, 63, 314, 315),
  (315, 35, 1, 316),
  (316, 61, 101, 317),
  (317, 32, 0, 318),
  (314, 35, 61, 319),
  (319, 99, 0, 320),
  (320, 35, 51, 321),
  (321, 40, 0, 322),
  (322, 32, 0, 318),
  (318, 35, 0, 323),
  (323, 41, 0, 1),
  (58, 44, 0, 324),
  (324, 34, 0, 325),
  (325, 61, 99, 326),
  (326, 35, 0, 327),
  (327, 60, 0, 328),
  (328, 63, 329, 330),
  (330, 35, 1, 331),
  (331, 61, 101, 332),
  (332, 32, 0, 333),
  (329, 109, 0, 334),
  (334, 99, 0, 335),
  (335, 61, 109, 336),
  (336, 32, 0, 333),
  (333, 35, 0, 337),
  (337, 41, 0, 1),
  (91, 35, 50, 338),
  (338, 40, 0, 339),
  (339, 34, 0, 340),
  (340, 61, 116, 341),
  (341, 35, 63, 342),
  (342, 116, 0, 343),
  (343, 35, 51, 344),
  (344, 40, 0, 345),
  (345, 35, 0, 346),
  (346, 41, 0, 1),
  (124, 35, 50, 347),
  (347, 40, 0, 348),
  (348, 61, 116, 349),
  (349, 35, 32, 350),
  (350, 35, 0, 351),
  (351, 116, 0, 352),
  (352, 35, 49, 353),
  (353, 40, 0, 354),
  (354, 61, 109, 355),
  (355, 116, 0, 356),
  (356, 35, 0, 357),
  (357, 41, 0, 1),
  (93, 61, 116, 358),
  (358, 35, 32, 359),
  (359, 35, 0, 360),
  (360, 116, 0, 361),
  (361, 35, 49, 362),
  (362, 40, 0, 363),
  (363, 116, 0, 364),
  (364, 61, 109, 365),
  (365, 35, 0, 366),
  (366, 41, 0, 1),
  (123, 35, 50, 367),
  (367, 40, 0, 368),
  (368, 61, 116, 369),
  (369, 35, 32, 370),
  (370, 35, 0, 371),
  (371, 116, 0, 372),
  (372, 35, 49, 373),
  (373, 40, 0, 374),
  (374, 116, 0, 375),
  (375, 61, 109, 376),
  (376, 116, 0, 377),
  (377, 35, 0, 378),
  (378, 41, 0, 1),
  (125, 61, 115, 379),
  (379, 35, 50, 380),
  (380, 40, 0, 381),
  (381, 61, 116, 382),
  (382, 35, 63, 383),
  (383, 116, 0, 384),
  (384, 115, 0, 385),
  (385, 35, 49, 386),
  (386, 40, 0, 387),
  (387, 116, 0, 388),
  (388, 61, 109, 389),
  (389, 35, 0, 390),
  (390, 41, 0, 1),
  (59, 35, 41, 391),
  (391, 35, 0, 392),
  (392, 35, 1, 393),
  (393, 35, 49, 394),
  (394, 40, 0, 395),
  (395, 61, 109, 396),
  (396, 35, 0, 397),
  (397, 41, 0, 1),
  (271, 41, 0, 398)]
abbrev LTu : Nat → Option (Nat × Int × Nat) := look rowsTu
theorem Tu_start (inp : List Int) : Rn LTu 200 35 ⟨0, [], ⟨0, 0, 0, 0, 0, 0, 0, 0, 0, 0, 0⟩, [], inp, []⟩ ⟨209, [], ⟨0, 0, 0, 0, (-2), (-1), (-1), 32, 0, 0, 0⟩, [], inp, (-1) :: 0 :: 32 :: 0 :: []⟩ :=
  (Rn.cast (by decide) (show Rn LTu 200 35 ⟨0, [], ⟨0, 0, 0, 0, 0, 0, 0, 0, 0, 0, 0⟩, [], inp, []⟩ ⟨209, [], ⟨0, 0, 0, 0, (-2), (-1), (-1), 32, 0, 0, 0⟩, [], inp, (-1) :: 0 :: 32 :: 0 :: []⟩ by kernel_rfl))

theorem Tu_digit (a c e f k m n o r s t : Int) (d : Int) (stk inp out : List Int) (h0 : (lt 47 d) ≠ 0) (h1 : (lt d 58) ≠ 0) (h2 : (eq e 0) ≠ 0) : Rn LTu 200 24 ⟨209, stk, ⟨a, c, e, f, k, m, n, o, r, s, t⟩, [], d :: inp, out⟩ ⟨209, stk, ⟨a, d, e, 1, k, m, n, o, (10 * r + (d - 48)), s, t⟩, [], inp, out⟩ :=
  (Rn.cast (by decide) (Rn.trans (show Rn LTu 200 5 ⟨209, stk, ⟨a, c, e, f, k, m, n, o, r, s, t⟩, [], d :: inp, out⟩ ⟨214, (lt 47 d) :: stk, ⟨a, d, e, f, k, m, n, o, r, s, t⟩, [], inp, out⟩ by kernel_rfl)
    (Rn.trans (tst1 215 216 (by kernel_rfl) h0)
    (Rn.trans (show Rn LTu 200 4 ⟨216, stk, ⟨a, d, e, f, k, m, n, o, r, s, t⟩, [], inp, out⟩ ⟨220, (lt d 58) :: stk, ⟨a, d, e, f, k, m, n, o, r, s, t⟩, [], inp, out⟩ by kernel_rfl)
    (Rn.trans (tst1 222 223 (by kernel_rfl) h1)
    (Rn.trans (show Rn LTu 200 12 ⟨223, stk, ⟨a, d, e, f, k, m, n, o, r, s, t⟩, [], inp, out⟩ ⟨266, (eq e 0) :: stk, ⟨a, d, e, 1, k, m, n, o, (10 * r + (d - 48)), s, t⟩, [], inp, out⟩ by kernel_rfl)
    (tst1 267 209 (by kernel_rfl) h2)))))))

theorem Tu_low (a c e f k m n o r s t : Int) (d : Int) (stk inp out : List Int) (h0 : (lt 47 d) = 0) : Rn LTu 200 10 ⟨209, stk, ⟨a, c, e, f, k, m, n, o, r, s, t⟩, [], d :: inp, out⟩ ⟨233, f :: stk, ⟨a, d, e, f, k, m, n, o, r, s, t⟩, [], inp, out⟩ :=
  (Rn.cast (by decide) (Rn.trans (show Rn LTu 200 5 ⟨209, stk, ⟨a, c, e, f, k, m, n, o, r, s, t⟩, [], d :: inp, out⟩ ⟨214, (lt 47 d) :: stk, ⟨a, d, e, f, k, m, n, o, r, s, t⟩, [], inp, out⟩ by kernel_rfl)
    (Rn.trans (tst0 215 216 215 (by kernel_rfl) (by kernel_rfl) h0)
    (show Rn LTu 200 4 ⟨215, stk, ⟨a, d, e, f, k, m, n, o, r, s, t⟩, [], inp, out⟩ ⟨233, f :: stk, ⟨a, d, e, f, k, m, n, o, r, s, t⟩, [], inp, out⟩ by kernel_rfl))))

theorem Tu_high (a c e f k m n o r s t : Int) (d : Int) (stk inp out : List Int) (h0 : (lt 47 d) ≠ 0) (h1 : (lt d 58) = 0) : Rn LTu 200 12 ⟨209, stk, ⟨a, c, e, f, k, m, n, o, r, s, t⟩, [], d :: inp, out⟩ ⟨233, f :: stk, ⟨a, d, e, f, k, m, n, o, r, s, t⟩, [], inp, out⟩ :=
  (Rn.cast (by decide) (Rn.trans (show Rn LTu 200 5 ⟨209, stk, ⟨a, c, e, f, k, m, n, o, r, s, t⟩, [], d :: inp, out⟩ ⟨214, (lt 47 d) :: stk, ⟨a, d, e, f, k, m, n, o, r, s, t⟩, [], inp, out⟩ by kernel_rfl)
    (Rn.trans (tst1 215 216 (by kernel_rfl) h0)
    (Rn.trans (show Rn LTu 200 4 ⟨216, stk, ⟨a, d, e, f, k, m, n, o, r, s, t⟩, [], inp, out⟩ ⟨220, (lt d 58) :: stk, ⟨a, d, e, f, k, m, n, o, r, s, t⟩, [], inp, out⟩ by kernel_rfl)
    (Rn.trans (tst0 222 223 222 (by kernel_rfl) (by kernel_rfl) h1)
    (show Rn LTu 200 1 ⟨222, stk, ⟨a, d, e, f, k, m, n, o, r, s, t⟩, [], inp, out⟩ ⟨233, f :: stk, ⟨a, d, e, f, k, m, n, o, r, s, t⟩, [], inp, out⟩ by kernel_rfl))))))

theorem Tu_none (a c e f k m n o r s t : Int) (stk out : List Int) : Rn LTu 200 10 ⟨209, stk, ⟨a, c, e, f, k, m, n, o, r, s, t⟩, [], [], out⟩ ⟨233, f :: stk, ⟨a, (-1), e, f, k, m, n, o, r, s, t⟩, [], [], out⟩ :=
  (Rn.cast (by decide) (show Rn LTu 200 10 ⟨209, stk, ⟨a, c, e, f, k, m, n, o, r, s, t⟩, [], [], out⟩ ⟨233, f :: stk, ⟨a, (-1), e, f, k, m, n, o, r, s, t⟩, [], [], out⟩ by kernel_rfl))

theorem Tu_nof (a c e f k m n o r s t : Int) (d : Int) (stk inp out : List Int) (h0 : f = 0) : Rn LTu 200 4 ⟨233, f :: stk, ⟨a, c, e, f, k, m, n, o, r, s, t⟩, [], inp, out⟩ ⟨246, (lt c 33) :: stk, ⟨a, c, e, f, k, m, n, o, r, s, t⟩, [], inp, out⟩ :=
  (Rn.cast (by decide) (Rn.trans (tst0 234 235 234 (by kernel_rfl) (by kernel_rfl) h0)
    (show Rn LTu 200 3 ⟨234, stk, ⟨a, c, e, f, k, m, n, o, r, s, t⟩, [], inp, out⟩ ⟨246, (lt c 33) :: stk, ⟨a, c, e, f, k, m, n, o, r, s, t⟩, [], inp, out⟩ by kernel_rfl)))

theorem Tu_flush (a c e f k m n o r s t : Int) (d : Int) (stk inp out : List Int) (h0 : f ≠ 0) : Rn LTu 200 38 ⟨233, f :: stk, ⟨a, c, e, f, k, m, n, o, r, s, t⟩, [], inp, out⟩ ⟨246, (lt c 33) :: stk, ⟨r, c, e, 0, (k - 1), k, k, 35, 0, s, t⟩, [], inp, k :: r :: 35 :: m :: out⟩ :=
  (Rn.cast (by decide) (Rn.trans (tst1 234 235 (by kernel_rfl) h0)
    (show Rn LTu 200 37 ⟨235, stk, ⟨a, c, e, f, k, m, n, o, r, s, t⟩, [], inp, out⟩ ⟨246, (lt c 33) :: stk, ⟨r, c, e, 0, (k - 1), k, k, 35, 0, s, t⟩, [], inp, k :: r :: 35 :: m :: out⟩ by kernel_rfl)))

theorem Tu_blank (a c e f k m n o r s t : Int) (d : Int) (stk inp out : List Int) (h0 : (lt c 33) ≠ 0) (h1 : (eq (lt c 0) 0) ≠ 0) : Rn LTu 200 11 ⟨246, (lt c 33) :: stk, ⟨a, c, e, f, k, m, n, o, r, s, t⟩, [], inp, out⟩ ⟨209, stk, ⟨a, c, (lt c 0), f, k, m, n, o, r, s, t⟩, [], inp, out⟩ :=
  (Rn.cast (by decide) (Rn.trans (tst1 247 248 (by kernel_rfl) h0)
    (Rn.trans (show Rn LTu 200 9 ⟨248, stk, ⟨a, c, e, f, k, m, n, o, r, s, t⟩, [], inp, out⟩ ⟨266, (eq (lt c 0) 0) :: stk, ⟨a, c, (lt c 0), f, k, m, n, o, r, s, t⟩, [], inp, out⟩ by kernel_rfl)
    (tst1 267 209 (by kernel_rfl) h1))))

theorem Tu_end (a e f k m n o r s t : Int) (stk out : List Int) : Rn LTu 200 41 ⟨246, 1 :: stk, ⟨a, (-1), e, f, k, m, n, o, r, s, t⟩, [], [], out⟩ ⟨398, stk, ⟨0, (-1), 1, f, (k - 1), k, k, 41, r, s, t⟩, [], [], k :: 0 :: 41 :: m :: out⟩ :=
  (Rn.cast (by decide) (show Rn LTu 200 41 ⟨246, 1 :: stk, ⟨a, (-1), e, f, k, m, n, o, r, s, t⟩, [], [], out⟩ ⟨398, stk, ⟨0, (-1), 1, f, (k - 1), k, k, 41, r, s, t⟩, [], [], k :: 0 :: 41 :: m :: out⟩ by kernel_rfl))

theorem Tu_sign (a c e f k m n o r s t : Int) (d : Int) (stk inp out : List Int) (h0 : (lt c 33) = 0) : Rn LTu 200 2 ⟨246, (lt c 33) :: stk, ⟨a, c, e, f, k, m, n, o, r, s, t⟩, [], inp, out⟩ ⟨254, c :: stk, ⟨a, c, e, f, k, m, n, o, r, s, t⟩, [], inp, out⟩ :=
  (Rn.cast (by decide) (Rn.trans (tst0 247 248 247 (by kernel_rfl) (by kernel_rfl) h0)
    (show Rn LTu 200 1 ⟨247, stk, ⟨a, c, e, f, k, m, n, o, r, s, t⟩, [], inp, out⟩ ⟨254, c :: stk, ⟨a, c, e, f, k, m, n, o, r, s, t⟩, [], inp, out⟩ by kernel_rfl)))

theorem Tu_other (a c e f k m n o r s t : Int) (d : Int) (stk inp out : List Int) (h0 : LTu (c).toNat = none) (h1 : c ≠ 0) (h2 : (eq e 0) ≠ 0) : Rn LTu 200 38 ⟨254, c :: stk, ⟨a, c, e, f, k, m, n, o, r, s, t⟩, [], inp, out⟩ ⟨209, stk, ⟨0, c, e, f, (k - 1), k, k, c, r, s, t⟩, [], inp, k :: 0 :: c :: m :: out⟩ :=
  (Rn.cast (by decide) (Rn.trans (low0 0 255 (by kernel_rfl) h0)
    (Rn.trans (show Rn LTu 200 1 ⟨255, c :: stk, ⟨a, c, e, f, k, m, n, o, r, s, t⟩, [], inp, out⟩ ⟨256, c :: c :: stk, ⟨a, c, e, f, k, m, n, o, r, s, t⟩, [], inp, out⟩ by kernel_rfl)
    (Rn.trans (tst1 257 258 (by kernel_rfl) h1)
    (Rn.trans (show Rn LTu 200 34 ⟨258, c :: stk, ⟨a, c, e, f, k, m, n, o, r, s, t⟩, [], inp, out⟩ ⟨266, (eq e 0) :: stk, ⟨0, c, e, f, (k - 1), k, k, c, r, s, t⟩, [], inp, k :: 0 :: c :: m :: out⟩ by kernel_rfl)
    (tst1 267 209 (by kernel_rfl) h2))))))

theorem Tu_c91 (a e f k m n o r s t : Int) (stk inp out : List Int) (h0 : (eq e 0) ≠ 0) : Rn LTu 200 52 ⟨254, 91 :: stk, ⟨a, 91, e, f, k, m, n, o, r, s, t⟩, [], inp, out⟩ ⟨209, k :: stk, ⟨k, 91, e, f, ((k - 1) - 1), (k - 1), (k - 1), 63, r, s, k⟩, [], inp, (k - 1) :: k :: 63 :: m :: out⟩ :=
  (Rn.cast (by decide) (Rn.trans (show Rn LTu 200 51 ⟨254, 91 :: stk, ⟨a, 91, e, f, k, m, n, o, r, s, t⟩, [], inp, out⟩ ⟨266, (eq e 0) :: k :: stk, ⟨k, 91, e, f, ((k - 1) - 1), (k - 1), (k - 1), 63, r, s, k⟩, [], inp, (k - 1) :: k :: 63 :: m :: out⟩ by kernel_rfl)
    (tst1 267 209 (by kernel_rfl) h0)))

theorem Tu_c124 (a e f k m n o r s t : Int) (stk inp out : List Int) (h0 : (eq e 0) ≠ 0) : Rn LTu 200 41 ⟨254, 124 :: stk, ⟨a, 124, e, f, k, m, n, o, r, s, t⟩, [], inp, out⟩ ⟨209, k :: stk.tail, ⟨0, 124, e, f, (k - 1), (hd stk), k, 32, r, s, k⟩, [], inp, k :: 0 :: 32 :: m :: out⟩ :=
  (Rn.cast (by decide) (Rn.trans (show Rn LTu 200 40 ⟨254, 124 :: stk, ⟨a, 124, e, f, k, m, n, o, r, s, t⟩, [], inp, out⟩ ⟨266, (eq e 0) :: k :: stk.tail, ⟨0, 124, e, f, (k - 1), (hd stk), k, 32, r, s, k⟩, [], inp, k :: 0 :: 32 :: m :: out⟩ by kernel_rfl)
    (tst1 267 209 (by kernel_rfl) h0)))

theorem Tu_c93 (a e f k m n o r s t : Int) (stk inp out : List Int) (h0 : (eq e 0) ≠ 0) : Rn LTu 200 33 ⟨254, 93 :: stk, ⟨a, 93, e, f, k, m, n, o, r, s, t⟩, [], inp, out⟩ ⟨209, stk.tail, ⟨0, 93, e, f, k, (hd stk), (hd stk), 32, r, s, (hd stk)⟩, [], inp, (hd stk) :: 0 :: 32 :: m :: out⟩ :=
  (Rn.cast (by decide) (Rn.trans (show Rn LTu 200 32 ⟨254, 93 :: stk, ⟨a, 93, e, f, k, m, n, o, r, s, t⟩, [], inp, out⟩ ⟨266, (eq e 0) :: stk.tail, ⟨0, 93, e, f, k, (hd stk), (hd stk), 32, r, s, (hd stk)⟩, [], inp, (hd stk) :: 0 :: 32 :: m :: out⟩ by kernel_rfl)
    (tst1 267 209 (by kernel_rfl) h0)))

theorem Tu_c123 (a e f k m n o r s t : Int) (stk inp out : List Int) (h0 : (eq e 0) ≠ 0) : Rn LTu 200 42 ⟨254, 123 :: stk, ⟨a, 123, e, f, k, m, n, o, r, s, t⟩, [], inp, out⟩ ⟨209, k :: stk, ⟨0, 123, e, f, (k - 1), k, k, 32, r, s, k⟩, [], inp, k :: 0 :: 32 :: m :: out⟩ :=
  (Rn.cast (by decide) (Rn.trans (show Rn LTu 200 41 ⟨254, 123 :: stk, ⟨a, 123, e, f, k, m, n, o, r, s, t⟩, [], inp, out⟩ ⟨266, (eq e 0) :: k :: stk, ⟨0, 123, e, f, (k - 1), k, k, 32, r, s, k⟩, [], inp, k :: 0 :: 32 :: m :: out⟩ by kernel_rfl)
    (tst1 267 209 (by kernel_rfl) h0)))

theorem Tu_c125 (a e f k m n o r s t : Int) (stk inp out : List Int) (h0 : (eq e 0) ≠ 0) : Rn LTu 200 42 ⟨254, 125 :: stk, ⟨a, 125, e, f, k, m, n, o, r, s, t⟩, [], inp, out⟩ ⟨209, stk.tail, ⟨k, 125, e, f, (k - 1), k, (hd stk), 63, r, (hd stk), k⟩, [], inp, (hd stk) :: k :: 63 :: m :: out⟩ :=
  (Rn.cast (by decide) (Rn.trans (show Rn LTu 200 41 ⟨254, 125 :: stk, ⟨a, 125, e, f, k, m, n, o, r, s, t⟩, [], inp, out⟩ ⟨266, (eq e 0) :: stk.tail, ⟨k, 125, e, f, (k - 1), k, (hd stk), 63, r, (hd stk), k⟩, [], inp, (hd stk) :: k :: 63 :: m :: out⟩ by kernel_rfl)
    (tst1 267 209 (by kernel_rfl) h0)))

theorem Tu_c59 (a e f k m n o r s t : Int) (stk inp out : List Int) (h0 : (eq e 0) ≠ 0) : Rn LTu 200 31 ⟨254, 59 :: stk, ⟨a, 59, e, f, k, m, n, o, r, s, t⟩, [], inp, out⟩ ⟨209, stk.tail, ⟨0, 59, e, f, k, (hd stk), 1, 41, r, s, t⟩, [], inp, 1 :: 0 :: 41 :: m :: out⟩ :=
  (Rn.cast (by decide) (Rn.trans (show Rn LTu 200 30 ⟨254, 59 :: stk, ⟨a, 59, e, f, k, m, n, o, r, s, t⟩, [], inp, out⟩ ⟨266, (eq e 0) :: stk.tail, ⟨0, 59, e, f, k, (hd stk), 1, 41, r, s, t⟩, [], inp, 1 :: 0 :: 41 :: m :: out⟩ by kernel_rfl)
    (tst1 267 209 (by kernel_rfl) h0)))

theorem Tu_c39 (a e f k m n o r s t : Int) (d : Int) (stk inp out : List Int) (h0 : (lt d 0) = 0) (h1 : (eq e 0) ≠ 0) : Rn LTu 200 49 ⟨254, 39 :: stk, ⟨a, 39, e, f, k, m, n, o, r, s, t⟩, [], d :: inp, out⟩ ⟨209, stk, ⟨d, d, e, f, (k - 1), k, k, 35, r, s, t⟩, [], inp, k :: d :: 35 :: m :: out⟩ :=
  (Rn.cast (by decide) (Rn.trans (show Rn LTu 200 6 ⟨254, 39 :: stk, ⟨a, 39, e, f, k, m, n, o, r, s, t⟩, [], d :: inp, out⟩ ⟨298, (lt d 0) :: stk, ⟨a, d, e, f, k, m, n, o, r, s, t⟩, 255 :: [], inp, out⟩ by kernel_rfl)
    (Rn.trans (tst0 299 300 299 (by kernel_rfl) (by kernel_rfl) h0)
    (Rn.trans (show Rn LTu 200 41 ⟨299, stk, ⟨a, d, e, f, k, m, n, o, r, s, t⟩, 255 :: [], inp, out⟩ ⟨266, (eq e 0) :: stk, ⟨d, d, e, f, (k - 1), k, k, 35, r, s, t⟩, [], inp, k :: d :: 35 :: m :: out⟩ by kernel_rfl)
    (tst1 267 209 (by kernel_rfl) h1)))))

theorem Tu_c39e (a e f k m n o r s t : Int) (stk out : List Int) : Rn LTu 200 52 ⟨254, 39 :: stk, ⟨a, 39, e, f, k, m, n, o, r, s, t⟩, [], [], out⟩ ⟨398, stk, ⟨0, (-1), 1, f, (k - 1), k, k, 41, r, s, t⟩, [], [], k :: 0 :: 41 :: m :: out⟩ :=
  (Rn.cast (by decide) (show Rn LTu 200 52 ⟨254, 39 :: stk, ⟨a, 39, e, f, k, m, n, o, r, s, t⟩, [], [], out⟩ ⟨398, stk, ⟨0, (-1), 1, f, (k - 1), k, k, 41, r, s, t⟩, [], [], k :: 0 :: 41 :: m :: out⟩ by kernel_rfl))

theorem Tu_c61 (a e f k m n o r s t : Int) (d : Int) (stk inp out : List Int) (h0 : (lt d 0) = 0) (h1 : (eq e 0) ≠ 0) : Rn LTu 200 49 ⟨254, 61 :: stk, ⟨a, 61, e, f, k, m, n, o, r, s, t⟩, [], d :: inp, out⟩ ⟨209, stk, ⟨d, d, e, f, (k - 1), k, k, 61, r, s, t⟩, [], inp, k :: d :: 61 :: m :: out⟩ :=
  (Rn.cast (by decide) (Rn.trans (show Rn LTu 200 6 ⟨254, 61 :: stk, ⟨a, 61, e, f, k, m, n, o, r, s, t⟩, [], d :: inp, out⟩ ⟨313, (lt d 0) :: stk, ⟨a, d, e, f, k, m, n, o, r, s, t⟩, 255 :: [], inp, out⟩ by kernel_rfl)
    (Rn.trans (tst0 314 315 314 (by kernel_rfl) (by kernel_rfl) h0)
    (Rn.trans (show Rn LTu 200 41 ⟨314, stk, ⟨a, d, e, f, k, m, n, o, r, s, t⟩, 255 :: [], inp, out⟩ ⟨266, (eq e 0) :: stk, ⟨d, d, e, f, (k - 1), k, k, 61, r, s, t⟩, [], inp, k :: d :: 61 :: m :: out⟩ by kernel_rfl)
    (tst1 267 209 (by kernel_rfl) h1)))))

theorem Tu_c61e (a e f k m n o r s t : Int) (stk out : List Int) : Rn LTu 200 52 ⟨254, 61 :: stk, ⟨a, 61, e, f, k, m, n, o, r, s, t⟩, [], [], out⟩ ⟨398, stk, ⟨0, (-1), 1, f, (k - 1), k, k, 41, r, s, t⟩, [], [], k :: 0 :: 41 :: m :: out⟩ :=
  (Rn.cast (by decide) (show Rn LTu 200 52 ⟨254, 61 :: stk, ⟨a, 61, e, f, k, m, n, o, r, s, t⟩, [], [], out⟩ ⟨398, stk, ⟨0, (-1), 1, f, (k - 1), k, k, 41, r, s, t⟩, [], [], k :: 0 :: 41 :: m :: out⟩ by kernel_rfl))

theorem Tu_c58 (a e f k m n o r s t : Int) (d : Int) (stk inp out : List Int) (h0 : (lt d 0) = 0) (h1 : (eq e 0) ≠ 0) : Rn LTu 200 23 ⟨254, 58 :: stk, ⟨a, 58, e, f, k, m, n, o, r, s, t⟩, [], d :: inp, out⟩ ⟨209, m :: stk, ⟨a, d, e, f, k, d, n, o, r, s, t⟩, [], inp, out⟩ :=
  (Rn.cast (by decide) (Rn.trans (show Rn LTu 200 6 ⟨254, 58 :: stk, ⟨a, 58, e, f, k, m, n, o, r, s, t⟩, [], d :: inp, out⟩ ⟨328, (lt d 0) :: stk, ⟨a, d, e, f, k, m, n, o, r, s, t⟩, 255 :: [], inp, out⟩ by kernel_rfl)
    (Rn.trans (tst0 329 330 329 (by kernel_rfl) (by kernel_rfl) h0)
    (Rn.trans (show Rn LTu 200 15 ⟨329, stk, ⟨a, d, e, f, k, m, n, o, r, s, t⟩, 255 :: [], inp, out⟩ ⟨266, (eq e 0) :: m :: stk, ⟨a, d, e, f, k, d, n, o, r, s, t⟩, [], inp, out⟩ by kernel_rfl)
    (tst1 267 209 (by kernel_rfl) h1)))))

theorem Tu_c58e (a e f k m n o r s t : Int) (stk out : List Int) : Rn LTu 200 52 ⟨254, 58 :: stk, ⟨a, 58, e, f, k, m, n, o, r, s, t⟩, [], [], out⟩ ⟨398, stk, ⟨0, (-1), 1, f, (k - 1), k, k, 41, r, s, t⟩, [], [], k :: 0 :: 41 :: m :: out⟩ :=
  (Rn.cast (by decide) (show Rn LTu 200 52 ⟨254, 58 :: stk, ⟨a, 58, e, f, k, m, n, o, r, s, t⟩, [], [], out⟩ ⟨398, stk, ⟨0, (-1), 1, f, (k - 1), k, k, 41, r, s, t⟩, [], [], k :: 0 :: 41 :: m :: out⟩ by kernel_rfl))

def specTu (n : Nat) : Bool := n == 39 || n == 61 || n == 58 || n == 91 || n == 124 || n == 93 || n == 123 || n == 125 || n == 59
theorem Tu_free0 : ∀ n : Nat, n < 127 → (33 ≤ n ∧ ¬ (47 < n ∧ n < 58) ∧ specTu n = false) → (LTu n).isNone = true := by decide +kernel
theorem Tu_free {c : Int} (h1 : 33 ≤ c) (h2 : c ≤ 126) (h3 : ¬ (47 < c ∧ c < 58)) (h4 : ¬ special c) : LTu c.toNat = none := by
  have h := Tu_free0 c.toNat (by omega) ⟨by omega, by omega, by
    unfold special at h4
    unfold specTu
    simp only [Bool.or_eq_false_iff, beq_eq_false_iff_ne]
    omega⟩
  cases e : LTu c.toNat with
  | none => rfl
  | some x => rw [e] at h; cases h
theorem compTu : Comp LTu 200 209 233 246 254 398 (-1) (-1) where
  start := fun inp => by rintro z rfl; exact ⟨_, _, by decide, Tu_start inp, _, _, _, _, _, rfl⟩
  digit := fun stk c f k m r d inp out h1 h2 => by rintro z ⟨a, n, o, s, t, rfl⟩; exact ⟨_, _, by decide, Tu_digit a c 0 f k m n o r s t d stk inp out (lt_t h1) (lt_t h2) (by decide), _, _, _, _, _, rfl⟩
  non := fun stk c f k m r d inp out h => by
    rintro z ⟨a, n, o, s, t, rfl⟩
    by_cases h1 : 47 < d
    · exact ⟨_, _, by decide, Tu_high a c 0 f k m n o r s t d stk inp out (lt_t h1) (lt_f (by omega)), _, _, _, _, _, rfl⟩
    · exact ⟨_, _, by decide, Tu_low a c 0 f k m n o r s t d stk inp out (lt_f h1), _, _, _, _, _, rfl⟩
  none := fun stk c f k m r out => by rintro z ⟨a, n, o, s, t, rfl⟩; exact ⟨_, _, by decide, Tu_none a c 0 f k m n o r s t stk out, _, _, _, _, _, rfl⟩
  nof := fun stk c k m r inp out => by rintro z ⟨a, n, o, s, t, rfl⟩; exact ⟨_, _, by decide, Tu_nof a c 0 0 k m n o r s t 0 stk inp out rfl, _, _, _, _, _, rfl⟩
  flush := fun stk c k m r inp out => by rintro z ⟨a, n, o, s, t, rfl⟩; exact ⟨_, _, by decide, Tu_flush a c 0 1 k m n o r s t 0 stk inp out (by decide), _, _, _, _, _, rfl⟩
  blank := fun stk c f k m r inp out h1 h2 => by
    rintro z ⟨a, n, o, s, t, rfl⟩
    have e : lt c 0 = 0 := lt_f (by omega)
    have g := Tu_blank a c 0 f k m n o r s t 0 stk inp out (lt_t h2) (by rw [e]; decide)
    rw [e] at g
    exact ⟨_, _, by decide, g, _, _, _, _, _, rfl⟩
  fin' := fun stk f k m r out => by rintro z ⟨a, n, o, s, t, rfl⟩; exact ⟨_, _, by decide, Tu_end a 0 f k m n o r s t stk out, rfl, rfl⟩
  sign := fun stk c f k m r inp out h => by rintro z ⟨a, n, o, s, t, rfl⟩; exact ⟨_, _, by decide, Tu_sign a c 0 f k m n o r s t 0 stk inp out (lt_f (by omega)), _, _, _, _, _, rfl⟩
  other := fun stk c f k m r inp out h1 h2 h3 h4 => by rintro z ⟨a, n, o, s, t, rfl⟩; exact ⟨_, _, by decide, Tu_other a c 0 f k m n o r s t 0 stk inp out (Tu_free h1 h2 h3 h4) (by omega) (by decide), _, _, _, _, _, rfl⟩
  c91 := fun stk f k m r inp out => by rintro z ⟨a, n, o, s, t, rfl⟩; exact ⟨_, _, by decide, Tu_c91 a 0 f k m n o r s t stk inp out (by decide), _, _, _, _, _, rfl⟩
  c124 := fun stk f k m r inp out => by rintro z ⟨a, n, o, s, t, rfl⟩; exact ⟨_, _, by decide, Tu_c124 a 0 f k m n o r s t stk inp out (by decide), _, _, _, _, _, rfl⟩
  c93 := fun stk f k m r inp out => by rintro z ⟨a, n, o, s, t, rfl⟩; exact ⟨_, _, by decide, Tu_c93 a 0 f k m n o r s t stk inp out (by decide), _, _, _, _, _, rfl⟩
  c123 := fun stk f k m r inp out => by rintro z ⟨a, n, o, s, t, rfl⟩; exact ⟨_, _, by decide, Tu_c123 a 0 f k m n o r s t stk inp out (by decide), _, _, _, _, _, rfl⟩
  c125 := fun stk f k m r inp out => by rintro z ⟨a, n, o, s, t, rfl⟩; exact ⟨_, _, by decide, Tu_c125 a 0 f k m n o r s t stk inp out (by decide), _, _, _, _, _, rfl⟩
  c59 := fun stk f k m r inp out => by rintro z ⟨a, n, o, s, t, rfl⟩; exact ⟨_, _, by decide, Tu_c59 a 0 f k m n o r s t stk inp out (by decide), _, _, _, _, _, rfl⟩
  c39 := fun stk f k m r d inp out h => by rintro z ⟨a, n, o, s, t, rfl⟩; exact ⟨_, _, by decide, Tu_c39 a 0 f k m n o r s t d stk inp out (lt_f (by omega)) (by decide), _, _, _, _, _, rfl⟩
  c61 := fun stk f k m r d inp out h => by rintro z ⟨a, n, o, s, t, rfl⟩; exact ⟨_, _, by decide, Tu_c61 a 0 f k m n o r s t d stk inp out (lt_f (by omega)) (by decide), _, _, _, _, _, rfl⟩
  c58 := fun stk f k m r d inp out h => by rintro z ⟨a, n, o, s, t, rfl⟩; exact ⟨_, _, by decide, Tu_c58 a 0 f k m n o r s t d stk inp out (lt_f (by omega)) (by decide), _, _, _, _, _, rfl⟩
  c39e := fun stk f k m r out => by rintro z ⟨a, n, o, s, t, rfl⟩; exact ⟨_, _, by decide, Tu_c39e a 0 f k m n o r s t stk out, rfl, rfl⟩
  c61e := fun stk f k m r out => by rintro z ⟨a, n, o, s, t, rfl⟩; exact ⟨_, _, by decide, Tu_c61e a 0 f k m n o r s t stk out, rfl, rfl⟩
  c58e := fun stk f k m r out => by rintro z ⟨a, n, o, s, t, rfl⟩; exact ⟨_, _, by decide, Tu_c58e a 0 f k m n o r s t stk out, rfl, rfl⟩
end TW
set_option Elab.async false
set_option maxRecDepth 100000
set_option maxHeartbeats 4000000
/-! From walks over plain numbers to runs over whole numbers; other numbers for the nodes. -/
namespace TW
/-- a table from nodes, the last one first: the last that bears a number counts -/
def tabR : List Node → Tab
  | [], _ => none
  | (n, e) :: r, x => if n = x then some e else tabR r x
def rho (first dk n : Int) : Int := if n < 200 then n else first + (n - 200) * dk
def rhoN (first dk : Int) (x : Node) : Node := (rho first dk x.1, x.2.1, (if x.2.1 = 63 then rho first dk x.2.2.1 else x.2.2.1), rho first dk x.2.2.2)
def toNode (x : Nat × Nat × Int × Nat) : Node := ((x.1 : Int), (x.2.1 : Int), x.2.2.1, (x.2.2.2 : Int))
/-- numbers that may be chosen -/
def Nums (first dk : Int) : Prop := 200 ≤ first ∧ 1 ≤ dk ∨ first ≤ -1 ∧ dk ≤ -1
theorem rho_low {first dk n : Int} (h : n < 200) : rho first dk n = n := by unfold rho; rw [if_pos h]
theorem rho_one {n : Int} : rho 200 1 n = n := by unfold rho; split <;> omega
theorem rho_far {first dk n : Int} (h : Nums first dk) (hn : 200 ≤ n) : 200 ≤ rho first dk n ∨ rho first dk n ≤ -1 := by
  unfold rho
  rw [if_neg (by omega)]
  rcases h with ⟨a, b⟩ | ⟨a, b⟩
  · left
    have : 0 ≤ (n - 200) * dk := Int.mul_nonneg (by omega) (by omega)
    omega
  · right
    have : (n - 200) * dk ≤ 0 := Int.mul_nonpos_of_nonneg_of_nonpos (by omega) (by omega)
    omega
theorem rho_inj {first dk : Int} (h : Nums first dk) {a b : Int} (ha : 0 ≤ a) (hb : 0 ≤ b) (e : rho first dk a = rho first dk b) : a = b := by
  by_cases la : a < 200
  · rw [rho_low la] at e
    by_cases lb : b < 200
    · rw [rho_low lb] at e; exact e
    · have := rho_far (n := b) h (by omega)
      omega
  · by_cases lb : b < 200
    · rw [rho_low lb] at e
      have := rho_far (n := a) h (by omega)
      omega
    · unfold rho at e
      rw [if_neg la, if_neg lb] at e
      have e2 : (a - 200) * dk = (b - 200) * dk := by omega
      have hd : dk ≠ 0 := by rcases h with ⟨_, h⟩ | ⟨_, h⟩ <;> omega
      have := Int.eq_of_mul_eq_mul_right hd e2
      omega
/-! ### tables by membership -/
theorem tab_mem {l : List Node} (nd : (l.map (·.1)).Nodup) {a : Int} {e : Int × Int × Int} (h : (a, e) ∈ l) : tabR l a = some e := by
  induction l with
  | nil => cases h
  | cons x r ih =>
    obtain ⟨n, u⟩ := x
    rw [List.map_cons, List.nodup_cons] at nd
    unfold tabR
    rcases List.mem_cons.mp h with g | g
    · cases g; rw [if_pos rfl]
    · have : n ≠ a := fun z => nd.1 (List.mem_map.mpr ⟨(a, e), g, z.symm⟩)
      rw [if_neg this]
      exact ih nd.2 g
theorem tab_none {l : List Node} {a : Int} (h : ∀ e, (a, e) ∉ l) : tabR l a = none := by
  induction l with
  | nil => rfl
  | cons x r ih =>
    obtain ⟨n, u⟩ := x
    unfold tabR
    rw [if_neg (fun z => h u (by rw [z]; exact List.mem_cons_self ..))]
    exact ih fun e g => h e (List.mem_cons_of_mem _ g)
theorem look_mem {l : Rows} {n : Nat} {e : Nat × Int × Nat} (h : look l n = some e) : (n, e) ∈ l := by
  induction l with
  | nil => cases h
  | cons x r ih =>
    obtain ⟨k, u⟩ := x
    unfold look at h
    cases b : Nat.beq k n with
    | true =>
      rw [b] at h
      have e1 : u = e := by simpa using h
      have e2 : k = n := Nat.eq_of_beq_eq_true b
      subst e1; subst e2
      exact List.mem_cons_self ..
    | false =>
      rw [b] at h
      exact List.mem_cons_of_mem _ (ih h)
theorem look_none {l : Rows} {n : Nat} (h : look l n = none) (e : Nat × Int × Nat) : (n, e) ∉ l := by
  induction l with
  | nil => exact List.not_mem_nil
  | cons x r ih =>
    obtain ⟨k, u⟩ := x
    unfold look at h
    cases b : Nat.beq k n with
    | true => rw [b] at h; cases h
    | false =>
      rw [b] at h
      intro g
      rcases List.mem_cons.mp g with g | g
      · cases g; simp at b
      · exact ih h g
/-- the nodes of an image with other numbers, the last first -/
def nodesR (rows : Rows) (first dk : Int) : List Node := (rows.map toNode).reverse.map (rhoN first dk)
theorem nodes_nodup {rows : Rows} {first dk : Int} (h : Nums first dk) (nd : (rows.map (·.1)).Nodup) : ((nodesR rows first dk).map (·.1)).Nodup := by
  unfold nodesR
  rw [List.map_map, List.map_reverse, List.map_map]
  refine List.pairwise_reverse.mpr ?_
  have g : (List.map (((fun x => x.fst) ∘ rhoN first dk) ∘ toNode) rows).Nodup := by
    induction rows with
    | nil => exact List.nodup_nil
    | cons x r ih =>
      rw [List.map_cons, List.nodup_cons] at nd ⊢
      refine ⟨fun g => nd.1 ?_, ih nd.2⟩
      obtain ⟨y, hy, e⟩ := List.mem_map.mp g
      have e' : rho first dk (y.1 : Int) = rho first dk (x.1 : Int) := e
      have := rho_inj h (by omega) (by omega) e'
      exact List.mem_map.mpr ⟨y, hy, by omega⟩
  exact g.imp fun z => z.symm
def ent (first dk : Int) (e : Nat × Int × Nat) : Int × Int × Int := ((e.1 : Int), (if (e.1 : Int) = 63 then rho first dk e.2.1 else e.2.1), rho first dk (e.2.2 : Int))
theorem tab_look {rows : Rows} {first dk : Int} (h : Nums first dk) (nd : (rows.map (·.1)).Nodup) {n : Nat} {e : Nat × Int × Nat} (g : look rows n = some e) :
    tabR (nodesR rows first dk) (rho first dk n) = some (ent first dk e) := by
  refine tab_mem (nodes_nodup h nd) ?_
  unfold nodesR
  refine List.mem_map.mpr ⟨toNode (n, e), List.mem_reverse.mpr (List.mem_map.mpr ⟨(n, e), look_mem g, rfl⟩), rfl⟩
theorem tab_lookN {rows : Rows} {first dk : Int} (h : Nums first dk) {n : Nat} (g : look rows n = none) :
    tabR (nodesR rows first dk) (rho first dk n) = none := by
  refine tab_none fun e m => ?_
  obtain ⟨y, hy, ey⟩ := List.mem_map.mp m
  obtain ⟨x, hx, ex⟩ := List.mem_map.mp (List.mem_reverse.mp hy)
  subst ex
  have e1 : rho first dk (x.1 : Int) = rho first dk (n : Int) := congrArg Prod.fst ey
  have := rho_inj h (by omega) (by omega) e1
  obtain ⟨k, u⟩ := x
  have : k = n := by simp at this; omega
  subst this
  exact look_none g u hx
/-! ### the store -/
theorem get_put {x x' : R} {i : Nat} {v : Int} (h : x.put i v = some x') (j : Nat) : x'.get j = if j = i then some v else x.get j := by
  unfold R.put at h
  split at h <;> first | (cases h; done) | skip
  all_goals
    injection h with h
    subst h
    unfold R.get
    split <;> simp_all
theorem fn_nat (x : R) (j : Nat) : x.fn (j : Int) = (x.get j).getD 0 := by
  unfold R.fn
  rw [if_neg (by omega)]
  rfl
theorem fn_neg (x : R) {i : Int} (h : i < 0) : x.fn i = 0 := by
  unfold R.fn
  rw [if_pos h]
theorem fn_put {x x' : R} {i : Nat} {v : Int} (h : x.put i v = some x') : x'.fn = upd x.fn (i : Int) v := by
  funext y
  unfold upd
  by_cases hy : y < 0
  · rw [if_neg (by omega), fn_neg _ hy, fn_neg _ hy]
  · obtain ⟨j, rfl⟩ : ∃ j : Nat, y = (j : Int) := ⟨y.toNat, by omega⟩
    rw [fn_nat, fn_nat, get_put h j]
    by_cases e : j = i
    · rw [if_pos e, if_pos (by omega)]; rfl
    · rw [if_neg e, if_neg (by omega)]
theorem fn_zero : R.fn ⟨0, 0, 0, 0, 0, 0, 0, 0, 0, 0, 0⟩ = fun _ => 0 := by
  funext y
  by_cases hy : y < 0
  · exact fn_neg _ hy
  · obtain ⟨j, rfl⟩ : ∃ j : Nat, y = (j : Int) := ⟨y.toNat, by omega⟩
    rw [fn_nat]
    unfold R.get
    split <;> rfl
/-! ### the simulation -/
def cv (first dk : Int) (s : A) : S := ⟨rho first dk s.at', s.stk, s.sto.fn, s.back.map (fun n : Nat => rho first dk (n : Int)), s.inp, s.out⟩
theorem put_pos {x x' : R} {i : Nat} {v : Int} (h : x.put i v = some x') : 0 < i := by
  cases i with
  | zero => cases h
  | succ n => omega
theorem deed_sim {rows : Rows} {lim : Nat} {first dk : Int} (h : Nums first dk) (nd : (rows.map (·.1)).Nodup) (hl : ∀ n : Int, n < lim → rho first dk n = n)
    (h200 : 200 ≤ lim) {op : Nat} {arg : Int} {nx : Nat} {s t : A} (harg : op = 63 → 0 ≤ arg) (g : adeed (look rows) lim op arg nx s = some t) :
    deed (tabR (nodesR rows first dk)) op (if (op : Int) = 63 then rho first dk arg else arg) (rho first dk nx) (cv first dk s) = some (cv first dk t) := by
  unfold adeed at g
  split at g
  all_goals first | (injection g with g; subst g; rfl) | skip
  -- =
  · cases e : s.sto.put arg.toNat (hd s.stk) with
    | none => rw [e] at g; cases g
    | some x =>
      rw [e] at g
      injection g with g
      subst g
      have := put_pos e
      have e1 := fn_put e
      rw [show ((arg.toNat : Nat) : Int) = arg by omega] at e1
      show some _ = some _
      unfold cv
      rw [e1]
      rfl
  -- ,
  · show (match s.inp with | [] => _ | c :: r => _) = _
    unfold cv
    split at g
    · rename_i e
      injection g with g
      subst g
      rw [e]
    · rename_i c r e
      injection g with g
      subst g
      rw [e]
  -- ?
  · injection g with g
    subst g
    show some _ = some _
    unfold cv
    by_cases z : hd s.stk = 0
    · simp only [z, if_true]
      rw [show ((arg.toNat : Nat) : Int) = arg by have := harg rfl; omega]
      rfl
    · simp only [z, if_false]
  -- (
  · split at g
    · rename_i hh
      injection g with g
      subst g
      show some _ = some _
      unfold cv
      have e : rho first dk ((hd s.stk).toNat : Int) = hd s.stk := by
        rw [show (((hd s.stk).toNat : Nat) : Int) = hd s.stk by omega]
        exact hl _ hh.2
      simp only [e]
      rfl
    · cases g
  -- $
  · show (if 1 ≤ hd s.stk ∧ hd s.stk ≤ 199 ∧ (tabR (nodesR rows first dk) (hd s.stk)).isSome = true then _ else _) = _
    by_cases r : 1 ≤ hd s.stk ∧ hd s.stk ≤ 199
    · have er : rho first dk ((hd s.stk).toNat : Int) = hd s.stk := by
        rw [show (((hd s.stk).toNat : Nat) : Int) = hd s.stk by omega]
        exact rho_low (by omega)
      cases e : look rows (hd s.stk).toNat with
      | none =>
        have e2 := tab_lookN (first := first) (dk := dk) h e
        rw [er] at e2
        rw [e] at g
        rw [if_neg (by simp)] at g
        injection g with g
        subst g
        rw [e2, if_neg (by simp)]
        rfl
      | some x =>
        have e2 := tab_look (first := first) (dk := dk) h nd e
        rw [er] at e2
        rw [e] at g
        rw [if_pos ⟨r.1, r.2, rfl⟩] at g
        injection g with g
        subst g
        rw [e2, if_pos ⟨r.1, r.2, rfl⟩]
        unfold cv
        simp only [er]
        rfl
    · rw [if_neg (by omega)] at g
      injection g with g
      subst g
      rw [if_neg (by omega)]
      rfl
  -- )
  · show (match s.back.map (fun n : Nat => rho first dk (n : Int)) with | [] => _ | b :: r => _) = _
    split at g
    · rename_i e
      injection g with g
      subst g
      unfold cv
      rw [e]
      rfl
    · rename_i b r e
      injection g with g
      subst g
      unfold cv
      rw [e]
      rfl
  -- letters
  · rename_i n1 n2 n3 n4 n5 n6 n7 n8 n9 n10 n11 n12 n13 n14 n15 n16 n17
    split at g
    · rename_i hh
      cases e : s.sto.get op with
      | none => rw [e] at g; cases g
      | some v =>
        rw [e] at g
        injection g with g
        subst g
        have ev : (cv first dk s).sto (op : Int) = v := by
          show s.sto.fn (op : Int) = v
          rw [fn_nat, e]
          rfl
        unfold deed
        iterate 16 rw [if_neg (by omega)]
        rw [if_pos (by omega), ev]
        rfl
    · cases g
theorem step_sim {rows : Rows} {lim : Nat} {first dk : Int} (h : Nums first dk) (nd : (rows.map (·.1)).Nodup) (hl : ∀ n : Int, n < lim → rho first dk n = n)
    (h200 : 200 ≤ lim) (ha : ∀ x ∈ rows, x.2.1 = 63 → 0 ≤ x.2.2.1) {s t : A} (g : astep (look rows) lim s = some t) :
    step (tabR (nodesR rows first dk)) (cv first dk s) = some (cv first dk t) := by
  unfold astep at g
  cases e : look rows s.at' with
  | none => rw [e] at g; cases g
  | some u =>
    obtain ⟨op, arg, nx⟩ := u
    rw [e] at g
    have e2 := tab_look h nd e
    show (match tabR (nodesR rows first dk) (rho first dk s.at') with | none => _ | some (op, arg, nx) => _) = _
    rw [e2]
    exact deed_sim h nd hl h200 (ha _ (look_mem e)) g
theorem run_sim {rows : Rows} {lim : Nat} {first dk : Int} (h : Nums first dk) (nd : (rows.map (·.1)).Nodup) (hl : ∀ n : Int, n < lim → rho first dk n = n)
    (h200 : 200 ≤ lim) (ha : ∀ x ∈ rows, x.2.1 = 63 → 0 ≤ x.2.2.1) : ∀ {j : Nat} {s t : A}, Rn (look rows) lim j s t →
    crun (tabR (nodesR rows first dk)) j (cv first dk s) = some (cv first dk t)
  | 0, s, t, g => by
    have e : s = t := by simpa [Rn, arun] using g
    subst e
    rfl
  | j + 1, s, t, g => by
    have g' : (astep (look rows) lim s).bind (arun (look rows) lim j) = some t := g
    show (step _ _).bind _ = _
    cases e : astep (look rows) lim s with
    | none => rw [e] at g'; cases g'
    | some u =>
      rw [e] at g'
      rw [step_sim h nd hl h200 ha e]
      exact run_sim h nd hl h200 ha g'
/-- a run of a compiler with any numbers of its nodes -/
theorem runs {rows : Rows} {lim H F G D fin : Nat} {f0 d0 first dk : Int} (C : Comp (look rows) lim H F G D fin f0 d0) (h : Nums first dk) (nd : (rows.map (·.1)).Nodup)
    (hl : ∀ n : Int, n < lim → rho first dk n = n) (h200 : 200 ≤ lim) (ha : ∀ x ∈ rows, x.2.1 = 63 → 0 ≤ x.2.2.1) (hf : look rows fin = none)
    (codes : List Int) (hc : ∀ c ∈ codes, 0 ≤ c ∧ c ≤ 126) :
    ∃ j s, j ≤ 150 * codes.length + 210 ∧ crun (tabR (nodesR rows first dk)) j (init codes) = some s ∧ tabR (nodesR rows first dk) s.at' = none ∧ s.out = flat (twigR codes f0 d0) := by
  obtain ⟨j, t, hj, r, ha', ho⟩ := compiles C codes hc
  have g := run_sim h nd hl h200 ha r
  have e : cv first dk ⟨0, [], ⟨0, 0, 0, 0, 0, 0, 0, 0, 0, 0, 0⟩, [], codes, []⟩ = init codes := by
    unfold cv init
    rw [fn_zero, show ((0 : Nat) : Int) = 0 from rfl, rho_low (by decide)]
    rfl
  rw [e] at g
  refine ⟨j, cv first dk t, hj, g, ?_, ho⟩
  show tabR _ (rho first dk t.at') = none
  rw [ha']
  exact tab_lookN h hf
/-! ### other numbers -/
def mapTw (first dk : Int) (w : Tw) : Tw := ⟨w.img.map (rhoN first dk), rho first dk w.m, rho first dk w.k, w.pile.map (rho first dk), w.val, w.sign⟩
theorem rho_next {first dk k : Int} (h : 200 ≤ k) : rho first dk (k + 1) = rho first dk k + dk := by
  unfold rho
  rw [if_neg (by omega), if_neg (by omega), show k + 1 - 200 = (k - 200) + 1 by omega, Int.add_mul]
  omega
theorem hd_map {first dk : Int} (l : List Int) : hd (l.map (rho first dk)) = rho first dk (hd l) := by
  cases l with
  | nil => exact (rho_low (n := 0) (by decide)).symm
  | cons x r => rfl
theorem emit_map {first dk : Int} {w : Tw} (h : 200 ≤ w.k) {op arg : Int} (ho : op = 63 → rho first dk arg = arg) :
    (mapTw first dk w).emit dk op arg = mapTw first dk (w.emit 1 op arg) := by
  unfold Tw.emit mapTw
  have e : (if op = 63 then rho first dk arg else arg) = arg := by split <;> simp_all
  simp only [rho_next h, List.map_cons, rhoN, e]
theorem flush_map {first dk : Int} {w : Tw} (h : 200 ≤ w.k) : (mapTw first dk w).flush dk = mapTw first dk (w.flush 1) ∧ 200 ≤ (w.flush 1).k := by
  unfold Tw.flush
  by_cases v : 0 ≤ w.val
  · rw [if_pos v, if_pos (show 0 ≤ (mapTw first dk w).val from v)]
    rw [show (mapTw first dk w).val = w.val from rfl, emit_map h (by intro z; cases z)]
    refine ⟨rfl, ?_⟩
    show 200 ≤ w.k + 1
    omega
  · rw [if_neg v, if_neg (show ¬ 0 ≤ (mapTw first dk w).val from v)]
    exact ⟨rfl, h⟩
theorem bracket_map {first dk : Int} {w : Tw} (h : 200 ≤ w.k) (c : Int) : (mapTw first dk w).bracket dk c = mapTw first dk (w.bracket 1 c) ∧ 200 ≤ (w.bracket 1 c).k := by
  have e0 : rho first dk 0 = 0 := rho_low (by decide)
  have e1 : rho first dk 1 = 1 := rho_low (by decide)
  have k1 := rho_next (first := first) (dk := dk) h
  have k2 := rho_next (first := first) (dk := dk) (show 200 ≤ w.k + 1 by omega)
  unfold Tw.bracket
  by_cases c1 : c = 91
  · rw [if_pos c1, if_pos c1]
    refine ⟨?_, by show 200 ≤ w.k + 1 + 1; omega⟩
    unfold mapTw
    simp [rhoN, k1, k2]
  rw [if_neg c1, if_neg c1]
  by_cases c2 : c = 124
  · rw [if_pos c2, if_pos c2]
    refine ⟨?_, by show 200 ≤ w.k + 1; omega⟩
    unfold mapTw
    simp [rhoN, k1, k2, hd_map]
  rw [if_neg c2, if_neg c2]
  by_cases c3 : c = 93
  · rw [if_pos c3, if_pos c3]
    refine ⟨?_, by show 200 ≤ w.k; omega⟩
    unfold mapTw
    simp [rhoN, hd_map]
  rw [if_neg c3, if_neg c3]
  by_cases c4 : c = 123
  · rw [if_pos c4, if_pos c4]
    refine ⟨?_, by show 200 ≤ w.k + 1; omega⟩
    unfold mapTw
    simp [rhoN, k1]
  rw [if_neg c4, if_neg c4]
  by_cases c5 : c = 125
  · rw [if_pos c5, if_pos c5]
    refine ⟨?_, by show 200 ≤ w.k + 1; omega⟩
    unfold mapTw
    simp [rhoN, k1, hd_map]
  rw [if_neg c5, if_neg c5]
  by_cases c6 : c = 59
  · rw [if_pos c6, if_pos c6]
    refine ⟨?_, by show 200 ≤ w.k; omega⟩
    unfold mapTw
    simp [rhoN, e1, hd_map]
  rw [if_neg c6, if_neg c6]
  by_cases c7 : 32 < c
  · rw [if_pos c7, if_pos c7]
    exact ⟨emit_map h fun _ => e0, by show 200 ≤ w.k + 1; omega⟩
  · rw [if_neg c7, if_neg c7]
    exact ⟨rfl, h⟩
theorem one_map {first dk : Int} {w : Tw} (h : 200 ≤ w.k) {c : Int} (hc : c < 200) : (mapTw first dk w).one dk c = mapTw first dk (w.one 1 c) ∧ 200 ≤ (w.one 1 c).k := by
  unfold Tw.one
  rw [show (mapTw first dk w).sign = w.sign from rfl, show (mapTw first dk w).val = w.val from rfl]
  by_cases c1 : 0 < w.sign
  · rw [if_pos c1, if_pos c1]
    unfold Tw.second
    rw [show (mapTw first dk w).sign = w.sign from rfl]
    by_cases c2 : w.sign = 39
    · rw [if_pos c2, if_pos c2, emit_map h (by intro z; cases z)]
      exact ⟨rfl, by show 200 ≤ w.k + 1; omega⟩
    rw [if_neg c2, if_neg c2]
    by_cases c3 : w.sign = 61
    · rw [if_pos c3, if_pos c3, emit_map h (by intro z; cases z)]
      exact ⟨rfl, by show 200 ≤ w.k + 1; omega⟩
    rw [if_neg c3, if_neg c3]
    refine ⟨?_, h⟩
    unfold mapTw
    simp [rho_low hc]
  rw [if_neg c1, if_neg c1]
  by_cases c2 : 48 ≤ c ∧ c ≤ 57
  · rw [if_pos c2, if_pos c2]
    exact ⟨rfl, h⟩
  rw [if_neg c2, if_neg c2]
  obtain ⟨f1, f2⟩ := flush_map (first := first) (dk := dk) h
  by_cases c3 : c = 39 ∨ c = 61 ∨ c = 58
  · rw [if_pos c3, if_pos c3, f1]
    exact ⟨rfl, f2⟩
  · rw [if_neg c3, if_neg c3, f1]
    exact bracket_map f2 c
theorem fold_map {first dk : Int} : ∀ (codes : List Int) (w : Tw), 200 ≤ w.k → (∀ c ∈ codes, c < 200) →
    codes.foldl (Tw.one dk) (mapTw first dk w) = mapTw first dk (codes.foldl (Tw.one 1) w) ∧ 200 ≤ (codes.foldl (Tw.one 1) w).k
  | [], w, h, _ => ⟨rfl, h⟩
  | c :: r, w, h, hc => by
    obtain ⟨e, h'⟩ := one_map (first := first) (dk := dk) h (hc c (List.mem_cons_self ..))
    rw [List.foldl_cons, List.foldl_cons, e]
    exact fold_map r _ h' fun x hx => hc x (List.mem_cons_of_mem _ hx)
/-- a translation with other numbers -/
theorem twig_map (first dk : Int) (codes : List Int) (hc : ∀ c ∈ codes, c < 200) : twigR codes first dk = (twigR codes 200 1).map (rhoN first dk) := by
  have e : mapTw first dk (Tw.start 200 1) = Tw.start first dk := by
    unfold mapTw Tw.start
    simp [rhoN, rho]
  obtain ⟨f, h⟩ := fold_map (first := first) (dk := dk) codes (Tw.start 200 1) (by decide) hc
  unfold twigR
  rw [← e, f]
  generalize codes.foldl (Tw.one 1) (Tw.start 200 1) = w at *
  unfold Tw.finish
  obtain ⟨f1, f2⟩ := flush_map (first := first) (dk := dk) h
  rw [f1, emit_map f2 (by intro z; cases z)]
  rfl
end TW
set_option Elab.async false
set_option maxRecDepth 100000
set_option maxHeartbeats 4000000
/-! The three families of compilers: each writes the translation of every text. -/
namespace TW
structure Sh where
  img : List Node
  m : Int
  r : Int
  q : Bool
def Sh.one (s : Sh) (c : Int) : Sh :=
  if s.q then ⟨(s.m, 35, c, s.m + 1) :: s.img, s.m + 1, 0, false⟩
  else if 48 ≤ c ∧ c ≤ 57 then { s with r := 10 * s.r + c - 48 }
  else if c = 58 then { s with m := s.r, r := 0 }
  else if c = 62 then ⟨(s.m, 32, 0, s.r) :: s.img, s.m + 1, 0, false⟩
  else if c = 39 then { s with q := true }
  else if 32 < c then ⟨(s.m, c, s.r, s.m + 1) :: s.img, s.m + 1, 0, false⟩
  else s
def shortR (codes : List Int) : List Node := (codes.foldl Sh.one ⟨[], 0, 0, false⟩).img
def secondCodes : List Int := [50, 48, 48, 62, 51, 57, 58, 50, 57, 56, 62, 53, 56, 58, 51, 49, 52, 62, 51, 55, 48, 62, 54, 49, 58, 51, 48, 54, 62, 57, 49, 58, 51, 50, 49, 62, 57, 51, 58, 51, 52, 48, 62, 49, 50, 51, 58, 51, 52, 55, 62, 51, 51, 49, 62, 51, 53, 55, 62, 50, 48, 48, 58, 50, 48, 48, 35, 49, 48, 55, 61, 51, 50, 35, 48, 35, 50, 55, 55, 35, 40, 44, 34, 57, 57, 61, 52, 55, 35, 92, 60, 50, 50, 54, 63, 99, 53, 56, 35, 60, 50, 50, 54, 63, 114, 99, 52, 56, 35, 45, 42, 49, 49, 52, 61, 49, 35, 49, 48, 50, 61, 50, 48, 54, 62, 102, 50, 51, 54, 63, 51, 53, 35, 114, 50, 55, 55, 35, 40, 48, 35, 34, 49, 49, 52, 61, 49, 48, 50, 61, 99, 51, 51, 35, 60, 50, 52, 57, 63, 99, 48, 35, 60, 50, 48, 54, 63, 52, 49, 35, 48, 35, 50, 55, 55, 35, 40, 49, 62, 99, 36, 34, 50, 53, 55, 63, 48, 35, 50, 55, 55, 35, 40, 50, 48, 54, 62, 95, 50, 48, 54, 62, 49, 49, 48, 61, 57, 55, 61, 49, 49, 49, 61, 109, 46, 111, 46, 97, 46, 110, 46, 41, 107, 107, 49, 35, 43, 49, 48, 55, 61, 41, 107, 50, 53, 57, 35, 40, 50, 55, 49, 35, 40, 49, 48, 57, 61, 41, 51, 50, 35, 48, 35, 116, 50, 53, 57, 35, 40, 41, 44, 34, 57, 57, 61, 48, 35, 60, 50, 57, 55, 63, 50, 52, 52, 62, 41, 50, 57, 48, 35, 40, 51, 53, 35, 99, 50, 55, 55, 35, 40, 48, 35, 41, 50, 57, 48, 35, 40, 54, 49, 35, 99, 50, 55, 55, 35, 40, 48, 35, 41, 50, 57, 48, 35, 40, 109, 99, 49, 48, 57, 61, 48, 35, 41, 50, 55, 49, 35, 40, 34, 49, 49, 54, 61, 54, 51, 35, 116, 50, 55, 55, 35, 40, 48, 35, 41, 50, 55, 49, 35, 40, 49, 49, 54, 61, 50, 56, 52, 35, 40, 49, 48, 57, 61, 116, 48, 35, 41, 49, 49, 54, 61, 50, 56, 52, 35, 40, 116, 49, 48, 57, 61, 48, 35, 41, 50, 55, 49, 35, 40, 49, 49, 54, 61, 50, 56, 52, 35, 40, 116, 49, 48, 57, 61, 116, 48, 35, 41, 49, 49, 53, 61, 50, 55, 49, 35, 40, 49, 49, 54, 61, 54, 51, 35, 116, 115, 50, 53, 57, 35, 40, 116, 49, 48, 57, 61, 48, 35, 41, 52, 49, 35, 48, 35, 49, 35, 50, 53, 57, 35, 40, 49, 48, 57, 61, 48, 35, 41]
def plainCodes : List Int := [50, 48, 48, 61, 107, 51, 50, 32, 48, 39, 51, 40, 123, 44, 61, 99, 52, 55, 99, 60, 91, 99, 53, 56, 60, 124, 48, 93, 91, 114, 99, 52, 56, 45, 42, 61, 114, 49, 61, 102, 124, 102, 91, 51, 53, 114, 39, 51, 40, 48, 34, 61, 114, 61, 102, 93, 99, 51, 51, 60, 91, 99, 48, 60, 61, 101, 124, 99, 36, 34, 91, 48, 39, 51, 40, 124, 95, 93, 93, 93, 101, 48, 126, 125, 52, 49, 32, 48, 39, 51, 40, 58, 49, 61, 110, 61, 97, 61, 111, 109, 46, 111, 46, 97, 46, 110, 46, 59, 58, 50, 107, 107, 49, 43, 61, 107, 59, 58, 51, 107, 39, 49, 40, 39, 50, 40, 61, 109, 59, 58, 39, 44, 34, 61, 99, 48, 60, 91, 49, 61, 101, 124, 51, 53, 99, 39, 51, 40, 93, 48, 59, 58, 61, 44, 34, 61, 99, 48, 60, 91, 49, 61, 101, 124, 54, 49, 99, 39, 51, 40, 93, 48, 59, 58, 58, 44, 34, 61, 99, 48, 60, 91, 49, 61, 101, 124, 109, 99, 61, 109, 93, 48, 59, 58, 91, 39, 50, 40, 34, 61, 116, 54, 51, 116, 39, 51, 40, 48, 59, 58, 124, 39, 50, 40, 61, 116, 51, 50, 32, 48, 116, 39, 49, 40, 61, 109, 116, 48, 59, 58, 93, 61, 116, 51, 50, 32, 48, 116, 39, 49, 40, 116, 61, 109, 48, 59, 58, 123, 39, 50, 40, 61, 116, 51, 50, 32, 48, 116, 39, 49, 40, 116, 61, 109, 116, 48, 59, 58, 125, 61, 115, 39, 50, 40, 61, 116, 54, 51, 116, 115, 39, 49, 40, 116, 61, 109, 48, 59, 58, 59, 52, 49, 32, 48, 32, 49, 39, 49, 40, 61, 109, 48, 59]
def turnedCodes : List Int := [48, 32, 49, 45, 61, 107, 51, 50, 32, 48, 39, 51, 40, 123, 44, 61, 99, 52, 55, 99, 60, 91, 99, 53, 56, 60, 124, 48, 93, 91, 114, 99, 52, 56, 45, 42, 61, 114, 49, 61, 102, 124, 102, 91, 51, 53, 114, 39, 51, 40, 48, 34, 61, 114, 61, 102, 93, 99, 51, 51, 60, 91, 99, 48, 60, 61, 101, 124, 99, 36, 34, 91, 48, 39, 51, 40, 124, 95, 93, 93, 93, 101, 48, 126, 125, 52, 49, 32, 48, 39, 51, 40, 58, 49, 61, 110, 61, 97, 61, 111, 109, 46, 111, 46, 97, 46, 110, 46, 59, 58, 50, 107, 107, 49, 45, 61, 107, 59, 58, 51, 107, 39, 49, 40, 39, 50, 40, 61, 109, 59, 58, 39, 44, 34, 61, 99, 48, 60, 91, 49, 61, 101, 124, 51, 53, 99, 39, 51, 40, 93, 48, 59, 58, 61, 44, 34, 61, 99, 48, 60, 91, 49, 61, 101, 124, 54, 49, 99, 39, 51, 40, 93, 48, 59, 58, 58, 44, 34, 61, 99, 48, 60, 91, 49, 61, 101, 124, 109, 99, 61, 109, 93, 48, 59, 58, 91, 39, 50, 40, 34, 61, 116, 54, 51, 116, 39, 51, 40, 48, 59, 58, 124, 39, 50, 40, 61, 116, 51, 50, 32, 48, 116, 39, 49, 40, 61, 109, 116, 48, 59, 58, 93, 61, 116, 51, 50, 32, 48, 116, 39, 49, 40, 116, 61, 109, 48, 59, 58, 123, 39, 50, 40, 61, 116, 51, 50, 32, 48, 116, 39, 49, 40, 116, 61, 109, 116, 48, 59, 58, 125, 61, 115, 39, 50, 40, 61, 116, 54, 51, 116, 115, 39, 49, 40, 116, 61, 109, 48, 59, 58, 59, 52, 49, 32, 48, 32, 49, 39, 49, 40, 61, 109, 48, 59]
theorem secondNodes : shortR secondCodes = (rowsSe.map toNode).reverse := by decide +kernel
theorem plainNodes : twigR plainCodes 200 1 = (rowsPl.map toNode).reverse := by decide +kernel
theorem turnedNodes : twigR turnedCodes 200 1 = (rowsTu.map toNode).reverse := by decide +kernel
/-- an image (its nodes, the last first) that translates every text, with the numbers f0 and d0 -/
def Trans (img : List Node) (f0 d0 : Int) : Prop := ∀ codes : List Int, (∀ c ∈ codes, 0 ≤ c ∧ c ≤ 126) →
  ∃ j s, j ≤ 150 * codes.length + 210 ∧ crun (tabR img) j (init codes) = some s ∧ tabR img s.at' = none ∧ s.out = flat (twigR codes f0 d0)
theorem nums_one : Nums 200 1 := .inl ⟨by decide, by decide⟩
theorem nums_neg : Nums (-1) (-1) := .inr ⟨by decide, by decide⟩
theorem map_id (l : List Node) : l.map (rhoN 200 1) = l := by
  induction l with
  | nil => rfl
  | cons x r ih =>
    rw [List.map_cons, ih]
    unfold rhoN
    simp only [rho_one]
    split <;> rfl
theorem trans_second : Trans (shortR secondCodes) 200 1 := fun codes hc => by
  have e : shortR secondCodes = nodesR rowsSe 200 1 := by
    unfold nodesR
    rw [map_id, secondNodes]
  rw [e]
  exact runs compSe nums_one (by decide +kernel) (fun n _ => rho_one) (by decide) (by decide +kernel) (by decide +kernel) codes hc
theorem trans_plain {first dk : Int} (h : Nums first dk) : Trans (twigR plainCodes first dk) 200 1 := fun codes hc => by
  have e : twigR plainCodes first dk = nodesR rowsPl first dk := by
    unfold nodesR
    rw [twig_map first dk plainCodes (by decide +kernel), plainNodes]
  rw [e]
  exact runs compPl h (by decide +kernel) (fun n hn => rho_low hn) (by decide) (by decide +kernel) (by decide +kernel) codes hc
theorem trans_turned {first dk : Int} (h : Nums first dk) : Trans (twigR turnedCodes first dk) (-1) (-1) := fun codes hc => by
  have e : twigR turnedCodes first dk = nodesR rowsTu first dk := by
    unfold nodesR
    rw [twig_map first dk turnedCodes (by decide +kernel), turnedNodes]
  rw [e]
  exact runs compTu h (by decide +kernel) (fun n hn => rho_low hn) (by decide) (by decide +kernel) (by decide +kernel) codes hc
end TW
set_option Elab.async false
set_option linter.all false
set_option maxRecDepth 100000
set_option maxHeartbeats 4000000
/-! A State in the heap; what it does, deed by deed. -/
namespace Pz
open PySem PySem.Spec PyProof.Rows L2
/-! ### rules of my own -/
section
variable {X : Cx} {CX : CXT} {k : Nat} {f C : Addr} {m : Str} {fd : FuncData} {ps ks : List Str} {sp : Sp} {E : XK} {p pos apos : Pos} {o : Expr} {kws : List Keyword} {ta : TE} {tk : TA} {g : List Value → List Value → List Value} {gV : List V → List V → List V}
def tMethK (C : Addr) (m : Str) (sp : Sp) (gV : List V → List V → List V) (q : Nat) (E : XK) (ta : TE) (tk : TA) : TE := fun σ H Q => ta σ H fun x H1 => ∃ a dx fs, x = .ref a ∧ H1 a = some (.ins C dx fs) ∧ fs.lookup m = none ∧
  tk σ H1 fun zs H2 => zs.length = q ∧ sp (gV [x] zs) H2 Q E
/-- o.m(k = v, ..) -/
theorem pe_methK {pl : Sem Bool} (he : PE X o ta) (c : Cls X.K C) (hm : Meth X.K C m f) (F : FnOk X.prog X.w X.K X.mg X.base CX k f fd ps sp) (hr : Room k X.A) (hb : KBn X.K fd ps 1 ks g gV) (hx : Passes CX X E) (hkw : PK X kws tk)
    (hall : (backToKw pos (keywordEach kws X.env)).all (·.1.isSome) = true := by rfl) (hks : (backToKw pos (keywordEach kws X.env)).filterMap (·.1) = ks := by rfl)
    (hpl : ((backTo pos (starEach [] X.env)).any (·.1) || (backToKw pos (keywordEach kws X.env)).any (·.1.isNone)) = false := by rfl)
    (ht : eval (.Call (.Attribute o m apos) [] kws pos) X.env = (do
      let ov ← eval o X.env
      standAt apos.atName
      let (f, first) ← holding [ov] (getMethod ov m pl)
      callWith pos f first (backTo pos (starEach [] X.env)) (backToKw pos (keywordEach kws X.env))) := by rfl) :
    PE X (.Call (.Attribute o m apos) [] kws pos) (tMethK C m sp gV ks.length E ta tk) := by
  refine ⟨fun pins s σ H Q I h => ?_⟩
  refine PySem.W.methodCall_KW (pl := pl) (thn (he.run pins s σ H _ I h) fun u s1 ⟨x, H1, I1, rx, a, dx, fs, ex, ea, l, q⟩ => ?_) ht
  subst ex
  obtain rfl : u = Value.ref a := rx
  refine getmeth_ok I1 ea c hm l ?_
  refine PySem.W.callWith_KW0 (first := [.ref a]) (h₀ := X.base) I1.ok.mod.kin hm.kp hall ?_ hpl
  refine thn (hkw.run pos pins s1 σ H1 _ I1 q) fun ws s2 ⟨zs, H2, I2, rz, l1, q2⟩ => ⟨I2.kIn, ?_⟩
  rw [hks]
  exact run_fnN (us := [.ref a]) (vs := [V.ref a]) F hr hb hx I2 (.cons rfl .nil) rz rfl l1 q2
end
/-! ### a dict of the top with whole-number keys -/
structure KInt (K : PySem.W.Frag) (d : Addr) (D : List (Int × Addr)) : Prop where
  ex : ∃ es n, K.lookup d = some ⟨.type "dict", none, .dict es n, #[]⟩ ∧ (∀ e ∈ es.toList, ∃ k t, e.key = .int k t ∧ e.hash = hashInt k) ∧ ∀ k, findBy Value.isInt es k = (D.lookup k).map Value.ref
  low : (d == sysModules) = false
section
variable {X : Cx} {d : Addr} {D : List (Int × Addr)}
theorem mapOf_I {h : Heap} {K : PySem.W.Frag} {prog : Program} {w : World} {es : Array DictEntry} {n : Nat} (XK : K.In h) (hl : K.lookup d = some ⟨.type "dict", none, .dict es n, #[]⟩) (hk : ∀ e ∈ es.toList, ∃ k t, e.key = .int k t ∧ e.hash = hashInt k) :
    h.MapOf (intKind prog w) d (fun k => findBy Value.isInt es k) :=
  ⟨_, es, n, XK _ _ hl, ⟨rfl, rfl, rfl⟩, rfl, fun e he => by
    obtain ⟨x, t, e1, e2⟩ := hk e (Array.mem_toList_iff.mpr he)
    exact ⟨x, by rw [e1]; exact intKind_is prog w x t, e2⟩, fun _ => rfl⟩
theorem op_in_ki (T : KInt X.K d D) : OpR X (compareOp .In) (fun x y H Q => ∃ k : Int, x = .int k ∧ y = .ref d ∧ Q (.bl (D.lookup k).isSome) H) := by
  intro pins s σ H x y v u Q I rx ry h
  obtain ⟨k, rfl, rfl, q⟩ := h
  obtain ⟨t, rfl⟩ := rx
  cases ry
  obtain ⟨es, n, hl, hk, hf⟩ := T.ex
  refine wpAny_in_of (intKind_is X.prog X.w k t) T.low (mapOf_I (prog := X.prog) I.kIn hl hk) ?_
  rw [hf k, Option.isSome_map]
  exact ⟨.bl (D.lookup k).isSome, H, I.tok _, rfl, q⟩
theorem ix_ki (T : KInt X.K d D) : IxR X (fun x y H Q => ∃ (k : Int) (a : Addr), x = .ref d ∧ y = .int k ∧ D.lookup k = some a ∧ Q (.ref a) H) := by
  intro value slice pins s σ H x y v u Q I rx ry h hs
  obtain ⟨k, a, rfl, rfl, e, q⟩ := h
  obtain rfl : v = Value.ref d := rx
  obtain ⟨t, rfl⟩ := ry
  obtain ⟨es, n, hl, hk, hf⟩ := T.ex
  have hm := mapOf_I (prog := X.prog) (w := X.w) I.kIn hl hk
  exact tail_any hm.typeIs slot_dict_getitem.lookup (wpAny_getItem_of (intKind_is X.prog X.w k t) hm (by rw [hf k, e]; rfl) ⟨.ref a, H, I.tok _, rfl, q⟩) hs
end
/-! ### a def of the module that may be called by its name -/
structure Cal (P : Program) (w : World) (K : PySem.W.Frag) (mg : Str → Option Value) (base : Heap) (k : Nat) (x : Str) (sp : Sp) : Prop where
  ex : ∃ (f : Addr) (fd : FuncData) (ps : List Str), FnOk P w K mg base CX0 k f fd ps sp ∧ mg x = some (.ref f) ∧ PySem.W.keepIn K (.ref f) = true ∧ Binds K fd ps []
theorem pe_c {X : Cx} {k j : Nat} {x : Str} {sp : Sp} {p pos : Pos} {e : Expr} {es : List Expr} {t : TA} (c : Cal X.prog X.w X.K X.mg X.base k x sp) (hr : Room j X.A) (hk : k ≤ j) (hg : Gl X x) (ha : PA X (e :: es) t)
    (hdb : (x == ("__debug__" : Str)) = false := by decide) (he : starEach (e :: es) X.env = (false, eval e X.env) :: starEach es X.env := by rfl) (hpl : (backTo pos (starEach es X.env)).any (·.1) = false := by rfl) :
    PE X (.Call (.Name x p) (e :: es) [] pos) (tCall sp [] E0 t) := by
  obtain ⟨f, fd, ps, F, hm, kp, b⟩ := c.ex
  exact pe_call F (hr.mono hk) hg hm kp b .nil pass0 ha hdb he hpl
/-! ### the fields of a State -/
structure Rf where
  p : Addr
  dx : Addr
  im : Addr
  nu : Addr
  tb : Addr
  st : Addr
  so : Addr
  bk : Addr
  ou : Addr
def fl (r : Rf) (a pl n : Int) : List (Str × V) := [("image", .ref r.im), ("numbers", .ref r.nu), ("table", .ref r.tb), ("at", .int a), ("stack", .ref r.st), ("store", .ref r.so), ("back", .ref r.bk), ("place", .int pl), ("output", .ref r.ou), ("steps", .int n)]
section
variable {r : Rf} {a pl n : Int}
theorem lk_numbers : (fl r a pl n).lookup ("numbers" : Str) = some (.ref r.nu) := by kernel_rfl
theorem lk_table : (fl r a pl n).lookup ("table" : Str) = some (.ref r.tb) := by kernel_rfl
theorem lk_at : (fl r a pl n).lookup ("at" : Str) = some (.int a) := by kernel_rfl
theorem lk_stack : (fl r a pl n).lookup ("stack" : Str) = some (.ref r.st) := by kernel_rfl
theorem lk_store : (fl r a pl n).lookup ("store" : Str) = some (.ref r.so) := by kernel_rfl
theorem lk_back : (fl r a pl n).lookup ("back" : Str) = some (.ref r.bk) := by kernel_rfl
theorem lk_place : (fl r a pl n).lookup ("place" : Str) = some (.int pl) := by kernel_rfl
theorem lk_output : (fl r a pl n).lookup ("output" : Str) = some (.ref r.ou) := by kernel_rfl
theorem lk_steps : (fl r a pl n).lookup ("steps" : Str) = some (.int n) := by kernel_rfl
theorem lk_pull : (fl r a pl n).lookup ("pull" : Str) = none := by kernel_rfl
theorem lk_step : (fl r a pl n).lookup ("step" : Str) = none := by kernel_rfl
theorem lk_advance : (fl r a pl n).lookup ("advance" : Str) = none := by kernel_rfl
theorem lk_has_ended : (fl r a pl n).lookup ("has_ended" : Str) = none := by kernel_rfl
theorem put_at {b : Int} : putF "at" (.int b) (fl r a pl n) = fl r b pl n := by kernel_rfl
theorem put_place {b : Int} : putF "place" (.int b) (fl r a pl n) = fl r a b n := by kernel_rfl
theorem put_steps {b : Int} : putF "steps" (.int b) (fl r a pl n) = fl r a pl b := by kernel_rfl
theorem fl_len : (fl r a pl n).length < 1000 := by show 10 < 1000; decide
end
/-! ### a State in the heap -/
/-- a table of nodes stands at tb -/
def TabAt (H : Hp) (tb : Addr) (T : TW.Tab) : Prop := ∃ kvs : List (Key × V), H tb = some (.dK kvs) ∧ ∀ a : Int, (T a = none → valV kvs (Sum.inl a : Key) = none) ∧
  ∀ o g x, T a = some (o, g, x) → ∃ t, valV kvs (Sum.inl a : Key) = some (.ref t) ∧ H t = some (.tup [.int o, .int g, .int x])
/-- what a store holds -/
def StoAt (kvs : List (Key × V)) (f : Int → Int) : Prop := ∀ a : Int, (valV kvs (Sum.inl a : Key)).getD (.int 0) = .int (f a)
theorem stoAt_put {kvs : List (Key × V)} {f : Int → Int} (h : StoAt kvs f) (x v : Int) : StoAt (putK kvs (Sum.inl x : Key) (.int v)) (TW.upd f x v) := by
  intro a
  unfold TW.upd
  rw [valV_put]
  by_cases e : a = x
  · subst e
    rw [if_pos rfl, if_pos rfl]
    rfl
  · rw [if_neg e, if_neg (fun q => e (Sum.inl.inj q))]
    exact h a
structure StAt (K : PySem.W.Frag) (C : Addr) (H0 H : Hp) (r : Rf) (T : TW.Tab) (ns : List Int) (S : TW.S) (pl n b : Nat) : Prop where
  same : Same H0 H
  np : H0 r.p = none
  nst : H0 r.st = none
  nso : H0 r.so = none
  nbk : H0 r.bk = none
  nou : H0 r.ou = none
  ne1 : r.st ≠ r.bk
  ne2 : r.st ≠ r.ou
  ne3 : r.bk ≠ r.ou
  ob : H r.p = some (.ins C r.dx (fl r S.at' (pl : Int) (n : Int)))
  st : H r.st = some (.lst (S.stk.reverse.map V.int))
  so : ∃ kvs : List (Key × V), H r.so = some (.dK kvs) ∧ kvs.length ≤ b ∧ StoAt kvs S.sto
  bk : H r.bk = some (.lst (S.back.reverse.map V.int))
  ou : H r.ou = some (.lst (S.out.reverse.map V.int))
  inp : S.inp = ns.drop pl
  bst : S.stk.length ≤ 2 * b
  bbk : S.back.length ≤ b
  bou : S.out.length ≤ b
  tab : TabAt H0 r.tb T
  num : SqL K H0 r.nu (ns.map V.int)
end Pz
set_option Elab.async false
set_option linter.all false
set_option maxRecDepth 100000
set_option maxHeartbeats 4000000
/-! What keeps a State a State; pull and the deeds. -/
namespace Pz
open PySem PySem.Spec PyProof.Rows L2
section
variable {K : PySem.W.Frag} {C : Addr} {H0 H : Hp} {r : Rf} {T : TW.Tab} {ns : List Int} {S : TW.S} {pl n b : Nat}
theorem StAt.mono (h : StAt K C H0 H r T ns S pl n b) {b' : Nat} (e : b ≤ b') : StAt K C H0 H r T ns S pl n b' := by
  obtain ⟨kvs, h1, h2, h3⟩ := h.so
  exact { h with so := ⟨kvs, h1, Nat.le_trans h2 e, h3⟩, bst := by have := h.bst; omega, bbk := by have := h.bbk; omega, bou := by have := h.bou; omega }
theorem same_upd {H0 H : Hp} {a : Addr} {o : HO} (s : Same H0 H) (h : H0 a = none) : Same H0 (upd H a o) := fun c u e => by
  rw [upd_ne (ne_of_none e h)]
  exact s c u e
theorem StAt.nps (h : StAt K C H0 H r T ns S pl n b) : r.p ≠ r.st := ne_of h.ob h.st (by intro q; cases q)
theorem StAt.npb (h : StAt K C H0 H r T ns S pl n b) : r.p ≠ r.bk := ne_of h.ob h.bk (by intro q; cases q)
theorem StAt.npo (h : StAt K C H0 H r T ns S pl n b) : r.p ≠ r.ou := ne_of h.ob h.ou (by intro q; cases q)
theorem StAt.nso_p (h : StAt K C H0 H r T ns S pl n b) : r.so ≠ r.p := by
  obtain ⟨kvs, h1, _⟩ := h.so
  exact ne_of h1 h.ob (by intro q; cases q)
theorem StAt.nso_st (h : StAt K C H0 H r T ns S pl n b) : r.so ≠ r.st := by
  obtain ⟨kvs, h1, _⟩ := h.so
  exact ne_of h1 h.st (by intro q; cases q)
theorem StAt.nso_bk (h : StAt K C H0 H r T ns S pl n b) : r.so ≠ r.bk := by
  obtain ⟨kvs, h1, _⟩ := h.so
  exact ne_of h1 h.bk (by intro q; cases q)
theorem StAt.nso_ou (h : StAt K C H0 H r T ns S pl n b) : r.so ≠ r.ou := by
  obtain ⟨kvs, h1, _⟩ := h.so
  exact ne_of h1 h.ou (by intro q; cases q)
/-- the fields are stored anew -/
theorem StAt.fields (h : StAt K C H0 H r T ns S pl n b) {a' : Int} {pl' n' : Nat} (e : S.inp.drop (pl' - pl) = ns.drop pl') {q : List (Str × V)} (eq : q = fl r a' (pl' : Int) (n' : Int)) :
    StAt K C H0 (upd H r.p (.ins C r.dx q)) r T ns { S with at' := a', inp := ns.drop pl' } pl' n' b := by
  subst eq
  obtain ⟨kvs, h1, h2, h3⟩ := h.so
  exact { same := same_upd h.same h.np, np := h.np, nst := h.nst, nso := h.nso, nbk := h.nbk, nou := h.nou, ne1 := h.ne1, ne2 := h.ne2, ne3 := h.ne3, ob := upd_same,
          st := by rw [upd_ne h.nps.symm]; exact h.st, so := ⟨kvs, by rw [upd_ne h.nso_p]; exact h1, h2, h3⟩, bk := by rw [upd_ne h.npb.symm]; exact h.bk, ou := by rw [upd_ne h.npo.symm]; exact h.ou,
          inp := rfl, bst := h.bst, bbk := h.bbk, bou := h.bou, tab := h.tab, num := h.num }
theorem StAt.setAt (h : StAt K C H0 H r T ns S pl n b) (a' : Int) : StAt K C H0 (upd H r.p (.ins C r.dx (putF "at" (.int a') (fl r S.at' (pl : Int) (n : Int))))) r T ns { S with at' := a' } pl n b := by
  have g := h.fields (a' := a') (pl' := pl) (n' := n) (q := putF "at" (.int a') (fl r S.at' (pl : Int) (n : Int))) (by rw [Nat.sub_self]; exact h.inp) put_at
  rw [← h.inp] at g
  exact g
theorem StAt.setSteps (h : StAt K C H0 H r T ns S pl n b) {m : Int} (e : m = ((n + 1 : Nat) : Int)) : StAt K C H0 (upd H r.p (.ins C r.dx (putF "steps" (.int m) (fl r S.at' (pl : Int) (n : Int))))) r T ns S pl (n + 1) b := by
  have g := h.fields (a' := S.at') (pl' := pl) (n' := n + 1) (q := putF "steps" (.int m) (fl r S.at' (pl : Int) (n : Int))) (by rw [Nat.sub_self]; exact h.inp) (by rw [put_steps, e])
  rw [← h.inp] at g
  exact g
theorem StAt.setPlace (h : StAt K C H0 H r T ns S pl n b) {m : Int} (e : m = ((pl + 1 : Nat) : Int)) : StAt K C H0 (upd H r.p (.ins C r.dx (putF "place" (.int m) (fl r S.at' (pl : Int) (n : Int))))) r T ns { S with inp := S.inp.tail } (pl + 1) n b := by
  have e2 : S.inp.tail = ns.drop (pl + 1) := by rw [h.inp, List.tail_drop]
  have g := h.fields (a' := S.at') (pl' := pl + 1) (n' := n) (q := putF "place" (.int m) (fl r S.at' (pl : Int) (n : Int))) (by rw [Nat.add_sub_cancel_left, h.inp, List.drop_drop]) (by rw [put_place, e])
  rw [← e2] at g
  exact g
/-- the stack becomes another list -/
theorem StAt.setStk (h : StAt K C H0 H r T ns S pl n b) {stk : List Int} {b' : Nat} (hb : b ≤ b') (hl : stk.length ≤ 2 * b') {xs : List V} (e : xs = stk.reverse.map V.int) :
    StAt K C H0 (upd H r.st (.lst xs)) r T ns { S with stk := stk } pl n b' := by
  subst e
  obtain ⟨kvs, h1, h2, h3⟩ := h.so
  exact { same := same_upd h.same h.nst, np := h.np, nst := h.nst, nso := h.nso, nbk := h.nbk, nou := h.nou, ne1 := h.ne1, ne2 := h.ne2, ne3 := h.ne3, ob := by rw [upd_ne h.nps]; exact h.ob,
          st := upd_same, so := ⟨kvs, by rw [upd_ne h.nso_st]; exact h1, Nat.le_trans h2 hb, h3⟩, bk := by rw [upd_ne h.ne1.symm]; exact h.bk, ou := by rw [upd_ne h.ne2.symm]; exact h.ou,
          inp := h.inp, bst := hl, bbk := Nat.le_trans h.bbk hb, bou := Nat.le_trans h.bou hb, tab := h.tab, num := h.num }
theorem StAt.push (h : StAt K C H0 H r T ns S pl n b) {v : Int} {b' : Nat} (hb : b ≤ b') (hl : S.stk.length + 1 ≤ 2 * b') :
    StAt K C H0 (upd H r.st (.lst (S.stk.reverse.map V.int ++ [V.int v]))) r T ns { S with stk := v :: S.stk } pl n b' :=
  h.setStk hb (by rw [List.length_cons]; exact hl) (by rw [List.reverse_cons, List.map_append]; rfl)
theorem StAt.setBack (h : StAt K C H0 H r T ns S pl n b) {bk : List Int} {b' : Nat} (hb : b ≤ b') (hl : bk.length ≤ b') {xs : List V} (e : xs = bk.reverse.map V.int) :
    StAt K C H0 (upd H r.bk (.lst xs)) r T ns { S with back := bk } pl n b' := by
  subst e
  obtain ⟨kvs, h1, h2, h3⟩ := h.so
  exact { same := same_upd h.same h.nbk, np := h.np, nst := h.nst, nso := h.nso, nbk := h.nbk, nou := h.nou, ne1 := h.ne1, ne2 := h.ne2, ne3 := h.ne3, ob := by rw [upd_ne h.npb]; exact h.ob,
          st := by rw [upd_ne h.ne1]; exact h.st, so := ⟨kvs, by rw [upd_ne h.nso_bk]; exact h1, Nat.le_trans h2 hb, h3⟩, bk := upd_same, ou := by rw [upd_ne h.ne3.symm]; exact h.ou,
          inp := h.inp, bst := by have := h.bst; show S.stk.length ≤ 2 * b'; omega, bbk := hl, bou := Nat.le_trans h.bou hb, tab := h.tab, num := h.num }
theorem StAt.call (h : StAt K C H0 H r T ns S pl n b) {v : Int} {b' : Nat} (hb : b + 1 ≤ b') :
    StAt K C H0 (upd H r.bk (.lst (S.back.reverse.map V.int ++ [V.int v]))) r T ns { S with back := v :: S.back } pl n b' :=
  h.setBack (by omega) (by rw [List.length_cons]; have := h.bbk; omega) (by rw [List.reverse_cons, List.map_append]; rfl)
theorem StAt.emit (h : StAt K C H0 H r T ns S pl n b) {v : Int} {b' : Nat} (hb : b + 1 ≤ b') :
    StAt K C H0 (upd H r.ou (.lst (S.out.reverse.map V.int ++ [V.int v]))) r T ns { S with out := v :: S.out } pl n b' := by
  obtain ⟨kvs, h1, h2, h3⟩ := h.so
  exact { same := same_upd h.same h.nou, np := h.np, nst := h.nst, nso := h.nso, nbk := h.nbk, nou := h.nou, ne1 := h.ne1, ne2 := h.ne2, ne3 := h.ne3, ob := by rw [upd_ne h.npo]; exact h.ob,
          st := by rw [upd_ne h.ne2]; exact h.st, so := ⟨kvs, by rw [upd_ne h.nso_ou]; exact h1, by omega, h3⟩, bk := by rw [upd_ne h.ne3]; exact h.bk,
          ou := by show upd H r.ou _ r.ou = some (.lst ((v :: S.out).reverse.map V.int)); rw [upd_same, List.reverse_cons, List.map_append]; rfl,
          inp := h.inp, bst := by have := h.bst; show S.stk.length ≤ 2 * b'; omega, bbk := by have := h.bbk; show S.back.length ≤ b'; omega,
          bou := by have := h.bou; show (v :: S.out).length ≤ b'; rw [List.length_cons]; omega, tab := h.tab, num := h.num }
theorem putK_len (kvs : List (Key × V)) (k : Key) (v : V) : (putK kvs k v).length ≤ kvs.length + 1 := by
  unfold putK
  split
  · rw [List.length_map]; omega
  · rw [List.length_append]; exact Nat.le_refl _
theorem StAt.store (h : StAt K C H0 H r T ns S pl n b) {x v : Int} {kvs : List (Key × V)} (h1 : H r.so = some (.dK kvs)) (h2 : kvs.length ≤ b) (h3 : StoAt kvs S.sto) {b' : Nat} (hb : b + 1 ≤ b') :
    StAt K C H0 (upd H r.so (.dK (putK kvs (Sum.inl x : Key) (.int v)))) r T ns { S with sto := TW.upd S.sto x v } pl n b' :=
  { same := same_upd h.same h.nso, np := h.np, nst := h.nst, nso := h.nso, nbk := h.nbk, nou := h.nou, ne1 := h.ne1, ne2 := h.ne2, ne3 := h.ne3, ob := by rw [upd_ne h.nso_p.symm]; exact h.ob,
    st := by rw [upd_ne h.nso_st.symm]; exact h.st, so := ⟨_, upd_same, by have := putK_len kvs (Sum.inl x : Key) (.int v); omega, stoAt_put h3 x v⟩,
    bk := by rw [upd_ne h.nso_bk.symm]; exact h.bk, ou := by rw [upd_ne h.nso_ou.symm]; exact h.ou,
    inp := h.inp, bst := by have := h.bst; show S.stk.length ≤ 2 * b'; omega, bbk := by have := h.bbk; show S.back.length ≤ b'; omega, bou := by have := h.bou; show S.out.length ≤ b'; omega, tab := h.tab, num := h.num }
theorem rev_last (l : List Int) (x : Int) : ((x :: l).reverse.map V.int)[((x :: l).reverse.map V.int).length - 1]? = some (V.int x) := by
  rw [List.reverse_cons, List.map_append, List.length_append]
  simp
theorem rev_drop (l : List Int) (x : Int) : ((x :: l).reverse.map V.int).dropLast = l.reverse.map V.int := by
  rw [List.reverse_cons, List.map_append]
  exact List.dropLast_concat
end
/-! ### pull -/
def spPull (K : PySem.W.Frag) (C : Addr) : Sp := fun vs H Q _ => ∃ (H0 : Hp) (r : Rf) (T : TW.Tab) (ns : List Int) (S : TW.S) (pl n b : Nat), vs = [.ref r.p] ∧ StAt K C H0 H r T ns S pl n b ∧
  ∀ H', StAt K C H0 H' r T ns { S with stk := S.stk.tail } pl n b → Q (.int (TW.hd S.stk)) H'
section
variable {P : Program} {w : World} {K : PySem.W.Frag} {mg : Str → Option Value} {base : Heap}
abbrev CS (K : PySem.W.Frag) : Addr := He.ga K "State"
theorem sc_pull : FnScope ["self"] ["self"] (defScope s_pull) := ⟨rfl, rfl, rfl, by decide +kernel, rfl, by decide +kernel, by decide +kernel⟩
theorem ok_pull (W : Wd K mg w) : ∃ fd, FnOk P w K mg base CX0 1 (He.ma K (CS K) "pull") fd ["self"] (spPull K (CS K)) ∧ Binds K fd ["self"] [] := by
  obtain ⟨fd, F⟩ := W.d_pull
  refine ⟨fd, F.ok sc_pull (fun vs H Q E h => ?_) (fun cdv A outer s H vs Q E hr h => ?_), F.bindsN fun _ _ _ _ _ _ us hl => match us, hl with | [_], _ => rfl⟩
  · obtain ⟨H0, r, T, ns, S, pl, n, b, rfl, _⟩ := h
    rfl
  · obtain ⟨H0, r, T, ns, S, pl, n, b, rfl, h, k⟩ := h
    refine ⟨_, PSs.nox (pss_cons (ps_if (pt_truth (pe_fld (pv 0) rfl) (by intro _; rfl)) (pss_one (ps_ret (pe_bm0 PySem.F.plainAttrs_list PySem.F.slot_list_pop PySem.F.type_list_pop mt_pop (pe_fld (pv 0) rfl)))) pss_nil)
      (pss_one (ps_ret pe_int))), ?_⟩
    have bz := h.bst
    refine ⟨_, rfl, r.p, CS K, r.dx, _, _, rfl, h.ob, W.c_State, W.n_stack, lk_stack, !(S.stk.reverse.map V.int).isEmpty, .inl ⟨_, SqL.of h.st, rfl⟩, ?_⟩
    cases e : S.stk with
    | nil =>
      refine iteF ?_
      rw [e] at k
      have g : StAt K (CS K) H0 H r T ns { S with stk := [] } pl n b := by rw [← e]; exact h
      exact k H g
    | cons x l =>
      have ht : (!(((x :: l).reverse).map V.int).isEmpty) = true := by simp
      rw [ht]
      refine iteT ?_
      have hst := h.st
      rw [e] at hst k bz
      refine ⟨_, rfl, r.p, CS K, r.dx, _, _, rfl, h.ob, W.c_State, W.n_stack, lk_stack, .inl ⟨rfl, _, SqL.of hst⟩, r.st, _, _, rfl, rfl, hst, rev_last l x, ?_⟩
      exact k _ (h.setStk (stk := l) (Nat.le_refl _) (by rw [List.length_cons] at bz; omega) (rev_drop l x))
end
end Pz
set_option Elab.async false
set_option linter.all false
set_option maxRecDepth 100000
set_option maxHeartbeats 4000000
/-! The deeds. -/
noncomputable section
namespace Pz
open PySem PySem.Spec PyProof.Rows L2
section
variable {K : PySem.W.Frag} {C : Addr} {H0 H : Hp} {r : Rf} {T : TW.Tab} {ns : List Int} {S : TW.S} {pl n b : Nat}
theorem StAt.fresh (h : StAt K C H0 H r T ns S pl n b) {l : Addr} (hl : H l = none) (o : HO) : StAt K C H0 (upd H l o) r T ns S pl n b := by
  obtain ⟨kvs, h1, h2, h3⟩ := h.so
  have e : ∀ {a u}, H a = some u → (upd H l o) a = some u := fun {a u} z => by rw [upd_ne (ne_of_none z hl)]; exact z
  exact { h with same := fun c u z => e (h.same c u z), ob := e h.ob, st := e h.st, so := ⟨kvs, e h1, h2, h3⟩, bk := e h.bk, ou := e h.ou }
end
def spDeed (K : PySem.W.Frag) (op : Int) : Sp := fun vs H Q _ => ∃ (H0 : Hp) (r : Rf) (T : TW.Tab) (ns : List Int) (S S' : TW.S) (pl n b : Nat) (arg : Int), vs = [.ref r.p, .int arg] ∧ StAt K (CS K) H0 H r T ns S pl n b ∧ b < 100000 ∧
  TW.deed T op arg S.at' S = some S' ∧ ∀ H' pl', StAt K (CS K) H0 H' r T ns S' pl' n (b + 1) → Q .non H'
section
variable {P : Program} {w : World} {K : PySem.W.Frag} {mg : Str → Option Value} {base : Heap}
theorem rd_pull {i : Nat} {σ : L2.St} {H0 H : Hp} {r : Rf} {T : TW.Tab} {ns : List Int} {S : TW.S} {pl n b : Nat} {Q : VK} (hσ : σ[i]? = some (some (.ref r.p))) (h : StAt K (CS K) H0 H r T ns S pl n b)
    (k : ∀ H', StAt K (CS K) H0 H' r T ns { S with stk := S.stk.tail } pl n b → Q (.int (TW.hd S.stk)) H') : tMeth (CS K) "pull" (spPull K (CS K)) [] E0 (tVar i) tNil σ H Q :=
  ⟨_, hσ, r.p, r.dx, _, rfl, h.ob, lk_pull, H0, r, T, ns, S, pl, n, b, rfl, h, k⟩
theorem sz {b : Nat} (h : b < 100000) {k : Nat} (e : k ≤ 2 * b + 4) : k < sizeLine := Nat.lt_of_le_of_lt e (Nat.lt_of_lt_of_le (show 2 * b + 4 < 1000000 by omega) (by decide))
theorem rlen (l : List Int) : (l.reverse.map V.int).length = l.length := by rw [List.length_map, List.length_reverse]
abbrev DOk (P : Program) (w : World) (K : PySem.W.Frag) (mg : Str → Option Value) (base : Heap) (x : Str) (op : Int) : Prop := Held P w K mg base 2 (He.ga K x) (spDeed K op)


theorem lt_ite (x y : Int) : (if decide (x < y) = true then (1 : Int) else 0) = TW.lt x y := by
  unfold TW.lt
  by_cases h : x < y
  · rw [if_pos h, if_pos (decide_eq_true h)]
  · rw [if_neg h, if_neg (by simpa using h)]
theorem eq_ite (x y : Int) : (if decide (V.int x = V.int y) = true then (1 : Int) else 0) = TW.eq x y := by
  unfold TW.eq
  by_cases h : x = y
  · rw [if_pos h, if_pos (decide_eq_true (by rw [h]))]
  · rw [if_neg h, if_neg (by simpa using h)]
/-! #### _push -/
theorem sc_push : FnScope ["state", "argument"] ["state", "argument"] (defScope s_d_push) := ⟨rfl, rfl, rfl, by decide +kernel, rfl, by decide +kernel, by decide +kernel⟩
theorem ok_push (W : Wd K mg w) : DOk P w K mg base "_push" 35 := by
  obtain ⟨fd, F⟩ := W.d_d_push
  refine ⟨fd, ["state", "argument"], F.ok sc_push (fun vs H Q E h => ?_) (fun cdv A outer s H vs Q E hr h => ?_), W.p_d_push, F.bindsN fun _ _ _ _ _ _ us hl => match us, hl with | [_, _], _ => rfl⟩
  · obtain ⟨H0, r, T, ns, S, S', pl, n, b, arg, rfl, _⟩ := h
    rfl
  · obtain ⟨H0, r, T, ns, S, S', pl, n, b, arg, rfl, h, hb, hS, k⟩ := h
    obtain rfl := Option.some.inj ((show TW.deed T 35 arg S.at' S = some { S with stk := arg :: S.stk } from rfl).symm.trans hS)
    refine ⟨_, PSs.nox (pss_one (ps_expr (pe_bm PySem.F.plainAttrs_list PySem.F.slot_list_append PySem.F.type_list_append mt_append (pe_fld (pv 0) rfl) (pa_cons (pv 1) pa_nil)))), ?_⟩
    have bz := h.bst
    refine ⟨_, rfl, r.p, CS K, r.dx, _, _, rfl, h.ob, W.c_State, W.n_stack, lk_stack, .inl ⟨rfl, _, SqL.of h.st⟩, _, rfl, r.st, _, _, rfl, rfl, h.st, sz hb (by rw [rlen]; omega), ?_⟩
    exact k _ pl (h.push (by omega) (by omega))
/-! #### _plus -/
theorem sc_plus : FnScope ["state", "argument", "second"] ["state", "argument"] (defScope s_d_plus) := ⟨rfl, rfl, rfl, by decide +kernel, rfl, by decide +kernel, by decide +kernel⟩
theorem ok_plus (W : Wd K mg w) : DOk P w K mg base "_plus" 43 := by
  obtain ⟨fd, F⟩ := W.d_d_plus
  obtain ⟨fdP, GP, bP⟩ := ok_pull (P := P) (base := base) W
  refine ⟨fd, ["state", "argument"], F.ok sc_plus (fun vs H Q E h => ?_) (fun cdv A outer s H vs Q E hr h => ?_), W.p_d_plus, F.bindsN fun _ _ _ _ _ _ us hl => match us, hl with | [_, _], _ => rfl⟩
  · obtain ⟨H0, r, T, ns, S, S', pl, n, b, arg, rfl, _⟩ := h
    rfl
  · obtain ⟨H0, r, T, ns, S, S', pl, n, b, arg, rfl, h, hb, hS, k⟩ := h
    obtain rfl := Option.some.inj ((show TW.deed T 43 arg S.at' S = some { S with stk := (TW.hd S.stk.tail + TW.hd S.stk) :: S.stk.tail.tail } from rfl).symm.trans hS)
    refine ⟨_, PSs.nox (pss_cons (ps_set (i := 2) sc_plus.nd rfl (Or.inl rfl) (pe_meth0 (pv 0) W.c_State W.m_pull GP hr bP .nil pass0)) (pss_one (ps_expr (pe_bm PySem.F.plainAttrs_list PySem.F.slot_list_append PySem.F.type_list_append mt_append (pe_fld (pv 0) rfl) (pa_cons (pe_op op_add (pe_meth0 (pv 0) W.c_State W.m_pull GP hr bP .nil pass0) (pv 2)) pa_nil))))), ?_⟩
    refine rd_pull (i := 0) rfl h fun H1 h1 => ?_
    refine ⟨_, rfl, r.p, CS K, r.dx, _, _, rfl, h1.ob, W.c_State, W.n_stack, lk_stack, .inl ⟨rfl, _, SqL.of h1.st⟩, ?_⟩
    refine rd_pull (i := 0) rfl h1 fun H2 h2 => ?_
    have bz := h2.bst
    refine ⟨_, rfl, _, _, rfl, rfl, r.st, _, _, rfl, rfl, h2.st, sz hb (by rw [rlen]; omega), ?_⟩
    exact k _ pl (h2.push (by omega) (by omega))
/-! #### _minus -/
theorem sc_minus : FnScope ["state", "argument", "second"] ["state", "argument"] (defScope s_d_minus) := ⟨rfl, rfl, rfl, by decide +kernel, rfl, by decide +kernel, by decide +kernel⟩
theorem ok_minus (W : Wd K mg w) : DOk P w K mg base "_minus" 45 := by
  obtain ⟨fd, F⟩ := W.d_d_minus
  obtain ⟨fdP, GP, bP⟩ := ok_pull (P := P) (base := base) W
  refine ⟨fd, ["state", "argument"], F.ok sc_minus (fun vs H Q E h => ?_) (fun cdv A outer s H vs Q E hr h => ?_), W.p_d_minus, F.bindsN fun _ _ _ _ _ _ us hl => match us, hl with | [_, _], _ => rfl⟩
  · obtain ⟨H0, r, T, ns, S, S', pl, n, b, arg, rfl, _⟩ := h
    rfl
  · obtain ⟨H0, r, T, ns, S, S', pl, n, b, arg, rfl, h, hb, hS, k⟩ := h
    obtain rfl := Option.some.inj ((show TW.deed T 45 arg S.at' S = some { S with stk := (TW.hd S.stk.tail - TW.hd S.stk) :: S.stk.tail.tail } from rfl).symm.trans hS)
    refine ⟨_, PSs.nox (pss_cons (ps_set (i := 2) sc_minus.nd rfl (Or.inl rfl) (pe_meth0 (pv 0) W.c_State W.m_pull GP hr bP .nil pass0)) (pss_one (ps_expr (pe_bm PySem.F.plainAttrs_list PySem.F.slot_list_append PySem.F.type_list_append mt_append (pe_fld (pv 0) rfl) (pa_cons (pe_op op_sub (pe_meth0 (pv 0) W.c_State W.m_pull GP hr bP .nil pass0) (pv 2)) pa_nil))))), ?_⟩
    refine rd_pull (i := 0) rfl h fun H1 h1 => ?_
    refine ⟨_, rfl, r.p, CS K, r.dx, _, _, rfl, h1.ob, W.c_State, W.n_stack, lk_stack, .inl ⟨rfl, _, SqL.of h1.st⟩, ?_⟩
    refine rd_pull (i := 0) rfl h1 fun H2 h2 => ?_
    have bz := h2.bst
    refine ⟨_, rfl, _, _, rfl, rfl, r.st, _, _, rfl, rfl, h2.st, sz hb (by rw [rlen]; omega), ?_⟩
    exact k _ pl (h2.push (by omega) (by omega))
/-! #### _digit -/
theorem sc_digit : FnScope ["state", "argument", "second"] ["state", "argument"] (defScope s_d_digit) := ⟨rfl, rfl, rfl, by decide +kernel, rfl, by decide +kernel, by decide +kernel⟩
theorem ok_digit (W : Wd K mg w) : DOk P w K mg base "_digit" 42 := by
  obtain ⟨fd, F⟩ := W.d_d_digit
  obtain ⟨fdP, GP, bP⟩ := ok_pull (P := P) (base := base) W
  refine ⟨fd, ["state", "argument"], F.ok sc_digit (fun vs H Q E h => ?_) (fun cdv A outer s H vs Q E hr h => ?_), W.p_d_digit, F.bindsN fun _ _ _ _ _ _ us hl => match us, hl with | [_, _], _ => rfl⟩
  · obtain ⟨H0, r, T, ns, S, S', pl, n, b, arg, rfl, _⟩ := h
    rfl
  · obtain ⟨H0, r, T, ns, S, S', pl, n, b, arg, rfl, h, hb, hS, k⟩ := h
    obtain rfl := Option.some.inj ((show TW.deed T 42 arg S.at' S = some { S with stk := (10 * TW.hd S.stk.tail + TW.hd S.stk) :: S.stk.tail.tail } from rfl).symm.trans hS)
    refine ⟨_, PSs.nox (pss_cons (ps_set (i := 2) sc_digit.nd rfl (Or.inl rfl) (pe_meth0 (pv 0) W.c_State W.m_pull GP hr bP .nil pass0)) (pss_one (ps_expr (pe_bm PySem.F.plainAttrs_list PySem.F.slot_list_append PySem.F.type_list_append mt_append (pe_fld (pv 0) rfl) (pa_cons (pe_op op_add (pe_op op_mul pe_int (pe_meth0 (pv 0) W.c_State W.m_pull GP hr bP .nil pass0)) (pv 2)) pa_nil))))), ?_⟩
    refine rd_pull (i := 0) rfl h fun H1 h1 => ?_
    refine ⟨_, rfl, r.p, CS K, r.dx, _, _, rfl, h1.ob, W.c_State, W.n_stack, lk_stack, .inl ⟨rfl, _, SqL.of h1.st⟩, ?_⟩
    refine rd_pull (i := 0) rfl h1 fun H2 h2 => ?_
    have bz := h2.bst
    refine ⟨_, _, rfl, rfl, .inl ⟨by decide, by decide⟩, _, rfl, _, _, rfl, rfl, r.st, _, _, rfl, rfl, h2.st, sz hb (by rw [rlen]; omega), ?_⟩
    exact k _ pl (h2.push (by omega) (by omega))
/-! #### _less -/
theorem sc_less : FnScope ["state", "argument", "second"] ["state", "argument"] (defScope s_d_less) := ⟨rfl, rfl, rfl, by decide +kernel, rfl, by decide +kernel, by decide +kernel⟩
theorem ok_less (W : Wd K mg w) : DOk P w K mg base "_less" 60 := by
  obtain ⟨fd, F⟩ := W.d_d_less
  obtain ⟨fdP, GP, bP⟩ := ok_pull (P := P) (base := base) W
  refine ⟨fd, ["state", "argument"], F.ok sc_less (fun vs H Q E h => ?_) (fun cdv A outer s H vs Q E hr h => ?_), W.p_d_less, F.bindsN fun _ _ _ _ _ _ us hl => match us, hl with | [_, _], _ => rfl⟩
  · obtain ⟨H0, r, T, ns, S, S', pl, n, b, arg, rfl, _⟩ := h
    rfl
  · obtain ⟨H0, r, T, ns, S, S', pl, n, b, arg, rfl, h, hb, hS, k⟩ := h
    obtain rfl := Option.some.inj ((show TW.deed T 60 arg S.at' S = some { S with stk := TW.lt (TW.hd S.stk.tail) (TW.hd S.stk) :: S.stk.tail.tail } from rfl).symm.trans hS)
    refine ⟨_, PSs.nox (pss_cons (ps_set (i := 2) sc_less.nd rfl (Or.inl rfl) (pe_meth0 (pv 0) W.c_State W.m_pull GP hr bP .nil pass0)) (pss_one (ps_expr (pe_bm PySem.F.plainAttrs_list PySem.F.slot_list_append PySem.F.type_list_append mt_append (pe_fld (pv 0) rfl) (pa_cons (pe_callTy call_int1 (by rfl) W.no_int (by decide +kernel) (pa_cons (pe_cmpR op_lt (pe_meth0 (pv 0) W.c_State W.m_pull GP hr bP .nil pass0) (pv 2) (nomark _)) pa_nil)) pa_nil))))), ?_⟩
    refine rd_pull (i := 0) rfl h fun H1 h1 => ?_
    refine ⟨_, rfl, r.p, CS K, r.dx, _, _, rfl, h1.ob, W.c_State, W.n_stack, lk_stack, .inl ⟨rfl, _, SqL.of h1.st⟩, ?_⟩
    refine rd_pull (i := 0) rfl h1 fun H2 h2 => ?_
    have bz := h2.bst
    refine ⟨_, rfl, _, _, rfl, rfl, .inr ⟨_, rfl, r.st, _, _, rfl, rfl, h2.st, sz hb (by rw [rlen]; omega), ?_⟩⟩
    rw [lt_ite]
    exact k _ pl (h2.push (by omega) (by omega))
/-! #### _same -/
theorem sc_same : FnScope ["state", "argument", "second"] ["state", "argument"] (defScope s_d_same) := ⟨rfl, rfl, rfl, by decide +kernel, rfl, by decide +kernel, by decide +kernel⟩
theorem ok_same (W : Wd K mg w) : DOk P w K mg base "_same" 126 := by
  obtain ⟨fd, F⟩ := W.d_d_same
  obtain ⟨fdP, GP, bP⟩ := ok_pull (P := P) (base := base) W
  refine ⟨fd, ["state", "argument"], F.ok sc_same (fun vs H Q E h => ?_) (fun cdv A outer s H vs Q E hr h => ?_), W.p_d_same, F.bindsN fun _ _ _ _ _ _ us hl => match us, hl with | [_, _], _ => rfl⟩
  · obtain ⟨H0, r, T, ns, S, S', pl, n, b, arg, rfl, _⟩ := h
    rfl
  · obtain ⟨H0, r, T, ns, S, S', pl, n, b, arg, rfl, h, hb, hS, k⟩ := h
    obtain rfl := Option.some.inj ((show TW.deed T 126 arg S.at' S = some { S with stk := TW.eq (TW.hd S.stk.tail) (TW.hd S.stk) :: S.stk.tail.tail } from rfl).symm.trans hS)
    refine ⟨_, PSs.nox (pss_cons (ps_set (i := 2) sc_same.nd rfl (Or.inl rfl) (pe_meth0 (pv 0) W.c_State W.m_pull GP hr bP .nil pass0)) (pss_one (ps_expr (pe_bm PySem.F.plainAttrs_list PySem.F.slot_list_append PySem.F.type_list_append mt_append (pe_fld (pv 0) rfl) (pa_cons (pe_callTy call_int1 (by rfl) W.no_int (by decide +kernel) (pa_cons (pe_cmpR op_eq (pe_meth0 (pv 0) W.c_State W.m_pull GP hr bP .nil pass0) (pv 2) (nomark _)) pa_nil)) pa_nil))))), ?_⟩
    refine rd_pull (i := 0) rfl h fun H1 h1 => ?_
    refine ⟨_, rfl, r.p, CS K, r.dx, _, _, rfl, h1.ob, W.c_State, W.n_stack, lk_stack, .inl ⟨rfl, _, SqL.of h1.st⟩, ?_⟩
    refine rd_pull (i := 0) rfl h1 fun H2 h2 => ?_
    have bz := h2.bst
    refine ⟨_, rfl, rfl, .inr ⟨_, rfl, r.st, _, _, rfl, rfl, h2.st, sz hb (by rw [rlen]; omega), ?_⟩⟩
    rw [eq_ite]
    exact k _ pl (h2.push (by omega) (by omega))
/-! #### _assign -/
theorem sc_assign : FnScope ["state", "argument"] ["state", "argument"] (defScope s_d_assign) := ⟨rfl, rfl, rfl, by decide +kernel, rfl, by decide +kernel, by decide +kernel⟩
theorem ok_assign (W : Wd K mg w) : DOk P w K mg base "_assign" 61 := by
  obtain ⟨fd, F⟩ := W.d_d_assign
  obtain ⟨fdP, GP, bP⟩ := ok_pull (P := P) (base := base) W
  refine ⟨fd, ["state", "argument"], F.ok sc_assign (fun vs H Q E h => ?_) (fun cdv A outer s H vs Q E hr h => ?_), W.p_d_assign, F.bindsN fun _ _ _ _ _ _ us hl => match us, hl with | [_, _], _ => rfl⟩
  · obtain ⟨H0, r, T, ns, S, S', pl, n, b, arg, rfl, _⟩ := h
    rfl
  · obtain ⟨H0, r, T, ns, S, S', pl, n, b, arg, rfl, h, hb, hS, k⟩ := h
    obtain rfl := Option.some.inj ((show TW.deed T 61 arg S.at' S = some { S with stk := S.stk.tail, sto := TW.upd S.sto arg (TW.hd S.stk) } from rfl).symm.trans hS)
    refine ⟨_, PSs.nox (pss_one (ps_dput (hu_of hr) (pe_fld (pv 0) rfl) (pv 1) (pe_meth0 (pv 0) W.c_State W.m_pull GP hr bP .nil pass0) rfl)), ?_⟩
    refine rd_pull (i := 0) rfl h fun H1 h1 => ?_
    obtain ⟨kvs, q1, q2, q3⟩ := h1.so
    refine ⟨_, rfl, r.p, CS K, r.dx, _, _, rfl, h1.ob, W.c_State, W.n_store, lk_store, _, rfl, r.so, _, rfl, DPut.k (k := Sum.inl arg) q1 (sz hb (by omega)), ?_⟩
    exact k _ pl (h1.store q1 q2 q3 (by omega))
/-! #### _emit -/
theorem sc_emit : FnScope ["state", "argument"] ["state", "argument"] (defScope s_d_emit) := ⟨rfl, rfl, rfl, by decide +kernel, rfl, by decide +kernel, by decide +kernel⟩
theorem ok_emit (W : Wd K mg w) : DOk P w K mg base "_emit" 46 := by
  obtain ⟨fd, F⟩ := W.d_d_emit
  obtain ⟨fdP, GP, bP⟩ := ok_pull (P := P) (base := base) W
  refine ⟨fd, ["state", "argument"], F.ok sc_emit (fun vs H Q E h => ?_) (fun cdv A outer s H vs Q E hr h => ?_), W.p_d_emit, F.bindsN fun _ _ _ _ _ _ us hl => match us, hl with | [_, _], _ => rfl⟩
  · obtain ⟨H0, r, T, ns, S, S', pl, n, b, arg, rfl, _⟩ := h
    rfl
  · obtain ⟨H0, r, T, ns, S, S', pl, n, b, arg, rfl, h, hb, hS, k⟩ := h
    obtain rfl := Option.some.inj ((show TW.deed T 46 arg S.at' S = some { S with stk := S.stk.tail, out := TW.hd S.stk :: S.out } from rfl).symm.trans hS)
    refine ⟨_, PSs.nox (pss_one (ps_expr (pe_bm PySem.F.plainAttrs_list PySem.F.slot_list_append PySem.F.type_list_append mt_append (pe_fld (pv 0) rfl) (pa_cons (pe_meth0 (pv 0) W.c_State W.m_pull GP hr bP .nil pass0) pa_nil)))), ?_⟩
    refine ⟨_, rfl, r.p, CS K, r.dx, _, _, rfl, h.ob, W.c_State, W.n_output, lk_output, .inl ⟨rfl, _, SqL.of h.ou⟩, ?_⟩
    refine rd_pull (i := 0) rfl h fun H1 h1 => ?_
    have bz := h1.bou
    refine ⟨r.ou, _, _, rfl, rfl, h1.ou, sz hb (by rw [rlen]; omega), ?_⟩
    exact k _ pl (h1.emit (by omega))
/-! #### _drop -/
theorem sc_drop : FnScope ["state", "argument"] ["state", "argument"] (defScope s_d_drop) := ⟨rfl, rfl, rfl, by decide +kernel, rfl, by decide +kernel, by decide +kernel⟩
theorem ok_drop (W : Wd K mg w) : DOk P w K mg base "_drop" 95 := by
  obtain ⟨fd, F⟩ := W.d_d_drop
  obtain ⟨fdP, GP, bP⟩ := ok_pull (P := P) (base := base) W
  refine ⟨fd, ["state", "argument"], F.ok sc_drop (fun vs H Q E h => ?_) (fun cdv A outer s H vs Q E hr h => ?_), W.p_d_drop, F.bindsN fun _ _ _ _ _ _ us hl => match us, hl with | [_, _], _ => rfl⟩
  · obtain ⟨H0, r, T, ns, S, S', pl, n, b, arg, rfl, _⟩ := h
    rfl
  · obtain ⟨H0, r, T, ns, S, S', pl, n, b, arg, rfl, h, hb, hS, k⟩ := h
    obtain rfl := Option.some.inj ((show TW.deed T 95 arg S.at' S = some { S with stk := S.stk.tail } from rfl).symm.trans hS)
    refine ⟨_, PSs.nox (pss_one (ps_expr (pe_meth0 (pv 0) W.c_State W.m_pull GP hr bP .nil pass0))), ?_⟩
    refine rd_pull (i := 0) rfl h fun H1 h1 => ?_
    exact k _ pl (h1.mono (by omega))
/-! #### _double -/
theorem sc_double : FnScope ["state", "argument", "top"] ["state", "argument"] (defScope s_d_double) := ⟨rfl, rfl, rfl, by decide +kernel, rfl, by decide +kernel, by decide +kernel⟩
theorem ok_double (W : Wd K mg w) : DOk P w K mg base "_double" 34 := by
  obtain ⟨fd, F⟩ := W.d_d_double
  obtain ⟨fdP, GP, bP⟩ := ok_pull (P := P) (base := base) W
  refine ⟨fd, ["state", "argument"], F.ok sc_double (fun vs H Q E h => ?_) (fun cdv A outer s H vs Q E hr h => ?_), W.p_d_double, F.bindsN fun _ _ _ _ _ _ us hl => match us, hl with | [_, _], _ => rfl⟩
  · obtain ⟨H0, r, T, ns, S, S', pl, n, b, arg, rfl, _⟩ := h
    rfl
  · obtain ⟨H0, r, T, ns, S, S', pl, n, b, arg, rfl, h, hb, hS, k⟩ := h
    obtain rfl := Option.some.inj ((show TW.deed T 34 arg S.at' S = some { S with stk := TW.hd S.stk :: TW.hd S.stk :: S.stk.tail } from rfl).symm.trans hS)
    refine ⟨_, PSs.nox (pss_cons (ps_set (i := 2) sc_double.nd rfl (Or.inl rfl) (pe_meth0 (pv 0) W.c_State W.m_pull GP hr bP .nil pass0)) (pss_one (ps_expr (pe_bm PySem.F.plainAttrs_list PySem.F.slot_list_extend PySem.F.type_list_extend mt_extend (pe_fld (pv 0) rfl) (pa_cons (pe_lst (pa_cons (pv 2) (pa_cons (pv 2) pa_nil))) pa_nil))))), ?_⟩
    refine rd_pull (i := 0) rfl h fun H1 h1 => ?_
    have bz := h.bst
    refine ⟨_, rfl, r.p, CS K, r.dx, _, _, rfl, h1.ob, W.c_State, W.n_stack, lk_stack, .inl ⟨rfl, _, SqL.of h1.st⟩, _, rfl, _, rfl, (show 2 ≤ sizeLine by decide), fun l hl => ?_⟩
    have h2 := h1.fresh hl (.lst [.int (TW.hd S.stk), .int (TW.hd S.stk)])
    refine ⟨r.st, l, _, _, rfl, rfl, h2.st, upd_same, Nat.le_of_lt (sz hb (by rw [rlen]; simp; omega)), ?_⟩
    exact k _ pl (h2.setStk (by omega) (by simp; omega) (by simp))
/-! #### _exchange -/
theorem sc_exchange : FnScope ["state", "argument", "second", "first"] ["state", "argument"] (defScope s_d_exchange) := ⟨rfl, rfl, rfl, by decide +kernel, rfl, by decide +kernel, by decide +kernel⟩
theorem ok_exchange (W : Wd K mg w) : DOk P w K mg base "_exchange" 92 := by
  obtain ⟨fd, F⟩ := W.d_d_exchange
  obtain ⟨fdP, GP, bP⟩ := ok_pull (P := P) (base := base) W
  refine ⟨fd, ["state", "argument"], F.ok sc_exchange (fun vs H Q E h => ?_) (fun cdv A outer s H vs Q E hr h => ?_), W.p_d_exchange, F.bindsN fun _ _ _ _ _ _ us hl => match us, hl with | [_, _], _ => rfl⟩
  · obtain ⟨H0, r, T, ns, S, S', pl, n, b, arg, rfl, _⟩ := h
    rfl
  · obtain ⟨H0, r, T, ns, S, S', pl, n, b, arg, rfl, h, hb, hS, k⟩ := h
    obtain rfl := Option.some.inj ((show TW.deed T 92 arg S.at' S = some { S with stk := TW.hd S.stk.tail :: TW.hd S.stk :: S.stk.tail.tail } from rfl).symm.trans hS)
    refine ⟨_, PSs.nox (pss_cons (ps_set (i := 2) sc_exchange.nd rfl (Or.inl rfl) (pe_meth0 (pv 0) W.c_State W.m_pull GP hr bP .nil pass0)) (pss_cons (ps_set (i := 3) sc_exchange.nd rfl (Or.inl rfl) (pe_meth0 (pv 0) W.c_State W.m_pull GP hr bP .nil pass0)) (pss_one (ps_expr (pe_bm PySem.F.plainAttrs_list PySem.F.slot_list_extend PySem.F.type_list_extend mt_extend (pe_fld (pv 0) rfl) (pa_cons (pe_lst (pa_cons (pv 2) (pa_cons (pv 3) pa_nil))) pa_nil)))))), ?_⟩
    refine rd_pull (i := 0) rfl h fun H1 h1 => ?_
    refine rd_pull (i := 0) rfl h1 fun H2 h2 => ?_
    have bz := h.bst
    refine ⟨_, rfl, r.p, CS K, r.dx, _, _, rfl, h2.ob, W.c_State, W.n_stack, lk_stack, .inl ⟨rfl, _, SqL.of h2.st⟩, _, rfl, _, rfl, (show 2 ≤ sizeLine by decide), fun l hl => ?_⟩
    have h3 := h2.fresh hl (.lst [.int (TW.hd S.stk), .int (TW.hd S.stk.tail)])
    refine ⟨r.st, l, _, _, rfl, rfl, h3.st, upd_same, Nat.le_of_lt (sz hb (by rw [rlen]; simp; omega)), ?_⟩
    exact k _ pl (h3.setStk (by omega) (by simp; omega) (by simp))
/-! #### _test -/
theorem sc_test : FnScope ["state", "argument"] ["state", "argument"] (defScope s_d_test) := ⟨rfl, rfl, rfl, by decide +kernel, rfl, by decide +kernel, by decide +kernel⟩
theorem ok_test (W : Wd K mg w) : DOk P w K mg base "_test" 63 := by
  obtain ⟨fd, F⟩ := W.d_d_test
  obtain ⟨fdP, GP, bP⟩ := ok_pull (P := P) (base := base) W
  refine ⟨fd, ["state", "argument"], F.ok sc_test (fun vs H Q E h => ?_) (fun cdv A outer s H vs Q E hr h => ?_), W.p_d_test, F.bindsN fun _ _ _ _ _ _ us hl => match us, hl with | [_, _], _ => rfl⟩
  · obtain ⟨H0, r, T, ns, S, S', pl, n, b, arg, rfl, _⟩ := h
    rfl
  · obtain ⟨H0, r, T, ns, S, S', pl, n, b, arg, rfl, h, hb, hS, k⟩ := h
    obtain rfl := Option.some.inj ((show TW.deed T 63 arg S.at' S = some { S with at' := if TW.hd S.stk = 0 then arg else S.at', stk := S.stk.tail } from rfl).symm.trans hS)
    refine ⟨_, PSs.nox (pss_one (ps_if (pt_cmpR op_eq (pe_meth0 (pv 0) W.c_State W.m_pull GP hr bP .nil pass0) pe_int (nomark _)) (pss_one (ps_fld (pv 0) (pv 1) rfl)) pss_nil)), ?_⟩
    refine rd_pull (i := 0) rfl h fun H1 h1 => ?_
    refine ⟨rfl, _, rfl, ?_⟩
    by_cases z : TW.hd S.stk = 0
    · rw [z] at k ⊢
      refine iteT ?_
      refine ⟨_, rfl, _, rfl, r.p, CS K, r.dx, _, rfl, h1.ob, W.c_State, W.n_at, fl_len, ?_⟩
      exact k _ pl ((h1.setAt arg).mono (by omega))
    · rw [if_neg z] at k
      rw [if_neg (by simp; exact z)]
      exact k _ pl (h1.mono (by omega))
/-! #### _call -/
theorem sc_call : FnScope ["state", "argument", "number"] ["state", "argument"] (defScope s_d_call) := ⟨rfl, rfl, rfl, by decide +kernel, rfl, by decide +kernel, by decide +kernel⟩
theorem ok_call (W : Wd K mg w) : DOk P w K mg base "_call" 40 := by
  obtain ⟨fd, F⟩ := W.d_d_call
  obtain ⟨fdP, GP, bP⟩ := ok_pull (P := P) (base := base) W
  refine ⟨fd, ["state", "argument"], F.ok sc_call (fun vs H Q E h => ?_) (fun cdv A outer s H vs Q E hr h => ?_), W.p_d_call, F.bindsN fun _ _ _ _ _ _ us hl => match us, hl with | [_, _], _ => rfl⟩
  · obtain ⟨H0, r, T, ns, S, S', pl, n, b, arg, rfl, _⟩ := h
    rfl
  · obtain ⟨H0, r, T, ns, S, S', pl, n, b, arg, rfl, h, hb, hS, k⟩ := h
    obtain rfl := Option.some.inj ((show TW.deed T 40 arg S.at' S = some { S with at' := TW.hd S.stk, stk := S.stk.tail, back := S.at' :: S.back } from rfl).symm.trans hS)
    refine ⟨_, PSs.nox (pss_cons (ps_set (i := 2) sc_call.nd rfl (Or.inl rfl) (pe_meth0 (pv 0) W.c_State W.m_pull GP hr bP .nil pass0)) (pss_cons (ps_expr (pe_bm PySem.F.plainAttrs_list PySem.F.slot_list_append PySem.F.type_list_append mt_append (pe_fld (pv 0) rfl) (pa_cons (pe_fld (pv 0) rfl) pa_nil))) (pss_one (ps_fld (pv 0) (pv 2) rfl)))), ?_⟩
    refine rd_pull (i := 0) rfl h fun H1 h1 => ?_
    have bz := h1.bbk
    refine ⟨_, rfl, r.p, CS K, r.dx, _, _, rfl, h1.ob, W.c_State, W.n_back, lk_back, .inl ⟨rfl, _, SqL.of h1.bk⟩, _, rfl, r.p, CS K, r.dx, _, _, rfl, h1.ob, W.c_State, W.n_at, lk_at, r.bk, _, _, rfl, rfl, h1.bk, sz hb (by rw [rlen]; omega), ?_⟩
    have h2 := h1.call (v := S.at') (Nat.le_refl (b + 1))
    refine ⟨_, rfl, _, rfl, r.p, CS K, r.dx, _, rfl, h2.ob, W.c_State, W.n_at, fl_len, ?_⟩
    exact k _ pl (h2.setAt (TW.hd S.stk))
/-! #### _return -/
theorem sc_return : FnScope ["state", "argument"] ["state", "argument"] (defScope s_d_return) := ⟨rfl, rfl, rfl, by decide +kernel, rfl, by decide +kernel, by decide +kernel⟩
theorem ok_return (W : Wd K mg w) : DOk P w K mg base "_return" 41 := by
  obtain ⟨fd, F⟩ := W.d_d_return
  refine ⟨fd, ["state", "argument"], F.ok sc_return (fun vs H Q E h => ?_) (fun cdv A outer s H vs Q E hr h => ?_), W.p_d_return, F.bindsN fun _ _ _ _ _ _ us hl => match us, hl with | [_, _], _ => rfl⟩
  · obtain ⟨H0, r, T, ns, S, S', pl, n, b, arg, rfl, _⟩ := h
    rfl
  · obtain ⟨H0, r, T, ns, S, S', pl, n, b, arg, rfl, h, hb, hS, k⟩ := h
    refine ⟨_, PSs.nox (pss_one (ps_if (pt_truth (pe_fld (pv 0) rfl) (by intro _; rfl)) (pss_one (ps_fld (pv 0) (pe_bm0 PySem.F.plainAttrs_list PySem.F.slot_list_pop PySem.F.type_list_pop mt_pop (pe_fld (pv 0) rfl)) rfl)) pss_nil)), ?_⟩
    refine ⟨_, rfl, r.p, CS K, r.dx, _, _, rfl, h.ob, W.c_State, W.n_back, lk_back, !(S.back.reverse.map V.int).isEmpty, .inl ⟨_, SqL.of h.bk, rfl⟩, ?_⟩
    have hS2 : (match S.back with | [] => some { S with at' := S.at' } | q :: rr => some { S with at' := q, back := rr }) = some S' := hS
    cases e : S.back with
    | nil =>
      rw [e] at hS2
      obtain rfl := Option.some.inj hS2
      refine iteF ?_
      exact k _ pl (h.mono (by omega))
    | cons x l =>
      rw [e] at hS2
      obtain rfl := Option.some.inj hS2
      have ht : (!(((x :: l).reverse).map V.int).isEmpty) = true := by simp
      rw [ht]
      refine iteT ?_
      have hbk := h.bk
      have bz := h.bbk
      rw [e] at hbk bz
      rw [List.length_cons] at bz
      refine ⟨_, rfl, r.p, CS K, r.dx, _, _, rfl, h.ob, W.c_State, W.n_back, lk_back, .inl ⟨rfl, _, SqL.of hbk⟩, r.bk, _, _, rfl, rfl, hbk, rev_last l x, ?_⟩
      have h2 := h.setBack (bk := l) (Nat.le_refl b) (by omega) (rev_drop l x)
      refine ⟨_, rfl, r.p, CS K, r.dx, _, rfl, h2.ob, W.c_State, W.n_at, fl_len, ?_⟩
      exact k _ pl ((h2.setAt x).mono (by omega))
end
end Pz
end
set_option Elab.async false
set_option linter.all false
set_option maxRecDepth 100000
set_option maxHeartbeats 4000000
/-! _take, _call_low, the table of deeds, a step. -/
noncomputable section
namespace Pz
open PySem PySem.Spec PyProof.Rows L2
section
variable {P : Program} {w : World} {K : PySem.W.Frag} {mg : Str → Option Value} {base : Heap}
/-! #### _take -/
theorem sc_take : FnScope ["state", "argument"] ["state", "argument"] (defScope s_d_take) := ⟨rfl, rfl, rfl, by decide +kernel, rfl, by decide +kernel, by decide +kernel⟩
theorem ok_take (W : Wd K mg w) : DOk P w K mg base "_take" 44 := by
  obtain ⟨fd, F⟩ := W.d_d_take
  refine ⟨fd, ["state", "argument"], F.ok sc_take (fun vs H Q E h => ?_) (fun cdv A outer s H vs Q E hr h => ?_), W.p_d_take, F.bindsN fun _ _ _ _ _ _ us hl => match us, hl with | [_, _], _ => rfl⟩
  · obtain ⟨H0, r, T, ns, S, S', pl, n, b, arg, rfl, _⟩ := h
    rfl
  · obtain ⟨H0, r, T, ns, S, S', pl, n, b, arg, rfl, h, hb, hS, k⟩ := h
    have hS2 : (match S.inp with | [] => some { S with stk := -1 :: S.stk } | c :: q => some { S with stk := c :: S.stk, inp := q }) = some S' := hS
    have bz := h.bst
    have hn : SqL K H r.nu (ns.map V.int) := h.same.seq h.num
    refine ⟨_, PSs.nox (pss_one (ps_if (pt_cmpR op_lt (pe_fld (pv 0) rfl) (pe_callB call_len_seq (by rfl) W.no_len PySem.boot_len (pa_cons (pe_fld (pv 0) rfl) pa_nil)) (nomark _))
      (pss_cons (ps_expr (pe_bm PySem.F.plainAttrs_list PySem.F.slot_list_append PySem.F.type_list_append mt_append (pe_fld (pv 0) rfl) (pa_cons (pe_ix ix_list (pe_fld (pv 0) rfl) (pe_fld (pv 0) rfl) (fun _ _ => rfl)) pa_nil))) (pss_one (ps_fldaug (pv 0) pe_int in_add)))
      (pss_one (ps_expr (pe_bm PySem.F.plainAttrs_list PySem.F.slot_list_append PySem.F.type_list_append mt_append (pe_fld (pv 0) rfl) (pa_cons (pe_un un_neg pe_int) pa_nil)))))), ?_⟩
    refine ⟨_, rfl, r.p, CS K, r.dx, _, _, rfl, h.ob, W.c_State, W.n_place, lk_place, _, rfl, r.p, CS K, r.dx, _, _, rfl, h.ob, W.c_State, W.n_numbers, lk_numbers, r.nu, _, rfl, .inl hn, _, _, rfl, rfl, _, rfl, ?_⟩
    rw [List.length_map]
    cases e : S.inp with
    | nil =>
      rw [e] at hS2
      obtain rfl := Option.some.inj hS2
      have hp : ¬ ((pl : Int) < (ns.length : Int)) := by
        have q := h.inp
        rw [e] at q
        have := List.drop_eq_nil_iff.mp q.symm
        omega
      rw [decide_eq_false hp]
      refine iteF ?_
      refine ⟨_, rfl, r.p, CS K, r.dx, _, _, rfl, h.ob, W.c_State, W.n_stack, lk_stack, .inl ⟨rfl, _, SqL.of h.st⟩, _, rfl, r.st, _, _, rfl, rfl, h.st, sz hb (by rw [rlen]; omega), ?_⟩
      have h2 := h.push (v := -1) (b' := b + 1) (by omega) (by omega)
      rw [e] at h2
      exact k _ pl h2
    | cons c q =>
      rw [e] at hS2
      obtain rfl := Option.some.inj hS2
      have hd : ns.drop pl = c :: q := by rw [← h.inp, e]
      have hlt : pl < ns.length := by
        have := congrArg List.length hd
        rw [List.length_drop, List.length_cons] at this
        omega
      have hc : ns[pl]? = some c := by
        have := congrArg (fun l => l[0]?) hd
        simpa using this
      rw [decide_eq_true (show (pl : Int) < (ns.length : Int) by omega)]
      refine iteT ?_
      refine ⟨_, rfl, r.p, CS K, r.dx, _, _, rfl, h.ob, W.c_State, W.n_stack, lk_stack, .inl ⟨rfl, _, SqL.of h.st⟩, ?_⟩
      refine ⟨_, rfl, r.p, CS K, r.dx, _, _, rfl, h.ob, W.c_State, W.n_numbers, lk_numbers, _, rfl, r.p, CS K, r.dx, _, _, rfl, h.ob, W.c_State, W.n_place, lk_place, r.nu, _, _, V.int c, rfl, rfl, hn, atI_nat (j := pl) (by rw [List.getElem?_map, hc]; rfl), ?_⟩
      refine ⟨r.st, _, _, rfl, rfl, h.st, sz hb (by rw [rlen]; omega), ?_⟩
      have h2 := h.push (v := c) (b' := b + 1) (by omega) (by omega)
      refine ⟨_, rfl, r.p, CS K, r.dx, _, _, rfl, h2.ob, W.c_State, W.n_place, lk_place, _, _, rfl, rfl, r.dx, _, h2.ob, fl_len, ?_⟩
      have h3 := h2.setPlace (m := (pl : Int) + 1) (by omega)
      have e3 : ({ S with stk := c :: S.stk, inp := S.inp.tail } : TW.S) = { S with stk := c :: S.stk, inp := q } := by rw [e]; rfl
      refine k _ (pl + 1) ?_
      rw [← e3]
      exact h3
/-! #### _call_low -/
theorem sc_call_low : FnScope ["state", "argument", "number"] ["state", "argument"] (defScope s_d_call_low) := ⟨rfl, rfl, rfl, by decide +kernel, rfl, by decide +kernel, by decide +kernel⟩
theorem tabAt_get {H : Hp} {tb : Addr} {T : TW.Tab} {H' : Hp} (h : TabAt H tb T) (s : Same H H') (a : Int) : ∃ o : Option V, DGet H' tb (.int a) o ∧ o.isSome = (T a).isSome ∧
    ∀ x g y, T a = some (x, g, y) → ∃ t, o = some (.ref t) ∧ H' t = some (.tup [.int x, .int g, .int y]) := by
  obtain ⟨kvs, h1, h2⟩ := h
  refine ⟨_, DGet.k (k := Sum.inl a) (s _ _ h1), ?_, ?_⟩
  · obtain ⟨q1, q2⟩ := h2 a
    cases e : T a with
    | none =>
      rw [q1 e]
      rfl
    | some u =>
      obtain ⟨x, g, y⟩ := u
      obtain ⟨t, e1, _⟩ := q2 x g y e
      rw [e1]
      rfl
  · intro x g y e
    obtain ⟨t, e1, e2⟩ := (h2 a).2 x g y e
    exact ⟨t, e1, s _ _ e2⟩
theorem ok_call_low (W : Wd K mg w) : DOk P w K mg base "_call_low" 36 := by
  obtain ⟨fd, F⟩ := W.d_d_call_low
  obtain ⟨fdP, GP, bP⟩ := ok_pull (P := P) (base := base) W
  obtain ⟨tl, gl⟩ := W.i_LAST_LOW
  refine ⟨fd, ["state", "argument"], F.ok sc_call_low (fun vs H Q E h => ?_) (fun cdv A outer s H vs Q E hr h => ?_), W.p_d_call_low, F.bindsN fun _ _ _ _ _ _ us hl => match us, hl with | [_, _], _ => rfl⟩
  · obtain ⟨H0, r, T, ns, S, S', pl, n, b, arg, rfl, _⟩ := h
    rfl
  · obtain ⟨H0, r, T, ns, S, S', pl, n, b, arg, rfl, h, hb, hS, k⟩ := h
    have hS2 : (if 1 ≤ TW.hd S.stk ∧ TW.hd S.stk ≤ 199 ∧ (T (TW.hd S.stk)).isSome = true then some { S with at' := TW.hd S.stk, stk := S.stk.tail, back := S.at' :: S.back }
      else some { S with stk := TW.hd S.stk :: S.stk.tail }) = some S' := hS
    refine ⟨_, PSs.nox (pss_cons (ps_set (i := 2) sc_call_low.nd rfl (Or.inl rfl) (pe_meth0 (pv 0) W.c_State W.m_pull GP hr bP .nil pass0))
      (pss_one (ps_if (PW.pt (pw_and (pt_chain op_le op_le pe_int (pv 2) (pe_glob rfl gl (show RelV (V.int 199) (Value.int 199 tl) from ⟨_, rfl⟩))) (pw_and1 (pt_cmp (pc_din (hu_of hr) (pv 2) (pe_fld (pv 0) rfl))))))
        (pss_cons (ps_expr (pe_bm PySem.F.plainAttrs_list PySem.F.slot_list_append PySem.F.type_list_append mt_append (pe_fld (pv 0) rfl) (pa_cons (pe_fld (pv 0) rfl) pa_nil))) (pss_one (ps_fld (pv 0) (pv 2) rfl)))
        (pss_one (ps_expr (pe_bm PySem.F.plainAttrs_list PySem.F.slot_list_append PySem.F.type_list_append mt_append (pe_fld (pv 0) rfl) (pa_cons (pv 2) pa_nil))))))), ?_⟩
    refine rd_pull (i := 0) rfl h fun H1 h1 => ?_
    have bz := h1.bst
    have bz2 := h1.bbk
    have key : ∀ (c : Bool), c = decide (1 ≤ TW.hd S.stk ∧ TW.hd S.stk ≤ 199 ∧ (T (TW.hd S.stk)).isSome = true) → True := fun _ _ => trivial
    refine ⟨_, rfl, _, _, rfl, rfl, _, rfl, ?_⟩
    by_cases c1 : (1 : Int) ≤ TW.hd S.stk
    · rw [decide_eq_true c1]
      refine iteT ?_
      refine ⟨_, _, rfl, rfl, _, rfl, ?_⟩
      by_cases c2 : TW.hd S.stk ≤ 199
      · rw [decide_eq_true c2]
        refine iteT ?_
        obtain ⟨o, g1, g2, g3⟩ := tabAt_get h1.tab h1.same (TW.hd S.stk)
        refine ⟨_, rfl, _, rfl, r.p, CS K, r.dx, _, _, rfl, h1.ob, W.c_State, W.n_table, lk_table, r.tb, o, rfl, g1, _, rfl, ?_⟩
        rw [g2]
        by_cases c3 : (T (TW.hd S.stk)).isSome = true
        · rw [if_pos ⟨c1, c2, c3⟩] at hS2
          obtain rfl := Option.some.inj hS2
          rw [c3]
          refine iteT ?_
          refine ⟨_, rfl, r.p, CS K, r.dx, _, _, rfl, h1.ob, W.c_State, W.n_back, lk_back, .inl ⟨rfl, _, SqL.of h1.bk⟩, _, rfl, r.p, CS K, r.dx, _, _, rfl, h1.ob, W.c_State, W.n_at, lk_at, r.bk, _, _, rfl, rfl, h1.bk, sz hb (by rw [rlen]; omega), ?_⟩
          have h2 := h1.call (v := S.at') (Nat.le_refl (b + 1))
          refine ⟨_, rfl, _, rfl, r.p, CS K, r.dx, _, rfl, h2.ob, W.c_State, W.n_at, fl_len, ?_⟩
          exact k _ pl (h2.setAt (TW.hd S.stk))
        · rw [if_neg (fun q => c3 q.2.2)] at hS2
          obtain rfl := Option.some.inj hS2
          rw [Bool.not_eq_true] at c3
          rw [c3]
          refine iteF ?_
          refine ⟨_, rfl, r.p, CS K, r.dx, _, _, rfl, h1.ob, W.c_State, W.n_stack, lk_stack, .inl ⟨rfl, _, SqL.of h1.st⟩, _, rfl, r.st, _, _, rfl, rfl, h1.st, sz hb (by rw [rlen]; omega), ?_⟩
          exact k _ pl (h1.push (by omega) (by omega))
      · rw [if_neg (fun q => c2 q.2.1)] at hS2
        obtain rfl := Option.some.inj hS2
        rw [decide_eq_false c2]
        refine iteF ?_
        refine iteF ?_
        refine ⟨_, rfl, r.p, CS K, r.dx, _, _, rfl, h1.ob, W.c_State, W.n_stack, lk_stack, .inl ⟨rfl, _, SqL.of h1.st⟩, _, rfl, r.st, _, _, rfl, rfl, h1.st, sz hb (by rw [rlen]; omega), ?_⟩
        exact k _ pl (h1.push (by omega) (by omega))
    · rw [if_neg (fun q => c1 q.1)] at hS2
      obtain rfl := Option.some.inj hS2
      rw [decide_eq_false c1]
      refine iteF ?_
      refine ⟨_, rfl, ?_⟩
      refine iteF ?_
      refine iteF ?_
      refine ⟨_, rfl, r.p, CS K, r.dx, _, _, rfl, h1.ob, W.c_State, W.n_stack, lk_stack, .inl ⟨rfl, _, SqL.of h1.st⟩, _, rfl, r.st, _, _, rfl, rfl, h1.st, sz hb (by rw [rlen]; omega), ?_⟩
      exact k _ pl (h1.push (by omega) (by omega))
/-! ### the table of deeds -/
theorem deedsL_ok {K : PySem.W.Frag} : ∀ {es : List DictEntry} {D : List (Int × Str)}, deedsL K es D = true → (∀ e ∈ es, ∃ k t, e.key = .int k t ∧ e.hash = hashInt k) ∧
    ∀ k : Int, (es.find? fun e => Value.isInt k e.key).map (·.val) = ((D.map fun q => (q.1, He.ga K q.2)).lookup k).map Value.ref
  | [], [], _ => ⟨(fun _ h => nomatch h), fun _ => rfl⟩
  | e :: es, [], h => by simp [deedsL] at h
  | [], _ :: _, h => by simp [deedsL] at h
  | e :: es, (i, x) :: D, h => by
    simp only [deedsL, Bool.and_eq_true] at h
    obtain ⟨h1, h2, h3, h4⟩ := h
    obtain ⟨r1, r2⟩ := deedsL_ok h4
    cases ek : e.key with
    | int j t =>
      rw [ek] at h1
      have ej : j = i := of_decide_eq_true h1
      subst ej
      cases ev : e.val with
      | ref a =>
        rw [ev] at h3
        have ea : a = He.ga K x := Nat.eq_of_beq_eq_true h3
        refine ⟨fun e' he' => ?_, fun k => ?_⟩
        · rcases List.mem_cons.mp he' with rfl | he'
          · exact ⟨j, t, ek, of_decide_eq_true h2⟩
          · exact r1 e' he'
        · rw [List.find?_cons, ek]
          show _ = (((j, He.ga K x) :: D.map fun q => (q.1, He.ga K q.2)).lookup k).map Value.ref
          rw [List.lookup_cons]
          have eb : Value.isInt k (.int j t) = (k == j) := by
            show (j == k) = (k == j)
            rw [Bool.eq_iff_iff, beq_iff_eq, beq_iff_eq]
            exact ⟨Eq.symm, Eq.symm⟩
          rw [eb]
          cases q : (k == j) with
          | true =>
            show some e.val = some (Value.ref (He.ga K x))
            rw [ev, ea]
          | false => exact r2 k
      | _ => rw [ev] at h3; cases h3
    | _ => rw [ek] at h1; cases h1
abbrev deedsD (K : PySem.W.Frag) : List (Int × Addr) := deedNames.map fun q => (q.1, He.ga K q.2)
theorem Wd.deeds (W : Wd K mg w) : KInt K (He.ga K "DEEDS") (deedsD K) := by
  have h := (He.ba W.e).1
  unfold deedsB at h
  cases q : K.lookup (He.ga K "DEEDS") with
  | none => rw [q] at h; cases h
  | some o =>
    obtain ⟨oc, od, dt, osl⟩ := o
    rw [q] at h
    cases oc with
    | type c =>
      cases od with
      | none =>
        cases dt with
        | dict es n =>
          obtain ⟨h1, h2⟩ := He.ba (show (decide (c = "dict") && (osl.isEmpty && (!(He.ga K "DEEDS" == sysModules) && deedsL K es.toList deedNames))) = true from h)
          obtain ⟨h3, h4⟩ := He.ba h2
          obtain ⟨h5, h6⟩ := He.ba h4
          obtain ⟨r1, r2⟩ := deedsL_ok h6
          have e1 : c = "dict" := of_decide_eq_true h1
          have e2 : osl = #[] := Array.isEmpty_iff.mp h3
          subst e1; subst e2
          refine ⟨⟨es, n, q, r1, fun k => ?_⟩, by simpa using h5⟩
          have r3 := r2 k
          unfold findBy
          obtain ⟨l⟩ := es
          rw [List.find?_toArray]
          exact r3
        | _ => cases h
      | some d => cases dt <;> cases h
    | _ => cases od <;> cases dt <;> cases h
theorem used_held (W : Wd K mg w) : ∀ q ∈ usedNames, Held P w K mg base 2 (He.ga K q.2) (spDeed K q.1) := by
  intro q hq
  simp only [usedNames, List.mem_cons, List.not_mem_nil, or_false] at hq
  rcases hq with rfl | rfl | rfl | rfl | rfl | rfl | rfl | rfl | rfl | rfl | rfl | rfl | rfl | rfl | rfl | rfl
  · exact ok_push W
  · exact ok_plus W
  · exact ok_minus W
  · exact ok_digit W
  · exact ok_less W
  · exact ok_same W
  · exact ok_assign W
  · exact ok_take W
  · exact ok_emit W
  · exact ok_drop W
  · exact ok_double W
  · exact ok_exchange W
  · exact ok_test W
  · exact ok_call W
  · exact ok_call_low W
  · exact ok_return W
/-- the promise of the def at an address, if it is one of the deeds -/
def Sf (K : PySem.W.Frag) (f : Addr) : Option Sp := (usedNames.find? fun q => decide (He.ga K q.2 = f)).map fun q => spDeed K q.1
theorem Sf_held (W : Wd K mg w) (f : Addr) (sp : Sp) (h : Sf K f = some sp) : Held P w K mg base 2 f sp := by
  unfold Sf at h
  cases q : usedNames.find? (fun q => decide (He.ga K q.2 = f)) with
  | none => rw [q] at h; cases h
  | some u =>
    rw [q] at h
    obtain rfl := Option.some.inj h
    have hm := List.mem_of_find?_eq_some q
    have e : He.ga K u.2 = f := of_decide_eq_true (List.find?_some (p := fun q : Int × Str => decide (He.ga K q.2 = f)) q)
    rw [← e]
    exact used_held W u hm
theorem find_nodup {α : Type} (f : α → Addr) : ∀ (l : List α), (l.map f).Nodup → ∀ q ∈ l, l.find? (fun x => decide (f x = f q)) = some q
  | [], _, q, h => nomatch h
  | a :: l, nd, q, h => by
    rw [List.map_cons, List.nodup_cons] at nd
    rw [List.find?_cons]
    by_cases e : f a = f q
    · rw [decide_eq_true e]
      rcases List.mem_cons.mp h with rfl | h
      · rfl
      · exact absurd (List.mem_map.mpr ⟨q, h, e.symm⟩) nd.1
    · rw [decide_eq_false e]
      rcases List.mem_cons.mp h with rfl | h
      · exact absurd rfl e
      · exact find_nodup f l nd.2 q h
theorem Sf_some (W : Wd K mg w) {q : Int × Str} (h : q ∈ usedNames) : Sf K (He.ga K q.2) = some (spDeed K q.1) := by
  unfold Sf
  rw [find_nodup (fun q : Int × Str => He.ga K q.2) usedNames (of_decide_eq_true (He.ba W.e).2) q h]
  rfl
theorem used_look : ∀ q ∈ usedNames, (deedsD K).lookup q.1 = some (He.ga K q.2) := by
  intro q hq
  simp only [usedNames, List.mem_cons, List.not_mem_nil, or_false] at hq
  rcases hq with rfl | rfl | rfl | rfl | rfl | rfl | rfl | rfl | rfl | rfl | rfl | rfl | rfl | rfl | rfl | rfl <;> rfl
theorem deed_at (T : TW.Tab) (op arg nx : Int) (S : TW.S) : TW.deed T op arg nx { S with at' := nx } = TW.deed T op arg nx S := rfl
/-- what may be done at all -/
theorem deed_cases {T : TW.Tab} {op arg nx : Int} {S S' : TW.S} (h : TW.deed T op arg nx S = some S') :
    (∃ x, (op, x) ∈ usedNames) ∨ (97 ≤ op ∧ op ≤ 122 ∧ S' = { S with at' := nx, stk := S.sto op :: S.stk }) ∨ (op = 32 ∧ S' = { S with at' := nx }) := by
  by_cases u : ∃ x, (op, x) ∈ usedNames
  · exact .inl u
  · have n : op ≠ 35 ∧ op ≠ 43 ∧ op ≠ 45 ∧ op ≠ 42 ∧ op ≠ 60 ∧ op ≠ 126 ∧ op ≠ 61 ∧ op ≠ 44 ∧ op ≠ 46 ∧ op ≠ 95 ∧ op ≠ 34 ∧ op ≠ 92 ∧ op ≠ 63 ∧ op ≠ 40 ∧ op ≠ 36 ∧ op ≠ 41 := by
      refine ⟨fun e => by subst e; exact u ⟨_, List.mem_of_getElem? (l := usedNames) (i := 0) rfl⟩, fun e => by subst e; exact u ⟨_, List.mem_of_getElem? (l := usedNames) (i := 1) rfl⟩, fun e => by subst e; exact u ⟨_, List.mem_of_getElem? (l := usedNames) (i := 2) rfl⟩, fun e => by subst e; exact u ⟨_, List.mem_of_getElem? (l := usedNames) (i := 3) rfl⟩, fun e => by subst e; exact u ⟨_, List.mem_of_getElem? (l := usedNames) (i := 4) rfl⟩, fun e => by subst e; exact u ⟨_, List.mem_of_getElem? (l := usedNames) (i := 5) rfl⟩, fun e => by subst e; exact u ⟨_, List.mem_of_getElem? (l := usedNames) (i := 6) rfl⟩, fun e => by subst e; exact u ⟨_, List.mem_of_getElem? (l := usedNames) (i := 7) rfl⟩, fun e => by subst e; exact u ⟨_, List.mem_of_getElem? (l := usedNames) (i := 8) rfl⟩, fun e => by subst e; exact u ⟨_, List.mem_of_getElem? (l := usedNames) (i := 9) rfl⟩, fun e => by subst e; exact u ⟨_, List.mem_of_getElem? (l := usedNames) (i := 10) rfl⟩, fun e => by subst e; exact u ⟨_, List.mem_of_getElem? (l := usedNames) (i := 11) rfl⟩, fun e => by subst e; exact u ⟨_, List.mem_of_getElem? (l := usedNames) (i := 12) rfl⟩, fun e => by subst e; exact u ⟨_, List.mem_of_getElem? (l := usedNames) (i := 13) rfl⟩, fun e => by subst e; exact u ⟨_, List.mem_of_getElem? (l := usedNames) (i := 14) rfl⟩, fun e => by subst e; exact u ⟨_, List.mem_of_getElem? (l := usedNames) (i := 15) rfl⟩⟩
    obtain ⟨n1, n2, n3, n4, n5, n6, n7, n8, n9, n10, n11, n12, n13, n14, n15, n16⟩ := n
    unfold TW.deed at h
    rw [if_neg n1, if_neg n2, if_neg n3, if_neg n4, if_neg n5, if_neg n6, if_neg n7, if_neg n8, if_neg n9, if_neg n10, if_neg n11, if_neg n12, if_neg n13, if_neg n14, if_neg n15, if_neg n16] at h
    by_cases l : 97 ≤ op ∧ op ≤ 122
    · rw [if_pos l] at h
      exact .inr (.inl ⟨l.1, l.2, (Option.some.inj h).symm⟩)
    · rw [if_neg l] at h
      by_cases z : op = 32
      · rw [if_pos z] at h
        exact .inr (.inr ⟨z, (Option.some.inj h).symm⟩)
      · rw [if_neg z] at h
        cases h
theorem look_other {op : Int} (h : 97 ≤ op ∧ op ≤ 122 ∨ op = 32) : (deedsD K).lookup op = none := by
  have n : ∀ q ∈ deedNames, q.1 ≠ op := by
    intro q hq
    simp only [deedNames, List.mem_cons, List.not_mem_nil, or_false] at hq
    rcases hq with rfl | rfl | rfl | rfl | rfl | rfl | rfl | rfl | rfl | rfl | rfl | rfl | rfl | rfl | rfl | rfl | rfl | rfl | rfl | rfl <;> (dsimp only; omega)
  unfold deedsD
  revert n
  generalize deedNames = D
  intro n
  induction D with
  | nil => rfl
  | cons a l ih =>
    rw [List.map_cons, List.lookup_cons]
    have e : (op == a.1) = false := beq_eq_false_iff_ne.mpr fun z => n a (List.mem_cons_self ..) z.symm
    rw [e]
    exact ih fun q hq => n q (List.mem_cons_of_mem _ hq)
end
end Pz
end
set_option Elab.async false
set_option linter.all false
set_option maxRecDepth 100000
set_option maxHeartbeats 4000000
/-! step, has_ended, advance. -/
noncomputable section
namespace Pz
open PySem PySem.Spec PyProof.Rows L2
section
variable {P : Program} {w : World} {K : PySem.W.Frag} {mg : Str → Option Value} {base : Heap}
def spStep (K : PySem.W.Frag) : Sp := fun vs H Q _ => ∃ (H0 : Hp) (r : Rf) (T : TW.Tab) (ns : List Int) (S : TW.S) (pl n b : Nat), vs = [.ref r.p] ∧ StAt K (CS K) H0 H r T ns S pl n b ∧ b < 100000 ∧
  ((T S.at' = none ∧ Q (.bl false) H) ∨ ∃ S', TW.step T S = some S' ∧ ∀ H' pl', StAt K (CS K) H0 H' r T ns S' pl' (n + 1) (b + 1) → Q (.bl true) H')
theorem sc_step : FnScope ["self", "operation", "argument", "successor", "deed"] ["self"] (defScope s_step) := ⟨rfl, rfl, rfl, by decide +kernel, rfl, by decide +kernel, by decide +kernel⟩
theorem ok_step (W : Wd K mg w) : ∃ fd, FnOk P w K mg base CX0 3 (He.ma K (CS K) "step") fd ["self"] (spStep K) ∧ Binds K fd ["self"] [] := by
  obtain ⟨fd, F⟩ := W.d_step
  obtain ⟨t1, g1⟩ := W.i_FIRST_LETTER
  obtain ⟨t2, g2⟩ := W.i_LAST_LETTER
  obtain ⟨t3, g3⟩ := W.i_FIRST_CAPITAL
  obtain ⟨t4, g4⟩ := W.i_LAST_CAPITAL
  refine ⟨fd, F.ok sc_step (fun vs H Q E h => ?_) (fun cdv A outer s H vs Q E hr h => ?_), F.bindsN fun _ _ _ _ _ _ us hl => match us, hl with | [_], _ => rfl⟩
  · obtain ⟨H0, r, T, ns, S, pl, n, b, rfl, _⟩ := h
    rfl
  · obtain ⟨H0, r, T, ns, S, pl, n, b, rfl, h, hb, hk⟩ := h
    have hu := hu_of hr
    refine ⟨_, PSs.nox (pss_cons (ps_if (pt_cmp (pc_dnotin hu (pe_fld (pv 0) rfl) (pe_fld (pv 0) rfl))) (pss_one (ps_ret pe_bl)) pss_nil)
      (pss_cons (ps_asg (pe_dget hu (pe_fld (pv 0) rfl) (pe_fld (pv 0) rfl) (fun _ _ => rfl)) (pg_tup rfl (pgs_cons (pg_name (i := 1) sc_step.nd rfl (Or.inl rfl)) (pgs_cons (pg_name (i := 2) sc_step.nd rfl (Or.inl rfl)) (pgs_cons (pg_name (i := 3) sc_step.nd rfl (Or.inl rfl)) pgs_nil)))))
      (pss_cons (ps_fld (pv 0) (pv 3) rfl)
      (pss_cons (ps_fldaug (pv 0) pe_int in_add)
      (pss_cons (ps_if (pt_cmpR (op_in_ki W.deeds) (pv 1) (pe_glob rfl W.g_DEEDS (v := .ref (He.ga K "DEEDS")) rfl) (by rfl))
        (pss_cons (ps_set (i := 4) sc_step.nd rfl (Or.inl rfl) (pe_ix (ix_ki W.deeds) (pe_glob rfl W.g_DEEDS (v := .ref (He.ga K "DEEDS")) rfl) (pv 1) (fun _ _ => rfl)))
          (pss_one (ps_expr (pe_callA (i := 4) (Sf_held W) hr rfl (Or.inl rfl) (pa_cons (pv 0) (pa_cons (pv 2) pa_nil))))))
        (pss_one (ps_if (pt_chain op_le op_le (pe_glob rfl g1 (v := .int 97) ⟨_, rfl⟩) (pv 1) (pe_glob rfl g2 (v := .int 122) ⟨_, rfl⟩))
          (pss_one (ps_expr (pe_bm PySem.F.plainAttrs_list PySem.F.slot_list_append PySem.F.type_list_append mt_append (pe_fld (pv 0) rfl) (pa_cons (pe_dget2 hu (pe_fld (pv 0) rfl) (pv 1) pe_int ⟨rfl, rfl, rfl, rfl⟩) pa_nil))))
          (pss_one (ps_if (pt_chain op_le op_le (pe_glob rfl g3 (v := .int 65) ⟨_, rfl⟩) (pv 1) (pe_glob rfl g4 (v := .int 90) ⟨_, rfl⟩))
            (pss_cons (ps_expr (pe_bm PySem.F.plainAttrs_list PySem.F.slot_list_append PySem.F.type_list_append mt_append (pe_fld (pv 0) rfl) (pa_cons (pv 3) pa_nil))) (pss_one (ps_fld (pv 0) (pv 1) rfl)))
            pss_nil)))))
      (pss_one (ps_ret pe_bl))))))), ?_⟩
    obtain ⟨o, q1, q2, q3⟩ := tabAt_get h.tab h.same S.at'
    refine ⟨_, rfl, r.p, CS K, r.dx, _, _, rfl, h.ob, W.c_State, W.n_at, lk_at, _, rfl, r.p, CS K, r.dx, _, _, rfl, h.ob, W.c_State, W.n_table, lk_table, r.tb, o, rfl, q1, _, rfl, ?_⟩
    rw [q2]
    cases e : T S.at' with
    | none =>
      refine iteT ?_
      rcases hk with ⟨_, k⟩ | ⟨S', hS, _⟩
      · exact k
      · unfold TW.step at hS
        rw [e] at hS
        cases hS
    | some u =>
      obtain ⟨op, arg, nx⟩ := u
      refine iteF ?_
      rcases hk with ⟨z, _⟩ | ⟨S', hS0, k⟩
      · rw [e] at z; cases z
      have hS : TW.deed T op arg nx S = some S' := by
        unfold TW.step at hS0
        rw [e] at hS0
        exact hS0
      obtain ⟨t, eo, ht⟩ := q3 op arg nx e
      subst eo
      refine ⟨_, rfl, r.p, CS K, r.dx, _, _, rfl, h.ob, W.c_State, W.n_table, lk_table, _, rfl, r.p, CS K, r.dx, _, _, rfl, h.ob, W.c_State, W.n_at, lk_at, r.tb, _, rfl, q1, t, _, rfl, SqT.of ht, rfl, _, _, rfl, _, _, rfl, _, _, rfl, rfl, ?_⟩
      refine ⟨_, rfl, _, rfl, r.p, CS K, r.dx, _, rfl, h.ob, W.c_State, W.n_at, fl_len, ?_⟩
      have h1 := h.setAt nx
      refine ⟨_, rfl, r.p, CS K, r.dx, _, _, rfl, h1.ob, W.c_State, W.n_steps, lk_steps, _, _, rfl, rfl, r.dx, _, h1.ob, fl_len, ?_⟩
      have h2 := h1.setSteps (m := (n : Int) + 1) (by omega)
      refine ⟨_, rfl, op, rfl, rfl, _, rfl, ?_⟩
      rcases deed_cases hS with ⟨x, hx⟩ | ⟨l1, l2, rfl⟩ | ⟨z, rfl⟩
      · have hl := used_look (K := K) (op, x) hx
        rw [hl]
        refine iteT ?_
        refine ⟨_, rfl, op, _, rfl, rfl, hl, ?_⟩
        refine ⟨_, _, rfl, Sf_some W hx, _, rfl, _, rfl, H0, r, T, ns, _, S', pl, n + 1, b, arg, rfl, h2, hb, ?_, fun H' pl' h3 => ?_⟩
        · exact hS
        · exact k H' pl' h3
      · rw [look_other (.inl ⟨l1, l2⟩)]
        refine iteF ?_
        refine ⟨_, rfl, _, _, rfl, rfl, _, rfl, ?_⟩
        rw [decide_eq_true l1]
        refine iteT ?_
        refine ⟨_, _, rfl, rfl, _, rfl, ?_⟩
        rw [decide_eq_true l2]
        refine iteT ?_
        obtain ⟨kvs, c1, c2, c3⟩ := h2.so
        have bz := h2.bst
        refine ⟨_, rfl, r.p, CS K, r.dx, _, _, rfl, h2.ob, W.c_State, W.n_stack, lk_stack, .inl ⟨rfl, _, SqL.of h2.st⟩, ?_⟩
        refine ⟨_, rfl, r.p, CS K, r.dx, _, _, rfl, h2.ob, W.c_State, W.n_store, lk_store, r.so, rfl, .inl ⟨kvs, .inl c1⟩, _, rfl, _, DGet.k (k := Sum.inl op) c1, ?_⟩
        rw [c3 op]
        refine ⟨r.st, _, _, rfl, rfl, h2.st, sz hb (by rw [rlen]; omega), ?_⟩
        exact k _ pl (h2.push (v := S.sto op) (b' := b + 1) (by omega) (by omega))
      · subst z
        rw [look_other (.inr rfl)]
        refine iteF ?_
        refine ⟨_, rfl, _, _, rfl, rfl, _, rfl, ?_⟩
        refine iteF ?_
        refine ⟨_, rfl, ?_⟩
        refine iteF ?_
        refine ⟨_, rfl, _, _, rfl, rfl, _, rfl, ?_⟩
        refine iteF ?_
        refine ⟨_, rfl, ?_⟩
        refine iteF ?_
        exact k _ pl (h2.mono (by omega))
/-! ### has_ended -/
def spEnded (K : PySem.W.Frag) : Sp := fun vs H Q _ => ∃ (H0 : Hp) (r : Rf) (T : TW.Tab) (ns : List Int) (S : TW.S) (pl n b : Nat), vs = [.ref r.p] ∧ StAt K (CS K) H0 H r T ns S pl n b ∧ Q (.bl (!(T S.at').isSome)) H
theorem sc_ended : FnScope ["self"] ["self"] (defScope s_has_ended) := ⟨rfl, rfl, rfl, by decide +kernel, rfl, by decide +kernel, by decide +kernel⟩
theorem ok_ended (W : Wd K mg w) : ∃ fd, FnOk P w K mg base CX0 1 (He.ma K (CS K) "has_ended") fd ["self"] (spEnded K) ∧ Binds K fd ["self"] [] := by
  obtain ⟨fd, F⟩ := W.d_has_ended
  refine ⟨fd, F.ok sc_ended (fun vs H Q E h => ?_) (fun cdv A outer s H vs Q E hr h => ?_), F.bindsN fun _ _ _ _ _ _ us hl => match us, hl with | [_], _ => rfl⟩
  · obtain ⟨H0, r, T, ns, S, pl, n, b, rfl, _⟩ := h
    rfl
  · obtain ⟨H0, r, T, ns, S, pl, n, b, rfl, h, k⟩ := h
    refine ⟨_, PSs.nox (pss_one (ps_ret (pe_cmp (pc_dnotin (hu_of hr) (pe_fld (pv 0) rfl) (pe_fld (pv 0) rfl)) rfl))), ?_⟩
    obtain ⟨o, q1, q2, q3⟩ := tabAt_get h.tab h.same S.at'
    refine ⟨_, rfl, r.p, CS K, r.dx, _, _, rfl, h.ob, W.c_State, W.n_at, lk_at, _, rfl, r.p, CS K, r.dx, _, _, rfl, h.ob, W.c_State, W.n_table, lk_table, r.tb, o, rfl, q1, ?_⟩
    rw [q2]
    exact k
/-! ### advance -/
/-- from a state, with fuel: a run of j steps, fewer than the fuel, that ends -/
def spAdvance (K : PySem.W.Frag) : Sp := fun vs H Q _ => ∃ (H0 : Hp) (r : Rf) (T : TW.Tab) (ns : List Int) (S S' : TW.S) (j fuel : Nat), vs = [.ref r.p, .int (fuel : Int)] ∧ StAt K (CS K) H0 H r T ns S 0 0 0 ∧ j < fuel ∧ fuel ≤ 100000 ∧
  TW.crun T j S = some S' ∧ T S'.at' = none ∧ ∀ H' pl', StAt K (CS K) H0 H' r T ns S' pl' j j → Q (.int (j : Int)) H'
theorem crun_mid {T : TW.Tab} : ∀ {j : Nat} {S S' : TW.S}, TW.crun T j S = some S' → ∀ i, i ≤ j → ∃ U, TW.crun T i S = some U ∧ TW.crun T (j - i) U = some S'
  | _, S, S', h, 0 => fun _ => ⟨S, rfl, h⟩
  | 0, S, S', h, i + 1 => fun e => by omega
  | j + 1, S, S', h, i + 1 => fun e => by
    have h' : (TW.step T S).bind (TW.crun T j) = some S' := h
    cases q : TW.step T S with
    | none => rw [q] at h'; cases h'
    | some V =>
      rw [q] at h'
      obtain ⟨U, u1, u2⟩ := crun_mid (S := V) (j := j) h' i (by omega)
      refine ⟨U, ?_, by rw [show j + 1 - (i + 1) = j - i by omega]; exact u2⟩
      show (TW.step T S).bind (TW.crun T i) = some U
      rw [q]
      exact u1
theorem crun_snoc {T : TW.Tab} : ∀ {i : Nat} {S U V : TW.S}, TW.crun T i S = some U → TW.step T U = some V → TW.crun T (i + 1) S = some V
  | 0, S, U, V, h, g => by
    have e : S = U := Option.some.inj h
    subst e
    show (TW.step T S).bind (TW.crun T 0) = some V
    rw [g]
    rfl
  | i + 1, S, U, V, h, g => by
    have h' : (TW.step T S).bind (TW.crun T i) = some U := h
    cases q : TW.step T S with
    | none => rw [q] at h'; cases h'
    | some X =>
      rw [q] at h'
      show (TW.step T S).bind (TW.crun T (i + 1)) = some V
      rw [q]
      exact crun_snoc (S := X) h' g
theorem sc_advance : FnScope ["self", "fuel", "made"] ["self", "fuel"] (defScope s_advance) := ⟨rfl, rfl, rfl, by decide +kernel, rfl, by decide +kernel, by decide +kernel⟩
theorem ok_advance (W : Wd K mg w) : ∃ fd, FnOk P w K mg base CX0 4 (He.ma K (CS K) "advance") fd ["self", "fuel"] (spAdvance K) ∧ KBn K fd ["self", "fuel"] 1 ["fuel"] (fun us ws => us ++ ws) (fun vs zs => vs ++ zs) := by
  obtain ⟨fd, F⟩ := W.d_advance
  obtain ⟨fdS, GS, bS⟩ := ok_step (P := P) (base := base) W
  refine ⟨fd, F.ok sc_advance (fun vs H Q E h => ?_) (fun cdv A outer s H vs Q E hr h => ?_), ?_⟩
  · obtain ⟨H0, r, T, ns, S, S', j, fuel, rfl, _⟩ := h
    rfl
  · obtain ⟨H0, r, T, ns, S, S', j, fuel, rfl, h, hj, hf, hrun, hend, k⟩ := h
    refine ⟨_, PSs.nox (pss_cons (ps_if (pt_cmpR op_lt (pv 1) pe_int (nomark _)) (pss_one ps_never) pss_nil)
      (pss_cons (ps_set (i := 2) sc_advance.nd rfl (Or.inl rfl) pe_int)
      (pss_cons (ps_while PassesOwn.never (PW.pt (pw_and (pt_cmpR op_lt (pv 2) (pv 1) (nomark _)) (pw_and1 (pt_val (pe_meth0 (pv 0) W.c_State W.m_step GS hr bS .nil pass0)))))
        (pss_one (ps_aug (i := 2) sc_advance.nd rfl (Or.inl rfl) pe_int ip_add)))
      (pss_one (ps_ret (pv 2)))))), ?_⟩
    refine ⟨_, rfl, _, _, rfl, rfl, _, rfl, ?_⟩
    rw [decide_eq_false (show ¬ ((fuel : Int) < 0) by omega)]
    refine iteF ?_
    refine ⟨fun m σ H' => ∃ (i : Nat) (U : TW.S) (pl' : Nat), i ≤ j ∧ m = j - i ∧ σ = [some (.ref r.p), some (.int (fuel : Int)), some (.int (i : Int))] ∧ TW.crun T (j - i) U = some S' ∧ StAt K (CS K) H0 H' r T ns U pl' i i,
      ⟨j, 0, S, 0, Nat.zero_le _, rfl, rfl, hrun, h⟩, ?_⟩
    rintro m σ H1 ⟨i, U, pl', hi, rfl, rfl, hU, h1⟩
    refine ⟨_, rfl, _, rfl, _, _, rfl, rfl, _, rfl, ?_⟩
    rw [decide_eq_true (show (i : Int) < (fuel : Int) by omega)]
    refine iteT ?_
    refine ⟨_, rfl, r.p, r.dx, _, rfl, h1.ob, lk_step, H0, r, T, ns, U, pl', i, i, rfl, h1, by omega, ?_⟩
    by_cases e : i = j
    · subst e
      rw [Nat.sub_self] at hU
      have eU : U = S' := Option.some.inj hU
      subst eU
      refine .inl ⟨hend, _, rfl, ?_⟩
      refine iteF ?_
      exact ⟨_, rfl, k H1 pl' h1⟩
    · obtain ⟨d, hd⟩ : ∃ d, j - i = d + 1 := ⟨j - i - 1, by omega⟩
      rw [hd] at hU
      have hU' : (TW.step T U).bind (TW.crun T d) = some S' := hU
      cases q : TW.step T U with
      | none => rw [q] at hU'; cases hU'
      | some V' =>
        rw [q] at hU'
        refine .inr ⟨V', rfl, fun H2 pl2 h2 => ⟨_, rfl, ?_⟩⟩
        refine iteT ?_
        refine ⟨fun σ' H' => ∃ (U : TW.S) (pl' : Nat), σ' = [some (.ref r.p), some (.int (fuel : Int)), some (.int ((i + 1 : Nat) : Int))] ∧ TW.crun T (j - (i + 1)) U = some S' ∧ StAt K (CS K) H0 H' r T ns U pl' (i + 1) (i + 1),
          fun σ' H' ⟨U, pl', e1, e2, e3⟩ => ⟨j - (i + 1), by omega, i + 1, U, pl', by omega, rfl, e1, e2, e3⟩, ?_⟩
        refine ⟨_, rfl, _, _, rfl, rfl, V', pl2, rfl, ?_, h2⟩
        rw [show j - (i + 1) = d by omega]
        exact hU'
  · obtain ⟨oc, od, dV, kV, doc, pm, an, cdv, ct, osl, rfl, lk, hcd, hD, hK⟩ := F.ex
    rcases hD with ⟨_, rfl⟩ | ⟨e, _⟩
    · exact ⟨fun s us ws _ l1 l2 => match us, ws, l1, l2 with | [_], [_], _, _ => .of_eq rfl, fun r1 r2 => r1.append r2⟩
    · exact absurd rfl e
end
end Pz
end
set_option Elab.async false
set_option linter.all false
set_option maxRecDepth 100000
set_option maxHeartbeats 4000000
/-! nodes_of, table_of. -/
noncomputable section
namespace Pz
open PySem PySem.Spec PyProof.Rows L2
/-! ### cells and nodes -/
def cell (x : TW.Node) : List Int := [x.1, x.2.1, x.2.2.1, x.2.2.2]
def cells (l : List TW.Node) : List Int := l.flatMap cell
theorem cells_len (l : List TW.Node) : (cells l).length = 4 * l.length := by
  induction l with
  | nil => rfl
  | cons x r ih =>
    show (cell x ++ cells r).length = _
    rw [List.length_append, ih, List.length_cons]
    show 4 + _ = _
    omega
theorem cells_drop (l : List TW.Node) : ∀ i, (cells l).drop (4 * i) = cells (l.drop i) := by
  induction l with
  | nil => intro i; simp [cells]
  | cons x r ih =>
    intro i
    cases i with
    | zero => rfl
    | succ j =>
      show (x.1 :: x.2.1 :: x.2.2.1 :: x.2.2.2 :: cells r).drop (4 * (j + 1)) = cells (r.drop j)
      rw [show 4 * (j + 1) = 4 * j + 1 + 1 + 1 + 1 by omega]
      simp only [List.drop_succ_cons]
      exact ih j
theorem cells_at {l : List TW.Node} {i : Nat} {x : TW.Node} (h : l[i]? = some x) : ((cells l).drop (4 * i)).take 4 = cell x := by
  rw [cells_drop]
  have e : l.drop i = x :: l.drop (i + 1) := by
    obtain ⟨hi, e⟩ := List.getElem?_eq_some_iff.mp h
    rw [List.drop_eq_getElem_cons hi, e]
  rw [e]
  rfl
theorem flat_cells (l : List TW.Node) : (TW.flat l).reverse = cells l.reverse := by
  induction l with
  | nil => rfl
  | cons x r ih =>
    obtain ⟨n, o, a, s⟩ := x
    show (s :: a :: o :: n :: TW.flat r).reverse = _
    rw [List.reverse_cons, List.reverse_cons, List.reverse_cons, List.reverse_cons, ih, List.reverse_cons]
    unfold cells
    rw [List.flatMap_append]
    simp [cell]
theorem rg4 {k : Nat} (h : k ≤ 1000) : RgC 0 ((4 * k : Nat) - 3 : Int) 4 k := by
  have e : Builtin.Range.rangeSize 0 ((4 * k : Nat) - 3 : Int) 4 = (k : Int) := by
    unfold Builtin.Range.rangeSize
    rw [if_pos (by decide)]
    split <;> omega
  refine ⟨by decide, by decide, ?_, e⟩
  unfold Builtin.Range.small
  rw [e]
  simp only [Builtin.Range.rangeFitsLong, Bool.and_eq_true, Bool.or_eq_true, decide_eq_true_eq, beq_iff_eq, show (4 : Int) > 0 by decide, if_true]
  omega
theorem cut4 {xs : List V} {i : Nat} (h : 4 * i + 4 ≤ xs.length) {a b : Int} (ea : a = ((4 * i : Nat) : Int)) (eb : b = ((4 * i + 4 : Nat) : Int)) : cutV xs (some a) (some b) = (xs.drop (4 * i)).take 4 := by
  subst ea; subst eb
  unfold cutV
  rw [HT.sIx_nat, HT.sIx_nat, Nat.min_eq_left (by omega), Nat.min_eq_left (by omega), show 4 * i + 4 - 4 * i = 4 by omega]
section
variable {P : Program} {w : World} {K : PySem.W.Frag} {mg : Str → Option Value} {base : Heap}
def rTupleOf (K : PySem.W.Frag) : List V → Hp → VK → Prop := fun xs H Q => ∃ p ys, xs = [.ref p] ∧ ((SqL K H p ys ∧ ∀ l, H l = none → Q (.ref l) (upd H l (.tup ys))) ∨ (SqT K H p ys ∧ Q (.ref p) H))
theorem call_tupleK {X : Cx} (e : X.K = K) : CallR X (.type "tuple") (rTupleOf K) := by
  subst e
  exact call_tuple_of
theorem sl_listK {X : Cx} (e : X.K = K) : SlR X (rSlL K) := by
  subst e
  exact sl_list
/-- the image of these nodes at a -/
def spNodes (K : PySem.W.Frag) : Sp := fun vs H Q _ => ∃ (a : Addr) (l : List TW.Node), vs = [.ref a] ∧ SqL K H a ((cells l).map V.int) ∧ l.length ≤ 1000 ∧
  ∀ (H' : Hp) (q : Addr) (tt : List Addr), Same H H' → H q = none → H' q = some (.lst (tt.map V.ref)) → tt.length = l.length → (∀ (i : Nat) t x, tt[i]? = some t → l[i]? = some x → H' t = some (.tup ((cell x).map V.int))) → Q (.ref q) H'
theorem sc_nodes : FnScope ["image", "start"] ["image"] (defScope s_nodes_of) := ⟨rfl, rfl, rfl, by decide +kernel, rfl, by decide +kernel, by decide +kernel⟩
theorem ok_nodes (W : Wd K mg w) : Cal P w K mg base 1 "nodes_of" (spNodes K) := by
  obtain ⟨fd, F⟩ := W.d_nodes_of
  refine ⟨_, fd, ["image"], F.ok sc_nodes (fun vs H Q E h => ?_) (fun cdv A outer s H vs Q E hr h => ?_), W.g_nodes_of, W.p_nodes_of, F.bindsN fun _ _ _ _ _ _ us hl => match us, hl with | [_], _ => rfl⟩
  · obtain ⟨a, l, rfl, _⟩ := h
    rfl
  · obtain ⟨a, l, rfl, hS, hl, k⟩ := h
    refine ⟨_, PSs.nox (pss_one (ps_ret (pe_lc (own := [("start", 1)]) (g := gName 1) (tt := tYes) rfl sc_nodes.nd
      (pi_range3 rfl W.no_range (pa_cons pe_int (pa_cons (pe_op op_sub (pe_callB call_len_seq (by rfl) W.no_len PySem.boot_len (pa_cons (pv 0) pa_nil)) pe_int) (pa_cons pe_int pa_nil))))
      (blkOk_by (own := [("start", 1)]) (N := ["image", "start"]) (sc := defScope s_nodes_of) (by decide +kernel)) (fun _ _ _ _ _ => pg_name (i := 1) sc_nodes.nd rfl (Or.inl rfl)) (fun _ _ _ _ _ => pts_nil)
      (fun _ _ _ _ _ => pe_callTy (r := rTupleOf K) (call_tupleK rfl) (by rfl) W.no_tuple (by decide +kernel) (pa_cons (pe_slice (r := rSlL K) (sl_listK rfl) (pv 0) (po_some (pv 1)) (po_some (pe_op op_add (pv 1) pe_int))) pa_nil))))), ?_⟩
    have hlen : ((cells l).map V.int).length = 4 * l.length := by rw [List.length_map, cells_len]
    refine ⟨_, rfl, a, _, rfl, .inl hS, _, _, rfl, rfl, 0, _, 4, l.length, rfl, by rw [hlen]; exact rg4 hl, ?_⟩
    intro D hD
    refine lc_it walk_rangeC (fun i H' => ∃ tt : List Addr, Same H H' ∧ H' D = some (.lst (tt.map V.ref)) ∧ tt.length = i ∧ ∀ (j : Nat) t x, tt[j]? = some t → l[j]? = some x → H' t = some (.tup ((cell x).map V.int)))
      ⟨[], same_upd (Same.refl H) hD, upd_same, rfl, fun j t x e => by simp at e⟩ (fun _ _ _ _ => trivial) ?_ ?_
    · rintro i x H1 H2 hi ⟨tt, s1, hd1, hl1, ht1⟩ ⟨rfl, rfl⟩
      refine ⟨rfl, ?_⟩
      obtain ⟨x, hx⟩ : ∃ x, l[i]? = some x := ⟨l[i], List.getElem?_eq_getElem hi⟩
      refine ⟨_, rfl, _, rfl, _, rfl, _, rfl, _, _, rfl, rfl, _, rfl, a, _, rfl, s1.seq hS, fun p hp => ?_⟩
      refine ⟨p, _, rfl, .inl ⟨.inl (.inl upd_same), fun t ht => ?_⟩⟩
      have s2 : Same H2 (upd H2 p (.lst (cutV ((cells l).map V.int) (some (0 + (i : Int) * 4)) (some (0 + (i : Int) * 4 + 4))))) := same_upd (Same.refl _) hp
      have s3 := same_upd (o := .tup (cutV ((cells l).map V.int) (some (0 + (i : Int) * 4)) (some (0 + (i : Int) * 4 + 4)))) s2 (s2.free ht)
      have hD3 := s3 _ _ hd1
      refine ⟨tt.map V.ref, hD3, by rw [List.length_map, hl1]; exact Nat.lt_of_lt_of_le hi (Nat.le_trans hl (by decide)), tt ++ [t], same_upd (s1.trans s3) hD, by rw [upd_same, List.map_append]; rfl, by rw [List.length_append, hl1]; rfl, ?_⟩
      intro j t' x' ej el
      have nt : t ≠ D := fun e => by
        have := s2 _ _ hd1
        rw [← e, ht] at this
        cases this
      by_cases hj : j < tt.length
      · rw [List.getElem?_append_left hj] at ej
        have q := ht1 j t' x' ej el
        have nd : t' ≠ D := ne_of q hd1 (by intro z; cases z)
        rw [upd_ne nd]
        exact s3 _ _ q
      · have ej2 : j = i := by
          have := (List.getElem?_eq_some_iff.mp ej).1
          rw [List.length_append] at this
          simp at this
          omega
        subst ej2
        rw [hx] at el
        obtain rfl := Option.some.inj el
        rw [List.getElem?_append_right (by omega), hl1, Nat.sub_self] at ej
        obtain rfl := Option.some.inj ej
        rw [upd_ne nt, upd_same, cut4 (i := j) (by rw [hlen]; omega) (by omega) (by omega), ← List.map_drop, ← List.map_take, cells_at hx]
    · rintro H1 ⟨tt, s1, hd1, hl1, ht1⟩
      exact k H1 D tt s1 hD hd1 hl1 ht1
/-! ### table_of -/
def spTable (K : PySem.W.Frag) : Sp := fun vs H Q _ => ∃ (a : Addr) (l : List TW.Node), vs = [.ref a] ∧ SqL K H a ((cells l).map V.int) ∧ l.length ≤ 1000 ∧
  ∀ (H' : Hp) (d : Addr), Same H H' → H d = none → TabAt H' d (TW.tabR l.reverse) → Q (.ref d) H'
theorem tabAt_put {H H' : Hp} {d t : Addr} {l : List TW.Node} {n o g x : Int} {kvs : List (Key × V)} (h1 : H d = some (.dK kvs)) (h2 : ∀ a : Int, (TW.tabR l a = none → valV kvs (Sum.inl a : Key) = none) ∧
    ∀ o g x, TW.tabR l a = some (o, g, x) → ∃ t, valV kvs (Sum.inl a : Key) = some (.ref t) ∧ H t = some (.tup [.int o, .int g, .int x])) (hs : ∀ b u, H b = some u → b ≠ d → H' b = some u) (ht : H' t = some (.tup [.int o, .int g, .int x])) :
    ∀ a : Int, (TW.tabR ((n, o, g, x) :: l) a = none → valV (putK kvs (Sum.inl n : Key) (.ref t)) (Sum.inl a : Key) = none) ∧
      ∀ o' g' x', TW.tabR ((n, o, g, x) :: l) a = some (o', g', x') → ∃ t', valV (putK kvs (Sum.inl n : Key) (.ref t)) (Sum.inl a : Key) = some (.ref t') ∧ H' t' = some (.tup [.int o', .int g', .int x']) := by
  intro a
  rw [valV_put]
  unfold TW.tabR
  by_cases e : n = a
  · subst e
    rw [if_pos rfl, if_pos rfl]
    refine ⟨fun z => (by cases z), fun o' g' x' z => ?_⟩
    cases z
    exact ⟨t, rfl, ht⟩
  · rw [if_neg e, if_neg (fun z => e (Sum.inl.inj z).symm)]
    refine ⟨(h2 a).1, fun o' g' x' z => ?_⟩
    obtain ⟨t', q1, q2⟩ := (h2 a).2 o' g' x' z
    refine ⟨t', q1, hs _ _ q2 ?_⟩
    exact ne_of q2 h1 (by intro z; cases z)
theorem sc_table : FnScope ["image", "table", "number", "operation", "argument", "successor"] ["image"] (defScope s_table_of) := ⟨rfl, rfl, rfl, by decide +kernel, rfl, by decide +kernel, by decide +kernel⟩
theorem ok_table (W : Wd K mg w) : Cal P w K mg base 2 "table_of" (spTable K) := by
  obtain ⟨fd, F⟩ := W.d_table_of
  have GN := ok_nodes (P := P) (base := base) W
  refine ⟨_, fd, ["image"], F.ok sc_table (fun vs H Q E h => ?_) (fun cdv A outer s H vs Q E hr h => ?_), W.g_table_of, W.p_table_of, F.bindsN fun _ _ _ _ _ _ us hl => match us, hl with | [_], _ => rfl⟩
  · obtain ⟨a, l, rfl, _⟩ := h
    rfl
  · obtain ⟨a, l, rfl, hS, hl, k⟩ := h
    refine ⟨_, PSs.nox (pss_cons (ps_set (i := 1) sc_table.nd rfl (Or.inl rfl) pe_dnewK)
      (pss_cons (ps_for PassesOwn.never rfl (pi_list (pe_c GN hr (Nat.le_refl _) rfl (pa_cons (pv 0) pa_nil)))
        (pg_tup rfl (pgs_cons (pg_name (i := 2) sc_table.nd rfl (Or.inl rfl)) (pgs_cons (pg_name (i := 3) sc_table.nd rfl (Or.inl rfl)) (pgs_cons (pg_name (i := 4) sc_table.nd rfl (Or.inl rfl)) (pgs_cons (pg_name (i := 5) sc_table.nd rfl (Or.inl rfl)) pgs_nil)))))
        (pss_one (ps_dput (hu_of hr) (pv 1) (pv 2) (pe_tup (pa_cons (pv 3) (pa_cons (pv 4) (pa_cons (pv 5) pa_nil)))) rfl)))
      (pss_one (ps_ret (pv 1))))), ?_⟩
    intro d hd
    have s1 : Same H (upd H d (.dK [])) := same_upd (Same.refl H) hd
    refine ⟨_, rfl, a, l, rfl, s1.seq hS, hl, fun H1 q tt s2 hq hq1 hl1 ht1 => ?_⟩
    have nqd : q ≠ d := fun e => by rw [e, upd_same] at hq; cases hq
    refine ⟨q, rfl, ⟨_, SqL.of hq1⟩, ?_⟩
    refine for_it walk_list (fun i σ H' => ∃ (kvs : List (Key × V)) (v2 v3 v4 v5 : Option V), σ = [some (.ref a), some (.ref d), v2, v3, v4, v5] ∧ (∀ b u, H1 b = some u → b ≠ d → H' b = some u) ∧ H' d = some (.dK kvs) ∧ kvs.length ≤ i ∧
      ∀ a : Int, (TW.tabR (l.take i).reverse a = none → valV kvs (Sum.inl a : Key) = none) ∧ ∀ o g x, TW.tabR (l.take i).reverse a = some (o, g, x) → ∃ t, valV kvs (Sum.inl a : Key) = some (.ref t) ∧ H' t = some (.tup [.int o, .int g, .int x]))
      ⟨[], none, none, none, none, rfl, fun _ _ e _ => e, s2 _ _ upd_same, Nat.le_refl _, fun a => ⟨fun _ => rfl, fun o g x z => by cases z⟩⟩
      (fun i σ H' _ ⟨kvs, _, _, _, _, _, hk, _⟩ => SqL.of (hk _ _ hq1 nqd)) ?_ ?_
    · rintro i v σ H2 H3 hi ⟨kvs, v2, v3, v4, v5, rfl, hk, hdd, hlk, htab⟩ ⟨rfl, hv⟩
      rw [List.length_map] at hi
      rw [List.getElem?_map, List.getElem?_eq_getElem hi] at hv
      obtain rfl := Option.some.inj hv
      have hil : i < l.length := by omega
      obtain ⟨x, hx⟩ : ∃ x, l[i]? = some x := ⟨l[i], List.getElem?_eq_getElem hil⟩
      have hti := ht1 i tt[i] x (List.getElem?_eq_getElem hi) hx
      obtain ⟨n, o, g, y⟩ := x
      have ntd : tt[i] ≠ d := fun e => by
        have h2 := s2 _ _ (upd_same (H := H) (a := d) (o := .dK []))
        rw [← e, hti] at h2
        cases h2
      have hti2 := hk _ _ hti ntd
      refine ⟨tt[i], _, rfl, SqT.of hti2, rfl, _, _, rfl, _, _, rfl, _, _, rfl, _, _, rfl, rfl, ?_⟩
      refine ⟨_, rfl, _, rfl, _, rfl, (by show 3 ≤ sizeLine; decide), fun t ht => ?_⟩
      have ntd2 : d ≠ t := ne_of_none hdd ht
      refine ⟨_, rfl, _, rfl, d, _, rfl, DPut.k (k := Sum.inl n) (kvs := kvs) (by rw [upd_ne ntd2]; exact hdd) (Nat.lt_of_le_of_lt hlk (Nat.lt_of_lt_of_le hil (Nat.le_trans hl (by decide)))), ?_⟩
      refine ⟨putK kvs (Sum.inl n : Key) (.ref t), _, _, _, _, rfl, fun b u e nb => ?_, upd_same, ?_, ?_⟩
      · have e2 := hk _ _ e nb
        rw [upd_ne nb, upd_ne (ne_of_none e2 ht)]
        exact e2
      · have := putK_len kvs (Sum.inl n : Key) (.ref t)
        omega
      · have et : (l.take (i + 1)).reverse = (n, o, g, y) :: (l.take i).reverse := by
          rw [List.take_add_one, hx, List.reverse_append]
          rfl
        rw [et]
        refine tabAt_put hdd htab (fun b u e nb => ?_) ?_
        · rw [upd_ne nb, upd_ne (ne_of_none e ht)]
          exact e
        · rw [upd_ne ntd2.symm, upd_same]
    · rintro σ H2 ⟨kvs, v2, v3, v4, v5, rfl, hk, hdd, hlk, htab⟩
      refine ⟨_, rfl, k H2 d (fun b u e => ?_) hd ⟨kvs, hdd, ?_⟩⟩
      · exact hk _ _ (s2 _ _ (s1 _ _ e)) (ne_of_none e hd)
      · rw [List.length_map, hl1, List.take_length] at htab
        exact htab
end
end Pz
end
set_option Elab.async false
set_option linter.all false
set_option maxRecDepth 100000
set_option maxHeartbeats 4000000
/-! State.__init__, run, child_of. -/
noncomputable section
namespace Pz
open PySem PySem.Spec PyProof.Rows L2
/-- all but p stands as it was -/
def Kp (p : Addr) (H H' : Hp) : Prop := ∀ b o, H b = some o → b ≠ p → H' b = some o
theorem Kp.refl (p : Addr) (H : Hp) : Kp p H H := fun _ _ h _ => h
theorem Kp.trans {p : Addr} {H H1 H2 : Hp} (a : Kp p H H1) (b : Kp p H1 H2) : Kp p H H2 := fun c o h n => b c o (a c o h n) n
theorem Kp.same {p : Addr} {H H1 : Hp} (a : Same H H1) : Kp p H H1 := fun c o h _ => a c o h
theorem Kp.new {p a : Addr} {H H1 : Hp} (k : Kp p H H1) (h : H1 a = none) (o : HO) : Kp p H (upd H1 a o) := fun c u e n => by
  have := k c u e n
  rw [upd_ne (ne_of_none this h)]
  exact this
theorem Kp.at {p : Addr} {H H1 : Hp} (k : Kp p H H1) (o : HO) : Kp p H (upd H1 p o) := fun c u e n => by
  rw [upd_ne n]
  exact k c u e n
/-- a heap without these five -/
def del (r : Rf) (H : Hp) : Hp := fun a => if a = r.p ∨ a = r.st ∨ a = r.so ∨ a = r.bk ∨ a = r.ou then none else H a
theorem del_ne {r : Rf} {H : Hp} {a : Addr} (h : ¬ (a = r.p ∨ a = r.st ∨ a = r.so ∨ a = r.bk ∨ a = r.ou)) : del r H a = H a := by
  unfold del
  rw [if_neg h]
section
variable {P : Program} {w : World} {K : PySem.W.Frag} {mg : Str → Option Value} {base : Heap}
def spInit (K : PySem.W.Frag) : Sp := fun vs H Q _ => ∃ (p dx a c : Addr) (l : List TW.Node) (ns : List Int), vs = [.ref p, .ref a, .ref c] ∧ H p = some (.ins (CS K) dx []) ∧ SqL K H a ((cells l).map V.int) ∧ l.length ≤ 1000 ∧ SqL K H c (ns.map V.int) ∧
  ∀ (H' H0 : Hp) (r : Rf), r.p = p → StAt K (CS K) H0 H' r (TW.tabR l.reverse) ns (TW.init ns) 0 0 0 → (∀ b o, H b = some o → b ≠ p → H0 b = some o) → Q .non H'
theorem sc_init : FnScope ["self", "image", "numbers"] ["self", "image", "numbers"] (defScope s_init) := ⟨rfl, rfl, rfl, by decide +kernel, rfl, by decide +kernel, by decide +kernel⟩
theorem fl_all (r : Rf) : putF "steps" (.int 0) (putF "output" (.ref r.ou) (putF "place" (.int 0) (putF "back" (.ref r.bk) (putF "store" (.ref r.so) (putF "stack" (.ref r.st) (putF "at" (.int 0) (putF "table" (.ref r.tb) (putF "numbers" (.ref r.nu) (putF "image" (.ref r.im) []))))))))) = fl r 0 0 0 := by kernel_rfl
theorem putF_len (f : Str) (v : V) : ∀ fs : List (Str × V), (putF f v fs).length ≤ fs.length + 1
  | [] => Nat.le_refl _
  | (g, x) :: q => by
    unfold putF
    split
    · exact Nat.le_succ _
    · have := putF_len f v q
      simp only [List.length_cons]
      omega
theorem lt1000 {n : Nat} (h : n ≤ 20) : n < 1000 := by omega
theorem SqL.kp {p : Addr} {H H' : Hp} {a : Addr} {xs : List V} {o : HO} (hp : H p = some o) (hn : ∀ ys, o ≠ .lst ys) (hf : ∀ q u, o ≠ .frz q u) (k : Kp p H H') (h : SqL K H a xs) : SqL K H' a xs := by
  rcases h with (h | ⟨q, h⟩) | h
  · refine .inl (.inl (k _ _ h fun e => ?_))
    subst e
    rw [hp] at h
    exact hn _ (Option.some.inj h)
  · refine .inl (.inr ⟨q, k _ _ h fun e => ?_⟩)
    subst e
    rw [hp] at h
    exact hf _ _ (Option.some.inj h)
  · exact .inr h
theorem ok_init (W : Wd K mg w) : ∃ fd, FnOk P w K mg base CX0 3 (He.ma K (CS K) "__init__") fd ["self", "image", "numbers"] (spInit K) ∧ Binds K fd ["self", "image", "numbers"] [] := by
  obtain ⟨fd, F⟩ := W.d_init
  have GT := ok_table (P := P) (base := base) W
  refine ⟨fd, F.ok sc_init (fun vs H Q E h => ?_) (fun cdv A outer s H vs Q E hr h => ?_), F.bindsN fun _ _ _ _ _ _ us hl => match us, hl with | [_, _, _], _ => rfl⟩
  · obtain ⟨p, dx, a, c, l, ns, rfl, _⟩ := h
    rfl
  · obtain ⟨p, dx, a, c, l, ns, rfl, hp, ha, hl, hc, k⟩ := h
    refine ⟨_, PSs.nox (pss_cons (ps_fld (pv 0) (pe_callTy call_list_of (by rfl) W.no_list (by decide +kernel) (pa_cons (pv 1) pa_nil)) rfl)
      (pss_cons (ps_fld (pv 0) (pe_callTy call_list_of (by rfl) W.no_list (by decide +kernel) (pa_cons (pv 2) pa_nil)) rfl)
      (pss_cons (ps_fld (pv 0) (pe_c GT hr (Nat.le_refl _) rfl (pa_cons (pv 1) pa_nil)) rfl)
      (pss_cons (ps_fld (pv 0) pe_int rfl)
      (pss_cons (ps_fld (pv 0) (pe_lst pa_nil) rfl)
      (pss_cons (ps_fld (pv 0) pe_dnewK rfl)
      (pss_cons (ps_fld (pv 0) (pe_lst pa_nil) rfl)
      (pss_cons (ps_fld (pv 0) pe_int rfl)
      (pss_cons (ps_fld (pv 0) (pe_lst pa_nil) rfl)
      (pss_one (ps_fld (pv 0) pe_int rfl))))))))))), ?_⟩
    -- image
    refine ⟨_, rfl, a, _, rfl, .inl ha, fun im him => ?_⟩
    have k1 : Kp p H (upd H im (.lst ((cells l).map V.int))) := (Kp.refl p H).new him _
    have p1 : (upd H im (.lst ((cells l).map V.int))) p = some (.ins (CS K) dx []) := by rw [upd_ne (ne_of_none hp him)]; exact hp
    refine ⟨_, rfl, p, CS K, dx, [], rfl, p1, W.c_State, W.n_image, lt1000 (Nat.zero_le _), ?_⟩
    generalize hH1 : upd (upd H im (.lst ((cells l).map V.int))) p (.ins (CS K) dx (putF "image" (.ref im) [])) = H1
    have k1 : Kp p H H1 := by rw [← hH1]; exact k1.at _
    have p1 : H1 p = some (.ins (CS K) dx (putF "image" (.ref im) [])) := by rw [← hH1]; exact upd_same
    -- numbers
    refine ⟨_, rfl, c, _, rfl, .inl (SqL.kp hp (by intro ys z; cases z) (by intro q u z; cases z) k1 hc), fun nu hnu => ?_⟩
    have n2 : (upd H1 nu (.lst (ns.map V.int))) p = some (.ins (CS K) dx (putF "image" (.ref im) [])) := by rw [upd_ne (ne_of_none p1 hnu)]; exact p1
    refine ⟨_, rfl, p, CS K, dx, _, rfl, n2, W.c_State, W.n_numbers, lt1000 (by show 1 ≤ 20; decide), ?_⟩
    have npn : nu ≠ p := fun e => by rw [e, p1] at hnu; cases hnu
    generalize hH2 : upd (upd H1 nu (.lst (ns.map V.int))) p (.ins (CS K) dx (putF "numbers" (.ref nu) (putF "image" (.ref im) []))) = H2
    have k2 : Kp p H1 H2 := by rw [← hH2]; exact ((Kp.refl p H1).new hnu _).at _
    have p2 : H2 p = some (.ins (CS K) dx (putF "numbers" (.ref nu) (putF "image" (.ref im) []))) := by rw [← hH2]; exact upd_same
    have u2 : H2 nu = some (.lst (ns.map V.int)) := by rw [← hH2, upd_ne npn]; exact upd_same
    -- table
    refine ⟨_, rfl, a, l, rfl, SqL.kp hp (by intro ys z; cases z) (by intro q u z; cases z) (k1.trans k2) ha, hl, fun H3 tb s3 htb t3 => ?_⟩
    refine ⟨_, rfl, p, CS K, dx, _, rfl, s3 _ _ p2, W.c_State, W.n_table, lt1000 (by show 2 ≤ 20; decide), ?_⟩
    have npt : tb ≠ p := fun e => by rw [e, p2] at htb; cases htb
    generalize hH4 : upd H3 p (.ins (CS K) dx (putF "table" (.ref tb) (putF "numbers" (.ref nu) (putF "image" (.ref im) [])))) = H4
    have k4 : Kp p H2 H4 := by rw [← hH4]; exact (Kp.same s3).at _
    have p4 : H4 p = some (.ins (CS K) dx (putF "table" (.ref tb) (putF "numbers" (.ref nu) (putF "image" (.ref im) [])))) := by rw [← hH4]; exact upd_same
    -- at
    refine ⟨_, rfl, p, CS K, dx, _, rfl, p4, W.c_State, W.n_at, lt1000 (by show 3 ≤ 20; decide), ?_⟩
    generalize hH5 : upd H4 p (.ins (CS K) dx (putF "at" (.int 0) (putF "table" (.ref tb) (putF "numbers" (.ref nu) (putF "image" (.ref im) []))))) = H5
    have k5 : Kp p H4 H5 := by rw [← hH5]; exact (Kp.refl p H4).at _
    have p5 : H5 p = some (.ins (CS K) dx (putF "at" (.int 0) (putF "table" (.ref tb) (putF "numbers" (.ref nu) (putF "image" (.ref im) []))))) := by rw [← hH5]; exact upd_same
    -- stack
    refine ⟨Nat.zero_le _, fun st hst => ?_⟩
    refine ⟨_, rfl, p, CS K, dx, _, rfl, (by rw [upd_ne (ne_of_none p5 hst)]; exact p5), W.c_State, W.n_stack, lt1000 (by show 4 ≤ 20; decide), ?_⟩
    have nps : st ≠ p := fun e => by rw [e, p5] at hst; cases hst
    generalize hH6 : upd (upd H5 st (.lst [])) p (.ins (CS K) dx (putF "stack" (.ref st) (putF "at" (.int 0) (putF "table" (.ref tb) (putF "numbers" (.ref nu) (putF "image" (.ref im) [])))))) = H6
    have k6 : Kp p H5 H6 := by rw [← hH6]; exact ((Kp.refl p H5).new hst _).at _
    have p6 : H6 p = some (.ins (CS K) dx (putF "stack" (.ref st) (putF "at" (.int 0) (putF "table" (.ref tb) (putF "numbers" (.ref nu) (putF "image" (.ref im) [])))))) := by rw [← hH6]; exact upd_same
    have u6 : H6 st = some (.lst []) := by rw [← hH6, upd_ne nps]; exact upd_same
    -- store
    intro so hso
    refine ⟨_, rfl, p, CS K, dx, _, rfl, (by rw [upd_ne (ne_of_none p6 hso)]; exact p6), W.c_State, W.n_store, lt1000 (by show 5 ≤ 20; decide), ?_⟩
    have npo : so ≠ p := fun e => by rw [e, p6] at hso; cases hso
    generalize hH7 : upd (upd H6 so (.dK [])) p (.ins (CS K) dx (putF "store" (.ref so) (putF "stack" (.ref st) (putF "at" (.int 0) (putF "table" (.ref tb) (putF "numbers" (.ref nu) (putF "image" (.ref im) []))))))) = H7
    have k7 : Kp p H6 H7 := by rw [← hH7]; exact ((Kp.refl p H6).new hso _).at _
    have p7 : H7 p = some (.ins (CS K) dx (putF "store" (.ref so) (putF "stack" (.ref st) (putF "at" (.int 0) (putF "table" (.ref tb) (putF "numbers" (.ref nu) (putF "image" (.ref im) []))))))) := by rw [← hH7]; exact upd_same
    have u7 : H7 so = some (.dK []) := by rw [← hH7, upd_ne npo]; exact upd_same
    -- back
    refine ⟨Nat.zero_le _, fun bk hbk => ?_⟩
    refine ⟨_, rfl, p, CS K, dx, _, rfl, (by rw [upd_ne (ne_of_none p7 hbk)]; exact p7), W.c_State, W.n_back, lt1000 (by show 6 ≤ 20; decide), ?_⟩
    have npb : bk ≠ p := fun e => by rw [e, p7] at hbk; cases hbk
    generalize hH8 : upd (upd H7 bk (.lst [])) p (.ins (CS K) dx (putF "back" (.ref bk) (putF "store" (.ref so) (putF "stack" (.ref st) (putF "at" (.int 0) (putF "table" (.ref tb) (putF "numbers" (.ref nu) (putF "image" (.ref im) [])))))))) = H8
    have k8 : Kp p H7 H8 := by rw [← hH8]; exact ((Kp.refl p H7).new hbk _).at _
    have p8 : H8 p = some (.ins (CS K) dx (putF "back" (.ref bk) (putF "store" (.ref so) (putF "stack" (.ref st) (putF "at" (.int 0) (putF "table" (.ref tb) (putF "numbers" (.ref nu) (putF "image" (.ref im) [])))))))) := by rw [← hH8]; exact upd_same
    have u8 : H8 bk = some (.lst []) := by rw [← hH8, upd_ne npb]; exact upd_same
    -- place
    refine ⟨_, rfl, p, CS K, dx, _, rfl, p8, W.c_State, W.n_place, lt1000 (by show 7 ≤ 20; decide), ?_⟩
    generalize hH9 : upd H8 p (.ins (CS K) dx (putF "place" (.int 0) (putF "back" (.ref bk) (putF "store" (.ref so) (putF "stack" (.ref st) (putF "at" (.int 0) (putF "table" (.ref tb) (putF "numbers" (.ref nu) (putF "image" (.ref im) []))))))))) = H9
    have k9 : Kp p H8 H9 := by rw [← hH9]; exact (Kp.refl p H8).at _
    have p9 : H9 p = some (.ins (CS K) dx (putF "place" (.int 0) (putF "back" (.ref bk) (putF "store" (.ref so) (putF "stack" (.ref st) (putF "at" (.int 0) (putF "table" (.ref tb) (putF "numbers" (.ref nu) (putF "image" (.ref im) []))))))))) := by rw [← hH9]; exact upd_same
    -- output
    refine ⟨Nat.zero_le _, fun ou hou => ?_⟩
    refine ⟨_, rfl, p, CS K, dx, _, rfl, (by rw [upd_ne (ne_of_none p9 hou)]; exact p9), W.c_State, W.n_output, lt1000 (by show 8 ≤ 20; decide), ?_⟩
    have npu : ou ≠ p := fun e => by rw [e, p9] at hou; cases hou
    generalize hHA : upd (upd H9 ou (.lst [])) p (.ins (CS K) dx (putF "output" (.ref ou) (putF "place" (.int 0) (putF "back" (.ref bk) (putF "store" (.ref so) (putF "stack" (.ref st) (putF "at" (.int 0) (putF "table" (.ref tb) (putF "numbers" (.ref nu) (putF "image" (.ref im) [])))))))))) = HA
    have kA : Kp p H9 HA := by rw [← hHA]; exact ((Kp.refl p H9).new hou _).at _
    have pA : HA p = some (.ins (CS K) dx (putF "output" (.ref ou) (putF "place" (.int 0) (putF "back" (.ref bk) (putF "store" (.ref so) (putF "stack" (.ref st) (putF "at" (.int 0) (putF "table" (.ref tb) (putF "numbers" (.ref nu) (putF "image" (.ref im) [])))))))))) := by rw [← hHA]; exact upd_same
    have uA : HA ou = some (.lst []) := by rw [← hHA, upd_ne npu]; exact upd_same
    -- steps
    refine ⟨_, rfl, p, CS K, dx, _, rfl, pA, W.c_State, W.n_steps, lt1000 (by show 9 ≤ 20; decide), ?_⟩
    have eB : putF "steps" (.int 0) (putF "output" (.ref ou) (putF "place" (.int 0) (putF "back" (.ref bk) (putF "store" (.ref so) (putF "stack" (.ref st) (putF "at" (.int 0) (putF "table" (.ref tb) (putF "numbers" (.ref nu) (putF "image" (.ref im) []))))))))) = fl ⟨p, dx, im, nu, tb, st, so, bk, ou⟩ 0 0 0 := fl_all ⟨p, dx, im, nu, tb, st, so, bk, ou⟩
    rw [eB]
    generalize hr : (⟨p, dx, im, nu, tb, st, so, bk, ou⟩ : Rf) = r
    obtain ⟨e1, e2, e3, e4, e5, e6, e7, e8, e9⟩ : r.p = p ∧ r.dx = dx ∧ r.im = im ∧ r.nu = nu ∧ r.tb = tb ∧ r.st = st ∧ r.so = so ∧ r.bk = bk ∧ r.ou = ou := by
      rw [← hr]
      exact ⟨rfl, rfl, rfl, rfl, rfl, rfl, rfl, rfl, rfl⟩
    generalize hHB : upd HA p (.ins (CS K) dx (fl r 0 0 0)) = HB
    have kB : Kp p HA HB := by rw [← hHB]; exact (Kp.refl p HA).at _
    have pB : HB p = some (.ins (CS K) dx (fl r 0 0 0)) := by rw [← hHB]; exact upd_same
    have k9B : Kp p H9 HB := kA.trans kB
    have k8B : Kp p H8 HB := k9.trans k9B
    have k7B : Kp p H7 HB := k8.trans k8B
    have k6B : Kp p H6 HB := k7.trans k7B
    have k5B : Kp p H5 HB := k6.trans k6B
    have k35 : Kp p H3 H5 := by
      refine Kp.trans ?_ k5
      rw [← hH4]
      exact (Kp.refl p H3).at _
    have stB := k6B _ _ u6 nps
    have soB := k7B _ _ u7 npo
    have bkB := k8B _ _ u8 npb
    have ouB := kB _ _ uA npu
    have keep : ∀ b u, H3 b = some u → b ≠ p → del r HB b = some u := fun b u eb nb => by
      have q5 := k35 b u eb nb
      have q6 := k6 b u q5 nb
      have q7 := k7 b u q6 nb
      have q9 := k9 b u (k8 b u q7 nb) nb
      rw [del_ne]
      · exact k9B b u q9 nb
      · rw [e1, e6, e7, e8, e9]
        rintro (z | z | z | z | z)
        · exact nb z
        · rw [z, hst] at q5; cases q5
        · rw [z, hso] at q6; cases q6
        · rw [z, hbk] at q7; cases q7
        · rw [z, hou] at q9; cases q9
    have p3 := s3 _ _ p2
    have nst_bk : st ≠ bk := fun z => by
      have q := k7 _ _ u6 nps
      rw [z, hbk] at q; cases q
    have q9st := k9 _ _ (k8 _ _ (k7 _ _ u6 nps) nps) nps
    have q9bk := k9 _ _ u8 npb
    have nst_ou : st ≠ ou := fun z => by rw [z, hou] at q9st; cases q9st
    have nbk_ou : bk ≠ ou := fun z => by rw [z, hou] at q9bk; cases q9bk
    have del0 : ∀ {x : Addr}, (x = p ∨ x = st ∨ x = so ∨ x = bk ∨ x = ou) → del r HB x = none := fun {x} hx => by
      unfold del
      rw [e1, e6, e7, e8, e9, if_pos hx]
    refine k HB (del r HB) r e1 ?_ (fun b o eb nb => keep b o (s3 _ _ (k2 _ _ (k1 _ _ eb nb) nb)) nb)
    refine { same := ?_, np := by rw [e1]; exact del0 (.inl rfl), nst := by rw [e6]; exact del0 (.inr (.inl rfl)), nso := by rw [e7]; exact del0 (.inr (.inr (.inl rfl))), nbk := by rw [e8]; exact del0 (.inr (.inr (.inr (.inl rfl)))), nou := by rw [e9]; exact del0 (.inr (.inr (.inr (.inr rfl)))),
             ne1 := by rw [e6, e8]; exact nst_bk, ne2 := by rw [e6, e9]; exact nst_ou, ne3 := by rw [e8, e9]; exact nbk_ou, ob := by rw [e1, e2]; exact pB, st := by rw [e6]; exact stB,
             so := ⟨[], by rw [e7]; exact soB, Nat.le_refl _, fun _ => rfl⟩, bk := by rw [e8]; exact bkB, ou := by rw [e9]; exact ouB, inp := rfl, bst := Nat.le_refl _, bbk := Nat.le_refl _, bou := Nat.le_refl _, tab := ?_, num := ?_ }
    · intro b o eb
      unfold del at eb
      split at eb
      · cases eb
      · exact eb
    · obtain ⟨kvs, c1, c2⟩ := t3
      rw [e5]
      refine ⟨kvs, keep _ _ c1 npt, fun a => ⟨(c2 a).1, fun o g x z => ?_⟩⟩
      obtain ⟨t, d1, d2⟩ := (c2 a).2 o g x z
      exact ⟨t, d1, keep _ _ d2 (ne_of d2 p3 (by intro z; cases z))⟩
    · rw [e4]
      exact SqL.of (keep _ _ (s3 _ _ u2) npn)
/-! ### run -/
def spRun (K : PySem.W.Frag) : Sp := fun vs H Q _ => ∃ (a c : Addr) (l : List TW.Node) (ns : List Int) (fuel j : Nat) (S' : TW.S), vs = [.ref a, .ref c, .int (fuel : Int)] ∧ SqL K H a ((cells l).map V.int) ∧ l.length ≤ 1000 ∧ SqL K H c (ns.map V.int) ∧
  j < fuel ∧ fuel ≤ 100000 ∧ TW.crun (TW.tabR l.reverse) j (TW.init ns) = some S' ∧ TW.tabR l.reverse S'.at' = none ∧
  ∀ (H' : Hp) (t o : Addr), Same H H' → H t = none → H o = none → H' t = some (.tup [.bl true, .ref o, .int (j : Int)]) → H' o = some (.lst (S'.out.reverse.map V.int)) → Q (.ref t) H'
theorem sc_run : FnScope ["image", "numbers", "fuel", "state", "steps"] ["image", "numbers", "fuel"] (defScope s_run) := ⟨rfl, rfl, rfl, by decide +kernel, rfl, by decide +kernel, by decide +kernel⟩
theorem ok_run (W : Wd K mg w) : ∃ fd, FnOk P w K mg base CX0 5 (He.ga K "run") fd ["image", "numbers", "fuel"] (spRun K) ∧ KBn K fd ["image", "numbers", "fuel"] 2 ["fuel"] (fun us ws => us ++ ws) (fun vs zs => vs ++ zs) := by
  obtain ⟨fd, F⟩ := W.d_run
  obtain ⟨fdI, GI, bI⟩ := ok_init (P := P) (base := base) W
  obtain ⟨fdA, GA, bA⟩ := ok_advance (P := P) (base := base) W
  obtain ⟨fdE, GE, bE⟩ := ok_ended (P := P) (base := base) W
  refine ⟨fd, F.ok sc_run (fun vs H Q E h => ?_) (fun cdv A outer s H vs Q E hr h => ?_), ?_⟩
  · obtain ⟨a, c, l, ns, fuel, j, S', rfl, _⟩ := h
    rfl
  · obtain ⟨a, c, l, ns, fuel, j, S', rfl, ha, hl, hc, hj, hf, hrun, hend, k⟩ := h
    refine ⟨_, PSs.nox (pss_cons (ps_set (i := 3) sc_run.nd rfl (Or.inl rfl) (pe_make W.k_State GI hr rfl W.g_State bI .nil pass0 (pa_cons (pv 0) (pa_cons (pv 1) pa_nil))))
      (pss_cons (ps_set (i := 4) sc_run.nd rfl (Or.inl rfl) (pe_methK (pv 3) W.c_State W.m_advance GA hr bA pass0 (pk_cons (pv 2) pk_nil)))
      (pss_one (ps_ret (pe_tup (pa_cons (pe_meth0 (pv 3) W.c_State W.m_has_ended GE (hr.mono (by decide)) bE .nil pass0) (pa_cons (pe_fld (pv 3) rfl) (pa_cons (pv 4) pa_nil)))))))), ?_⟩
    refine ⟨_, rfl, _, rfl, ?_⟩
    intro x dx nx ndx nex
    have s0 : Same H (upd (upd H dx (.own x)) x (.ins (CS K) dx [])) := same_upd (same_upd (Same.refl H) ndx) nx
    refine ⟨x, dx, a, c, l, ns, rfl, upd_same, s0.seq ha, hl, s0.seq hc, fun H1 H0 r er h1 hk => ⟨rfl, ?_⟩⟩
    have s1 : Same H H0 := fun b o e => hk b o (s0 b o e) (ne_of_none e nx)
    subst er
    refine ⟨_, rfl, r.p, r.dx, _, rfl, h1.ob, lk_advance, _, rfl, rfl, H0, r, _, ns, _, S', j, fuel, rfl, h1, hj, hf, hrun, hend, fun H2 pl2 h2 => ?_⟩
    refine ⟨_, rfl, r.p, r.dx, _, rfl, h2.ob, lk_has_ended, H0, r, _, ns, _, pl2, j, j, rfl, h2, ?_⟩
    rw [hend]
    refine ⟨_, rfl, r.p, CS K, r.dx, _, _, rfl, h2.ob, W.c_State, W.n_output, lk_output, _, rfl, (by show 3 ≤ sizeLine; decide), fun t ht => ?_⟩
    have no : H r.ou = none := s1.free h2.nou
    have nto : r.ou ≠ t := ne_of_none h2.ou ht
    refine k _ t r.ou (fun b o e => ?_) (s1.free (h2.same.free ht)) no upd_same (by rw [upd_ne nto]; exact h2.ou)
    have e2 := h2.same _ _ (s1 _ _ e)
    rw [upd_ne (ne_of_none e2 ht)]
    exact e2
  · obtain ⟨oc, od, dV, kV, doc, pm, an, cdv, ct, osl, rfl, lk, hcd, hD, hK⟩ := F.ex
    rcases hD with ⟨_, rfl⟩ | ⟨e, _⟩
    · exact ⟨fun s us ws _ l1 l2 => match us, ws, l1, l2 with | [_, _], [_], _, _ => .of_eq rfl, fun r1 r2 => r1.append r2⟩
    · exact absurd rfl e
/-! ### child_of -/
/-- the cells of nodes that are told last first -/
def cellsR (l : List TW.Node) : List Int := (TW.flat l).reverse
theorem cellsR_eq (l : List TW.Node) : cellsR l = cells l.reverse := flat_cells l
/-- an image (its nodes last first) that translates, and a text -/
structure Tr (img : List TW.Node) (f0 d0 : Int) (codes : List Int) : Prop where
  tr : TW.Trans img f0 d0
  len : img.length ≤ 1000
  lo : codes.length ≤ 600
  ok : ∀ c ∈ codes, 0 ≤ c ∧ c ≤ 126
def spChildOf (K : PySem.W.Frag) : Sp := fun vs H Q _ => ∃ (a c : Addr) (img : List TW.Node) (f0 d0 : Int) (codes : List Int), vs = [.ref a, .ref c, .int 100000] ∧ SqL K H a ((cellsR img).map V.int) ∧ SqL K H c (codes.map V.int) ∧ Tr img f0 d0 codes ∧
  ∀ (H' : Hp) (o : Addr), Same H H' → H o = none → H' o = some (.lst ((cellsR (TW.twigR codes f0 d0)).map V.int)) → Q (.ref o) H'
theorem sc_child_of : FnScope ["binary", "codes", "fuel", "ended", "output", "_"] ["binary", "codes", "fuel"] (defScope s_child_of) := ⟨rfl, rfl, rfl, by decide +kernel, rfl, by decide +kernel, by decide +kernel⟩
theorem ok_child_of (W : Wd K mg w) : Cal P w K mg base 6 "child_of" (spChildOf K) := by
  obtain ⟨fd, F⟩ := W.d_child_of
  obtain ⟨fdR, GR, bR⟩ := ok_run (P := P) (base := base) W
  refine ⟨_, fd, ["binary", "codes", "fuel"], F.ok sc_child_of (fun vs H Q E h => ?_) (fun cdv A outer s H vs Q E hr h => ?_), W.g_child_of, W.p_child_of, F.bindsN fun _ _ _ _ _ _ us hl => match us, hl with | [_, _, _], _ => rfl⟩
  · obtain ⟨a, c, img, f0, d0, codes, rfl, _⟩ := h
    rfl
  · obtain ⟨a, c, img, f0, d0, codes, rfl, ha, hc, tr, k⟩ := h
    refine ⟨_, PSs.nox (pss_cons (ps_asg (pe_callN GR hr rfl W.g_run W.p_run bR pass0 (pa_cons (pv 0) (pa_cons (pv 1) pa_nil)) (pk_cons (pv 2) pk_nil))
        (pg_tup rfl (pgs_cons (pg_name (i := 3) sc_child_of.nd rfl (Or.inl rfl)) (pgs_cons (pg_name (i := 4) sc_child_of.nd rfl (Or.inl rfl)) (pgs_cons (pg_name (i := 5) sc_child_of.nd rfl (Or.inl rfl)) pgs_nil)))))
      (pss_cons (ps_if (pt_val (pv 3)) (pss_one (ps_ret (pv 4))) pss_nil) (pss_one (ps_ret pe_non)))), ?_⟩
    obtain ⟨j, S', hj, hrun, hend, hout⟩ := tr.tr codes tr.ok
    have hlo := tr.lo
    have ha' : SqL K H a ((cells img.reverse).map V.int) := by rw [← cellsR_eq]; exact ha
    refine ⟨_, rfl, _, rfl, _, rfl, rfl, rfl, a, c, img.reverse, codes, 100000, j, S', rfl, ha', by rw [List.length_reverse]; exact tr.len, hc, by omega, Nat.le_refl _, by rw [List.reverse_reverse]; exact hrun, by rw [List.reverse_reverse]; exact hend, fun H1 t o s1 nt no ht ho => ?_⟩
    refine ⟨t, _, rfl, SqT.of ht, rfl, _, _, rfl, _, _, rfl, _, _, rfl, rfl, ?_⟩
    refine ⟨_, rfl, true, rfl, ?_⟩
    refine iteT ?_
    refine ⟨_, rfl, ?_⟩
    rw [hout] at ho
    exact k H1 o s1 no ho
end
end Pz
end
set_option Elab.async false
set_option linter.all false
set_option maxRecDepth 100000
set_option maxHeartbeats 4000000
/-! Codes, children, generations, double compilation, texts. -/
noncomputable section
namespace Pz
open PySem PySem.Spec PyProof.Rows L2
/-- the codes of a text -/
def codesOf (z : Str) : List Int := z.cps.toList.map fun c : Nat => (c : Int)
/-- a text of allowed signs -/
structure Tx (z : Str) : Prop where
  ok : ∀ c ∈ z.cps.toList, c = 10 ∨ c ∈ printable.cps.toList
  len : z.length ≤ 600
theorem printable_ok : ∀ c ∈ printable.cps.toList, c ≤ 126 := by decide +kernel
theorem Tx.range {z : Str} (h : Tx z) : ∀ c ∈ codesOf z, 0 ≤ c ∧ c ≤ 126 := by
  intro c hc
  obtain ⟨x, hx, rfl⟩ := List.mem_map.mp hc
  rcases h.ok x hx with rfl | q
  · exact ⟨by decide, by decide⟩
  · have := printable_ok x q
    omega
theorem codesOf_len (z : Str) : (codesOf z).length = z.length := by
  unfold codesOf
  rw [List.length_map]
  rfl
section
variable {P : Program} {w : World} {K : PySem.W.Frag} {mg : Str → Option Value} {base : Heap}
/-! ### codes_of -/
def spCodes : Sp := fun vs H Q _ => ∃ z : Str, vs = [.str z] ∧ Tx z ∧ ∀ (H' : Hp) (o : Addr), Same H H' → H o = none → H' o = some (.lst ((codesOf z).map V.int)) → Q (.ref o) H'
theorem sc_codes : FnScope ["text", "codes", "char"] ["text"] (defScope s_codes_of) := ⟨rfl, rfl, rfl, by decide +kernel, rfl, by decide +kernel, by decide +kernel⟩
theorem ok_codes (W : Wd K mg w) : Cal P w K mg base 1 "codes_of" spCodes := by
  obtain ⟨fd, F⟩ := W.d_codes_of
  obtain ⟨tp, gp⟩ := W.z_PRINTABLE
  refine ⟨_, fd, ["text"], F.ok sc_codes (fun vs H Q E h => ?_) (fun cdv A outer s H vs Q E hr h => ?_), W.g_codes_of, W.p_codes_of, F.bindsN fun _ _ _ _ _ _ us hl => match us, hl with | [_], _ => rfl⟩
  · obtain ⟨z, rfl, _⟩ := h
    rfl
  · obtain ⟨z, rfl, hz, k⟩ := h
    refine ⟨_, PSs.nox (pss_cons (ps_set (i := 1) sc_codes.nd rfl (Or.inl rfl) (pe_lst pa_nil))
      (pss_cons (ps_for PassesOwn.never rfl (pi_str (pv 0)) (pg_name (i := 2) sc_codes.nd rfl (Or.inl rfl))
        (pss_cons (ps_if (PW.pt (pw_and (pt_cmpR op_ne (pv 2) pe_str (nomark _)) (pw_and1 (pt_cmpR op_notIn_sign (pv 2) (pe_glob rfl gp (v := .str printable) ⟨_, rfl⟩) (by rfl))))) (pss_one ps_never) pss_nil)
          (pss_one (ps_expr (pe_bm PySem.F.plainAttrs_list PySem.F.slot_list_append PySem.F.type_list_append mt_append (pv 1) (pa_cons (pe_callB call_ord (by rfl) W.no_ord (by decide +kernel) (pa_cons (pv 2) pa_nil)) pa_nil))))))
      (pss_one (ps_ret (pv 1))))), ?_⟩
    refine ⟨Nat.zero_le _, fun o ho => ?_⟩
    refine ⟨_, rfl, z, rfl, ?_⟩
    have hsz : z.cps.size = (codesOf z).length := by rw [codesOf_len]; rfl
    refine for_it walk_str (fun i σ H' => ∃ v : Option V, σ = [some (.str z), some (.ref o), v] ∧ Same H H' ∧ H' o = some (.lst (((codesOf z).take i).map V.int)))
      ⟨none, rfl, same_upd (Same.refl H) ho, upd_same⟩ (fun _ _ _ _ _ => trivial) ?_ ?_
    · rintro i v σ H1 H2 hi ⟨v2, rfl, s1, ho1⟩ ⟨rfl, c, hc, rfl⟩
      have hcm : c ∈ z.cps.toList := by
        rw [← Array.getElem?_toList] at hc
        exact List.mem_of_getElem? hc
      have hcode : (codesOf z)[i]? = some (c : Int) := by
        unfold codesOf
        rw [List.getElem?_map, Array.getElem?_toList, hc]
        rfl
      have htk : (codesOf z).take (i + 1) = (codesOf z).take i ++ [(c : Int)] := by
        rw [List.take_add_one, hcode]
        rfl
      have hln : ((codesOf z).take i).length ≤ 600 := by
        rw [List.length_take, codesOf_len]
        have := hz.len
        omega
      refine ⟨_, rfl, rfl, _, rfl, ?_⟩
      by_cases hn : V.str ⟨#[c]⟩ = V.str (Str.ofString "\n")
      · rw [decide_eq_true hn]
        refine iteF ?_
        refine iteF ?_
        refine ⟨_, rfl, .inl ⟨rfl, _, SqL.of ho1⟩, _, rfl, _, rfl, rfl, o, _, _, rfl, rfl, ho1, by rw [List.length_map]; exact small1000 (by omega), ?_⟩
        exact ⟨_, rfl, same_upd s1 ho, by rw [upd_same, htk, List.map_append]; rfl⟩
      · rw [decide_eq_false hn]
        have hp : c ∈ printable.cps.toList := by
          rcases hz.ok c hcm with e | q
          · exact absurd (by rw [e]; decide +kernel) hn
          · exact q
        refine iteT ?_
        refine ⟨_, rfl, _, _, rfl, rfl, _, rfl, ?_⟩
        rw [decide_eq_true hp]
        refine iteF ?_
        refine ⟨_, rfl, .inl ⟨rfl, _, SqL.of ho1⟩, _, rfl, _, rfl, rfl, o, _, _, rfl, rfl, ho1, by rw [List.length_map]; exact small1000 (by omega), ?_⟩
        exact ⟨_, rfl, same_upd s1 ho, by rw [upd_same, htk, List.map_append]; rfl⟩
    · rintro σ H1 ⟨v2, rfl, s1, ho1⟩
      rw [hsz, List.take_length] at ho1
      exact ⟨_, rfl, k H1 o s1 ho ho1⟩
end
end Pz
end
set_option Elab.async false
set_option linter.all false
set_option maxRecDepth 100000
set_option maxHeartbeats 4000000
/-! checked_codes, child, generations. -/
noncomputable section
namespace Pz
open PySem PySem.Spec PyProof.Rows L2
/-- a def of the module with defaults -/
structure CalD (P : Program) (w : World) (K : PySem.W.Frag) (mg : Str → Option Value) (base : Heap) (k : Nat) (x : Str) (sp : Sp) (dvs : List V) : Prop where
  ex : ∃ (f : Addr) (fd : FuncData) (ps : List Str) (ds : List Value), FnOk P w K mg base CX0 k f fd ps sp ∧ mg x = some (.ref f) ∧ PySem.W.keepIn K (.ref f) = true ∧ Binds K fd ps ds ∧ Vals dvs ds
theorem pe_cd {X : Cx} {k j : Nat} {x : Str} {sp : Sp} {dvs : List V} {p pos : Pos} {e : Expr} {es : List Expr} {t : TA} (c : CalD X.prog X.w X.K X.mg X.base k x sp dvs) (hr : Room j X.A) (hk : k ≤ j) (hg : Gl X x) (ha : PA X (e :: es) t)
    (hdb : (x == ("__debug__" : Str)) = false := by decide) (he : starEach (e :: es) X.env = (false, eval e X.env) :: starEach es X.env := by rfl) (hpl : (backTo pos (starEach es X.env)).any (·.1) = false := by rfl) :
    PE X (.Call (.Name x p) (e :: es) [] pos) (tCall sp dvs E0 t) := by
  obtain ⟨f, fd, ps, ds, F, hm, kp, b, d⟩ := c.ex
  exact pe_call F (hr.mono hk) hg hm kp b d pass0 ha hdb he hpl
section
variable {P : Program} {w : World} {K : PySem.W.Frag} {mg : Str → Option Value} {base : Heap}
/-! ### checked_codes -/
def spChecked : Sp := fun vs H Q _ => ∃ z : Str, vs = [.str z, .int 100000] ∧ Tx z ∧ ∀ (H' : Hp) (o : Addr), Same H H' → H o = none → H' o = some (.lst ((codesOf z).map V.int)) → Q (.ref o) H'
theorem sc_checked : FnScope ["text", "fuel", "codes"] ["text", "fuel"] (defScope s_checked_codes) := ⟨rfl, rfl, rfl, by decide +kernel, rfl, by decide +kernel, by decide +kernel⟩
theorem ok_checked (W : Wd K mg w) : Cal P w K mg base 2 "checked_codes" spChecked := by
  obtain ⟨fd, F⟩ := W.d_checked_codes
  have GC := ok_codes (P := P) (base := base) W
  refine ⟨_, fd, ["text", "fuel"], F.ok sc_checked (fun vs H Q E h => ?_) (fun cdv A outer s H vs Q E hr h => ?_), W.g_checked_codes, W.p_checked_codes, F.bindsN fun _ _ _ _ _ _ us hl => match us, hl with | [_, _], _ => rfl⟩
  · obtain ⟨z, rfl, _⟩ := h
    rfl
  · obtain ⟨z, rfl, hz, k⟩ := h
    refine ⟨_, PSs.nox (pss_cons (ps_set (i := 2) sc_checked.nd rfl (Or.inl rfl) (pe_c GC hr (Nat.le_refl _) rfl (pa_cons (pv 0) pa_nil)))
      (pss_cons (ps_if (pt_cmpR op_lt (pv 1) pe_int (nomark _)) (pss_one ps_never) pss_nil) (pss_one (ps_ret (pv 2))))), ?_⟩
    refine ⟨_, rfl, z, rfl, hz, fun H1 o s1 no ho => ?_⟩
    refine ⟨_, rfl, _, _, rfl, rfl, _, rfl, ?_⟩
    refine iteF ?_
    exact ⟨_, rfl, k H1 o s1 no ho⟩
/-! ### child -/
def spChild (K : PySem.W.Frag) : Sp := fun vs H Q _ => ∃ (a : Addr) (z : Str) (img : List TW.Node) (f0 d0 : Int), vs = [.ref a, .str z, .int 100000] ∧ SqL K H a ((cellsR img).map V.int) ∧ Tx z ∧ Tr img f0 d0 (codesOf z) ∧
  ∀ (H' : Hp) (o : Addr), Same H H' → H o = none → H' o = some (.lst ((cellsR (TW.twigR (codesOf z) f0 d0)).map V.int)) → Q (.ref o) H'
theorem sc_child : FnScope ["binary", "text", "fuel", "codes"] ["binary", "text", "fuel"] (defScope s_child) := ⟨rfl, rfl, rfl, by decide +kernel, rfl, by decide +kernel, by decide +kernel⟩
theorem ok_child (W : Wd K mg w) : CalD P w K mg base 7 "child" (spChild K) [.int 100000] := by
  obtain ⟨fd, F⟩ := W.d_child
  have GC := ok_checked (P := P) (base := base) W
  have GO := ok_child_of (P := P) (base := base) W
  obtain ⟨ds, hds, hb⟩ := F.binds0 (ps := ["binary", "text", "fuel"]) 2 (by simp) rfl fun D doc pm an cdv ct us ks l1 l2 => match us, ks, l1, l2 with | [_, _], [_], _, _ => ⟨_, _, _, _, _, _, rfl, rfl, rfl⟩
  refine ⟨_, fd, ["binary", "text", "fuel"], ds, F.ok sc_child (fun vs H Q E h => ?_) (fun cdv A outer s H vs Q E hr h => ?_), W.g_child, W.p_child, hb, hds⟩
  · obtain ⟨a, z, img, f0, d0, rfl, _⟩ := h
    rfl
  · obtain ⟨a, z, img, f0, d0, rfl, ha, hz, tr, k⟩ := h
    refine ⟨_, PSs.nox (pss_cons (ps_set (i := 3) sc_child.nd rfl (Or.inl rfl) (pe_c GC hr (by decide) rfl (pa_cons (pv 1) (pa_cons (pv 2) pa_nil))))
      (pss_one (ps_ret (pe_c GO hr (Nat.le_refl _) rfl (pa_cons (pv 0) (pa_cons (pv 3) (pa_cons (pv 2) pa_nil))))))), ?_⟩
    refine ⟨_, rfl, _, rfl, z, rfl, hz, fun H1 c s1 nc hc => ?_⟩
    refine ⟨_, rfl, _, rfl, _, rfl, a, c, img, f0, d0, codesOf z, rfl, s1.seq ha, SqL.of hc, tr, fun H2 o s2 no ho => ?_⟩
    exact k H2 o (s1.trans s2) (s1.free no) ho
/-! ### generations -/
/-- each image's child is the next one -/
def Row (codes : List Int) (gs : List (List TW.Node)) : Prop := ∀ (i : Nat) g g', gs[i]? = some g → gs[i + 1]? = some g' → ∃ f0 d0, Tr g f0 d0 codes ∧ g' = TW.twigR codes f0 d0
def spGens (K : PySem.W.Frag) : Sp := fun vs H Q _ => ∃ (a : Addr) (z : Str) (g : List TW.Node) (gs : List (List TW.Node)), vs = [.ref a, .str z, .int (gs.length : Int), .int 100000] ∧ SqL K H a ((cellsR g).map V.int) ∧ Tx z ∧ gs.length ≤ 10 ∧ Row (codesOf z) (g :: gs) ∧
  ∀ (H' : Hp) (q : Addr) (tt : List Addr), Same H H' → H q = none → H' q = some (.lst (tt.map V.ref)) → tt.length = gs.length + 1 → (∀ (i : Nat) t x, tt[i]? = some t → (g :: gs)[i]? = some x → H' t = some (.lst ((cellsR x).map V.int))) → Q (.ref q) H'
theorem sc_gens : FnScope ["binary", "text", "count", "fuel", "codes", "row", "_", "last"] ["binary", "text", "count", "fuel"] (defScope s_generations) := ⟨rfl, rfl, rfl, by decide +kernel, rfl, by decide +kernel, by decide +kernel⟩
theorem ok_gens (W : Wd K mg w) : CalD P w K mg base 7 "generations" (spGens K) [.int 100000] := by
  obtain ⟨fd, F⟩ := W.d_generations
  have GC := ok_checked (P := P) (base := base) W
  have GO := ok_child_of (P := P) (base := base) W
  obtain ⟨ds, hds, hb⟩ := F.binds0 (ps := ["binary", "text", "count", "fuel"]) 3 (by simp) rfl fun D doc pm an cdv ct us ks l1 l2 => match us, ks, l1, l2 with | [_, _, _], [_], _, _ => ⟨_, _, _, _, _, _, rfl, rfl, rfl⟩
  refine ⟨_, fd, ["binary", "text", "count", "fuel"], ds, F.ok sc_gens (fun vs H Q E h => ?_) (fun cdv A outer s H vs Q E hr h => ?_), W.g_generations, W.p_generations, hb, hds⟩
  · obtain ⟨a, z, g, gs, rfl, _⟩ := h
    rfl
  · obtain ⟨a, z, g, gs, rfl, ha, hz, hlen, row, k⟩ := h
    refine ⟨_, PSs.nox (pss_cons (ps_set (i := 4) sc_gens.nd rfl (Or.inl rfl) (pe_c GC hr (by decide) rfl (pa_cons (pv 1) (pa_cons (pv 3) pa_nil))))
      (pss_cons (ps_set (i := 5) sc_gens.nd rfl (Or.inl rfl) (pe_lst (pa_cons (pe_callTy call_list_of (by rfl) W.no_list (by decide +kernel) (pa_cons (pv 0) pa_nil)) pa_nil)))
      (pss_cons (ps_for PassesOwn.never rfl (pi_range1 rfl W.no_range (pa_cons (pv 2) pa_nil)) (pg_name (i := 6) sc_gens.nd rfl (Or.inl rfl))
        (pss_cons (ps_set (i := 7) sc_gens.nd rfl (Or.inl rfl) (pe_c GO hr (Nat.le_refl _) rfl (pa_cons (pe_ix ix_list (pv 5) (pe_un un_neg pe_int) (fun _ _ => rfl)) (pa_cons (pv 4) (pa_cons (pv 3) pa_nil)))))
        (pss_cons (ps_if (pt_cmpR op_isN (pv 7) pe_non (nomark _)) (pss_one (ps_ret (pv 5))) pss_nil)
        (pss_one (ps_expr (pe_bm PySem.F.plainAttrs_list PySem.F.slot_list_append PySem.F.type_list_append mt_append (pv 5) (pa_cons (pv 7) pa_nil)))))))
      (pss_one (ps_ret (pv 5)))))), ?_⟩
    refine ⟨_, rfl, _, rfl, z, rfl, hz, fun H1 c s1 nc hc => ?_⟩
    refine ⟨_, rfl, a, _, rfl, .inl (s1.seq ha), fun l0 hl0 => ?_⟩
    refine ⟨by show 1 ≤ sizeLine; decide, fun q hq => ?_⟩
    have s2 : Same H1 (upd (upd H1 l0 (.lst ((cellsR g).map V.int))) q (.lst [.ref l0])) := same_upd (same_upd (Same.refl H1) hl0) ((same_upd (Same.refl H1) hl0).free hq)
    have nlq : l0 ≠ q := fun e => by rw [e, upd_same] at hq; cases hq
    have hqH : H q = none := s1.free ((same_upd (Same.refl H1) hl0).free hq)
    refine ⟨_, rfl, gs.length, rfl, by omega, by omega, ?_⟩
    refine for_it walk_range (fun i σ H' => ∃ (tt : List Addr) (v6 v7 : Option V), σ = [some (.ref a), some (.str z), some (.int (gs.length : Int)), some (.int 100000), some (.ref c), some (.ref q), v6, v7] ∧ Same H H' ∧ H' c = some (.lst ((codesOf z).map V.int)) ∧
      H' q = some (.lst (tt.map V.ref)) ∧ tt.length = i + 1 ∧ ∀ (j : Nat) t x, tt[j]? = some t → (g :: gs)[j]? = some x → H' t = some (.lst ((cellsR x).map V.int)))
      ⟨[l0], none, none, rfl, s1.trans s2, s2 _ _ hc, upd_same, rfl, ?_⟩ (fun _ _ _ _ _ => trivial) ?_ ?_
    · intro j t x e1 e2
      cases j with
      | zero =>
        cases e1
        cases e2
        rw [upd_ne nlq, upd_same]
      | succ j => simp at e1
    · rintro i v σ H2 H3 hi ⟨tt, v6, v7, rfl, s3, hc2, hq2, hl2, ht2⟩ ⟨rfl, rfl⟩
      obtain ⟨t0, tl, rfl⟩ : ∃ t0 tl, tt = t0 ++ [tl] := ⟨tt.dropLast, tt.getLast (by intro e; rw [e] at hl2; cases hl2), (List.dropLast_concat_getLast _).symm⟩
      rw [List.length_append, List.length_singleton] at hl2
      have hl0 : t0.length = i := by omega
      obtain ⟨gi, hgi⟩ : ∃ x, (g :: gs)[i]? = some x := ⟨(g :: gs)[i]'(by rw [List.length_cons]; omega), List.getElem?_eq_getElem _⟩
      obtain ⟨gj, hgj⟩ : ∃ x, (g :: gs)[i + 1]? = some x := ⟨(g :: gs)[i + 1]'(by rw [List.length_cons]; omega), List.getElem?_eq_getElem _⟩
      obtain ⟨f0, d0, tr, e1⟩ := row i gi gj hgi hgj
      subst e1
      have htl := ht2 i tl gi (by rw [← hl0]; exact List.getElem?_concat_length) hgi
      refine ⟨_, rfl, _, rfl, q, _, _, .ref tl, rfl, rfl, SqL.of hq2, (by rw [List.map_append]; exact atI_last _ _), _, rfl, _, rfl, tl, c, gi, f0, d0, codesOf z, rfl, SqL.of htl, SqL.of hc2, tr, fun H4 o s4 no ho => ?_⟩
      refine ⟨_, rfl, rfl, _, rfl, ?_⟩
      rw [decide_eq_false (by intro e; cases e)]
      refine iteF ?_
      have hq4 := s4 _ _ hq2
      refine ⟨_, rfl, .inl ⟨rfl, _, SqL.of hq4⟩, _, rfl, q, _, _, rfl, rfl, hq4, by rw [List.length_map, List.length_append, List.length_singleton]; exact small1000 (by omega), ?_⟩
      have keep : ∀ {b u}, H3 b = some u → b ≠ q → upd H4 q (.lst ((t0 ++ [tl]).map V.ref ++ [V.ref o])) b = some u := fun {b u} e nb => by
        rw [upd_ne nb]
        exact s4 _ _ e
      refine ⟨(t0 ++ [tl]) ++ [o], _, _, rfl, same_upd (s3.trans s4) hqH, keep hc2 ?_, by rw [upd_same, List.map_append (l₁ := t0 ++ [tl])]; rfl, by simp; omega, ?_⟩
      · intro e
        have := s2 _ _ hc
        rw [e, upd_same] at this
        have h2 : V.ref l0 ∈ (codesOf z).map V.int := by
          have h3 : [V.ref l0] = (codesOf z).map V.int := by
            injection this with h4
            injection h4
          rw [← h3]
          exact List.mem_singleton.mpr rfl
        obtain ⟨_, _, h5⟩ := List.mem_map.mp h2
        cases h5
      · intro j t x ej ex
        by_cases hj : j < (t0 ++ [tl]).length
        · rw [List.getElem?_append_left hj] at ej
          have q1 := ht2 j t x ej ex
          refine keep q1 fun e => ?_
          subst e
          rw [q1] at hq2
          have h3 : (cellsR x).map V.int = (t0 ++ [tl]).map V.ref := by
            injection hq2 with h4
            injection h4
          have h2 : V.ref tl ∈ (cellsR x).map V.int := by
            rw [h3]
            simp
          obtain ⟨_, _, h5⟩ := List.mem_map.mp h2
          cases h5
        · have ej2 : j = i + 1 := by
            have := (List.getElem?_eq_some_iff.mp ej).1
            simp at this hj
            omega
          subst ej2
          rw [hgj] at ex
          obtain rfl := Option.some.inj ex
          rw [List.getElem?_append_right (by simp; omega)] at ej
          have e0 : i + 1 - (t0 ++ [tl]).length = 0 := by simp; omega
          rw [e0] at ej
          obtain rfl := Option.some.inj ej
          rw [upd_ne (fun e => ?_)]
          · exact ho
          · rw [e, hq2] at no
            cases no
    · rintro σ H2 ⟨tt, v6, v7, rfl, s3, hc2, hq2, hl2, ht2⟩
      exact ⟨_, rfl, k H2 q tt s3 hqH hq2 hl2 ht2⟩
end
end Pz
end
set_option Elab.async false
set_option linter.all false
set_option maxRecDepth 100000
set_option maxHeartbeats 4000000
/-! Equality of data, first_apart, double, texts. -/
noncomputable section
namespace Pz
open PySem PySem.Spec PyProof.Rows L2
/-! ### data -/
def dI (xs : List Int) : PyData := .list (xs.map PyData.int)
theorem dpAll_int {K : PySem.W.Frag} {H : Hp} : ∀ xs : List Int, DpAll K H (xs.map V.int) (xs.map PyData.int)
  | [] => .nil
  | x :: xs => .cons (.int x) (dpAll_int xs)
theorem dp_int {K : PySem.W.Frag} {H : Hp} {a : Addr} {xs : List Int} (h : SqL K H a (xs.map V.int)) : Dp K H (.ref a) (dI xs) := .lst h (dpAll_int xs)
theorem lay_int : ∀ xs : List Int, PyData.canLayAll0 (xs.map PyData.int) = true
  | [] => by simp [PyData.canLayAll0]
  | x :: xs => by simp [PyData.canLayAll0, PyData.canLay0, lay_int xs]
theorem depth_int : ∀ xs : List Int, PyData.depthAll (xs.map PyData.int) ≤ 1
  | [] => by simp [PyData.depthAll]
  | x :: xs => by
    have := depth_int xs
    simp [PyData.depthAll, PyData.depth]
    omega
theorem shaped_int (xs : List Int) : SeqAt.shaped (dI xs) = true := by
  unfold SeqAt.shaped dI
  have h1 := lay_int xs
  have h2 := depth_int xs
  rw [Bool.and_eq_true, decide_eq_true_eq]
  constructor
  · simp [PyData.canLay0, h1]
  · simp only [PyData.depth]
    omega
theorem eqv_int : ∀ xs ys : List Int, PyData.eqvAll (xs.map PyData.int) (ys.map PyData.int) = decide (xs = ys)
  | [], [] => by simp [PyData.eqvAll]
  | [], y :: ys => by simp [PyData.eqvAll]
  | x :: xs, [] => by simp [PyData.eqvAll]
  | x :: xs, y :: ys => by
    simp only [List.map_cons, PyData.eqvAll, PyData.eqv, eqv_int xs ys, List.cons.injEq]
    rw [Bool.eq_iff_iff]
    simp
theorem eqv_dI (xs ys : List Int) : PyData.eqv (dI xs) (dI ys) = decide (xs = ys) := by
  unfold dI
  simp only [PyData.eqv]
  exact eqv_int xs ys
/-! ### first_apart -/
/-- the first place at which two lists differ -/
def apart : List Int → List Int → Nat
  | x :: xs, y :: ys => if x = y then apart xs ys + 1 else 0
  | _, _ => 0
theorem apart_go {xs ys : List Int} {i : Nat} {x : Int} (hx : xs[i]? = some x) (hy : ys[i]? = some x) : apart (xs.drop i) (ys.drop i) = apart (xs.drop (i + 1)) (ys.drop (i + 1)) + 1 := by
  obtain ⟨h1, e1⟩ := List.getElem?_eq_some_iff.mp hx
  obtain ⟨h2, e2⟩ := List.getElem?_eq_some_iff.mp hy
  rw [List.drop_eq_getElem_cons h1, List.drop_eq_getElem_cons h2, e1, e2]
  show (if x = x then _ else _) = _
  rw [if_pos rfl]
theorem apart_stop {xs ys : List Int} {i : Nat} (h : xs.length ≤ i ∨ ys.length ≤ i ∨ xs[i]? ≠ ys[i]?) : apart (xs.drop i) (ys.drop i) = 0 := by
  by_cases h1 : i < xs.length
  · by_cases h2 : i < ys.length
    · rw [List.drop_eq_getElem_cons h1, List.drop_eq_getElem_cons h2]
      show (if xs[i] = ys[i] then _ else _) = _
      rw [if_neg]
      intro e
      rcases h with h | h | h
      · omega
      · omega
      · rw [List.getElem?_eq_getElem h1, List.getElem?_eq_getElem h2, e] at h
        exact h rfl
    · rw [List.drop_eq_nil_of_le (as := ys) (by omega)]
      cases xs.drop i <;> rfl
  · rw [List.drop_eq_nil_of_le (as := xs) (by omega)]
    cases ys.drop i <;> rfl
section
variable {P : Program} {w : World} {K : PySem.W.Frag} {mg : Str → Option Value} {base : Heap}
def spApart (K : PySem.W.Frag) : Sp := fun vs H Q _ => ∃ (a b : Addr) (xs ys : List Int), vs = [.ref a, .ref b] ∧ SqL K H a (xs.map V.int) ∧ SqL K H b (ys.map V.int) ∧ Q (.int (apart xs ys : Nat)) H
theorem sc_apart : FnScope ["one", "other", "index"] ["one", "other"] (defScope s_first_apart) := ⟨rfl, rfl, rfl, by decide +kernel, rfl, by decide +kernel, by decide +kernel⟩
theorem ok_apart (W : Wd K mg w) : Cal P w K mg base 1 "first_apart" (spApart K) := by
  obtain ⟨fd, F⟩ := W.d_first_apart
  refine ⟨_, fd, ["one", "other"], F.ok sc_apart (fun vs H Q E h => ?_) (fun cdv A outer s H vs Q E hr h => ?_), W.g_first_apart, W.p_first_apart, F.bindsN fun _ _ _ _ _ _ us hl => match us, hl with | [_, _], _ => rfl⟩
  · obtain ⟨a, b, xs, ys, rfl, _⟩ := h
    rfl
  · obtain ⟨a, b, xs, ys, rfl, ha, hb, k⟩ := h
    refine ⟨_, PSs.nox (pss_cons (ps_set (i := 2) sc_apart.nd rfl (Or.inl rfl) pe_int)
      (pss_cons (ps_while PassesOwn.never (PW.pt (pw_and (pt_cmpR op_lt (pv 2) (pe_callB call_len_seq (by rfl) W.no_len PySem.boot_len (pa_cons (pv 0) pa_nil)) (nomark _)) (pw_and (pt_cmpR op_lt (pv 2) (pe_callB call_len_seq (by rfl) W.no_len PySem.boot_len (pa_cons (pv 1) pa_nil)) (nomark _))
          (pw_and1 (pt_cmpR op_eq (pe_ix ix_list (pv 0) (pv 2) (fun _ _ => rfl)) (pe_ix ix_list (pv 1) (pv 2) (fun _ _ => rfl)) (nomark _))))))
        (pss_one (ps_aug (i := 2) sc_apart.nd rfl (Or.inl rfl) pe_int ip_add)))
      (pss_one (ps_ret (pv 2))))), ?_⟩
    refine ⟨fun m σ H' => ∃ i : Nat, H' = H ∧ σ = [some (.ref a), some (.ref b), some (.int (i : Int))] ∧ m = xs.length - i ∧ i ≤ xs.length ∧ apart xs ys = apart (xs.drop i) (ys.drop i) + i,
      ⟨xs.length, 0, rfl, rfl, rfl, Nat.zero_le _, rfl⟩, ?_⟩
    rintro m σ H1 ⟨i, rfl, rfl, rfl, hi, ha0⟩
    have stop : (xs.length ≤ i ∨ ys.length ≤ i ∨ xs[i]? ≠ ys[i]?) → Q (.int (i : Int)) H1 := fun h => by
      rw [apart_stop h, Nat.zero_add] at ha0
      rw [← ha0]
      exact k
    refine ⟨_, rfl, _, rfl, a, _, rfl, .inl ha, _, _, rfl, rfl, _, rfl, ?_⟩
    rw [List.length_map]
    by_cases c1 : (i : Int) < (xs.length : Int)
    · rw [decide_eq_true c1]
      refine iteT ?_
      refine ⟨_, rfl, _, rfl, b, _, rfl, .inl hb, _, _, rfl, rfl, _, rfl, ?_⟩
      rw [List.length_map]
      by_cases c2 : (i : Int) < (ys.length : Int)
      · rw [decide_eq_true c2]
        refine iteT ?_
        have hx : xs[i]? = some xs[i] := List.getElem?_eq_getElem (by omega)
        have hy : ys[i]? = some ys[i] := List.getElem?_eq_getElem (by omega)
        refine ⟨_, rfl, _, rfl, a, _, _, V.int xs[i], rfl, rfl, ha, atI_nat (j := i) (by rw [List.getElem?_map, hx]; rfl), _, rfl, _, rfl, b, _, _, V.int ys[i], rfl, rfl, hb, atI_nat (j := i) (by rw [List.getElem?_map, hy]; rfl), rfl, _, rfl, ?_⟩
        by_cases c3 : xs[i] = ys[i]
        · rw [decide_eq_true (show V.int xs[i] = V.int ys[i] by rw [c3])]
          refine iteT ?_
          refine ⟨fun σ' H' => H' = H1 ∧ σ' = [some (.ref a), some (.ref b), some (.int ((i + 1 : Nat) : Int))], fun σ' H' ⟨e1, e2⟩ => ⟨xs.length - (i + 1), by omega, i + 1, e1, e2, rfl, by omega, ?_⟩, ?_⟩
          · rw [ha0, apart_go hx (by rw [hy, c3])]
            omega
          · exact ⟨_, rfl, _, _, rfl, rfl, rfl, rfl⟩
        · rw [decide_eq_false (fun e => c3 (V.int.inj e))]
          refine iteF ?_
          refine ⟨_, rfl, stop (.inr (.inr ?_))⟩
          rw [hx, hy]
          intro e
          exact c3 (Option.some.inj e)
      · rw [decide_eq_false c2]
        refine iteF ?_
        refine iteF ?_
        exact ⟨_, rfl, stop (.inr (.inl (by omega)))⟩
    · rw [decide_eq_false c1]
      refine iteF ?_
      refine iteF ?_
      exact ⟨_, rfl, stop (.inl (by omega))⟩
/-! ### double -/
/-- the answer of a double compilation -/
def answer (late sus : List Int) : List V := if late = sus then [.str "same"] else [.str "apart", .int (apart late sus : Nat)]
def spDouble (K : PySem.W.Frag) : Sp := fun vs H Q _ => ∃ (s a : Addr) (z : Str) (sus : List Int) (img : List TW.Node) (f0 d0 f1 d1 : Int), vs = [.ref s, .ref a, .str z, .int 100000] ∧ SqL K H s (sus.map V.int) ∧ SqL K H a ((cellsR img).map V.int) ∧ Tx z ∧
  Tr img f0 d0 (codesOf z) ∧ Tr (TW.twigR (codesOf z) f0 d0) f1 d1 (codesOf z) ∧ ∀ (H' : Hp) (t : Addr), Same H H' → H t = none → H' t = some (.tup (answer (cellsR (TW.twigR (codesOf z) f1 d1)) sus)) → Q (.ref t) H'
theorem sc_dbl : FnScope ["suspect", "second", "text", "fuel", "codes", "early", "late"] ["suspect", "second", "text", "fuel"] (defScope s_double) := ⟨rfl, rfl, rfl, by decide +kernel, rfl, by decide +kernel, by decide +kernel⟩
theorem ok_dbl (W : Wd K mg w) : CalD P w K mg base 7 "double" (spDouble K) [.int 100000] := by
  obtain ⟨fd, F⟩ := W.d_double
  have GC := ok_checked (P := P) (base := base) W
  have GO := ok_child_of (P := P) (base := base) W
  have GA := ok_apart (P := P) (base := base) W
  obtain ⟨ds, hds, hb⟩ := F.binds0 (ps := ["suspect", "second", "text", "fuel"]) 3 (by simp) rfl fun D doc pm an cdv ct us ks l1 l2 => match us, ks, l1, l2 with | [_, _, _], [_], _, _ => ⟨_, _, _, _, _, _, rfl, rfl, rfl⟩
  refine ⟨_, fd, ["suspect", "second", "text", "fuel"], ds, F.ok sc_dbl (fun vs H Q E h => ?_) (fun cdv A outer s H vs Q E hr h => ?_), W.g_double, W.p_double, hb, hds⟩
  · obtain ⟨s, a, z, sus, img, f0, d0, f1, d1, rfl, _⟩ := h
    rfl
  · obtain ⟨s, a, z, sus, img, f0, d0, f1, d1, rfl, hs, ha, hz, t1, t2, k⟩ := h
    refine ⟨_, PSs.nox (pss_cons (ps_set (i := 4) sc_dbl.nd rfl (Or.inl rfl) (pe_c GC hr (by decide) rfl (pa_cons (pv 2) (pa_cons (pv 3) pa_nil))))
      (pss_cons (ps_set (i := 5) sc_dbl.nd rfl (Or.inl rfl) (pe_c GO hr (Nat.le_refl _) rfl (pa_cons (pv 1) (pa_cons (pv 4) (pa_cons (pv 3) pa_nil)))))
      (pss_cons (ps_if (pt_cmpR op_isN (pv 5) pe_non (nomark _)) (pss_one ps_never) pss_nil)
      (pss_cons (ps_set (i := 6) sc_dbl.nd rfl (Or.inl rfl) (pe_c GO hr (Nat.le_refl _) rfl (pa_cons (pv 5) (pa_cons (pv 4) (pa_cons (pv 3) pa_nil)))))
      (pss_cons (ps_if (pt_cmpR op_isN (pv 6) pe_non (nomark _)) (pss_one ps_never) pss_nil)
      (pss_cons (ps_if (pt_cmpR (op_eqD hr.units) (pv 6) (pe_callTy call_list_of (by rfl) W.no_list (by decide +kernel) (pa_cons (pv 0) pa_nil)) (nomark _)) (pss_one (ps_ret (pe_tup (pa_cons pe_str pa_nil)))) pss_nil)
      (pss_one (ps_ret (pe_tup (pa_cons pe_str (pa_cons (pe_c GA hr (by decide) rfl (pa_cons (pv 6) (pa_cons (pv 0) pa_nil))) pa_nil))))))))))), ?_⟩
    refine ⟨_, rfl, _, rfl, z, rfl, hz, fun H1 c s1 nc hc => ?_⟩
    refine ⟨_, rfl, _, rfl, _, rfl, a, c, img, f0, d0, codesOf z, rfl, s1.seq ha, SqL.of hc, t1, fun H2 e s2 ne he => ?_⟩
    refine ⟨_, rfl, rfl, _, rfl, ?_⟩
    rw [decide_eq_false (by intro q; cases q)]
    refine iteF ?_
    refine ⟨_, rfl, _, rfl, _, rfl, e, c, _, f1, d1, codesOf z, rfl, SqL.of he, SqL.of (s2 _ _ hc), t2, fun H3 l s3 nl hl => ?_⟩
    refine ⟨_, rfl, rfl, _, rfl, ?_⟩
    rw [decide_eq_false (by intro q; cases q)]
    refine iteF ?_
    have s13 := s1.trans (s2.trans s3)
    refine ⟨_, rfl, _, rfl, s, _, rfl, .inl (s13.seq hs), fun y hy => ?_⟩
    have s4 : Same H3 (upd H3 y (.lst (sus.map V.int))) := same_upd (Same.refl H3) hy
    refine ⟨_, _, dp_int (SqL.of (s4 _ _ hl)), dp_int (SqL.of upd_same), shaped_int _, shaped_int _, _, rfl, ?_⟩
    rw [eqv_dI]
    have s14 := s13.trans s4
    by_cases q : cellsR (TW.twigR (codesOf z) f1 d1) = sus
    · rw [decide_eq_true q]
      refine iteT ?_
      refine ⟨(by show 1 ≤ sizeLine; decide), fun t ht => ?_⟩
      refine k _ t (same_upd s14 (s14.free ht)) (s14.free ht) ?_
      unfold answer
      rw [upd_same, if_pos q]
    · rw [decide_eq_false q]
      refine iteF ?_
      refine ⟨_, rfl, _, rfl, l, s, _, sus, rfl, SqL.of (s4 _ _ hl), s14.seq hs, (by show 2 ≤ sizeLine; decide), fun t ht => ?_⟩
      refine k _ t (same_upd s14 (s14.free ht)) (s14.free ht) ?_
      unfold answer
      rw [upd_same, if_neg q]
/-! ### rung_text -/
def spRung (K : PySem.W.Frag) : Sp := fun vs H Q _ => ∃ q ∈ txs, vs = [.str q.1] ∧ Q (.str q.2) H
theorem sc_rung : FnScope ["name"] ["name"] (defScope s_rung_text) := ⟨rfl, rfl, rfl, by decide +kernel, rfl, by decide +kernel, by decide +kernel⟩
theorem ok_rung (W : Wd K mg w) : Cal P w K mg base 1 "rung_text" (spRung K) := by
  obtain ⟨fd, F⟩ := W.d_rung_text
  obtain ⟨es, n, D⟩ := W.c.tab 0 (t := ((fun K => He.ga K "TEXTS"), [Str.ofString "first", Str.ofString "second", Str.ofString "plain", Str.ofString "turned"])) rfl
  refine ⟨_, fd, ["name"], F.ok sc_rung (fun vs H Q E h => ?_) (fun cdv A outer s H vs Q E hr h => ?_), W.g_rung_text, W.p_rung_text, F.bindsN fun _ _ _ _ _ _ us hl => match us, hl with | [_], _ => rfl⟩
  · obtain ⟨q, _, rfl, _⟩ := h
    rfl
  · obtain ⟨q, hq, rfl, k⟩ := h
    refine ⟨_, PSs.nox (pss_cons (ps_if (pt_cmpR (op_notIn_kd D) (pv 0) (pe_glob rfl W.g_TEXTS (v := .ref (He.ga K "TEXTS")) rfl) (by rfl)) (pss_one ps_never) pss_nil)
      (pss_one (ps_ret (pe_ix (show IxR _ (rIxD K w) from ix_kdict) (pe_glob rfl W.g_TEXTS (v := .ref (He.ga K "TEXTS")) rfl) (pv 0) (fun _ _ => rfl))))), ?_⟩
    obtain ⟨i, hi⟩ := List.mem_iff_getElem?.mp hq
    obtain ⟨t, ht⟩ := W.tx i hi
    refine ⟨_, rfl, q.1, _, rfl, rfl, ht, _, rfl, ?_⟩
    refine iteF ?_
    exact ⟨_, rfl, _, q.1, .str q.2, rfl, rfl, ⟨es, n, _, D.at_, D.lit, ht, t, rfl⟩, k⟩
end
end Pz
end
set_option Elab.async false
set_option linter.all false
set_option maxRecDepth 100000
set_option maxHeartbeats 4000000
/-! The law's draws. -/
noncomputable section
namespace Pz
open PySem PySem.Spec PyProof.Rows L2
section
variable {P : Program} {w : World} {K : PySem.W.Frag} {mg : Str → Option Value} {base : Heap}
/-! ### _law_number -/
def spNumber : Sp := fun vs H Q _ => ∃ n : Int, vs = [.int n] ∧ Q (.int (n.natAbs : Int)) H
theorem sc_number : FnScope ["_law_cell"] ["_law_cell"] (defScope s_l_number) := ⟨rfl, rfl, rfl, by decide +kernel, rfl, by decide +kernel, by decide +kernel⟩
theorem ok_number (W : Wd K mg w) : Cal P w K mg base 1 "_law_number" spNumber := by
  obtain ⟨fd, F⟩ := W.d_l_number
  refine ⟨_, fd, ["_law_cell"], F.ok sc_number (fun vs H Q E h => ?_) (fun cdv A outer s H vs Q E hr h => ?_), W.g_l_number, W.p_l_number, F.bindsN fun _ _ _ _ _ _ us hl => match us, hl with | [_], _ => rfl⟩
  · obtain ⟨n, rfl, _⟩ := h
    rfl
  · obtain ⟨n, rfl, k⟩ := h
    refine ⟨_, PSs.nox (pss_cons (ps_if (pt_cmpR op_lt (pv 0) pe_int (nomark _)) (pss_one (ps_ret (pe_op op_sub pe_int (pv 0)))) pss_nil) (pss_one (ps_ret (pv 0)))), ?_⟩
    refine ⟨_, rfl, _, _, rfl, rfl, _, rfl, ?_⟩
    by_cases h : n < 0
    · rw [decide_eq_true h]
      refine iteT ?_
      refine ⟨_, rfl, _, _, rfl, rfl, ?_⟩
      rw [show ((n.natAbs : Nat) : Int) = 0 - n by omega] at k
      exact k
    · rw [decide_eq_false h]
      refine iteF ?_
      refine ⟨_, rfl, ?_⟩
      rw [show ((n.natAbs : Nat) : Int) = n by omega] at k
      exact k
/-! ### _law_draws -/
/-- what a draw is -/
abbrev Dr (ds : List Int) : Prop := ∀ d ∈ ds, 0 ≤ d ∧ d < 1000
def spDraws (K : PySem.W.Frag) : Sp := fun vs H Q _ => ∃ (a : Addr) (ns : List Int), vs = [.ref a] ∧ SqL K H a (ns.map V.int) ∧ ns.length ≤ 63 ∧
  ∀ (H' : Hp) (l : Addr) (ds : List Int), Same H H' → H l = none → H' l = some (.lst (ds.map V.int)) → Dr ds → Q (.ref l) H'
theorem dr_snoc {ds : List Int} (h : Dr ds) {d : Int} (h0 : 0 ≤ d) (h1 : d < 1000) : Dr (ds ++ [d]) := by
  intro x hx
  rcases List.mem_append.mp hx with q | q
  · exact h x q
  · rw [List.mem_singleton.mp q]
    exact ⟨h0, h1⟩
theorem sc_draws : FnScope ["_law_script", "_law_draws_here", "_law_cell", "_law_rest", "_law_k", "_law_once", "_law_twice"] ["_law_script"] (defScope s_l_draws) := ⟨rfl, rfl, rfl, by decide +kernel, rfl, by decide +kernel, by decide +kernel⟩
theorem ok_draws (W : Wd K mg w) : Cal P w K mg base 2 "_law_draws" (spDraws K) := by
  obtain ⟨fd, F⟩ := W.d_l_draws
  have GN := ok_number (P := P) (base := base) W
  refine ⟨_, fd, ["_law_script"], F.ok sc_draws (fun vs H Q E h => ?_) (fun cdv A outer s H vs Q E hr h => ?_), W.g_l_draws, W.p_l_draws, F.bindsN fun _ _ _ _ _ _ us hl => match us, hl with | [_], _ => rfl⟩
  · obtain ⟨a, ns, rfl, _⟩ := h
    rfl
  · obtain ⟨a, ns, rfl, ha, hn, k⟩ := h
    refine ⟨_, PSs.nox (pss_cons (ps_set (i := 1) sc_draws.nd rfl (Or.inl rfl) (pe_lst pa_nil))
      (pss_cons (ps_for PassesOwn.never rfl (pi_list (pv 0)) (pg_name (i := 2) sc_draws.nd rfl (Or.inl rfl))
        (pss_cons (ps_set (i := 3) sc_draws.nd rfl (Or.inl rfl) (pe_c GN hr (Nat.le_refl _) rfl (pa_cons (pv 2) pa_nil)))
        (pss_one (ps_if (pt_cmpR op_ge (pv 3) pe_int (nomark _))
          (pss_one (ps_for PassesOwn.never rfl (pi_range1 rfl W.no_range (pa_cons pe_int pa_nil)) (pg_name (i := 4) sc_draws.nd rfl (Or.inl rfl))
            (pss_cons (ps_if (pt_cmpR op_eq (pv 3) pe_int (nomark _)) (pss_one ps_break) pss_nil)
            (pss_cons (ps_expr (pe_bm PySem.F.plainAttrs_list PySem.F.slot_list_append PySem.F.type_list_append mt_append (pv 1) (pa_cons (pe_op op_mod (pe_callTy call_int1 (by rfl) W.no_int (by decide +kernel) (pa_cons (pv 3) pa_nil)) pe_int) pa_nil)))
            (pss_one (ps_set (i := 3) sc_draws.nd rfl (Or.inl rfl) (pe_op op_fdiv (pv 3) pe_int)))))))
          (pss_cons (ps_set (i := 5) sc_draws.nd rfl (Or.inl rfl) (pe_op op_mod (pe_callTy call_int1 (by rfl) W.no_int (by decide +kernel) (pa_cons (pe_op op_add (pe_op op_mul (pv 3) pe_int) pe_int) pa_nil)) pe_int))
          (pss_cons (ps_set (i := 6) sc_draws.nd rfl (Or.inl rfl) (pe_op op_mod (pe_callTy call_int1 (by rfl) W.no_int (by decide +kernel) (pa_cons (pe_op op_add (pe_op op_mul (pv 5) pe_int) (pv 3)) pa_nil)) pe_int))
          (pss_one (ps_expr (pe_bm PySem.F.plainAttrs_list PySem.F.slot_list_extend PySem.F.type_list_extend mt_extend (pv 1) (pa_cons (pe_lst (pa_cons (pe_op op_mod (pe_callTy call_int1 (by rfl) W.no_int (by decide +kernel) (pa_cons (pv 3) pa_nil)) pe_int)
            (pa_cons (pe_op op_mod (pe_callTy call_int1 (by rfl) W.no_int (by decide +kernel) (pa_cons (pv 5) pa_nil)) pe_int)
            (pa_cons (pe_op op_mod (pe_callTy call_int1 (by rfl) W.no_int (by decide +kernel) (pa_cons (pv 6) pa_nil)) pe_int) pa_nil)))) pa_nil))))))))))
      (pss_one (ps_ret (pv 1))))), ?_⟩
    refine ⟨Nat.zero_le _, fun l hl => ?_⟩
    refine ⟨_, rfl, a, rfl, ⟨_, (same_upd (Same.refl H) hl).seq ha⟩, ?_⟩
    refine for_it walk_list (fun i σ H' => ∃ (ds : List Int) (v2 v3 v4 v5 v6 : Option V), σ = [some (.ref a), some (.ref l), v2, v3, v4, v5, v6] ∧ Same H H' ∧ H' l = some (.lst (ds.map V.int)) ∧ Dr ds ∧ ds.length ≤ 60 * i)
      ⟨[], none, none, none, none, none, rfl, same_upd (Same.refl H) hl, upd_same, (fun d h => nomatch h), Nat.le_refl _⟩ (fun i σ H' _ ⟨_, _, _, _, _, _, _, s1, _⟩ => s1.seq ha) ?_ ?_
    · rintro i v σ H1 H2 hi ⟨ds, v2, v3, v4, v5, v6, rfl, s1, hl1, hd, hlen⟩ ⟨rfl, hv⟩
      rw [List.length_map] at hi
      rw [List.getElem?_map, List.getElem?_eq_getElem hi] at hv
      obtain rfl := Option.some.inj hv
      refine ⟨_, rfl, ns[i], rfl, ?_⟩
      generalize ((ns[i]).natAbs) = n0
      refine ⟨_, rfl, _, _, rfl, rfl, _, rfl, ?_⟩
      by_cases big : (n0 : Int) ≥ 1000000000000000000
      · rw [decide_eq_true big]
        refine iteT ?_
        refine ⟨60, rfl, by decide, by decide, ?_⟩
        refine for_it walk_range (fun j σ H' => ∃ (ds : List Int) (n : Nat) (v4 : Option V), σ = [some (.ref a), some (.ref l), some (.int ns[i]), some (.int (n : Int)), v4, v5, v6] ∧ Same H H' ∧ H' l = some (.lst (ds.map V.int)) ∧ Dr ds ∧ ds.length ≤ 60 * i + j)
          ⟨ds, n0, v4, rfl, s1, hl1, hd, hlen⟩ (fun _ _ _ _ _ => trivial) ?_ ?_
        · rintro j v σ H3 H4 hj ⟨ds, n, v4, rfl, s1, hl1, hd, hlen⟩ ⟨rfl, rfl⟩
          refine ⟨_, rfl, rfl, _, rfl, ?_⟩
          by_cases z : V.int (n : Int) = V.int 0
          · rw [decide_eq_true z]
            refine iteT ?_
            exact ⟨ds, _, _, _, _, _, rfl, s1, hl1, hd, by omega⟩
          · rw [decide_eq_false z]
            refine iteF ?_
            refine ⟨_, rfl, .inl ⟨rfl, _, SqL.of hl1⟩, _, rfl, .inl ⟨_, rfl, _, _, rfl, rfl, (show (0 : Int) < 1000 by decide), l, _, _, rfl, rfl, hl1, by rw [List.length_map]; exact Nat.lt_of_le_of_lt hlen (Nat.lt_of_lt_of_le (show 60 * i + j < 100000 by omega) (by decide)), ?_⟩⟩
            refine ⟨_, rfl, _, _, rfl, rfl, ⟨by decide, by decide⟩, ?_⟩
            refine ⟨ds ++ [(n : Int) % 1000], n / 1000, _, rfl, same_upd s1 hl, ?_, dr_snoc hd (by omega) (by omega), by rw [List.length_append, List.length_singleton]; omega⟩
            rw [upd_same, List.map_append]
            rfl
        · rintro σ H3 ⟨ds, n, v4, rfl, s1, hl1, hd, hlen⟩
          exact ⟨ds, _, _, _, _, _, rfl, s1, hl1, hd, by omega⟩
      · rw [decide_eq_false big]
        refine iteF ?_
        refine ⟨_, rfl, _, _, rfl, rfl, .inr ⟨by decide, by decide⟩, _, _, rfl, rfl, .inl ⟨_, rfl, _, _, rfl, rfl, (show (0 : Int) < 2147483647 by decide), ?_⟩⟩
        refine ⟨_, rfl, _, _, rfl, rfl, .inr ⟨by decide, by decide⟩, _, rfl, _, _, rfl, rfl, .inl ⟨_, rfl, _, _, rfl, rfl, (show (0 : Int) < 2147483629 by decide), ?_⟩⟩
        refine ⟨_, rfl, .inl ⟨rfl, _, SqL.of hl1⟩, ?_⟩
        refine ⟨_, rfl, .inl ⟨_, rfl, _, _, rfl, rfl, (show (0 : Int) < 1000 by decide), _, rfl, .inl ⟨_, rfl, _, _, rfl, rfl, (show (0 : Int) < 1000 by decide), _, rfl, .inl ⟨_, rfl, _, _, rfl, rfl, (show (0 : Int) < 1000 by decide), (by show 3 ≤ sizeLine; decide), fun e he => ?_⟩⟩⟩⟩
        have nel : l ≠ e := ne_of_none hl1 he
        refine ⟨l, e, _, _, rfl, rfl, (by rw [upd_ne nel]; exact hl1), upd_same, ?_, ?_⟩
        · rw [List.length_map]
          exact Nat.le_trans (show ds.length + 3 ≤ 100000 by omega) (by decide)
        · refine ⟨ds ++ [(n0 : Int) % 1000, ((n0 : Int) * 48271 + 11) % 2147483647 % 1000, (((n0 : Int) * 48271 + 11) % 2147483647 * 69621 + (n0 : Int)) % 2147483629 % 1000], _, _, _, _, _, rfl, same_upd (same_upd s1 (s1.free he)) hl, by rw [upd_same, List.map_append]; rfl, ?_, by rw [List.length_append]; simp; omega⟩
          intro x hx
          rcases List.mem_append.mp hx with q | q
          · exact hd x q
          · simp only [List.mem_cons, List.not_mem_nil, or_false] at q
            rcases q with rfl | rfl | rfl <;> omega
    · rintro σ H1 ⟨ds, v2, v3, v4, v5, v6, rfl, s1, hl1, hd, hlen⟩
      exact ⟨_, rfl, k H1 l ds s1 hl hl1 hd⟩
/-! ### _law_next -/
def spNext : Sp := fun vs H Q _ => ∃ (l : Addr) (ds : List Int), vs = [.ref l] ∧ H l = some (.lst (ds.map V.int)) ∧ Dr ds ∧
  ∀ (H' : Hp) (ds' : List Int) (d : Int), Kp l H H' → H' l = some (.lst (ds'.map V.int)) → Dr ds' → 0 ≤ d → d < 1000 → Q (.int d) H'
theorem sc_next : FnScope ["_law_draws_here"] ["_law_draws_here"] (defScope s_l_next) := ⟨rfl, rfl, rfl, by decide +kernel, rfl, by decide +kernel, by decide +kernel⟩
theorem ok_next (W : Wd K mg w) : Cal P w K mg base 1 "_law_next" spNext := by
  obtain ⟨fd, F⟩ := W.d_l_next
  refine ⟨_, fd, ["_law_draws_here"], F.ok sc_next (fun vs H Q E h => ?_) (fun cdv A outer s H vs Q E hr h => ?_), W.g_l_next, W.p_l_next, F.bindsN fun _ _ _ _ _ _ us hl => match us, hl with | [_], _ => rfl⟩
  · obtain ⟨l, ds, rfl, _⟩ := h
    rfl
  · obtain ⟨l, ds, rfl, hl, hd, k⟩ := h
    refine ⟨_, PSs.nox (pss_cons (ps_if (pt_truth (pv 0) (by intro _; rfl)) (pss_one (ps_ret (pe_bm0 PySem.F.plainAttrs_list PySem.F.slot_list_pop PySem.F.type_list_pop mt_pop (pv 0)))) pss_nil) (pss_one (ps_ret pe_int))), ?_⟩
    refine ⟨_, rfl, !(ds.map V.int).isEmpty, .inl ⟨_, SqL.of hl, rfl⟩, ?_⟩
    rcases List.eq_nil_or_concat ds with rfl | ⟨t, x, rfl⟩
    · refine iteF ?_
      exact k H [] 0 (Kp.refl l H) hl hd (by decide) (by decide)
    · rw [List.concat_eq_append] at hl hd ⊢
      rw [show (!((t ++ [x]).map V.int).isEmpty) = true by simp]
      refine iteT ?_
      have hx := hd x (by simp)
      refine ⟨_, rfl, .inl ⟨rfl, _, SqL.of hl⟩, l, _, V.int x, rfl, rfl, hl, by simp, ?_⟩
      refine k _ t x ((Kp.refl l H).at _) ?_ (fun d hd' => hd d (List.mem_append_left _ hd')) hx.1 hx.2
      rw [upd_same, List.map_append]
      show some (HO.lst (t.map V.int ++ [V.int x]).dropLast) = _
      rw [List.dropLast_concat]
end
end Pz
end
set_option Elab.async false
set_option linter.all false
set_option maxRecDepth 100000
set_option maxHeartbeats 4000000
/-! The law's own translation: the pieces. -/
noncomputable section
namespace Pz
open PySem PySem.Spec PyProof.Rows L2
def kst (m k d : Int) : List (Key × V) := [((Sum.inr "m" : Key), V.int m), (Sum.inr "k", V.int k), (Sum.inr "by", V.int d)]
section
variable {m k d v : Int}
theorem kst_m : valV (kst m k d) (Sum.inr "m" : Key) = some (.int m) := by kernel_rfl
theorem kst_k : valV (kst m k d) (Sum.inr "k" : Key) = some (.int k) := by kernel_rfl
theorem kst_by : valV (kst m k d) (Sum.inr "by" : Key) = some (.int d) := by kernel_rfl
theorem kst_putm : putK (kst m k d) (Sum.inr "m" : Key) (.int v) = kst v k d := by kernel_rfl
theorem kst_putk : putK (kst m k d) (Sum.inr "k" : Key) (.int v) = kst m v d := by kernel_rfl
end
theorem cellsR_cons (n o a s : Int) (l : List TW.Node) : cellsR ((n, o, a, s) :: l) = cellsR l ++ [n, o, a, s] := by
  unfold cellsR
  show (s :: a :: o :: n :: TW.flat l).reverse = _
  simp
theorem cellsR_len (l : List TW.Node) : (cellsR l).length = 4 * l.length := by
  rw [cellsR_eq, cells_len, List.length_reverse]
/-- a translation's state in the heap: its image at I, its numbers at D, its pile at L -/
structure TwAt (H0 H : Hp) (I D L : Addr) (dk : Int) (u : TW.Tw) (b : Nat) : Prop where
  same : Same H0 H
  nI : H0 I = none
  nD : H0 D = none
  nL : H0 L = none
  ne : I ≠ L
  im : H I = some (.lst ((cellsR u.img).map V.int))
  st : H D = some (.dK (kst u.m u.k dk))
  pl : H L = some (.lst (u.pile.reverse.map V.int))
  bi : u.img.length ≤ b
  bp : u.pile.length ≤ b
section
variable {H0 H : Hp} {I D L : Addr} {dk : Int} {u : TW.Tw} {b : Nat}
theorem TwAt.nID (h : TwAt H0 H I D L dk u b) : I ≠ D := ne_of h.im h.st (by intro q; cases q)
theorem TwAt.nLD (h : TwAt H0 H I D L dk u b) : L ≠ D := ne_of h.pl h.st (by intro q; cases q)
theorem TwAt.mono (h : TwAt H0 H I D L dk u b) {b' : Nat} (e : b ≤ b') : TwAt H0 H I D L dk u b' := { h with bi := Nat.le_trans h.bi e, bp := Nat.le_trans h.bp e }
theorem TwAt.fresh (h : TwAt H0 H I D L dk u b) {l : Addr} (hl : H l = none) (o : HO) : TwAt H0 (upd H l o) I D L dk u b := by
  have e : ∀ {a x}, H a = some x → (upd H l o) a = some x := fun {a x} z => by rw [upd_ne (ne_of_none z hl)]; exact z
  exact { h with same := fun c x z => e (h.same c x z), im := e h.im, st := e h.st, pl := e h.pl }
theorem TwAt.node (h : TwAt H0 H I D L dk u b) {n o a s : Int} {b' : Nat} (e : b + 1 ≤ b') {xs : List V} (ex : xs = (cellsR u.img).map V.int ++ [V.int n, V.int o, V.int a, V.int s]) :
    TwAt H0 (upd H I (.lst xs)) I D L dk { u with img := (n, o, a, s) :: u.img } b' := by
  subst ex
  exact { same := same_upd h.same h.nI, nI := h.nI, nD := h.nD, nL := h.nL, ne := h.ne, im := by rw [upd_same, cellsR_cons, List.map_append]; rfl, st := by rw [upd_ne h.nID.symm]; exact h.st, pl := by rw [upd_ne h.ne.symm]; exact h.pl,
          bi := by have := h.bi; show (_ :: u.img).length ≤ b'; rw [List.length_cons]; omega, bp := by have := h.bp; show u.pile.length ≤ b'; omega }
theorem TwAt.setm (h : TwAt H0 H I D L dk u b) (v : Int) : TwAt H0 (upd H D (.dK (putK (kst u.m u.k dk) (Sum.inr "m" : Key) (.int v)))) I D L dk { u with m := v } b :=
  { same := same_upd h.same h.nD, nI := h.nI, nD := h.nD, nL := h.nL, ne := h.ne, im := by rw [upd_ne h.nID]; exact h.im, st := by rw [upd_same, kst_putm], pl := by rw [upd_ne h.nLD]; exact h.pl, bi := h.bi, bp := h.bp }
theorem TwAt.setk (h : TwAt H0 H I D L dk u b) (v : Int) : TwAt H0 (upd H D (.dK (putK (kst u.m u.k dk) (Sum.inr "k" : Key) (.int v)))) I D L dk { u with k := v } b :=
  { same := same_upd h.same h.nD, nI := h.nI, nD := h.nD, nL := h.nL, ne := h.ne, im := by rw [upd_ne h.nID]; exact h.im, st := by rw [upd_same, kst_putk], pl := by rw [upd_ne h.nLD]; exact h.pl, bi := h.bi, bp := h.bp }
theorem TwAt.setp (h : TwAt H0 H I D L dk u b) {p : List Int} {b' : Nat} (hb : b ≤ b') (hp : p.length ≤ b') {xs : List V} (e : xs = p.reverse.map V.int) : TwAt H0 (upd H L (.lst xs)) I D L dk { u with pile := p } b' := by
  subst e
  exact { same := same_upd h.same h.nL, nI := h.nI, nD := h.nD, nL := h.nL, ne := h.ne, im := by rw [upd_ne h.ne]; exact h.im, st := by rw [upd_ne h.nLD.symm]; exact h.st, pl := upd_same, bi := Nat.le_trans h.bi hb, bp := hp }
theorem TwAt.push (h : TwAt H0 H I D L dk u b) {v : Int} {b' : Nat} (hb : b + 1 ≤ b') : TwAt H0 (upd H L (.lst (u.pile.reverse.map V.int ++ [V.int v]))) I D L dk { u with pile := v :: u.pile } b' :=
  h.setp (by omega) (by rw [List.length_cons]; have := h.bp; omega) (by rw [List.reverse_cons, List.map_append]; rfl)
end
theorem szb {b k : Nat} (hb : b < 2000) (e : k ≤ 4 * b + 10) : k < sizeLine := Nat.lt_of_le_of_lt e (Nat.lt_of_lt_of_le (show 4 * b + 10 < 10000 by omega) (by decide))
section
variable {P : Program} {w : World} {K : PySem.W.Frag} {mg : Str → Option Value} {base : Heap}
/-! ### _law_pull -/
def spPullL : Sp := fun vs H Q _ => ∃ (H0 : Hp) (I D L : Addr) (dk : Int) (u : TW.Tw) (b : Nat), vs = [.ref L] ∧ TwAt H0 H I D L dk u b ∧ ∀ H', TwAt H0 H' I D L dk { u with pile := u.pile.tail } b → Q (.int (TW.hd u.pile)) H'
theorem sc_pullL : FnScope ["_law_pile"] ["_law_pile"] (defScope s_l_pull) := ⟨rfl, rfl, rfl, by decide +kernel, rfl, by decide +kernel, by decide +kernel⟩
theorem ok_pullL (W : Wd K mg w) : Cal P w K mg base 1 "_law_pull" spPullL := by
  obtain ⟨fd, F⟩ := W.d_l_pull
  refine ⟨_, fd, ["_law_pile"], F.ok sc_pullL (fun vs H Q E h => ?_) (fun cdv A outer s H vs Q E hr h => ?_), W.g_l_pull, W.p_l_pull, F.bindsN fun _ _ _ _ _ _ us hl => match us, hl with | [_], _ => rfl⟩
  · obtain ⟨H0, I, D, L, dk, u, b, rfl, _⟩ := h
    rfl
  · obtain ⟨H0, I, D, L, dk, u, b, rfl, h, k⟩ := h
    refine ⟨_, PSs.nox (pss_cons (ps_if (pt_truth (pv 0) (by intro _; rfl)) (pss_one (ps_ret (pe_bm0 PySem.F.plainAttrs_list PySem.F.slot_list_pop PySem.F.type_list_pop mt_pop (pv 0)))) pss_nil) (pss_one (ps_ret pe_int))), ?_⟩
    have bz := h.bp
    refine ⟨_, rfl, !(u.pile.reverse.map V.int).isEmpty, .inl ⟨_, SqL.of h.pl, rfl⟩, ?_⟩
    cases e : u.pile with
    | nil =>
      rw [e] at k
      refine iteF ?_
      have g : TwAt H0 H I D L dk { u with pile := [] } b := by rw [← e]; exact h
      exact k H g
    | cons x l =>
      rw [show (!(((x :: l).reverse).map V.int).isEmpty) = true by simp]
      refine iteT ?_
      have hpl := h.pl
      rw [e] at hpl k bz
      refine ⟨_, rfl, .inl ⟨rfl, _, SqL.of hpl⟩, L, _, _, rfl, rfl, hpl, rev_last l x, ?_⟩
      exact k _ (h.setp (p := l) (Nat.le_refl _) (by rw [List.length_cons] at bz; omega) (rev_drop l x))
/-! ### _law_take -/
def spTakeL : Sp := fun vs H Q _ => ∃ (H0 : Hp) (I D L : Addr) (dk : Int) (u : TW.Tw) (b : Nat), vs = [.ref D] ∧ TwAt H0 H I D L dk u b ∧ ∀ H', TwAt H0 H' I D L dk { u with k := u.k + dk } b → Q (.int u.k) H'
theorem sc_takeL : FnScope ["_law_state", "_law_number_here"] ["_law_state"] (defScope s_l_take) := ⟨rfl, rfl, rfl, by decide +kernel, rfl, by decide +kernel, by decide +kernel⟩
theorem ok_takeL (W : Wd K mg w) : Cal P w K mg base 1 "_law_take" spTakeL := by
  obtain ⟨fd, F⟩ := W.d_l_take
  refine ⟨_, fd, ["_law_state"], F.ok sc_takeL (fun vs H Q E h => ?_) (fun cdv A outer s H vs Q E hr h => ?_), W.g_l_take, W.p_l_take, F.bindsN fun _ _ _ _ _ _ us hl => match us, hl with | [_], _ => rfl⟩
  · obtain ⟨H0, I, D, L, dk, u, b, rfl, _⟩ := h
    rfl
  · obtain ⟨H0, I, D, L, dk, u, b, rfl, h, k⟩ := h
    have hu := hu_of hr
    refine ⟨_, PSs.nox (pss_cons (ps_set (i := 1) sc_takeL.nd rfl (Or.inl rfl) (pe_dget hu (pv 0) pe_str (fun _ _ => rfl)))
      (pss_cons (ps_dput hu (pv 0) pe_str (pe_op op_add (pe_dget hu (pv 0) pe_str (fun _ _ => rfl)) (pe_dget hu (pv 0) pe_str (fun _ _ => rfl))) rfl) (pss_one (ps_ret (pv 1))))), ?_⟩
    refine ⟨_, rfl, D, _, rfl, by have := DGet.k (k := (Sum.inr "k" : Key)) h.st; rw [kst_k] at this; exact this, ?_⟩
    refine ⟨_, rfl, D, _, rfl, by have := DGet.k (k := (Sum.inr "k" : Key)) h.st; rw [kst_k] at this; exact this, _, rfl, D, _, rfl, by have := DGet.k (k := (Sum.inr "by" : Key)) h.st; rw [kst_by] at this; exact this, _, _, rfl, rfl, ?_⟩
    refine ⟨_, rfl, D, _, rfl, DPut.k (k := (Sum.inr "k" : Key)) h.st (by show 3 < sizeLine; decide), ?_⟩
    exact ⟨_, rfl, k _ (h.setk (u.k + dk))⟩
/-! ### _law_emit -/
def spEmitL : Sp := fun vs H Q _ => ∃ (H0 : Hp) (I D L : Addr) (dk : Int) (u : TW.Tw) (b : Nat) (op arg : Int), vs = [.ref I, .ref D, .int op, .int arg] ∧ TwAt H0 H I D L dk u b ∧ b < 2000 ∧ ∀ H', TwAt H0 H' I D L dk (u.emit dk op arg) (b + 1) → Q .non H'
theorem sc_emitL : FnScope ["_law_image", "_law_state", "_law_op", "_law_arg"] ["_law_image", "_law_state", "_law_op", "_law_arg"] (defScope s_l_emit) := ⟨rfl, rfl, rfl, by decide +kernel, rfl, by decide +kernel, by decide +kernel⟩
theorem TwAt.gm {H0 H : Hp} {I D L : Addr} {dk : Int} {u : TW.Tw} {b : Nat} (h : TwAt H0 H I D L dk u b) : DGet H D (.str "m") (some (.int u.m)) := by have := DGet.k (k := (Sum.inr "m" : Key)) h.st; rw [kst_m] at this; exact this
theorem TwAt.gk {H0 H : Hp} {I D L : Addr} {dk : Int} {u : TW.Tw} {b : Nat} (h : TwAt H0 H I D L dk u b) : DGet H D (.str "k") (some (.int u.k)) := by have := DGet.k (k := (Sum.inr "k" : Key)) h.st; rw [kst_k] at this; exact this
theorem TwAt.gb {H0 H : Hp} {I D L : Addr} {dk : Int} {u : TW.Tw} {b : Nat} (h : TwAt H0 H I D L dk u b) : DGet H D (.str "by") (some (.int dk)) := by have := DGet.k (k := (Sum.inr "by" : Key)) h.st; rw [kst_by] at this; exact this
theorem ok_emitL (W : Wd K mg w) : Cal P w K mg base 1 "_law_emit" spEmitL := by
  obtain ⟨fd, F⟩ := W.d_l_emit
  refine ⟨_, fd, ["_law_image", "_law_state", "_law_op", "_law_arg"], F.ok sc_emitL (fun vs H Q E h => ?_) (fun cdv A outer s H vs Q E hr h => ?_), W.g_l_emit, W.p_l_emit, F.bindsN fun _ _ _ _ _ _ us hl => match us, hl with | [_, _, _, _], _ => rfl⟩
  · obtain ⟨H0, I, D, L, dk, u, b, op, arg, rfl, _⟩ := h
    rfl
  · obtain ⟨H0, I, D, L, dk, u, b, op, arg, rfl, h, hb, k⟩ := h
    have hu := hu_of hr
    refine ⟨_, PSs.nox (pss_cons (ps_expr (pe_bm PySem.F.plainAttrs_list PySem.F.slot_list_extend PySem.F.type_list_extend mt_extend (pv 0) (pa_cons (pe_lst (pa_cons (pe_dget hu (pv 1) pe_str (fun _ _ => rfl)) (pa_cons (pv 2) (pa_cons (pv 3) (pa_cons (pe_dget hu (pv 1) pe_str (fun _ _ => rfl)) pa_nil))))) pa_nil)))
      (pss_cons (ps_dput hu (pv 1) pe_str (pe_dget hu (pv 1) pe_str (fun _ _ => rfl)) rfl)
      (pss_one (ps_dput hu (pv 1) pe_str (pe_op op_add (pe_dget hu (pv 1) pe_str (fun _ _ => rfl)) (pe_dget hu (pv 1) pe_str (fun _ _ => rfl))) rfl)))), ?_⟩
    have bz := h.bi
    refine ⟨_, rfl, .inl ⟨rfl, _, SqL.of h.im⟩, ?_⟩
    refine ⟨_, rfl, D, _, rfl, h.gm, _, rfl, _, rfl, _, rfl, D, _, rfl, h.gk, (by show 4 ≤ sizeLine; decide), fun l hl => ?_⟩
    have h1 := h.fresh hl (.lst [.int u.m, .int op, .int arg, .int u.k])
    refine ⟨I, l, _, _, rfl, rfl, h1.im, upd_same, Nat.le_of_lt (szb hb (by rw [List.length_map, cellsR_len]; show 4 * u.img.length + 4 ≤ _; omega)), ?_⟩
    have h2 := h1.node (n := u.m) (o := op) (a := arg) (s := u.k) (b' := b + 1) (Nat.le_refl _) rfl
    refine ⟨_, rfl, D, _, rfl, h2.gk, _, rfl, D, _, rfl, DPut.k (k := (Sum.inr "m" : Key)) h2.st (by show 3 < sizeLine; decide), ?_⟩
    have h3 := h2.setm u.k
    refine ⟨_, rfl, D, _, rfl, h3.gk, _, rfl, D, _, rfl, h3.gb, _, _, rfl, rfl, ?_⟩
    refine ⟨_, rfl, D, _, rfl, DPut.k (k := (Sum.inr "k" : Key)) h3.st (by show 3 < sizeLine; decide), ?_⟩
    exact k _ (h3.setk (u.k + dk))
end
end Pz
end
set_option Elab.async false
set_option linter.all false
set_option maxRecDepth 100000
set_option maxHeartbeats 4000000
/-! The law's own translation: brackets. Printed by genp13.py. -/
noncomputable section
namespace Pz
open PySem PySem.Spec PyProof.Rows L2
section
variable {P : Program} {w : World} {K : PySem.W.Frag} {mg : Str → Option Value} {base : Heap}
def spBrk : Sp := fun vs H Q _ => ∃ (H0 : Hp) (I D L : Addr) (dk : Int) (u : TW.Tw) (b : Nat) (c : Int), vs = [.ref I, .ref D, .ref L, .int c] ∧ TwAt H0 H I D L dk u b ∧ b < 1990 ∧ ∀ H', TwAt H0 H' I D L dk (u.bracket dk c) (b + 2) → Q .non H'
theorem sc_brk : FnScope ["_law_image", "_law_state", "_law_pile", "_law_code", "_law_other", "_law_end", "_law_start"] ["_law_image", "_law_state", "_law_pile", "_law_code"] (defScope s_l_bracket) := ⟨rfl, rfl, rfl, by decide +kernel, rfl, by decide +kernel, by decide +kernel⟩
theorem ok_brk (W : Wd K mg w) : Cal P w K mg base 2 "_law_bracket" spBrk := by
  obtain ⟨fd, F⟩ := W.d_l_bracket
  have GT := ok_takeL (P := P) (base := base) W
  have GP := ok_pullL (P := P) (base := base) W
  have GE := ok_emitL (P := P) (base := base) W
  refine ⟨_, fd, ["_law_image", "_law_state", "_law_pile", "_law_code"], F.ok sc_brk (fun vs H Q E h => ?_) (fun cdv A outer s H vs Q E hr h => ?_), W.g_l_bracket, W.p_l_bracket, F.bindsN fun _ _ _ _ _ _ us hl => match us, hl with | [_, _, _, _], _ => rfl⟩
  · obtain ⟨H0, I, D, L, dk, u, b, c, rfl, _⟩ := h
    rfl
  · obtain ⟨H0, I, D, L, dk, u, b, c, rfl, h, hb0, k⟩ := h
    have hu := hu_of hr
    have hb : b < 2000 := by omega
    have bi := h.bi
    have bp := h.bp
    refine ⟨_, PSs.nox (pss_one (ps_if (pt_cmpR op_eq (pv 3) pe_int (nomark _))
      (pss_cons (ps_set (i := 4) sc_brk.nd rfl (Or.inl rfl) (pe_c GT hr (Nat.le_refl _) rfl (pa_cons (pv 1) pa_nil)))
        (pss_cons (ps_expr (pe_bm PySem.F.plainAttrs_list PySem.F.slot_list_append PySem.F.type_list_append mt_append (pv 2) (pa_cons (pv 4) pa_nil)))
        (pss_one (ps_expr (pe_c GE hr (Nat.le_refl _) rfl (pa_cons (pv 0) (pa_cons (pv 1) (pa_cons (pe_int) (pa_cons (pv 4) pa_nil)))))))))
      (pss_one (ps_if (pt_cmpR op_eq (pv 3) pe_int (nomark _))
      (pss_cons (ps_set (i := 5) sc_brk.nd rfl (Or.inl rfl) (pe_c GT hr (Nat.le_refl _) rfl (pa_cons (pv 1) pa_nil)))
        (pss_cons (ps_expr (pe_bm PySem.F.plainAttrs_list PySem.F.slot_list_extend PySem.F.type_list_extend mt_extend (pv 0) (pa_cons (pe_lst (pa_cons (pe_dget hu (pv 1) pe_str (fun _ _ => rfl)) (pa_cons pe_int (pa_cons pe_int (pa_cons (pv 5) pa_nil))))) pa_nil)))
        (pss_cons (ps_dput hu (pv 1) pe_str (pe_c GP hr (Nat.le_refl _) rfl (pa_cons (pv 2) pa_nil)) rfl)
        (pss_one (ps_expr (pe_bm PySem.F.plainAttrs_list PySem.F.slot_list_append PySem.F.type_list_append mt_append (pv 2) (pa_cons (pv 5) pa_nil)))))))
      (pss_one (ps_if (pt_cmpR op_eq (pv 3) pe_int (nomark _))
      (pss_cons (ps_set (i := 5) sc_brk.nd rfl (Or.inl rfl) (pe_c GP hr (Nat.le_refl _) rfl (pa_cons (pv 2) pa_nil)))
        (pss_cons (ps_expr (pe_bm PySem.F.plainAttrs_list PySem.F.slot_list_extend PySem.F.type_list_extend mt_extend (pv 0) (pa_cons (pe_lst (pa_cons (pe_dget hu (pv 1) pe_str (fun _ _ => rfl)) (pa_cons pe_int (pa_cons pe_int (pa_cons (pv 5) pa_nil))))) pa_nil)))
        (pss_one (ps_dput hu (pv 1) pe_str (pv 5) rfl))))
      (pss_one (ps_if (pt_cmpR op_eq (pv 3) pe_int (nomark _))
      (pss_cons (ps_set (i := 6) sc_brk.nd rfl (Or.inl rfl) (pe_c GT hr (Nat.le_refl _) rfl (pa_cons (pv 1) pa_nil)))
        (pss_cons (ps_expr (pe_bm PySem.F.plainAttrs_list PySem.F.slot_list_extend PySem.F.type_list_extend mt_extend (pv 0) (pa_cons (pe_lst (pa_cons (pe_dget hu (pv 1) pe_str (fun _ _ => rfl)) (pa_cons pe_int (pa_cons pe_int (pa_cons (pv 6) pa_nil))))) pa_nil)))
        (pss_cons (ps_dput hu (pv 1) pe_str (pv 6) rfl)
        (pss_one (ps_expr (pe_bm PySem.F.plainAttrs_list PySem.F.slot_list_append PySem.F.type_list_append mt_append (pv 2) (pa_cons (pv 6) pa_nil)))))))
      (pss_one (ps_if (pt_cmpR op_eq (pv 3) pe_int (nomark _))
      (pss_cons (ps_set (i := 6) sc_brk.nd rfl (Or.inl rfl) (pe_c GP hr (Nat.le_refl _) rfl (pa_cons (pv 2) pa_nil)))
        (pss_cons (ps_set (i := 5) sc_brk.nd rfl (Or.inl rfl) (pe_c GT hr (Nat.le_refl _) rfl (pa_cons (pv 1) pa_nil)))
        (pss_cons (ps_expr (pe_bm PySem.F.plainAttrs_list PySem.F.slot_list_extend PySem.F.type_list_extend mt_extend (pv 0) (pa_cons (pe_lst (pa_cons (pe_dget hu (pv 1) pe_str (fun _ _ => rfl)) (pa_cons pe_int (pa_cons (pv 5) (pa_cons (pv 6) pa_nil))))) pa_nil)))
        (pss_one (ps_dput hu (pv 1) pe_str (pv 5) rfl)))))
      (pss_one (ps_if (pt_cmpR op_eq (pv 3) pe_int (nomark _))
      (pss_cons (ps_expr (pe_bm PySem.F.plainAttrs_list PySem.F.slot_list_extend PySem.F.type_list_extend mt_extend (pv 0) (pa_cons (pe_lst (pa_cons (pe_dget hu (pv 1) pe_str (fun _ _ => rfl)) (pa_cons pe_int (pa_cons pe_int (pa_cons pe_int pa_nil))))) pa_nil)))
        (pss_one (ps_dput hu (pv 1) pe_str (pe_c GP hr (Nat.le_refl _) rfl (pa_cons (pv 2) pa_nil)) rfl)))
      (pss_one (ps_if (pt_cmpR op_gt (pv 3) pe_int (nomark _)) (pss_one (ps_expr (pe_c GE hr (Nat.le_refl _) rfl (pa_cons (pv 0) (pa_cons (pv 1) (pa_cons (pv 3) (pa_cons (pe_int) pa_nil))))))) pss_nil)))))))))))))), ?_⟩
    unfold TW.Tw.bracket at k
    refine ⟨_, rfl, rfl, _, rfl, ?_⟩
    by_cases c91 : c = 91
    · rw [if_pos c91] at k
      rw [decide_eq_true (show V.int c = V.int 91 by rw [c91])]
      refine iteT ?_
      refine ⟨_, rfl, H0, I, D, L, dk, _, _, rfl, h, fun H_h1 h1 => ?_⟩
      refine ⟨_, rfl, .inl ⟨rfl, _, SqL.of h1.pl⟩, _, rfl, L, _, _, rfl, rfl, h1.pl, szb hb (by rw [rlen]; show (u.pile).length ≤ _; first | omega | (rw [List.length_tail]; omega)), ?_⟩
      have h2 := h1.setp (p := u.k :: u.pile) (xs := (u.pile).reverse.map V.int ++ [V.int (u.k)]) (b' := b + 1) (by omega) (by rw [List.length_cons]; first | omega | (rw [List.length_tail]; omega)) (by simp)
      refine ⟨_, rfl, _, rfl, _, rfl, H0, I, D, L, dk, _, _, _, _, rfl, h2, (by omega), fun H3 h3 => ?_⟩
      exact k _ (h3.mono (by omega))
    rw [if_neg c91] at k
    rw [decide_eq_false (fun e => c91 (V.int.inj e))]
    refine iteF ?_
    refine ⟨_, rfl, rfl, _, rfl, ?_⟩
    by_cases c124 : c = 124
    · rw [if_pos c124] at k
      rw [decide_eq_true (show V.int c = V.int 124 by rw [c124])]
      refine iteT ?_
      refine ⟨_, rfl, H0, I, D, L, dk, _, _, rfl, h, fun H_h1 h1 => ?_⟩
      refine ⟨_, rfl, .inl ⟨rfl, _, SqL.of h1.im⟩, ?_⟩
      refine ⟨_, rfl, D, _, rfl, h1.gm, _, rfl, (by show 4 ≤ sizeLine; decide), fun l1 hl1 => ?_⟩
      have f1 := h1.fresh hl1 (.lst [.int u.m, .int (32), .int (0), .int (u.k)])
      have z1 := f1.bi
      refine ⟨I, l1, _, _, rfl, rfl, f1.im, upd_same, Nat.le_of_lt (szb hb (by rw [List.length_map, cellsR_len]; show 4 * u.img.length + 4 ≤ _; omega)), ?_⟩
      have h2 := f1.node (n := u.m) (o := 32) (a := 0) (s := u.k) (b' := b + 1) (Nat.le_refl _) rfl
      refine ⟨_, rfl, H0, I, D, L, dk, _, _, rfl, h2, fun H_h3 h3 => ?_⟩
      refine ⟨_, rfl, D, _, rfl, DPut.k (k := (Sum.inr "m" : Key)) h3.st (by show 3 < sizeLine; decide), ?_⟩
      have h4 := h3.setm (TW.hd u.pile)
      refine ⟨_, rfl, .inl ⟨rfl, _, SqL.of h4.pl⟩, _, rfl, L, _, _, rfl, rfl, h4.pl, szb hb (by rw [rlen]; show (u.pile.tail).length ≤ _; first | omega | (rw [List.length_tail]; omega)), ?_⟩
      have h5 := h4.setp (p := u.k :: u.pile.tail) (xs := (u.pile.tail).reverse.map V.int ++ [V.int (u.k)]) (b' := b + 1) (by omega) (by rw [List.length_cons]; first | omega | (rw [List.length_tail]; omega)) (by simp)
      exact k _ (h5.mono (by omega))
    rw [if_neg c124] at k
    rw [decide_eq_false (fun e => c124 (V.int.inj e))]
    refine iteF ?_
    refine ⟨_, rfl, rfl, _, rfl, ?_⟩
    by_cases c93 : c = 93
    · rw [if_pos c93] at k
      rw [decide_eq_true (show V.int c = V.int 93 by rw [c93])]
      refine iteT ?_
      refine ⟨_, rfl, H0, I, D, L, dk, _, _, rfl, h, fun H_h1 h1 => ?_⟩
      refine ⟨_, rfl, .inl ⟨rfl, _, SqL.of h1.im⟩, ?_⟩
      refine ⟨_, rfl, D, _, rfl, h1.gm, _, rfl, (by show 4 ≤ sizeLine; decide), fun l1 hl1 => ?_⟩
      have f1 := h1.fresh hl1 (.lst [.int u.m, .int (32), .int (0), .int (TW.hd u.pile)])
      have z1 := f1.bi
      refine ⟨I, l1, _, _, rfl, rfl, f1.im, upd_same, Nat.le_of_lt (szb hb (by rw [List.length_map, cellsR_len]; show 4 * u.img.length + 4 ≤ _; omega)), ?_⟩
      have h2 := f1.node (n := u.m) (o := 32) (a := 0) (s := TW.hd u.pile) (b' := b + 1) (Nat.le_refl _) rfl
      refine ⟨_, rfl, ?_⟩
      refine ⟨_, rfl, D, _, rfl, DPut.k (k := (Sum.inr "m" : Key)) h2.st (by show 3 < sizeLine; decide), ?_⟩
      have h3 := h2.setm (TW.hd u.pile)
      exact k _ (h3.mono (by omega))
    rw [if_neg c93] at k
    rw [decide_eq_false (fun e => c93 (V.int.inj e))]
    refine iteF ?_
    refine ⟨_, rfl, rfl, _, rfl, ?_⟩
    by_cases c123 : c = 123
    · rw [if_pos c123] at k
      rw [decide_eq_true (show V.int c = V.int 123 by rw [c123])]
      refine iteT ?_
      refine ⟨_, rfl, H0, I, D, L, dk, _, _, rfl, h, fun H_h1 h1 => ?_⟩
      refine ⟨_, rfl, .inl ⟨rfl, _, SqL.of h1.im⟩, ?_⟩
      refine ⟨_, rfl, D, _, rfl, h1.gm, _, rfl, (by show 4 ≤ sizeLine; decide), fun l1 hl1 => ?_⟩
      have f1 := h1.fresh hl1 (.lst [.int u.m, .int (32), .int (0), .int (u.k)])
      have z1 := f1.bi
      refine ⟨I, l1, _, _, rfl, rfl, f1.im, upd_same, Nat.le_of_lt (szb hb (by rw [List.length_map, cellsR_len]; show 4 * u.img.length + 4 ≤ _; omega)), ?_⟩
      have h2 := f1.node (n := u.m) (o := 32) (a := 0) (s := u.k) (b' := b + 1) (Nat.le_refl _) rfl
      refine ⟨_, rfl, ?_⟩
      refine ⟨_, rfl, D, _, rfl, DPut.k (k := (Sum.inr "m" : Key)) h2.st (by show 3 < sizeLine; decide), ?_⟩
      have h3 := h2.setm (u.k)
      refine ⟨_, rfl, .inl ⟨rfl, _, SqL.of h3.pl⟩, _, rfl, L, _, _, rfl, rfl, h3.pl, szb hb (by rw [rlen]; show (u.pile).length ≤ _; first | omega | (rw [List.length_tail]; omega)), ?_⟩
      have h4 := h3.setp (p := u.k :: u.pile) (xs := (u.pile).reverse.map V.int ++ [V.int (u.k)]) (b' := b + 1) (by omega) (by rw [List.length_cons]; first | omega | (rw [List.length_tail]; omega)) (by simp)
      exact k _ (h4.mono (by omega))
    rw [if_neg c123] at k
    rw [decide_eq_false (fun e => c123 (V.int.inj e))]
    refine iteF ?_
    refine ⟨_, rfl, rfl, _, rfl, ?_⟩
    by_cases c125 : c = 125
    · rw [if_pos c125] at k
      rw [decide_eq_true (show V.int c = V.int 125 by rw [c125])]
      refine iteT ?_
      refine ⟨_, rfl, H0, I, D, L, dk, _, _, rfl, h, fun H_h0 h0 => ?_⟩
      refine ⟨_, rfl, H0, I, D, L, dk, _, _, rfl, h0, fun H_h1 h1 => ?_⟩
      refine ⟨_, rfl, .inl ⟨rfl, _, SqL.of h1.im⟩, ?_⟩
      refine ⟨_, rfl, D, _, rfl, h1.gm, _, rfl, _, rfl, (by show 4 ≤ sizeLine; decide), fun l1 hl1 => ?_⟩
      have f1 := h1.fresh hl1 (.lst [.int u.m, .int (63), .int (u.k), .int (TW.hd u.pile)])
      have z1 := f1.bi
      refine ⟨I, l1, _, _, rfl, rfl, f1.im, upd_same, Nat.le_of_lt (szb hb (by rw [List.length_map, cellsR_len]; show 4 * u.img.length + 4 ≤ _; omega)), ?_⟩
      have h2 := f1.node (n := u.m) (o := 63) (a := u.k) (s := TW.hd u.pile) (b' := b + 1) (Nat.le_refl _) rfl
      refine ⟨_, rfl, ?_⟩
      refine ⟨_, rfl, D, _, rfl, DPut.k (k := (Sum.inr "m" : Key)) h2.st (by show 3 < sizeLine; decide), ?_⟩
      have h3 := h2.setm (u.k)
      exact k _ (h3.mono (by omega))
    rw [if_neg c125] at k
    rw [decide_eq_false (fun e => c125 (V.int.inj e))]
    refine iteF ?_
    refine ⟨_, rfl, rfl, _, rfl, ?_⟩
    by_cases c59 : c = 59
    · rw [if_pos c59] at k
      rw [decide_eq_true (show V.int c = V.int 59 by rw [c59])]
      refine iteT ?_
      refine ⟨_, rfl, .inl ⟨rfl, _, SqL.of h.im⟩, ?_⟩
      refine ⟨_, rfl, D, _, rfl, h.gm, (by show 4 ≤ sizeLine; decide), fun l1 hl1 => ?_⟩
      have f1 := h.fresh hl1 (.lst [.int u.m, .int (41), .int (0), .int (1)])
      have z1 := f1.bi
      refine ⟨I, l1, _, _, rfl, rfl, f1.im, upd_same, Nat.le_of_lt (szb hb (by rw [List.length_map, cellsR_len]; show 4 * u.img.length + 4 ≤ _; omega)), ?_⟩
      have h2 := f1.node (n := u.m) (o := 41) (a := 0) (s := 1) (b' := b + 1) (Nat.le_refl _) rfl
      refine ⟨_, rfl, H0, I, D, L, dk, _, _, rfl, h2, fun H_h3 h3 => ?_⟩
      refine ⟨_, rfl, D, _, rfl, DPut.k (k := (Sum.inr "m" : Key)) h3.st (by show 3 < sizeLine; decide), ?_⟩
      have h4 := h3.setm (TW.hd u.pile)
      exact k _ (h4.mono (by omega))
    rw [if_neg c59] at k
    rw [decide_eq_false (fun e => c59 (V.int.inj e))]
    refine iteF ?_
    refine ⟨_, rfl, _, _, rfl, rfl, _, rfl, ?_⟩
    by_cases c32 : 32 < c
    · rw [if_pos c32] at k
      rw [decide_eq_true (show c > 32 from c32)]
      refine iteT ?_
      exact ⟨_, rfl, _, rfl, _, rfl, H0, I, D, L, dk, _, _, _, _, rfl, h, hb, fun H3 h3 => k _ (h3.mono (by omega))⟩
    · rw [if_neg c32] at k
      rw [decide_eq_false (show ¬ c > 32 from c32)]
      refine iteF ?_
      exact k _ (h.mono (by omega))
end
end Pz
end
set_option Elab.async false
set_option linter.all false
set_option maxRecDepth 100000
set_option maxHeartbeats 4000000
/-! The law's own translation: twig. -/
noncomputable section
namespace Pz
open PySem PySem.Spec PyProof.Rows L2
section
variable {P : Program} {w : World} {K : PySem.W.Frag} {mg : Str → Option Value} {base : Heap}
/-! ### _law_second_code -/
def spSec : Sp := fun vs H Q _ => ∃ (H0 : Hp) (I D L : Addr) (dk : Int) (u : TW.Tw) (b : Nat) (c : Int), vs = [.ref I, .ref D, .ref L, .int u.sign, .int c] ∧ TwAt H0 H I D L dk u b ∧ b < 1990 ∧ ∀ H', TwAt H0 H' I D L dk (u.second dk c) (b + 1) → Q .non H'
theorem sc_sec : FnScope ["_law_image", "_law_state", "_law_pile", "_law_sign", "_law_code"] ["_law_image", "_law_state", "_law_pile", "_law_sign", "_law_code"] (defScope s_l_second_code) := ⟨rfl, rfl, rfl, by decide +kernel, rfl, by decide +kernel, by decide +kernel⟩
theorem ok_sec (W : Wd K mg w) : Cal P w K mg base 2 "_law_second_code" spSec := by
  obtain ⟨fd, F⟩ := W.d_l_second_code
  have GE := ok_emitL (P := P) (base := base) W
  refine ⟨_, fd, ["_law_image", "_law_state", "_law_pile", "_law_sign", "_law_code"], F.ok sc_sec (fun vs H Q E h => ?_) (fun cdv A outer s H vs Q E hr h => ?_), W.g_l_second_code, W.p_l_second_code, F.bindsN fun _ _ _ _ _ _ us hl => match us, hl with | [_, _, _, _, _], _ => rfl⟩
  · obtain ⟨H0, I, D, L, dk, u, b, c, rfl, _⟩ := h
    rfl
  · obtain ⟨H0, I, D, L, dk, u, b, c, rfl, h, hb0, k⟩ := h
    have hu := hu_of hr
    have hb : b < 2000 := by omega
    have bp := h.bp
    refine ⟨_, PSs.nox (pss_one (ps_if (pt_cmpR op_eq (pv 3) pe_int (nomark _)) (pss_one (ps_expr (pe_c GE hr (Nat.le_refl _) rfl (pa_cons (pv 0) (pa_cons (pv 1) (pa_cons pe_int (pa_cons (pv 4) pa_nil)))))))
      (pss_one (ps_if (pt_cmpR op_eq (pv 3) pe_int (nomark _)) (pss_one (ps_expr (pe_c GE hr (Nat.le_refl _) rfl (pa_cons (pv 0) (pa_cons (pv 1) (pa_cons pe_int (pa_cons (pv 4) pa_nil)))))))
        (pss_cons (ps_expr (pe_bm PySem.F.plainAttrs_list PySem.F.slot_list_append PySem.F.type_list_append mt_append (pv 2) (pa_cons (pe_dget hu (pv 1) pe_str (fun _ _ => rfl)) pa_nil)))
          (pss_one (ps_dput hu (pv 1) pe_str (pv 4) rfl))))))), ?_⟩
    unfold TW.Tw.second at k
    refine ⟨_, rfl, rfl, _, rfl, ?_⟩
    by_cases c1 : u.sign = 39
    · rw [if_pos c1] at k
      rw [decide_eq_true (show V.int u.sign = V.int 39 by rw [c1])]
      refine iteT ?_
      exact ⟨_, rfl, _, rfl, _, rfl, H0, I, D, L, dk, _, _, _, _, rfl, h, hb, fun H3 h3 => k _ h3⟩
    rw [if_neg c1] at k
    rw [decide_eq_false (fun e => c1 (V.int.inj e))]
    refine iteF ?_
    refine ⟨_, rfl, rfl, _, rfl, ?_⟩
    by_cases c2 : u.sign = 61
    · rw [if_pos c2] at k
      rw [decide_eq_true (show V.int u.sign = V.int 61 by rw [c2])]
      refine iteT ?_
      exact ⟨_, rfl, _, rfl, _, rfl, H0, I, D, L, dk, _, _, _, _, rfl, h, hb, fun H3 h3 => k _ h3⟩
    rw [if_neg c2] at k
    rw [decide_eq_false (fun e => c2 (V.int.inj e))]
    refine iteF ?_
    refine ⟨_, rfl, .inl ⟨rfl, _, SqL.of h.pl⟩, _, rfl, D, _, rfl, h.gm, L, _, _, rfl, rfl, h.pl, szb hb (by rw [rlen]; omega), ?_⟩
    have h2 := h.push (v := u.m) (b' := b + 1) (by omega)
    refine ⟨_, rfl, _, rfl, D, _, rfl, DPut.k (k := (Sum.inr "m" : Key)) h2.st (by show 3 < sizeLine; decide), ?_⟩
    exact k _ (h2.setm c)
/-! ### _law_twig -/
def spTwig (K : PySem.W.Frag) : Sp := fun vs H Q _ => ∃ (a : Addr) (codes : List Int) (f0 d0 : Int), vs = [.ref a, .int f0, .int d0] ∧ SqL K H a (codes.map V.int) ∧ codes.length ≤ 600 ∧
  ∀ (H' : Hp) (o : Addr), Same H H' → H o = none → H' o = some (.lst ((cellsR (TW.twigR codes f0 d0)).map V.int)) → Q (.ref o) H'
theorem sc_twig : FnScope ["_law_codes", "_law_first", "_law_by", "_law_image", "_law_state", "_law_pile", "_law_value", "_law_sign", "_law_code"] ["_law_codes", "_law_first", "_law_by"] (defScope s_l_twig) := ⟨rfl, rfl, rfl, by decide +kernel, rfl, by decide +kernel, by decide +kernel⟩
theorem tw_start (f0 d0 : Int) : mergeK [] [((Sum.inr "m" : Key), V.int f0), (Sum.inr "k", V.int (f0 + d0)), (Sum.inr "by", V.int d0)] = kst f0 (f0 + d0) d0 := by kernel_rfl
theorem TwAt.sg {H0 H : Hp} {I D L : Addr} {dk : Int} {u : TW.Tw} {b : Nat} (h : TwAt H0 H I D L dk u b) (v g : Int) : TwAt H0 H I D L dk { u with val := v, sign := g } b := { h with }
theorem second_val (dk : Int) (u : TW.Tw) (c : Int) : (u.second dk c).val = u.val := by
  unfold TW.Tw.second
  split
  · rfl
  · split <;> rfl
theorem bracket_val (dk : Int) (u : TW.Tw) (c : Int) : (u.bracket dk c).val = u.val ∧ (u.bracket dk c).sign = u.sign := by
  unfold TW.Tw.bracket
  split
  · exact ⟨rfl, rfl⟩
  split
  · exact ⟨rfl, rfl⟩
  split
  · exact ⟨rfl, rfl⟩
  split
  · exact ⟨rfl, rfl⟩
  split
  · exact ⟨rfl, rfl⟩
  split
  · exact ⟨rfl, rfl⟩
  split
  · exact ⟨rfl, rfl⟩
  · exact ⟨rfl, rfl⟩
theorem TwAt.of {H0 H : Hp} {I D L : Addr} {dk : Int} {u u' : TW.Tw} {b : Nat} (h : TwAt H0 H I D L dk u b) (e1 : u'.img = u.img) (e2 : u'.m = u.m) (e3 : u'.k = u.k) (e4 : u'.pile = u.pile) : TwAt H0 H I D L dk u' b :=
  { same := h.same, nI := h.nI, nD := h.nD, nL := h.nL, ne := h.ne, im := by rw [e1]; exact h.im, st := by rw [e2, e3]; exact h.st, pl := by rw [e4]; exact h.pl, bi := by rw [e1]; exact h.bi, bp := by rw [e4]; exact h.bp }
theorem ok_twig (W : Wd K mg w) : Cal P w K mg base 3 "_law_twig" (spTwig K) := by
  obtain ⟨fd, F⟩ := W.d_l_twig
  have GS := ok_sec (P := P) (base := base) W
  have GB := ok_brk (P := P) (base := base) W
  have GE := ok_emitL (P := P) (base := base) W
  refine ⟨_, fd, ["_law_codes", "_law_first", "_law_by"], F.ok sc_twig (fun vs H Q E h => ?_) (fun cdv A outer s H vs Q E hr h => ?_), W.g_l_twig, W.p_l_twig, F.bindsN fun _ _ _ _ _ _ us hl => match us, hl with | [_, _, _], _ => rfl⟩
  · obtain ⟨a, codes, f0, d0, rfl, _⟩ := h
    rfl
  · obtain ⟨a, codes, f0, d0, rfl, ha, hlen, k⟩ := h
    have hu := hu_of hr
    refine ⟨_, PSs.nox (pss_cons (ps_set (i := 3) sc_twig.nd rfl (Or.inl rfl) (pe_lst (pa_cons pe_int (pa_cons pe_int (pa_cons pe_int (pa_cons (pv 1) pa_nil))))))
      (pss_cons (ps_set (i := 4) sc_twig.nd rfl (Or.inl rfl) (pe_disp (pps_cons pe_str (pv 1) (pps_cons pe_str (pe_op op_add (pv 1) (pv 2)) (pps_cons pe_str (pv 2) pps_nil))) (by rfl) (by rfl) (fun z => by cases z) (by decide)))
      (pss_cons (ps_set (i := 5) sc_twig.nd rfl (Or.inl rfl) (pe_lst pa_nil))
      (pss_cons (ps_set (i := 6) sc_twig.nd rfl (Or.inl rfl) (pe_un un_neg pe_int))
      (pss_cons (ps_set (i := 7) sc_twig.nd rfl (Or.inl rfl) pe_int)
      (pss_cons (ps_for PassesOwn.never rfl (pi_list (pv 0)) (pg_name (i := 8) sc_twig.nd rfl (Or.inl rfl))
        (pss_cons (ps_if (pt_cmpR op_gt (pv 7) pe_int (nomark _)) (pss_cons (ps_expr (pe_c GS hr (by decide) rfl (pa_cons (pv 3) (pa_cons (pv 4) (pa_cons (pv 5) (pa_cons (pv 7) (pa_cons (pv 8) pa_nil))))))) (pss_cons (ps_set (i := 7) sc_twig.nd rfl (Or.inl rfl) pe_int) (pss_one ps_continue))) pss_nil)
        (pss_cons (ps_if (pt_chain op_le op_le pe_int (pv 8) pe_int) (pss_cons (ps_set (i := 6) sc_twig.nd rfl (Or.inl rfl) (pe_op op_sub (pe_op op_add (pe_op op_mul pe_int (pe_callB (call_max2 rfl) (by rfl) W.no_max (by decide +kernel) (pa_cons (pv 6) (pa_cons pe_int pa_nil)))) (pv 8)) pe_int)) (pss_one ps_continue)) pss_nil)
        (pss_cons (ps_if (pt_cmpR op_ge (pv 6) pe_int (nomark _)) (pss_cons (ps_expr (pe_c GE hr (by decide) rfl (pa_cons (pv 3) (pa_cons (pv 4) (pa_cons pe_int (pa_cons (pv 6) pa_nil)))))) (pss_one (ps_set (i := 6) sc_twig.nd rfl (Or.inl rfl) (pe_un un_neg pe_int)))) pss_nil)
        (pss_one (ps_if (PW.pt (pw_or (pt_cmpR op_eq (pv 8) pe_int (nomark _)) (pw_or (pt_cmpR op_eq (pv 8) pe_int (nomark _)) (pw_or1 (pt_cmpR op_eq (pv 8) pe_int (nomark _)))))) (pss_one (ps_set (i := 7) sc_twig.nd rfl (Or.inl rfl) (pv 8)))
          (pss_one (ps_expr (pe_c GB hr (by decide) rfl (pa_cons (pv 3) (pa_cons (pv 4) (pa_cons (pv 5) (pa_cons (pv 8) pa_nil)))))))))))))
      (pss_cons (ps_if (pt_cmpR op_ge (pv 6) pe_int (nomark _)) (pss_one (ps_expr (pe_c GE hr (by decide) rfl (pa_cons (pv 3) (pa_cons (pv 4) (pa_cons pe_int (pa_cons (pv 6) pa_nil))))))) pss_nil)
      (pss_cons (ps_expr (pe_c GE hr (by decide) rfl (pa_cons (pv 3) (pa_cons (pv 4) (pa_cons pe_int (pa_cons pe_int pa_nil))))))
      (pss_one (ps_ret (pv 3))))))))))), ?_⟩
    refine ⟨_, rfl, (by show 4 ≤ sizeLine; decide), fun I hI => ?_⟩
    intro D hD
    refine ⟨_, rfl, _, rfl, _, rfl, _, _, rfl, rfl, _, rfl, upd_same, [((Sum.inr "m" : Key), V.int f0), (Sum.inr "k", V.int (f0 + d0)), (Sum.inr "by", V.int d0)], rfl, (by show 3 ≤ 15; decide), ?_⟩
    rw [tw_start]
    refine ⟨Nat.zero_le _, fun L hL => ?_⟩
    refine ⟨_, rfl, ?_⟩
    have s1 : Same H (upd H I (.lst [.int 0, .int 32, .int 0, .int f0])) := same_upd (Same.refl H) hI
    have nDI : D ≠ I := fun e => by rw [e, upd_same] at hD; cases hD
    generalize hH2 : upd (upd (upd H I (.lst [.int 0, .int 32, .int 0, .int f0])) D (.dK [])) D (.dK (kst f0 (f0 + d0) d0)) = H2 at hL ⊢
    have s2 : Same H H2 := by rw [← hH2]; exact same_upd (same_upd s1 (s1.free hD)) (s1.free hD)
    have i2 : H2 I = some (.lst [.int 0, .int 32, .int 0, .int f0]) := by rw [← hH2, upd_ne nDI.symm, upd_ne nDI.symm, upd_same]
    have d2 : H2 D = some (.dK (kst f0 (f0 + d0) d0)) := by rw [← hH2]; exact upd_same
    have nIL : I ≠ L := ne_of_none i2 hL
    have nDL : D ≠ L := ne_of_none d2 hL
    have t0 : TwAt H (upd H2 L (.lst [])) I D L d0 (TW.Tw.start f0 d0) 1 :=
      { same := same_upd s2 (s2.free hL), nI := hI, nD := s1.free hD, nL := s2.free hL, ne := nIL, im := by rw [upd_ne nIL]; exact i2, st := by rw [upd_ne nDL]; exact d2, pl := upd_same, bi := Nat.le_refl _, bp := Nat.zero_le _ }
    refine ⟨_, rfl, a, rfl, ⟨_, t0.same.seq ha⟩, ?_⟩
    refine for_it walk_list (fun i σ H' => ∃ (v8 : Option V), σ = [some (.ref a), some (.int f0), some (.int d0), some (.ref I), some (.ref D), some (.ref L), some (.int ((codes.take i).foldl (TW.Tw.one d0) (TW.Tw.start f0 d0)).val),
        some (.int ((codes.take i).foldl (TW.Tw.one d0) (TW.Tw.start f0 d0)).sign), v8] ∧ TwAt H H' I D L d0 ((codes.take i).foldl (TW.Tw.one d0) (TW.Tw.start f0 d0)) (3 * i + 1))
      ⟨none, rfl, t0⟩ (fun i σ H' _ ⟨_, _, t⟩ => t.same.seq ha) ?_ ?_
    · rintro i v σ H3 H4 hi ⟨v8, rfl, t⟩ ⟨rfl, hv⟩
      rw [List.length_map] at hi
      rw [List.getElem?_map, List.getElem?_eq_getElem hi] at hv
      obtain rfl := Option.some.inj hv
      have ef : (codes.take (i + 1)).foldl (TW.Tw.one d0) (TW.Tw.start f0 d0) = ((codes.take i).foldl (TW.Tw.one d0) (TW.Tw.start f0 d0)).one d0 codes[i] := by
        rw [List.take_add_one, List.getElem?_eq_getElem hi, List.foldl_append]
        rfl
      rw [ef]
      generalize (codes.take i).foldl (TW.Tw.one d0) (TW.Tw.start f0 d0) = u at *
      generalize codes[i] = c at *
      refine ⟨_, rfl, _, _, rfl, rfl, _, rfl, ?_⟩
      by_cases c1 : 0 < u.sign
      · rw [decide_eq_true (show u.sign > 0 from c1)]
        refine iteT ?_
        refine ⟨_, rfl, _, rfl, _, rfl, _, rfl, _, rfl, H, I, D, L, d0, u, 3 * i + 1, c, rfl, t, by omega, fun H5 t5 => ?_⟩
        have e1 : u.one d0 c = { (u.second d0 c) with sign := 0 } := by unfold TW.Tw.one; rw [if_pos c1]
        rw [e1]
        refine ⟨some (.int c), ?_, (t5.sg (u.second d0 c).val 0).mono (by omega)⟩
        show _ = [some (.ref a), some (.int f0), some (.int d0), some (.ref I), some (.ref D), some (.ref L), some (V.int (u.second d0 c).val), some (V.int 0), some (V.int c)]
        rw [second_val]
        rfl
      rw [decide_eq_false (show ¬ u.sign > 0 from c1)]
      refine iteF ?_
      refine ⟨_, rfl, _, _, rfl, rfl, _, rfl, ?_⟩
      by_cases c2 : 48 ≤ c ∧ c ≤ 57
      · rw [decide_eq_true c2.1]
        refine iteT ?_
        refine ⟨_, _, rfl, rfl, _, rfl, ?_⟩
        rw [decide_eq_true c2.2]
        refine iteT ?_
        have e1 : u.one d0 c = { u with val := 10 * (if u.val < 0 then 0 else u.val) + c - 48 } := by unfold TW.Tw.one; rw [if_neg c1, if_pos c2]
        rw [e1]
        refine ⟨_, rfl, _, _, rfl, _, _, rfl, rfl, .inl ⟨by decide, by decide⟩, _, rfl, _, _, rfl, rfl, _, _, rfl, rfl, ?_⟩
        exact ⟨some (.int c), rfl, (t.sg _ u.sign).mono (by omega)⟩
      have e1 : u.one d0 c = if c = 39 ∨ c = 61 ∨ c = 58 then { (u.flush d0) with sign := c } else (u.flush d0).bracket d0 c := by unfold TW.Tw.one; rw [if_neg c1, if_neg c2]
      by_cases c4 : 48 ≤ c
      · rw [decide_eq_true c4]
        refine iteT ?_
        refine ⟨_, _, rfl, rfl, _, rfl, ?_⟩
        rw [decide_eq_false (show ¬ c ≤ 57 by omega)]
        refine iteF ?_
        refine ⟨_, rfl, _, _, rfl, rfl, _, rfl, ?_⟩
        by_cases c3 : 0 ≤ u.val
        · rw [decide_eq_true (show u.val ≥ 0 from c3)]
          refine iteT ?_
          refine ⟨_, rfl, _, rfl, _, rfl, H, I, D, L, d0, u, _, 35, u.val, rfl, t, by omega, fun H5 t5 => ?_⟩
          have ef1 : u.flush d0 = { (u.emit d0 35 u.val) with val := -1 } := by unfold TW.Tw.flush; rw [if_pos c3]
          have t6 : TwAt H H5 I D L d0 (u.flush d0) (3 * i + 2) := by rw [ef1]; exact t5.sg (-1) u.sign
          have fv : (u.flush d0).val = -1 := by rw [ef1]
          have fs : (u.flush d0).sign = u.sign := by rw [ef1]; rfl
          refine ⟨_, rfl, ?_⟩
          refine ⟨_, rfl, rfl, _, rfl, ?_⟩
          by_cases q1 : c = 39
          · rw [decide_eq_true (show V.int c = V.int 39 by rw [q1])]
            refine iteT ?_
            refine iteT ?_
            rw [if_pos (show c = 39 ∨ c = 61 ∨ c = 58 from .inl q1)] at e1
            rw [e1]
            exact ⟨_, rfl, some (.int c), (by show _ = [some (.ref a), some (.int f0), some (.int d0), some (.ref I), some (.ref D), some (.ref L), some (V.int (u.flush d0).val), some (V.int c), some (V.int c)]; rw [fv]; rfl), (t6.sg (u.flush d0).val c).mono (by omega)⟩
          rw [decide_eq_false (fun e => q1 (V.int.inj e))]
          refine iteF ?_
          refine ⟨_, rfl, rfl, _, rfl, ?_⟩
          by_cases q2 : c = 61
          · rw [decide_eq_true (show V.int c = V.int 61 by rw [q2])]
            refine iteT ?_
            refine iteT ?_
            rw [if_pos (show c = 39 ∨ c = 61 ∨ c = 58 from .inr (.inl q2))] at e1
            rw [e1]
            exact ⟨_, rfl, some (.int c), (by show _ = [some (.ref a), some (.int f0), some (.int d0), some (.ref I), some (.ref D), some (.ref L), some (V.int (u.flush d0).val), some (V.int c), some (V.int c)]; rw [fv]; rfl), (t6.sg (u.flush d0).val c).mono (by omega)⟩
          rw [decide_eq_false (fun e => q2 (V.int.inj e))]
          refine iteF ?_
          refine ⟨_, rfl, rfl, _, rfl, ?_⟩
          by_cases q3 : c = 58
          · rw [decide_eq_true (show V.int c = V.int 58 by rw [q3])]
            refine iteT ?_
            rw [if_pos (show c = 39 ∨ c = 61 ∨ c = 58 from .inr (.inr q3))] at e1
            rw [e1]
            exact ⟨_, rfl, some (.int c), (by show _ = [some (.ref a), some (.int f0), some (.int d0), some (.ref I), some (.ref D), some (.ref L), some (V.int (u.flush d0).val), some (V.int c), some (V.int c)]; rw [fv]; rfl), (t6.sg (u.flush d0).val c).mono (by omega)⟩
          rw [decide_eq_false (fun e => q3 (V.int.inj e))]
          refine iteF ?_
          rw [if_neg (show ¬ (c = 39 ∨ c = 61 ∨ c = 58) by omega)] at e1
          rw [e1]
          refine ⟨_, rfl, _, rfl, _, rfl, _, rfl, H, I, D, L, d0, u.flush d0, 3 * i + 2, c, rfl, t6, by omega, fun H7 t7 => ?_⟩
          refine ⟨some (.int c), ?_, t7.mono (by omega)⟩
          rw [(bracket_val d0 (u.flush d0) c).1, (bracket_val d0 (u.flush d0) c).2, fv, fs]
          rfl
        · rw [decide_eq_false (show ¬ u.val ≥ 0 from c3)]
          refine iteF ?_
          have ef1 : u.flush d0 = u := by unfold TW.Tw.flush; rw [if_neg c3]
          have t6 : TwAt H H4 I D L d0 (u.flush d0) (3 * i + 2) := by rw [ef1]; exact t.mono (by omega)
          have fv : (u.flush d0).val = u.val := by rw [ef1]
          have fs : (u.flush d0).sign = u.sign := by rw [ef1]
          refine ⟨_, rfl, rfl, _, rfl, ?_⟩
          by_cases q1 : c = 39
          · rw [decide_eq_true (show V.int c = V.int 39 by rw [q1])]
            refine iteT ?_
            refine iteT ?_
            rw [if_pos (show c = 39 ∨ c = 61 ∨ c = 58 from .inl q1)] at e1
            rw [e1]
            exact ⟨_, rfl, some (.int c), (by show _ = [some (.ref a), some (.int f0), some (.int d0), some (.ref I), some (.ref D), some (.ref L), some (V.int (u.flush d0).val), some (V.int c), some (V.int c)]; rw [fv]; rfl), (t6.sg (u.flush d0).val c).mono (by omega)⟩
          rw [decide_eq_false (fun e => q1 (V.int.inj e))]
          refine iteF ?_
          refine ⟨_, rfl, rfl, _, rfl, ?_⟩
          by_cases q2 : c = 61
          · rw [decide_eq_true (show V.int c = V.int 61 by rw [q2])]
            refine iteT ?_
            refine iteT ?_
            rw [if_pos (show c = 39 ∨ c = 61 ∨ c = 58 from .inr (.inl q2))] at e1
            rw [e1]
            exact ⟨_, rfl, some (.int c), (by show _ = [some (.ref a), some (.int f0), some (.int d0), some (.ref I), some (.ref D), some (.ref L), some (V.int (u.flush d0).val), some (V.int c), some (V.int c)]; rw [fv]; rfl), (t6.sg (u.flush d0).val c).mono (by omega)⟩
          rw [decide_eq_false (fun e => q2 (V.int.inj e))]
          refine iteF ?_
          refine ⟨_, rfl, rfl, _, rfl, ?_⟩
          by_cases q3 : c = 58
          · rw [decide_eq_true (show V.int c = V.int 58 by rw [q3])]
            refine iteT ?_
            rw [if_pos (show c = 39 ∨ c = 61 ∨ c = 58 from .inr (.inr q3))] at e1
            rw [e1]
            exact ⟨_, rfl, some (.int c), (by show _ = [some (.ref a), some (.int f0), some (.int d0), some (.ref I), some (.ref D), some (.ref L), some (V.int (u.flush d0).val), some (V.int c), some (V.int c)]; rw [fv]; rfl), (t6.sg (u.flush d0).val c).mono (by omega)⟩
          rw [decide_eq_false (fun e => q3 (V.int.inj e))]
          refine iteF ?_
          rw [if_neg (show ¬ (c = 39 ∨ c = 61 ∨ c = 58) by omega)] at e1
          rw [e1]
          refine ⟨_, rfl, _, rfl, _, rfl, _, rfl, H, I, D, L, d0, u.flush d0, 3 * i + 2, c, rfl, t6, by omega, fun H7 t7 => ?_⟩
          refine ⟨some (.int c), ?_, t7.mono (by omega)⟩
          rw [(bracket_val d0 (u.flush d0) c).1, (bracket_val d0 (u.flush d0) c).2, fv, fs]
          rfl
      · rw [decide_eq_false c4]
        refine iteF ?_
        refine ⟨_, rfl, ?_⟩
        refine iteF ?_
        refine ⟨_, rfl, _, _, rfl, rfl, _, rfl, ?_⟩
        by_cases c3 : 0 ≤ u.val
        · rw [decide_eq_true (show u.val ≥ 0 from c3)]
          refine iteT ?_
          refine ⟨_, rfl, _, rfl, _, rfl, H, I, D, L, d0, u, _, 35, u.val, rfl, t, by omega, fun H5 t5 => ?_⟩
          have ef1 : u.flush d0 = { (u.emit d0 35 u.val) with val := -1 } := by unfold TW.Tw.flush; rw [if_pos c3]
          have t6 : TwAt H H5 I D L d0 (u.flush d0) (3 * i + 2) := by rw [ef1]; exact t5.sg (-1) u.sign
          have fv : (u.flush d0).val = -1 := by rw [ef1]
          have fs : (u.flush d0).sign = u.sign := by rw [ef1]; rfl
          refine ⟨_, rfl, ?_⟩
          refine ⟨_, rfl, rfl, _, rfl, ?_⟩
          by_cases q1 : c = 39
          · rw [decide_eq_true (show V.int c = V.int 39 by rw [q1])]
            refine iteT ?_
            refine iteT ?_
            rw [if_pos (show c = 39 ∨ c = 61 ∨ c = 58 from .inl q1)] at e1
            rw [e1]
            exact ⟨_, rfl, some (.int c), (by show _ = [some (.ref a), some (.int f0), some (.int d0), some (.ref I), some (.ref D), some (.ref L), some (V.int (u.flush d0).val), some (V.int c), some (V.int c)]; rw [fv]; rfl), (t6.sg (u.flush d0).val c).mono (by omega)⟩
          rw [decide_eq_false (fun e => q1 (V.int.inj e))]
          refine iteF ?_
          refine ⟨_, rfl, rfl, _, rfl, ?_⟩
          by_cases q2 : c = 61
          · rw [decide_eq_true (show V.int c = V.int 61 by rw [q2])]
            refine iteT ?_
            refine iteT ?_
            rw [if_pos (show c = 39 ∨ c = 61 ∨ c = 58 from .inr (.inl q2))] at e1
            rw [e1]
            exact ⟨_, rfl, some (.int c), (by show _ = [some (.ref a), some (.int f0), some (.int d0), some (.ref I), some (.ref D), some (.ref L), some (V.int (u.flush d0).val), some (V.int c), some (V.int c)]; rw [fv]; rfl), (t6.sg (u.flush d0).val c).mono (by omega)⟩
          rw [decide_eq_false (fun e => q2 (V.int.inj e))]
          refine iteF ?_
          refine ⟨_, rfl, rfl, _, rfl, ?_⟩
          by_cases q3 : c = 58
          · rw [decide_eq_true (show V.int c = V.int 58 by rw [q3])]
            refine iteT ?_
            rw [if_pos (show c = 39 ∨ c = 61 ∨ c = 58 from .inr (.inr q3))] at e1
            rw [e1]
            exact ⟨_, rfl, some (.int c), (by show _ = [some (.ref a), some (.int f0), some (.int d0), some (.ref I), some (.ref D), some (.ref L), some (V.int (u.flush d0).val), some (V.int c), some (V.int c)]; rw [fv]; rfl), (t6.sg (u.flush d0).val c).mono (by omega)⟩
          rw [decide_eq_false (fun e => q3 (V.int.inj e))]
          refine iteF ?_
          rw [if_neg (show ¬ (c = 39 ∨ c = 61 ∨ c = 58) by omega)] at e1
          rw [e1]
          refine ⟨_, rfl, _, rfl, _, rfl, _, rfl, H, I, D, L, d0, u.flush d0, 3 * i + 2, c, rfl, t6, by omega, fun H7 t7 => ?_⟩
          refine ⟨some (.int c), ?_, t7.mono (by omega)⟩
          rw [(bracket_val d0 (u.flush d0) c).1, (bracket_val d0 (u.flush d0) c).2, fv, fs]
          rfl
        · rw [decide_eq_false (show ¬ u.val ≥ 0 from c3)]
          refine iteF ?_
          have ef1 : u.flush d0 = u := by unfold TW.Tw.flush; rw [if_neg c3]
          have t6 : TwAt H H4 I D L d0 (u.flush d0) (3 * i + 2) := by rw [ef1]; exact t.mono (by omega)
          have fv : (u.flush d0).val = u.val := by rw [ef1]
          have fs : (u.flush d0).sign = u.sign := by rw [ef1]
          refine ⟨_, rfl, rfl, _, rfl, ?_⟩
          by_cases q1 : c = 39
          · rw [decide_eq_true (show V.int c = V.int 39 by rw [q1])]
            refine iteT ?_
            refine iteT ?_
            rw [if_pos (show c = 39 ∨ c = 61 ∨ c = 58 from .inl q1)] at e1
            rw [e1]
            exact ⟨_, rfl, some (.int c), (by show _ = [some (.ref a), some (.int f0), some (.int d0), some (.ref I), some (.ref D), some (.ref L), some (V.int (u.flush d0).val), some (V.int c), some (V.int c)]; rw [fv]; rfl), (t6.sg (u.flush d0).val c).mono (by omega)⟩
          rw [decide_eq_false (fun e => q1 (V.int.inj e))]
          refine iteF ?_
          refine ⟨_, rfl, rfl, _, rfl, ?_⟩
          by_cases q2 : c = 61
          · rw [decide_eq_true (show V.int c = V.int 61 by rw [q2])]
            refine iteT ?_
            refine iteT ?_
            rw [if_pos (show c = 39 ∨ c = 61 ∨ c = 58 from .inr (.inl q2))] at e1
            rw [e1]
            exact ⟨_, rfl, some (.int c), (by show _ = [some (.ref a), some (.int f0), some (.int d0), some (.ref I), some (.ref D), some (.ref L), some (V.int (u.flush d0).val), some (V.int c), some (V.int c)]; rw [fv]; rfl), (t6.sg (u.flush d0).val c).mono (by omega)⟩
          rw [decide_eq_false (fun e => q2 (V.int.inj e))]
          refine iteF ?_
          refine ⟨_, rfl, rfl, _, rfl, ?_⟩
          by_cases q3 : c = 58
          · rw [decide_eq_true (show V.int c = V.int 58 by rw [q3])]
            refine iteT ?_
            rw [if_pos (show c = 39 ∨ c = 61 ∨ c = 58 from .inr (.inr q3))] at e1
            rw [e1]
            exact ⟨_, rfl, some (.int c), (by show _ = [some (.ref a), some (.int f0), some (.int d0), some (.ref I), some (.ref D), some (.ref L), some (V.int (u.flush d0).val), some (V.int c), some (V.int c)]; rw [fv]; rfl), (t6.sg (u.flush d0).val c).mono (by omega)⟩
          rw [decide_eq_false (fun e => q3 (V.int.inj e))]
          refine iteF ?_
          rw [if_neg (show ¬ (c = 39 ∨ c = 61 ∨ c = 58) by omega)] at e1
          rw [e1]
          refine ⟨_, rfl, _, rfl, _, rfl, _, rfl, H, I, D, L, d0, u.flush d0, 3 * i + 2, c, rfl, t6, by omega, fun H7 t7 => ?_⟩
          refine ⟨some (.int c), ?_, t7.mono (by omega)⟩
          rw [(bracket_val d0 (u.flush d0) c).1, (bracket_val d0 (u.flush d0) c).2, fv, fs]
          rfl
    · rintro σ H3 ⟨v8, rfl, t⟩
      rw [List.length_map, List.take_length] at t ⊢
      have ek : TW.twigR codes f0 d0 = (codes.foldl (TW.Tw.one d0) (TW.Tw.start f0 d0)).finish d0 := rfl
      rw [ek] at k
      generalize codes.foldl (TW.Tw.one d0) (TW.Tw.start f0 d0) = u at *
      unfold TW.Tw.finish TW.Tw.flush at k
      refine ⟨_, rfl, _, _, rfl, rfl, _, rfl, ?_⟩
      by_cases c1 : 0 ≤ u.val
      · rw [if_pos c1] at k
        rw [decide_eq_true (show u.val ≥ 0 from c1)]
        refine iteT ?_
        refine ⟨_, rfl, _, rfl, _, rfl, H, I, D, L, d0, u, _, 35, u.val, rfl, t, by omega, fun H5 t5 => ?_⟩
        refine ⟨_, rfl, _, rfl, H, I, D, L, d0, _, _, 41, 0, rfl, t5.sg (-1) u.sign, by omega, fun H6 t6 => ?_⟩
        exact ⟨_, rfl, k H6 I t6.same hI t6.im⟩
      · rw [if_neg c1] at k
        rw [decide_eq_false (show ¬ u.val ≥ 0 from c1)]
        refine iteF ?_
        refine ⟨_, rfl, _, rfl, H, I, D, L, d0, _, _, 41, 0, rfl, t, by omega, fun H6 t6 => ?_⟩
        exact ⟨_, rfl, k H6 I t6.same hI t6.im⟩
end
end Pz
end
set_option Elab.async false
set_option linter.all false
set_option maxRecDepth 100000
set_option maxHeartbeats 4000000
/-! The law's own translation of short; texts' codes; the first difference. -/
noncomputable section
namespace Pz
open PySem PySem.Spec PyProof.Rows L2
section
variable {P : Program} {w : World} {K : PySem.W.Frag} {mg : Str → Option Value} {base : Heap}
/-! ### _law_short -/
def spShort (K : PySem.W.Frag) : Sp := fun vs H Q _ => ∃ (a : Addr) (codes : List Int), vs = [.ref a] ∧ SqL K H a (codes.map V.int) ∧ codes.length ≤ 600 ∧
  ∀ (H' : Hp) (o : Addr), Same H H' → H o = none → H' o = some (.lst ((cellsR (TW.shortR codes)).map V.int)) → Q (.ref o) H'
theorem sc_short : FnScope ["_law_codes", "_law_image", "_law_number_here", "_law_register", "_law_quoted", "_law_code"] ["_law_codes"] (defScope s_l_short) := ⟨rfl, rfl, rfl, by decide +kernel, rfl, by decide +kernel, by decide +kernel⟩
theorem ok_short (W : Wd K mg w) : Cal P w K mg base 1 "_law_short" (spShort K) := by
  obtain ⟨fd, F⟩ := W.d_l_short
  refine ⟨_, fd, ["_law_codes"], F.ok sc_short (fun vs H Q E h => ?_) (fun cdv A outer s H vs Q E hr h => ?_), W.g_l_short, W.p_l_short, F.bindsN fun _ _ _ _ _ _ us hl => match us, hl with | [_], _ => rfl⟩
  · obtain ⟨a, codes, rfl, _⟩ := h
    rfl
  · obtain ⟨a, codes, rfl, ha, hlen, k⟩ := h
    refine ⟨_, PSs.nox (pss_cons (ps_set (i := 1) sc_short.nd rfl (Or.inl rfl) (pe_lst pa_nil))
      (pss_cons (ps_set (i := 2) sc_short.nd rfl (Or.inl rfl) pe_int)
      (pss_cons (ps_set (i := 3) sc_short.nd rfl (Or.inl rfl) pe_int)
      (pss_cons (ps_set (i := 4) sc_short.nd rfl (Or.inl rfl) pe_bl)
      (pss_cons (ps_for PassesOwn.never rfl (pi_list (pv 0)) (pg_name (i := 5) sc_short.nd rfl (Or.inl rfl))
        (pss_one (ps_if (pt_val (pv 4))
          (pss_cons (ps_expr (pe_bm PySem.F.plainAttrs_list PySem.F.slot_list_extend PySem.F.type_list_extend mt_extend (pv 1) (pa_cons (pe_lst (pa_cons (pv 2) (pa_cons pe_int (pa_cons (pv 5) (pa_cons (pe_op op_add (pv 2) pe_int) pa_nil))))) pa_nil)))
            (pss_cons (ps_set (i := 2) sc_short.nd rfl (Or.inl rfl) (pe_op op_add (pv 2) pe_int)) (pss_cons (ps_set (i := 3) sc_short.nd rfl (Or.inl rfl) pe_int) (pss_one (ps_set (i := 4) sc_short.nd rfl (Or.inl rfl) pe_bl)))))
        (pss_one (ps_if (pt_chain op_le op_le pe_int (pv 5) pe_int)
          (pss_one (ps_set (i := 3) sc_short.nd rfl (Or.inl rfl) (pe_op op_sub (pe_op op_add (pe_op op_mul pe_int (pv 3)) (pv 5)) pe_int)))
        (pss_one (ps_if (pt_cmpR op_eq (pv 5) pe_int (nomark _))
          (pss_cons (ps_set (i := 2) sc_short.nd rfl (Or.inl rfl) (pv 3)) (pss_one (ps_set (i := 3) sc_short.nd rfl (Or.inl rfl) pe_int)))
        (pss_one (ps_if (pt_cmpR op_eq (pv 5) pe_int (nomark _))
          (pss_cons (ps_expr (pe_bm PySem.F.plainAttrs_list PySem.F.slot_list_extend PySem.F.type_list_extend mt_extend (pv 1) (pa_cons (pe_lst (pa_cons (pv 2) (pa_cons pe_int (pa_cons pe_int (pa_cons (pv 3) pa_nil))))) pa_nil)))
            (pss_cons (ps_set (i := 2) sc_short.nd rfl (Or.inl rfl) (pe_op op_add (pv 2) pe_int)) (pss_one (ps_set (i := 3) sc_short.nd rfl (Or.inl rfl) pe_int))))
        (pss_one (ps_if (pt_cmpR op_eq (pv 5) pe_int (nomark _))
          (pss_one (ps_set (i := 4) sc_short.nd rfl (Or.inl rfl) pe_bl))
        (pss_one (ps_if (pt_cmpR op_gt (pv 5) pe_int (nomark _))
          (pss_cons (ps_expr (pe_bm PySem.F.plainAttrs_list PySem.F.slot_list_extend PySem.F.type_list_extend mt_extend (pv 1) (pa_cons (pe_lst (pa_cons (pv 2) (pa_cons (pv 5) (pa_cons (pv 3) (pa_cons (pe_op op_add (pv 2) pe_int) pa_nil))))) pa_nil)))
            (pss_cons (ps_set (i := 2) sc_short.nd rfl (Or.inl rfl) (pe_op op_add (pv 2) pe_int)) (pss_one (ps_set (i := 3) sc_short.nd rfl (Or.inl rfl) pe_int))))
          pss_nil)))))))))))))
      (pss_one (ps_ret (pv 1)))))))), ?_⟩
    refine ⟨Nat.zero_le _, fun I hI => ?_⟩
    have s0 : Same H (upd H I (.lst [])) := same_upd (Same.refl H) hI
    refine ⟨_, rfl, a, rfl, ⟨_, s0.seq ha⟩, ?_⟩
    refine for_it walk_list (fun i σ H' => ∃ (v5 : Option V), σ = [some (.ref a), some (.ref I), some (.int ((codes.take i).foldl TW.Sh.one ⟨[], 0, 0, false⟩).m), some (.int ((codes.take i).foldl TW.Sh.one ⟨[], 0, 0, false⟩).r),
        some (.bl ((codes.take i).foldl TW.Sh.one ⟨[], 0, 0, false⟩).q), v5] ∧ Same H H' ∧ H' I = some (.lst ((cellsR ((codes.take i).foldl TW.Sh.one ⟨[], 0, 0, false⟩).img).map V.int)) ∧ ((codes.take i).foldl TW.Sh.one ⟨[], 0, 0, false⟩).img.length ≤ i)
      ⟨none, rfl, s0, upd_same, Nat.le_refl _⟩ (fun i σ H' _ ⟨_, _, s1, _⟩ => s1.seq ha) ?_ ?_
    · rintro i v σ H3 H4 hi ⟨v5, rfl, s1, hI1, hb⟩ ⟨rfl, hv⟩
      rw [List.length_map] at hi
      rw [List.getElem?_map, List.getElem?_eq_getElem hi] at hv
      obtain rfl := Option.some.inj hv
      have ef : (codes.take (i + 1)).foldl TW.Sh.one ⟨[], 0, 0, false⟩ = ((codes.take i).foldl TW.Sh.one ⟨[], 0, 0, false⟩).one codes[i] := by
        rw [List.take_add_one, List.getElem?_eq_getElem hi, List.foldl_append]
        rfl
      rw [ef]
      generalize (codes.take i).foldl TW.Sh.one ⟨[], 0, 0, false⟩ = u at *
      generalize codes[i] = c at *
      have ext : ∀ (n o g x : Int) (l : Addr), H4 l = none → ∀ xs, xs = (cellsR u.img).map V.int ++ [V.int n, V.int o, V.int g, V.int x] → upd (upd H4 l (.lst [V.int n, V.int o, V.int g, V.int x])) I (.lst xs) I = some (.lst ((cellsR ((n, o, g, x) :: u.img)).map V.int)) ∧ Same H (upd (upd H4 l (.lst [V.int n, V.int o, V.int g, V.int x])) I (.lst xs)) := by
        intro n o g x l hl xs e
        subst e
        refine ⟨by rw [upd_same, cellsR_cons, List.map_append]; rfl, same_upd (same_upd s1 (s1.free hl)) hI⟩
      refine ⟨_, rfl, u.q, rfl, ?_⟩
      unfold TW.Sh.one
      cases hq : u.q with
      | true =>
        refine iteT ?_
        rw [if_pos rfl]
        refine ⟨_, rfl, .inl ⟨rfl, _, SqL.of hI1⟩, _, rfl, _, rfl, _, rfl, _, _, rfl, rfl, (by show 4 ≤ sizeLine; decide), fun l hl => ?_⟩
        have nl : I ≠ l := ne_of_none hI1 hl
        refine ⟨I, l, _, _, rfl, rfl, (by rw [upd_ne nl]; exact hI1), upd_same, Nat.le_of_lt (szb (b := 600) (by decide) (by rw [List.length_map, cellsR_len]; show 4 * u.img.length + 4 ≤ _; omega)), ?_⟩
        obtain ⟨z1, z2⟩ := ext u.m 35 c (u.m + 1) l hl _ rfl
        exact ⟨_, rfl, _, _, rfl, rfl, some (.int c), rfl, z2, z1, by show u.img.length + 1 ≤ i + 1; omega⟩
      | false =>
        refine iteF ?_
        rw [if_neg (by decide)]
        refine ⟨_, rfl, _, _, rfl, rfl, _, rfl, ?_⟩
        by_cases c2 : 48 ≤ c ∧ c ≤ 57
        · rw [decide_eq_true c2.1, if_pos c2]
          refine iteT ?_
          refine ⟨_, _, rfl, rfl, _, rfl, ?_⟩
          rw [decide_eq_true c2.2]
          refine iteT ?_
          refine ⟨_, rfl, _, _, rfl, rfl, .inl ⟨by decide, by decide⟩, _, rfl, _, _, rfl, rfl, _, _, rfl, rfl, ?_⟩
          exact ⟨some (.int c), rfl, s1, hI1, by show u.img.length ≤ i + 1; omega⟩
        rw [if_neg c2]
        by_cases c4 : 48 ≤ c
        · rw [decide_eq_true c4]
          refine iteT ?_
          refine ⟨_, _, rfl, rfl, _, rfl, ?_⟩
          rw [decide_eq_false (show ¬ c ≤ 57 by omega)]
          refine iteF ?_
          refine ⟨_, rfl, rfl, _, rfl, ?_⟩
          by_cases q1 : c = 58
          · rw [decide_eq_true (show V.int c = V.int 58 by rw [q1]), if_pos q1]
            refine iteT ?_
            exact ⟨_, rfl, some (.int c), rfl, s1, hI1, by show u.img.length ≤ i + 1; omega⟩
          rw [decide_eq_false (fun e => q1 (V.int.inj e)), if_neg q1]
          refine iteF ?_
          refine ⟨_, rfl, rfl, _, rfl, ?_⟩
          by_cases q2 : c = 62
          · rw [decide_eq_true (show V.int c = V.int 62 by rw [q2]), if_pos q2]
            refine iteT ?_
            refine ⟨_, rfl, .inl ⟨rfl, _, SqL.of hI1⟩, _, rfl, _, rfl, (by show 4 ≤ sizeLine; decide), fun l hl => ?_⟩
            have nl : I ≠ l := ne_of_none hI1 hl
            refine ⟨I, l, _, _, rfl, rfl, (by rw [upd_ne nl]; exact hI1), upd_same, Nat.le_of_lt (szb (b := 600) (by decide) (by rw [List.length_map, cellsR_len]; show 4 * u.img.length + 4 ≤ _; omega)), ?_⟩
            obtain ⟨z1, z2⟩ := ext u.m (32) (0) (u.r) l hl _ rfl
            exact ⟨_, rfl, _, _, rfl, rfl, some (.int c), rfl, z2, z1, by show u.img.length + 1 ≤ i + 1; omega⟩
          rw [decide_eq_false (fun e => q2 (V.int.inj e)), if_neg q2]
          refine iteF ?_
          refine ⟨_, rfl, rfl, _, rfl, ?_⟩
          by_cases q3 : c = 39
          · rw [decide_eq_true (show V.int c = V.int 39 by rw [q3]), if_pos q3]
            refine iteT ?_
            exact ⟨some (.int c), rfl, s1, hI1, by show u.img.length ≤ i + 1; omega⟩
          rw [decide_eq_false (fun e => q3 (V.int.inj e)), if_neg q3]
          refine iteF ?_
          refine ⟨_, rfl, _, _, rfl, rfl, _, rfl, ?_⟩
          by_cases q4 : 32 < c
          · rw [decide_eq_true (show c > 32 from q4), if_pos q4]
            refine iteT ?_
            refine ⟨_, rfl, .inl ⟨rfl, _, SqL.of hI1⟩, _, rfl, _, rfl, _, rfl, _, rfl, _, _, rfl, rfl, (by show 4 ≤ sizeLine; decide), fun l hl => ?_⟩
            have nl : I ≠ l := ne_of_none hI1 hl
            refine ⟨I, l, _, _, rfl, rfl, (by rw [upd_ne nl]; exact hI1), upd_same, Nat.le_of_lt (szb (b := 600) (by decide) (by rw [List.length_map, cellsR_len]; show 4 * u.img.length + 4 ≤ _; omega)), ?_⟩
            obtain ⟨z1, z2⟩ := ext u.m (c) (u.r) (u.m + 1) l hl _ rfl
            exact ⟨_, rfl, _, _, rfl, rfl, some (.int c), rfl, z2, z1, by show u.img.length + 1 ≤ i + 1; omega⟩
          rw [decide_eq_false (show ¬ c > 32 from q4), if_neg q4]
          refine iteF ?_
          exact ⟨some (.int c), by rw [hq]; rfl, s1, hI1, by omega⟩
        · rw [decide_eq_false c4]
          refine iteF ?_
          refine ⟨_, rfl, ?_⟩
          refine iteF ?_
          refine ⟨_, rfl, rfl, _, rfl, ?_⟩
          by_cases q1 : c = 58
          · rw [decide_eq_true (show V.int c = V.int 58 by rw [q1]), if_pos q1]
            refine iteT ?_
            exact ⟨_, rfl, some (.int c), rfl, s1, hI1, by show u.img.length ≤ i + 1; omega⟩
          rw [decide_eq_false (fun e => q1 (V.int.inj e)), if_neg q1]
          refine iteF ?_
          refine ⟨_, rfl, rfl, _, rfl, ?_⟩
          by_cases q2 : c = 62
          · rw [decide_eq_true (show V.int c = V.int 62 by rw [q2]), if_pos q2]
            refine iteT ?_
            refine ⟨_, rfl, .inl ⟨rfl, _, SqL.of hI1⟩, _, rfl, _, rfl, (by show 4 ≤ sizeLine; decide), fun l hl => ?_⟩
            have nl : I ≠ l := ne_of_none hI1 hl
            refine ⟨I, l, _, _, rfl, rfl, (by rw [upd_ne nl]; exact hI1), upd_same, Nat.le_of_lt (szb (b := 600) (by decide) (by rw [List.length_map, cellsR_len]; show 4 * u.img.length + 4 ≤ _; omega)), ?_⟩
            obtain ⟨z1, z2⟩ := ext u.m (32) (0) (u.r) l hl _ rfl
            exact ⟨_, rfl, _, _, rfl, rfl, some (.int c), rfl, z2, z1, by show u.img.length + 1 ≤ i + 1; omega⟩
          rw [decide_eq_false (fun e => q2 (V.int.inj e)), if_neg q2]
          refine iteF ?_
          refine ⟨_, rfl, rfl, _, rfl, ?_⟩
          by_cases q3 : c = 39
          · rw [decide_eq_true (show V.int c = V.int 39 by rw [q3]), if_pos q3]
            refine iteT ?_
            exact ⟨some (.int c), rfl, s1, hI1, by show u.img.length ≤ i + 1; omega⟩
          rw [decide_eq_false (fun e => q3 (V.int.inj e)), if_neg q3]
          refine iteF ?_
          refine ⟨_, rfl, _, _, rfl, rfl, _, rfl, ?_⟩
          by_cases q4 : 32 < c
          · rw [decide_eq_true (show c > 32 from q4), if_pos q4]
            refine iteT ?_
            refine ⟨_, rfl, .inl ⟨rfl, _, SqL.of hI1⟩, _, rfl, _, rfl, _, rfl, _, rfl, _, _, rfl, rfl, (by show 4 ≤ sizeLine; decide), fun l hl => ?_⟩
            have nl : I ≠ l := ne_of_none hI1 hl
            refine ⟨I, l, _, _, rfl, rfl, (by rw [upd_ne nl]; exact hI1), upd_same, Nat.le_of_lt (szb (b := 600) (by decide) (by rw [List.length_map, cellsR_len]; show 4 * u.img.length + 4 ≤ _; omega)), ?_⟩
            obtain ⟨z1, z2⟩ := ext u.m (c) (u.r) (u.m + 1) l hl _ rfl
            exact ⟨_, rfl, _, _, rfl, rfl, some (.int c), rfl, z2, z1, by show u.img.length + 1 ≤ i + 1; omega⟩
          rw [decide_eq_false (show ¬ c > 32 from q4), if_neg q4]
          refine iteF ?_
          exact ⟨some (.int c), by rw [hq]; rfl, s1, hI1, by omega⟩
    · rintro σ H3 ⟨v5, rfl, s1, hI1, hb⟩
      rw [List.length_map, List.take_length] at hI1
      exact ⟨_, rfl, k H3 I s1 hI hI1⟩
end
end Pz
end
set_option Elab.async false
set_option linter.all false
set_option maxRecDepth 100000
set_option maxHeartbeats 4000000
/-! Texts' codes, the first difference, short texts. -/
noncomputable section
namespace Pz
open PySem PySem.Spec PyProof.Rows L2
theorem codesOf_app (a b : Str) : codesOf (a ++ b) = codesOf a ++ codesOf b := by
  unfold codesOf
  show List.map _ (a.cps ++ b.cps).toList = _
  rw [Array.toList_append, List.map_append]
theorem codes_PLAIN : codesOf txt_PLAIN = TW.plainCodes := by
  simp only [txt_PLAIN, cat_eq, codesOf_app]
  decide +kernel
theorem codes_TURNED : codesOf txt_TURNED = TW.turnedCodes := by
  simp only [txt_TURNED, cat_eq, codesOf_app]
  decide +kernel
theorem codes_SECOND : codesOf txt_SECOND = TW.secondCodes := by
  simp only [txt_SECOND, cat_eq, codesOf_app]
  decide +kernel
/-- codes of allowed signs -/
def okCodes (l : List Int) : Bool := l.all fun c => decide (c = 10) || (printable.cps.toList.map fun n : Nat => (n : Int)).contains c
theorem tx_of {z : Str} (h : okCodes (codesOf z) = true) (hl : (codesOf z).length ≤ 600) : Tx z := by
  refine ⟨fun c hc => ?_, by rw [codesOf_len] at hl; exact hl⟩
  have := List.all_eq_true.mp h (c : Int) (List.mem_map.mpr ⟨c, hc, rfl⟩)
  rw [Bool.or_eq_true, decide_eq_true_eq, List.contains_iff_mem] at this
  rcases this with e | e
  · left; omega
  · right
    obtain ⟨n, hn, en⟩ := List.mem_map.mp e
    have : n = c := by omega
    rw [← this]
    exact hn
theorem tx_PLAIN : Tx txt_PLAIN := tx_of (by rw [codes_PLAIN]; decide +kernel) (by rw [codes_PLAIN]; decide)
theorem tx_TURNED : Tx txt_TURNED := tx_of (by rw [codes_TURNED]; decide +kernel) (by rw [codes_TURNED]; decide)
section
variable {P : Program} {w : World} {K : PySem.W.Frag} {mg : Str → Option Value} {base : Heap}
def rOrd : List V → Hp → VK → Prop := fun xs H Q => ∃ x, xs = [.str x] ∧ x.length = 1 ∧ Q (.int (x.cps.getD 0 0 : Nat)) H
theorem call_ordR {X : Cx} : CallR X (.builtin "ord") rOrd := call_ord
/-- the walk of [ord(c) for c in z] -/
theorem lc_codes {z : Str} {H : Hp} {D : Addr} (hD : H D = none) (hz : z.length ≤ 600) {i : Nat} {σ : L2.St} {Qd : Hp → Prop} (hi : ∀ v, (( wipe σ [i]).set i (some v))[i]? = some (some v)) (hw : ∀ v, wipe ((wipe σ [i]).set i (some v)) [i] = wipe σ [i])
    (k : ∀ H', Same H H' → H' D = some (.lst ((codesOf z).map V.int)) → Qd H') :
    ∃ W : Nat → Nat → Hp → Prop, (∃ m, W 0 m (upd H D (.lst []))) ∧ ∀ j m H', W j m H' →
      ((Its z).stop j H' ∧ Qd H') ∨ ((Its z).go j H' ∧ ∃ Nx : Hp → Prop, (∀ H', Nx H' → ∃ m', m' < m ∧ W (j + 1) m' H') ∧ ∀ x H'', (Its z).yld j H' x H'' → gName i x (wipe σ [i]) H'' fun σ2 H2 => wipe σ2 [i] = wipe σ [i] ∧ tYes σ2 H2 fun b H3 =>
        if b = true then tCB rOrd (tCons (tVar i) tNil) σ2 H3 fun y H4 => ∃ acc, H4 D = some (.lst acc) ∧ acc.length < sizeLine ∧ Nx (upd H4 D (.lst (acc ++ [y]))) else Nx H3) := by
  have hsz : z.cps.size = (codesOf z).length := by rw [codesOf_len]; rfl
  refine lc_it walk_str (fun j H' => Same H H' ∧ H' D = some (.lst (((codesOf z).take j).map V.int))) ⟨same_upd (Same.refl H) hD, upd_same⟩ (fun _ _ _ _ => trivial) ?_ ?_
  · rintro j v H1 H2 hj ⟨s1, h1⟩ ⟨rfl, c, hc, rfl⟩
    refine ⟨hw _, ?_⟩
    have hcode : (codesOf z)[j]? = some (c : Int) := by
      unfold codesOf
      rw [List.getElem?_map, Array.getElem?_toList, hc]
      rfl
    have hln : ((codesOf z).take j).length ≤ 600 := by
      rw [List.length_take, codesOf_len]
      omega
    refine ⟨_, hi _, _, rfl, rfl, _, h1, by rw [List.length_map]; exact small1000 (by omega), same_upd s1 hD, ?_⟩
    rw [upd_same, List.take_add_one, hcode, List.map_append]
    rfl
  · rintro H1 ⟨s1, h1⟩
    rw [hsz, List.take_length] at h1
    exact k H1 s1 h1
/-! ### _law_text_codes -/
def spTextCodes : Sp := fun vs H Q _ => ∃ q ∈ txs, vs = [.str q.1] ∧ q.2.length ≤ 600 ∧ ∀ (H' : Hp) (o : Addr), Same H H' → H o = none → H' o = some (.lst ((codesOf q.2).map V.int)) → Q (.ref o) H'
theorem sc_tcodes : FnScope ["_law_name", "_law_char"] ["_law_name"] (defScope s_l_text_codes) := ⟨rfl, rfl, rfl, by decide +kernel, rfl, by decide +kernel, by decide +kernel⟩
theorem ok_tcodes (W : Wd K mg w) : Cal P w K mg base 2 "_law_text_codes" spTextCodes := by
  obtain ⟨fd, F⟩ := W.d_l_text_codes
  have GR := ok_rung (P := P) (base := base) W
  refine ⟨_, fd, ["_law_name"], F.ok sc_tcodes (fun vs H Q E h => ?_) (fun cdv A outer s H vs Q E hr h => ?_), W.g_l_text_codes, W.p_l_text_codes, F.bindsN fun _ _ _ _ _ _ us hl => match us, hl with | [_], _ => rfl⟩
  · obtain ⟨q, _, rfl, _⟩ := h
    rfl
  · obtain ⟨q, hq, rfl, hlen, k⟩ := h
    refine ⟨_, PSs.nox (pss_one (ps_ret (pe_lc (own := [("_law_char", 1)]) (g := gName 1) (tt := tYes) rfl sc_tcodes.nd (pi_str (pe_c GR hr (Nat.le_refl _) rfl (pa_cons (pv 0) pa_nil)))
      (blkOk_by (own := [("_law_char", 1)]) (N := ["_law_name", "_law_char"]) (sc := defScope s_l_text_codes) (by decide +kernel)) (fun _ _ _ _ _ => pg_name (i := 1) sc_tcodes.nd rfl (Or.inl rfl)) (fun _ _ _ _ _ => pts_nil)
      (fun _ _ _ _ _ => pe_callB (r := rOrd) call_ordR (by rfl) W.no_ord (by decide +kernel) (pa_cons (pv 1) pa_nil))))), ?_⟩
    refine ⟨_, rfl, q, hq, rfl, q.2, rfl, fun D hD => ?_⟩
    exact lc_codes hD hlen (fun v => rfl) (fun v => rfl) fun H' s1 h1 => k H' D s1 hD h1
/-! ### _law_apart -/
def lawApart (xs ys : List Int) : Int := if xs = ys then -1 else (apart xs ys : Nat)
def spApartL (K : PySem.W.Frag) : Sp := fun vs H Q _ => ∃ (a b : Addr) (xs ys : List Int), vs = [.ref a, .ref b] ∧ SqL K H a (xs.map V.int) ∧ SqL K H b (ys.map V.int) ∧ xs.length ≤ 100000 ∧ ys.length ≤ 100000 ∧ Q (.int (lawApart xs ys)) H
theorem sc_apartL : FnScope ["_law_one", "_law_other", "_law_k"] ["_law_one", "_law_other"] (defScope s_l_apart) := ⟨rfl, rfl, rfl, by decide +kernel, rfl, by decide +kernel, by decide +kernel⟩
theorem ok_apartL (W : Wd K mg w) : Cal P w K mg base 1 "_law_apart" (spApartL K) := by
  obtain ⟨fd, F⟩ := W.d_l_apart
  refine ⟨_, fd, ["_law_one", "_law_other"], F.ok sc_apartL (fun vs H Q E h => ?_) (fun cdv A outer s H vs Q E hr h => ?_), W.g_l_apart, W.p_l_apart, F.bindsN fun _ _ _ _ _ _ us hl => match us, hl with | [_, _], _ => rfl⟩
  · obtain ⟨a, b, xs, ys, rfl, _⟩ := h
    rfl
  · obtain ⟨a, b, xs, ys, rfl, ha, hb, lx, ly, k⟩ := h
    refine ⟨_, PSs.nox (pss_cons (ps_for PassesOwn.never rfl (pi_range1 rfl W.no_range (pa_cons (pe_callB (call_max2 rfl) (by rfl) W.no_max (by decide +kernel) (pa_cons (pe_callB call_len_seq (by rfl) W.no_len PySem.boot_len (pa_cons (pv 0) pa_nil)) (pa_cons (pe_callB call_len_seq (by rfl) W.no_len PySem.boot_len (pa_cons (pv 1) pa_nil)) pa_nil))) pa_nil))
        (pg_name (i := 2) sc_apartL.nd rfl (Or.inl rfl))
        (pss_one (ps_if (PW.pt (pw_or (pt_cmpR op_ge (pv 2) (pe_callB call_len_seq (by rfl) W.no_len PySem.boot_len (pa_cons (pv 0) pa_nil)) (nomark _)) (pw_or (pt_cmpR op_ge (pv 2) (pe_callB call_len_seq (by rfl) W.no_len PySem.boot_len (pa_cons (pv 1) pa_nil)) (nomark _))
            (pw_or1 (pt_cmpR op_ne (pe_ix ix_list (pv 0) (pv 2) (fun _ _ => rfl)) (pe_ix ix_list (pv 1) (pv 2) (fun _ _ => rfl)) (nomark _))))))
          (pss_one (ps_ret (pv 2))) pss_nil)))
      (pss_one (ps_ret (pe_un un_neg pe_int)))), ?_⟩
    refine ⟨_, rfl, a, _, rfl, .inl ha, _, rfl, b, _, rfl, .inl hb, _, _, rfl, ((max xs.length ys.length : Nat) : Int), ?_, ?_, ?_, ?_⟩
    · rw [List.length_map, List.length_map]
      split <;> (congr 2; omega)
    · omega
    · omega
    have stop : ∀ i : Nat, i < max xs.length ys.length → apart xs ys = apart (xs.drop i) (ys.drop i) + i → (xs.length ≤ i ∨ ys.length ≤ i ∨ xs[i]? ≠ ys[i]?) → Q (.int (i : Int)) H := fun i hi e h => by
      rw [apart_stop h, Nat.zero_add] at e
      have ne : xs ≠ ys := fun q => by
        subst q
        rw [Nat.max_self] at hi
        rcases h with h | h | h
        · omega
        · omega
        · exact h rfl
      have : lawApart xs ys = (i : Int) := by
        unfold lawApart
        rw [if_neg ne, e]
      rw [this] at k
      exact k
    refine for_it walk_range (fun i σ H' => ∃ v2 : Option V, H' = H ∧ σ = [some (.ref a), some (.ref b), v2] ∧ apart xs ys = apart (xs.drop i) (ys.drop i) + i ∧ xs.take i = ys.take i ∧ i ≤ xs.length ∧ i ≤ ys.length)
      ⟨none, rfl, rfl, rfl, rfl, Nat.zero_le _, Nat.zero_le _⟩ (fun _ _ _ _ _ => trivial) ?_ ?_
    · rintro i v σ H1 H2 hi ⟨v2, rfl, rfl, ea, et, l1, l2⟩ ⟨rfl, hv⟩
      have hv : v = V.int (i : Int) := by
        rw [hv]
        show V.int (0 + ((i : Nat) : Int)) = _
        rw [Int.zero_add]
      subst hv
      refine ⟨_, rfl, _, rfl, a, _, rfl, .inl ha, _, _, rfl, rfl, _, rfl, ?_⟩
      rw [List.length_map]
      by_cases c1 : (i : Int) ≥ (xs.length : Int)
      · rw [decide_eq_true c1]
        refine iteT ?_
        refine iteT ?_
        exact ⟨_, rfl, stop i hi ea (.inl (by omega))⟩
      rw [decide_eq_false c1]
      refine iteF ?_
      refine ⟨_, rfl, _, rfl, b, _, rfl, .inl hb, _, _, rfl, rfl, _, rfl, ?_⟩
      rw [List.length_map]
      by_cases c2 : (i : Int) ≥ (ys.length : Int)
      · rw [decide_eq_true c2]
        refine iteT ?_
        refine iteT ?_
        exact ⟨_, rfl, stop i hi ea (.inr (.inl (by omega)))⟩
      rw [decide_eq_false c2]
      refine iteF ?_
      have hx : xs[i]? = some xs[i] := List.getElem?_eq_getElem (by omega)
      have hy : ys[i]? = some ys[i] := List.getElem?_eq_getElem (by omega)
      refine ⟨_, rfl, _, rfl, a, _, _, V.int xs[i], rfl, rfl, ha, atI_nat (j := i) (by rw [List.getElem?_map, hx]; rfl), _, rfl, _, rfl, b, _, _, V.int ys[i], rfl, rfl, hb, atI_nat (j := i) (by rw [List.getElem?_map, hy]; rfl), rfl, _, rfl, ?_⟩
      by_cases c3 : xs[i] = ys[i]
      · rw [decide_eq_true (show V.int xs[i] = V.int ys[i] by rw [c3])]
        refine iteF ?_
        refine ⟨_, rfl, rfl, ?_, ?_, by omega, by omega⟩
        · rw [ea, apart_go hx (by rw [hy, c3])]
          omega
        · rw [List.take_add_one, List.take_add_one, et, hx, hy, c3]
      · rw [decide_eq_false (fun e => c3 (V.int.inj e))]
        refine iteT ?_
        refine ⟨_, rfl, stop i hi ea (.inr (.inr ?_))⟩
        rw [hx, hy]
        intro e
        exact c3 (Option.some.inj e)
    · rintro σ H1 ⟨v2, rfl, rfl, ea, et, l1, l2⟩
      have e : xs = ys := by
        rw [List.take_of_length_le (by omega), List.take_of_length_le (by omega)] at et
        exact et
      have : lawApart xs ys = -1 := by
        unfold lawApart
        rw [if_pos e]
      rw [this] at k
      exact ⟨_, rfl, k⟩
end
end Pz
end
set_option Elab.async false
set_option linter.all false
set_option maxRecDepth 100000
set_option maxHeartbeats 4000000
/-! Short texts, the second binary, suspects. -/
noncomputable section
namespace Pz
open PySem PySem.Spec PyProof.Rows L2
/-- behind the list at l, which is spoilt, all stands -/
theorem Kp.seq {l : Addr} {H H' : Hp} {K : PySem.W.Frag} {a : Addr} {xs : List V} (k : Kp l H H') (h : H a = some (.lst xs)) (n : a ≠ l) : H' a = some (.lst xs) := k _ _ h n
def chars : Str := Str.ofString "0123 45[]{}|;:'=abFG+-.,~!$()\n"
theorem chars_len : chars.length = 30 := by decide +kernel
theorem chars_ok : ∀ c ∈ chars.cps.toList, c = 10 ∨ c ∈ printable.cps.toList := by decide +kernel
theorem at_ofG {α : Type} {xs : List α} {z : Int} {j : Nat} {v : α} (e : z = (j : Int)) (h : xs[j]? = some v) : atI xs z = some v := by
  subst e
  exact atI_nat h
theorem nil_list : (Str.ofString "").cps.toList = [] := by decide +kernel
theorem nil_len : (Str.ofString "").length = 0 := by decide +kernel
section
variable {P : Program} {w : World} {K : PySem.W.Frag} {mg : Str → Option Value} {base : Heap}
/-! ### _law_short_text -/
def spShTx : Sp := fun vs H Q _ => ∃ (l : Addr) (ds : List Int), vs = [.ref l] ∧ H l = some (.lst (ds.map V.int)) ∧ Dr ds ∧
  ∀ (H' : Hp) (ds' : List Int) (z : Str), Kp l H H' → H' l = some (.lst (ds'.map V.int)) → Dr ds' → Tx z → z.length ≤ 24 → Q (.str z) H'
theorem sc_shtx : FnScope ["_law_draws_here", "_law_chars", "_law_text", "_law_k"] ["_law_draws_here"] (defScope s_l_short_text) := ⟨rfl, rfl, rfl, by decide +kernel, rfl, by decide +kernel, by decide +kernel⟩
theorem ok_shtx (W : Wd K mg w) : Cal P w K mg base 2 "_law_short_text" spShTx := by
  obtain ⟨fd, F⟩ := W.d_l_short_text
  have GN := ok_next (P := P) (base := base) W
  refine ⟨_, fd, ["_law_draws_here"], F.ok sc_shtx (fun vs H Q E h => ?_) (fun cdv A outer s H vs Q E hr h => ?_), W.g_l_short_text, W.p_l_short_text, F.bindsN fun _ _ _ _ _ _ us hl => match us, hl with | [_], _ => rfl⟩
  · obtain ⟨l, ds, rfl, _⟩ := h
    rfl
  · obtain ⟨l, ds, rfl, hl, hd, k⟩ := h
    refine ⟨_, PSs.nox (pss_cons (ps_set (i := 1) sc_shtx.nd rfl (Or.inl rfl) pe_str)
      (pss_cons (ps_set (i := 2) sc_shtx.nd rfl (Or.inl rfl) pe_str)
      (pss_cons (ps_for PassesOwn.never rfl (pi_range1 rfl W.no_range (pa_cons (pe_op op_mod (pe_callTy call_int1 (by rfl) W.no_int (by decide +kernel) (pa_cons (pe_c GN hr (Nat.le_refl _) rfl (pa_cons (pv 0) pa_nil)) pa_nil)) pe_int) pa_nil)) (pg_name (i := 3) sc_shtx.nd rfl (Or.inl rfl))
        (pss_one (ps_set (i := 2) sc_shtx.nd rfl (Or.inl rfl) (pe_op op_add_str (pv 2) (pe_ix ix_str (pv 1) (pe_op op_mod (pe_callTy call_int1 (by rfl) W.no_int (by decide +kernel) (pa_cons (pe_c GN hr (Nat.le_refl _) rfl (pa_cons (pv 0) pa_nil)) pa_nil)) (pe_callB call_len_str (by rfl) W.no_len (by decide +kernel) (pa_cons (pv 1) pa_nil))) (fun _ _ => rfl))))))
      (pss_one (ps_ret (pv 2)))))), ?_⟩
    refine ⟨_, rfl, l, ds, rfl, hl, hd, fun H1 ds1 d k1 hl1 hd1 d0 d1 => ?_⟩
    refine .inl ⟨_, rfl, _, _, rfl, rfl, (show (0 : Int) < 25 by decide), d % 25, rfl, by omega, by omega, ?_⟩
    refine for_it walk_range (fun i σ H' => ∃ (z : Str) (ds' : List Int) (v3 : Option V), σ = [some (.ref l), some (.str chars), some (.str z), v3] ∧ Kp l H H' ∧ H' l = some (.lst (ds'.map V.int)) ∧ Dr ds' ∧ (∀ c ∈ z.cps.toList, c = 10 ∨ c ∈ printable.cps.toList) ∧ z.length = i)
      ⟨Str.ofString "", ds1, none, rfl, k1, hl1, hd1, (by intro c hc; rw [nil_list] at hc; cases hc), nil_len⟩ (fun _ _ _ _ _ => trivial) ?_ ?_
    · rintro i v σ H2 H3 hi ⟨z, ds2, v3, rfl, k2, hl2, hd2, hz, hzl⟩ ⟨rfl, rfl⟩
      have hi24 : i < 24 := by omega
      refine ⟨_, rfl, _, rfl, _, rfl, l, ds2, rfl, hl2, hd2, fun H4 ds3 e k3 hl3 hd3 e0 e1 => ?_⟩
      have hb : (e % (chars.length : Int)).toNat < chars.cps.toList.length := by
        show _ < chars.length
        rw [chars_len]
        omega
      have hcc : chars.cps.toList[(e % (chars.length : Int)).toNat]? = some chars.cps.toList[(e % (chars.length : Int)).toNat] := List.getElem?_eq_getElem hb
      refine .inl ⟨_, rfl, _, rfl, chars, rfl, (by rw [chars_len]; decide), _, _, rfl, rfl, (by show (0 : Int) < _; rw [chars_len]; decide), chars, _, chars.cps.toList[(e % (chars.length : Int)).toNat], rfl, rfl, (by rw [chars_len]; decide), at_ofG (z := e % (chars.length : Int)) (j := (e % (chars.length : Int)).toNat) (Int.toNat_of_nonneg (Int.emod_nonneg _ (by rw [chars_len]; decide))).symm hcc, _, _, rfl, rfl, (by rw [hzl]; exact Nat.le_trans (show i + 1 ≤ 100 by omega) (by decide)), ?_⟩
      have hmem := chars_ok _ (List.mem_of_getElem? hcc)
      generalize chars.cps.toList[(e % (chars.length : Int)).toNat] = c at *
      have ec : (z ++ (⟨#[c]⟩ : Str)).cps.toList = z.cps.toList ++ [c] := by
        show (z.cps ++ #[c]).toList = _
        rw [Array.toList_append]
      refine ⟨z ++ ⟨#[c]⟩, ds3, _, rfl, k2.trans k3, hl3, hd3, ?_, ?_⟩
      · intro x hx
        rw [ec] at hx
        rcases List.mem_append.mp hx with q | q
        · exact hz x q
        · rw [List.mem_singleton.mp q]
          exact hmem
      · show (z.cps ++ #[c]).size = i + 1
        rw [Array.size_append, show z.cps.size = i from hzl]
        rfl
    · rintro σ H2 ⟨z, ds2, v3, rfl, k2, hl2, hd2, hz, hzl⟩
      have hl24 : z.length ≤ 24 := by rw [hzl]; omega
      exact ⟨_, rfl, k H2 ds2 z k2 hl2 hd2 ⟨hz, by omega⟩ hl24⟩
end
end Pz
end
set_option Elab.async false
set_option linter.all false
set_option maxRecDepth 100000
set_option maxHeartbeats 4000000
/-! The second binary, suspects. -/
noncomputable section
namespace Pz
open PySem PySem.Spec PyProof.Rows L2
abbrev nSecond : Str := Str.ofString "second"
abbrev nPlain : Str := Str.ofString "plain"
abbrev nTurned : Str := Str.ofString "turned"
/-- the numbers that a binary of this kind writes -/
def kd (name : Str) : Int × Int := if name = nTurned then (-1, -1) else (200, 1)
/-- a second binary of the kind -/
structure Bin (img : List TW.Node) (name : Str) : Prop where
  tr : TW.Trans img (kd name).1 (kd name).2
  len : img.length ≤ 1000
theorem len_plain {f d : Int} : (TW.twigR TW.plainCodes f d).length ≤ 1000 := by
  rw [TW.twig_map f d TW.plainCodes (by decide +kernel), List.length_map, TW.plainNodes]
  decide +kernel
theorem len_turned {f d : Int} : (TW.twigR TW.turnedCodes f d).length ≤ 1000 := by
  rw [TW.twig_map f d TW.turnedCodes (by decide +kernel), List.length_map, TW.turnedNodes]
  decide +kernel
theorem bin_second : Bin (TW.shortR TW.secondCodes) nSecond := by
  have e : kd nSecond = (200, 1) := by decide +kernel
  refine ⟨by rw [e]; exact TW.trans_second, ?_⟩
  rw [TW.secondNodes]
  decide +kernel
theorem bin_plain {f d : Int} (h : TW.Nums f d) : Bin (TW.twigR TW.plainCodes f d) nPlain := by
  have e : kd nPlain = (200, 1) := by decide +kernel
  exact ⟨by rw [e]; exact TW.trans_plain h, len_plain⟩
theorem bin_turned {f d : Int} (h : TW.Nums f d) : Bin (TW.twigR TW.turnedCodes f d) nTurned := by
  have e : kd nTurned = (-1, -1) := by decide +kernel
  exact ⟨by rw [e]; exact TW.trans_turned h, len_turned⟩
/-- the codes of a compiler's text -/
def cOf (name : Str) : List Int := if name = nPlain then TW.plainCodes else if name = nTurned then TW.turnedCodes else TW.secondCodes
/-- the three texts -/
theorem txs_mem (name : Str) (h : name = nSecond ∨ name = nPlain ∨ name = nTurned) : ∃ z, (name, z) ∈ txs ∧ codesOf z = cOf name ∧ z.length ≤ 600 := by
  have l : ∀ z, (codesOf z).length ≤ 600 → z.length ≤ 600 := fun z q => by rw [codesOf_len] at q; exact q
  rcases h with rfl | rfl | rfl
  · refine ⟨txt_SECOND, List.mem_of_getElem? (i := 0) rfl, ?_, l _ (by rw [codes_SECOND]; decide)⟩
    rw [codes_SECOND, show cOf nSecond = TW.secondCodes from by unfold cOf; rw [if_neg (by decide +kernel), if_neg (by decide +kernel)]]
  · refine ⟨txt_PLAIN, List.mem_of_getElem? (i := 1) rfl, ?_, l _ (by rw [codes_PLAIN]; decide)⟩
    rw [codes_PLAIN, show cOf nPlain = TW.plainCodes from by unfold cOf; rw [if_pos rfl]]
  · refine ⟨txt_TURNED, List.mem_of_getElem? (i := 2) rfl, ?_, l _ (by rw [codes_TURNED]; decide)⟩
    rw [codes_TURNED, show cOf nTurned = TW.turnedCodes from by unfold cOf; rw [if_neg (by decide +kernel), if_pos rfl]]
theorem cOf_len (name : Str) : (cOf name).length ≤ 600 := by
  unfold cOf
  split
  · decide
  · split <;> decide
theorem bin_of {name : Str} {f d : Int} (hn : name = nPlain ∨ name = nTurned) (h : TW.Nums f d) : Bin (TW.twigR (cOf name) f d) name := by
  rcases hn with rfl | rfl
  · rw [show cOf nPlain = TW.plainCodes from by unfold cOf; rw [if_pos rfl]]
    exact bin_plain h
  · rw [show cOf nTurned = TW.turnedCodes from by unfold cOf; rw [if_neg (by decide +kernel), if_pos rfl]]
    exact bin_turned h
section
variable {P : Program} {w : World} {K : PySem.W.Frag} {mg : Str → Option Value} {base : Heap}
/-! ### _law_second -/
def spSecondL : Sp := fun vs H Q _ => ∃ (d : Int) (name : Str), vs = [.int d, .str name] ∧ 0 ≤ d ∧ (name = nSecond ∨ name = nPlain ∨ name = nTurned) ∧
  ∀ (H' : Hp) (o : Addr) (img : List TW.Node), Same H H' → H o = none → H' o = some (.lst ((cellsR img).map V.int)) → Bin img name → Q (.ref o) H'
theorem sc_secondL : FnScope ["_law_draw", "_law_name"] ["_law_draw", "_law_name"] (defScope s_l_second) := ⟨rfl, rfl, rfl, by decide +kernel, rfl, by decide +kernel, by decide +kernel⟩
theorem ok_secondL (W : Wd K mg w) : Cal P w K mg base 4 "_law_second" spSecondL := by
  obtain ⟨fd, F⟩ := W.d_l_second
  have GS := ok_short (P := P) (base := base) W
  have GT := ok_twig (P := P) (base := base) W
  have GC := ok_tcodes (P := P) (base := base) W
  refine ⟨_, fd, ["_law_draw", "_law_name"], F.ok sc_secondL (fun vs H Q E h => ?_) (fun cdv A outer s H vs Q E hr h => ?_), W.g_l_second, W.p_l_second, F.bindsN fun _ _ _ _ _ _ us hl => match us, hl with | [_, _], _ => rfl⟩
  · obtain ⟨d, name, rfl, _⟩ := h
    rfl
  · obtain ⟨d, name, rfl, hd, hn, k⟩ := h
    refine ⟨_, PSs.nox (pss_cons (ps_if (pt_cmpR op_eq (pv 1) pe_str (nomark _)) (pss_one (ps_ret (pe_c GS hr (by decide) rfl (pa_cons (pe_c GC hr (by decide) rfl (pa_cons pe_str pa_nil)) pa_nil)))) pss_nil)
      (pss_cons (ps_if (pt_cmpR op_eq (pe_op op_mod (pe_op op_fdiv (pe_callTy call_int1 (by rfl) W.no_int (by decide +kernel) (pa_cons (pv 0) pa_nil)) pe_int) pe_int) pe_int (nomark _))
        (pss_one (ps_ret (pe_c GT hr (Nat.le_refl _) rfl (pa_cons (pe_c GC hr (by decide) rfl (pa_cons (pv 1) pa_nil)) (pa_cons (pe_op op_add pe_int (pe_op op_mod (pe_op op_fdiv (pv 0) pe_int) pe_int)) (pa_cons (pe_op op_add pe_int (pe_op op_mod (pe_op op_fdiv (pv 0) pe_int) pe_int)) pa_nil)))))) pss_nil)
      (pss_one (ps_ret (pe_c GT hr (Nat.le_refl _) rfl (pa_cons (pe_c GC hr (by decide) rfl (pa_cons (pv 1) pa_nil)) (pa_cons (pe_op op_sub (pe_un un_neg pe_int) (pe_op op_mod (pe_op op_fdiv (pv 0) pe_int) pe_int)) (pa_cons (pe_op op_sub (pe_un un_neg pe_int) (pe_op op_mod (pe_op op_fdiv (pv 0) pe_int) pe_int)) pa_nil)))))))), ?_⟩
    refine ⟨_, rfl, rfl, _, rfl, ?_⟩
    by_cases c1 : name = nSecond
    · rw [decide_eq_true (show V.str name = V.str (Str.ofString "second") by rw [c1])]
      refine iteT ?_
      obtain ⟨z, hz, ez, lz⟩ := txs_mem nSecond (.inl rfl)
      refine ⟨_, hz, rfl, lz, fun H1 o s1 no ho => ?_⟩
      have e2 : codesOf z = TW.secondCodes := by rw [ez]; unfold cOf; rw [if_neg (by decide +kernel), if_neg (by decide +kernel)]
      refine ⟨o, codesOf z, rfl, SqL.of ho, by rw [codesOf_len]; exact lz, fun H2 q s2 nq hq => ?_⟩
      rw [e2] at hq
      exact k H2 q _ (s1.trans s2) (s1.free nq) hq (by rw [c1]; exact bin_second)
    rw [decide_eq_false (fun e => c1 (V.str.inj e))]
    refine iteF ?_
    have hn2 : name = nPlain ∨ name = nTurned := hn.resolve_left c1
    obtain ⟨z, hz, ez, lz⟩ := txs_mem name hn
    have fin : ∀ (f0 d0 : Int), TW.Nums f0 d0 → ∀ (H1 H2 : Hp) (q : Addr), Same H H1 → Same H1 H2 → H1 q = none → H2 q = some (.lst ((cellsR (TW.twigR (codesOf z) f0 d0)).map V.int)) → Q (.ref q) H2 := fun f0 d0 nm H1 H2 q s1 s2 nq hq => by
      rw [ez] at hq
      exact k H2 q _ (s1.trans s2) (s1.free nq) hq (bin_of hn2 nm)
    refine ⟨_, rfl, .inl ⟨_, rfl, _, _, rfl, rfl, ⟨by decide, by decide⟩, _, _, rfl, rfl, (show (0 : Int) < 2 by decide), rfl, _, rfl, ?_⟩⟩
    refine ite2 (fun _ => ?_) (fun _ => ?_)
    · refine ⟨_, rfl, _, hz, rfl, lz, fun H1 o s1 no ho => ?_⟩
      refine ⟨_, rfl, _, _, rfl, rfl, ⟨by decide, by decide⟩, _, _, rfl, rfl, (show (0 : Int) < 1000 by decide), _, _, rfl, rfl, _, rfl, _, _, rfl, rfl, ⟨by decide, by decide⟩, _, _, rfl, rfl, (show (0 : Int) < 9 by decide), _, _, rfl, rfl, ?_⟩
      refine ⟨o, codesOf z, 200 + d / 8 % 1000, 1 + d / 8 % 9, rfl, SqL.of ho, by rw [codesOf_len]; exact lz, fun H2 q s2 nq hq => fin _ _ (.inl ⟨by omega, by omega⟩) H1 H2 q s1 s2 nq hq⟩
    · refine ⟨_, rfl, _, hz, rfl, lz, fun H1 o s1 no ho => ?_⟩
      refine ⟨_, rfl, _, rfl, _, _, rfl, rfl, ⟨by decide, by decide⟩, _, _, rfl, rfl, (show (0 : Int) < 50 by decide), _, _, rfl, rfl, _, rfl, _, rfl, _, _, rfl, rfl, ⟨by decide, by decide⟩, _, _, rfl, rfl, (show (0 : Int) < 5 by decide), _, _, rfl, rfl, ?_⟩
      refine ⟨o, codesOf z, -1 - d / 8 % 50, -1 - d / 8 % 5, rfl, SqL.of ho, by rw [codesOf_len]; exact lz, fun H2 q s2 nq hq => fin _ _ (.inr ⟨by omega, by omega⟩) H1 H2 q s1 s2 nq hq⟩
/-! ### _law_suspect -/
def spSuspect (K : PySem.W.Frag) : Sp := fun vs H Q _ => ∃ (l a b : Addr) (ds xs ys : List Int), vs = [.ref l, .ref a, .ref b] ∧ H l = some (.lst (ds.map V.int)) ∧ Dr ds ∧ H a = some (.lst (xs.map V.int)) ∧ H b = some (.lst (ys.map V.int)) ∧ a ≠ l ∧ b ≠ l ∧ 0 < xs.length ∧ xs.length ≤ 5000 ∧ ys.length ≤ 5000 ∧
  ∀ (H' : Hp) (o : Addr) (sus : List Int), Kp l H H' → H o = none → H' o = some (.lst (sus.map V.int)) → sus.length ≤ 6000 → Q (.ref o) H'
theorem cut_map (xs : List Int) (lo hi : Option Int) : ∃ ys : List Int, cutV (xs.map V.int) lo hi = ys.map V.int ∧ ys.length ≤ xs.length := by
  unfold cutV
  refine ⟨(xs.drop (HT.sIx (xs.map V.int).length 0 lo)).take (HT.sIx (xs.map V.int).length (xs.map V.int).length hi - HT.sIx (xs.map V.int).length 0 lo), by rw [List.map_take, List.map_drop], ?_⟩
  rw [List.length_take, List.length_drop]
  omega
theorem Kp.free {l o : Addr} {H H' : Hp} {x : HO} (k : Kp l H H') (hl : H' l = some x) (ho : H' o = none) : H o = none := by
  cases q : H o with
  | none => rfl
  | some u =>
    have n : o ≠ l := fun e => by rw [e, hl] at ho; cases ho
    rw [k _ _ q n] at ho
    cases ho
theorem Kp.put {l o : Addr} {H H' : Hp} (k : Kp l H H') (ho : H o = none) (u : HO) : Kp l H (upd H' o u) := fun c x e n => by
  rw [upd_ne (ne_of_none e ho)]
  exact k c x e n
theorem sc_suspect : FnScope ["_law_draws_here", "_law_due", "_law_second_here", "_law_draw", "_law_way", "_law_suspect_here", "_law_place"] ["_law_draws_here", "_law_due", "_law_second_here"] (defScope s_l_suspect) := ⟨rfl, rfl, rfl, by decide +kernel, rfl, by decide +kernel, by decide +kernel⟩
theorem ok_suspect (W : Wd K mg w) : Cal P w K mg base 2 "_law_suspect" (spSuspect K) := by
  obtain ⟨fd, F⟩ := W.d_l_suspect
  have GN := ok_next (P := P) (base := base) W
  refine ⟨_, fd, ["_law_draws_here", "_law_due", "_law_second_here"], F.ok sc_suspect (fun vs H Q E h => ?_) (fun cdv A outer s H vs Q E hr h => ?_), W.g_l_suspect, W.p_l_suspect, F.bindsN fun _ _ _ _ _ _ us hl => match us, hl with | [_, _, _], _ => rfl⟩
  · obtain ⟨l, a, b, ds, xs, ys, rfl, _⟩ := h
    rfl
  · obtain ⟨l, a, b, ds, xs, ys, rfl, hl, hd, ha, hb, na, nb, lx0, lx, ly, k⟩ := h
    refine ⟨_, PSs.nox (pss_cons (ps_set (i := 3) sc_suspect.nd rfl (Or.inl rfl) (pe_callTy call_int1 (by rfl) W.no_int (by decide +kernel) (pa_cons (pe_c GN hr (Nat.le_refl _) rfl (pa_cons (pv 0) pa_nil)) pa_nil)))
      (pss_cons (ps_set (i := 4) sc_suspect.nd rfl (Or.inl rfl) (pe_op op_mod (pe_callTy call_int1 (by rfl) W.no_int (by decide +kernel) (pa_cons (pv 3) pa_nil)) pe_int))
      (pss_cons (ps_set (i := 5) sc_suspect.nd rfl (Or.inl rfl) (pe_callTy call_list_of (by rfl) W.no_list (by decide +kernel) (pa_cons (pv 1) pa_nil)))
      (pss_cons (ps_if (pt_cmpR op_eq (pv 4) pe_int (nomark _)) (pss_one (ps_ret (pv 5))) pss_nil)
      (pss_cons (ps_if (pt_cmpR op_eq (pv 4) pe_int (nomark _)) (pss_one (ps_ret (pe_callTy call_list_of (by rfl) W.no_list (by decide +kernel) (pa_cons (pv 2) pa_nil)))) pss_nil)
      (pss_cons (ps_set (i := 6) sc_suspect.nd rfl (Or.inl rfl) (pe_op op_mod (pe_callTy call_int1 (by rfl) W.no_int (by decide +kernel) (pa_cons (pe_op op_add (pe_c GN hr (Nat.le_refl _) rfl (pa_cons (pv 0) pa_nil)) (pe_op op_mul pe_int (pe_c GN hr (Nat.le_refl _) rfl (pa_cons (pv 0) pa_nil)))) pa_nil)) (pe_callB call_len_seq (by rfl) W.no_len PySem.boot_len (pa_cons (pv 5) pa_nil))))
      (pss_cons (ps_if (pt_cmpR op_eq (pv 4) pe_int (nomark _)) (pss_one (ps_ret (pe_slice sl_list (pv 5) po_none (po_some (pv 6))))) pss_nil)
      (pss_cons (ps_if (pt_cmpR op_eq (pv 4) pe_int (nomark _)) (pss_one (ps_ret (pe_op op_cat (pv 5) (pe_lst (pa_cons (pv 3) (pa_cons (pv 6) pa_nil)))))) pss_nil)
      (pss_cons (ps_asg (pe_op op_add (pe_op op_add (pe_ix ix_list (pv 5) (pv 6) (fun _ _ => rfl)) pe_int) (pe_op op_fdiv (pv 3) pe_int)) (pg_sub (pv 5) (pv 6) set_list))
      (pss_one (ps_ret (pv 5)))))))))))), ?_⟩
    refine ⟨_, rfl, l, ds, rfl, hl, hd, fun H1 ds1 d k1 hl1 hd1 d0 d1 => ?_⟩
    refine .inl ⟨_, rfl, _, rfl, .inl ⟨_, rfl, _, _, rfl, rfl, (show (0 : Int) < 6 by decide), ?_⟩⟩
    have ha1 := k1 _ _ ha na
    have hb1 := k1 _ _ hb nb
    refine ⟨_, rfl, a, _, rfl, .inl (SqL.of ha1), fun o no => ?_⟩
    have nol : o ≠ l := fun e => by rw [e, hl1] at no; cases no
    have oH : H o = none := k1.free hl1 no
    have k2 : Kp l H (upd H1 o (.lst (xs.map V.int))) := k1.new no _
    have hb2 : (upd H1 o (.lst (xs.map V.int))) b = some (.lst (ys.map V.int)) := by rw [upd_ne (ne_of_none hb1 no)]; exact hb1
    have hl2 : (upd H1 o (.lst (xs.map V.int))) l = some (.lst (ds1.map V.int)) := by rw [upd_ne nol.symm]; exact hl1
    have ho2 : (upd H1 o (.lst (xs.map V.int))) o = some (.lst (xs.map V.int)) := upd_same
    generalize upd H1 o (.lst (xs.map V.int)) = H2 at *
    refine ⟨_, rfl, rfl, _, rfl, ?_⟩
    refine ite2 (fun _ => ?_) (fun _ => ?_)
    · exact ⟨_, rfl, k H2 o xs k2 oH ho2 (by omega)⟩
    refine ⟨_, rfl, rfl, _, rfl, ?_⟩
    refine ite2 (fun _ => ?_) (fun _ => ?_)
    · refine ⟨_, rfl, b, _, rfl, .inl (SqL.of hb2), fun q nq => ?_⟩
      exact k _ q ys (k2.new nq _) (k2.free hl2 nq) upd_same (by omega)
    refine ⟨_, rfl, l, ds1, rfl, hl2, hd1, fun H3 ds3 d3 k3 hl3 hd3 e0 e1 => ?_⟩
    refine ⟨_, rfl, l, ds3, rfl, hl3, hd3, fun H4 ds4 d4 k4 hl4 hd4 f0 f1 => ?_⟩
    have kk : Kp l H H4 := k2.trans (k3.trans k4)
    have ho4 := k4 _ _ (k3 _ _ ho2 nol) nol
    refine ⟨_, _, rfl, rfl, .inl ⟨by decide, by decide⟩, _, _, rfl, rfl, .inl ⟨_, rfl, _, rfl, o, _, rfl, .inl (SqL.of ho4), _, _, rfl, rfl, (by rw [List.length_map]; omega), ?_⟩⟩
    have hp0 : 0 ≤ (d3 + 1000 * d4) % ((xs.map V.int).length : Int) := Int.emod_nonneg _ (by rw [List.length_map]; omega)
    have hp1 : (d3 + 1000 * d4) % ((xs.map V.int).length : Int) < ((xs.map V.int).length : Int) := Int.emod_lt_of_pos _ (by rw [List.length_map]; omega)
    rw [List.length_map] at hp0 hp1
    refine ⟨_, rfl, rfl, _, rfl, ?_⟩
    refine ite2 (fun _ => ?_) (fun _ => ?_)
    · obtain ⟨zs, ez, lz⟩ := cut_map xs none (some ((d3 + 1000 * d4) % ((xs.map V.int).length : Int)))
      refine ⟨_, rfl, _, rfl, _, rfl, o, _, rfl, SqL.of ho4, fun q nq => ?_⟩
      refine k _ q zs (kk.new nq _) (kk.free hl4 nq) ?_ (by omega)
      rw [upd_same, ← ez]
    refine ⟨_, rfl, rfl, _, rfl, ?_⟩
    refine ite2 (fun _ => ?_) (fun _ => ?_)
    · refine ⟨_, rfl, _, rfl, _, rfl, (by show 2 ≤ sizeLine; decide), fun e ne => ?_⟩
      have noe : o ≠ e := ne_of_none ho4 ne
      refine ⟨o, e, _, _, rfl, rfl, (by rw [upd_ne noe]; exact ho4), upd_same, (by rw [List.length_map]; exact Nat.le_trans (show xs.length + 2 ≤ 10000 by omega) (by decide)), fun q nq => ?_⟩
      have k5 := kk.new ne (.lst [.int d, .int ((d3 + 1000 * d4) % ((xs.map V.int).length : Int))])
      have hl5 : (upd H4 e (.lst [.int d, .int ((d3 + 1000 * d4) % ((xs.map V.int).length : Int))])) l = some (.lst (ds4.map V.int)) := by rw [upd_ne (ne_of_none hl4 ne)]; exact hl4
      refine k _ q (xs ++ [d, (d3 + 1000 * d4) % ((xs.map V.int).length : Int)]) (k5.new nq _) (k5.free hl5 nq) ?_ (by rw [List.length_append]; show xs.length + 2 ≤ 6000; omega)
      rw [upd_same, List.map_append]
      rfl
    have hx : xs[((d3 + 1000 * d4) % (xs.length : Int)).toNat]? = some xs[((d3 + 1000 * d4) % (xs.length : Int)).toNat] := List.getElem?_eq_getElem (by omega)
    refine ⟨_, rfl, _, rfl, o, _, _, V.int xs[((d3 + 1000 * d4) % (xs.length : Int)).toNat], rfl, rfl, SqL.of ho4, at_of (j := ((d3 + 1000 * d4) % (xs.length : Int)).toNat) (by rw [List.length_map]; exact (Int.toNat_of_nonneg hp0).symm) (by rw [List.getElem?_map, hx]; rfl), ?_⟩
    refine ⟨_, _, rfl, rfl, _, rfl, _, _, rfl, rfl, ⟨by decide, by decide⟩, _, _, rfl, rfl, ?_⟩
    refine ⟨_, rfl, _, rfl, o, _, _, ((d3 + 1000 * d4) % (xs.length : Int)).toNat, rfl, rfl, ho4, ?_, ?_⟩
    · rw [List.length_map]
      unfold ixN
      rw [if_pos hp0, if_pos hp1]
    · refine ⟨_, rfl, k _ o (xs.set ((d3 + 1000 * d4) % (xs.length : Int)).toNat (xs[((d3 + 1000 * d4) % (xs.length : Int)).toNat] + 1 + d / 6)) (kk.put oH _) oH ?_ (by rw [List.length_set]; omega)⟩
      rw [upd_same, List.map_set]
end
end Pz
end
set_option Elab.async false
set_option linter.all false
set_option maxRecDepth 100000
set_option maxHeartbeats 4000000
/-! The law's two ways. -/
noncomputable section
namespace Pz
open PySem PySem.Spec PyProof.Rows L2
theorem kd_nums (name : Str) : TW.Nums (kd name).1 (kd name).2 := by
  unfold kd
  split
  · exact TW.nums_neg
  · exact TW.nums_one
theorem lay_list2 (xs ys : List Int) : SeqAt.shaped (.list [dI xs, dI ys]) = true := by
  have h1 := shaped_int xs
  have h2 := shaped_int ys
  unfold SeqAt.shaped at *
  rw [Bool.and_eq_true, decide_eq_true_eq] at *
  obtain ⟨a1, b1⟩ := h1
  obtain ⟨a2, b2⟩ := h2
  have c1 : PyData.depth (dI xs) ≤ 2 := by
    have := depth_int xs
    unfold dI
    simp only [PyData.depth]
    omega
  have c2 : PyData.depth (dI ys) ≤ 2 := by
    have := depth_int ys
    unfold dI
    simp only [PyData.depth]
    omega
  refine ⟨by simp [PyData.canLay0, PyData.canLayAll0, a1, a2], ?_⟩
  simp only [PyData.depth, PyData.depthAll]
  omega
theorem eqv_list2 (xs ys : List Int) : PyData.eqv (.list [dI xs, dI ys]) (.list [dI xs, dI ys]) = true := by
  simp only [PyData.eqv, PyData.eqvAll, eqv_dI]
  simp
theorem dp_list2 {K : PySem.W.Frag} {H : Hp} {q a b : Addr} {xs ys : List Int} (hq : H q = some (.lst [.ref a, .ref b])) (ha : H a = some (.lst (xs.map V.int))) (hb : H b = some (.lst (ys.map V.int))) : Dp K H (.ref q) (.list [dI xs, dI ys]) :=
  .lst (SqL.of hq) (.cons (dp_int (SqL.of ha)) (.cons (dp_int (SqL.of hb)) .nil))
section
variable {P : Program} {w : World} {K : PySem.W.Frag} {mg : Str → Option Value} {base : Heap}
/-! ### _law_short_program -/
def spProg : Sp := fun vs H Q _ => ∃ (l a : Addr) (ds : List Int) (name : Str) (img : List TW.Node), vs = [.ref l, .ref a, .str name] ∧ H l = some (.lst (ds.map V.int)) ∧ Dr ds ∧ H a = some (.lst ((cellsR img).map V.int)) ∧ a ≠ l ∧ Bin img name ∧ ∀ H', Q (.bl true) H'
theorem sc_prog : FnScope ["_law_draws_here", "_law_second_here", "_law_name", "_law_text", "_law_due", "_law_passed", "_law_char"] ["_law_draws_here", "_law_second_here", "_law_name"] (defScope s_l_short_program) := ⟨rfl, rfl, rfl, by decide +kernel, rfl, by decide +kernel, by decide +kernel⟩
theorem ok_prog (W : Wd K mg w) : Cal P w K mg base 8 "_law_short_program" spProg := by
  obtain ⟨fd, F⟩ := W.d_l_short_program
  have GX := ok_shtx (P := P) (base := base) W
  have GT := ok_twig (P := P) (base := base) W
  have GC := ok_child (P := P) (base := base) W
  have GG := ok_gens (P := P) (base := base) W
  refine ⟨_, fd, ["_law_draws_here", "_law_second_here", "_law_name"], F.ok sc_prog (fun vs H Q E h => ?_) (fun cdv A outer s H vs Q E hr h => ?_), W.g_l_short_program, W.p_l_short_program, F.bindsN fun _ _ _ _ _ _ us hl => match us, hl with | [_, _, _], _ => rfl⟩
  · obtain ⟨l, a, ds, name, img, rfl, _⟩ := h
    rfl
  · obtain ⟨l, a, ds, name, img, rfl, hl, hd, ha, na, bin, k⟩ := h
    refine ⟨_, PSs.nox (pss_cons (ps_set (i := 3) sc_prog.nd rfl (Or.inl rfl) (pe_c GX hr (by decide) rfl (pa_cons (pv 0) pa_nil)))
      (pss_cons (ps_set (i := 4) sc_prog.nd rfl (Or.inl rfl) (pe_c GT hr (by decide) rfl (pa_cons (pe_lc (own := [("_law_char", 6)]) (g := gName 6) (tt := tYes) rfl sc_prog.nd (pi_str (pv 3))
          (blkOk_by (own := [("_law_char", 6)]) (N := ["_law_draws_here", "_law_second_here", "_law_name", "_law_text", "_law_due", "_law_passed", "_law_char"]) (sc := defScope s_l_short_program) (by decide +kernel)) (fun _ _ _ _ _ => pg_name (i := 6) sc_prog.nd rfl (Or.inl rfl)) (fun _ _ _ _ _ => pts_nil)
          (fun _ _ _ _ _ => pe_callB (r := rOrd) call_ordR (by rfl) W.no_ord (by decide +kernel) (pa_cons (pv 6) pa_nil))) (pa_cons pe_int (pa_cons pe_int pa_nil)))))
      (pss_cons (ps_if (pt_cmpR op_eq (pv 2) pe_str (nomark _)) (pss_one (ps_set (i := 4) sc_prog.nd rfl (Or.inl rfl) (pe_c GT hr (by decide) rfl (pa_cons (pe_lc (own := [("_law_char", 6)]) (g := gName 6) (tt := tYes) rfl sc_prog.nd (pi_str (pv 3))
          (blkOk_by (own := [("_law_char", 6)]) (N := ["_law_draws_here", "_law_second_here", "_law_name", "_law_text", "_law_due", "_law_passed", "_law_char"]) (sc := defScope s_l_short_program) (by decide +kernel)) (fun _ _ _ _ _ => pg_name (i := 6) sc_prog.nd rfl (Or.inl rfl)) (fun _ _ _ _ _ => pts_nil)
          (fun _ _ _ _ _ => pe_callB (r := rOrd) call_ordR (by rfl) W.no_ord (by decide +kernel) (pa_cons (pv 6) pa_nil))) (pa_cons (pe_un un_neg pe_int) (pa_cons (pe_un un_neg pe_int) pa_nil)))))) pss_nil)
      (pss_cons (ps_set (i := 5) sc_prog.nd rfl (Or.inl rfl) (pe_callTy call_list_of (by rfl) W.no_list (by decide +kernel) (pa_cons (pv 1) pa_nil)))
      (pss_cons (ps_if (PW.pt (pw_or (pt_cmpR (op_neD hr.units) (pe_cd GC hr (Nat.le_refl _) rfl (pa_cons (pv 5) (pa_cons (pv 3) pa_nil))) (pv 4) (nomark _)) (pw_or1 (pt_cmpR (op_neD hr.units) (pv 5) (pv 1) (nomark _))))) (pss_one (ps_ret pe_bl)) pss_nil)
      (pss_one (ps_ret (pe_cmpR (op_eqD hr.units) (pe_cd GG hr (Nat.le_refl _) rfl (pa_cons (pv 1) (pa_cons (pv 3) (pa_cons pe_int pa_nil)))) (pe_lst (pa_cons (pv 1) (pa_cons (pv 4) pa_nil))) (nomark _))))))))), ?_⟩
    refine ⟨_, rfl, l, ds, rfl, hl, hd, fun H1 ds1 z k1 hl1 hd1 tz lz => ?_⟩
    have ha1 := k1 _ _ ha na
    have lz6 : z.length ≤ 600 := by omega
    have lc6 : (codesOf z).length ≤ 600 := by rw [codesOf_len]; exact lz6
    have tr : Tr img (kd name).1 (kd name).2 (codesOf z) := ⟨bin.tr, bin.len, lc6, tz.range⟩
    have row : Row (codesOf z) [img, TW.twigR (codesOf z) (kd name).1 (kd name).2] := fun i g g' e1 e2 => by
      cases i with
      | zero =>
        cases e1
        cases e2
        exact ⟨_, _, tr, rfl⟩
      | succ j =>
        cases j with
        | zero => cases e2
        | succ j => cases e2
    refine ⟨_, rfl, z, rfl, fun D hD => ?_⟩
    refine lc_codes hD lz6 (fun v => rfl) (fun v => rfl) fun H2 s2 hD2 => ?_
    refine ⟨D, codesOf z, 200, 1, rfl, SqL.of hD2, lc6, fun H3 o s3 no ho => ?_⟩
    have ha3 := s3 _ _ (s2 _ _ ha1)
    refine ⟨_, rfl, rfl, _, rfl, ?_⟩
    by_cases c1 : name = nTurned
    · rw [decide_eq_true (show V.str name = V.str (Str.ofString "turned") by rw [c1])]
      refine iteT ?_
      refine ⟨_, rfl, z, rfl, fun D2 hD2' => ?_⟩
      refine lc_codes hD2' lz6 (fun v => rfl) (fun v => rfl) fun H3' s3' hD3 => ?_
      refine ⟨_, rfl, _, rfl, D2, codesOf z, -1, -1, rfl, SqL.of hD3, lc6, fun H4 o2 s4 no2 ho2 => ?_⟩
      have ha4 := s4 _ _ (s3' _ _ ha3)
      have ek : kd name = (-1, -1) := by unfold kd; rw [if_pos c1]
      have ho4 : H4 o2 = some (.lst ((cellsR (TW.twigR (codesOf z) (kd name).1 (kd name).2)).map V.int)) := by rw [ek]; exact ho2
      refine ⟨_, rfl, a, _, rfl, .inl (SqL.of ha4), fun p np => ?_⟩
      have ha5 : (upd H4 p (.lst ((cellsR img).map V.int))) a = some (.lst ((cellsR img).map V.int)) := by rw [upd_ne (ne_of_none ha4 np)]; exact ha4
      have ho5 : (upd H4 p (.lst ((cellsR img).map V.int))) o2 = some (.lst ((cellsR (TW.twigR (codesOf z) (kd name).1 (kd name).2)).map V.int)) := by rw [upd_ne (ne_of_none ho4 np)]; exact ho4
      have hp5 : (upd H4 p (.lst ((cellsR img).map V.int))) p = some (.lst ((cellsR img).map V.int)) := upd_same
      generalize upd H4 p (.lst ((cellsR img).map V.int)) = H5 at *
      refine ⟨_, rfl, _, rfl, p, z, img, (kd name).1, (kd name).2, rfl, SqL.of hp5, tz, tr, fun H6 c s6 nc hc => ?_⟩
      refine ⟨_, rfl, _, _, dp_int (SqL.of hc), dp_int (SqL.of (s6 _ _ ho5)), shaped_int _, shaped_int _, _, rfl, ?_⟩
      rw [eqv_dI, decide_eq_true rfl]
      refine iteF ?_
      refine ⟨_, rfl, _, rfl, _, _, dp_int (SqL.of (s6 _ _ hp5)), dp_int (SqL.of (s6 _ _ ha5)), shaped_int _, shaped_int _, _, rfl, ?_⟩
      rw [eqv_dI, decide_eq_true rfl]
      refine iteF ?_
      refine ⟨_, rfl, _, rfl, a, z, img, [TW.twigR (codesOf z) (kd name).1 (kd name).2], rfl, SqL.of (s6 _ _ ha5), tz, (by show 1 ≤ 10; decide), row, fun H7 q tt s7 nq hq hlt htt => ?_⟩
      match tt, hlt, hq, htt with
      | [t0, t1], _, hq, htt =>
        have g0 := htt 0 t0 img rfl rfl
        have g1 := htt 1 t1 _ rfl rfl
        refine ⟨_, rfl, _, rfl, (by show 2 ≤ sizeLine; decide), fun e ne => ?_⟩
        have up : ∀ {x u}, H7 x = some u → (upd H7 e (.lst [.ref a, .ref o2])) x = some u := fun {x u} h => by rw [upd_ne (ne_of_none h ne)]; exact h
        refine ⟨_, _, dp_list2 (up hq) (up g0) (up g1), dp_list2 (q := e) upd_same (up (s7 _ _ (s6 _ _ ha5))) (up (s7 _ _ (s6 _ _ ho5))), lay_list2 _ _, lay_list2 _ _, ?_⟩
        rw [eqv_list2]
        exact k _
    · rw [decide_eq_false (fun e => c1 (V.str.inj e))]
      refine iteF ?_
      have ek : kd name = (200, 1) := by unfold kd; rw [if_neg c1]
      have ho4 : H3 o = some (.lst ((cellsR (TW.twigR (codesOf z) (kd name).1 (kd name).2)).map V.int)) := by rw [ek]; exact ho
      refine ⟨_, rfl, a, _, rfl, .inl (SqL.of ha3), fun p np => ?_⟩
      have ha5 : (upd H3 p (.lst ((cellsR img).map V.int))) a = some (.lst ((cellsR img).map V.int)) := by rw [upd_ne (ne_of_none ha3 np)]; exact ha3
      have ho5 : (upd H3 p (.lst ((cellsR img).map V.int))) o = some (.lst ((cellsR (TW.twigR (codesOf z) (kd name).1 (kd name).2)).map V.int)) := by rw [upd_ne (ne_of_none ho4 np)]; exact ho4
      have hp5 : (upd H3 p (.lst ((cellsR img).map V.int))) p = some (.lst ((cellsR img).map V.int)) := upd_same
      generalize upd H3 p (.lst ((cellsR img).map V.int)) = H5 at *
      refine ⟨_, rfl, _, rfl, p, z, img, (kd name).1, (kd name).2, rfl, SqL.of hp5, tz, tr, fun H6 c s6 nc hc => ?_⟩
      refine ⟨_, rfl, _, _, dp_int (SqL.of hc), dp_int (SqL.of (s6 _ _ ho5)), shaped_int _, shaped_int _, _, rfl, ?_⟩
      rw [eqv_dI, decide_eq_true rfl]
      refine iteF ?_
      refine ⟨_, rfl, _, rfl, _, _, dp_int (SqL.of (s6 _ _ hp5)), dp_int (SqL.of (s6 _ _ ha5)), shaped_int _, shaped_int _, _, rfl, ?_⟩
      rw [eqv_dI, decide_eq_true rfl]
      refine iteF ?_
      refine ⟨_, rfl, _, rfl, a, z, img, [TW.twigR (codesOf z) (kd name).1 (kd name).2], rfl, SqL.of (s6 _ _ ha5), tz, (by show 1 ≤ 10; decide), row, fun H7 q tt s7 nq hq hlt htt => ?_⟩
      match tt, hlt, hq, htt with
      | [t0, t1], _, hq, htt =>
        have g0 := htt 0 t0 img rfl rfl
        have g1 := htt 1 t1 _ rfl rfl
        refine ⟨_, rfl, _, rfl, (by show 2 ≤ sizeLine; decide), fun e ne => ?_⟩
        have up : ∀ {x u}, H7 x = some u → (upd H7 e (.lst [.ref a, .ref o])) x = some u := fun {x u} h => by rw [upd_ne (ne_of_none h ne)]; exact h
        refine ⟨_, _, dp_list2 (up hq) (up g0) (up g1), dp_list2 (q := e) upd_same (up (s7 _ _ (s6 _ _ ha5))) (up (s7 _ _ (s6 _ _ ho5))), lay_list2 _ _, lay_list2 _ _, ?_⟩
        rw [eqv_list2]
        exact k _
end
end Pz
end
set_option Elab.async false
set_option linter.all false
set_option maxRecDepth 100000
set_option maxHeartbeats 4000000
/-! The law's way over compilers; the law. -/
noncomputable section
namespace Pz
open PySem PySem.Spec PyProof.Rows L2
/-- what is due to a compiler's text -/
def dueOf (name : Str) : List TW.Node := TW.twigR (cOf name) (kd name).1 (kd name).2
theorem tw_len {name : Str} (h : name = nPlain ∨ name = nTurned) (f d : Int) (hn : TW.Nums f d) : (TW.twigR (cOf name) f d).length ≤ 1000 := (bin_of h hn).len
theorem cellsR_bd {l : List TW.Node} (h : l.length ≤ 1000) : (cellsR l).length ≤ 4000 := by
  rw [cellsR_len]
  omega
theorem due_pos (name : Str) : 0 < (cellsR (dueOf name)).length := by
  rw [cellsR_len]
  have : 0 < (dueOf name).length := by
    unfold dueOf TW.twigR TW.Tw.finish
    show 0 < (_ :: _ : List TW.Node).length
    simp
  omega
theorem apart_ans (late sus : List Int) : lawApart late sus < 0 ∧ answer late sus = [.str "same"] ∨ ¬ lawApart late sus < 0 ∧ answer late sus = [.str "apart", .int (lawApart late sus)] := by
  unfold lawApart answer
  by_cases e : late = sus
  · rw [if_pos e, if_pos e]
    exact .inl ⟨by decide, rfl⟩
  · rw [if_neg e, if_neg e]
    exact .inr ⟨by omega, rfl⟩
theorem shaped_same : SeqAt.shaped (.tuple [.str (Str.ofString "same")]) = true := by decide +kernel
theorem strOk_apart : PyData.canLay0 (.str (Str.ofString "apart")) = true := by decide +kernel
theorem shaped_ap (i : Int) : SeqAt.shaped (.tuple [.str (Str.ofString "apart"), .int i]) = true := by
  unfold SeqAt.shaped
  rw [Bool.and_eq_true, decide_eq_true_eq]
  refine ⟨?_, ?_⟩
  · show PyData.canLayAll0 [.str (Str.ofString "apart"), .int i] = true
    have := strOk_apart
    simp only [PyData.canLayAll0, PyData.canLay0, Bool.and_true] at this ⊢
    exact this
  · simp only [PyData.depth, PyData.depthAll]
    omega
theorem eqv_same : PyData.eqv (.tuple [.str (Str.ofString "same")]) (.tuple [.str (Str.ofString "same")]) = true := by decide +kernel
theorem eqv_ap (i : Int) : PyData.eqv (.tuple [.str (Str.ofString "apart"), .int i]) (.tuple [.str (Str.ofString "apart"), .int i]) = true := by
  simp only [PyData.eqv, PyData.eqvAll]
  simp
section
variable {P : Program} {w : World} {K : PySem.W.Frag} {mg : Str → Option Value} {base : Heap}
def spComp : Sp := fun vs H Q _ => ∃ (l a : Addr) (ds : List Int) (name kind : Str) (img : List TW.Node), vs = [.ref l, .ref a, .str name] ∧ H l = some (.lst (ds.map V.int)) ∧ Dr ds ∧ H a = some (.lst ((cellsR img).map V.int)) ∧ a ≠ l ∧ Bin img kind ∧ (name = nPlain ∨ name = nTurned) ∧ ∀ H', Q (.bl true) H'
theorem sc_comp : FnScope ["_law_draws_here", "_law_second_here", "_law_name", "_law_due", "_law_text", "_law_passed", "_law_row", "_law_suspect_here", "_law_given", "_law_answer", "_law_place"] ["_law_draws_here", "_law_second_here", "_law_name"] (defScope s_l_compiler) := ⟨rfl, rfl, rfl, by decide +kernel, rfl, by decide +kernel, by decide +kernel⟩
theorem ok_comp (W : Wd K mg w) : Cal P w K mg base 8 "_law_compiler" spComp := by
  obtain ⟨fd, F⟩ := W.d_l_compiler
  have GN := ok_next (P := P) (base := base) W
  have GT := ok_twig (P := P) (base := base) W
  have GC := ok_tcodes (P := P) (base := base) W
  have GR := ok_rung (P := P) (base := base) W
  have GG := ok_gens (P := P) (base := base) W
  have GS := ok_suspect (P := P) (base := base) W
  have GD := ok_dbl (P := P) (base := base) W
  have GA := ok_apartL (P := P) (base := base) W
  refine ⟨_, fd, ["_law_draws_here", "_law_second_here", "_law_name"], F.ok sc_comp (fun vs H Q E h => ?_) (fun cdv A outer s H vs Q E hr h => ?_), W.g_l_compiler, W.p_l_compiler, F.bindsN fun _ _ _ _ _ _ us hl => match us, hl with | [_, _, _], _ => rfl⟩
  · obtain ⟨l, a, ds, name, kind, img, rfl, _⟩ := h
    rfl
  · obtain ⟨l, a, ds, name, kind, img, rfl, hl, hd, ha, na, bin, hn, k⟩ := h
    refine ⟨_, PSs.nox (pss_cons (ps_set (i := 3) sc_comp.nd rfl (Or.inl rfl) (pe_c GT hr (by decide) rfl (pa_cons (pe_c GC hr (by decide) rfl (pa_cons (pv 2) pa_nil)) (pa_cons pe_int (pa_cons pe_int pa_nil)))))
      (pss_cons (ps_if (pt_cmpR op_eq (pv 2) pe_str (nomark _)) (pss_one (ps_set (i := 3) sc_comp.nd rfl (Or.inl rfl) (pe_c GT hr (by decide) rfl (pa_cons (pe_c GC hr (by decide) rfl (pa_cons (pv 2) pa_nil)) (pa_cons (pe_un un_neg pe_int) (pa_cons (pe_un un_neg pe_int) pa_nil)))))) pss_nil)
      (pss_cons (ps_set (i := 4) sc_comp.nd rfl (Or.inl rfl) (pe_c GR hr (by decide) rfl (pa_cons (pv 2) pa_nil)))
      (pss_cons (ps_set (i := 5) sc_comp.nd rfl (Or.inl rfl) (pe_callTy call_list_of (by rfl) W.no_list (by decide +kernel) (pa_cons (pv 1) pa_nil)))
      (pss_cons (ps_if (pt_cmpR op_eq (pe_op op_mod (pe_callTy call_int1 (by rfl) W.no_int (by decide +kernel) (pa_cons (pe_c GN hr (by decide) rfl (pa_cons (pv 0) pa_nil)) pa_nil)) pe_int) pe_int (nomark _))
        (pss_cons (ps_set (i := 6) sc_comp.nd rfl (Or.inl rfl) (pe_cd GG hr (Nat.le_refl _) rfl (pa_cons (pv 5) (pa_cons (pv 4) (pa_cons pe_int pa_nil)))))
        (pss_one (ps_ret (pe_and (pe_cmpR op_eq (pe_callB call_len_seq (by rfl) W.no_len PySem.boot_len (pa_cons (pv 6) pa_nil)) pe_int (nomark _))
          (pe_and (pe_cmpR (op_eqD hr.units) (pe_ix ix_list (pv 6) pe_int (fun _ _ => rfl)) (pv 3) (nomark _))
          (pe_and (pe_cmpR (op_eqD hr.units) (pe_ix ix_list (pv 6) pe_int (fun _ _ => rfl)) (pv 1) (nomark _))
          (pe_one (pe_cmpR (op_eqD hr.units) (pv 5) (pv 1) (nomark _))))))))) pss_nil)
      (pss_cons (ps_set (i := 7) sc_comp.nd rfl (Or.inl rfl) (pe_c GS hr (by decide) rfl (pa_cons (pv 0) (pa_cons (pv 3) (pa_cons (pv 1) pa_nil)))))
      (pss_cons (ps_set (i := 8) sc_comp.nd rfl (Or.inl rfl) (pe_callTy call_list_of (by rfl) W.no_list (by decide +kernel) (pa_cons (pv 7) pa_nil)))
      (pss_cons (ps_set (i := 9) sc_comp.nd rfl (Or.inl rfl) (pe_cd GD hr (Nat.le_refl _) rfl (pa_cons (pv 8) (pa_cons (pv 5) (pa_cons (pv 4) pa_nil)))))
      (pss_cons (ps_set (i := 10) sc_comp.nd rfl (Or.inl rfl) (pe_c GA hr (by decide) rfl (pa_cons (pv 3) (pa_cons (pv 7) pa_nil))))
      (pss_cons (ps_if (PW.pt (pw_or (pt_cmpR (op_neD hr.units) (pv 8) (pv 7) (nomark _)) (pw_or1 (pt_cmpR (op_neD hr.units) (pv 5) (pv 1) (nomark _))))) (pss_one (ps_ret pe_bl)) pss_nil)
      (pss_cons (ps_if (pt_cmpR op_lt (pv 10) pe_int (nomark _)) (pss_one (ps_ret (pe_cmpR (op_eqD hr.units) (pv 9) (pe_tup (pa_cons pe_str pa_nil)) (nomark _)))) pss_nil)
      (pss_one (ps_ret (pe_cmpR (op_eqD hr.units) (pv 9) (pe_tup (pa_cons pe_str (pa_cons (pv 10) pa_nil))) (nomark _))))))))))))))), ?_⟩
    obtain ⟨z, hz, ez, lz⟩ := txs_mem name (.inr hn)
    have lc : (codesOf z).length ≤ 600 := by rw [codesOf_len]; exact lz
    refine ⟨_, rfl, _, hz, rfl, lz, fun H1 c s1 nc hc => ?_⟩
    refine ⟨c, codesOf z, 200, 1, rfl, SqL.of hc, lc, fun H2 o s2 no ho => ?_⟩
    have s12 := s1.trans s2
    refine ⟨_, rfl, rfl, _, rfl, ?_⟩
    have tz : Tx z := tx_of (by rw [ez]; rcases hn with rfl | rfl <;> decide +kernel) (by rw [ez]; exact cOf_len name)
    have ed : TW.twigR (codesOf z) (kd name).1 (kd name).2 = dueOf name := by unfold dueOf; rw [ez]
    have b2 : Bin (TW.twigR (codesOf z) (kd kind).1 (kd kind).2) name := by rw [ez]; exact bin_of hn (kd_nums kind)
    have t1 : Tr img (kd kind).1 (kd kind).2 (codesOf z) := ⟨bin.tr, bin.len, lc, tz.range⟩
    have t2 : Tr (TW.twigR (codesOf z) (kd kind).1 (kd kind).2) (kd name).1 (kd name).2 (codesOf z) := ⟨b2.tr, b2.len, lc, tz.range⟩
    have row : Row (codesOf z) [img, TW.twigR (codesOf z) (kd kind).1 (kd kind).2, dueOf name] := fun i g g' e1 e2 => by
      match i, e1, e2 with
      | 0, e1, e2 =>
        cases e1
        cases e2
        exact ⟨_, _, t1, rfl⟩
      | 1, e1, e2 =>
        cases e1
        cases e2
        exact ⟨_, _, t2, ed.symm⟩
      | j + 2, _, e2 => cases e2
    have ld : (cellsR (dueOf name)).length ≤ 5000 := by
      have q : (dueOf name).length ≤ 1000 := tw_len hn _ _ (kd_nums name)
      have := cellsR_bd q
      omega
    have la : (cellsR img).length ≤ 5000 := by
      have := cellsR_bd bin.len
      omega
    by_cases c1 : name = nTurned
    · rw [decide_eq_true (show V.str name = V.str (Str.ofString "turned") by rw [c1])]
      refine iteT ?_
      refine ⟨_, rfl, _, hz, rfl, lz, fun H3 c' s3 nc' hc' => ?_⟩
      refine ⟨_, rfl, _, rfl, c', codesOf z, -1, -1, rfl, SqL.of hc', lc, fun H4 o' s4 no' ho' => ?_⟩
      have s14 := s12.trans (s3.trans s4)
      have ek : kd name = (-1, -1) := by unfold kd; rw [if_pos c1]
      have hDX : H4 o' = some (.lst ((cellsR (dueOf name)).map V.int)) := by rw [← ed, ek]; exact ho'
      have haX := s14 _ _ ha
      have hlX := s14 _ _ hl
      have nDU : o' ≠ l := (ne_of_none (s3 _ _ (s12 _ _ hl)) no').symm
      refine ⟨_, rfl, _, hz, rfl, ?_⟩
      refine ⟨_, rfl, a, _, rfl, .inl (SqL.of haX), fun p np => ?_⟩
      have ha5 : (upd H4 p (.lst ((cellsR img).map V.int))) a = some (.lst ((cellsR img).map V.int)) := by rw [upd_ne (ne_of_none haX np)]; exact haX
      have hD5 : (upd H4 p (.lst ((cellsR img).map V.int))) o' = some (.lst ((cellsR (dueOf name)).map V.int)) := by rw [upd_ne (ne_of_none hDX np)]; exact hDX
      have hl5 : (upd H4 p (.lst ((cellsR img).map V.int))) l = some (.lst (ds.map V.int)) := by rw [upd_ne (ne_of_none hlX np)]; exact hlX
      have hp5 : (upd H4 p (.lst ((cellsR img).map V.int))) p = some (.lst ((cellsR img).map V.int)) := upd_same
      have npl : p ≠ l := (ne_of_none hlX np).symm
      generalize upd H4 p (.lst ((cellsR img).map V.int)) = H5 at *
      refine ⟨_, rfl, l, ds, rfl, hl5, hd, fun H6 ds6 d k6 hl6 hd6 d0 d1 => ?_⟩
      refine .inl ⟨_, rfl, _, _, rfl, rfl, (show (0 : Int) < 4 by decide), rfl, _, rfl, ?_⟩
      have ha6 := k6 _ _ ha5 na
      have hD6 := k6 _ _ hD5 nDU
      have hp6 := k6 _ _ hp5 npl
      refine ite2 (fun _ => ?_) (fun _ => ?_)
      · refine ⟨_, rfl, _, rfl, p, z, img, [TW.twigR (codesOf z) (kd kind).1 (kd kind).2, dueOf name], rfl, SqL.of hp6, tz, (by show 2 ≤ 10; decide), row, fun H7 q tt s7 nq hq hlt htt => ?_⟩
        match tt, hlt, hq, htt with
        | [t0, t1, t2], _, hq, htt =>
          have g0 := htt 0 t0 img rfl rfl
          have g2 := htt 2 t2 (dueOf name) rfl rfl
          refine ⟨_, rfl, q, _, rfl, .inl (SqL.of hq), rfl, _, rfl, ?_⟩
          refine iteT ?_
          refine ⟨_, rfl, q, _, _, V.ref t2, rfl, rfl, SqL.of hq, atI_nat (j := 2) rfl, _, rfl, _, _, dp_int (SqL.of g2), dp_int (SqL.of (s7 _ _ hD6)), shaped_int _, shaped_int _, _, rfl, ?_⟩
          rw [eqv_dI, decide_eq_true rfl]
          refine iteT ?_
          refine ⟨_, rfl, q, _, _, V.ref t0, rfl, rfl, SqL.of hq, atI_nat (j := 0) rfl, _, rfl, _, _, dp_int (SqL.of g0), dp_int (SqL.of (s7 _ _ ha6)), shaped_int _, shaped_int _, _, rfl, ?_⟩
          rw [eqv_dI, decide_eq_true rfl]
          refine iteT ?_
          refine ⟨_, rfl, _, rfl, _, _, dp_int (SqL.of (s7 _ _ hp6)), dp_int (SqL.of (s7 _ _ ha6)), shaped_int _, shaped_int _, ?_⟩
          rw [eqv_dI, decide_eq_true rfl]
          exact k _
      · refine ⟨_, rfl, _, rfl, _, rfl, l, o', a, ds6, cellsR (dueOf name), cellsR img, rfl, hl6, hd6, hD6, ha6, nDU, na, due_pos name, ld, la, fun H7 o7 sus k7 no7 ho7 ls => ?_⟩
        have ha7 := k7 _ _ ha6 na
        have hD7 := k7 _ _ hD6 nDU
        have hp7 := k7 _ _ hp6 npl
        refine ⟨_, rfl, o7, _, rfl, .inl (SqL.of ho7), fun g ng => ?_⟩
        have s8 : Same H7 (upd H7 g (.lst (sus.map V.int))) := same_upd (Same.refl H7) ng
        have hg8 : (upd H7 g (.lst (sus.map V.int))) g = some (.lst (sus.map V.int)) := upd_same
        refine ⟨_, rfl, _, rfl, _, rfl, g, p, z, sus, img, (kd kind).1, (kd kind).2, (kd name).1, (kd name).2, rfl, SqL.of hg8, SqL.of (s8 _ _ hp7), tz, t1, t2, fun H9 t s9 nt ht => ?_⟩
        have s79 := s8.trans s9
        have hg9 := s9 _ _ hg8
        rw [ed] at ht
        refine ⟨_, rfl, _, rfl, o', o7, cellsR (dueOf name), sus, rfl, SqL.of (s79 _ _ hD7), SqL.of (s79 _ _ ho7), by omega, by omega, ?_⟩
        refine ⟨_, rfl, _, rfl, _, _, dp_int (SqL.of hg9), dp_int (SqL.of (s79 _ _ ho7)), shaped_int _, shaped_int _, _, rfl, ?_⟩
        rw [eqv_dI, decide_eq_true rfl]
        refine iteF ?_
        refine ⟨_, rfl, _, rfl, _, _, dp_int (SqL.of (s79 _ _ hp7)), dp_int (SqL.of (s79 _ _ ha7)), shaped_int _, shaped_int _, _, rfl, ?_⟩
        rw [eqv_dI, decide_eq_true rfl]
        refine iteF ?_
        rcases apart_ans (cellsR (dueOf name)) sus with ⟨c, e⟩ | ⟨c, e⟩
        · rw [e] at ht
          refine ⟨_, rfl, _, _, rfl, rfl, _, rfl, ?_⟩
          rw [decide_eq_true c]
          refine iteT ?_
          refine ⟨_, rfl, (by show 1 ≤ sizeLine; decide), fun q nq => ?_⟩
          refine ⟨.tuple [.str (Str.ofString "same")], .tuple [.str (Str.ofString "same")], .tup (SqT.of (by rw [upd_ne (ne_of_none ht nq)]; exact ht)) (.cons (.str _) .nil), .tup (SqT.of upd_same) (.cons (.str _) .nil), shaped_same, shaped_same, ?_⟩
          rw [eqv_same]
          exact k _
        · rw [e] at ht
          refine ⟨_, rfl, _, _, rfl, rfl, _, rfl, ?_⟩
          rw [decide_eq_false c]
          refine iteF ?_
          refine ⟨_, rfl, _, rfl, (by show 2 ≤ sizeLine; decide), fun q nq => ?_⟩
          refine ⟨.tuple [.str (Str.ofString "apart"), .int (lawApart (cellsR (dueOf name)) sus)], .tuple [.str (Str.ofString "apart"), .int (lawApart (cellsR (dueOf name)) sus)], .tup (SqT.of (by rw [upd_ne (ne_of_none ht nq)]; exact ht)) (.cons (.str _) (.cons (.int _) .nil)), .tup (SqT.of upd_same) (.cons (.str _) (.cons (.int _) .nil)), shaped_ap _, shaped_ap _, ?_⟩
          rw [eqv_ap]
          exact k _
    · rw [decide_eq_false (fun e => c1 (V.str.inj e))]
      refine iteF ?_
      have ek : kd name = (200, 1) := by unfold kd; rw [if_neg c1]
      have hDX : H2 o = some (.lst ((cellsR (dueOf name)).map V.int)) := by rw [← ed, ek]; exact ho
      have haX := s12 _ _ ha
      have hlX := s12 _ _ hl
      have nDU : o ≠ l := (ne_of_none (s1 _ _ hl) no).symm
      refine ⟨_, rfl, _, hz, rfl, ?_⟩
      refine ⟨_, rfl, a, _, rfl, .inl (SqL.of haX), fun p np => ?_⟩
      have ha5 : (upd H2 p (.lst ((cellsR img).map V.int))) a = some (.lst ((cellsR img).map V.int)) := by rw [upd_ne (ne_of_none haX np)]; exact haX
      have hD5 : (upd H2 p (.lst ((cellsR img).map V.int))) o = some (.lst ((cellsR (dueOf name)).map V.int)) := by rw [upd_ne (ne_of_none hDX np)]; exact hDX
      have hl5 : (upd H2 p (.lst ((cellsR img).map V.int))) l = some (.lst (ds.map V.int)) := by rw [upd_ne (ne_of_none hlX np)]; exact hlX
      have hp5 : (upd H2 p (.lst ((cellsR img).map V.int))) p = some (.lst ((cellsR img).map V.int)) := upd_same
      have npl : p ≠ l := (ne_of_none hlX np).symm
      generalize upd H2 p (.lst ((cellsR img).map V.int)) = H5 at *
      refine ⟨_, rfl, l, ds, rfl, hl5, hd, fun H6 ds6 d k6 hl6 hd6 d0 d1 => ?_⟩
      refine .inl ⟨_, rfl, _, _, rfl, rfl, (show (0 : Int) < 4 by decide), rfl, _, rfl, ?_⟩
      have ha6 := k6 _ _ ha5 na
      have hD6 := k6 _ _ hD5 nDU
      have hp6 := k6 _ _ hp5 npl
      refine ite2 (fun _ => ?_) (fun _ => ?_)
      · refine ⟨_, rfl, _, rfl, p, z, img, [TW.twigR (codesOf z) (kd kind).1 (kd kind).2, dueOf name], rfl, SqL.of hp6, tz, (by show 2 ≤ 10; decide), row, fun H7 q tt s7 nq hq hlt htt => ?_⟩
        match tt, hlt, hq, htt with
        | [t0, t1, t2], _, hq, htt =>
          have g0 := htt 0 t0 img rfl rfl
          have g2 := htt 2 t2 (dueOf name) rfl rfl
          refine ⟨_, rfl, q, _, rfl, .inl (SqL.of hq), rfl, _, rfl, ?_⟩
          refine iteT ?_
          refine ⟨_, rfl, q, _, _, V.ref t2, rfl, rfl, SqL.of hq, atI_nat (j := 2) rfl, _, rfl, _, _, dp_int (SqL.of g2), dp_int (SqL.of (s7 _ _ hD6)), shaped_int _, shaped_int _, _, rfl, ?_⟩
          rw [eqv_dI, decide_eq_true rfl]
          refine iteT ?_
          refine ⟨_, rfl, q, _, _, V.ref t0, rfl, rfl, SqL.of hq, atI_nat (j := 0) rfl, _, rfl, _, _, dp_int (SqL.of g0), dp_int (SqL.of (s7 _ _ ha6)), shaped_int _, shaped_int _, _, rfl, ?_⟩
          rw [eqv_dI, decide_eq_true rfl]
          refine iteT ?_
          refine ⟨_, rfl, _, rfl, _, _, dp_int (SqL.of (s7 _ _ hp6)), dp_int (SqL.of (s7 _ _ ha6)), shaped_int _, shaped_int _, ?_⟩
          rw [eqv_dI, decide_eq_true rfl]
          exact k _
      · refine ⟨_, rfl, _, rfl, _, rfl, l, o, a, ds6, cellsR (dueOf name), cellsR img, rfl, hl6, hd6, hD6, ha6, nDU, na, due_pos name, ld, la, fun H7 o7 sus k7 no7 ho7 ls => ?_⟩
        have ha7 := k7 _ _ ha6 na
        have hD7 := k7 _ _ hD6 nDU
        have hp7 := k7 _ _ hp6 npl
        refine ⟨_, rfl, o7, _, rfl, .inl (SqL.of ho7), fun g ng => ?_⟩
        have s8 : Same H7 (upd H7 g (.lst (sus.map V.int))) := same_upd (Same.refl H7) ng
        have hg8 : (upd H7 g (.lst (sus.map V.int))) g = some (.lst (sus.map V.int)) := upd_same
        refine ⟨_, rfl, _, rfl, _, rfl, g, p, z, sus, img, (kd kind).1, (kd kind).2, (kd name).1, (kd name).2, rfl, SqL.of hg8, SqL.of (s8 _ _ hp7), tz, t1, t2, fun H9 t s9 nt ht => ?_⟩
        have s79 := s8.trans s9
        have hg9 := s9 _ _ hg8
        rw [ed] at ht
        refine ⟨_, rfl, _, rfl, o, o7, cellsR (dueOf name), sus, rfl, SqL.of (s79 _ _ hD7), SqL.of (s79 _ _ ho7), by omega, by omega, ?_⟩
        refine ⟨_, rfl, _, rfl, _, _, dp_int (SqL.of hg9), dp_int (SqL.of (s79 _ _ ho7)), shaped_int _, shaped_int _, _, rfl, ?_⟩
        rw [eqv_dI, decide_eq_true rfl]
        refine iteF ?_
        refine ⟨_, rfl, _, rfl, _, _, dp_int (SqL.of (s79 _ _ hp7)), dp_int (SqL.of (s79 _ _ ha7)), shaped_int _, shaped_int _, _, rfl, ?_⟩
        rw [eqv_dI, decide_eq_true rfl]
        refine iteF ?_
        rcases apart_ans (cellsR (dueOf name)) sus with ⟨c, e⟩ | ⟨c, e⟩
        · rw [e] at ht
          refine ⟨_, rfl, _, _, rfl, rfl, _, rfl, ?_⟩
          rw [decide_eq_true c]
          refine iteT ?_
          refine ⟨_, rfl, (by show 1 ≤ sizeLine; decide), fun q nq => ?_⟩
          refine ⟨.tuple [.str (Str.ofString "same")], .tuple [.str (Str.ofString "same")], .tup (SqT.of (by rw [upd_ne (ne_of_none ht nq)]; exact ht)) (.cons (.str _) .nil), .tup (SqT.of upd_same) (.cons (.str _) .nil), shaped_same, shaped_same, ?_⟩
          rw [eqv_same]
          exact k _
        · rw [e] at ht
          refine ⟨_, rfl, _, _, rfl, rfl, _, rfl, ?_⟩
          rw [decide_eq_false c]
          refine iteF ?_
          refine ⟨_, rfl, _, rfl, (by show 2 ≤ sizeLine; decide), fun q nq => ?_⟩
          refine ⟨.tuple [.str (Str.ofString "apart"), .int (lawApart (cellsR (dueOf name)) sus)], .tuple [.str (Str.ofString "apart"), .int (lawApart (cellsR (dueOf name)) sus)], .tup (SqT.of (by rw [upd_ne (ne_of_none ht nq)]; exact ht)) (.cons (.str _) (.cons (.int _) .nil)), .tup (SqT.of upd_same) (.cons (.str _) (.cons (.int _) .nil)), shaped_ap _, shaped_ap _, ?_⟩
          rw [eqv_ap]
          exact k _
end
end Pz
end
set_option Elab.async false
set_option linter.all false
set_option maxRecDepth 100000
set_option maxHeartbeats 4000000
/-! The law. -/
noncomputable section
namespace Pz
open PySem PySem.Spec PyProof.Rows L2
theorem pick4 (a b c d : Str) (i : Int) (h0 : 0 ≤ i) (h4 : i < 4) : ∃ nm : Str, (nm = a ∨ nm = b ∨ nm = c ∨ nm = d) ∧ atI [V.str a, V.str b, V.str c, V.str d] i = some (.str nm) := by
  obtain ⟨j, rfl⟩ := Int.eq_ofNat_of_zero_le h0
  match j, h4 with
  | 0, _ => exact ⟨a, .inl rfl, atI_nat (j := 0) rfl⟩
  | 1, _ => exact ⟨b, .inr (.inl rfl), atI_nat (j := 1) rfl⟩
  | 2, _ => exact ⟨c, .inr (.inr (.inl rfl)), atI_nat (j := 2) rfl⟩
  | 3, _ => exact ⟨d, .inr (.inr (.inr rfl)), atI_nat (j := 3) rfl⟩
  | j + 4, h => omega
section
variable {P : Program} {w : World} {K : PySem.W.Frag} {mg : Str → Option Value}
def spLaw (K : PySem.W.Frag) : Sp := fun vs H Q _ => ∃ (a : Addr) (ns : List Int), vs = [.ref a] ∧ SqL K H a (ns.map V.int) ∧ ns.length ≤ 63 ∧ ∀ H', Q (.bl true) H'
theorem sc_law : FnScope ["_law_script", "_law_draws_here", "_law_draw", "_law_name", "_law_second_here"] ["_law_script"] (defScope s_law) := ⟨rfl, rfl, rfl, by decide +kernel, rfl, by decide +kernel, by decide +kernel⟩
theorem ok_law (W : Wd K mg w) : ∃ fd, (∀ base, FnOk P w K mg base CX0 12 (He.ga K "law") fd ["_law_script"] (spLaw K)) ∧ ∀ (s : Shared) (us : List Value), us.length = 1 → BindsTo s fd ⟨us, []⟩ ((["_law_script"] : List Str).zip us) := by
  obtain ⟨fd, F⟩ := W.d_law
  refine ⟨fd, fun base => ?_, fun s us hl => FunD.bindsA F (fun _ _ _ _ _ _ us hl => match us, hl with | [_], _ => rfl) s us hl⟩
  have GD := ok_draws (P := P) (base := base) W
  have GN := ok_next (P := P) (base := base) W
  have GS := ok_secondL (P := P) (base := base) W
  have GC := ok_comp (P := P) (base := base) W
  have GP := ok_prog (P := P) (base := base) W
  refine F.ok (k := 11) sc_law (fun vs H Q E h => ?_) (fun cdv A outer s H vs Q E hr h => ?_)
  · obtain ⟨a, ns, rfl, _⟩ := h
    rfl
  · obtain ⟨a, ns, rfl, hs, hlen, k⟩ := h
    refine ⟨_, PSs.nox (pss_cons (ps_set (i := 1) sc_law.nd rfl (Or.inl rfl) (pe_c GD hr (by decide) rfl (pa_cons (pv 0) pa_nil)))
      (pss_cons (ps_expr (pe_bm0 PySem.F.plainAttrs_list PySem.F.slot_list_reverse PySem.F.type_list_reverse mt_reverse (pv 1)))
      (pss_cons (ps_set (i := 2) sc_law.nd rfl (Or.inl rfl) (pe_callTy call_int1 (by rfl) W.no_int (by decide +kernel) (pa_cons (pe_c GN hr (by decide) rfl (pa_cons (pv 1) pa_nil)) pa_nil)))
      (pss_cons (ps_set (i := 3) sc_law.nd rfl (Or.inl rfl) (pe_ix ix_list (pe_lst (pa_cons pe_str (pa_cons pe_str (pa_cons pe_str (pa_cons pe_str pa_nil))))) (pe_op op_mod (pe_callTy call_int1 (by rfl) W.no_int (by decide +kernel) (pa_cons (pv 2) pa_nil)) pe_int) (fun _ _ => rfl)))
      (pss_cons (ps_set (i := 4) sc_law.nd rfl (Or.inl rfl) (pe_c GS hr (by decide) rfl (pa_cons (pe_op op_add (pe_op op_mul pe_int (pe_c GN hr (by decide) rfl (pa_cons (pv 1) pa_nil))) (pe_c GN hr (by decide) rfl (pa_cons (pv 1) pa_nil))) (pa_cons (pv 3) pa_nil))))
      (pss_cons (ps_if (pt_cmpR op_eq (pe_op op_mod (pe_op op_fdiv (pe_callTy call_int1 (by rfl) W.no_int (by decide +kernel) (pa_cons (pv 2) pa_nil)) pe_int) pe_int) pe_int (nomark _))
        (pss_one (ps_ret (pe_c GC hr (by decide) rfl (pa_cons (pv 1) (pa_cons (pv 4) (pa_cons (pe_ix ix_list (pe_lst (pa_cons pe_str (pa_cons pe_str (pa_cons pe_str (pa_cons pe_str pa_nil))))) (pe_op op_mod (pe_op op_fdiv (pe_callTy call_int1 (by rfl) W.no_int (by decide +kernel) (pa_cons (pv 2) pa_nil)) pe_int) pe_int) (fun _ _ => rfl)) pa_nil)))))) pss_nil)
      (pss_one (ps_ret (pe_c GP hr (by decide) rfl (pa_cons (pv 1) (pa_cons (pv 4) (pa_cons (pv 3) pa_nil)))))))))))), ?_⟩
    refine ⟨_, rfl, a, ns, rfl, hs, hlen, fun H1 l ds s1 nl hl hd => ?_⟩
    refine ⟨_, rfl, .inl ⟨rfl, _, SqL.of hl⟩, l, _, rfl, rfl, hl, ?_⟩
    have hl2 : (upd H1 l (.lst (ds.map V.int).reverse)) l = some (.lst (ds.reverse.map V.int)) := by rw [upd_same, List.map_reverse]
    have hd2 : Dr ds.reverse := fun x hx => hd x (List.mem_reverse.mp hx)
    generalize upd H1 l (.lst (ds.map V.int).reverse) = H2 at *
    refine ⟨_, rfl, l, _, rfl, hl2, hd2, fun H3 ds3 d k3 hl3 hd3 d0 d1 => ?_⟩
    refine .inl ⟨_, rfl, (by show 4 ≤ sizeLine; decide), fun q nq => ?_⟩
    obtain ⟨nm, hn, en⟩ := pick4 nSecond nPlain nPlain nTurned (d % 4) (by omega) (by omega)
    have hl4 : (upd H3 q (.lst [.str nSecond, .str nPlain, .str nPlain, .str nTurned])) l = some (.lst (ds3.map V.int)) := by rw [upd_ne (ne_of_none hl3 nq)]; exact hl3
    refine ⟨_, rfl, .inl ⟨_, rfl, _, _, rfl, rfl, (show (0 : Int) < 4 by decide), q, _, _, .str nm, rfl, rfl, SqL.of upd_same, en, ?_⟩⟩
    generalize upd H3 q (.lst [.str nSecond, .str nPlain, .str nPlain, .str nTurned]) = H4 at *
    refine ⟨_, rfl, l, _, rfl, hl4, hd3, fun H5 ds5 e k5 hl5 hd5 e0 e1 => ?_⟩
    refine ⟨_, _, rfl, rfl, .inl ⟨by decide, by decide⟩, _, rfl, l, _, rfl, hl5, hd5, fun H6 ds6 f k6 hl6 hd6 f0 f1 => ?_⟩
    refine ⟨_, _, rfl, rfl, _, rfl, _, nm, rfl, by omega, (by rcases hn with q | q | q | q <;> simp [q]), fun H7 o img s7 no ho bin => ?_⟩
    have hl7 := s7 _ _ hl6
    have nol : o ≠ l := (ne_of_none hl6 no).symm
    refine ⟨_, rfl, .inl ⟨_, rfl, _, _, rfl, rfl, ⟨by decide, by decide⟩, _, _, rfl, rfl, (show (0 : Int) < 6 by decide), rfl, _, rfl, ?_⟩⟩
    refine ite2 (fun _ => ?_) (fun _ => ?_)
    · refine ⟨_, rfl, _, rfl, (by show 4 ≤ sizeLine; decide), fun y ny => ?_⟩
      obtain ⟨nm2, hn2, en2⟩ := pick4 nPlain nPlain nPlain nTurned (d / 24 % 4) (by omega) (by omega)
      refine ⟨_, rfl, .inl ⟨_, rfl, _, _, rfl, rfl, ⟨by decide, by decide⟩, _, _, rfl, rfl, (show (0 : Int) < 4 by decide), y, _, _, .str nm2, rfl, rfl, SqL.of upd_same, en2, ?_⟩⟩
      exact ⟨l, o, ds6, nm2, nm, img, rfl, by rw [upd_ne (ne_of_none hl7 ny)]; exact hl7, hd6, by rw [upd_ne (ne_of_none ho ny)]; exact ho, nol, bin, (by rcases hn2 with q | q | q | q <;> simp [q]), k⟩
    · exact ⟨_, rfl, _, rfl, _, rfl, l, o, ds6, nm, img, rfl, hl7, hd6, ho, nol, bin, k⟩
end
end Pz
end
set_option maxHeartbeats 0
open PySem PySem.W PySem.Calls PyProof.Rows
theorem PySem.Challenge.cw_plinth_k97_whole_twins_come_together_holds : PySem.Challenge.rw_plinth_k97_whole_twins_come_together.Holds :=
by
  w_on; o_law
  refine HandSHeadRun.head_any (r := OpenLaw.row PySem.Challenge.rw_plinth_k97_whole_twins_come_together) (q := Pz.qv) (H := Pz.hk) (ob := Pz.ob) (M := 4000) (loose := Pz.names) (d := HandSHeadRun.topDef (OpenLaw.row PySem.Challenge.rw_plinth_k97_whole_twins_come_together).prog 73) (kwd := []) Pz.ob_eq
    (by kernel_rfl) (fun s => by kernel_rfl) Pz.run (by kernel_rfl) (by kernel_rfl) (by kernel_rfl) (by rfl) (by first | assumption | decide +kernel) (by decide +kernel) ⟨rfl, rfl, rfl, rfl, rfl, by decide +kernel⟩ ?hw ?hc
  case hw => w_witness2
  case hc =>
    refine L2.walk_ofE (l := PySem.Challenge.rw_plinth_k97_whole_twins_come_together) (n := 63) (k := 12) (x := "_law_script") (CX := L2.CX0) rfl (by decide) (by kernel_rfl) ⟨rfl, by decide, by decide⟩ ?F (fun _ _ _ _ z => z)
    intro w mg fa h Y G hmg0
    obtain ⟨K, KX, c⟩ := Y
    have hmg : mg ("law" : PySem.Str) = some (.ref fa) := by
      have e : (HandSHeadRun.topDef (OpenLaw.row PySem.Challenge.rw_plinth_k97_whole_twins_come_together).prog 73).name = ("law" : PySem.Str) := by kernel_rfl
      rw [← e]
      exact hmg0
    have W : Pz.Wd K mg w := ⟨c, h, KX, G⟩
    have e := hmg.symm.trans W.g_law
    cases e
    obtain ⟨fd, F, hb⟩ := Pz.ok_law (P := (PySem.Challenge.rw_plinth_k97_whole_twins_come_together).prog) W
    exact ⟨K, fd, Pz.spLaw K, KX, fun s u => hb s [u] rfl, fun H a ns hl _ hS => ⟨a, ns, rfl, hS, hl, fun _ => rfl⟩, fun base _ _ => F base⟩
