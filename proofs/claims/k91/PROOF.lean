import PyProof.Rows.All
import Wide.All
import OpenK.AllK
import Wide.FinOn
import KE.KStateDown
import KE.HD3
import HandS.Base
import HandS.Call
import HandS.List
import HandS.Exc
import HandS.ExcInit
import HandS.Ends
import HandS.Words
import HandS.WordsExc
import HandS.Defaults
import HandS.IsInst
import HandS.HeadEnd
import HandS.HeadHook1
import HandS.HeadHook2
import HandS.Head2
import PySem.Challenge.RW_aheadsums_k91_whole_wrong_lines
import HandS.OwnEq
import HandS.Comp
import HandS.Text
import HandS.Iter
import HandS.Dict
import HandS.FStr
import HandS.Flow
import HandS.Gcd
import HandS.Deep
import HandS.Wide
import KE.IntTextLaws
import PyProof.MeetsSeq
import PyProof.MeetsSeq2
import HandS.Conv
import KE.KDictKeyed
import HandS.SortOrd
import KE.LtData
import KE.SortData
import HandS.ExcOwn
import HandS.CallLocal
import KE.KRevSl
import HandS.TupAny
import PyProof.Rows.StrRev
import HandS.Codes
import HandS.ExcField
import HandS.ExcIs
import KE.KExcIs
import HandS.RaiseMore
import KE.KMathG
import HandS.Zip
set_option Elab.async false
set_option linter.all false
set_option maxRecDepth 100000
set_option maxHeartbeats 0
namespace Ag
open PySem PySem.Spec PyProof.Rows L2
/-! ### the text by places -/
abbrev R : PySem.W.OpenRow := PySem.W.OpenLaw.row PySem.Challenge.rw_aheadsums_k91_whole_wrong_lines
def top (i : Nat) : Stmt := PySem.Challenge.pw_aheadsums_k91_whole_wrong_lines.main.body.getD i (.Pass ⟨0, 0, 0, 0⟩)
def dOf (x : Str) (s : Stmt) : He.DefD := ⟨(x, none), x, x, defArgs s, defBody s, defScope s, [], []⟩
def mOf (c x q : Str) (s : Stmt) (dfl : List He.Dv) : He.DefD := ⟨(c, some x), x, q, defArgs s, defBody s, defScope s, dfl, []⟩
abbrev s_is_integer : Stmt := top 13
abbrev s_is_count : Stmt := top 14
abbrev s_is_list : Stmt := top 15
abbrev s_divisor_of : Stmt := top 19
abbrev s_is_number : Stmt := top 22
abbrev s_ratio_of : Stmt := top 23
abbrev s_wholes : Stmt := top 24
abbrev s_want_columns : Stmt := top 28
abbrev s_is_row : Stmt := top 29
abbrev s_told_row : Stmt := top 30
abbrev s_is_letter_of : Stmt := top 35
abbrev s_is_word_of : Stmt := top 36
abbrev s_put_more : Stmt := top 39
abbrev s_sums_told : Stmt := top 40
abbrev s_parts_joined : Stmt := top 41
abbrev s_is_word_part : Stmt := top 42
abbrev s_is_term : Stmt := top 45
abbrev s_is_term_part : Stmt := top 46
abbrev s_term_length : Stmt := top 48
abbrev s_is_step : Stmt := top 53
abbrev s_are_steps : Stmt := top 54
abbrev s_told_step : Stmt := top 55
abbrev s_is_lot : Stmt := top 60
abbrev s_count_told : Stmt := top 67
abbrev s_integer_told : Stmt := top 68
abbrev s_number_told : Stmt := top 69
abbrev s_letter_told : Stmt := top 70
abbrev s_word_told : Stmt := top 71
abbrev s_numbers_told : Stmt := top 72
abbrev s_row_told : Stmt := top 73
abbrev s_step_of_two : Stmt := top 74
abbrev s_step_told : Stmt := top 75
abbrev s_word_part_told : Stmt := top 76
abbrev s_term_part_told : Stmt := top 77
abbrev s_lot_told : Stmt := top 78
abbrev s_head_told : Stmt := top 79
abbrev s_want_lines : Stmt := top 80
abbrev s_read_word : Stmt := top 81
abbrev s_read_table : Stmt := top 82
abbrev s_read_program : Stmt := top 83
abbrev s_read_tally : Stmt := top 84
abbrev s_read_form : Stmt := top 85
abbrev s_read_runs : Stmt := top 86
abbrev s__law_pot : Stmt := top 88
abbrev s__law_draw : Stmt := top 89
abbrev s__law_pick : Stmt := top 90
abbrev s__law_letter : Stmt := top 91
abbrev s__law_word : Stmt := top 92
abbrev s__law_term : Stmt := top 93
abbrev s__law_letter_words : Stmt := top 94
abbrev s__law_word_words : Stmt := top 95
abbrev s__law_term_words : Stmt := top 96
abbrev s__law_count : Stmt := top 97
abbrev s__law_number : Stmt := top 98
abbrev s__law_numbers : Stmt := top 99
abbrev s__law_letter_of : Stmt := top 100
abbrev s__law_word_of : Stmt := top 101
abbrev s__law_row_of : Stmt := top 102
abbrev s__law_step_of : Stmt := top 103
abbrev s__law_part_of : Stmt := top 104
abbrev s__law_term_of : Stmt := top 105
abbrev s__law_lot_of : Stmt := top 106
abbrev s__law_line_of : Stmt := top 107
abbrev s__law_due : Stmt := top 108
abbrev s__law_thing : Stmt := top 109
abbrev s__law_read : Stmt := top 110
abbrev s__law_text_right : Stmt := top 111
abbrev s__law_told : Stmt := top 112
abbrev s__law_told_row : Stmt := top 113
abbrev s__law_told_step : Stmt := top 114
abbrev s__law_told_line : Stmt := top 115
abbrev s__law_text : Stmt := top 116
abbrev s__law_bent : Stmt := top 117
abbrev s__law_fixed_right : Stmt := top 118
abbrev s__law_right : Stmt := top 119
abbrev s_law : Stmt := top 120
abbrev s_Ratio_init : Stmt := inClass (top 20) 0
abbrev s_Ratio_eq : Stmt := inClass (top 20) 17
abbrev s_Table_init : Stmt := inClass (top 31) 0
abbrev s_Table_eq : Stmt := inClass (top 31) 4
abbrev s_Tally_init : Stmt := inClass (top 43) 0
abbrev s_Tally_eq : Stmt := inClass (top 43) 4
abbrev s_Form_init : Stmt := inClass (top 47) 0
abbrev s_Form_eq : Stmt := inClass (top 47) 4
abbrev s_Program_init : Stmt := inClass (top 56) 0
abbrev s_Program_eq : Stmt := inClass (top 56) 3
abbrev s_Runs_init : Stmt := inClass (top 61) 0
abbrev s_Runs_eq : Stmt := inClass (top 61) 4
abbrev s_InvalidText_init : Stmt := inClass (top 11) 0
def fnD : List He.DefD := [dOf "is_integer" s_is_integer, dOf "is_count" s_is_count, dOf "is_list" s_is_list, dOf "divisor_of" s_divisor_of, dOf "is_number" s_is_number, dOf "ratio_of" s_ratio_of, dOf "wholes" s_wholes, dOf "want_columns" s_want_columns, dOf "is_row" s_is_row, dOf "told_row" s_told_row, dOf "is_letter_of" s_is_letter_of, dOf "is_word_of" s_is_word_of, dOf "put_more" s_put_more, dOf "sums_told" s_sums_told, dOf "parts_joined" s_parts_joined, dOf "is_word_part" s_is_word_part, dOf "is_term" s_is_term, dOf "is_term_part" s_is_term_part, dOf "term_length" s_term_length, dOf "is_step" s_is_step, dOf "are_steps" s_are_steps, dOf "told_step" s_told_step, dOf "is_lot" s_is_lot, dOf "count_told" s_count_told, dOf "integer_told" s_integer_told, dOf "number_told" s_number_told, dOf "letter_told" s_letter_told, dOf "word_told" s_word_told, dOf "numbers_told" s_numbers_told, dOf "row_told" s_row_told, dOf "step_of_two" s_step_of_two, dOf "step_told" s_step_told, dOf "word_part_told" s_word_part_told, dOf "term_part_told" s_term_part_told, dOf "lot_told" s_lot_told, dOf "head_told" s_head_told, dOf "want_lines" s_want_lines, dOf "read_word" s_read_word, dOf "read_table" s_read_table, dOf "read_program" s_read_program, dOf "read_tally" s_read_tally, dOf "read_form" s_read_form, dOf "read_runs" s_read_runs, dOf "_law_pot" s__law_pot, dOf "_law_draw" s__law_draw, dOf "_law_pick" s__law_pick, dOf "_law_letter" s__law_letter, dOf "_law_word" s__law_word, dOf "_law_term" s__law_term, dOf "_law_letter_words" s__law_letter_words, dOf "_law_word_words" s__law_word_words, dOf "_law_term_words" s__law_term_words, dOf "_law_count" s__law_count, dOf "_law_number" s__law_number, dOf "_law_numbers" s__law_numbers, dOf "_law_letter_of" s__law_letter_of, dOf "_law_word_of" s__law_word_of, dOf "_law_row_of" s__law_row_of, dOf "_law_step_of" s__law_step_of, dOf "_law_part_of" s__law_part_of, dOf "_law_term_of" s__law_term_of, dOf "_law_lot_of" s__law_lot_of, dOf "_law_line_of" s__law_line_of, dOf "_law_due" s__law_due, dOf "_law_thing" s__law_thing, dOf "_law_read" s__law_read, dOf "_law_text_right" s__law_text_right, dOf "_law_told" s__law_told, dOf "_law_told_row" s__law_told_row, dOf "_law_told_step" s__law_told_step, dOf "_law_told_line" s__law_told_line, dOf "_law_text" s__law_text, dOf "_law_bent" s__law_bent, dOf "_law_fixed_right" s__law_fixed_right, dOf "_law_right" s__law_right, dOf "law" s_law]
def fnM : List He.DefD := [mOf "Ratio" "__init__" "Ratio.__init__" s_Ratio_init [.int 1], mOf "Ratio" "__eq__" "Ratio.__eq__" s_Ratio_eq [], mOf "Table" "__init__" "Table.__init__" s_Table_init [], mOf "Table" "__eq__" "Table.__eq__" s_Table_eq [], mOf "Tally" "__init__" "Tally.__init__" s_Tally_init [], mOf "Tally" "__eq__" "Tally.__eq__" s_Tally_eq [], mOf "Form" "__init__" "Form.__init__" s_Form_init [], mOf "Form" "__eq__" "Form.__eq__" s_Form_eq [], mOf "Program" "__init__" "Program.__init__" s_Program_init [], mOf "Program" "__eq__" "Program.__eq__" s_Program_eq [], mOf "Runs" "__init__" "Runs.__init__" s_Runs_init [], mOf "Runs" "__eq__" "Runs.__eq__" s_Runs_eq [], mOf "InvalidText" "__init__" "InvalidText.__init__" s_InvalidText_init []]
def fn : List He.DefD := fnD ++ fnM
def faL : List He.Fa := [.glo "is_integer", .glo "is_count", .glo "is_list", .glo "divisor_of", .glo "is_number", .glo "ratio_of", .glo "wholes", .glo "want_columns", .glo "is_row", .glo "told_row", .glo "is_letter_of", .glo "is_word_of", .glo "put_more", .glo "sums_told", .glo "parts_joined", .glo "is_word_part", .glo "is_term", .glo "is_term_part", .glo "term_length", .glo "is_step", .glo "are_steps", .glo "told_step", .glo "is_lot", .glo "count_told", .glo "integer_told", .glo "number_told", .glo "letter_told", .glo "word_told", .glo "numbers_told", .glo "row_told", .glo "step_of_two", .glo "step_told", .glo "word_part_told", .glo "term_part_told", .glo "lot_told", .glo "head_told", .glo "want_lines", .glo "read_word", .glo "read_table", .glo "read_program", .glo "read_tally", .glo "read_form", .glo "read_runs", .glo "_law_pot", .glo "_law_draw", .glo "_law_pick", .glo "_law_letter", .glo "_law_word", .glo "_law_term", .glo "_law_letter_words", .glo "_law_word_words", .glo "_law_term_words", .glo "_law_count", .glo "_law_number", .glo "_law_numbers", .glo "_law_letter_of", .glo "_law_word_of", .glo "_law_row_of", .glo "_law_step_of", .glo "_law_part_of", .glo "_law_term_of", .glo "_law_lot_of", .glo "_law_line_of", .glo "_law_due", .glo "_law_thing", .glo "_law_read", .glo "_law_text_right", .glo "_law_told", .glo "_law_told_row", .glo "_law_told_step", .glo "_law_told_line", .glo "_law_text", .glo "_law_bent", .glo "_law_fixed_right", .glo "_law_right", .glo "law", .glo "Ratio", .glo "Table", .glo "Tally", .glo "Form", .glo "Program", .glo "Runs", .glo "InvalidText", .glo "SumsError", .free "len", .free "isinstance", .free "int", .free "bool", .free "list", .free "tuple", .free "str", .free "all", .free "any", .free "zip", .free "enumerate", .free "range", .free "sorted", .free "repr", .free "abs", .free "max", .free "divmod", .int "MOST_COLUMNS" 3, .int "MOST_ROWS" 40, .int "MOST_POWER" 8, .int "MOST_LETTERS" 8, .int "MOST_PARTS" 400, .int "MOST_STEPS" 200, .int "MOST_LOTS" 12, .int "MOST_TIMES" 1000000000000000000000000000000, .int "MOST_FIGURES" 400, .int "LOTS_READ" 12, .int "TIMES_READ" 1000000000000000000000000000000, .str "FIGURES" "0123456789", .cls "Ratio", .mkr "Ratio", .meth "Ratio" "__eq__", .cls "Table", .mkr "Table", .meth "Table" "__eq__", .cls "Tally", .mkr "Tally", .meth "Tally" "__eq__", .cls "Form", .mkr "Form", .meth "Form" "__eq__", .cls "Program", .mkr "Program", .meth "Program" "__eq__", .cls "Runs", .mkr "Runs", .meth "Runs" "__eq__", .noat "Ratio" "own_top", .noat "Ratio" "own_bottom", .noat "Table" "own_columns", .noat "Table" "own_rows", .noat "Tally" "own_columns", .noat "Tally" "own_parts", .noat "Tally" "own_kept", .noat "Form" "own_columns", .noat "Form" "own_parts", .noat "Program" "own_columns", .noat "Program" "own_steps", .noat "Runs" "own_columns", .noat "Runs" "own_lots", .exm "InvalidText" "InvalidText" true, .glo "ONE_WAY", .glo "TWO_WAY"]
/-- what isinstance asks of an own class; the error's class; tables; names of math -/
def isiB (K : PySem.W.Frag) (x : Str) : Bool := He.eqO (PySem.W.findIn K (.ref (He.ga K x)) "__class__") (some (some (.builtin "object.__class__"))) && (He.eqO (PySem.W.specialIn K (.builtin "object.__class__") "__get__") (some (some (.builtin "getset_descriptor.__get__"))) && (decide (PySem.W.takesIn K (.builtin "object.__class__") = some true) && decide (PySem.W.mroIn K (He.ga K x) (.type "object") = some true)))
def oexB (K : PySem.W.Frag) (C : Addr) : Bool := (match K.lookup C with
  | some ⟨.type "type", _, .cls cd, sl⟩ => (match cd.mro, sl.toList with
    | .ref C' :: bm, [_, _, _, _, some (.builtin n), _] => C' == C && n == "ValueError.__new__" && !cd.hasDel && cd.hasDict && PySem.HandSPX.refsVE bm
    | _, _ => false)
  | _ => false) && (He.eqO (PySem.W.findIn K (.ref C) "__setattr__") (some (some (.builtin "object.__setattr__"))) && (decide (PySem.W.subIn K (.ref C) (.type "BaseException") = some true) && (decide (PySem.W.typeIn K (.ref C) = some (.type "type")) && PySem.W.keepIn K (.ref C))))
def errB (K : PySem.W.Frag) (C : Addr) : Bool := He.eqO (PySem.W.findIn K (.ref C) "line") (some none) && (He.eqO (PySem.W.findIn K (.ref C) "__init__") (some (some (.ref (He.ma K C "__init__")))) && (decide (PySem.W.typeIn K (.ref (He.ma K C "__init__")) = some (.type "function")) && (PySem.W.hasDictIn K C && (He.eqO (PySem.W.findIn K (.ref C) "__getattribute__") (some (some (.builtin "BaseException.__getattribute__"))) && (He.eqO (PySem.W.findIn K (.ref C) "__getattr__") (some none) && (PySem.W.isFn K (.ref (He.ma K C "__init__")) && decide (PySem.W.kitOne K (.ref C) (.ref (He.ga K "SumsError")) = some true)))))))
def tupsB (K : PySem.W.Frag) : Bool := He.tupB K "ONE_WAY" [.str "ahead", .str "behind"] && He.tupB K "TWO_WAY" [.str "sum", .str "less", .str "times"]
def mathB (K : PySem.W.Frag) : Bool := He.eqO (PySem.W.nsIn K mainGlobals "gcd") (some (some (.builtin "math.gcd"))) && He.eqO (PySem.W.nsIn K mainGlobals "lcm") (some (some (.builtin "math.lcm")))
def kitB (K : PySem.W.Frag) : Bool := decide (PySem.W.kitOne K (.ref (He.ga K "Ratio")) (.type "int") = some false) && decide (PySem.W.kitOne K (.type "NoneType") (.ref (He.ga K "Ratio")) = some false)
def moreB (K : PySem.W.Frag) : List Bool := [isiB K "Ratio", isiB K "Table", isiB K "Tally", isiB K "Form", isiB K "Program", isiB K "Runs", oexB K (He.ga K "InvalidText"), errB K (He.ga K "InvalidText"), tupsB K, mathB K, kitB K, isiB K "InvalidText"]
/-- the objects that the facts look at -/
def asL : List Addr := [3, 58, 59, 201, 202, 204, 205, 213, 214, 220, 221, 227, 228, 241, 242, 250, 256, 257, 382, 383, 399, 400, 417, 418, 424, 425, 429, 430, 436, 437, 441, 442, 446, 447, 458, 459, 486, 487, 489, 490, 498, 499, 503, 504, 510, 511, 515, 516, 520, 521, 527, 528, 539, 540, 569, 570, 572, 573, 583, 584, 590, 591, 602, 603, 632, 633, 635, 636, 646, 647, 648, 649, 653, 654, 658, 659, 665, 666, 677, 678, 699, 700, 702, 703, 713, 714, 725, 726, 750, 751, 753, 754, 762, 763, 769, 770, 776, 777, 781, 782, 786, 787, 791, 792, 798, 799, 803, 804, 808, 809, 815, 816, 822, 823, 829, 830, 836, 837, 843, 844, 850, 851, 857, 858, 864, 865, 871, 872, 878, 879, 885, 886, 892, 893, 899, 900, 906, 907, 913, 914, 920, 921, 927, 928, 932, 933, 937, 938, 944, 945, 949, 950, 954, 955, 959, 960, 964, 965, 969, 970, 976, 977, 981, 982, 988, 989, 995, 996, 1002, 1003, 1009, 1010, 1016, 1017, 1023, 1024, 1030, 1031, 1037, 1038, 1044, 1045, 1051, 1052, 1058, 1059, 1065, 1066, 1072, 1073, 1079, 1080, 1084, 1085, 1091, 1092, 1098, 1099]
abbrev AlD : Type := Bool × List He.FnW
def obsK (K : PySem.W.Frag) : AlD := ((faL.all fun f => f.ok K) && ((fn.all fun d => d.ok K) && (moreB K).all id), fn.map fun d => He.fnW K d.at_)
def valK : AlD := (true, fn.map He.DefD.val)
def Says (K : PySem.W.Frag) : Prop := obsK K = valK
def obsG (g : Addr → Option Obj) : AlD := obsK (He.frG g asL)
def hk : PySem.W.Hook where
  α := AlD
  obs := fun s => obsG s.heap.get?
  val := fun _ => valK
  says := fun _ h => ∃ K : PySem.W.Frag, K.In h ∧ Says K
  of := fun _ _ e => ⟨_, He.frG_in, e⟩
  keeps := fun _ _ _ ⟨K, hK, c⟩ k => ⟨K, PySem.W.Frag.In.keeps hK k, c⟩
def ob (s : PySem.W.SharedT) : AlD := obsG (HeadRun.getT s)
theorem ob_eq (s : PySem.W.SharedT) : ob s = hk.obs s.abs := by
  have e : HeadRun.getT s = s.abs.heap.get? := funext (HeadRun.getT_eq s)
  unfold ob
  rw [e] <;> rfl
def names : List PySem.Str := (R.prog.main.scope.names.map (·.1)).filter fun x => x != ("law" : PySem.Str) && x != ("__name__" : PySem.Str)
abbrev q : Program := PySem.W.view R.prog [0, 120]
end Ag
set_option Elab.async false
set_option linter.all false
set_option maxRecDepth 100000
set_option maxHeartbeats 0
namespace Ag
open PySem PySem.W HeadRun
theorem run_ob (w : World) : ((wholeF (fun p => stepQ (denQ tabQ) p w) fenceQ 8600 R.prog).map (fun x => ob x.2)) = some valK := by
  kernel_rfl
theorem run_seen (w : World) : ((wholeF (fun p => stepQ (denQ tabQ) p w) fenceQ 8600 R.prog).map (fun x => (looksF R.prog x.1.heap x.2.abs, seenQ q names (importedModules R.prog.main.body) (fun s => xlAt q [] s && recOk R.toRowW.records s) x.2.abs))) = some (true, openGood q names) := by
  kernel_rfl
theorem map_two {α β γ δ : Type} {o : Option α} {f : α → β} {g : α → γ} {h : α → δ} {a : β} {b : γ} {c : δ} (e1 : o.map (fun x => (f x, g x)) = some (a, b)) (e2 : o.map h = some c) : o.map (fun x => (f x, g x, h x)) = some (a, b, c) := by
  cases o with
  | none => cases e1
  | some x =>
    simp only [Option.map_some, Option.some.injEq, Prod.mk.injEq] at e1 e2 ⊢
    exact ⟨e1.1, e1.2, e2⟩
theorem run (w : World) : RunEqI R q hk ob 8600 names w := map_two (run_seen w) (run_ob w)
end Ag
set_option Elab.async false
set_option linter.all false
set_option maxRecDepth 100000
set_option maxHeartbeats 0
namespace Ag
open PySem PySem.W PyProof.Rows
theorem fin
    (F : ∀ (w : World) (mg : PySem.Str → Option Value) (fa : Addr) (h : Heap), (∃ K : PySem.W.Frag, K.In h ∧ Says K) → h.Ns mainGlobals mg → mg ("law" : PySem.Str) = some (.ref fa) →
      ∃ (K : PySem.W.Frag) (fd : FuncData) (sp : L2.Sp), K.In h ∧ (∀ (s : Shared) (u : Value), BindsTo s fd ⟨[u], []⟩ [("_law_script", u)]) ∧
        (∀ (H : L2.Hp) (a : Addr) (ns : List Int), ns.length ≤ 63 → L2.Only H → L2.SqL K H a (ns.map L2.V.int) → sp [.ref a] H (fun v _ => v = .bl true) fun _ _ _ => False) ∧
        ∀ base : Heap, K.In base → base.Ns mainGlobals mg → L2.FnOk PySem.Challenge.rw_aheadsums_k91_whole_wrong_lines.prog w K mg base L2.CX0 60 fa fd ["_law_script"] sp) :
    PySem.Challenge.rw_aheadsums_k91_whole_wrong_lines.Holds := by
  w_on; o_law
  refine HeadRun.head_imp (r := R) (q := q) (H := hk) (ob := ob) (M := 8600) (loose := names) (d := HandSHeadRun.topDef R.prog 120) (kwd := []) ob_eq run
    (by kernel_rfl) (by kernel_rfl) (by kernel_rfl) (by rfl) (by first | assumption | decide +kernel) (by decide +kernel) ⟨rfl, rfl, rfl, rfl, rfl, by decide +kernel⟩ ?hw ?hc
  case hw => w_witness2
  case hc =>
    refine L2.walk_ofE (l := PySem.Challenge.rw_aheadsums_k91_whole_wrong_lines) (n := 63) (k := 60) (x := "_law_script") (CX := L2.CX0) rfl (by decide) (by kernel_rfl) ⟨rfl, by decide, by decide⟩ ?F (fun _ _ _ _ z => z)
    intro w mg fa h Y G hmg0
    have hmg : mg ("law" : PySem.Str) = some (.ref fa) := by
      have e : (HandSHeadRun.topDef R.prog 120).name = ("law" : PySem.Str) := by kernel_rfl
      rw [← e]
      exact hmg0
    exact F w mg fa h Y G hmg
end Ag
set_option Elab.async false
set_option linter.all false
set_option autoImplicit false
set_option maxRecDepth 100000
set_option maxHeartbeats 1000000
namespace Ag
open PySem PySem.Spec L2 TL
inductive Cl where
  | ratio | table | tally | form | program | runs
  deriving DecidableEq
def Cl.nm : Cl → Str
  | .ratio => "Ratio" | .table => "Table" | .tally => "Tally" | .form => "Form" | .program => "Program" | .runs => "Runs"
def Cl.flds : Cl → List Str
  | .ratio => ["own_top", "own_bottom"]
  | .table => ["own_columns", "own_rows"]
  | .tally => ["own_columns", "own_parts", "own_kept"]
  | .form => ["own_columns", "own_parts"]
  | .program => ["own_columns", "own_steps"]
  | .runs => ["own_columns", "own_lots"]
/-- a value with all that it holds -/
inductive D where
  | non | bl (b : Bool) | int (i : Int) | str (s : Str) | tup (ds : List D) | lst (ds : List D) | ins (c : Cl) (fs : List D)
  /-- a dict with nothing in it; what is only handed on -/
  | emp | obj (a : Addr)
/-- the longest text that is spoken of -/
def sL : Nat := 1000000
theorem sL_line : sL < sizeLine := by rw [sizeLine_eq]; decide
/-- a text that is spoken of: not too long, its signs signs -/
structure OkS (s : Str) : Prop where
  len : s.length ≤ sL
  ok : PyData.strOk s = true
def okB (s : Str) : Bool := decide (s.length ≤ sL) && PyData.strOk s
theorem okB_ok {s : Str} (h : okB s = true) : OkS s := ⟨of_decide_eq_true (Bool.and_eq_true_iff.mp h).1, (Bool.and_eq_true_iff.mp h).2⟩
theorem strOk_iff {s : Str} : PyData.strOk s = true ↔ ∀ c ∈ s.cps.toList, c < 0x110000 := by
  unfold PyData.strOk
  rw [Array.all_eq_true']
  simp only [decide_eq_true_eq, Array.mem_toList_iff]
theorem OkS.mk' {s : Str} (h : s.length ≤ sL) (k : ∀ c ∈ s.cps.toList, c < 0x110000) : OkS s := ⟨h, strOk_iff.mpr k⟩
theorem OkS.sub {s t : Str} (h : OkS s) (hl : t.length ≤ s.length) (hm : ∀ c ∈ t.cps.toList, c ∈ s.cps.toList) : OkS t :=
  .mk' (Nat.le_trans hl h.len) fun c hc => strOk_iff.mp h.ok c (hm c hc)
theorem OkS.app {s t : Str} (h : OkS s) (k : OkS t) (hl : s.length + t.length ≤ sL) : OkS (s ++ t) := by
  refine .mk' (by rw [PySem.Str.length_append]; exact hl) fun c hc => ?_
  rw [PySem.Str.cps_append, Array.toList_append] at hc
  rcases List.mem_append.mp hc with hc | hc
  · exact strOk_iff.mp h.ok c hc
  · exact strOk_iff.mp k.ok c hc
mutual
inductive Rep (K : PySem.W.Frag) (H : Hp) : V → D → Prop where
  | non : Rep K H .non .non
  | bl (b : Bool) : Rep K H (.bl b) (.bl b)
  | int (i : Int) : Rep K H (.int i) (.int i)
  | str (s : Str) (h : OkS s) : Rep K H (.str s) (.str s)
  | tup {a : Addr} {vs : List V} {ds : List D} (h : SqT K H a vs) (r : Reps K H vs ds) : Rep K H (.ref a) (.tup ds)
  | lst {a : Addr} {vs : List V} {ds : List D} (h : H a = some (.lst vs)) (r : Reps K H vs ds) : Rep K H (.ref a) (.lst ds)
  | ins {a dx : Addr} {fs : List (Str × V)} {c : Cl} {ds : List D} (h : H a = some (.ins (He.ga K c.nm) dx fs)) (hn : fs.map (·.1) = c.flds) (r : Reps K H (fs.map (·.2)) ds) : Rep K H (.ref a) (.ins c ds)
  | emp {a : Addr} (h : H a = some (.dK [])) : Rep K H (.ref a) .emp
  | obj (a : Addr) : Rep K H (.ref a) (.obj a)
inductive Reps (K : PySem.W.Frag) (H : Hp) : List V → List D → Prop where
  | nil : Reps K H [] []
  | cons {v : V} {d : D} {vs : List V} {ds : List D} (h : Rep K H v d) (r : Reps K H vs ds) : Reps K H (v :: vs) (d :: ds)
end
section
variable {K : PySem.W.Frag} {H H' : Hp} {v : V} {d : D} {vs ws : List V} {ds es : List D}
mutual
theorem Rep.ext (e : Ext H H') : ∀ {v : V} {d : D}, Rep K H v d → Rep K H' v d
  | _, _, .non => .non
  | _, _, .bl b => .bl b
  | _, _, .int i => .int i
  | _, _, .str s h => .str s h
  | _, _, .tup h r => .tup (h.ext e) (Reps.ext e r)
  | _, _, .lst h r => .lst (e _ _ h) (Reps.ext e r)
  | _, _, .ins h hn r => .ins (e _ _ h) hn (Reps.ext e r)
  | _, _, .emp h => .emp (e _ _ h)
  | _, _, .obj a => .obj a
theorem Reps.ext (e : Ext H H') : ∀ {vs : List V} {ds : List D}, Reps K H vs ds → Reps K H' vs ds
  | _, _, .nil => .nil
  | _, _, .cons h r => .cons (Rep.ext e h) (Reps.ext e r)
end
theorem Reps.length : ∀ {vs : List V} {ds : List D}, Reps K H vs ds → vs.length = ds.length
  | _, _, .nil => rfl
  | _, _, .cons _ r => congrArg (· + 1) (Reps.length r)
theorem Reps.get : ∀ {vs : List V} {ds : List D} {i : Nat} {d : D}, Reps K H vs ds → ds[i]? = some d → ∃ v, vs[i]? = some v ∧ Rep K H v d
  | _, _, _, _, .nil, e => by simp at e
  | _, _, 0, _, .cons h _, e => by simp at e; subst e; exact ⟨_, rfl, h⟩
  | _, _, i + 1, d, .cons _ r, e => by
    obtain ⟨v, h1, h2⟩ := Reps.get (i := i) (d := d) r (by simpa using e)
    exact ⟨v, by simpa using h1, h2⟩
theorem Reps.getV : ∀ {vs : List V} {ds : List D} {i : Nat} {v : V}, Reps K H vs ds → vs[i]? = some v → ∃ d, ds[i]? = some d ∧ Rep K H v d
  | _, _, _, _, .nil, e => by simp at e
  | _, _, 0, _, .cons h _, e => by simp at e; subst e; exact ⟨_, rfl, h⟩
  | _, _, i + 1, v, .cons _ r, e => by
    obtain ⟨d, h1, h2⟩ := Reps.getV (i := i) (v := v) r (by simpa using e)
    exact ⟨d, by simpa using h1, h2⟩
theorem Reps.append : ∀ {vs ws : List V} {ds es : List D}, Reps K H vs ds → Reps K H ws es → Reps K H (vs ++ ws) (ds ++ es)
  | _, _, _, _, .nil, s => s
  | _, _, _, _, .cons h r, s => .cons h (Reps.append r s)
theorem Reps.take : ∀ {vs : List V} {ds : List D} (n : Nat), Reps K H vs ds → Reps K H (vs.take n) (ds.take n)
  | _, _, 0, _ => .nil
  | _, _, _ + 1, .nil => .nil
  | _, _, n + 1, .cons h r => .cons h (Reps.take n r)
theorem Reps.drop : ∀ {vs : List V} {ds : List D} (n : Nat), Reps K H vs ds → Reps K H (vs.drop n) (ds.drop n)
  | _, _, 0, r => r
  | _, _, _ + 1, .nil => .nil
  | _, _, n + 1, .cons _ r => Reps.drop n r
theorem Reps.strs : ∀ {ss : List Str}, (∀ s ∈ ss, OkS s) → Reps K H (ss.map V.str) (ss.map D.str)
  | [], _ => .nil
  | s :: r, h => .cons (.str s (h s List.mem_cons_self)) (Reps.strs fun t ht => h t (List.mem_cons_of_mem _ ht))
/-- inversions -/
theorem Rep.of_non (r : Rep K H v .non) : v = .non := by cases r; rfl
theorem Rep.of_bl {b : Bool} (r : Rep K H v (.bl b)) : v = .bl b := by cases r; rfl
theorem Rep.of_int {i : Int} (r : Rep K H v (.int i)) : v = .int i := by cases r; rfl
theorem Rep.of_str {s : Str} (r : Rep K H v (.str s)) : v = .str s ∧ OkS s := by cases r; exact ⟨rfl, by assumption⟩
theorem Rep.of_tup {ds : List D} (r : Rep K H v (.tup ds)) : ∃ a vs, v = .ref a ∧ SqT K H a vs ∧ Reps K H vs ds := by
  cases r with
  | tup h r => exact ⟨_, _, rfl, h, r⟩
theorem Rep.of_lst {ds : List D} (r : Rep K H v (.lst ds)) : ∃ a vs, v = .ref a ∧ H a = some (.lst vs) ∧ Reps K H vs ds := by
  cases r with
  | lst h r => exact ⟨_, _, rfl, h, r⟩
theorem Rep.of_ins {c : Cl} {ds : List D} (r : Rep K H v (.ins c ds)) : ∃ a dx fs, v = .ref a ∧ H a = some (.ins (He.ga K c.nm) dx fs) ∧ fs.map (·.1) = c.flds ∧ Reps K H (fs.map (·.2)) ds := by
  cases r with
  | ins h hn r => exact ⟨_, _, _, rfl, h, hn, r⟩
theorem Rep.of_obj {a : Addr} (r : Rep K H v (.obj a)) : v = .ref a := by cases r; rfl
theorem lookup_zipF {f : Str} {d : D} : ∀ {fs : List (Str × V)} {ns : List Str} {ds : List D}, fs.map (·.1) = ns → Reps K H (fs.map (·.2)) ds → (ns.zip ds).lookup f = some d → ∃ v, fs.lookup f = some v ∧ Rep K H v d
  | [], ns, ds, hn, r, e => by
    have hn' : ns = [] := hn.symm
    subst hn'
    cases e
  | (n, v) :: fs, ns, ds, hn, r, e => by
    subst hn
    cases r with
    | cons h r =>
      have e' : (match f == n with | true => some _ | false => ((fs.map (·.1)).zip _).lookup f) = some d := e
      cases q : f == n with
      | true =>
        rw [q] at e'
        have e2 := Option.some.inj e'
        subst e2
        exact ⟨v, by show (match f == n with | true => some v | false => fs.lookup f) = some v; rw [q], h⟩
      | false =>
        rw [q] at e'
        obtain ⟨u, h1, h2⟩ := lookup_zipF rfl r e'
        exact ⟨u, by show (match f == n with | true => some v | false => fs.lookup f) = some u; rw [q]; exact h1, h2⟩
end
/-! ### what is asked and given, by data -/
abbrev DEnv := List (Option D)
structure EnvR (K : PySem.W.Frag) (G : Hp) (σ : L2.St) (Γ : DEnv) : Prop where
  len : Γ.length ≤ σ.length
  get : ∀ (i : Nat) (d : D), Γ[i]? = some (some d) → ∃ v, σ[i]? = some (some v) ∧ Rep K G v d
theorem EnvR.ext {K : PySem.W.Frag} {H H' : Hp} {σ : L2.St} {Γ : DEnv} (e : Ext H H') (r : EnvR K H σ Γ) : EnvR K H' σ Γ := ⟨r.len, fun i d h => let ⟨v, h1, h2⟩ := r.get i d h; ⟨v, h1, h2.ext e⟩⟩
theorem EnvR.set {K : PySem.W.Frag} {H : Hp} {σ : L2.St} {Γ : DEnv} (r : EnvR K H σ Γ) (i : Nat) {v : V} {d : D} (h : Rep K H v d) : EnvR K H (σ.set i (some v)) (Γ.set i (some d)) := by
  refine ⟨by simpa using r.len, fun j e hj => ?_⟩
  by_cases q : i = j
  · subst q
    by_cases hl : i < Γ.length
    · rw [List.getElem?_set_self hl] at hj
      cases hj
      exact ⟨v, List.getElem?_set_self (Nat.lt_of_lt_of_le hl r.len), h⟩
    · rw [List.getElem?_eq_none (by simpa using hl)] at hj
      cases hj
  · rw [List.getElem?_set_ne q] at hj
    obtain ⟨u, h1, h2⟩ := r.get j e hj
    exact ⟨u, by rw [List.getElem?_set_ne q]; exact h1, h2⟩
/-- G, a part of H that does not change any more, has grown by what was new; H has grown -/
structure Grow (G H G' H' : Hp) : Prop where
  ext : Ext H H'
  g : Ext G G'
  sub : Ext G' H'
  fresh : ∀ b o, G' b = some o → G b = some o ∨ H b = none
section
variable {G H G1 H1 G2 H2 H' : Hp}
theorem Grow.rfl' (s : Ext G H) : Grow G H G H := ⟨Ext.rfl', Ext.rfl', s, fun _ _ h => .inl h⟩
theorem Grow.same (s : Ext G H) (e : Ext H H') : Grow G H G H' := ⟨e, Ext.rfl', s.trans e, fun _ _ h => .inl h⟩
theorem Ext.back {b : Addr} (e : Ext H H') (h : H' b = none) : H b = none := by
  cases q : H b with
  | none => rfl
  | some o => rw [e b o q] at h; cases h
theorem Grow.trans (a : Grow G H G1 H1) (b : Grow G1 H1 G2 H2) : Grow G H G2 H2 :=
  ⟨a.ext.trans b.ext, a.g.trans b.g, b.sub, fun x o h => (b.fresh x o h).elim (fun h => a.fresh x o h) fun h => .inr (Ext.back a.ext h)⟩
theorem Grow.new (s : Ext G H) {p : Addr} {o : HO} (h : H p = none) : Grow G H (upd G p o) (upd H p o) := by
  refine ⟨Ext.upd h, Ext.upd (Ext.back s h), fun a u e => ?_, fun b u e => ?_⟩
  · by_cases q : a = p
    · subst q
      rw [upd_same] at e ⊢
      exact e
    · rw [upd_ne q] at e ⊢
      exact s a u e
  · by_cases q : b = p
    · subst q
      exact .inr h
    · rw [upd_ne q] at e
      exact .inl e
end
def rdE (K : PySem.W.Frag) (f : DEnv → Option D) : TE := fun σ H Q => ∃ G Γ d, Ext G H ∧ EnvR K G σ Γ ∧ f Γ = some d ∧ ∀ v G' H', Grow G H G' H' → Rep K G' v d → Q v H'
def rdT (K : PySem.W.Frag) (f : DEnv → Option Bool) : TT := fun σ H Q => ∃ G Γ b, Ext G H ∧ EnvR K G σ Γ ∧ f Γ = some b ∧ ∀ G' H', Grow G H G' H' → Q b H'
def rdA (K : PySem.W.Frag) (f : DEnv → Option (List D)) : TA := fun σ H Q => ∃ G Γ ds, Ext G H ∧ EnvR K G σ Γ ∧ f Γ = some ds ∧ ∀ vs G' H', Grow G H G' H' → Reps K G' vs ds → Q vs H'
section
variable {X : Cx} {e : Expr} {es : List Expr}
theorem pe_imp {t t' : TE} (h : PE X e t) (w : ∀ σ H Q, t' σ H Q → t σ H Q) : PE X e t' := ⟨fun pins s σ H Q I q => h.run pins s σ H Q I (w σ H Q q)⟩
theorem pt_imp {t t' : TT} (h : PT X e t) (w : ∀ σ H Q, t' σ H Q → t σ H Q) : PT X e t' := ⟨fun pins s σ H Q I q => h.run pins s σ H Q I (w σ H Q q)⟩
theorem pw_imp {t t' : TT} (h : PW X e t) (w : ∀ σ H Q, t' σ H Q → t σ H Q) : PW X e t' := ⟨fun wh pins s σ H Q I q => h.run wh pins s σ H Q I (w σ H Q q)⟩
theorem pa_imp {t t' : TA} (h : PA X es t) (w : ∀ σ H Q, t' σ H Q → t σ H Q) : PA X es t' := ⟨fun pos pins s σ H Q I q => h.run pos pins s σ H Q I (w σ H Q q)⟩
theorem ps_imp {st : Stmt} {t t' : TS} (h : PS X st t) (w : ∀ D σ H, t' D σ H → t D σ H) : PS X st t' := ⟨fun pins s σ H D I q => h.run pins s σ H D I (w D σ H q)⟩
theorem pss_imp {st : List Stmt} {t t' : TS} (h : PSs X st t) (w : ∀ D σ H, t' D σ H → t D σ H) : PSs X st t' := ⟨fun pins s σ H D I q => h.run pins s σ H D I (w D σ H q)⟩
theorem pe_none {f : DEnv → Option D} (h : ∀ Γ, f Γ = none) : PE X e (rdE X.K f) := ⟨fun _ _ _ _ _ _ ⟨_, Γ, d, _, _, h1, _⟩ => by rw [h Γ] at h1; cases h1⟩
theorem pt_none {f : DEnv → Option Bool} (h : ∀ Γ, f Γ = none) : PT X e (rdT X.K f) := ⟨fun _ _ _ _ _ _ ⟨_, Γ, d, _, _, h1, _⟩ => by rw [h Γ] at h1; cases h1⟩
theorem pw_none {f : DEnv → Option Bool} (h : ∀ Γ, f Γ = none) : PW X e (rdT X.K f) := ⟨fun _ _ _ _ _ _ _ ⟨_, Γ, d, _, _, h1, _⟩ => by rw [h Γ] at h1; cases h1⟩
theorem pa_none {f : DEnv → Option (List D)} (h : ∀ Γ, f Γ = none) : PA X es (rdA X.K f) := ⟨fun _ _ _ _ _ _ _ ⟨_, Γ, d, _, _, h1, _⟩ => by rw [h Γ] at h1; cases h1⟩
end
end Ag
set_option Elab.async false
set_option linter.all false
set_option autoImplicit false
set_option maxRecDepth 100000
set_option maxHeartbeats 1000000
namespace Ag
open PySem PySem.Spec L2 TL
def D.allStr : List D → Option (List Str)
  | [] => some []
  | .str s :: r => (D.allStr r).map (s :: ·)
  | _ :: _ => none
theorem allStr_eq : ∀ {ds : List D} {ss : List Str}, D.allStr ds = some ss → ds = ss.map D.str
  | [], ss, h => by cases h; rfl
  | .str s :: r, ss, h => by
    have h2 : (D.allStr r).map (s :: ·) = some ss := h
    cases e : D.allStr r with
    | none => rw [e] at h2; cases h2
    | some t =>
      rw [e] at h2
      cases h2
      rw [allStr_eq e]
      rfl
  | .non :: _, _, h => by cases h
  | .bl _ :: _, _, h => by cases h
  | .int _ :: _, _, h => by cases h
  | .tup _ :: _, _, h => by cases h
  | .lst _ :: _, _, h => by cases h
  | .ins _ _ :: _, _, h => by cases h
theorem reps_strs {K : PySem.W.Frag} {H : Hp} : ∀ {ss : List Str} {vs : List V}, Reps K H vs (ss.map D.str) → vs = ss.map V.str ∧ ∀ s ∈ ss, OkS s
  | [], _, r => by cases r; exact ⟨rfl, fun _ h => nomatch h⟩
  | s :: ss, _, r => by
    cases r with
    | cons h r =>
      obtain ⟨rfl, hs⟩ := h.of_str
      obtain ⟨rfl, ht⟩ := reps_strs r
      exact ⟨rfl, fun t m => (List.mem_cons.mp m).elim (fun e => e ▸ hs) (ht t)⟩
/-- text, k times -/
def repS (x : Str) (k : Nat) : Str := ⟨(List.replicate k x.cps).foldl (· ++ ·) #[]⟩
theorem repS_len (x : Str) (k : Nat) : (repS x k).length = k * x.length := by
  have key : ∀ (k : Nat) (acc : Array Nat), ((List.replicate k x.cps).foldl (· ++ ·) acc).size = acc.size + k * x.cps.size := by
    intro k
    induction k with
    | zero => intro acc; simp
    | succ k ih =>
      intro acc
      rw [List.replicate_succ, List.foldl_cons, ih, Array.size_append, Nat.succ_mul]
      omega
  show ((List.replicate k x.cps).foldl (· ++ ·) #[]).size = k * x.cps.size
  rw [key]
  simp
def smallI (i : Int) : Bool := decide (-(2 ^ 64) < i) && decide (i < 2 ^ 64)
def binD : Operator → D → D → Option D
  | .Add, .int i, .int j => some (.int (i + j))
  | .Add, .str a, .str b => if a.length + b.length ≤ sL then some (.str (a ++ b)) else none
  | .Add, .lst a, .lst b => if a.length + b.length ≤ sL then some (.lst (a ++ b)) else none
  | .Add, .tup a, .tup b => if a.length + b.length ≤ sL ∧ a.isEmpty = false then some (.tup (a ++ b)) else none
  | .Sub, .int i, .int j => some (.int (i - j))
  | .Mult, .int i, .int j => if i.natAbs.log2 + j.natAbs.log2 < 1000000 then some (.int (i * j)) else none
  | .FloorDiv, .int i, .int j => if 0 < j ∧ j.natAbs.log2 < 9000 then some (.int (i / j)) else none
  | .Mult, .str a, .int j => if 2 ≤ j ∧ j ≤ 1000 ∧ 0 < a.length ∧ a.length ≤ 1000 then some (.str (repS a j.toNat)) else none
  | .Pow, .int i, .int j => if 0 ≤ j ∧ j ≤ 1000 ∧ smallI i then some (.int (i ^ j.toNat)) else none
  | _, _, _ => none
def rBin (K : PySem.W.Frag) (g : D → D → Option D) : R2 := fun x y H Q => ∃ G dx dy d, Ext G H ∧ Rep K G x dx ∧ Rep K G y dy ∧ g dx dy = some d ∧ ∀ v G' H', Grow G H G' H' → Rep K G' v d → Q v H'
section
variable {X : Cx}
theorem str_app_rep {K : PySem.W.Frag} {H : Hp} {a b : Str} (ha : OkS a) (hb : OkS b) (h : a.length + b.length ≤ sL) : Rep K H (.str (a ++ b)) (.str (a ++ b)) := .str _ (ha.app hb h)
theorem repS_mem (x : Str) (k : Nat) : ∀ c ∈ (repS x k).cps.toList, c ∈ x.cps.toList := by
  have key : ∀ (k : Nat) (acc : Array Nat) (c : Nat), c ∈ ((List.replicate k x.cps).foldl (· ++ ·) acc).toList → c ∈ acc.toList ∨ c ∈ x.cps.toList := by
    intro k
    induction k with
    | zero => intro acc c h; exact .inl (by simpa using h)
    | succ k ih =>
      intro acc c h
      rw [List.replicate_succ, List.foldl_cons] at h
      rcases ih _ c h with h | h
      · rw [Array.toList_append] at h
        exact List.mem_append.mp h
      · exact .inr h
  intro c h
  rcases key k #[] c h with h | h
  · exact absurd h (by simp)
  · exact h
theorem bin_int {op : Operator} {g : Int → Int → Int} {C : Int → Int → Prop} (h : OpR X (binaryOp op) (rI C fun i j => .int (g i j))) {i j : Int} {x y : V} {v u : Value} {pins : List (Addr × Obj)} {s : Shared} {σ : L2.St} {H G : Hp} {Q : VK}
    (I : Inv X pins σ H s) (hs : Ext G H) (rx : RelV x v) (ry : RelV y u) (hx : Rep X.K G x (.int i)) (hy : Rep X.K G y (.int j)) (hc : C i j) (hq : ∀ v G' H', Grow G H G' H' → Rep X.K G' v (.int (g i j)) → Q v H') :
    wpAny (model X.prog X.w) X.A (binaryOp op v u) (EP X pins σ Q) X.xe s := by
  rw [hx.of_int] at rx
  rw [hy.of_int] at ry
  exact h pins s σ H _ _ v u Q I rx ry ⟨i, j, rfl, rfl, hc, hq _ G H (Grow.rfl' hs) (.int _)⟩
theorem op_mulS {a : Str} {j : Int} (ho : OkS a) (h2 : 2 ≤ j) (h3 : j ≤ 1000) (h4 : 0 < a.length) (h5 : a.length ≤ 1000) {v u : Value} {pins : List (Addr × Obj)} {s : Shared} {σ : L2.St} {H G : Hp} {Q : VK} (I : Inv X pins σ H s) (hs : Ext G H) (rx : RelV (.str a) v) (ry : RelV (.int j) u)
    (hq : ∀ v G' H', Grow G H G' H' → Rep X.K G' v (.str (repS a j.toNat)) → Q v H') : wpAny (model X.prog X.w) X.A (binaryOp .Mult v u) (EP X pins σ Q) X.xe s := by
  obtain ⟨t, rfl⟩ := rx
  obtain ⟨t', rfl⟩ := ry
  have hn : ¬ j < 1 := by omega
  have hlen : (repS a j.toNat).length ≤ sL := by
    rw [repS_len]
    have h6 : j.toNat ≤ 1000 := by omega
    have h7 : j.toNat * a.length ≤ 1000 * 1000 := Nat.mul_le_mul h6 h5
    unfold sL
    omega
  have hl2 := hlen
  rw [repS_len] at hl2
  have hl3 : a.length * j.toNat ≤ sL := by rw [Nat.mul_comm]; exact hl2
  have sl := sL_line
  have e10 : (j == 1 || a.length == 0) = false := by
    have e1 : (j == 1) = false := by
      rw [beq_eq_false_iff_ne]
      omega
    have e2 : (a.length == 0) = false := by
      rw [beq_eq_false_iff_ne]
      omega
    rw [e1, e2]
    rfl
  refine PySem.P.mul_str ?_ (fun _ _ => ?_) (fun _ _ => ?_) ?_
  · have e1 : decide (j < -(2 ^ 63 : Int)) = false := decide_eq_false (by omega)
    have e2 : decide (j ≥ 2 ^ 63) = false := decide_eq_false (by omega)
    rw [e1, e2]
    rfl
  · have h9 : (9223372036854775807 : Int) / 1000 ≤ (9223372036854775807 : Int) / j := by
      refine Int.le_ediv_of_mul_le (by omega) ?_
      have : (9223372036854775807 : Int) / 1000 * j ≤ (9223372036854775807 : Int) / 1000 * 1000 := Int.mul_le_mul_of_nonneg_left h3 (by decide)
      refine Int.le_trans this (by decide)
    have e63 : ((2 : Int) ^ 63 - 1) = 9223372036854775807 := by decide
    rw [e63]
    have : (a.length : Int) ≤ 1000 := by omega
    have e5 : (9223372036854775807 : Int) / 1000 = 9223372036854775 := by decide
    omega
  · unfold Builtin.Str.tooLong
    first
      | exact decide_eq_false (by omega)
      | (rw [decide_eq_false]; omega)
  · rw [if_neg hn, if_neg (by rw [e10]; decide)]
    refine ⟨?_, ?_⟩
    · have := hl2
      show (repS a j.toNat).length ≤ _
      omega
    · exact ⟨.str (repS a j.toNat), H, I.tok _, ⟨_, rfl⟩, hq _ G H (Grow.rfl' hs) (.str _ (.mk' hlen fun c hc => strOk_iff.mp ho.ok c (repS_mem a _ c hc)))⟩
theorem op_bin (op : Operator) : OpR X (binaryOp op) (rBin X.K (binD op)) := by
  intro pins s σ H x y v u Q I rx ry ⟨G, dx, dy, d, hs, hx, hy, hg, hq⟩
  unfold binD at hg
  split at hg
  · cases hg
    exact bin_int (C := fun _ _ => True) (g := fun i j => i + j) (fun pins s σ H x y v u Q I rx ry ⟨i, j, e1, e2, _, q⟩ => op_add pins s σ H x y v u Q I rx ry ⟨i, j, e1, e2, q⟩) I hs rx ry hx hy True.intro hq
  · split at hg
    · rename_i hl
      cases hg
      obtain ⟨ex, ox⟩ := hx.of_str
      obtain ⟨ey, oy⟩ := hy.of_str
      subst ex ey
      exact op_add_str pins s σ H _ _ v u Q I rx ry ⟨_, _, rfl, rfl, Nat.le_of_lt (Nat.lt_of_le_of_lt hl sL_line), hq _ G H (Grow.rfl' hs) (str_app_rep ox oy hl)⟩
    · cases hg
  · split at hg
    · rename_i hl
      cases hg
      obtain ⟨p, xs, ex, hp, r1⟩ := hx.of_lst
      obtain ⟨q', ys, ey, hq', r2⟩ := hy.of_lst
      subst ex ey
      refine op_cat pins s σ H _ _ v u Q I rx ry ⟨p, q', xs, ys, rfl, rfl, hs _ _ hp, hs _ _ hq', ?_, fun l hl => ?_⟩
      · rw [r1.length, r2.length]
        exact Nat.le_of_lt (Nat.lt_of_le_of_lt (by assumption) sL_line)
      · exact hq _ _ _ (Grow.new hs hl) (.lst upd_same ((r1.append r2).ext (Ext.upd (Ext.back hs hl))))
    · cases hg
  · split at hg
    · rename_i hl
      cases hg
      obtain ⟨p, xs, ex, hp, r1⟩ := hx.of_tup
      obtain ⟨q', ys, ey, hq', r2⟩ := hy.of_tup
      subst ex ey
      refine op_catT pins s σ H _ _ v u Q I rx ry ⟨p, q', xs, ys, rfl, rfl, hp.ext hs, hq'.ext hs, ?_, ?_, fun e => ?_, fun _ l hl => ?_⟩
      · intro e
        subst e
        cases r1
        exact absurd hl.2 (by simp)
      · rw [r1.length, r2.length]
        exact Nat.le_of_lt (Nat.lt_of_le_of_lt hl.1 sL_line)
      · subst e
        cases r2
        refine hq _ G H (Grow.rfl' hs) ?_
        rw [List.append_nil]
        exact .tup hp r1
      · exact hq _ _ _ (Grow.new hs hl) (.tup (SqT.of upd_same) ((r1.append r2).ext (Ext.upd (Ext.back hs hl))))
    · cases hg
  · cases hg
    exact bin_int (C := fun _ _ => True) (g := fun i j => i - j) (fun pins s σ H x y v u Q I rx ry ⟨i, j, e1, e2, _, q⟩ => op_sub pins s σ H x y v u Q I rx ry ⟨i, j, e1, e2, q⟩) I hs rx ry hx hy True.intro hq
  · split at hg
    · rename_i hss
      cases hg
      exact bin_int (C := CMulW) (g := fun i j => i * j) op_mulW I hs rx ry hx hy hss hq
    · cases hg
  · split at hg
    · rename_i hss
      cases hg
      exact bin_int (C := CDivW) (g := fun i j => i / j) op_fdivW I hs rx ry hx hy hss hq
    · cases hg
  · split at hg
    · rename_i hss
      cases hg
      obtain ⟨ex, ox⟩ := hx.of_str
      have ey := hy.of_int
      subst ex ey
      exact op_mulS ox hss.1 hss.2.1 hss.2.2.1 hss.2.2.2 I hs rx ry hq
    · cases hg
  · split at hg
    · rename_i hss
      cases hg
      refine bin_int (C := CPow) (g := fun i j => i ^ j.toNat) op_pow I hs rx ry hx hy ⟨hss.1, by omega, ?_⟩ hq
      have h := hss.2.2
      unfold smallI at h
      simp only [Bool.and_eq_true, decide_eq_true_eq] at h
      omega
    · cases hg
  · cases hg
end
end Ag
set_option Elab.async false
set_option linter.all false
set_option autoImplicit false
set_option maxRecDepth 100000
set_option maxHeartbeats 1000000
namespace Ag
open PySem PySem.Spec L2 TL
def D.isNon : D → Bool
  | .non => true
  | _ => false
theorem Rep.isNon_iff {K : PySem.W.Frag} {H : Hp} {v : V} {d : D} (r : Rep K H v d) : decide (v = V.non) = d.isNon := by
  cases r <;> rfl
/-- an item that None is looked for among -/
def D.okIn (dp : Nat) : D → Bool
  | .ins .ratio [.int _, .int _] => decide (1 ≤ dp)
  | .ins _ _ => false
  | .emp => false
  | .obj _ => false
  | _ => true
def rCmp (K : PySem.W.Frag) (g : D → D → Option Bool) : R2 := fun x y H Q => ∃ dx dy b, Rep K H x dx ∧ Rep K H y dy ∧ g dx dy = some b ∧ ∀ H', Ext H H' → Q (.bl b) H'
/-- None in a list or tuple -/
def nonIn (dp : Nat) : D → D → Option Bool
  | .non, .lst ds => if ds.all (D.okIn dp) then some (ds.any D.isNon) else none
  | .non, .tup ds => if ds.all (D.okIn dp) then some (ds.any D.isNon) else none
  | _, _ => none
mutual
def beqD : D → D → Bool
  | .non, .non => true
  | .bl a, .bl b => a == b
  | .int a, .int b => decide (a = b)
  | .str a, .str b => decide (a = b)
  | .tup a, .tup b => beqDs a b
  | .lst a, .lst b => beqDs a b
  | .ins c a, .ins c' b => decide (c = c') && beqDs a b
  | .emp, .emp => true
  | .obj a, .obj b => decide (a = b)
  | _, _ => false
def beqDs : List D → List D → Bool
  | [], [] => true
  | a :: r, b :: t => beqD a b && beqDs r t
  | _, _ => false
end
def intD : D → Bool
  | .int _ => true
  | _ => false
mutual
/-- the classes that may occur -/
def lvlD (dp : Nat) : D → Bool
  | .tup a => lvlDs dp a
  | .lst a => lvlDs dp a
  | .ins c (a :: b :: r) => decide (r.length + 2 = c.flds.length) && (decide (c = .ratio) || decide (2 ≤ dp)) && (lvlD 1 a && (lvlD 1 b && (!decide (c = .ratio) || (intD a && intD b))))
  | .ins _ _ => false
  | .emp => false
  | .obj _ => false
  | _ => true
def lvlDs (dp : Nat) : List D → Bool
  | [] => true
  | a :: r => lvlD dp a && lvlDs dp r
end
mutual
def D.deep : D → Nat
  | .tup a => D.deeps a + 1
  | .lst a => D.deeps a + 1
  | .ins _ a => D.deeps a + 1
  | _ => 0
def D.deeps : List D → Nat
  | [] => 0
  | a :: r => max a.deep (D.deeps r)
end
/-- two that are seen to be equal all the way -/
def deepQ (dp : Nat) (x y : D) : Option Bool := if 1 ≤ dp ∧ beqD x y = true ∧ lvlD dp x = true ∧ x.deep ≤ 8 then some true else none
def lenQ : D → D → Option Bool
  | .lst a, .lst b => if a.length ≠ b.length then some false else none
  | _, _ => none
structure DeepIn (X : Cx) (dp : Nat) : Prop where
  i : OpR X (compareOp .In) (rCmp X.K (nonIn dp))
  n : OpR X (compareOp .NotIn) (rCmp X.K fun x y => (nonIn dp x y).map (!·))
  e : OpR X (compareOp .Eq) (rCmp X.K (deepQ dp))
  l : OpR X (compareOp .Eq) (rCmp X.K lenQ)
def eq0D : D → D → Option Bool
  | .int i, .int j => some (decide (i = j))
  | .str a, .str b => some (decide (a = b))
  | .bl a, .bl b => some (decide (a = b))
  | .tup a, .tup b => match D.allStr a, D.allStr b with
    | some ss, some ts => some (decide (ss = ts))
    | _, _ => none
  | .lst a, .lst b => match D.allStr a, D.allStr b with
    | some ss, some ts => some (decide (ss = ts))
    | _, _ => none
  | _, _ => none
def eqD (dp : Nat) (x y : D) : Option Bool := match eq0D x y with
  | some b => some b
  | none => match deepQ dp x y with
    | some b => some b
    | none => lenQ x y
def inD (dp : Nat) : D → D → Option Bool
  | .str ⟨cs⟩, .str z => match cs.toList with
    | [c] => some (decide (c ∈ z.cps.toList))
    | _ => none
  | .str a, .tup b => (D.allStr b).map fun ss => decide (a ∈ ss)
  | .non, .lst ds => nonIn dp .non (.lst ds)
  | .non, .tup ds => nonIn dp .non (.tup ds)
  | _, _ => none
def cmpD (dp : Nat) : CmpOp → D → D → Option Bool
  | .Eq, x, y => eqD dp x y
  | .NotEq, x, y => (eq0D x y).map (!·)
  | .Lt, .int i, .int j => some (decide (i < j))
  | .LtE, .int i, .int j => some (decide (i ≤ j))
  | .Gt, .int i, .int j => some (decide (j < i))
  | .GtE, .int i, .int j => some (decide (j ≤ i))
  | .Is, x, .non => some x.isNon
  | .IsNot, x, .non => some (!x.isNon)
  | .In, x, y => inD dp x y
  | .NotIn, x, y => (inD dp x y).map (!·)
  | _, _, _ => none
section
variable {X : Cx}
theorem eqv_strs : ∀ ss ts : List Str, PyData.eqvAll (ss.map PyData.str) (ts.map PyData.str) = decide (ss = ts)
  | [], [] => by simp [PyData.eqvAll]
  | [], t :: ts => by simp [PyData.eqvAll]
  | s :: ss, [] => by simp [PyData.eqvAll]
  | s :: ss, t :: ts => by
    rw [List.map_cons, List.map_cons, PyData.eqvAll, eqv_strs ss ts, PyData.eqv]
    by_cases h : s = t
    · subst h; simp
    · simp [h]
theorem lay_strs : ∀ ss : List Str, (∀ s ∈ ss, OkS s) → PyData.canLayAll0 (ss.map PyData.str) = true
  | [], _ => by simp [PyData.canLayAll0]
  | s :: ss, h => by rw [List.map_cons, PyData.canLayAll0, lay_strs ss fun t ht => h t (List.mem_cons_of_mem _ ht)]; simp [PyData.canLay0, (h s List.mem_cons_self).ok]
theorem depth_strs : ∀ ss : List Str, PyData.depthAll (ss.map PyData.str) = 0
  | [] => by simp [PyData.depthAll]
  | s :: ss => by rw [List.map_cons, PyData.depthAll, depth_strs ss]; simp [PyData.depth]
theorem shaped_strsT {ss : List Str} (h : ∀ s ∈ ss, OkS s) : SeqAt.shaped (.tuple (ss.map .str)) = true := by
  unfold SeqAt.shaped
  rw [Bool.and_eq_true]
  refine ⟨by simp only [PyData.canLay0]; exact lay_strs ss h, decide_eq_true ?_⟩
  simp only [PyData.depth, depth_strs]
  decide
theorem shaped_strsL {ss : List Str} (h : ∀ s ∈ ss, OkS s) : SeqAt.shaped (.list (ss.map .str)) = true := by
  unfold SeqAt.shaped
  rw [Bool.and_eq_true]
  refine ⟨by simp only [PyData.canLay0]; exact lay_strs ss h, decide_eq_true ?_⟩
  simp only [PyData.depth, depth_strs]
  decide
theorem dp_strs {K : PySem.W.Frag} {H : Hp} : ∀ ss : List Str, DpAll K H (ss.map V.str) (ss.map PyData.str)
  | [] => .nil
  | s :: ss => .cons (.str s) (dp_strs ss)
theorem Rep.dpT {K : PySem.W.Frag} {H : Hp} {x : V} {ss : List Str} (h : Rep K H x (.tup (ss.map D.str))) : Dp K H x (.tuple (ss.map .str)) ∧ SeqAt.shaped (.tuple (ss.map .str)) = true := by
  obtain ⟨a, vs, rfl, hs, r⟩ := h.of_tup
  obtain ⟨rfl, ho⟩ := reps_strs r
  exact ⟨.tup hs (dp_strs ss), shaped_strsT ho⟩
theorem Rep.dpL {K : PySem.W.Frag} {H : Hp} {x : V} {ss : List Str} (h : Rep K H x (.lst (ss.map D.str))) : Dp K H x (.list (ss.map .str)) ∧ SeqAt.shaped (.list (ss.map .str)) = true := by
  obtain ⟨a, vs, rfl, hs, r⟩ := h.of_lst
  obtain ⟨rfl, ho⟩ := reps_strs r
  exact ⟨.lst (SqL.of hs) (dp_strs ss), shaped_strsL ho⟩
theorem op_eqD' (hu : X.A.units + 64 < cLine) : OpR X (compareOp .Eq) (rCmp X.K eq0D) := by
  intro pins s σ H x y v u Q I rx ry ⟨dx, dy, b, hx, hy, hg, hq⟩
  have q := hq H Ext.rfl'
  unfold eq0D at hg
  split at hg
  · cases hg
    rw [hx.of_int] at rx
    rw [hy.of_int] at ry
    refine op_eq pins s σ H _ _ v u Q I rx ry ⟨rfl, ?_⟩
    rw [dec_int, Bool.beq_eq_decide_eq]
    exact q
  · cases hg
    obtain ⟨rfl, _⟩ := hx.of_str
    obtain ⟨rfl, _⟩ := hy.of_str
    refine op_eq pins s σ H _ _ v u Q I rx ry ⟨rfl, ?_⟩
    rw [dec_str, Bool.beq_eq_decide_eq]
    exact q
  · cases hg
    rw [hx.of_bl] at rx
    rw [hy.of_bl] at ry
    refine op_eq pins s σ H _ _ v u Q I rx ry ⟨rfl, ?_⟩
    rw [dec_bl, Bool.beq_eq_decide_eq]
    exact q
  · split at hg
    · rename_i ss ts ea eb
      cases hg
      rw [allStr_eq ea] at hx
      rw [allStr_eq eb] at hy
      refine op_eqD hu pins s σ H x y v u Q I rx ry ⟨_, _, hx.dpT.1, hy.dpT.1, hx.dpT.2, hy.dpT.2, ?_⟩
      rw [show PyData.eqv (.tuple (ss.map .str)) (.tuple (ts.map .str)) = decide (ss = ts) by rw [PyData.eqv]; exact eqv_strs ss ts]
      exact q
    · cases hg
  · split at hg
    · rename_i ss ts ea eb
      cases hg
      rw [allStr_eq ea] at hx
      rw [allStr_eq eb] at hy
      refine op_eqD hu pins s σ H x y v u Q I rx ry ⟨_, _, hx.dpL.1, hy.dpL.1, hx.dpL.2, hy.dpL.2, ?_⟩
      rw [show PyData.eqv (.list (ss.map .str)) (.list (ts.map .str)) = decide (ss = ts) by rw [PyData.eqv]; exact eqv_strs ss ts]
      exact q
    · cases hg
  · cases hg
theorem op_neD' (hu : X.A.units + 64 < cLine) : OpR X (compareOp .NotEq) (rCmp X.K fun x y => (eq0D x y).map (!·)) := by
  intro pins s σ H x y v u Q I rx ry ⟨dx, dy, b, hx, hy, hg, hq⟩
  have q := hq H Ext.rfl'
  have hg : (eq0D dx dy).map (!·) = some b := hg
  cases he : eq0D dx dy with
  | none => rw [he] at hg; cases hg
  | some b0 =>
    rw [he] at hg
    have eb : (!b0) = b := Option.some.inj hg
    subst eb
    unfold eq0D at he
    split at he
    · cases he
      rw [hx.of_int] at rx
      rw [hy.of_int] at ry
      refine op_ne pins s σ H _ _ v u Q I rx ry ⟨rfl, ?_⟩
      rw [dec_int, Bool.beq_eq_decide_eq]
      exact q
    · cases he
      obtain ⟨rfl, _⟩ := hx.of_str
      obtain ⟨rfl, _⟩ := hy.of_str
      refine op_ne pins s σ H _ _ v u Q I rx ry ⟨rfl, ?_⟩
      rw [dec_str, Bool.beq_eq_decide_eq]
      exact q
    · cases he
      rw [hx.of_bl] at rx
      rw [hy.of_bl] at ry
      refine op_ne pins s σ H _ _ v u Q I rx ry ⟨rfl, ?_⟩
      rw [dec_bl, Bool.beq_eq_decide_eq]
      exact q
    · split at he
      · rename_i ss ts ea eb
        cases he
        rw [allStr_eq ea] at hx
        rw [allStr_eq eb] at hy
        refine op_neD hu pins s σ H x y v u Q I rx ry ⟨_, _, hx.dpT.1, hy.dpT.1, hx.dpT.2, hy.dpT.2, ?_⟩
        rw [show PyData.eqv (.tuple (ss.map .str)) (.tuple (ts.map .str)) = decide (ss = ts) by rw [PyData.eqv]; exact eqv_strs ss ts]
        exact q
      · cases he
    · split at he
      · rename_i ss ts ea eb
        cases he
        rw [allStr_eq ea] at hx
        rw [allStr_eq eb] at hy
        refine op_neD hu pins s σ H x y v u Q I rx ry ⟨_, _, hx.dpL.1, hy.dpL.1, hx.dpL.2, hy.dpL.2, ?_⟩
        rw [show PyData.eqv (.list (ss.map .str)) (.list (ts.map .str)) = decide (ss = ts) by rw [PyData.eqv]; exact eqv_strs ss ts]
        exact q
      · cases he
    · cases he
theorem inV_strs (a : Str) : ∀ ss : List Str, inV (.str a) (ss.map V.str) = decide (a ∈ ss)
  | [] => by simp [inV]
  | s :: ss => by
    have ih := inV_strs a ss
    unfold inV at ih ⊢
    rw [List.map_cons, List.any_cons, ih]
    show (s == a || decide (a ∈ ss)) = decide (a ∈ s :: ss)
    by_cases h : s = a
    · subst h; simp
    · have h' : ¬ a = s := fun e => h e.symm
      have hb : (s == a) = false := beq_eq_false_iff_ne.mpr h
      rw [hb]
      simp [h']
theorem flat_strs : ∀ ss : List Str, (ss.map V.str).all flatV = true
  | [] => rfl
  | s :: ss => by rw [List.map_cons, List.all_cons, flat_strs ss]; rfl
theorem op_inD' {dp : Nat} (hN : DeepIn X dp) : OpR X (compareOp .In) (rCmp X.K (inD dp)) := by
  intro pins s σ H x y v u Q I rx ry ⟨dx, dy, b, hx, hy, hg, hq⟩
  have q := hq H Ext.rfl'
  unfold inD at hg
  split at hg
  · rename_i cs z
    split at hg
    · rename_i c e
      cases hg
      obtain ⟨rfl, _⟩ := hx.of_str
      obtain ⟨rfl, _⟩ := hy.of_str
      have e' : cs = #[c] := by rw [← Array.toArray_toList (xs := cs), e]
      subst e'
      exact op_in_sign pins s σ H _ _ v u Q I rx ry ⟨c, z, rfl, rfl, q⟩
    · cases hg
  · rename_i a ds
    cases e : D.allStr ds with
    | none => rw [e] at hg; cases hg
    | some ss =>
      rw [e] at hg
      have eb : decide (a ∈ ss) = b := Option.some.inj hg
      subst eb
      rw [allStr_eq e] at hy
      obtain ⟨rfl, _⟩ := hx.of_str
      obtain ⟨p, vs, rfl, hs, r⟩ := hy.of_tup
      obtain ⟨rfl, _⟩ := reps_strs r
      refine op_in_seq pins s σ H _ _ v u Q I rx ry ⟨p, _, rfl, .inr hs, rfl, flat_strs ss, ?_⟩
      rw [if_neg (by decide), inV_strs]
      exact q
  · exact hN.i pins s σ H x y v u Q I rx ry ⟨_, _, b, hx, hy, hg, hq⟩
  · exact hN.i pins s σ H x y v u Q I rx ry ⟨_, _, b, hx, hy, hg, hq⟩
  · cases hg
theorem op_notInD' {dp : Nat} (hN : DeepIn X dp) : OpR X (compareOp .NotIn) (rCmp X.K fun x y => (inD dp x y).map (!·)) := by
  intro pins s σ H x y v u Q I rx ry ⟨dx, dy, b, hx, hy, hg, hq⟩
  have q := hq H Ext.rfl'
  have hg : (inD dp dx dy).map (!·) = some b := hg
  cases he : inD dp dx dy with
  | none => rw [he] at hg; cases hg
  | some b0 =>
    rw [he] at hg
    have eb : (!b0) = b := Option.some.inj hg
    subst eb
    unfold inD at he
    split at he
    · rename_i cs z
      split at he
      · rename_i c e
        cases he
        obtain ⟨rfl, _⟩ := hx.of_str
        obtain ⟨rfl, _⟩ := hy.of_str
        have e' : cs = #[c] := by rw [← Array.toArray_toList (xs := cs), e]
        subst e'
        exact op_notIn_sign pins s σ H _ _ v u Q I rx ry ⟨c, z, rfl, rfl, q⟩
      · cases he
    · rename_i a ds
      cases e : D.allStr ds with
      | none => rw [e] at he; cases he
      | some ss =>
        rw [e] at he
        have eb : decide (a ∈ ss) = b0 := Option.some.inj he
        subst eb
        rw [allStr_eq e] at hy
        obtain ⟨rfl, _⟩ := hx.of_str
        obtain ⟨p, vs, rfl, hs, r⟩ := hy.of_tup
        obtain ⟨rfl, _⟩ := reps_strs r
        refine op_notIn_seq pins s σ H _ _ v u Q I rx ry ⟨p, _, rfl, .inr hs, rfl, flat_strs ss, ?_⟩
        rw [if_pos rfl, inV_strs]
        exact q
    · exact hN.n pins s σ H x y v u Q I rx ry ⟨_, _, _, hx, hy, congrArg (Option.map (!·)) he, hq⟩
    · exact hN.n pins s σ H x y v u Q I rx ry ⟨_, _, _, hx, hy, congrArg (Option.map (!·)) he, hq⟩
    · cases he
theorem op_eqDD {dp : Nat} (hu : X.A.units + 64 < cLine) (hN : DeepIn X dp) : OpR X (compareOp .Eq) (rCmp X.K (eqD dp)) := by
  intro pins s σ H x y v u Q I rx ry ⟨dx, dy, b, hx, hy, hg, hq⟩
  unfold eqD at hg
  split at hg
  · rename_i b' e
    cases hg
    exact op_eqD' hu pins s σ H x y v u Q I rx ry ⟨dx, dy, b, hx, hy, e, hq⟩
  · split at hg
    · rename_i b' e
      cases hg
      exact hN.e pins s σ H x y v u Q I rx ry ⟨dx, dy, b, hx, hy, e, hq⟩
    · exact hN.l pins s σ H x y v u Q I rx ry ⟨dx, dy, b, hx, hy, hg, hq⟩
theorem op_cmp {dp : Nat} (hu : X.A.units + 64 < cLine) (hN : DeepIn X dp) (op : CmpOp) : OpR X (compareOp op) (rCmp X.K (cmpD dp op)) := by
  cases op with
  | Eq => exact op_eqDD hu hN
  | NotEq => exact op_neD' hu
  | In => exact op_inD' hN
  | NotIn => exact op_notInD' hN
  | Is =>
    intro pins s σ H x y v u Q I rx ry ⟨dx, dy, b, hx, hy, hg, hq⟩
    have q := hq H Ext.rfl'
    cases dy with
    | non =>
      cases hg
      refine op_isN pins s σ H x y v u Q I rx ry ⟨hy.of_non, ?_⟩
      rw [hx.isNon_iff]
      exact q
    | _ => cases hg
  | IsNot =>
    intro pins s σ H x y v u Q I rx ry ⟨dx, dy, b, hx, hy, hg, hq⟩
    have q := hq H Ext.rfl'
    cases dy with
    | non =>
      cases hg
      refine op_notN pins s σ H x y v u Q I rx ry ⟨hy.of_non, ?_⟩
      rw [hx.isNon_iff]
      exact q
    | _ => cases hg
  | _ =>
    intro pins s σ H x y v u Q I rx ry ⟨dx, dy, b, hx, hy, hg, hq⟩
    have q := hq H Ext.rfl'
    unfold cmpD at hg
    split at hg <;> first
      | cases hg; done
      | (rename_i z; cases z; done)
      | (cases hg
         rw [hx.of_int] at rx
         rw [hy.of_int] at ry
         first
          | exact op_lt pins s σ H _ _ v u Q I rx ry ⟨_, _, rfl, rfl, q⟩
          | exact op_le pins s σ H _ _ v u Q I rx ry ⟨_, _, rfl, rfl, q⟩
          | exact op_gt pins s σ H _ _ v u Q I rx ry ⟨_, _, rfl, rfl, q⟩
          | exact op_ge pins s σ H _ _ v u Q I rx ry ⟨_, _, rfl, rfl, q⟩)
      | (exfalso; simp_all; done)
end
end Ag
set_option Elab.async false
set_option linter.all false
set_option autoImplicit false
set_option maxRecDepth 100000
set_option maxHeartbeats 1000000
namespace Ag
open PySem PySem.Spec L2 TL
/-! ### split at one sign -/
def splitL (c : Nat) : List Nat → List (List Nat)
  | [] => [[]]
  | a :: r => if a = c then [] :: splitL c r else match splitL c r with
    | [] => [[a]]
    | x :: xs => (a :: x) :: xs
theorem splitL_ne (c : Nat) : ∀ l, splitL c l ≠ []
  | [] => by simp [splitL]
  | a :: r => by
    unfold splitL
    split
    · simp
    · split <;> simp
theorem spl_splitL (c : Nat) : ∀ (l acc : List Nat), spl [c] 0 acc l = match splitL c l with
    | [] => []
    | x :: xs => (acc ++ x) :: xs
  | [], acc => by simp [spl, splitL]
  | a :: r, acc => by
    have ih := spl_splitL c r
    unfold spl
    by_cases h : a = c
    · subst h
      have hp : pre [a] (a :: r) = true := by simp [pre]
      rw [if_pos hp]
      show acc :: spl [a] 0 [] r = _
      rw [ih []]
      have e : splitL a (a :: r) = [] :: splitL a r := by rw [splitL, if_pos rfl]
      rw [e]
      cases q : splitL a r with
      | nil => exact absurd q (splitL_ne a r)
      | cons x xs => simp
    · have hp : pre [c] (a :: r) = false := pre_of_head _ _ h
      rw [if_neg (by rw [hp]; decide), ih (acc ++ [a])]
      have e : splitL c (a :: r) = match splitL c r with
        | [] => [[a]]
        | x :: xs => (a :: x) :: xs := by rw [splitL, if_neg h]
      rw [e]
      cases q : splitL c r with
      | nil => exact absurd q (splitL_ne c r)
      | cons x xs => simp
theorem splitL_spl (c : Nat) (l : List Nat) : spl [c] 0 [] l = splitL c l := by
  rw [spl_splitL]
  cases q : splitL c l with
  | nil => rfl
  | cons x xs => simp
def mkS (l : List Nat) : Str := ⟨l.toArray⟩
def splitS (c : Nat) (s : Str) : List Str := (splitL c (tl s)).map mkS
theorem split_one {c : Nat} (hc : c < 256) (x : Str) : Txt.split x ⟨#[c]⟩ = splitS c x := by
  refine map_tl_inj ?_
  rw [split_spl x ⟨#[c]⟩ (by simp [tl]) (kind_ok (by simp; exact hc))]
  show spl [c] 0 [] (tl x) = _
  rw [splitL_spl]
  unfold splitS
  rw [List.map_map]
  exact (List.map_id' _).symm.trans (List.map_congr_left fun l _ => rfl)
theorem splitL_mem {c : Nat} : ∀ {l : List Nat} {x : List Nat}, x ∈ splitL c l → x.length ≤ l.length ∧ ∀ a ∈ x, a ∈ l
  | [], x, h => by
    have : x = [] := by simpa [splitL] using h
    subst this
    exact ⟨Nat.le_refl _, fun a h => nomatch h⟩
  | a :: r, x, h => by
    unfold splitL at h
    split at h
    · rcases List.mem_cons.mp h with h | h
      · subst h
        exact ⟨Nat.zero_le _, fun a h => nomatch h⟩
      · obtain ⟨h1, h2⟩ := splitL_mem h
        exact ⟨Nat.le_succ_of_le h1, fun b hb => List.mem_cons_of_mem _ (h2 b hb)⟩
    · split at h
      · rename_i q
        exact absurd q (splitL_ne c r)
      · rename_i y ys q
        rcases List.mem_cons.mp h with h | h
        · subst h
          obtain ⟨h1, h2⟩ := splitL_mem (x := y) (l := r) (c := c) (by rw [q]; exact List.mem_cons_self)
          refine ⟨by simpa using h1, fun b hb => ?_⟩
          rcases List.mem_cons.mp hb with hb | hb
          · rw [hb]; exact List.mem_cons_self
          · exact List.mem_cons_of_mem _ (h2 b hb)
        · obtain ⟨h1, h2⟩ := splitL_mem (x := x) (l := r) (c := c) (by rw [q]; exact List.mem_cons_of_mem _ h)
          exact ⟨Nat.le_succ_of_le h1, fun b hb => List.mem_cons_of_mem _ (h2 b hb)⟩
theorem splitS_ok {c : Nat} {s : Str} (h : OkS s) : ∀ t ∈ splitS c s, OkS t := fun t ht => by
  obtain ⟨l, hl, rfl⟩ := List.mem_map.mp ht
  obtain ⟨h1, h2⟩ := splitL_mem hl
  refine h.sub ?_ h2
  rw [len_tl, len_tl]
  exact h1
theorem splitL_len (c : Nat) : ∀ l, (splitL c l).length ≤ l.length + 1
  | [] => by simp [splitL]
  | a :: r => by
    have ih := splitL_len c r
    unfold splitL
    split
    · simpa using ih
    · split
      · simp
      · rename_i x xs q
        rw [q] at ih
        simp only [List.length_cons] at ih ⊢
        omega
/-! ### places -/
def cutL {α : Type} (xs : List α) (lo hi : Option Int) : List α := (xs.drop (HT.sIx xs.length 0 lo)).take (HT.sIx xs.length xs.length hi - HT.sIx xs.length 0 lo)
def ixD : D → D → Option D
  | .lst ds, .int i => atI ds i
  | .tup ds, .int i => atI ds i
  | .str z, .int i => (atI (tl z) i).map fun c => .str (mkS [c])
  | _, _ => none
def slD : D → Option Int → Option Int → Option D
  | .str z, lo, hi => some (.str (cutS z lo hi))
  | .lst ds, lo, hi => some (.lst (cutL ds lo hi))
  | .tup ds, lo, hi => if HT.sIx ds.length 0 lo = 0 ∧ HT.sIx ds.length ds.length hi = ds.length then none else some (.tup (cutL ds lo hi))
  | _, _, _ => none
def rSlD (K : PySem.W.Frag) : V → Option Int → Option Int → Hp → VK → Prop := fun x lo hi H Q => ∃ G dx d, Ext G H ∧ Rep K G x dx ∧ slD dx lo hi = some d ∧ ∀ v G' H', Grow G H G' H' → Rep K G' v d → Q v H'
section
variable {X : Cx} {K : PySem.W.Frag} {H : Hp}
theorem Reps.atI {vs : List V} {ds : List D} {i : Int} {d : D} (r : Reps K H vs ds) (h : L2.atI ds i = some d) : ∃ v, L2.atI vs i = some v ∧ Rep K H v d := by
  unfold L2.atI at h ⊢
  rw [r.length]
  cases e : ixN ds.length i with
  | none => rw [e] at h; cases h
  | some j =>
    rw [e] at h
    exact r.get h
theorem Reps.cut {vs : List V} {ds : List D} (r : Reps K H vs ds) (lo hi : Option Int) : Reps K H (cutV vs lo hi) (cutL ds lo hi) := by
  unfold cutV cutL
  rw [r.length]
  exact (r.drop _).take _
theorem atI_mem {α : Type} {xs : List α} {i : Int} {a : α} (h : L2.atI xs i = some a) : a ∈ xs := by
  unfold L2.atI at h
  cases e : ixN xs.length i with
  | none => rw [e] at h; cases h
  | some j => rw [e] at h; exact List.mem_of_getElem? h
theorem OkS.one {z : Str} (h : OkS z) {c : Nat} (hc : c ∈ tl z) : OkS (mkS [c]) := h.sub (by
  rw [len_tl z]
  exact List.length_pos_of_mem hc) fun a ha => by
  have : a = c := by simpa [mkS] using ha
  rw [this]; exact hc
theorem ix_D : IxR X (rBin X.K ixD) := by
  intro value slice pins s σ H x y v u Q I rx ry ⟨G, dx, dy, d, hG, hx, hy, hg, hq⟩ hs
  unfold ixD at hg
  split at hg
  · obtain ⟨p, vs, rfl, hp, r⟩ := hx.of_lst
    obtain rfl := hy.of_int
    obtain ⟨w, h1, h2⟩ := r.atI hg
    exact ix_seq value slice pins s σ H _ _ v u Q I rx ry (.inl ⟨p, vs, _, w, rfl, rfl, SqL.of (hG _ _ hp), h1, hq w G H (Grow.rfl' hG) h2⟩) hs
  · obtain ⟨p, vs, rfl, hp, r⟩ := hx.of_tup
    obtain rfl := hy.of_int
    obtain ⟨w, h1, h2⟩ := r.atI hg
    exact ix_seq value slice pins s σ H _ _ v u Q I rx ry (.inr (.inl ⟨p, vs, _, w, rfl, rfl, hp.ext hG, h1, hq w G H (Grow.rfl' hG) h2⟩)) hs
  · rename_i z i
    obtain ⟨rfl, hz⟩ := hx.of_str
    obtain rfl := hy.of_int
    cases e : L2.atI (tl z) i with
    | none => rw [e] at hg; cases hg
    | some c =>
      rw [e] at hg
      cases hg
      exact ix_seq value slice pins s σ H _ _ v u Q I rx ry (.inr (.inr ⟨z, i, c, rfl, rfl, Nat.le_of_lt (Nat.lt_of_le_of_lt hz.len sL_line), e, hq _ G H (Grow.rfl' hG) (.str _ (hz.one (atI_mem e)))⟩)) hs
  · cases hg
theorem cutS_ok {z : Str} (h : OkS z) (lo hi : Option Int) : OkS (cutS z lo hi) := h.sub (cutS_length z lo hi) fun c hc => by
  have : c ∈ (z.cps.toList.drop (HT.sIx z.length 0 lo)).take (HT.sIx z.length z.length hi - HT.sIx z.length 0 lo) := hc
  exact List.mem_of_mem_drop (List.mem_of_mem_take this)
theorem sl_D : SlR X (rSlD X.K) := by
  intro pins s σ H x v vl vu lo hi sl Q I rx hs pl pu ⟨G, dx, d, hG, hx, hg, hq⟩
  unfold slD at hg
  split at hg
  · cases hg
    obtain ⟨rfl, hz⟩ := hx.of_str
    exact sl_str pins s σ H _ v vl vu _ _ sl Q I rx hs pl pu ⟨_, rfl, Nat.le_of_lt (Nat.lt_of_le_of_lt hz.len sL_line), hq _ G H (Grow.rfl' hG) (.str _ (cutS_ok hz _ _))⟩
  · cases hg
    obtain ⟨p, vs, rfl, hp, r⟩ := hx.of_lst
    exact sl_list pins s σ H _ v vl vu _ _ sl Q I rx hs pl pu ⟨p, vs, rfl, SqL.of (hG _ _ hp), fun l hl => hq _ _ _ (Grow.new hG hl) (.lst upd_same ((r.cut _ _).ext (Ext.upd (Ext.back hG hl))))⟩
  · split at hg
    · cases hg
    · rename_i hw
      cases hg
      obtain ⟨p, vs, rfl, hp, r⟩ := hx.of_tup
      exact sl_tup pins s σ H _ v vl vu _ _ sl Q I rx hs pl pu ⟨p, vs, rfl, hp.ext hG, by rw [r.length]; exact hw, fun l hl => hq _ _ _ (Grow.new hG hl) (.tup (SqT.of upd_same) ((r.cut _ _).ext (Ext.upd (Ext.back hG hl))))⟩
  · cases hg
/-! ### truth -/
def truD : D → Option Bool
  | .non => some false
  | .bl b => some b
  | .int i => some (i != 0)
  | .str s => some ((s.length : Int) != 0)
  | .lst ds => some (!ds.isEmpty)
  | .tup ds => some (!ds.isEmpty)
  | .ins _ _ => none
  | .emp => none
  | .obj _ => none
theorem Reps.isEmpty {vs : List V} {ds : List D} (r : Reps K H vs ds) : vs.isEmpty = ds.isEmpty := by cases r <;> rfl
theorem tru_D {x : V} {d : D} {b : Bool} (h : Rep K H x d) (e : truD d = some b) : TruV K x H b := by
  cases h with
  | non => cases e; rfl
  | bl c => cases e; rfl
  | int i => cases e; rfl
  | str s o => cases e; exact ⟨Nat.le_of_lt (Nat.lt_of_le_of_lt o.len sL_line), rfl⟩
  | tup h r => cases e; exact .inr (.inl ⟨_, h, by rw [r.isEmpty]⟩)
  | lst h r => cases e; exact .inl ⟨_, SqL.of h, by rw [r.isEmpty]⟩
  | ins h hn r => cases e
  | emp h => cases e
  | obj a => cases e
/-! ### built-ins on lists of data -/
def rCall (K : PySem.W.Frag) (g : List D → Option D) : List V → Hp → VK → Prop := fun vs H Q => ∃ G ds d, Ext G H ∧ Reps K G vs ds ∧ g ds = some d ∧ ∀ v G' H', Grow G H G' H' → Rep K G' v d → Q v H'
def D.allBl : List D → Option (List Bool)
  | [] => some []
  | .bl s :: r => (D.allBl r).map (s :: ·)
  | _ :: _ => none
theorem reps_bls : ∀ {ds : List D} {bs : List Bool} {vs : List V}, D.allBl ds = some bs → Reps K H vs ds → vs = bs.map V.bl
  | [], _, _, h, r => by cases h; cases r; rfl
  | .bl b :: ds, bs, _, h, r => by
    have h2 : (D.allBl ds).map (b :: ·) = some bs := h
    cases e : D.allBl ds with
    | none => rw [e] at h2; cases h2
    | some t =>
      rw [e] at h2
      cases h2
      cases r with
      | cons h r => rw [h.of_bl, reps_bls e r]; rfl
  | .non :: _, _, _, h, _ => by cases h
  | .str _ :: _, _, _, h, _ => by cases h
  | .int _ :: _, _, _, h, _ => by cases h
  | .tup _ :: _, _, _, h, _ => by cases h
  | .lst _ :: _, _, _, h, _ => by cases h
  | .ins _ _ :: _, _, _, h, _ => by cases h
  | .emp :: _, _, _, h, _ => by cases h
  | .obj _ :: _, _, _, h, _ => by cases h
def gLen : List D → Option D
  | [.str s] => some (.int s.length)
  | [.lst ds] => some (.int ds.length)
  | [.tup ds] => some (.int ds.length)
  | _ => none
def gInt : List D → Option D
  | [.str s] => if s.length ≤ 640 then (PySem.intText? s).map D.int else none
  | [.int i] => some (.int i)
  | _ => none
def gStr : List D → Option D
  | [.int i] => if i.natAbs.log2 < 1920 ∧ okB (Str.ofString (toString i)) = true then some (.str (Str.ofString (toString i))) else none
  | _ => none
def gAll : List D → Option D
  | [.lst ds] => (D.allBl ds).map fun bs => .bl (bs.all id)
  | _ => none
def gAny : List D → Option D
  | [.lst ds] => (D.allBl ds).map fun bs => .bl (bs.any id)
  | _ => none
def gTuple : List D → Option D
  | [.lst ds] => some (.tup ds)
  | [.tup ds] => some (.tup ds)
  | _ => none
def gAbs : List D → Option D
  | [.int i] => some (.int (if i < 0 then -i else i))
  | _ => none
theorem reps_one {vs : List V} {d : D} (r : Reps K H vs [d]) : ∃ v, vs = [v] ∧ Rep K H v d := by
  cases r with
  | cons h r => cases r; exact ⟨_, rfl, h⟩
theorem reps_two {vs : List V} {d e : D} (r : Reps K H vs [d, e]) : ∃ v u, vs = [v, u] ∧ Rep K H v d ∧ Rep K H u e := by
  cases r with
  | cons h r => cases r with
    | cons h2 r => cases r; exact ⟨_, _, rfl, h, h2⟩
theorem cD_len : CallR X (.builtin "len") (rCall X.K gLen) := by
  intro pins s σ H vs us Q I r ⟨G, ds, d, hG, hr, hg, hq⟩
  unfold gLen at hg
  split at hg
  · cases hg
    obtain ⟨v, rfl, h⟩ := reps_one hr
    obtain ⟨rfl, ho⟩ := h.of_str
    exact call_len pins s σ H _ us Q I r ⟨_, _, rfl, ⟨Nat.le_of_lt (Nat.lt_of_le_of_lt ho.len sL_line), rfl⟩, hq _ G H (Grow.rfl' hG) (.int _)⟩
  · cases hg
    obtain ⟨v, rfl, h⟩ := reps_one hr
    obtain ⟨a, xs, rfl, hs, r2⟩ := h.of_lst
    exact call_len pins s σ H _ us Q I r ⟨_, xs.length, rfl, .inl ⟨xs, SqL.of (hG _ _ hs), rfl⟩, by rw [r2.length]; exact hq _ G H (Grow.rfl' hG) (.int _)⟩
  · cases hg
    obtain ⟨v, rfl, h⟩ := reps_one hr
    obtain ⟨a, xs, rfl, hs, r2⟩ := h.of_tup
    exact call_len pins s σ H _ us Q I r ⟨_, xs.length, rfl, .inr ⟨xs, hs.ext hG, rfl⟩, by rw [r2.length]; exact hq _ G H (Grow.rfl' hG) (.int _)⟩
  · cases hg
theorem cD_int : CallR X (.type "int") (rCall X.K gInt) := by
  intro pins s σ H vs us Q I r ⟨G, ds, d, hG, hr, hg, hq⟩
  unfold gInt at hg
  split at hg
  · split at hg
    · rename_i z hz
      obtain ⟨v, rfl, h⟩ := reps_one hr
      obtain ⟨rfl, ho⟩ := h.of_str
      cases e : PySem.intText? z with
      | none => rw [e] at hg; cases hg
      | some n =>
        rw [e] at hg
        cases hg
        exact call_int_str pins s σ H _ us Q I r ⟨z, n, rfl, e, hz, hq _ G H (Grow.rfl' hG) (.int _)⟩
    · cases hg
  · cases hg
    obtain ⟨v, rfl, h⟩ := reps_one hr
    obtain rfl := h.of_int
    exact call_int1 pins s σ H _ us Q I r (.inl ⟨_, rfl, hq _ G H (Grow.rfl' hG) (.int _)⟩)
  · cases hg
theorem cD_str : CallR X (.type "str") (rCall X.K gStr) := by
  intro pins s σ H vs us Q I r ⟨G, ds, d, hG, hr, hg, hq⟩
  unfold gStr at hg
  split at hg
  · split at hg
    · rename_i h
      cases hg
      obtain ⟨v, rfl, h'⟩ := reps_one hr
      obtain rfl := h'.of_int
      exact call_str_int pins s σ H _ us Q I r ⟨_, rfl, h.1, hq _ G H (Grow.rfl' hG) (.str _ (okB_ok h.2))⟩
    · cases hg
  · cases hg
theorem cD_abs : CallR X (.builtin "abs") (rCall X.K gAbs) := by
  intro pins s σ H vs us Q I r ⟨G, ds, d, hG, hr, hg, hq⟩
  unfold gAbs at hg
  split at hg
  · cases hg
    obtain ⟨v, rfl, h'⟩ := reps_one hr
    obtain rfl := h'.of_int
    exact call_abs pins s σ H _ us Q I r ⟨_, rfl, hq _ G H (Grow.rfl' hG) (.int _)⟩
  · cases hg
theorem cD_all (hc : X.calm = true) : CallR X (.builtin "all") (rCall X.K gAll) := by
  intro pins s σ H vs us Q I r ⟨G, ds, d, hG, hr, hg, hq⟩
  unfold gAll at hg
  split at hg
  · rename_i es
    obtain ⟨v, rfl, h⟩ := reps_one hr
    obtain ⟨a, xs, rfl, hs, r2⟩ := h.of_lst
    cases e : D.allBl es with
    | none => rw [e] at hg; cases hg
    | some bs =>
      rw [e] at hg
      cases hg
      have ex := reps_bls e r2
      subst ex
      exact cr_all hc pins s σ H _ us Q I r ⟨a, bs, rfl, SqL.of (hG _ _ hs), hq _ G H (Grow.rfl' hG) (.bl _)⟩
  · cases hg
theorem cD_any (hc : X.calm = true) : CallR X (.builtin "any") (rCall X.K gAny) := by
  intro pins s σ H vs us Q I r ⟨G, ds, d, hG, hr, hg, hq⟩
  unfold gAny at hg
  split at hg
  · rename_i es
    obtain ⟨v, rfl, h⟩ := reps_one hr
    obtain ⟨a, xs, rfl, hs, r2⟩ := h.of_lst
    cases e : D.allBl es with
    | none => rw [e] at hg; cases hg
    | some bs =>
      rw [e] at hg
      cases hg
      have ex := reps_bls e r2
      subst ex
      exact cr_any hc pins s σ H _ us Q I r ⟨a, bs, rfl, SqL.of (hG _ _ hs), hq _ G H (Grow.rfl' hG) (.bl _)⟩
  · cases hg
theorem cD_tuple : CallR X (.type "tuple") (rCall X.K gTuple) := by
  intro pins s σ H vs us Q I r ⟨G, ds, d, hG, hr, hg, hq⟩
  unfold gTuple at hg
  split at hg
  · cases hg
    obtain ⟨v, rfl, h⟩ := reps_one hr
    obtain ⟨a, xs, rfl, hs, r2⟩ := h.of_lst
    exact call_tuple_of pins s σ H _ us Q I r ⟨a, xs, rfl, .inl ⟨SqL.of (hG _ _ hs), fun l hl => hq _ _ _ (Grow.new hG hl) (.tup (SqT.of upd_same) (r2.ext (Ext.upd (Ext.back hG hl))))⟩⟩
  · cases hg
    obtain ⟨v, rfl, h⟩ := reps_one hr
    obtain ⟨a, xs, rfl, hs, r2⟩ := h.of_tup
    exact call_tuple_of pins s σ H _ us Q I r ⟨a, xs, rfl, .inr ⟨hs.ext hG, hq _ G H (Grow.rfl' hG) (.tup hs r2)⟩⟩
  · cases hg
/-! ### methods of texts -/
def splitD : D → D → Option D
  | .str a, .str ⟨cs⟩ => match cs.toList with
    | [c] => if c < 256 then some (.lst ((splitS c a).map D.str)) else none
    | _ => none
  | _, _ => none
def joinD : D → D → Option D
  | .str a, .lst ds => match D.allStr ds with
    | some ss => if (ss.map (·.length)).sum + ss.length * a.length ≤ sL ∧ okB (Txt.join a ss) = true then some (.str (Txt.join a ss)) else none
    | none => none
  | _, _ => none
theorem split_D {x y : V} {dx dy d : D} {Q : VK} {G : Hp} (hG : Ext G H) (hx : Rep K G x dx) (hy : Rep K G y dy) (hg : splitD dx dy = some d) (hq : ∀ v G' H', Grow G H G' H' → Rep K G' v d → Q v H') :
    ∃ a b, x = .str a ∧ [y] = [.str b] ∧ (b.length == 0) = false ∧ a.length + 2 ≤ sizeLine ∧ rNewStrs (Txt.split a b) H Q := by
  unfold splitD at hg
  split at hg
  · rename_i a cs
    split at hg
    · rename_i c e
      split at hg
      · rename_i hc
        cases hg
        obtain ⟨rfl, ho⟩ := hx.of_str
        obtain ⟨rfl, _⟩ := hy.of_str
        have e' : cs = #[c] := by rw [← Array.toArray_toList (xs := cs), e]
        subst e'
        refine ⟨a, _, rfl, rfl, rfl, ?_, ?_⟩
        · have h1 := ho.len
          have h2 : sL + 2 ≤ sizeLine := by rw [sizeLine_eq]; decide
          omega
        · intro p hp
          rw [split_one hc]
          exact hq _ _ _ (Grow.new hG hp) (.lst upd_same (Reps.strs (splitS_ok ho)))
      · cases hg
    · cases hg
  · cases hg
theorem join_D {x y : V} {dx dy d : D} {Q : VK} {G : Hp} (hG : Ext G H) (hx : Rep K G x dx) (hy : Rep K G y dy) (hg : joinD dx dy = some d) (hq : ∀ v G' H', Grow G H G' H' → Rep K G' v d → Q v H') :
    ∃ a p, ∃ ys : List Str, x = .str a ∧ [y] = [.ref p] ∧ (SqL K H p (ys.map V.str) ∨ SqT K H p (ys.map V.str)) ∧ (ys.map (·.length)).sum + ys.length * a.length ≤ 16777216 ∧ Q (.str (Txt.join a ys)) H := by
  unfold joinD at hg
  split at hg
  · rename_i a ds
    split at hg
    · rename_i ss e
      split at hg
      · rename_i h
        cases hg
        obtain ⟨rfl, ho⟩ := hx.of_str
        rw [allStr_eq e] at hy
        obtain ⟨p, vs, rfl, hs, r⟩ := hy.of_lst
        obtain ⟨rfl, _⟩ := reps_strs r
        refine ⟨a, p, ss, rfl, rfl, .inl (SqL.of (hG _ _ hs)), Nat.le_trans h.1 (by decide), hq _ G H (Grow.rfl' hG) (.str _ (okB_ok h.2))⟩
      · cases hg
    · cases hg
  · cases hg
end
end Ag
set_option Elab.async false
set_option linter.all false
set_option autoImplicit false
set_option maxRecDepth 100000
set_option maxHeartbeats 1000000
namespace Ag
open PySem PySem.Spec L2 TL
/-! ### words for what may stand still -/
def bindO {α β : Type} (a : Option α) (f : α → Option β) : Option β := match a with
  | none => none
  | some x => f x
def bind2 {α β : Type} (a b : Option α) (f : α → α → Option β) : Option β := match a with
  | none => none
  | some x => match b with
    | none => none
    | some y => f x y
def andO (a b : Option Bool) : Option Bool := match a with
  | none => none
  | some true => b
  | some false => some false
def orO (a b : Option Bool) : Option Bool := match a with
  | none => none
  | some true => some true
  | some false => b
def iteO {α : Type} (a : Option Bool) (x y : Option α) : Option α := match a with
  | none => none
  | some true => x
  | some false => y
theorem bindO_inv {α β : Type} {a : Option α} {f : α → Option β} {r : β} (h : bindO a f = some r) : ∃ x, a = some x ∧ f x = some r := by
  cases a with
  | none => cases h
  | some x => exact ⟨x, rfl, h⟩
theorem bind2_inv {α β : Type} {a b : Option α} {f : α → α → Option β} {r : β} (h : bind2 a b f = some r) : ∃ x y, a = some x ∧ b = some y ∧ f x y = some r := by
  cases a with
  | none => cases h
  | some x => cases b with
    | none => cases h
    | some y => exact ⟨x, y, rfl, rfl, h⟩
theorem andO_inv {a b : Option Bool} {r : Bool} (h : andO a b = some r) : (a = some true ∧ b = some r) ∨ (a = some false ∧ r = false) := by
  rcases a with _ | _ | _
  · cases h
  · cases h; exact .inr ⟨rfl, rfl⟩
  · exact .inl ⟨rfl, h⟩
theorem orO_inv {a b : Option Bool} {r : Bool} (h : orO a b = some r) : (a = some false ∧ b = some r) ∨ (a = some true ∧ r = true) := by
  rcases a with _ | _ | _
  · cases h
  · exact .inl ⟨rfl, h⟩
  · cases h; exact .inr ⟨rfl, rfl⟩
theorem iteO_inv {α : Type} {a : Option Bool} {x y : Option α} {r : α} (h : iteO a x y = some r) : (a = some true ∧ x = some r) ∨ (a = some false ∧ y = some r) := by
  rcases a with _ | _ | _
  · cases h
  · exact .inr ⟨rfl, h⟩
  · exact .inl ⟨rfl, h⟩
def andV1 (b : Option D) : D → Option D
  | .bl true => b
  | .bl false => some (.bl false)
  | _ => none
def orV1 (b : Option D) : D → Option D
  | .bl false => b
  | .bl true => some (.bl true)
  | _ => none
def intP : D → Option (Option Int)
  | .int i => some (some i)
  | _ => none
theorem andV1_inv {b : Option D} {d r : D} (h : andV1 b d = some r) : (d = .bl true ∧ b = some r) ∨ (d = .bl false ∧ r = .bl false) := by
  cases d with
  | bl k => cases k with
    | true => exact .inl ⟨rfl, h⟩
    | false => cases h; exact .inr ⟨rfl, rfl⟩
  | _ => cases h
theorem orV1_inv {b : Option D} {d r : D} (h : orV1 b d = some r) : (d = .bl false ∧ b = some r) ∨ (d = .bl true ∧ r = .bl true) := by
  cases d with
  | bl k => cases k with
    | false => exact .inl ⟨rfl, h⟩
    | true => cases h; exact .inr ⟨rfl, rfl⟩
  | _ => cases h
theorem intP_inv {d : D} {r : Option Int} (h : intP d = some r) : ∃ i, d = .int i ∧ r = some i := by
  cases d with
  | int i => cases h; exact ⟨i, rfl, rfl⟩
  | _ => cases h
/-! ### names -/
def ixOf : List Str → Str → Option Nat
  | [], _ => none
  | n :: r, x => if n = x then some 0 else (ixOf r x).map (· + 1)
theorem ixOf_get : ∀ {N : List Str} {x : Str} {i : Nat}, ixOf N x = some i → N[i]? = some x
  | [], _, _, h => by cases h
  | n :: r, x, i, h => by
    unfold ixOf at h
    split at h
    · rename_i e
      cases h
      rw [e]
      rfl
    · cases q : ixOf r x with
      | none => rw [q] at h; cases h
      | some j =>
        rw [q] at h
        cases h
        simpa using ixOf_get q
def visK (sc : Scope) (x : Str) : Bool := match sc.names.lookup x with
  | some .local => true
  | some .cell => true
  | some .free => true
  | _ => false
def locK (sc : Scope) (x : Str) : Bool := match sc.names.lookup x with
  | some .local => true
  | _ => false
def glbK (sc : Scope) (x : Str) : Bool := match sc.names.lookup x with
  | some .globalImplicit => true
  | _ => false
theorem vis_of {sc : Scope} {x : Str} (h : visK sc x = true) : Vis sc x := by
  unfold visK at h
  split at h
  · exact .inl (by assumption)
  · exact .inr (.inl (by assumption))
  · exact .inr (.inr (by assumption))
  · cases h
theorem loc_of {sc : Scope} {x : Str} (h : locK sc x = true) : sc.names.lookup x = some .local := by
  unfold locK at h
  split at h
  · assumption
  · cases h
theorem glb_of {X : Cx} {x : Str} (h : glbK X.env.scope x = true) : Gl X x := by
  unfold glbK at h
  split at h
  · assumption
  · cases h
def plainN (x : Str) : Bool := !(x == ("__debug__" : Str)) && !(x == ("__classdict__" : Str)) && !(x == ("__name__" : Str))
theorem plainN_d {x : Str} (h : plainN x = true) : (x == ("__debug__" : Str)) = false := by
  unfold plainN at h
  simp only [Bool.and_eq_true, Bool.not_eq_true'] at h
  exact h.1.1
theorem plainN_c {x : Str} (h : plainN x = true) : (x == ("__classdict__" : Str)) = false := by
  unfold plainN at h
  simp only [Bool.and_eq_true, Bool.not_eq_true'] at h
  exact h.1.2
theorem plainN_n {x : Str} (h : plainN x = true) : x ≠ "__name__" := by
  unfold plainN at h
  simp only [Bool.and_eq_true, Bool.not_eq_true'] at h
  intro e
  rw [e] at h
  exact absurd h.2 (by simp)
/-! ### what an evaluator leans on -/
structure Par where
  dp : Nat
  N : List Str
  ft : Str → Option (List D → Option D)
  gc : Str → Option D
structure Ctx where
  P : Program
  w : World
  K : PySem.W.Frag
  mg : Str → Option Value
  base : Heap
  k : Nat
structure Good (c : Ctx) (N : List Str) (X : Cx) : Prop where
  prog : X.prog = c.P
  w : X.w = c.w
  K : X.K = c.K
  mg : X.mg = c.mg
  base : X.base = c.base
  N : X.N = N
  calm : X.calm = true
  room : Room c.k X.A
structure Ev where
  dp : Nat
  E : Scope → Expr → DEnv → Option D
  T : Scope → Expr → DEnv → Option Bool
def vName (p : Par) (sc : Scope) (x : Str) : DEnv → Option D :=
  if plainN x = true then
    if visK sc x = true then match ixOf p.N x with
      | some i => fun Γ => Γ.getD i none
      | none => fun _ => none
    else if glbK sc x = true then fun _ => p.gc x
    else fun _ => none
  else fun _ => none
def notStar : Expr → Bool
  | .Starred _ _ => false
  | _ => true
def notCall : Expr → Bool
  | .Call _ _ _ _ => false
  | _ => true
def notSet : Expr → Bool
  | .Set _ _ _ => false
  | _ => true
def notSlice : Expr → Bool
  | .Slice _ _ _ _ => false
  | _ => true
def plainT : Expr → Bool
  | .UnaryOp .Not _ _ => false
  | .BoolOp _ _ _ => false
  | .IfExp _ _ _ _ => false
  | .Compare _ _ _ _ => false
  | _ => true
def evA (R : Ev) (sc : Scope) : List Expr → DEnv → Option (List D)
  | [], _ => some []
  | e :: es, Γ => match R.E sc e Γ with
    | some d => (evA R sc es Γ).map (d :: ·)
    | none => none
def evAnd (R : Ev) (sc : Scope) : List Expr → DEnv → Option Bool
  | [], _ => none
  | [e], Γ => R.T sc e Γ
  | e :: e' :: es, Γ => andO (R.T sc e Γ) (evAnd R sc (e' :: es) Γ)
def evOr (R : Ev) (sc : Scope) : List Expr → DEnv → Option Bool
  | [], _ => none
  | [e], Γ => R.T sc e Γ
  | e :: e' :: es, Γ => orO (R.T sc e Γ) (evOr R sc (e' :: es) Γ)
def evAndV (R : Ev) (sc : Scope) : List Expr → DEnv → Option D
  | [], _ => none
  | [e], Γ => R.E sc e Γ
  | e :: e' :: es, Γ => bindO (R.E sc e Γ) (andV1 (evAndV R sc (e' :: es) Γ))
def evOrV (R : Ev) (sc : Scope) : List Expr → DEnv → Option D
  | [], _ => none
  | [e], Γ => R.E sc e Γ
  | e :: e' :: es, Γ => bindO (R.E sc e Γ) (orV1 (evOrV R sc (e' :: es) Γ))
def constD : Const → Option D
  | .none => some .non
  | .bool b => some (.bl b)
  | .int i => some (.int i)
  | .str s => if okB s = true then some (.str s) else none
  | _ => none
def evP (R : Ev) (sc : Scope) : Option Expr → DEnv → Option (Option Int)
  | none, _ => some none
  | some e, Γ => bindO (R.E sc e Γ) intP
def fmtD : D → Option Str
  | .str s => some s
  | .int i => if i.natAbs.log2 < 1920 ∧ okB (Str.ofString (toString i)) = true then some (Str.ofString (toString i)) else none
  | _ => none
def evJ (R : Ev) (sc : Scope) : List Expr → Str → DEnv → Option Str
  | [], acc, _ => some acc
  | .Constant (.str s) _ _ :: es, acc, Γ => if okB s = true ∧ acc.length + s.length ≤ sL then evJ R sc es (acc ++ s) Γ else none
  | .FormattedValue e (-1) none _ :: es, acc, Γ => match R.E sc e Γ with
    | some d => match fmtD d with
      | some s => if acc.length + s.length ≤ sL then evJ R sc es (acc ++ s) Γ else none
      | none => none
    | none => none
  | _ :: _, _, _ => none
def binB (r : Option Bool) : Option D := r.map D.bl
/-! ### arguments, and, or -/
section
variable {c : Ctx} {p : Par} {X : Cx} {R : Ev}
structure Sound (c : Ctx) (N : List Str) (R : Ev) : Prop where
  E : ∀ X, Good c N X → ∀ e, PE X e (rdE X.K (R.E X.env.scope e))
  T : ∀ X, Good c N X → ∀ e, PT X e (rdT X.K (R.T X.env.scope e))
theorem starEach_ok {e : Expr} (h : notStar e = true) (es : List Expr) (env : Env) : starEach (e :: es) env = (false, eval e env) :: starEach es env := by
  cases e <;> first | rfl | cases h
theorem back_ok {pos : Pos} {env : Env} : ∀ {es : List Expr}, es.all notStar = true → (backTo pos (starEach es env)).any (·.1) = false
  | [], _ => rfl
  | e :: es, h => by
    rw [List.all_cons, Bool.and_eq_true] at h
    rw [starEach_ok h.1]
    show (false || (backTo pos (starEach es env)).any (·.1)) = false
    rw [back_ok h.2]
    rfl
theorem base_ok {o : Expr} {m : Str} {env : Env} (h : notCall o = true) : attributeBase o m env (eval o env) = eval o env := by
  unfold attributeBase
  cases o <;> first | rfl | cases h
theorem set_ok {e : Expr} {env : Env} (h : notSet e = true) : ∀ x, foldedSetIterable e env x = pure x := by
  intro x
  unfold foldedSetIterable
  cases e <;> first | rfl | cases h
theorem slice_ok {e : Expr} (h : notSlice e = true) : PlainIx e := by
  intro o i
  cases e <;> first | rfl | cases h
theorem test_ok {e : Expr} {env : Env} (h : plainT e = true) : ∀ whole, isTrue e env whole = (do let v ← whole; standAt e.pos; holding [v] (truthy v)) := by
  intro whole
  cases e <;> first
    | rfl
    | cases h
    | (rename_i op _ _; cases op <;> first | rfl | cases h)
theorem sA (S : Sound c p.N R) (g : Good c p.N X) : ∀ es : List Expr, es.all notStar = true → PA X es (rdA X.K (evA R X.env.scope es))
  | [], _ => pa_imp pa_nil fun σ H Q ⟨G, Γ, ds, hs, he, hf, hq⟩ => by
    cases hf
    exact hq [] G H (Grow.rfl' hs) .nil
  | e :: es, h => by
    rw [List.all_cons, Bool.and_eq_true] at h
    refine pa_imp (pa_cons (S.E X g e) (sA S g es h.2) (starEach_ok h.1 es X.env)) fun σ H Q ⟨G, Γ, ds, hs, he, hf, hq⟩ => ?_
    unfold evA at hf
    split at hf
    · rename_i d hd
      cases q : evA R X.env.scope es Γ with
      | none => rw [q] at hf; cases hf
      | some t =>
        rw [q] at hf
        cases hf
        exact ⟨G, Γ, d, hs, he, hd, fun v G1 H1 w1 r1 => ⟨G1, Γ, t, w1.sub, he.ext w1.g, q, fun vs G2 H2 w2 r2 => hq (v :: vs) G2 H2 (w1.trans w2) (.cons (r1.ext w2.g) r2)⟩⟩
    · cases hf
theorem sAnd (S : Sound c p.N R) (g : Good c p.N X) (pos : Pos) : ∀ es : List Expr, PW X (.BoolOp .And es pos) (rdT X.K (evAnd R X.env.scope es))
  | [] => pw_none fun _ => rfl
  | [e] => pw_and1 (S.T X g e)
  | e :: e' :: es => by
    refine pw_imp (pw_and (S.T X g e) (sAnd S g pos (e' :: es))) fun σ H Q ⟨G, Γ, b, hs, he, hf, hq⟩ => ?_
    rcases andO_inv hf with ⟨h1, hf⟩ | ⟨h1, e1⟩
    ·       exact ⟨G, Γ, true, hs, he, h1, fun G1 H1 w1 => iteT (⟨G1, Γ, b, w1.sub, he.ext w1.g, hf, fun G2 H2 w2 => hq G2 H2 (w1.trans w2)⟩)⟩
    · subst e1
      exact ⟨G, Γ, false, hs, he, h1, fun G1 H1 w1 => iteF (hq G1 H1 w1)⟩
theorem sOr (S : Sound c p.N R) (g : Good c p.N X) (pos : Pos) : ∀ es : List Expr, PW X (.BoolOp .Or es pos) (rdT X.K (evOr R X.env.scope es))
  | [] => pw_none fun _ => rfl
  | [e] => pw_or1 (S.T X g e)
  | e :: e' :: es => by
    refine pw_imp (pw_or (S.T X g e) (sOr S g pos (e' :: es))) fun σ H Q ⟨G, Γ, b, hs, he, hf, hq⟩ => ?_
    rcases orO_inv hf with ⟨h1, hf⟩ | ⟨h1, e1⟩
    ·       exact ⟨G, Γ, false, hs, he, h1, fun G1 H1 w1 => iteF (⟨G1, Γ, b, w1.sub, he.ext w1.g, hf, fun G2 H2 w2 => hq G2 H2 (w1.trans w2)⟩)⟩
    · subst e1
      exact ⟨G, Γ, true, hs, he, h1, fun G1 H1 w1 => iteT (hq G1 H1 w1)⟩
theorem sAndV (S : Sound c p.N R) (g : Good c p.N X) (pos : Pos) : ∀ es : List Expr, PE X (.BoolOp .And es pos) (rdE X.K (evAndV R X.env.scope es))
  | [] => pe_none fun _ => rfl
  | [e] => pe_one (S.E X g e)
  | e :: e' :: es => by
    refine pe_imp (pe_and (S.E X g e) (sAndV S g pos (e' :: es))) fun σ H Q ⟨G, Γ, d, hs, he, hf, hq⟩ => ?_
    obtain ⟨d1, h1, hf⟩ := bindO_inv hf
    rcases andV1_inv hf with ⟨e1, hf⟩ | ⟨e1, e2⟩
    · subst e1
      exact ⟨G, Γ, .bl true, hs, he, h1, fun v G1 H1 w1 r1 => ⟨true, r1.of_bl, iteT (⟨G1, Γ, d, w1.sub, he.ext w1.g, hf, fun v G2 H2 w2 => hq v G2 H2 (w1.trans w2)⟩)⟩⟩
    · subst e1 e2
      exact ⟨G, Γ, .bl false, hs, he, h1, fun v G1 H1 w1 r1 => ⟨false, r1.of_bl, iteF (hq _ G1 H1 w1 (.bl false))⟩⟩
theorem sOrV (S : Sound c p.N R) (g : Good c p.N X) (pos : Pos) : ∀ es : List Expr, PE X (.BoolOp .Or es pos) (rdE X.K (evOrV R X.env.scope es))
  | [] => pe_none fun _ => rfl
  | [e] => pe_one (S.E X g e)
  | e :: e' :: es => by
    refine pe_imp (pe_or (S.E X g e) (sOrV S g pos (e' :: es))) fun σ H Q ⟨G, Γ, d, hs, he, hf, hq⟩ => ?_
    obtain ⟨d1, h1, hf⟩ := bindO_inv hf
    rcases orV1_inv hf with ⟨e1, hf⟩ | ⟨e1, e2⟩
    · subst e1
      exact ⟨G, Γ, .bl false, hs, he, h1, fun v G1 H1 w1 r1 => ⟨false, r1.of_bl, iteF (⟨G1, Γ, d, w1.sub, he.ext w1.g, hf, fun v G2 H2 w2 => hq v G2 H2 (w1.trans w2)⟩)⟩⟩
    · subst e1 e2
      exact ⟨G, Γ, .bl true, hs, he, h1, fun v G1 H1 w1 r1 => ⟨true, r1.of_bl, iteT (hq _ G1 H1 w1 (.bl true))⟩⟩
theorem sName (g : Good c p.N X) (hc : ∀ x d, p.gc x = some d → ∃ v u, c.mg x = some u ∧ RelV v u ∧ ∀ H, Rep c.K H v d) (x : Str) (pos : Pos) : PE X (.Name x pos) (rdE X.K (vName p X.env.scope x)) := by
  unfold vName
  split
  · rename_i hn
    split
    · rename_i hv
      split
      · rename_i i hi
        refine pe_imp (pe_var (i := i) (by rw [g.N]; exact ixOf_get hi) (vis_of hv) (plainN_d hn) (plainN_c hn)) fun σ H Q ⟨G, Γ, d, hs, he, hf, hq⟩ => ?_
        have h1 : Γ[i]? = some (some d) := by
          have hf : Γ.getD i none = some d := hf
          rw [List.getD_eq_getElem?_getD] at hf
          cases q : Γ[i]? with
          | none => rw [q] at hf; cases hf
          | some o => rw [q] at hf; exact congrArg some hf
        obtain ⟨v, e1, r1⟩ := he.get i d h1
        exact ⟨v, e1, hq v G H (Grow.rfl' hs) r1⟩
      · exact pe_none fun _ => rfl
    · split
      · rename_i hg
        cases q : p.gc x with
        | none => exact pe_none fun _ => rfl
        | some d0 =>
          obtain ⟨v, u, h1, h2, h3⟩ := hc x d0 q
          refine pe_imp (pe_glob (glb_of hg) (by rw [g.mg]; exact h1) h2 (plainN_d hn)) fun σ H Q ⟨G, Γ, d, hs, he, hf, hq⟩ => ?_
          cases hf
          exact hq v G H (Grow.rfl' hs) (by rw [g.K]; exact h3 G)
      · exact pe_none fun _ => rfl
  · exact pe_none fun _ => rfl
theorem sConst (cc : Const) (j : Nat) (pos : Pos) : PE X (.Constant cc j pos) (rdE X.K fun _ => constD cc) := by
  cases cc with
  | none => exact pe_imp pe_non fun σ H Q ⟨G, Γ, d, hs, he, hf, hq⟩ => by cases hf; exact hq _ G H (Grow.rfl' hs) .non
  | bool b => exact pe_imp pe_bl fun σ H Q ⟨G, Γ, d, hs, he, hf, hq⟩ => by cases hf; exact hq _ G H (Grow.rfl' hs) (.bl b)
  | int i => exact pe_imp pe_int fun σ H Q ⟨G, Γ, d, hs, he, hf, hq⟩ => by cases hf; exact hq _ G H (Grow.rfl' hs) (.int i)
  | str s =>
    refine pe_imp pe_str fun σ H Q ⟨G, Γ, d, hs, he, hf, hq⟩ => ?_
    have hf : (if okB s = true then some (D.str s) else none) = some d := hf
    split at hf
    · cases hf
      exact hq _ G H (Grow.rfl' hs) (.str s (okB_ok (by assumption)))
    · cases hf
  | _ => exact pe_none fun _ => rfl
end
end Ag
set_option Elab.async false
set_option linter.all false
set_option autoImplicit false
set_option maxRecDepth 100000
set_option maxHeartbeats 1000000
namespace Ag
open PySem PySem.Spec L2 TL
def negD : D → Option D
  | .int i => some (.int (-i))
  | _ => none
def notD : D → Option D
  | .bl b => some (.bl (!b))
  | _ => none
def fldD (f : Str) : D → Option D
  | .ins c ds => (c.flds.zip ds).lookup f
  | _ => none
def evBin (R : Ev) (sc : Scope) (op : Operator) (a b : Expr) (Γ : DEnv) : Option D := bind2 (R.E sc a Γ) (R.E sc b Γ) (binD op)
def evCmp (R : Ev) (sc : Scope) (op : CmpOp) (a b : Expr) (Γ : DEnv) : Option Bool := bind2 (R.E sc a Γ) (R.E sc b Γ) (cmpD R.dp op)
def evChain (R : Ev) (sc : Scope) (op op' : CmpOp) (a b c : Expr) (Γ : DEnv) : Option Bool := bind2 (R.E sc a Γ) (R.E sc b Γ) fun x y => andO (cmpD R.dp op x y) (bindO (R.E sc c Γ) (cmpD R.dp op' y))
def evNeg (R : Ev) (sc : Scope) (a : Expr) (Γ : DEnv) : Option D := bindO (R.E sc a Γ) negD
def evNotV (R : Ev) (sc : Scope) (a : Expr) (Γ : DEnv) : Option D := bindO (R.E sc a Γ) notD
def evIf (R : Ev) (sc : Scope) (t a b : Expr) (Γ : DEnv) : Option D := iteO (R.T sc t Γ) (R.E sc a Γ) (R.E sc b Γ)
def evTru (R : Ev) (sc : Scope) (a : Expr) (Γ : DEnv) : Option Bool := bindO (R.E sc a Γ) truD
def evFld (R : Ev) (sc : Scope) (a : Expr) (f : Str) (Γ : DEnv) : Option D := bindO (R.E sc a Γ) (fldD f)
def evIx (R : Ev) (sc : Scope) (a b : Expr) (Γ : DEnv) : Option D := bind2 (R.E sc a Γ) (R.E sc b Γ) ixD
def evSl (R : Ev) (sc : Scope) (a : Expr) (lo hi : Option Expr) (Γ : DEnv) : Option D := bindO (R.E sc a Γ) fun x => bindO (evP R sc lo Γ) fun l => bindO (evP R sc hi Γ) (slD x l)
/-! ### isinstance -/
inductive Ty0 where
  | int | bool | str | list | tuple
  deriving DecidableEq
def Ty0.nm : Ty0 → String
  | .int => "int" | .bool => "bool" | .str => "str" | .list => "list" | .tuple => "tuple"
def Ty0.of (x : Str) : Option Ty0 := if x = "int" then some .int else if x = "bool" then some .bool else if x = "str" then some .str else if x = "list" then some .list else if x = "tuple" then some .tuple else none
theorem Ty0.of_nm {x : Str} {t : Ty0} (h : Ty0.of x = some t) : x = Str.ofString t.nm := by
  unfold Ty0.of at h
  split at h
  · cases h; assumption
  · split at h
    · cases h; assumption
    · split at h
      · cases h; assumption
      · split at h
        · cases h; assumption
        · split at h
          · cases h; assumption
          · cases h
def isi0 : D → Ty0 → Option Bool
  | .non, _ => some false
  | .bl _, .bool => some true
  | .bl _, .int => some true
  | .bl _, _ => some false
  | .int _, .int => some true
  | .int _, _ => some false
  | .str _, .str => some true
  | .str _, _ => some false
  | .lst _, .list => some true
  | .lst _, _ => some false
  | .tup _, .tuple => some true
  | .tup _, _ => some false
  | .ins .ratio _, .int => some false
  | .ins _ _, _ => none
  | .emp, _ => none
  | .obj _, _ => none
def isiC : D → Cl → Option Bool
  | .ins c _, c' => if c = c' then some true else none
  | .non, .ratio => some false
  | _, _ => none
def Cl.of (x : Str) : Option Cl := if x = "Ratio" then some .ratio else if x = "Table" then some .table else if x = "Tally" then some .tally else if x = "Form" then some .form else if x = "Program" then some .program else if x = "Runs" then some .runs else none
theorem Cl.of_nm {x : Str} {t : Cl} (h : Cl.of x = some t) : x = t.nm := by
  unfold Cl.of at h
  split at h
  · cases h; assumption
  · split at h
    · cases h; assumption
    · split at h
      · cases h; assumption
      · split at h
        · cases h; assumption
        · split at h
          · cases h; assumption
          · split at h
            · cases h; assumption
            · cases h
/-- what the written part says of a class -/
structure ClF (K : PySem.W.Frag) (mg : Str → Option Value) (c : Cl) : Prop where
  g : mg c.nm = some (.ref (He.ga K c.nm))
  cls : Cls K (He.ga K c.nm)
  ha : PySem.W.findIn K (.ref (He.ga K c.nm)) "__class__" = some (some (.builtin "object.__class__"))
  hn : PySem.W.specialIn K (.builtin "object.__class__") "__get__" = some (some (.builtin "getset_descriptor.__get__"))
  ht : PySem.W.takesIn K (.builtin "object.__class__") = some true
  hm : PySem.W.mroIn K (He.ga K c.nm) (.type "object") = some true
  no : ∀ f ∈ c.flds, NoAttr K (He.ga K c.nm) f
structure IsiF (c : Ctx) : Prop where
  fi : c.mg "isinstance" = none
  ft : ∀ t : Ty0, c.mg (Str.ofString t.nm) = none
  cl : ∀ t : Cl, ClF c.K c.mg t
  rI : PySem.W.kitOne c.K (.ref (He.ga c.K "Ratio")) (.type "int") = some false
  nR : PySem.W.kitOne c.K (.type "NoneType") (.ref (He.ga c.K "Ratio")) = some false
def tyD (K : PySem.W.Frag) : D → Value
  | .non => .type "NoneType"
  | .bl _ => .type "bool"
  | .int _ => .type "int"
  | .str _ => .type "str"
  | .lst _ => .type "list"
  | .tup _ => .type "tuple"
  | .ins c _ => .ref (He.ga K c.nm)
  | _ => .type "object"
def okTy : D → Bool
  | .emp => false
  | .obj _ => false
  | _ => true
theorem okTy0 {d : D} {t : Ty0} {b : Bool} (h : isi0 d t = some b) : okTy d = true := by
  cases d <;> first
    | rfl
    | (cases t <;> cases h)
theorem okTyC {d : D} {t : Cl} {b : Bool} (h : isiC d t = some b) : okTy d = true := by
  cases d <;> first
    | rfl
    | (cases t <;> cases h)
section
variable {c : Ctx} {p : Par} {X : Cx} {R : Ev}
theorem tyX_of {H : Hp} {x : V} {d : D} (F : IsiF c) (ho : okTy d = true) (h : Rep c.K H x d) : TyX c.K H x (tyD c.K d) := by
  cases h with
  | non => exact .base .non
  | bl b => exact .base (.bl b)
  | int i => exact .base (.int i)
  | str s o => exact .base (.str s)
  | tup h r =>
    rcases h with (h | ⟨o, h⟩) | ⟨o, its, n, h1, h2, _⟩
    · exact .base (.tup h)
    · exact .fTuple h
    · exact .kTuple h1 h2
  | lst h r => exact .base (.lst h)
  | @ins a dx fs cl ds h hn r =>
    have T := F.cl cl
    exact .base (.ins h T.cls T.ha T.hn T.ht T.hm)
  | emp h => cases ho
  | obj a => cases ho
theorem kit0 (F : IsiF c) {d : D} {t : Ty0} {b : Bool} (h : isi0 d t = some b) : PySem.W.kitOne c.K (tyD c.K d) (.type t.nm) = some b := by
  cases d with
  | ins cl ds =>
    cases cl <;> cases t <;> first
      | (cases h; done)
      | (cases h; exact F.rI)
  | emp => cases t <;> cases h
  | obj a => cases t <;> cases h
  | _ => cases t <;> (cases h; exact kit_ty (by decide +kernel))
theorem kitC (F : IsiF c) {d : D} {t : Cl} {b : Bool} (h : isiC d t = some b) : PySem.W.kitOne c.K (tyD c.K d) (.ref (He.ga c.K t.nm)) = some b := by
  cases d with
  | ins cl ds =>
    have h : (if cl = t then some true else none) = some b := h
    split at h
    · rename_i e
      cases h
      subst e
      unfold PySem.W.kitOne
      exact if_pos (beq_self_eq_true _)
    · cases h
  | non =>
    cases t <;> first
      | (cases h; done)
      | (cases h; exact F.nR)
  | _ => cases t <;> cases h
/-- the class that a name says -/
def isiK (R : Ev) (sc : Scope) : List Expr → DEnv → Option Bool
  | [e, .Name t _] => if glbK sc t = true ∧ plainN t = true ∧ notStar e = true then match Ty0.of t with
      | some ty => fun Γ => (R.E sc e Γ).bind fun d => isi0 d ty
      | none => match Cl.of t with
        | some cl => fun Γ => (R.E sc e Γ).bind fun d => isiC d cl
        | none => fun _ => none
    else fun _ => none
  | [e, .Tuple [.Name t1 _, .Name t2 _] _ _] => if (glbK sc t1 = true ∧ plainN t1 = true) ∧ (glbK sc t2 = true ∧ plainN t2 = true) ∧ notStar e = true then match Ty0.of t1, Ty0.of t2 with
      | some y1, some y2 => fun Γ => (R.E sc e Γ).bind fun d => match isi0 d y1 with
        | some true => some true
        | some false => isi0 d y2
        | none => none
      | _, _ => fun _ => none
    else fun _ => none
  | _ => fun _ => none
def isiE (R : Ev) (sc : Scope) (es : List Expr) (Γ : DEnv) : Option D := (isiK R sc es Γ).map D.bl
theorem peTy (g : Good c p.N X) (F : IsiF c) {x : Str} {t : Ty0} {pos : Pos} (hg : glbK X.env.scope x = true) (hp : plainN x = true) (h : Ty0.of x = some t) : PE X (.Name x pos) (tC (.ty t.nm)) := by
  have e := Ty0.of_nm h
  have hm : X.mg x = none := by rw [g.mg, e]; exact F.ft t
  have hb : bootBuiltins x = some (.type t.nm) := by
    rw [e]
    cases t <;> decide +kernel
  exact pe_bltn (glb_of hg) hm hb rfl (plainN_n hp) (plainN_d hp)
theorem sIsi (g : Good c p.N X) (S : Sound c p.N R) (F : IsiF c) (es : List Expr) (pp pos : Pos) (hg : glbK X.env.scope "isinstance" = true) : PE X (.Call (.Name "isinstance" pp) es [] pos) (rdE X.K (isiE R X.env.scope es)) := by
  have hmi : X.mg "isinstance" = none := by rw [g.mg]; exact F.fi
  unfold isiE isiK
  split
  · rename_i e t tp
    split
    · rename_i hh
      obtain ⟨h1, h2, h3⟩ := hh
      cases hty : Ty0.of t with
      | some ty =>
        refine pe_imp (pe_callB call_isi (glb_of hg) hmi (by decide +kernel) (pa_cons (S.E X g e) (pa_cons (peTy g F h1 h2 hty) pa_nil) (starEach_ok h3 _ _)) (by decide) (by decide) (starEach_ok h3 _ _) rfl) fun σ H Q ⟨G, Γ, d, hs, he, hf, hq⟩ => ?_
        have hf : ((R.E X.env.scope e Γ).bind fun d => isi0 d ty).map D.bl = some d := hf
        cases q : R.E X.env.scope e Γ with
        | none => rw [q] at hf; cases hf
        | some d0 =>
          rw [q] at hf
          have hf : (isi0 d0 ty).map D.bl = some d := hf
          cases q2 : isi0 d0 ty with
          | none => rw [q2] at hf; cases hf
          | some b =>
            rw [q2] at hf
            cases hf
            refine ⟨G, Γ, d0, hs, he, q, fun v G1 H1 w1 r1 => ⟨v, _, tyD X.K d0, _, b, rfl, .ty _, ?_, ?_, hq _ G1 H1 w1 (.bl b)⟩⟩
            · have r2 := r1.ext w1.sub
              rw [g.K] at r2 ⊢
              exact tyX_of F (okTy0 q2) r2
            · rw [g.K]
              exact kit0 F q2
      | none =>
        cases hcl : Cl.of t with
        | some cl =>
          have ecl := Cl.of_nm hcl
          have T := F.cl cl
          refine pe_imp (pe_callB call_isi (glb_of hg) hmi (by decide +kernel) (pa_cons (S.E X g e) (pa_cons (pe_glob (v := .ref (He.ga c.K cl.nm)) (glb_of h1) (by rw [g.mg, ecl]; exact T.g) rfl (plainN_d h2)) pa_nil) (starEach_ok h3 _ _)) (by decide) (by decide) (starEach_ok h3 _ _) rfl) fun σ H Q ⟨G, Γ, d, hs, he, hf, hq⟩ => ?_
          have hf : ((R.E X.env.scope e Γ).bind fun d => isiC d cl).map D.bl = some d := hf
          cases q : R.E X.env.scope e Γ with
          | none => rw [q] at hf; cases hf
          | some d0 =>
            rw [q] at hf
            have hf : (isiC d0 cl).map D.bl = some d := hf
            cases q2 : isiC d0 cl with
            | none => rw [q2] at hf; cases hf
            | some b =>
              rw [q2] at hf
              cases hf
              refine ⟨G, Γ, d0, hs, he, q, fun v G1 H1 w1 r1 => ⟨v, _, tyD X.K d0, _, b, rfl, .own _, ?_, ?_, hq _ G1 H1 w1 (.bl b)⟩⟩
              · have r2 := r1.ext w1.sub
                rw [g.K] at r2 ⊢
                exact tyX_of F (okTyC q2) r2
              · rw [g.K]
                exact kitC F q2
        | none => exact pe_none fun _ => rfl
    · exact pe_none fun _ => rfl
  · rename_i e t1 p1 t2 p2 kk tp
    split
    · rename_i hh
      obtain ⟨⟨h1, h1'⟩, ⟨h2, h2'⟩, h3⟩ := hh
      cases hy1 : Ty0.of t1 with
      | none => exact pe_none fun _ => rfl
      | some y1 =>
      cases hy2 : Ty0.of t2 with
      | none => exact pe_none fun _ => rfl
      | some y2 =>
        refine pe_imp (pe_callB call_isiT (glb_of hg) hmi (by decide +kernel) (pa_cons (S.E X g e) (pa_cons (pe_tup (pa_cons (peTy g F h1 h1' hy1) (pa_cons (peTy g F h2 h2' hy2) pa_nil))) pa_nil) (starEach_ok h3 _ _)) (by decide) (by decide) (starEach_ok h3 _ _) rfl) fun σ H Q ⟨G, Γ, d, hs, he, hf, hq⟩ => ?_
        have hf : ((R.E X.env.scope e Γ).bind fun d => match isi0 d y1 with
          | some true => some true
          | some false => isi0 d y2
          | none => none).map D.bl = some d := hf
        cases q : R.E X.env.scope e Γ with
        | none => rw [q] at hf; cases hf
        | some d0 =>
          rw [q] at hf
          have hf : (match isi0 d0 y1 with
            | some true => some true
            | some false => isi0 d0 y2
            | none => none).map D.bl = some d := hf
          have key : ∃ b, d = .bl b ∧ PySem.W.kitAny c.K (tyD c.K d0) [.type y1.nm, .type y2.nm] = some b := by
            cases q1 : isi0 d0 y1 with
            | none => rw [q1] at hf; cases hf
            | some b1 =>
              rw [q1] at hf
              cases b1 with
              | true =>
                cases hf
                exact ⟨true, rfl, kitAny_cons (kit0 F q1) (fun z => by cases z) fun _ => rfl⟩
              | false =>
                have hf : (isi0 d0 y2).map D.bl = some d := hf
                cases q2 : isi0 d0 y2 with
                | none => rw [q2] at hf; cases hf
                | some b2 =>
                  rw [q2] at hf
                  cases hf
                  refine ⟨b2, rfl, kitAny_cons (kit0 F q1) (fun _ => kitAny_cons (kit0 F q2) (fun z => ?_) fun z => z) fun z => by cases z⟩
                  rw [z]
                  rfl
          obtain ⟨b, rfl, hk⟩ := key
          have hoT : okTy d0 = true := by
            cases q1 : isi0 d0 y1 with
            | some b1 => exact okTy0 q1
            | none =>
              exfalso
              simp [q1] at hf
          refine ⟨G, Γ, d0, hs, he, q, fun v G1 H1 w1 r1 => ⟨by rw [sizeLine_eq]; simp, fun tp' htp => ?_⟩⟩
          have w2 := w1.trans (Grow.new (o := .tup [.ty y1.nm, .ty y2.nm]) w1.sub htp)
          refine ⟨v, tp', _, tyD X.K d0, _, b, rfl, upd_same, .cons (.ty _) (.cons (.ty _) .nil), ?_, by rw [g.K]; exact hk, hq _ _ _ w2 (.bl b)⟩
          have r2 := r1.ext (w1.sub.trans (Ext.upd (o := .tup [.ty y1.nm, .ty y2.nm]) htp))
          rw [g.K] at r2 ⊢
          exact tyX_of F hoT r2
    · exact pe_none fun _ => rfl
  · exact pe_none fun _ => rfl
end
end Ag
set_option Elab.async false
set_option linter.all false
set_option autoImplicit false
set_option maxRecDepth 100000
set_option maxHeartbeats 1000000
namespace Ag
open PySem PySem.Spec L2 TL
section
variable {c : Ctx} {p : Par} {X : Cx} {R : Ev}
theorem sBin (g : Good c p.N X) (S : Sound c p.N R) (op : Operator) (a b : Expr) (pos : Pos) : PE X (.BinOp a op b pos) (rdE X.K (evBin R X.env.scope op a b)) := by
  refine pe_imp (pe_op (op_bin op) (S.E X g a) (S.E X g b)) fun σ H Q ⟨G, Γ, d, hs, he, hf, hq⟩ => ?_
  obtain ⟨x, y, h1, h2, hf⟩ := bind2_inv hf
  · skip
    exact ⟨G, Γ, x, hs, he, h1, fun v G1 H1 w1 r1 => ⟨G1, Γ, y, w1.sub, he.ext w1.g, h2, fun u G2 H2 w2 r2 => ⟨G2, x, y, d, w2.sub, r1.ext w2.g, r2, hf, fun z G3 H3 w3 => hq z G3 H3 ((w1.trans w2).trans w3)⟩⟩⟩
theorem sCmpV (g : Good c p.N X) (S : Sound c p.N R) (hN : DeepIn X R.dp) (op : CmpOp) (a b : Expr) (pos : Pos) (hb : notSet b = true) : PE X (.Compare a [op] [b] pos) (rdE X.K fun Γ => (evCmp R X.env.scope op a b Γ).map D.bl) := by
  have hm : behindInMarks op b = false := by cases b <;> first | rfl | cases hb
  refine pe_imp (pe_cmpR (op_cmp g.room.units hN op) (S.E X g a) (S.E X g b) hm) fun σ H Q ⟨G, Γ, d, hs, he, hf, hq⟩ => ?_
  have hf : (evCmp R X.env.scope op a b Γ).map D.bl = some d := hf
  cases q0 : evCmp R X.env.scope op a b Γ with
  | none => rw [q0] at hf; cases hf
  | some k =>
    rw [q0] at hf
    cases hf
    obtain ⟨x, y, h1, h2, q⟩ := bind2_inv q0
    exact ⟨G, Γ, x, hs, he, h1, fun v G1 H1 w1 r1 => ⟨G1, Γ, y, w1.sub, he.ext w1.g, h2, fun u G2 H2 w2 r2 => ⟨x, y, k, (r1.ext w2.g).ext w2.sub, r2.ext w2.sub, q, fun H3 e3 => hq _ G2 H3 ((w1.trans w2).trans (Grow.same w2.sub e3)) (.bl k)⟩⟩⟩
theorem sCmpT (g : Good c p.N X) (S : Sound c p.N R) (hN : DeepIn X R.dp) (op : CmpOp) (a b : Expr) (pos : Pos) (hb : notSet b = true) : PT X (.Compare a [op] [b] pos) (rdT X.K (evCmp R X.env.scope op a b)) := by
  have hm : behindInMarks op b = false := by cases b <;> first | rfl | cases hb
  refine pt_imp (pt_cmpR (op_cmp g.room.units hN op) (S.E X g a) (S.E X g b) hm) fun σ H Q ⟨G, Γ, k, hs, he, hf, hq⟩ => ?_
  obtain ⟨x, y, h1, h2, hf⟩ := bind2_inv hf
  · skip
    exact ⟨G, Γ, x, hs, he, h1, fun v G1 H1 w1 r1 => ⟨G1, Γ, y, w1.sub, he.ext w1.g, h2, fun u G2 H2 w2 r2 => ⟨x, y, k, (r1.ext w2.g).ext w2.sub, r2.ext w2.sub, hf, fun H3 e3 => ⟨k, rfl, hq G2 H3 ((w1.trans w2).trans (Grow.same w2.sub e3))⟩⟩⟩⟩
theorem sChainT (g : Good c p.N X) (S : Sound c p.N R) (hN : DeepIn X R.dp) (op op' : CmpOp) (a b b' : Expr) (pos : Pos) (hb : notSet b' = true) : PT X (.Compare a [op, op'] [b, b'] pos) (rdT X.K (evChain R X.env.scope op op' a b b')) := by
  have hm : lastMarks [op, op'] [b, b'] = false := by
    show behindInMarks op' b' = false
    cases b' <;> first | rfl | cases hb
  refine pt_imp (pt_chain (op_cmp g.room.units hN op) (op_cmp g.room.units hN op') (S.E X g a) (S.E X g b) (S.E X g b') hm) fun σ H Q ⟨G, Γ, k, hs, he, hf, hq⟩ => ?_
  obtain ⟨x, y, h1, h2, hf⟩ := bind2_inv hf
  rcases andO_inv hf with ⟨q, hf⟩ | ⟨q, e1⟩
  · obtain ⟨z, h3, hf⟩ := bindO_inv hf
    exact ⟨G, Γ, x, hs, he, h1, fun v G1 H1 w1 r1 => ⟨G1, Γ, y, w1.sub, he.ext w1.g, h2, fun u G2 H2 w2 r2 => ⟨x, y, true, (r1.ext w2.g).ext w2.sub, r2.ext w2.sub, q, fun H3 e3 => ⟨true, rfl, iteT (by
          have w3 := (w1.trans w2).trans (Grow.same w2.sub e3)
          exact ⟨G2, Γ, z, w3.sub, he.ext w3.g, h3, fun t G4 H4 w4 r4 => ⟨y, z, k, (r2.ext w4.g).ext w4.sub, r4.ext w4.sub, hf, fun H5 e5 => ⟨k, rfl, hq G4 H5 ((w3.trans w4).trans (Grow.same w4.sub e5))⟩⟩⟩)⟩⟩⟩⟩
  · subst e1
    exact ⟨G, Γ, x, hs, he, h1, fun v G1 H1 w1 r1 => ⟨G1, Γ, y, w1.sub, he.ext w1.g, h2, fun u G2 H2 w2 r2 => ⟨x, y, false, (r1.ext w2.g).ext w2.sub, r2.ext w2.sub, q, fun H3 e3 => ⟨false, rfl, iteF ⟨false, rfl, hq G2 H3 ((w1.trans w2).trans (Grow.same w2.sub e3))⟩⟩⟩⟩⟩
theorem sNeg (g : Good c p.N X) (S : Sound c p.N R) (a : Expr) (pos : Pos) : PE X (.UnaryOp .USub a pos) (rdE X.K (evNeg R X.env.scope a)) := by
  refine pe_imp (pe_un un_neg (S.E X g a)) fun σ H Q ⟨G, Γ, d, hs, he, hf, hq⟩ => ?_
  obtain ⟨d0, h1, hf⟩ := bindO_inv hf
  unfold negD at hf
  split at hf
  · rename_i i
    cases hf
    exact ⟨G, Γ, .int i, hs, he, h1, fun v G1 H1 w1 r1 => ⟨i, r1.of_int, hq _ G1 H1 w1 (.int _)⟩⟩
  · cases hf
theorem sNotV (g : Good c p.N X) (S : Sound c p.N R) (a : Expr) (pos : Pos) : PE X (.UnaryOp .Not a pos) (rdE X.K (evNotV R X.env.scope a)) := by
  refine pe_imp (pe_not (S.E X g a)) fun σ H Q ⟨G, Γ, d, hs, he, hf, hq⟩ => ?_
  obtain ⟨d0, h1, hf⟩ := bindO_inv hf
  unfold notD at hf
  split at hf
  · rename_i b
    cases hf
    exact ⟨G, Γ, .bl b, hs, he, h1, fun v G1 H1 w1 r1 => ⟨b, r1.of_bl, hq _ G1 H1 w1 (.bl _)⟩⟩
  · cases hf
theorem sNotT (g : Good c p.N X) (S : Sound c p.N R) (a : Expr) (pos : Pos) : PT X (.UnaryOp .Not a pos) (rdT X.K fun Γ => (R.T X.env.scope a Γ).map (!·)) := by
  refine pt_imp (pt_not (S.T X g a)) fun σ H Q ⟨G, Γ, d, hs, he, hf, hq⟩ => ?_
  have hf : (R.T X.env.scope a Γ).map (!·) = some d := hf
  cases q : R.T X.env.scope a Γ with
  | none => rw [q] at hf; cases hf
  | some b =>
    rw [q] at hf
    cases hf
    exact ⟨G, Γ, b, hs, he, q, hq⟩
theorem sTru (g : Good c p.N X) (S : Sound c p.N R) (a : Expr) (h : plainT a = true) : PT X a (rdT X.K (evTru R X.env.scope a)) := by
  refine pt_imp (pt_truth (S.E X g a) (test_ok h)) fun σ H Q ⟨G, Γ, d, hs, he, hf, hq⟩ => ?_
  obtain ⟨x, h1, hf⟩ := bindO_inv hf
  · skip
    exact ⟨G, Γ, x, hs, he, h1, fun v G1 H1 w1 r1 => ⟨d, tru_D (r1.ext w1.sub) hf, hq G1 H1 w1⟩⟩
theorem sIf (g : Good c p.N X) (S : Sound c p.N R) (t a b : Expr) (pos : Pos) : PE X (.IfExp t a b pos) (rdE X.K (evIf R X.env.scope t a b)) := by
  refine pe_imp (pe_ifExp (S.T X g t) (S.E X g a) (S.E X g b)) fun σ H Q ⟨G, Γ, d, hs, he, hf, hq⟩ => ?_
  rcases iteO_inv hf with ⟨h1, hf⟩ | ⟨h1, hf⟩
  · exact ⟨G, Γ, true, hs, he, h1, fun G1 H1 w1 => iteT ⟨G1, Γ, d, w1.sub, he.ext w1.g, hf, fun v G2 H2 w2 => hq v G2 H2 (w1.trans w2)⟩⟩
  · exact ⟨G, Γ, false, hs, he, h1, fun G1 H1 w1 => iteF ⟨G1, Γ, d, w1.sub, he.ext w1.g, hf, fun v G2 H2 w2 => hq v G2 H2 (w1.trans w2)⟩⟩
theorem lookup_zip_mem {f : Str} {d : D} : ∀ {ns : List Str} {ds : List D}, (ns.zip ds).lookup f = some d → f ∈ ns
  | [], _, h => by cases h
  | _ :: _, [], h => by cases h
  | n :: ns, e :: ds, h => by
    have h : (match f == n with | true => some e | false => (ns.zip ds).lookup f) = some d := h
    cases q : f == n with
    | true => rw [beq_iff_eq.mp q]; exact List.mem_cons_self
    | false => rw [q] at h; exact List.mem_cons_of_mem _ (lookup_zip_mem h)
theorem sFld (g : Good c p.N X) (S : Sound c p.N R) (F : IsiF c) (a : Expr) (f : Str) (pos : Pos) (h : notCall a = true) : PE X (.Attribute a f pos) (rdE X.K (evFld R X.env.scope a f)) := by
  refine pe_imp (pe_fld (S.E X g a) (base_ok h)) fun σ H Q ⟨G, Γ, d, hs, he, hf, hq⟩ => ?_
  obtain ⟨d0, h1, hf⟩ := bindO_inv hf
  unfold fldD at hf
  split at hf
  · rename_i cl ds
    refine ⟨G, Γ, _, hs, he, h1, fun v G1 H1 w1 r1 => ?_⟩
    obtain ⟨x, dx, fs, rfl, hx, hn, r2⟩ := r1.of_ins
    obtain ⟨u, h2, h3⟩ := lookup_zipF hn r2 hf
    have T := F.cl cl
    refine ⟨x, _, dx, fs, u, rfl, w1.sub _ _ hx, ?_, ?_, h2, hq u G1 H1 w1 h3⟩
    · rw [g.K]; exact T.cls
    · rw [g.K]; exact T.no f (lookup_zip_mem hf)
  · cases hf
theorem sIx (g : Good c p.N X) (S : Sound c p.N R) (a b : Expr) (pos : Pos) (h : notSlice b = true) : PE X (.Subscript a b pos) (rdE X.K (evIx R X.env.scope a b)) := by
  refine pe_imp (pe_ix ix_D (S.E X g a) (S.E X g b) (slice_ok h)) fun σ H Q ⟨G, Γ, d, hs, he, hf, hq⟩ => ?_
  obtain ⟨x, y, h1, h2, hf⟩ := bind2_inv hf
  · skip
    exact ⟨G, Γ, x, hs, he, h1, fun v G1 H1 w1 r1 => ⟨G1, Γ, y, w1.sub, he.ext w1.g, h2, fun u G2 H2 w2 r2 => ⟨G2, x, y, d, w2.sub, r1.ext w2.g, r2, hf, fun z G3 H3 w3 => hq z G3 H3 ((w1.trans w2).trans w3)⟩⟩⟩
def rdP (K : PySem.W.Frag) (f : DEnv → Option (Option Int)) : TO := fun σ H Q => ∃ G Γ o, Ext G H ∧ EnvR K G σ Γ ∧ f Γ = some o ∧ ∀ G' H', Grow G H G' H' → Q o H'
theorem po_imp {e : Option Expr} {t t' : TO} (h : PO X e t) (w : ∀ σ H Q, t' σ H Q → t σ H Q) : PO X e t' := ⟨fun pins s σ H Q I q => h.run pins s σ H Q I (w σ H Q q)⟩
theorem sP (g : Good c p.N X) (S : Sound c p.N R) : ∀ o : Option Expr, PO X o (rdP X.K (evP R X.env.scope o))
  | none => po_imp po_none fun σ H Q ⟨G, Γ, o, hs, he, hf, hq⟩ => by cases hf; exact hq G H (Grow.rfl' hs)
  | some e => po_imp (po_some (S.E X g e)) fun σ H Q ⟨G, Γ, o, hs, he, hf, hq⟩ => by
    have hf : bindO (R.E X.env.scope e Γ) intP = some o := hf
    obtain ⟨d0, h1, hf⟩ := bindO_inv hf
    obtain ⟨i, e1, e2⟩ := intP_inv hf
    subst e1 e2
    exact ⟨G, Γ, _, hs, he, h1, fun v G1 H1 w1 r1 => ⟨i, r1.of_int, hq G1 H1 w1⟩⟩
theorem sSl (g : Good c p.N X) (S : Sound c p.N R) (a : Expr) (lo hi : Option Expr) (p2 pos : Pos) : PE X (.Subscript a (.Slice lo hi none p2) pos) (rdE X.K (evSl R X.env.scope a lo hi)) := by
  refine pe_imp (pe_slice sl_D (S.E X g a) (sP g S lo) (sP g S hi)) fun σ H Q ⟨G, Γ, d, hs, he, hf, hq⟩ => ?_
  obtain ⟨x, h1, hf⟩ := bindO_inv hf
  obtain ⟨l, h2, hf⟩ := bindO_inv hf
  obtain ⟨h, h3, hf⟩ := bindO_inv hf
  · skip
    exact ⟨G, Γ, x, hs, he, h1, fun v G1 H1 w1 r1 => ⟨G1, Γ, l, w1.sub, he.ext w1.g, h2, fun G2 H2 w2 => ⟨G2, Γ, h, w2.sub, (he.ext w1.g).ext w2.g, h3, fun G3 H3 w3 =>
      ⟨G3, x, d, w3.sub, (r1.ext w2.g).ext w3.g, hf, fun z G4 H4 w4 => hq z G4 H4 (((w1.trans w2).trans w3).trans w4)⟩⟩⟩⟩
theorem sTup (g : Good c p.N X) (S : Sound c p.N R) (es : List Expr) (k : Nat) (pos : Pos) (h : es.all notStar = true) (h2 : es.length ≤ 100) : PE X (.Tuple es k pos) (rdE X.K fun Γ => (evA R X.env.scope es Γ).map D.tup) := by
  refine pe_imp (pe_tup (sA S g es h)) fun σ H Q ⟨G, Γ, d, hs, he, hf, hq⟩ => ?_
  have hf : (evA R X.env.scope es Γ).map D.tup = some d := hf
  cases q : evA R X.env.scope es Γ with
  | none => rw [q] at hf; cases hf
  | some ds =>
    rw [q] at hf
    cases hf
    have hl : ∀ {es : List Expr} {ds : List D}, evA R X.env.scope es Γ = some ds → ds.length = es.length := by
      intro es
      induction es with
      | nil => intro ds h; cases h; rfl
      | cons e es ih =>
        intro ds h
        unfold evA at h
        split at h
        · cases q2 : evA R X.env.scope es Γ with
          | none => rw [q2] at h; cases h
          | some t => rw [q2] at h; cases h; rw [List.length_cons, List.length_cons, ih q2]
        · cases h
    exact ⟨G, Γ, ds, hs, he, q, fun vs G1 H1 w1 r1 => ⟨by rw [r1.length, hl q, sizeLine_eq]; omega, fun l hl => hq _ _ _ (w1.trans (Grow.new w1.sub hl)) (.tup (SqT.of upd_same) (r1.ext (Ext.upd (Ext.back w1.sub hl))))⟩⟩
theorem sLst (g : Good c p.N X) (S : Sound c p.N R) (es : List Expr) (pos : Pos) (h : es.all notStar = true) (h2 : es.length ≤ 100) : PE X (.List es pos) (rdE X.K fun Γ => (evA R X.env.scope es Γ).map D.lst) := by
  refine pe_imp (pe_lst (sA S g es h)) fun σ H Q ⟨G, Γ, d, hs, he, hf, hq⟩ => ?_
  have hf : (evA R X.env.scope es Γ).map D.lst = some d := hf
  cases q : evA R X.env.scope es Γ with
  | none => rw [q] at hf; cases hf
  | some ds =>
    rw [q] at hf
    cases hf
    have hl : ∀ {es : List Expr} {ds : List D}, evA R X.env.scope es Γ = some ds → ds.length = es.length := by
      intro es
      induction es with
      | nil => intro ds h; cases h; rfl
      | cons e es ih =>
        intro ds h
        unfold evA at h
        split at h
        · cases q2 : evA R X.env.scope es Γ with
          | none => rw [q2] at h; cases h
          | some t => rw [q2] at h; cases h; rw [List.length_cons, List.length_cons, ih q2]
        · cases h
    exact ⟨G, Γ, ds, hs, he, q, fun vs G1 H1 w1 r1 => ⟨by rw [r1.length, hl q, sizeLine_eq]; omega, fun l hl => hq _ _ _ (w1.trans (Grow.new w1.sub hl)) (.lst upd_same (r1.ext (Ext.upd (Ext.back w1.sub hl))))⟩⟩
theorem sSplit (g : Good c p.N X) (S : Sound c p.N R) (o e : Expr) (apos pos : Pos) (h1 : notCall o = true) (h2 : notStar e = true) (h3 : (apos.endLine == pos.line) = true) : PE X (.Call (.Attribute o "split" apos) [e] [] pos) (rdE X.K fun Γ => bind2 (R.E X.env.scope o Γ) (R.E X.env.scope e Γ) splitD) := by
  refine pe_imp (pe_split (S.E X g o) (S.E X g e) (starEach_ok h2 [] X.env) (base_ok h1) h3) fun σ H Q ⟨G, Γ, d, hs, he, hf, hq⟩ => ?_
  have hf : bind2 (R.E X.env.scope o Γ) (R.E X.env.scope e Γ) splitD = some d := hf
  obtain ⟨x, y, q1, q2, hf⟩ := bind2_inv hf
  · skip
    refine ⟨G, Γ, x, hs, he, q1, fun v G1 H1 w1 r1 => ⟨?_, G1, Γ, y, w1.sub, he.ext w1.g, q2, fun u G2 H2 w2 r2 => ?_⟩⟩
    · unfold splitD at hf
      split at hf
      · exact ⟨_, r1.of_str.1⟩
      · cases hf
    · exact split_D (dx := x) w2.sub (r1.ext w2.g) r2 hf fun z G3 H3 w3 => hq z G3 H3 ((w1.trans w2).trans w3)
theorem sJoin (g : Good c p.N X) (S : Sound c p.N R) (o e : Expr) (apos pos : Pos) (h1 : notCall o = true) (h2 : notStar e = true) (h3 : (apos.endLine == pos.line) = true) : PE X (.Call (.Attribute o "join" apos) [e] [] pos) (rdE X.K fun Γ => bind2 (R.E X.env.scope o Γ) (R.E X.env.scope e Γ) joinD) := by
  refine pe_imp (pe_join (S.E X g o) (S.E X g e) (starEach_ok h2 [] X.env) (base_ok h1) h3) fun σ H Q ⟨G, Γ, d, hs, he, hf, hq⟩ => ?_
  have hf : bind2 (R.E X.env.scope o Γ) (R.E X.env.scope e Γ) joinD = some d := hf
  obtain ⟨x, y, q1, q2, hf⟩ := bind2_inv hf
  · skip
    refine ⟨G, Γ, x, hs, he, q1, fun v G1 H1 w1 r1 => ⟨?_, G1, Γ, y, w1.sub, he.ext w1.g, q2, fun u G2 H2 w2 r2 => ?_⟩⟩
    · unfold joinD at hf
      split at hf
      · exact ⟨_, r1.of_str.1⟩
      · cases hf
    · exact join_D (dx := x) w2.sub (r1.ext w2.g) r2 hf fun z G3 H3 w3 => hq z G3 H3 ((w1.trans w2).trans w3)
/-- the pieces of an f-string -/
def okJ : List Expr → Bool
  | [] => true
  | .Constant (.str _) _ _ :: es => okJ es
  | .FormattedValue _ (-1) none _ :: es => okJ es
  | _ :: _ => false
theorem sJ (g : Good c p.N X) (S : Sound c p.N R) : ∀ es : List Expr, okJ es = true → ∃ ts, PJ X es ts ∧ ∀ (acc : Str) (σ : L2.St) (H : Hp) (Q : Str → Hp → Prop) (G : Hp) (Γ : DEnv) (out : Str), OkS acc → Ext G H → EnvR X.K G σ Γ → evJ R X.env.scope es acc Γ = some out → (∀ G' H', Grow G H G' H' → OkS out → Q out H') → tJs ts acc σ H Q
  | [], _ => ⟨[], .nil, fun acc σ H Q G Γ out ho hs he hf hq => by cases hf; exact hq G H (Grow.rfl' hs) ho⟩
  | e :: es, hk => by
    unfold okJ at hk
    split at hk
    · rename_i heq; cases heq
    · rename_i s j pos es' heq
      cases heq
      obtain ⟨ts, h1, h2⟩ := sJ g S es hk
      refine ⟨tC (.str s) :: ts, .cons pe_str h1, fun acc σ H Q G Γ out ho hs he hf hq => ?_⟩
      have hf : (if okB s = true ∧ acc.length + s.length ≤ sL then evJ R X.env.scope es (acc ++ s) Γ else none) = some out := hf
      split at hf
      · rename_i hh
        have ho2 := ho.app (okB_ok hh.1) hh.2
        exact ⟨s, rfl, Nat.le_of_lt (Nat.lt_of_le_of_lt ho2.len sL_line), h2 _ σ H Q G Γ out ho2 hs he hf hq⟩
      · cases hf
    · rename_i e' pos es' heq
      cases heq
      obtain ⟨ts, h1, h2⟩ := sJ g S es hk
      refine ⟨tFmt (rdE X.K (R.E X.env.scope e')) :: ts, .cons (pe_fmt (S.E X g e')) h1, fun acc σ H Q G Γ out ho hs he hf hq => ?_⟩
      have hf : (match R.E X.env.scope e' Γ with
        | some d => match fmtD d with
          | some s => if acc.length + s.length ≤ sL then evJ R X.env.scope es (acc ++ s) Γ else none
          | none => none
        | none => none) = some out := hf
      split at hf
      · rename_i d q1
        split at hf
        · rename_i s q2
          split at hf
          · rename_i hl
            refine ⟨G, Γ, d, hs, he, q1, fun v G1 H1 w1 r1 => ?_⟩
            unfold fmtD at q2
            split at q2
            · cases q2
              obtain ⟨rfl, o2⟩ := r1.of_str
              have ho2 := ho.app o2 hl
              exact .inl ⟨_, rfl, Nat.le_of_lt (Nat.lt_of_le_of_lt o2.len sL_line), _, rfl, Nat.le_of_lt (Nat.lt_of_le_of_lt ho2.len sL_line), h2 _ σ H1 Q G1 Γ out ho2 w1.sub (he.ext w1.g) hf fun G' H' w => hq G' H' (w1.trans w)⟩
            · split at q2
              · rename_i hh
                cases q2
                obtain rfl := r1.of_int
                have ho2 := ho.app (okB_ok hh.2) hl
                exact .inr ⟨_, rfl, hh.1, _, rfl, Nat.le_of_lt (Nat.lt_of_le_of_lt ho2.len sL_line), h2 _ σ H1 Q G1 Γ out ho2 w1.sub (he.ext w1.g) hf fun G' H' w => hq G' H' (w1.trans w)⟩
              · cases q2
            · cases q2
          · cases hf
        · cases hf
      · cases hf
    · cases hk
theorem ok_empty : OkS Str.empty := ⟨Nat.zero_le _, by decide +kernel⟩
theorem sJoined (g : Good c p.N X) (S : Sound c p.N R) (v1 v2 : Expr) (es : List Expr) (pos : Pos) (hk : okJ (v1 :: v2 :: es) = true) : PE X (.JoinedStr (v1 :: v2 :: es) pos) (rdE X.K fun Γ => (evJ R X.env.scope (v1 :: v2 :: es) Str.empty Γ).map D.str) := by
  obtain ⟨ts, h1, h2⟩ := sJ g S _ hk
  refine pe_imp (pe_joined h1) fun σ H Q ⟨G, Γ, d, hs, he, hf, hq⟩ => ?_
  have hf : (evJ R X.env.scope (v1 :: v2 :: es) Str.empty Γ).map D.str = some d := hf
  cases q : evJ R X.env.scope (v1 :: v2 :: es) Str.empty Γ with
  | none => rw [q] at hf; cases hf
  | some out =>
    rw [q] at hf
    cases hf
    exact h2 _ σ H _ G Γ out ok_empty hs he q fun G' H' w o => hq _ G' H' w (.str _ o)
end
end Ag
set_option Elab.async false
set_option linter.all false
set_option autoImplicit false
set_option maxRecDepth 100000
set_option maxHeartbeats 1000000
namespace Ag
open PySem PySem.Spec L2 TL
/-! ### targets -/
def sets {α : Type} : List (Option α) → List Nat → List α → List (Option α)
  | Γ, i :: is, d :: ds => sets (Γ.set i (some d)) is ds
  | Γ, _, _ => Γ
abbrev Tg : Type := Sum Nat (List Nat)
def nameIx (N : List Str) (sc : Scope) : Expr → Option Nat
  | .Name x _ => if locK sc x = true then ixOf N x else none
  | _ => none
def namesIx (N : List Str) (sc : Scope) : List Expr → Option (List Nat)
  | [] => some []
  | e :: es => match nameIx N sc e, namesIx N sc es with
    | some i, some is => some (i :: is)
    | _, _ => none
def tgIx (N : List Str) (sc : Scope) : Expr → Option Tg
  | .Name x p => (nameIx N sc (.Name x p)).map .inl
  | .Tuple es _ _ => (namesIx N sc es).map .inr
  | _ => none
def tgSet : Tg → D → DEnv → Option DEnv
  | .inl i, d, Γ => some (Γ.set i (some d))
  | .inr is, .tup ds, Γ => if ds.length = is.length then some (sets Γ is ds) else none
  | _, _, _ => none
def tgAll : Tg → List Nat
  | .inl i => [i]
  | .inr is => is
def gNames (is : List Nat) : TGs := fun vs σ H Q => vs.length = is.length ∧ Q (sets σ is vs) H
def gTg (K : PySem.W.Frag) : Tg → TG
  | .inl i => gName i
  | .inr is => gTup K is.length (gNames is)
theorem EnvR.sets {K : PySem.W.Frag} {G : Hp} : ∀ {is : List Nat} {σ : L2.St} {Γ : DEnv} {vs : List V} {ds : List D}, EnvR K G σ Γ → Reps K G vs ds → EnvR K G (Ag.sets σ is vs) (Ag.sets Γ is ds)
  | [], σ, Γ, vs, ds, r, h => by
    cases h <;> exact r
  | i :: is, σ, Γ, _, _, r, .nil => r
  | i :: is, σ, Γ, _, _, r, .cons (v := v) (d := d) (vs := vs) (ds := ds) h t => by
    show EnvR K G (Ag.sets (σ.set i (some v)) is vs) (Ag.sets (Γ.set i (some d)) is ds)
    exact EnvR.sets (r.set i h) t
theorem sets_wipe {α : Type} {vs : List Nat} (w : List (Option α) → List Nat → List (Option α)) (hw : ∀ σ i x, i ∈ vs → w (σ.set i x) vs = w σ vs) : ∀ (is : List Nat) (σ : List (Option α)) (xs : List α), (∀ i ∈ is, i ∈ vs) → w (sets σ is xs) vs = w σ vs
  | [], σ, xs, _ => by cases xs <;> rfl
  | i :: is, σ, [], _ => rfl
  | i :: is, σ, x :: xs, h => by
    show w (sets (σ.set i (some x)) is xs) vs = _
    rw [sets_wipe w hw is _ xs fun j hj => h j (List.mem_cons_of_mem _ hj), hw _ _ _ (h i List.mem_cons_self)]
theorem wipe_set {i : Nat} {x : Option V} : ∀ {vs : List Nat} {σ : L2.St}, i ∈ vs → wipe (σ.set i x) vs = wipe σ vs
  | v :: vs, σ, h => by
    show (wipe (σ.set i x) vs).set v none = (wipe σ vs).set v none
    by_cases hi : i ∈ vs
    · rw [wipe_set hi]
    · have e : i = v := (List.mem_cons.mp h).elim id fun z => absurd z hi
      subst e
      have key : ∀ (vs : List Nat) (σ : L2.St), i ∉ vs → wipe (σ.set i x) vs = (wipe σ vs).set i x := by
        intro vs
        induction vs with
        | nil => intro σ _; rfl
        | cons u us ih =>
          intro σ hn
          simp only [List.mem_cons, not_or] at hn
          show (wipe (σ.set i x) us).set u none = ((wipe σ us).set u none).set i x
          rw [ih σ hn.2, List.set_comm _ _ hn.1]
      rw [key vs σ hi, List.set_set]
theorem wipe_wipe (vs : List Nat) (σ : L2.St) : wipe (wipe σ vs) vs = wipe σ vs := by
  have key : ∀ (us : List Nat) (σ : L2.St), (∀ u ∈ us, u ∈ vs) → wipe (wipe σ us) vs = wipe σ vs := by
    intro us
    induction us with
    | nil => intro σ _; rfl
    | cons u us ih =>
      intro σ h
      show wipe ((wipe σ us).set u none) vs = _
      rw [wipe_set (h u List.mem_cons_self), ih σ fun v hv => h v (List.mem_cons_of_mem _ hv)]
  exact key vs σ fun _ h => h
def wipeD (Γ : DEnv) : List Nat → DEnv
  | [] => Γ
  | v :: vs => (wipeD Γ vs).set v none
theorem wipeD_len (Γ : DEnv) : ∀ vs, (wipeD Γ vs).length = Γ.length
  | [] => rfl
  | v :: vs => by unfold wipeD; rw [List.length_set, wipeD_len Γ vs]
theorem EnvR.wipe {K : PySem.W.Frag} {G : Hp} {σ : L2.St} {Γ : DEnv} (r : EnvR K G σ Γ) : ∀ vs : List Nat, EnvR K G (L2.wipe σ vs) (wipeD Γ vs)
  | [] => r
  | v :: vs => by
    have ih := EnvR.wipe r vs
    refine ⟨by rw [wipe_length, wipeD_len]; exact r.len, fun j d hj => ?_⟩
    have hj : ((wipeD Γ vs).set v none)[j]? = some (some d) := hj
    by_cases q : v = j
    · subst q
      by_cases hl : v < (wipeD Γ vs).length
      · rw [List.getElem?_set_self hl] at hj
        cases hj
      · rw [List.getElem?_eq_none (by simpa using hl)] at hj
        cases hj
    · rw [List.getElem?_set_ne q] at hj
      obtain ⟨v', h1, h2⟩ := ih.get j d hj
      refine ⟨v', ?_, h2⟩
      show ((L2.wipe σ vs).set v none)[j]? = _
      rw [List.getElem?_set_ne q]
      exact h1
section
variable {c : Ctx} {p : Par} {X : Cx} {R : Ev}
theorem nameIx_ok {N : List Str} {sc : Scope} {e : Expr} {i : Nat} (h : nameIx N sc e = some i) : ∃ x pos, e = .Name x pos ∧ locK sc x = true ∧ ixOf N x = some i := by
  unfold nameIx at h
  split at h
  · split at h
    · exact ⟨_, _, rfl, by assumption, h⟩
    · cases h
  · cases h
theorem sPgName (g : Good c p.N X) (hN : p.N.Nodup) {x : Str} {pos : Pos} {i : Nat} (h1 : locK X.env.scope x = true) (h2 : ixOf p.N x = some i) : PG X (.Name x pos) (gName i) := by
  have hl := loc_of h1
  exact pg_name (by rw [g.N]; exact hN) (by rw [g.N]; exact ixOf_get h2) (.inl hl) (.inr hl)
theorem sNames (g : Good c p.N X) (hN : p.N.Nodup) : ∀ {es : List Expr} {is : List Nat}, namesIx p.N X.env.scope es = some is → PGs X es (gNames is) ∧ (assignEach es X.env).length = is.length ∧ (assignEach es X.env).findIdx? (·.1) = none
  | [], is, h => by
    cases h
    refine ⟨⟨fun pins s σ H vs us Q I r ⟨hl, hq⟩ => ?_⟩, rfl, rfl⟩
    have e : vs = [] := List.eq_nil_of_length_eq_zero hl
    subst e
    exact pgs_nil.run pins s σ H [] us Q I r ⟨rfl, hq⟩
  | e :: es, is, h => by
    unfold namesIx at h
    split at h
    · rename_i i js h1 h2
      cases h
      obtain ⟨x, pos, rfl, h3, h4⟩ := nameIx_ok h1
      obtain ⟨k1, k2, k3⟩ := sNames g hN h2
      have ea : assignEach (.Name x pos :: es) X.env = (false, assign (.Name x pos) X.env) :: assignEach es X.env := rfl
      refine ⟨⟨fun pins s σ H vs us Q I r ⟨hl, hq⟩ => ?_⟩, ?_, ?_⟩
      · cases vs with
        | nil => cases hl
        | cons v vs =>
          refine (pgs_cons (sPgName g hN h3 h4) k1 rfl).run pins s σ H (v :: vs) us Q I r ⟨v, vs, rfl, ?_⟩
          exact ⟨by simpa using hl, hq⟩
      · rw [ea, List.length_cons, List.length_cons, k2]
      · rw [ea, List.findIdx?_cons]
        simp [k3]
    · cases h
theorem sTg (g : Good c p.N X) (hN : p.N.Nodup) {tg : Expr} {t : Tg} (h : tgIx p.N X.env.scope tg = some t) : PG X tg (gTg X.K t) := by
  unfold tgIx at h
  split at h
  · rename_i x pos
    cases q : nameIx p.N X.env.scope (.Name x pos) with
    | none => rw [q] at h; cases h
    | some i =>
      rw [q] at h
      cases h
      obtain ⟨x', pos', e, h3, h4⟩ := nameIx_ok q
      cases e
      exact sPgName g hN h3 h4
  · rename_i es k pos
    cases q : namesIx p.N X.env.scope es with
    | none => rw [q] at h; cases h
    | some is =>
      rw [q] at h
      cases h
      obtain ⟨k1, k2, k3⟩ := sNames g hN q
      exact pg_tup g.calm k1 k2 k3
  · cases h
/-- a target takes what stands for d -/
theorem tg_take {K : PySem.W.Frag} {G H : Hp} {t : Tg} {d : D} {v : V} {σ : L2.St} {Γ Γ' : DEnv} {Q : L2.St → Hp → Prop} (hs : Ext G H) (he : EnvR K G σ Γ) (hv : Rep K G v d) (h : tgSet t d Γ = some Γ')
    (hq : ∀ σ', EnvR K G σ' Γ' → (∀ vs, (∀ i ∈ tgAll t, i ∈ vs) → wipe σ' vs = wipe σ vs) → Q σ' H) : gTg K t v σ H Q := by
  cases t with
  | inl i =>
    cases h
    exact hq _ (he.set i hv) fun vs hm => wipe_set (hm i List.mem_cons_self)
  | inr is =>
    cases d with
    | tup ds =>
      have h : (if ds.length = is.length then some (sets Γ is ds) else none) = some Γ' := h
      split at h
      · rename_i hl
        cases h
        obtain ⟨a, vs, rfl, hs2, r⟩ := hv.of_tup
        refine ⟨a, vs, rfl, hs2.ext hs, by rw [r.length]; exact hl, by rw [r.length]; exact hl, hq _ (he.sets r) fun us hm => ?_⟩
        exact sets_wipe wipe (fun σ i x hi => wipe_set hi) is σ vs hm
      · cases h
    | _ => cases h
/-! ### what is walked -/
def WalkD (K : PySem.W.Frag) (J : It) (G0 : Hp) (ds : List D) : Prop := ds.length ≤ sizeLine ∧ ∀ (i : Nat) (G H : Hp), Ext G0 G → Ext G H →
  (i < ds.length → J.go i H ∧ ∀ x H', J.yld i H x H' → ∃ G' d, Grow G H G' H' ∧ ds[i]? = some d ∧ Rep K G' x d) ∧ (ds.length ≤ i → J.stop i H)
def rdI (K : PySem.W.Frag) (f : DEnv → Option (List D)) : TI := fun σ H W => ∃ G Γ ds, Ext G H ∧ EnvR K G σ Γ ∧ f Γ = some ds ∧ ∀ J G' H', Grow G H G' H' → WalkD K J G' ds → W J H'
def seqD : D → Option (List D)
  | .lst ds => some ds
  | .tup ds => some ds
  | .str s => some ((tl s).map fun c => .str (mkS [c]))
  | _ => none
def enumD (ds : List D) : List D := ds.zipIdx.map fun z => .tup [.int (z.2 : Nat), z.1]
def rangeD : D → Option (List D)
  | .int n => if 0 ≤ n ∧ n ≤ 1000000 then some ((List.range n.toNat).map fun k => .int (k : Nat)) else none
  | _ => none
theorem walk_list {K : PySem.W.Frag} {G : Hp} {a : Addr} {vs : List V} {ds : List D} (h : G a = some (.lst vs)) (r : Reps K G vs ds) (hl : ds.length ≤ sizeLine) : WalkD K (Itl K a) G ds := by
  refine ⟨hl, fun i G1 H1 e1 e2 => ⟨fun hi => ?_, fun hi => ⟨vs, SqL.of (e2 _ _ (e1 _ _ h)), by rw [r.length]; exact hi⟩⟩⟩
  obtain ⟨v, hv, rv⟩ := r.get (List.getElem?_eq_getElem hi)
  refine ⟨⟨vs, v, SqL.of (e2 _ _ (e1 _ _ h)), hv⟩, fun x H' y => ?_⟩
  obtain ⟨rfl, y⟩ := y
  have := y vs (SqL.of (e2 _ _ (e1 _ _ h)))
  rw [hv] at this
  cases this
  exact ⟨G1, _, Grow.rfl' e2, List.getElem?_eq_getElem hi, rv.ext e1⟩
theorem walk_tup {K : PySem.W.Frag} {G : Hp} {a : Addr} {vs : List V} {ds : List D} (h : SqT K G a vs) (r : Reps K G vs ds) (hl : ds.length ≤ sizeLine) : WalkD K (Itt K a) G ds := by
  refine ⟨hl, fun i G1 H1 e1 e2 => ⟨fun hi => ?_, fun hi => ⟨vs, (h.ext e1).ext e2, by rw [r.length]; exact hi⟩⟩⟩
  obtain ⟨v, hv, rv⟩ := r.get (List.getElem?_eq_getElem hi)
  refine ⟨⟨vs, v, (h.ext e1).ext e2, hv⟩, fun x H' y => ?_⟩
  obtain ⟨rfl, y⟩ := y
  have := y vs ((h.ext e1).ext e2)
  rw [hv] at this
  cases this
  exact ⟨G1, _, Grow.rfl' e2, List.getElem?_eq_getElem hi, rv.ext e1⟩
theorem walk_str {K : PySem.W.Frag} {G : Hp} {s : Str} (o : OkS s) : WalkD K (Its s) G ((tl s).map fun c => .str (mkS [c])) := by
  refine ⟨by rw [List.length_map, ← len_tl]; exact Nat.le_of_lt (Nat.lt_of_le_of_lt o.len sL_line), fun i G1 H1 e1 e2 => ⟨fun hi => ?_, fun hi => ?_⟩⟩
  · rw [List.length_map, Array.length_toList] at hi
    refine ⟨hi, fun x H' y => ?_⟩
    obtain ⟨rfl, c, hc, rfl⟩ := y
    refine ⟨G1, _, Grow.rfl' e2, ?_, .str _ (o.one (c := c) ?_)⟩
    · rw [List.getElem?_map, Array.getElem?_toList, hc]
      rfl
    · exact List.mem_of_getElem? (by rw [Array.getElem?_toList]; exact hc)
  · rw [List.length_map, Array.length_toList] at hi
    exact hi
theorem walk_range {K : PySem.W.Frag} {G : Hp} (n : Nat) (h : n ≤ sizeLine) : WalkD K (Itr 0 n) G ((List.range n).map fun k => .int (k : Nat)) := by
  refine ⟨by rw [List.length_map, List.length_range]; exact h, fun i G1 H1 e1 e2 => ⟨fun hi => ?_, fun hi => ?_⟩⟩
  · rw [List.length_map, List.length_range] at hi
    refine ⟨hi, fun x H' y => ?_⟩
    obtain ⟨rfl, rfl⟩ := y
    refine ⟨G1, .int (i : Nat), Grow.rfl' e2, ?_, ?_⟩
    · rw [List.getElem?_map, List.getElem?_range hi]
      rfl
    · rw [Int.zero_add]
      exact .int _
  · rw [List.length_map, List.length_range] at hi
    exact hi
theorem walk_enum {K : PySem.W.Frag} {G : Hp} {a : Addr} {vs : List V} {ds : List D} (h : G a = some (.lst vs)) (r : Reps K G vs ds) (hl : ds.length ≤ sizeLine) : WalkD K (Ite K a) G (enumD ds) := by
  have hlen : (enumD ds).length = ds.length := by unfold enumD; rw [List.length_map, List.length_zipIdx]
  refine ⟨by rw [hlen]; exact hl, fun i G1 H1 e1 e2 => ⟨fun hi => ?_, fun hi => ⟨vs, SqL.of (e2 _ _ (e1 _ _ h)), by rw [r.length, ← hlen]; exact hi⟩⟩⟩
  rw [hlen] at hi
  obtain ⟨v, hv, rv⟩ := r.get (List.getElem?_eq_getElem hi)
  refine ⟨⟨vs, v, SqL.of (e2 _ _ (e1 _ _ h)), hv⟩, fun x H' y => ?_⟩
  obtain ⟨T, u, rfl, hT, rfl, y⟩ := y
  have := y vs (SqL.of (e2 _ _ (e1 _ _ h)))
  rw [hv] at this
  cases this
  refine ⟨_, .tup [.int (i : Nat), ds[i]], Grow.new e2 hT, ?_, .tup (SqT.of upd_same) (.cons (.int _) (.cons ((rv.ext e1).ext (Ext.upd (Ext.back e2 hT))) .nil))⟩
  unfold enumD
  rw [List.getElem?_map, List.getElem?_zipIdx, List.getElem?_eq_getElem hi]
  simp
theorem len_line {pins : List (Addr × Obj)} {σ : L2.St} {H : Hp} {s : Shared} {a : Addr} {vs : List V} (I : Inv X pins σ H s) (h : SqL X.K H a vs) : vs.length ≤ sizeLine := (I.list h).choose_spec.2.2
theorem len_lineT {pins : List (Addr × Obj)} {σ : L2.St} {H : Hp} {s : Shared} {a : Addr} {vs : List V} (I : Inv X pins σ H s) (h : SqT X.K H a vs) : vs.length ≤ sizeLine := (I.tuple h).choose_spec.2.2
end
end Ag
set_option Elab.async false
set_option linter.all false
set_option autoImplicit false
set_option maxRecDepth 100000
set_option maxHeartbeats 1000000
namespace Ag
open PySem PySem.Spec L2 TL
/-- one turn: none if it has no reading, some none if the tests say no -/
def lcOne (t : Tg) (Γ : DEnv) (test : DEnv → Option Bool) (elt : DEnv → Option D) (d : D) : Option (Option D) := match tgSet t d Γ with
  | none => none
  | some Γ' => match test Γ' with
    | none => none
    | some false => some none
    | some true => match elt Γ' with
      | some v => some (some v)
      | none => none
def mapE (h : D → Option (Option D)) : List D → Option (List D)
  | [] => some []
  | d :: r => match h d with
    | none => none
    | some none => mapE h r
    | some (some v) => match mapE h r with
      | some vs => some (v :: vs)
      | none => none
def mapLC (t : Tg) (Γ : DEnv) (test : DEnv → Option Bool) (elt : DEnv → Option D) (ds : List D) : Option (List D) := mapE (lcOne t Γ test elt) ds
theorem mapLC_cons (t : Tg) (Γ : DEnv) (test : DEnv → Option Bool) (elt : DEnv → Option D) (d : D) (r : List D) : mapLC t Γ test elt (d :: r) = match tgSet t d Γ with
    | none => none
    | some Γ' => match test Γ' with
      | none => none
      | some false => mapLC t Γ test elt r
      | some true => match elt Γ', mapLC t Γ test elt r with
        | some v, some vs => some (v :: vs)
        | _, _ => none := by
  show (match lcOne t Γ test elt d with
    | none => none
    | some none => mapE (lcOne t Γ test elt) r
    | some (some v) => match mapE (lcOne t Γ test elt) r with
      | some vs => some (v :: vs)
      | none => none) = _
  unfold lcOne
  cases tgSet t d Γ with
  | none => rfl
  | some Γ' =>
    dsimp only
    cases test Γ' with
    | none => rfl
    | some b =>
      cases b with
      | false => rfl
      | true =>
        dsimp only
        cases elt Γ' with
        | none => rfl
        | some v =>
          dsimp only
          show (match mapE (lcOne t Γ test elt) r with
            | some vs => some (v :: vs)
            | none => none) = match some v, mapE (lcOne t Γ test elt) r with
              | some v, some vs => some (v :: vs)
              | _, _ => none
          cases mapE (lcOne t Γ test elt) r <;> rfl
def isTup : Expr → Bool
  | .Tuple _ _ _ => true
  | _ => false
def enumO : D → Option (List D)
  | .lst ds => some (enumD ds)
  | _ => none
def evI (R : Ev) (sc : Scope) (tg iter : Expr) (Γ : DEnv) : Option (List D) := match iter with
  | .Call (.Name x _) [e] [] _ =>
    if x = "range" then (if glbK sc x = true ∧ notStar e = true then bindO (R.E sc e Γ) rangeD else none)
    else if x = "enumerate" then (if glbK sc x = true ∧ notStar e = true ∧ isTup tg = true then bindO (R.E sc e Γ) enumO else none)
    else bindO (R.E sc iter Γ) seqD
  | _ => bindO (R.E sc iter Γ) seqD
def ownIx (N : List Str) : List (Str × NameKind) → Option (List (Str × Nat))
  | [] => some []
  | (x, k) :: r => match k with
    | .local => match ixOf N x, ownIx N r with
      | some i, some l => some ((x, i) :: l)
      | none, some l => some l
      | _, none => none
    | .cell => match ixOf N x, ownIx N r with
      | some i, some l => some ((x, i) :: l)
      | none, some l => some l
      | _, none => none
    | _ => ownIx N r
def evTs (R : Ev) (sc : Scope) : List Expr → Option (DEnv → Option Bool)
  | [] => some fun _ => some true
  | [e] => some (R.T sc e)
  | _ => none
def evLC (p : Par) (R : Ev) (sc : Scope) (elt tg iter : Expr) (ifs : List Expr) (scope : Scope) : DEnv → Option D :=
  match ownIx p.N scope.names, tgIx p.N (relS scope sc) tg, evTs R (relS scope sc) ifs with
  | some own, some t, some ft => if blkC p.N sc scope own = true ∧ (tgAll t).all (fun i => (own.map (·.2)).contains i) = true ∧ notSet iter = true then
      fun Γ => match evI R sc tg iter Γ with
        | some ds => (mapLC t (wipeD Γ (own.map (·.2))) ft (R.E (relS scope sc) elt) ds).map D.lst
        | none => none
    else fun _ => none
  | _, _, _ => fun _ => none
section
variable {c : Ctx} {p : Par} {X : Cx} {R : Ev}
structure ItF (c : Ctx) : Prop where
  range : c.mg "range" = none
  enum : c.mg "enumerate" = none
theorem good_blk (g : Good c p.N X) (s : Shared) (H : Hp) (scope : Scope) (C : Addr) (cl : List (Str × Addr)) (fp : List Addr) : Good c p.N (X.blk s H scope (compEnvC scope cl C X.env) fp) :=
  ⟨g.prog, g.w, g.K, g.mg, g.base, g.N, g.calm, g.room⟩
theorem pe_len {e : Expr} {t : TE} (h : PE X e t) : PE X e fun σ H Q => t σ H fun v H' => (∀ a vs, SqL X.K H' a vs → vs.length ≤ sizeLine) → Q v H' :=
  ⟨fun pins s σ H Q I hw => thn (h.run pins s σ H _ I hw) fun v s1 ⟨x, H1, I1, rx, q⟩ => ⟨x, H1, I1, rx, q fun a vs hv => len_line I1 hv⟩⟩
theorem pi_imp {tg it : Expr} {t t' : TI} (h : PI X tg it t) (w : ∀ σ H Q, t' σ H Q → t σ H Q) : PI X tg it t' := ⟨fun pins s σ H Q I q => h.run pins s σ H Q I (w σ H Q q)⟩
theorem sSeq (g : Good c p.N X) (S : Sound c p.N R) (tg e : Expr) : PI X tg e (rdI X.K fun Γ => bindO (R.E X.env.scope e Γ) seqD) := by
  refine ⟨fun pins s σ H W I ⟨G, Γ, ds, hs, he, hf, hq⟩ => ?_⟩
  have hf : bindO (R.E X.env.scope e Γ) seqD = some ds := hf
  cases q : R.E X.env.scope e Γ with
  | none => rw [q] at hf; cases hf
  | some d =>
    rw [q] at hf
    have hf : seqD d = some ds := hf
    have hE := S.E X g e
    cases d with
    | lst es =>
      cases hf
      refine thn (hE.run pins s σ H (fun v H1 => ∃ G1 a vs, v = .ref a ∧ Grow G H G1 H1 ∧ G1 a = some (.lst vs) ∧ Reps X.K G1 vs ds) I ⟨G, Γ, _, hs, he, q, fun v G1 H1 w1 r1 => ?_⟩) fun v s1 h1 => ?_
      · obtain ⟨a, vs, rfl, h2, h3⟩ := r1.of_lst
        exact ⟨G1, a, vs, rfl, w1, h2, h3⟩
      · obtain ⟨x, H1, I1, rx, G1, a, vs, rfl, w1, h2, h3⟩ := h1
        have I1' := I1
        cases rx
        have hl := len_line I1 (SqL.of (w1.sub _ _ h2))
        obtain ⟨its, rv, pl, hz⟩ := I1.list (SqL.of (w1.sub _ _ h2))
        refine wpAny_pyIter_list pl.isList ?_
        refine ⟨s1.heap.objs.size, [s1.heap.objs.size], _, _, H1, rfl, I1.kept (t' := s1.toks) fun b o e => Heap.get?_push_of_some _ e, turn_list a _, ⟨_, Heap.get?_push_size _ rfl, rfl, rfl⟩, fun b hb => ?_, hq _ G1 H1 w1 (walk_list h2 h3 (by rw [← h3.length]; exact hl))⟩
        have e : b = s1.heap.objs.size := by simpa using hb
        subst e
        exact I1.fpOk (Nat.le_refl _) (I1.hok.fresh (Nat.le_refl _))
    | tup es =>
      cases hf
      refine thn (hE.run pins s σ H (fun v H1 => ∃ G1 a vs, v = .ref a ∧ Grow G H G1 H1 ∧ SqT X.K G1 a vs ∧ Reps X.K G1 vs ds) I ⟨G, Γ, _, hs, he, q, fun v G1 H1 w1 r1 => ?_⟩) fun v s1 h1 => ?_
      · obtain ⟨a, vs, rfl, h2, h3⟩ := r1.of_tup
        exact ⟨G1, a, vs, rfl, w1, h2, h3⟩
      · obtain ⟨x, H1, I1, rx, G1, a, vs, rfl, w1, h2, h3⟩ := h1
        cases rx
        have hl := len_lineT I1 (h2.ext w1.sub)
        obtain ⟨its, rv, pl, hz⟩ := I1.tuple (h2.ext w1.sub)
        refine wpAny_pyIter_tuple (show s1.heap.IsTuple a its.toArray from pl) ?_
        refine ⟨s1.heap.objs.size, [s1.heap.objs.size], _, _, H1, rfl, I1.kept (t' := s1.toks) fun b o e => Heap.get?_push_of_some _ e, turn_tuple a _, ⟨_, Heap.get?_push_size _ rfl, rfl, rfl⟩, fun b hb => ?_, hq _ G1 H1 w1 (walk_tup h2 h3 (by rw [← h3.length]; exact hl))⟩
        have e : b = s1.heap.objs.size := by simpa using hb
        subst e
        exact I1.fpOk (Nat.le_refl _) (I1.hok.fresh (Nat.le_refl _))
    | str z =>
      cases hf
      refine (pi_str hE).run pins s σ H W I ⟨G, Γ, _, hs, he, q, fun v G1 H1 w1 r1 => ?_⟩
      obtain ⟨rfl, o⟩ := r1.of_str
      exact ⟨z, rfl, hq _ G1 H1 w1 (walk_str o)⟩
    | _ => cases hf
theorem sIter (g : Good c p.N X) (S : Sound c p.N R) (F : ItF c) (tg iter : Expr) : PI X tg iter (rdI X.K (evI R X.env.scope tg iter)) := by
  unfold evI
  split
  · rename_i x pp e pos
    split
    · rename_i hx
      subst hx
      split
      · rename_i hh
        refine pi_imp (pi_range1 (glb_of hh.1) (by rw [g.mg]; exact F.range) (pa_cons (S.E X g e) pa_nil (starEach_ok hh.2 _ _)) (starEach_ok hh.2 _ _)) fun σ H W ⟨G, Γ, ds, hs, he, hf, hq⟩ => ?_
        have hf : bindO (R.E X.env.scope e Γ) rangeD = some ds := hf
        cases q : R.E X.env.scope e Γ with
        | none => rw [q] at hf; cases hf
        | some d =>
          rw [q] at hf
          have hf : rangeD d = some ds := hf
          cases d with
          | int n =>
            have hf : (if 0 ≤ n ∧ n ≤ 1000000 then some ((List.range n.toNat).map fun k => D.int (k : Nat)) else none) = some ds := hf
            split at hf
            · rename_i hn
              cases hf
              refine ⟨G, Γ, _, hs, he, q, fun v G1 H1 w1 r1 => ?_⟩
              obtain rfl := r1.of_int
              exact ⟨n, rfl, by omega, by omega, hq _ G1 H1 w1 (walk_range _ (by rw [sizeLine_eq]; omega))⟩
            · cases hf
          | _ => cases hf
      · exact ⟨fun _ _ _ _ _ _ ⟨_, _, _, _, _, hf, _⟩ => by cases hf⟩
    · split
      · rename_i hx
        subst hx
        split
        · rename_i hh
          obtain ⟨h1, h2, h3⟩ := hh
          cases tg with
          | Tuple es k tp =>
            refine pi_imp (pi_enum (glb_of h1) (by rw [g.mg]; exact F.enum) (pa_cons (pe_len (S.E X g e)) pa_nil (starEach_ok h2 _ _)) (starEach_ok h2 _ _)) fun σ H W ⟨G, Γ, ds, hs, he, hf, hq⟩ => ?_
            have hf : bindO (R.E X.env.scope e Γ) enumO = some ds := hf
            obtain ⟨d0, q, hf⟩ := bindO_inv hf
            unfold enumO at hf
            split at hf
            · rename_i es'
              cases hf
              refine ⟨G, Γ, _, hs, he, q, fun v G1 H1 w1 r1 hl => ?_⟩
              obtain ⟨a, vs, rfl, h4, h5⟩ := r1.of_lst
              refine ⟨a, vs, rfl, SqL.of (w1.sub _ _ h4), hq _ G1 H1 w1 (walk_enum h4 h5 ?_)⟩
              rw [← h5.length]
              exact hl _ _ (SqL.of (w1.sub _ _ h4))
            · cases hf
          | _ => cases h3
        · exact ⟨fun _ _ _ _ _ _ ⟨_, _, _, _, _, hf, _⟩ => by cases hf⟩
      · exact sSeq g S tg _
  · exact sSeq g S tg _
/-- the turns so far -/
structure LcW (K : PySem.W.Frag) (t : Tg) (Γw : DEnv) (ft : DEnv → Option Bool) (fe : DEnv → Option D) (D0 : Addr) (G1 H1 : Hp) (ds res : List D) (i m : Nat) (H : Hp) : Prop where
  hm : m = ds.length - i
  hi : i ≤ ds.length
  ex : ∃ G acc accD rest, Ext G1 G ∧ Ext G H ∧ Ext H1 H ∧ G D0 = none ∧ (∀ b o, G b = some o → G1 b = some o ∨ H1 b = none) ∧ H D0 = some (.lst acc) ∧ Reps K G acc accD ∧ acc.length ≤ i ∧ mapLC t Γw ft fe (ds.drop i) = some rest ∧ accD ++ rest = res
theorem sTs (S : Sound c p.N R) (g : Good c p.N X) {ifs : List Expr} {f : DEnv → Option Bool} (h : evTs R X.env.scope ifs = some f) : PTs X ifs (rdT X.K f) := by
  match ifs, h with
  | [], h =>
    cases h
    refine ⟨fun pins s σ H Q I ⟨G, Γ, b, hs, he, hf, hq⟩ => pts_nil.run pins s σ H Q I ?_⟩
    cases hf
    exact hq G H (Grow.rfl' hs)
  | [e], h =>
    cases h
    exact pts_one (S.T X g e)
  | _ :: _ :: _, h => cases h
theorem own_ok {N : List Str} : ∀ {l : List (Str × NameKind)} {own : List (Str × Nat)}, ownIx N l = some own → True := fun _ => trivial
/-- what a comprehension's turns come to -/
theorem lc_walk {K : PySem.W.Frag} {σ : L2.St} {H0 H1 G0 G1 : Hp} {Γ : DEnv} {J : It} {ds res : List D} {t : Tg} {ft : DEnv → Option Bool} {fe : DEnv → Option D} {vs : List Nat} {Q : V → Hp → Prop}
    (ht : (tgAll t).all (fun i => vs.contains i) = true) (he : EnvR K G0 σ Γ) (w1 : Grow G0 H0 G1 H1) (wk : WalkD K J G1 ds) (hm : mapLC t (wipeD Γ vs) ft fe ds = some res)
    (hq : ∀ v G' H', Grow G0 H0 G' H' → Rep K G' v (.lst res) → Q v H') (D0 : Addr) (hD : H1 D0 = none) :
    ∃ W : Nat → Nat → Hp → Prop, (∃ m, W 0 m (upd H1 D0 (.lst []))) ∧ ∀ i m H, W i m H →
      (J.stop i H ∧ Q (.ref D0) H) ∨ (J.go i H ∧ ∃ Nx : Hp → Prop, (∀ H', Nx H' → ∃ m', m' < m ∧ W (i + 1) m' H') ∧ ∀ x H', J.yld i H x H' → gTg K t x (wipe σ vs) H' fun σ2 H2 => wipe σ2 vs = wipe σ vs ∧ rdT K ft σ2 H2 fun b H3 =>
        if b = true then rdE K fe σ2 H3 fun y H4 => ∃ acc, H4 D0 = some (.lst acc) ∧ acc.length < sizeLine ∧ Nx (upd H4 D0 (.lst (acc ++ [y]))) else Nx H3) := by
  have htm : ∀ i ∈ tgAll t, i ∈ vs := fun i hi => by
    have := List.all_eq_true.mp ht i hi
    simpa using this
  refine ⟨LcW K t (wipeD Γ vs) ft fe D0 G1 H1 ds res, ⟨ds.length, by omega, by omega, G1, [], [], res, Ext.rfl', w1.sub.trans (Ext.upd hD), Ext.upd hD, Ext.back w1.sub hD, fun _ _ h => .inl h, upd_same, .nil, by simp, by simpa using hm, rfl⟩, ?_⟩
  rintro i m H ⟨hm0, hi, G, acc, accD, rest, e1, e2, e3, hG, hf, hH, hr, hl, hmr, hres⟩
  obtain ⟨hlen, wk⟩ := wk
  by_cases hlt : i < ds.length
  · refine .inr ⟨((wk i G H e1 e2).1 hlt).1, LcW K t (wipeD Γ vs) ft fe D0 G1 H1 ds res (i + 1) (ds.length - (i + 1)), fun H' h => ⟨_, by omega, h⟩, fun x H' y => ?_⟩
    obtain ⟨G', d, w2, hd, rx⟩ := ((wk i G H e1 e2).1 hlt).2 x H' y
    have hdr : ds.drop i = d :: ds.drop (i + 1) := by
      rw [List.drop_eq_getElem_cons hlt]
      rw [List.getElem?_eq_getElem hlt] at hd
      cases hd
      rfl
    rw [hdr] at hmr
    rw [mapLC_cons] at hmr
    have frD : ∀ {Ga Ha Gb Hb : Hp}, Grow Ga Ha Gb Hb → Ga D0 = none → (∃ o, Ha D0 = some o) → Gb D0 = none := fun {Ga Ha Gb Hb} w hn ⟨o, ho⟩ => by
      cases q : Gb D0 with
      | none => exact rfl
      | some z =>
        rcases w.fresh _ _ q with h | h
        · rw [hn] at h; cases h
        · rw [ho] at h; cases h
    have frE : ∀ {Ga Ha Gb Hb : Hp}, Grow Ga Ha Gb Hb → Ext H1 Ha → (∀ b o, Ga b = some o → G1 b = some o ∨ H1 b = none) → (∀ b o, Gb b = some o → G1 b = some o ∨ H1 b = none) := fun w he hg b o hb =>
      (w.fresh b o hb).elim (hg b o) fun h => .inr (Ext.back he h)
    split at hmr
    · cases hmr
    · rename_i Γ' htg
      refine tg_take (Γ' := Γ') w2.sub (((he.ext w1.g).ext (e1.trans w2.g)).wipe vs) rx htg fun σ' he' hw => ⟨by rw [hw vs htm, wipe_wipe], ?_⟩
      have gD' := frD w2 hG ⟨_, hH⟩
      have hH' := w2.ext _ _ hH
      have fE' := frE w2 e3 hf
      have e3' := e3.trans w2.ext
      split at hmr
      · cases hmr
      · rename_i hft
        refine ⟨G', Γ', false, w2.sub, he', hft, fun G3 H3 w3 => iteF ?_⟩
        exact ⟨rfl, by omega, G3, acc, accD, rest, (e1.trans w2.g).trans w3.g, w3.sub, e3'.trans w3.ext, frD w3 gD' ⟨_, hH'⟩, frE w3 e3' fE', w3.ext _ _ hH', (hr.ext w2.g).ext w3.g, by omega, hmr, hres⟩
      · rename_i hft
        refine ⟨G', Γ', true, w2.sub, he', hft, fun G3 H3 w3 => iteT ?_⟩
        split at hmr
        · rename_i u us hu hus
          cases hmr
          have gD3 := frD w3 gD' ⟨_, hH'⟩
          have hH3 := w3.ext _ _ hH'
          have fE3 := frE w3 e3' fE'
          have e33 := e3'.trans w3.ext
          refine ⟨G3, Γ', u, w3.sub, he'.ext w3.g, hu, fun yv G4 H4 w4 ry => ⟨acc, w4.ext _ _ hH3, by omega, rfl, by omega, G4, acc ++ [yv], accD ++ [u], us, ((e1.trans w2.g).trans w3.g).trans w4.g, ?_, ?_, frD w4 gD3 ⟨_, hH3⟩, frE w4 e33 fE3, upd_same, ?_, ?_, hus, ?_⟩⟩
          · intro a o ha
            have hne : a ≠ D0 := fun e => by
              rw [e, frD w4 gD3 ⟨_, hH3⟩] at ha
              cases ha
            rw [upd_ne hne]
            exact w4.sub _ _ ha
          · intro a o ha
            have hne : a ≠ D0 := fun e => by
              rw [e, hD] at ha
              cases ha
            rw [upd_ne hne]
            exact (e33.trans w4.ext) _ _ ha
          · exact ((((hr.ext w2.g).ext w3.g).ext w4.g)).append (.cons ry .nil)
          · rw [List.length_append]
            show acc.length + 1 ≤ i + 1
            omega
          · rw [List.append_assoc]
            exact hres
        · cases hmr
  · have hge : ds.length ≤ i := by omega
    refine .inl ⟨(wk i G H e1 e2).2 hge, ?_⟩
    rw [List.drop_eq_nil_of_le hge] at hmr
    have hmr : some [] = some rest := hmr
    cases hmr
    rw [List.append_nil] at hres
    subst hres
    refine hq _ (upd G D0 (.lst acc)) H ⟨w1.ext.trans e3, (w1.g.trans e1).trans (Ext.upd hG), fun a o ha => ?_, fun b o hb => ?_⟩ (.lst upd_same (hr.ext (Ext.upd hG)))
    · by_cases q : a = D0
      · subst q
        rw [upd_same] at ha
        rw [hH]
        exact ha
      · rw [upd_ne q] at ha
        exact e2 _ _ ha
    · by_cases q : b = D0
      · subst q
        exact .inr (Ext.back w1.ext hD)
      · rw [upd_ne q] at hb
        rcases hf b o hb with h | h
        · exact w1.fresh b o h
        · exact .inr (Ext.back w1.ext h)
theorem sLC (S : Sound c p.N R) (g : Good c p.N X) (hN : p.N.Nodup) (F : ItF c) (elt tg iter : Expr) (ifs : List Expr) (scope : Scope) (pos : Pos) :
    PE X (.ListComp elt [⟨tg, iter, ifs, 0⟩] scope pos) (rdE X.K (evLC p R X.env.scope elt tg iter ifs scope)) := by
  unfold evLC
  split
  · rename_i own t ft h1 h2 h3
    split
    · rename_i hh
      obtain ⟨hb, ha, hs⟩ := hh
      refine pe_imp (pe_lc (g := gTg X.K t) (tt := rdT X.K ft) (te := rdE X.K (R.E (relS scope X.env.scope) elt)) g.calm (by rw [g.N]; exact hN) (sIter g S F tg iter) (blkOk_by (by rw [g.N]; exact hb))
        (fun s H C cl fp => sTg (good_blk g s H scope C cl fp) hN h2)
        (fun s H C cl fp => sTs S (good_blk g s H scope C cl fp) h3)
        (fun s H C cl fp => S.E _ (good_blk g s H scope C cl fp) elt) (set_ok hs)) fun σ H Q ⟨G, Γ, d, hsb, he, hf, hq⟩ => ?_
      have hf : (match evI R X.env.scope tg iter Γ with
        | some ds => (mapLC t (wipeD Γ (own.map (·.2))) ft (R.E (relS scope X.env.scope) elt) ds).map D.lst
        | none => none) = some d := hf
      split at hf
      · rename_i ds hds
        cases q : mapLC t (wipeD Γ (own.map (·.2))) ft (R.E (relS scope X.env.scope) elt) ds with
        | none => rw [q] at hf; cases hf
        | some res =>
          rw [q] at hf
          cases hf
          exact ⟨G, Γ, ds, hsb, he, hds, fun J G1 H1 w1 wk D0 hD => lc_walk ha he w1 wk q hq D0 hD⟩
      · cases hf
    · exact pe_none fun _ => rfl
  · exact pe_none fun _ => rfl
end
end Ag
set_option Elab.async false
set_option linter.all false
set_option autoImplicit false
set_option maxRecDepth 100000
set_option maxHeartbeats 1000000
namespace Ag
open PySem PySem.Spec L2 TL
/-! ### a dict of constants, looked at at once -/
def keyC : Option Expr → Option Str
  | some (.Constant (.str s) _ _) => some s
  | _ => none
def dictC : List (Option Expr) → List Expr → Option (List (Str × Int))
  | [], [] => some []
  | some (.Constant (.str s) _ _) :: ks, .Constant (.int i) _ _ :: vs => (dictC ks vs).map ((s, i) :: ·)
  | _, _ => none
def lookC : List (Str × Int) → Str → Option Int
  | [], _ => none
  | (k, v) :: r, s => match decide (k = s) with
    | true => some v
    | false => lookC r s
def noDup : List (Str × Int) → Bool
  | [] => true
  | (k, _) :: r => (r.all fun z => !decide (z.1 = k)) && noDup r
def kvC (l : List (Str × Int)) : List (Key × V) := l.map fun z => (.inr z.1, .int z.2)
theorem valV_kvC (s : Str) : ∀ l : List (Str × Int), valV (kvC l) (.inr s) = (lookC l s).map V.int
  | [] => rfl
  | (k, v) :: r => by
    unfold lookC
    by_cases h : k = s
    · rw [decide_eq_true h]
      show valV ((Sum.inr k, V.int v) :: kvC r) (Sum.inr s) = _
      rw [valV_pos (by rw [h])]
      rfl
    · rw [decide_eq_false h]
      show valV ((Sum.inr k, V.int v) :: kvC r) (Sum.inr s) = _
      rw [valV_neg (by intro e; exact h (Sum.inr.inj e))]
      exact valV_kvC s r
theorem merge_kvC : ∀ (l : List (Str × Int)) (acc : List (Key × V)), noDup l = true → (∀ z ∈ l, ∀ kv ∈ acc, kv.1 ≠ .inr z.1) → mergeK acc (kvC l) = acc ++ kvC l
  | [], acc, _, _ => by show acc = acc ++ []; rw [List.append_nil]
  | (k, v) :: r, acc, h, hd => by
    unfold noDup at h
    rw [Bool.and_eq_true, List.all_eq_true] at h
    show mergeK (putK acc (.inr k) (.int v)) (kvC r) = _
    have hn : (acc.any fun kv => decide (kv.1 = Sum.inr k)) = false := by
      rw [List.any_eq_false]
      intro kv hkv
      simpa using hd (k, v) List.mem_cons_self kv hkv
    have e : putK acc (.inr k : Key) (.int v) = acc ++ [(.inr k, .int v)] := by
      unfold putK
      rw [hn]
      rfl
    rw [e, merge_kvC r _ h.2 ?_]
    · show (acc ++ [(Sum.inr k, V.int v)]) ++ kvC r = acc ++ ((Sum.inr k, V.int v) :: kvC r)
      rw [List.append_assoc]
      rfl
    · intro z hz kv hkv
      rcases List.mem_append.mp hkv with hkv | hkv
      · exact hd z (List.mem_cons_of_mem _ hz) kv hkv
      · have e2 : kv = (Sum.inr k, V.int v) := by simpa using hkv
        subst e2
        intro e3
        have := h.1 z hz
        simp at this
        exact this (Sum.inr.inj e3).symm
def trC (l : List (Str × Int)) : List (TE × TE) := l.map fun z => (fun _ H Q => Q (.str z.1) H, fun _ H Q => Q (.int z.2) H)
theorem ppsC {X : Cx} {pos : Pos} : ∀ {ks : List (Option Expr)} {vs : List Expr} {l : List (Str × Int)}, dictC ks vs = some l → PPs X pos ks vs (trC l) ∧ ks.all (·.isSome) = true ∧ ks.length = vs.length ∧ ks.length = l.length
  | [], [], l, h => by
    cases h
    exact ⟨pps_nil, rfl, rfl, rfl⟩
  | some (.Constant (.str s) j1 p1) :: ks, .Constant (.int i) j2 p2 :: vs, l, h => by
    have h : (dictC ks vs).map ((s, i) :: ·) = some l := h
    cases q : dictC ks vs with
    | none => rw [q] at h; cases h
    | some r =>
      rw [q] at h
      cases h
      obtain ⟨h1, h2, h3, h4⟩ := ppsC (X := X) (pos := pos) q
      exact ⟨pps_cons pe_str pe_int h1, by rw [List.all_cons, h2]; rfl, by rw [List.length_cons, List.length_cons, h3], by rw [List.length_cons, List.length_cons, h4]⟩
theorem tPairsC {σ : L2.St} {H : Hp} {Q : List (V × V) → Hp → Prop} : ∀ {l : List (Str × Int)}, Q ((kvC l).map fun kv => (kV kv.1, kv.2)) H → tPairs (trC l) σ H Q
  | [], h => h
  | z :: r, h => tPairsC (l := r) (Q := fun ps H3 => Q ((V.str z.1, V.int z.2) :: ps) H3) h
def lookD1 (l : List (Str × Int)) : D → Option D
  | .str s => (lookC l s).map D.int
  | _ => none
def lookD2 (l : List (Str × Int)) : D → D → Option D
  | .str s, .int i => some (.int ((lookC l s).getD i))
  | _, _ => none
def evD1 (R : Ev) (sc : Scope) (l : List (Str × Int)) (e : Expr) (Γ : DEnv) : Option D := bindO (R.E sc e Γ) (lookD1 l)
def evD2 (R : Ev) (sc : Scope) (l : List (Str × Int)) (e f : Expr) (Γ : DEnv) : Option D := bind2 (R.E sc e Γ) (R.E sc f Γ) (lookD2 l)
def okC (l : List (Str × Int)) : Bool := noDup l && decide (l.length ≤ 15) && !l.isEmpty
section
variable {c : Ctx} {p : Par} {X : Cx} {R : Ev}
theorem peC {ks : List (Option Expr)} {vs : List Expr} {l : List (Str × Int)} {pos : Pos} (h : dictC ks vs = some l) (o : okC l = true) : PE X (.Dict ks vs pos) fun σ H Q => ∀ p, H p = none → Q (.ref p) (upd H p (.dK (kvC l))) := by
  unfold okC at o
  simp only [Bool.and_eq_true, decide_eq_true_eq, Bool.not_eq_true'] at o
  obtain ⟨⟨o1, o2⟩, o3⟩ := o
  obtain ⟨h1, h2, h3, h4⟩ := ppsC (X := X) (pos := pos) h
  refine pe_imp (pe_disp h1 h2 h3 ?_ (by rw [h4]; exact o2)) fun σ H Q hq p hp => tPairsC ⟨upd_same, kvC l, rfl, by unfold kvC; rw [List.length_map]; exact o2, ?_⟩
  · intro e
    rw [e] at h4
    have : l = [] := List.eq_nil_of_length_eq_zero h4.symm
    rw [this] at o3
    cases o3
  · rw [merge_kvC l [] o1 (fun _ _ _ hk => by cases hk), List.nil_append]
    have e : upd (upd H p (.dK [])) p (.dK (kvC l)) = upd H p (.dK (kvC l)) := by
      funext a
      unfold upd
      split <;> rfl
    rw [e]
    exact hq p hp
theorem _root_.L2.Room.hu {k : Nat} {A : Around} (r : Room k A) : A.units + 1 < cLine := by have := r.units; omega
theorem Grow.side {G H : Hp} (s : Ext G H) {p : Addr} {o : HO} (h : H p = none) : Grow G H G (upd H p o) := .same s (Ext.upd h)
theorem sD1 (g : Good c p.N X) (S : Sound c p.N R) {ks : List (Option Expr)} {vs : List Expr} {l : List (Str × Int)} {dp pos : Pos} {e : Expr} (h : dictC ks vs = some l) (o : okC l = true) (hs : notSlice e = true) : PE X (.Subscript (.Dict ks vs dp) e pos) (rdE X.K (evD1 R X.env.scope l e)) := by
  refine pe_imp (pe_dget g.room.hu (peC h o) (S.E X g e) (by
    intro ov iv
    cases e <;> first | rfl | cases hs)) fun σ H Q ⟨G, Γ, d, hs, he, hf, hq⟩ p hp => ?_
  obtain ⟨d0, q, hf⟩ := bindO_inv hf
  unfold lookD1 at hf
  split at hf
  · rename_i s
    have w0 : Grow G H G (upd H p (.dK (kvC l))) := Grow.side hs hp
    refine ⟨G, Γ, .str s, w0.sub, he, q, fun v G1 H1 w1 r1 => ?_⟩
    obtain ⟨rfl, _⟩ := r1.of_str
    cases q2 : lookC l s with
    | none => rw [q2] at hf; cases hf
    | some i =>
      rw [q2] at hf
      cases hf
      refine ⟨p, .int i, rfl, ?_, hq _ G1 H1 (w0.trans w1) (.int i)⟩
      have hv := valV_kvC s l
      rw [q2] at hv
      have z := DGet.k (w1.ext _ _ upd_same) (k := .inr s)
      rw [hv] at z
      exact z
  · cases hf
theorem sD2 (g : Good c p.N X) (S : Sound c p.N R) {ks : List (Option Expr)} {vs : List Expr} {l : List (Str × Int)} {dp ap pos : Pos} {e f : Expr} (h : dictC ks vs = some l) (o : okC l = true) (he1 : notStar e = true) (he2 : notStar f = true) (hl : (ap.endLine == pos.line) = true) :
    PE X (.Call (.Attribute (.Dict ks vs dp) "get" ap) [e, f] [] pos) (rdE X.K (evD2 R X.env.scope l e f)) := by
  have hb : starEach [e, f] X.env = [(false, eval e X.env), (false, eval f X.env)] := by rw [starEach_ok he1, starEach_ok he2]; rfl
  refine pe_imp (pe_dget2 g.room.hu (peC h o) (S.E X g e) (S.E X g f) ⟨rfl, ?_, hl, ?_⟩) fun σ H Q ⟨G, Γ, d, hs, he, hf, hq⟩ p hp => ?_
  · rw [hb]; rfl
  · rw [hb]; rfl
  obtain ⟨d0, d1, q, q0, hf⟩ := bind2_inv hf
  unfold lookD2 at hf
  split at hf
  · rename_i s i
    cases hf
    have w0 : Grow G H G (upd H p (.dK (kvC l))) := Grow.side hs hp
    refine ⟨p, rfl, .inl ⟨_, .inl upd_same⟩, G, Γ, .str s, w0.sub, he, q, fun v G1 H1 w1 r1 => ?_⟩
    obtain ⟨rfl, _⟩ := r1.of_str
    refine ⟨G1, Γ, .int i, w1.sub, he.ext w1.g, q0, fun v G2 H2 w2 r2 => ?_⟩
    obtain rfl := r2.of_int
    have hv := valV_kvC s l
    refine ⟨_, DGet.k ((w1.trans w2).ext _ _ upd_same) (k := .inr s), ?_⟩
    rw [hv]
    cases q2 : lookC l s with
    | none => exact hq _ G2 H2 ((w0.trans w1).trans w2) (by rw [q2]; exact .int i)
    | some z => exact hq _ G2 H2 ((w0.trans w1).trans w2) (by rw [q2]; exact .int z)
  · cases hf
/-! ### calls by name -/
structure CallOk (c : Ctx) (N : List Str) (ft : Str → Option (List D → Option D)) : Prop where
  run : ∀ x g, ft x = some g → ∀ X, Good c N X → ∀ (e : Expr) (es : List Expr) (px pos : Pos) (ta : TA), glbK X.env.scope x = true → (e :: es).all notStar = true → PA X (e :: es) ta →
    PE X (.Call (.Name x px) (e :: es) [] pos) (tCB (rCall X.K g) ta)
theorem call_rd {X : Cx} {e : Expr} {g : List D → Option D} {f : DEnv → Option (List D)} (h : PE X e (tCB (rCall X.K g) (rdA X.K f))) : PE X e (rdE X.K fun Γ => (f Γ).bind g) := by
  refine pe_imp h fun σ H Q ⟨G, Γ, d, hs, he, hf, hq⟩ => ?_
  dsimp only at hf
  cases q : f Γ with
  | none => rw [q] at hf; cases hf
  | some ds =>
    rw [q] at hf
    exact ⟨G, Γ, ds, hs, he, q, fun vs G1 H1 w1 r1 => ⟨G1, ds, d, w1.sub, r1, hf, fun v G2 H2 w2 r2 => hq v G2 H2 (w1.trans w2) r2⟩⟩
def evE (p : Par) (R : Ev) (sc : Scope) : Expr → DEnv → Option D
  | .Constant c _ _ => fun _ => constD c
  | .Name x _ => vName p sc x
  | .BinOp a op b _ => evBin R sc op a b
  | .UnaryOp .USub a _ => evNeg R sc a
  | .UnaryOp .Not a _ => evNotV R sc a
  | .BoolOp .And es _ => evAndV R sc es
  | .BoolOp .Or es _ => evOrV R sc es
  | .Compare a [op] [b] _ => if notSet b = true then fun Γ => (evCmp R sc op a b Γ).map D.bl else fun _ => none
  | .IfExp t a b _ => evIf R sc t a b
  | .Attribute a f _ => if notCall a = true then evFld R sc a f else fun _ => none
  | .Subscript a (.Slice lo hi none _) _ => evSl R sc a lo hi
  | .Subscript (.Dict ks vs _) e _ => match dictC ks vs with
    | some l => if okC l = true ∧ notSlice e = true then evD1 R sc l e else fun _ => none
    | none => fun _ => none
  | .Subscript a b _ => if notSlice b = true then evIx R sc a b else fun _ => none
  | .Tuple es _ _ => if es.all notStar = true ∧ es.length ≤ 100 then fun Γ => (evA R sc es Γ).map D.tup else fun _ => none
  | .List es _ => if es.all notStar = true ∧ es.length ≤ 100 then fun Γ => (evA R sc es Γ).map D.lst else fun _ => none
  | .JoinedStr (v1 :: v2 :: es) _ => if okJ (v1 :: v2 :: es) = true then fun Γ => (evJ R sc (v1 :: v2 :: es) Str.empty Γ).map D.str else fun _ => none
  | .ListComp elt [⟨tg, iter, ifs, 0⟩] scope _ => evLC p R sc elt tg iter ifs scope
  | .Dict [] [] _ => fun _ => some .emp
  | .Call (.Name x _) es [] _ => if glbK sc x = true then (if x = "isinstance" then isiE R sc es else match es with
      | e :: es => if (e :: es).all notStar = true then (match p.ft x with
        | some g => fun Γ => (evA R sc (e :: es) Γ).bind g
        | none => fun _ => none) else fun _ => none
      | [] => fun _ => none) else fun _ => none
  | .Call (.Attribute (.Dict ks vs _) m ap) [e, f] [] pos => match dictC ks vs with
    | some l => if m = "get" ∧ okC l = true ∧ notStar e = true ∧ notStar f = true ∧ (ap.endLine == pos.line) = true then evD2 R sc l e f else fun _ => none
    | none => fun _ => none
  | .Call (.Attribute o m ap) [e] [] pos => if notCall o = true ∧ notStar e = true ∧ (ap.endLine == pos.line) = true then
      (if m = "split" then fun Γ => bind2 (R.E sc o Γ) (R.E sc e Γ) splitD
      else if m = "join" then fun Γ => bind2 (R.E sc o Γ) (R.E sc e Γ) joinD
      else fun _ => none) else fun _ => none
  | _ => fun _ => none
def evT (R : Ev) (sc : Scope) : Expr → DEnv → Option Bool
  | .UnaryOp .Not a _ => fun Γ => (R.T sc a Γ).map (!·)
  | .BoolOp .And es _ => evAnd R sc es
  | .BoolOp .Or es _ => evOr R sc es
  | .Compare a [op] [b] _ => if notSet b = true then evCmp R sc op a b else fun _ => none
  | .Compare a [op, op'] [b, b'] _ => if notSet b' = true then evChain R sc op op' a b b' else fun _ => none
  | e => if plainT e = true then evTru R sc e else fun _ => none
def step (p : Par) (R : Ev) : Ev := ⟨p.dp, evE p R, evT R⟩
def ev (p : Par) : Nat → Ev
  | 0 => ⟨p.dp, fun _ _ _ => none, fun _ _ _ => none⟩
  | n + 1 => step p (ev p n)
structure Given (c : Ctx) (p : Par) : Prop where
  nd : p.N.Nodup
  gc : ∀ x d, p.gc x = some d → ∃ v u, c.mg x = some u ∧ RelV v u ∧ ∀ H, Rep c.K H v d
  ft : CallOk c p.N p.ft
  isi : IsiF c
  it : ItF c
  nin : ∀ X, Good c p.N X → DeepIn X p.dp
theorem sound_step (V0 : Given c p) (hR : R.dp = p.dp) (S : Sound c p.N R) : Sound c p.N (step p R) := by
  refine ⟨fun X g e => ?_, fun X g e => ?_⟩
  · show PE X e (rdE X.K (evE p R X.env.scope e))
    unfold evE
    split
    · exact sConst _ _ _
    · exact sName g V0.gc _ _
    · exact sBin g S _ _ _ _
    · exact sNeg g S _ _
    · exact sNotV g S _ _
    · exact sAndV S g _ _
    · exact sOrV S g _ _
    · split
      · exact sCmpV g S (by rw [hR]; exact V0.nin X g) _ _ _ _ (by assumption)
      · exact pe_none fun _ => rfl
    · exact sIf g S _ _ _ _
    · split
      · exact sFld g S V0.isi _ _ _ (by assumption)
      · exact pe_none fun _ => rfl
    · exact sSl g S _ _ _ _ _
    · split
      · split
        · rename_i hh
          exact sD1 g S (by assumption) hh.1 hh.2
        · exact pe_none fun _ => rfl
      · exact pe_none fun _ => rfl
    · split
      · exact sIx g S _ _ _ (by assumption)
      · exact pe_none fun _ => rfl
    · split
      · rename_i hh
        exact sTup g S _ _ _ hh.1 hh.2
      · exact pe_none fun _ => rfl
    · split
      · rename_i hh
        exact sLst g S _ _ hh.1 hh.2
      · exact pe_none fun _ => rfl
    · split
      · exact sJoined g S _ _ _ _ (by assumption)
      · exact pe_none fun _ => rfl
    · exact sLC S g V0.nd V0.it _ _ _ _ _ _
    · exact pe_imp pe_dnewK fun σ H Q ⟨G, Γ, d, hs, he, hf, hq⟩ p hp => by
        cases hf
        exact hq _ _ _ (Grow.new hs hp) (.emp upd_same)
    · split
      · rename_i hg
        split
        · rename_i hx
          subst hx
          exact sIsi g S V0.isi _ _ _ hg
        · split
          · split
            · split
              · rename_i hst _ f hf
                exact call_rd (V0.ft.run _ _ hf X g _ _ _ _ _ hg hst (sA S g _ hst))
              · exact pe_none fun _ => rfl
            · exact pe_none fun _ => rfl
          · exact pe_none fun _ => rfl
      · exact pe_none fun _ => rfl
    · split
      · split
        · rename_i hh
          obtain ⟨rfl, h1, h2, h3, h4⟩ := hh
          exact sD2 g S (by assumption) h1 h2 h3 h4
        · exact pe_none fun _ => rfl
      · exact pe_none fun _ => rfl
    · split
      · rename_i hh
        obtain ⟨h1, h2, h3⟩ := hh
        split
        · rename_i hm
          subst hm
          exact sSplit g S _ _ _ _ h1 h2 h3
        · split
          · rename_i hm
            subst hm
            exact sJoin g S _ _ _ _ h1 h2 h3
          · exact pe_none fun _ => rfl
      · exact pe_none fun _ => rfl
    · exact pe_none fun _ => rfl
  · show PT X e (rdT X.K (evT R X.env.scope e))
    unfold evT
    split
    · exact sNotT g S _ _
    · exact (sAnd S g _ _).pt
    · exact (sOr S g _ _).pt
    · split
      · exact sCmpT g S (by rw [hR]; exact V0.nin X g) _ _ _ _ (by assumption)
      · exact pt_none fun _ => rfl
    · split
      · exact sChainT g S (by rw [hR]; exact V0.nin X g) _ _ _ _ _ _ (by assumption)
      · exact pt_none fun _ => rfl
    · split
      · exact sTru g S _ (by assumption)
      · exact pt_none fun _ => rfl
theorem sound_ev (V0 : Given c p) : ∀ n, Sound c p.N (ev p n)
  | 0 => ⟨fun X g e => pe_none fun _ => rfl, fun X g e => pt_none fun _ => rfl⟩
  | n + 1 => sound_step V0 (by cases n <;> rfl) (sound_ev V0 n)
end
end Ag
set_option Elab.async false
set_option linter.all false
set_option autoImplicit false
set_option maxRecDepth 100000
set_option maxHeartbeats 1000000
namespace Ag
open PySem PySem.Spec L2 TL
inductive Out where
  | nx (Γ : DEnv) | rt (d : D)
def rdS (K : PySem.W.Frag) (f : DEnv → Option Out) : TS := fun D σ H => ∃ G Γ o, Ext G H ∧ EnvR K G σ Γ ∧ f Γ = some o ∧
  ((∀ Γ', o = .nx Γ' → ∀ σ' G' H', Grow G H G' H' → EnvR K G' σ' Γ' → D.nx σ' H') ∧ ∀ d, o = .rt d → ∀ v G' H', Grow G H G' H' → Rep K G' v d → D.rt v H')
section
variable {X : Cx}
theorem ps_none {st : Stmt} {f : DEnv → Option Out} (h : ∀ Γ, f Γ = none) : PS X st (rdS X.K f) := ⟨fun _ _ _ _ _ _ ⟨_, Γ, d, _, _, h1, _⟩ => by rw [h Γ] at h1; cases h1⟩
theorem pss_none {st : List Stmt} {f : DEnv → Option Out} (h : ∀ Γ, f Γ = none) : PSs X st (rdS X.K f) := ⟨fun _ _ _ _ _ _ ⟨_, Γ, d, _, _, h1, _⟩ => by rw [h Γ] at h1; cases h1⟩
end
def celK (sc : Scope) (x : Str) : Bool := match sc.names.lookup x with
  | some .cell => true
  | _ => false
theorem cel_of {sc : Scope} {x : Str} (h : celK sc x = true) : sc.names.lookup x = some .cell := by
  unfold celK at h
  split at h
  · assumption
  · cases h
def notLC : Expr → Bool
  | .ListComp _ _ _ _ => false
  | .SetComp _ _ _ _ => false
  | .DictComp _ _ _ _ _ => false
  | _ => true
def notTup : Expr → Bool
  | .Tuple _ _ _ => false
  | _ => true
theorem sw_no {e : Expr} {t : Option Expr} {l : Nat} {env : Env} (h : notLC e = true) : swapsWith e t l env = pure false := by
  unfold swapsWith
  cases e <;> first | rfl | cases h
theorem sw_cel {e : Expr} {x : Str} {py : Pos} {l : Nat} {env : Env} (h : celK env.scope x = true) : swapsWith e (some (.Name x py)) l env = pure false := by
  have hk : env.kindOf x = some .cell := cel_of h
  unfold swapsWith
  cases e <;> first
    | rfl
    | (simp only [hk, show (some NameKind.cell == some NameKind.local) = false from rfl, Bool.and_false, Bool.false_and]; done)
theorem swap_tup {ts : List Expr} {k : Nat} {tp : Pos} {e : Expr} {env : Env} (h : notTup e = true) : swappedStores [.Tuple ts k tp] e env = pure none := by
  unfold swappedStores
  cases e <;> first | rfl | cases h
/-- x, y = a, b is stored from the right -/
def parOk (x y : Str) (px py : Pos) (a b : Expr) : Bool := (py.line == px.line) && !decide (x = y) && notStar a && notStar b && notLC a && !(foldedForSure 8 a && foldedForSure 8 b) && !(constantsAlone 8 a && constantsAlone 8 b)
theorem swap_par {x y : Str} {px py pt pt2 : Pos} {kt k2 : Nat} {a b : Expr} {env : Env} (hk : env.scope.kind = .function) (hx : locK env.scope x = true) (hy : locK env.scope y = true) (h : parOk x y px py a b = true) :
    swappedStores [.Tuple [.Name x px, .Name y py] kt pt] (.Tuple [a, b] k2 pt2) env = pure (some [x, y]) := by
  unfold parOk at h
  simp only [Bool.and_eq_true, Bool.not_eq_true', decide_eq_false_iff_not] at h
  obtain ⟨⟨⟨⟨⟨⟨h1, h2⟩, h3⟩, h4⟩, h5⟩, h6⟩, h7⟩ := h
  have kx : env.kindOf x = some .local := loc_of hx
  have ky : env.kindOf y = some .local := loc_of hy
  have hb : env.blockKind = .function := by unfold Env.blockKind; rw [hk]; rfl
  have hs : ([a, b].any fun | .Starred .. => true | _ => false) = false := by
    cases a <;> first
      | (cases h3; done)
      | (cases b <;> first | rfl | cases h4)
  have hne : (x == y) = false := by simpa using h2
  have hne' : (y == x) = false := by simpa using fun e => h2 e.symm
  have hpl : py.line = px.line := by simpa using h1
  have e2 : ([x, y] : List Str).eraseDups = [x, y] := by
    have e3 : ([y] : List Str).eraseDups = [y] := by rw [List.eraseDups_cons]; rfl
    rw [List.eraseDups_cons]
    have e4 : ([y] : List Str).filter (fun b => !b == x) = [y] := by simp [hne']
    rw [e4, e3]
  unfold swappedStores
  simp only [hb, List.length_cons, List.length_nil, pure_bind, hs]
  simp [kx, ky, hpl, Expr.pos, e2]
  rw [if_neg, if_neg, if_neg]
  · rintro ⟨z1, z2⟩
    rw [z1, z2] at h7
    cases h7
  · rintro ⟨z1, z2⟩
    rw [z1, z2] at h6
    cases h6
  · rintro (z | z)
    · cases a <;> first
        | (cases h3; done)
        | (cases z; done)
    · cases b <;> first
        | (cases h4; done)
        | (cases z; done)
/-! ### the evaluator of statements -/
def lcOk (sc : Scope) (x : Str) (py pos : Pos) (scope : Scope) : Bool := locK sc x && (py.line == pos.line) && !(scope.names.any fun (n, k) => n == x && (k == .local || k == .cell))
def forD (t : Tg) (B : DEnv → Option Out) : List D → DEnv → Option Out
  | [], Γ => some (.nx Γ)
  | d :: r, Γ => match tgSet t d Γ with
    | none => none
    | some Γ1 => match B Γ1 with
      | some (.nx Γ2) => forD t B r Γ2
      | some (.rt d) => some (.rt d)
      | none => none
def setO (i : Nat) (o : Option D) (Γ : DEnv) : Option Out := bindO o fun d => some (.nx (Γ.set i (some d)))
/-- what a statement does -/
inductive Act where
  | skip | bad
  | ex (f : DEnv → Option D)
  | ret (f : DEnv → Option D)
  | cond (f : DEnv → Option Bool) (a b : List Stmt)
  | set (i : Nat) (f : DEnv → Option D)
  | par (i j : Nat) (f g : DEnv → Option D)
  | tup (t : Tg) (f : DEnv → Option D)
  | loop (t : Tg) (f : DEnv → Option (List D)) (body : List Stmt)
def act (p : Par) (R : Ev) (sc : Scope) : Stmt → Act
  | .Expr (.Constant (.str _) _ _) _ => .skip
  | .Expr (.Call fn (e :: es) [] cp) _ => .ex (R.E sc (.Call fn (e :: es) [] cp))
  | .Return (some e) _ => .ret (R.E sc e)
  | .Return none _ => .ret fun _ => some .non
  | .If c a b _ => .cond (R.T sc c) a b
  | .Assign [.Name x py] (.ListComp elt [⟨tg, iter, ifs, 0⟩] scope pos) _ => match ixOf p.N x with
    | some i => if lcOk sc x py pos scope = true then .set i (evLC p R sc elt tg iter ifs scope) else if celK sc x = true then .set i (R.E sc (.ListComp elt [⟨tg, iter, ifs, 0⟩] scope pos)) else .bad
    | none => .bad
  | .Assign [.Name x _] e _ => match ixOf p.N x with
    | some i => if notLC e = true ∧ (locK sc x || celK sc x) = true then .set i (R.E sc e) else .bad
    | none => .bad
  | .Assign [.Tuple [.Name x px, .Name y py] _ _] (.Tuple [a, b] _ _) _ => match ixOf p.N x, ixOf p.N y with
    | some i, some j => if parOk x y px py a b = true ∧ locK sc x = true ∧ locK sc y = true ∧ i ≠ j then .par i j (R.E sc a) (R.E sc b) else .bad
    | _, _ => .bad
  | .Assign [.Tuple es k tp] e _ => match tgIx p.N sc (.Tuple es k tp) with
    | some t => if notLC e = true ∧ notTup e = true then .tup t (R.E sc e) else .bad
    | none => .bad
  | .For tg iter body [] _ => match tgIx p.N sc tg with
    | some t => if notSet iter = true then .loop t (evI R sc tg iter) body else .bad
    | none => .bad
  | _ => .bad
def runAct (B : List Stmt → DEnv → Option Out) (a : Act) (Γ : DEnv) : Option Out := match a with
  | .skip => some (.nx Γ)
  | .ex f => bindO (f Γ) fun _ => some (.nx Γ)
  | .bad => none
  | .ret f => bindO (f Γ) fun d => some (.rt d)
  | .cond f a b => iteO (f Γ) (B a Γ) (B b Γ)
  | .set i f => bindO (f Γ) fun d => some (.nx (Γ.set i (some d)))
  | .par i j f g => bind2 (f Γ) (g Γ) fun d e => some (.nx ((Γ.set i (some d)).set j (some e)))
  | .tup t f => bindO (f Γ) fun d => bindO (tgSet t d Γ) fun Γ' => some (.nx Γ')
  | .loop t f body => bindO (f Γ) fun ds => forD t (B body) ds Γ
def evSt (p : Par) (R : Ev) (sc : Scope) (B : List Stmt → DEnv → Option Out) (st : Stmt) : DEnv → Option Out := runAct B (act p R sc st)
def evSs (p : Par) (R : Ev) (sc : Scope) : Nat → List Stmt → DEnv → Option Out
  | 0, _, _ => none
  | _ + 1, [], Γ => some (.nx Γ)
  | n + 1, st :: rest, Γ => match evSt p R sc (evSs p R sc n) st Γ with
    | some (.nx Γ') => evSs p R sc n rest Γ'
    | some (.rt d) => some (.rt d)
    | none => none
section
variable {c : Ctx} {p : Par} {X : Cx} {R : Ev}
structure GoodS (c : Ctx) (N : List Str) (X : Cx) : Prop extends Good c N X where
  fn : ∀ x, X.fn x = true
  po : PassesOwn (model X.prog X.w) X.A X.env X.xe
  kind : X.env.scope.kind = .function
theorem sRet (g : Good c p.N X) (S : Sound c p.N R) (e : Expr) (pos : Pos) : PS X (.Return (some e) pos) (rdS X.K fun Γ => bindO (R.E X.env.scope e Γ) fun d => some (.rt d)) := by
  refine ps_imp (ps_ret (S.E X g e)) fun D σ H ⟨G, Γ, o, hs, he, hf, _, hq⟩ => ?_
  obtain ⟨d, q, hf⟩ := bindO_inv hf
  cases hf
  exact ⟨G, Γ, d, hs, he, q, fun v G1 H1 w1 r1 => hq d rfl v G1 H1 w1 r1⟩
theorem set_take {i : Nat} {te : DEnv → Option D} {D : Ends} {σ : L2.St} {H G : Hp} {Γ : DEnv} {o : Out} {K : PySem.W.Frag} (hs : Ext G H) (he : EnvR K G σ Γ) (hf : setO i (te Γ) Γ = some o)
    (hq : ∀ Γ', o = .nx Γ' → ∀ σ' G' H', Grow G H G' H' → EnvR K G' σ' Γ' → D.nx σ' H') : tAsg (rdE K te) (gName i) D σ H := by
  obtain ⟨d, q, hf⟩ := bindO_inv hf
  cases hf
  exact ⟨G, Γ, d, hs, he, q, fun v G1 H1 w1 r1 => hq _ rfl _ G1 H1 w1 ((he.ext w1.g).set i r1)⟩
theorem pss_ofnil : PSs X [] (rdS X.K fun Γ => some (.nx Γ)) := pss_imp pss_nil fun D σ H ⟨G, Γ, o, hs, he, hf, hq, _⟩ => by
  cases hf
  exact hq Γ rfl σ G H (Grow.rfl' hs) he
theorem sFor (g : GoodS c p.N X) (S : Sound c p.N R) (F : ItF c) (hN : p.N.Nodup) {tg iter : Expr} {body : List Stmt} {B : List Stmt → DEnv → Option Out} (hB : PSs X body (rdS X.K (B body))) {t : Tg} (ht : tgIx p.N X.env.scope tg = some t) (hs : notSet iter = true) (pos : Pos) :
    PS X (.For tg iter body [] pos) (rdS X.K fun Γ => bindO (evI R X.env.scope tg iter Γ) fun ds => forD t (B body) ds Γ) := by
  refine ps_imp (ps_for g.po g.calm (sIter g.toGood S F tg iter) (sTg g.toGood hN ht) hB (set_ok hs)) fun D σ H ⟨G, Γ, o, hs, he, hf, hq1, hq2⟩ => ?_
  obtain ⟨ds, hds, hf⟩ := bindO_inv hf
  · refine ⟨G, Γ, ds, hs, he, hds, fun J G1 H1 w1 wk => ?_⟩
    refine ⟨fun i m σ' H' => m = ds.length - i ∧ i ≤ ds.length ∧ ∃ G' Γ', Grow G1 H1 G' H' ∧ EnvR X.K G' σ' Γ' ∧ forD t (B body) (ds.drop i) Γ' = some o, ⟨ds.length, by omega, by omega, G1, Γ, Grow.rfl' w1.sub, he.ext w1.g, by simpa using hf⟩, ?_⟩
    rintro i m σ' H' ⟨rfl, hi, G', Γ', w2, he2, hf2⟩
    obtain ⟨hlen, wk⟩ := wk
    by_cases hlt : i < ds.length
    · refine .inr ⟨((wk i G' H' w2.g w2.sub).1 hlt).1, fun σ' H' => i + 1 ≤ ds.length ∧ ∃ G' Γ', Grow G1 H1 G' H' ∧ EnvR X.K G' σ' Γ' ∧ forD t (B body) (ds.drop (i + 1)) Γ' = some o, fun σ' H' h => ⟨_, by omega, rfl, h⟩, fun x H3 y => ?_⟩
      obtain ⟨G3, d, w3, hd, rx⟩ := ((wk i G' H' w2.g w2.sub).1 hlt).2 x H3 y
      have hdr : ds.drop i = d :: ds.drop (i + 1) := by
        rw [List.drop_eq_getElem_cons hlt]
        rw [List.getElem?_eq_getElem hlt] at hd
        cases hd
        rfl
      rw [hdr] at hf2
      unfold forD at hf2
      split at hf2
      · cases hf2
      · rename_i Γ1 htg
        refine tg_take w3.sub (he2.ext w3.g) rx htg fun σ4 he4 _ => ?_
        split at hf2
        · rename_i Γ2 hb
          refine ⟨G3, Γ1, .nx Γ2, w3.sub, he4, hb, fun Γ' e σ5 G5 H5 w5 he5 => ?_, fun d e => by cases e⟩
          cases e
          exact ⟨by omega, G5, Γ2, (w2.trans w3).trans w5, he5, hf2⟩
        · rename_i d' hb
          cases hf2
          refine ⟨G3, Γ1, .rt d', w3.sub, he4, hb, fun Γ' e => (by cases e), fun d e v G5 H5 w5 r5 => ?_⟩
          cases e
          exact hq2 d' rfl v G5 H5 (((w1.trans w2).trans w3).trans w5) r5
        · cases hf2
    · have hge : ds.length ≤ i := by omega
      rw [List.drop_eq_nil_of_le hge] at hf2
      cases hf2
      exact .inl ⟨(wk i G' H' w2.g w2.sub).2 hge, hq1 Γ' rfl σ' G' H' (w1.trans w2) he2⟩
theorem evLC_inv (p : Par) (R : Ev) (sc : Scope) (elt tg iter : Expr) (ifs : List Expr) (scope : Scope) : (evLC p R sc elt tg iter ifs scope = fun _ => none) ∨ ∃ own t ft, ownIx p.N scope.names = some own ∧ tgIx p.N (relS scope sc) tg = some t ∧ evTs R (relS scope sc) ifs = some ft ∧
    blkC p.N sc scope own = true ∧ (tgAll t).all (fun i => (own.map (·.2)).contains i) = true ∧ notSet iter = true ∧ evLC p R sc elt tg iter ifs scope = fun Γ => match evI R sc tg iter Γ with
      | some ds => (mapLC t (wipeD Γ (own.map (·.2))) ft (R.E (relS scope sc) elt) ds).map D.lst
      | none => none := by
  unfold evLC
  split
  · rename_i own t ft h1 h2 h3
    split
    · rename_i hh
      exact .inr ⟨own, t, ft, h1, h2, h3, hh.1, hh.2.1, hh.2.2, rfl⟩
    · exact .inl rfl
  · exact .inl rfl
theorem sSt (V0 : Given c p) (g : GoodS c p.N X) (S : Sound c p.N R) {B : List Stmt → DEnv → Option Out} (hB : ∀ b, PSs X b (rdS X.K (B b))) (st : Stmt) : PS X st (rdS X.K (evSt p R X.env.scope B st)) := by
  unfold evSt act
  split
  · exact ps_imp ps_doc fun D σ H ⟨G, Γ, o, hs, he, hf, hq, _⟩ => by
      cases hf
      exact hq Γ rfl σ G H (Grow.rfl' hs) he
  · refine ps_imp (ps_expr (S.E X g.toGood _) rfl) fun D σ H ⟨G, Γ, o, hs, he, hf, hq, _⟩ => ?_
    obtain ⟨d, hd, hf⟩ := bindO_inv hf
    cases hf
    exact ⟨G, Γ, d, hs, he, hd, fun v G' H' w _ => hq Γ rfl σ G' H' w (he.ext w.g)⟩
  · exact sRet g.toGood S _ _
  · exact ps_imp ps_retN fun D σ H ⟨G, Γ, o, hs, he, hf, _, hq⟩ => by
      cases hf
      exact hq _ rfl _ G H (Grow.rfl' hs) .non
  · rename_i cd a b pos
    refine ps_imp (ps_if (S.T X g.toGood cd) (hB a) (hB b)) fun D σ H ⟨G, Γ, o, hs, he, hf, hq1, hq2⟩ => ?_
    rcases iteO_inv hf with ⟨q, hf⟩ | ⟨q, hf⟩
    · exact ⟨G, Γ, true, hs, he, q, fun G1 H1 w1 => iteT ⟨G1, Γ, o, w1.sub, he.ext w1.g, hf, fun Γ' e σ' G' H' w => hq1 Γ' e σ' G' H' (w1.trans w), fun d e v G' H' w => hq2 d e v G' H' (w1.trans w)⟩⟩
    · exact ⟨G, Γ, false, hs, he, q, fun G1 H1 w1 => iteF ⟨G1, Γ, o, w1.sub, he.ext w1.g, hf, fun Γ' e σ' G' H' w => hq1 Γ' e σ' G' H' (w1.trans w), fun d e v G' H' w => hq2 d e v G' H' (w1.trans w)⟩⟩
  · rename_i x py elt tg iter ifs scope pos spos
    split
    · rename_i i hi
      have hi' : X.N[i]? = some x := by rw [g.N]; exact ixOf_get hi
      split
      · rename_i hl
        unfold lcOk at hl
        simp only [Bool.and_eq_true, Bool.not_eq_true'] at hl
        obtain ⟨⟨l1, l2⟩, l3⟩ := hl
        rcases evLC_inv p R X.env.scope elt tg iter ifs scope with h0 | ⟨own, t, ft, h1, h2, h3, hb, ha, hs, h0⟩
        · rw [h0]
          exact ps_none fun _ => rfl
        · rw [h0]
          show PS X _ (rdS X.K fun Γ => setO i (match evI R X.env.scope tg iter Γ with
              | some ds => (mapLC t (wipeD Γ (own.map (·.2))) ft (R.E (relS scope X.env.scope) elt) ds).map Ag.D.lst
              | none => none) Γ)
          refine ps_imp (ps_setLc (g := gTg X.K t) (tt := rdT X.K ft) (te := rdE X.K (R.E (relS scope X.env.scope) elt)) g.calm (by rw [g.N]; exact V0.nd) hi' (loc_of l1) (sw_true g.kind (loc_of l1) l2 l3) (sIter g.toGood S V0.it tg iter) (blkOk_by (by rw [g.N]; exact hb))
              (fun s H C cl fp => sTg (good_blk g.toGood s H scope C cl fp) V0.nd h2)
              (fun s H C cl fp => sTs S (good_blk g.toGood s H scope C cl fp) h3)
              (fun s H C cl fp => S.E _ (good_blk g.toGood s H scope C cl fp) elt) (set_ok hs)) fun D σ H ⟨G, Γ, o, hsb, he, hf, hq, _⟩ => ?_
          have hf : setO i (match evI R X.env.scope tg iter Γ with
            | some ds => (mapLC t (wipeD Γ (own.map (·.2))) ft (R.E (relS scope X.env.scope) elt) ds).map Ag.D.lst
            | none => none) Γ = some o := hf
          split at hf
          · rename_i ds hds
            cases q : mapLC t (wipeD Γ (own.map (·.2))) ft (R.E (relS scope X.env.scope) elt) ds with
            | none => rw [q] at hf; cases hf
            | some res =>
              rw [q] at hf
              cases hf
              exact ⟨G, Γ, ds, hsb, he, hds, fun J G1 H1 w1 wk D0 hD => lc_walk ha he w1 wk q (fun v G' H' w r => hq _ rfl _ G' H' w ((he.ext w.g).set i r)) D0 hD⟩
          · cases hf
      · split
        · rename_i hcl
          exact ps_imp (ps_set (by rw [g.N]; exact V0.nd) hi' (.inr (cel_of hcl)) (S.E X g.toGood _) (sw_cel hcl) (.inl (g.fn x))) fun D σ H ⟨G, Γ, o, hs, he, hf, hq, _⟩ => set_take hs he hf hq
        · exact ps_none fun _ => rfl
    · exact ps_none fun _ => rfl
  · rename_i x py e pos _
    split
    · rename_i i hi
      have hi' : X.N[i]? = some x := by rw [g.N]; exact ixOf_get hi
      split
      · rename_i hh
        refine ps_imp (ps_set (by rw [g.N]; exact V0.nd) hi' ?_ (S.E X g.toGood _) (sw_no hh.1) (.inl (g.fn x))) fun D σ H ⟨G, Γ, o, hs, he, hf, hq, _⟩ => set_take hs he hf hq
        have := hh.2
        rw [Bool.or_eq_true] at this
        exact this.elim (fun h => .inl (loc_of h)) fun h => .inr (cel_of h)
      · exact ps_none fun _ => rfl
    · exact ps_none fun _ => rfl
  · rename_i x px y py k1 tp a b k2 tp2 pos
    split
    · rename_i i j hi hj
      split
      · rename_i hh
        obtain ⟨h1, h2, h3, h4⟩ := hh
        have h1' := h1
        unfold parOk at h1'
        simp only [Bool.and_eq_true, Bool.not_eq_true', decide_eq_false_iff_not] at h1'
        obtain ⟨⟨⟨⟨⟨⟨_, _⟩, n3⟩, n4⟩, _⟩, _⟩, _⟩ := h1'
        refine ps_imp (ps_par g.calm (by rw [g.N]; exact V0.nd) (by rw [g.N]; exact ixOf_get hi) (by rw [g.N]; exact ixOf_get hj) h4 (loc_of h2) (loc_of h3) (pa_cons (S.E X g.toGood a) (pa_cons (S.E X g.toGood b) pa_nil (starEach_ok n4 _ _)) (starEach_ok n3 _ _)) (swap_par g.kind h2 h3 h1) rfl) fun D σ H ⟨G, Γ, o, hs, he, hf, hq, _⟩ => ?_
        obtain ⟨d, e, q1, q2, hf⟩ := bind2_inv hf
        · cases hf
          refine ⟨G, Γ, d, hs, he, q1, fun v G1 H1 w1 r1 => ⟨G1, Γ, e, w1.sub, he.ext w1.g, q2, fun u G2 H2 w2 r2 => ⟨v, u, rfl, ?_⟩⟩⟩
          exact hq _ rfl _ G2 H2 (w1.trans w2) (((((he.ext w1.g).ext w2.g).set i (r1.ext w2.g))).set j r2)
      · exact ps_none fun _ => rfl
    · exact ps_none fun _ => rfl
  · rename_i es k tp e pos _
    split
    · rename_i t ht
      split
      · rename_i hh
        refine ps_imp (ps_asg (S.E X g.toGood e) (sTg g.toGood V0.nd ht) (by unfold swapsWithSole; exact sw_no hh.1) (swap_tup hh.2) rfl) fun D σ H ⟨G, Γ, o, hs, he, hf, hq, _⟩ => ?_
        obtain ⟨d, q, hf⟩ := bindO_inv hf
        obtain ⟨Γ', htg, hf⟩ := bindO_inv hf
        · · cases hf
            exact ⟨G, Γ, d, hs, he, q, fun v G1 H1 w1 r1 => tg_take w1.sub (he.ext w1.g) r1 htg fun σ' he' _ => hq _ rfl σ' G1 H1 w1 he'⟩
      · exact ps_none fun _ => rfl
    · exact ps_none fun _ => rfl
  · split
    · rename_i t ht
      split
      · rename_i hs
        exact sFor g S V0.it V0.nd (hB _) ht hs _
      · exact ps_none fun _ => rfl
    · exact ps_none fun _ => rfl
  · exact ps_none fun _ => rfl
theorem sSs (V0 : Given c p) (g : GoodS c p.N X) (S : Sound c p.N R) : ∀ (n : Nat) (sts : List Stmt), PSs X sts (rdS X.K (evSs p R X.env.scope n sts))
  | 0, _ => pss_none fun _ => rfl
  | n + 1, [] => pss_ofnil
  | n + 1, st :: rest => by
    refine pss_imp (pss_cons (sSt V0 g S (sSs V0 g S n) st) (sSs V0 g S n rest)) fun D σ H ⟨G, Γ, o, hs, he, hf, hq1, hq2⟩ => ?_
    unfold evSs at hf
    split at hf
    · rename_i Γ' q
      refine ⟨G, Γ, .nx Γ', hs, he, q, fun Γ2 e σ2 G2 H2 w2 he2 => ?_, fun d e => by cases e⟩
      cases e
      exact ⟨G2, Γ', o, w2.sub, he2, hf, fun Γ' e σ' G' H' w => hq1 Γ' e σ' G' H' (w2.trans w), fun d e v G' H' w => hq2 d e v G' H' (w2.trans w)⟩
    · rename_i d q
      cases hf
      refine ⟨G, Γ, .rt d, hs, he, q, fun Γ2 e => (by cases e), fun d' e v G2 H2 w2 r2 => ?_⟩
      cases e
      exact hq2 d rfl v G2 H2 w2 r2
    · cases hf
end
end Ag
set_option Elab.async false
set_option linter.all false
set_option autoImplicit false
set_option maxRecDepth 100000
set_option maxHeartbeats 1000000
namespace Ag
open PySem PySem.Spec L2 TL
def entry (N : List Str) (ds : List D) : DEnv := ds.map some ++ List.replicate (N.length - ds.length) none
def outD : Option Out → Option D
  | some (.rt d) => some d
  | some (.nx _) => some .non
  | none => none
def semD (p : Par) (n m : Nat) (st : Stmt) (np : Nat) (ds : List D) : Option D := match decide (ds.length = np) with
  | true => outD (evSs p (ev p n) (defScope st) m (defBody st) (entry p.N ds))
  | false => none
def spD (K : PySem.W.Frag) (g : List D → Option D) : Sp := fun vs H Q _ => rCall K g vs H Q
structure Lib (dp : Nat) (c : Ctx) (ft : Str → Option (List D → Option D)) (gc : Str → Option D) : Prop where
  gc : ∀ x d, gc x = some d → ∃ v u, c.mg x = some u ∧ RelV v u ∧ ∀ H, Rep c.K H v d
  ft : ∀ N, CallOk c N ft
  isi : IsiF c
  it : ItF c
  nin : ∀ N X, Good c N X → DeepIn X dp
theorem Lib.given {c : Ctx} {ft : Str → Option (List D → Option D)} {gc : Str → Option D} {dp : Nat} (L : Lib dp c ft gc) {N : List Str} (h : N.Nodup) : Given c ⟨dp, N, ft, gc⟩ := ⟨h, L.gc, L.ft N, L.isi, L.it, L.nin N⟩
theorem entry_ok {K : PySem.W.Frag} {G : Hp} {N : List Str} {vs : List V} {ds : List D} (r : Reps K G vs ds) : EnvR K G (L2.start N vs) (entry N ds) := by
  have hl := r.length
  refine ⟨by unfold L2.start entry; rw [List.length_append, List.length_append, List.length_map, List.length_map, List.length_replicate, List.length_replicate, hl]; exact Nat.le_refl _, fun i d h => ?_⟩
  unfold entry at h
  by_cases q : i < ds.length
  · rw [List.getElem?_append_left (by simpa using q), List.getElem?_map] at h
    cases e : ds[i]? with
    | none => rw [e] at h; cases h
    | some d' =>
      rw [e] at h
      cases h
      obtain ⟨v, h1, h2⟩ := r.get e
      refine ⟨v, ?_, h2⟩
      unfold L2.start
      rw [List.getElem?_append_left (by rw [List.length_map, hl]; exact q), List.getElem?_map, h1]
      rfl
  · rw [List.getElem?_append_right (by simpa using q), List.getElem?_replicate] at h
    split at h <;> cases h
theorem noxGood {CX : CXT} {c : Ctx} {N : List Str} {qual : Str} {scope : Scope} {f : Addr} {cd : Value} {A : Around} {outer : List Env} {s : Shared} {H : Hp} {E : XK} (hr : Room c.k (A.deeper (PyProof.Rows.envOfC qual scope s.heap.objs.size f cd))) (hk : scope.kind = .function) :
    GoodS c N (cxOf CX c.P c.w c.K c.mg c.base N qual scope f cd A outer s H E).nox :=
  { prog := rfl, w := rfl, K := rfl, mg := rfl, base := rfl, N := rfl, calm := rfl, room := hr, fn := fun _ => rfl, po := .never, kind := hk }
theorem cxGood {CX : CXT} {c : Ctx} {N : List Str} {qual : Str} {scope : Scope} {f : Addr} {cd : Value} {A : Around} {outer : List Env} {s : Shared} {H : Hp} {E : XK} (hr : Room c.k (A.deeper (PyProof.Rows.envOfC qual scope s.heap.objs.size f cd))) :
    Good c N (cxOf CX c.P c.w c.K c.mg c.base N qual scope f cd A outer s H E) :=
  { prog := rfl, w := rfl, K := rfl, mg := rfl, base := rfl, N := rfl, calm := rfl, room := hr }
/-- a def of the text answers by data -/
theorem fn_D {c : Ctx} {ft : Str → Option (List D → Option D)} {gc : Str → Option D} {dp : Nat} (L : Lib dp c ft gc) {x qual : Str} {st : Stmt} {f : Addr} {fd : FuncData} {N ps : List Str} (F : Fun c.K x qual st f fd) (S : FnScope N ps (defScope st)) (n m : Nat) :
    FnOk c.P c.w c.K c.mg c.base CX0 (c.k + 1) f fd ps (spD c.K (semD ⟨dp, N, ft, gc⟩ n m st ps.length)) := by
  refine F.ok S (fun vs H Q E ⟨G, ds, d, hs, r, hg, hq⟩ => ?_) fun cdv A outer s H vs Q E hr ⟨G, ds, d, hs, r, hg, hq⟩ => ?_
  · unfold semD at hg
    rw [r.length]
    split at hg
    · exact of_decide_eq_true (by assumption)
    · cases hg
  · have V0 := L.given S.nd
    refine ⟨_, sSs V0 (noxGood hr S.kind) (sound_ev V0 n) m (defBody st), ?_⟩
    unfold semD at hg
    split at hg
    · cases q : evSs ⟨dp, N, ft, gc⟩ (ev ⟨dp, N, ft, gc⟩ n) (defScope st) m (defBody st) (entry N ds) with
      | none =>
        have hg : outD (evSs ⟨dp, N, ft, gc⟩ (ev ⟨dp, N, ft, gc⟩ n) (defScope st) m (defBody st) (entry N ds)) = some d := hg
        rw [q] at hg
        cases hg
      | some o =>
        have hg : outD (evSs ⟨dp, N, ft, gc⟩ (ev ⟨dp, N, ft, gc⟩ n) (defScope st) m (defBody st) (entry N ds)) = some d := hg
        rw [q] at hg
        refine ⟨G, entry N ds, o, hs, entry_ok r, q, fun Γ' e σ' G' H' w he => ?_, fun d' e v G' H' w r' => ?_⟩
        · rw [e] at hg
          cases hg
          exact hq .non G' H' w .non
        · rw [e] at hg
          cases hg
          exact hq v G' H' w r'
    · cases hg
/-! ### a further def among those that are called -/
def putFt (ft : Str → Option (List D → Option D)) (x : Str) (g : List D → Option D) : Str → Option (List D → Option D) := fun y => match decide (y = x) with
  | true => some g
  | false => ft y
theorem call_D {c : Ctx} {N : List Str} {X : Cx} (gd : Good c N X) {x : Str} {f : Addr} {fd : FuncData} {ps : List Str} {g : List D → Option D} {j : Nat} (F : FnOk c.P c.w c.K c.mg c.base CX0 j f fd ps (spD c.K g)) (hj : j ≤ c.k) (hm : c.mg x = some (.ref f)) (hk : PySem.W.keepIn c.K (.ref f) = true)
    (hb : Binds c.K fd ps []) (hd : (x == ("__debug__" : Str)) = false) (e : Expr) (es : List Expr) (px pos : Pos) (ta : TA) (hg : glbK X.env.scope x = true) (hst : (e :: es).all notStar = true) (ha : PA X (e :: es) ta) :
    PE X (.Call (.Name x px) (e :: es) [] pos) (tCB (rCall X.K g) ta) := by
  rw [List.all_cons, Bool.and_eq_true] at hst
  have F' : FnOk X.prog X.w X.K X.mg X.base CX0 c.k f fd ps (spD X.K g) := by rw [gd.prog, gd.w, gd.K, gd.mg, gd.base]; exact F.mono hj
  refine pe_imp (pe_call (E := E0) F' gd.room (glb_of hg) (by rw [gd.mg]; exact hm) (by rw [gd.K]; exact hk) (by rw [gd.K]; exact hb) .nil pass0 ha hd (starEach_ok hst.1 _ _) (back_ok hst.2)) fun σ H Q h => ?_
  show ta σ H fun vs H1 => spD X.K g (vs ++ []) H1 Q E0
  have e : (fun (vs : List V) (H1 : Hp) => spD X.K g (vs ++ []) H1 Q E0) = fun vs H1 => rCall X.K g vs H1 Q := by
    funext vs H1
    rw [List.append_nil]
    rfl
  rw [e]
  exact h
theorem Lib.put {c : Ctx} {ft : Str → Option (List D → Option D)} {gc : Str → Option D} {dp : Nat} (L : Lib dp c ft gc) {x : Str} {g : List D → Option D} (h : ∀ N X, Good c N X → ∀ (e : Expr) (es : List Expr) (px pos : Pos) (ta : TA), glbK X.env.scope x = true → (e :: es).all notStar = true → PA X (e :: es) ta →
    PE X (.Call (.Name x px) (e :: es) [] pos) (tCB (rCall X.K g) ta)) : Lib dp c (putFt ft x g) gc := by
  refine ⟨L.gc, fun N => ⟨fun y g' hy X gd => ?_⟩, L.isi, L.it, L.nin⟩
  unfold putFt at hy
  split at hy
  · rename_i hd
    cases hy
    obtain rfl := of_decide_eq_true hd
    exact h N X gd
  · exact (L.ft N).run y g' hy X gd
/-- more room -/
theorem Good.less {c : Ctx} {k : Nat} {N : List Str} {X : Cx} (g : Good { c with k := k } N X) (h : c.k ≤ k) : Good c N X := ⟨g.prog, g.w, g.K, g.mg, g.base, g.N, g.calm, g.room.mono h⟩
theorem Lib.up {c : Ctx} {ft : Str → Option (List D → Option D)} {gc : Str → Option D} {dp : Nat} (L : Lib dp c ft gc) {k : Nat} (h : c.k ≤ k) : Lib dp { c with k := k } ft gc :=
  ⟨L.gc, fun N => ⟨fun x g hx X gd => (L.ft N).run x g hx X (gd.less h)⟩, ⟨L.isi.fi, L.isi.ft, L.isi.cl, L.isi.rI, L.isi.nR⟩, ⟨L.it.range, L.it.enum⟩, fun N X gd => L.nin N X (gd.less h)⟩
end Ag
set_option Elab.async false
set_option linter.all false
set_option autoImplicit false
set_option maxRecDepth 100000
set_option maxHeartbeats 1000000
namespace Ag
open PySem PySem.Spec L2 TL
section
variable {α : Type}
def caseO (o : Option Out) (kn : DEnv → Option α) (kr : D → Option α) : Option α := match o with
  | none => none
  | some (.nx Γ) => kn Γ
  | some (.rt d) => kr d
theorem caseO_ite {c : Option Bool} {x y : Option Out} {kn : DEnv → Option α} {kr : D → Option α} : caseO (iteO c x y) kn kr = iteO c (caseO x kn kr) (caseO y kn kr) := by
  rcases c with _ | _ | _ <;> rfl
def forK (t : Tg) (B : (DEnv → Option α) → DEnv → Option α) (kn : DEnv → Option α) : List D → DEnv → Option α
  | [], Γ => kn Γ
  | d :: r, Γ => bindO (tgSet t d Γ) (B (forK t B kn r))
theorem forK_eq {t : Tg} {B : DEnv → Option Out} {BK : (DEnv → Option α) → DEnv → Option α} {kr : D → Option α} (h : ∀ kn Γ, BK kn Γ = caseO (B Γ) kn kr) (kn : DEnv → Option α) : ∀ (ds : List D) (Γ : DEnv), forK t BK kn ds Γ = caseO (forD t B ds Γ) kn kr
  | [], Γ => rfl
  | d :: r, Γ => by
    unfold forK forD
    cases tgSet t d Γ with
    | none => rfl
    | some Γ1 =>
      show BK (forK t BK kn r) Γ1 = _
      rw [h]
      dsimp only
      cases B Γ1 with
      | none => rfl
      | some o =>
        cases o with
        | nx Γ2 => exact forK_eq h kn r Γ2
        | rt d => rfl
def runK (kr : D → Option α) (BK : List Stmt → (DEnv → Option α) → DEnv → Option α) (a : Act) (kn : DEnv → Option α) (Γ : DEnv) : Option α := match a with
  | .skip => kn Γ
  | .ex f => bindO (f Γ) fun _ => kn Γ
  | .bad => none
  | .ret f => bindO (f Γ) kr
  | .cond f a b => iteO (f Γ) (BK a kn Γ) (BK b kn Γ)
  | .set i f => bindO (f Γ) fun d => kn (Γ.set i (some d))
  | .par i j f g => bind2 (f Γ) (g Γ) fun d e => kn ((Γ.set i (some d)).set j (some e))
  | .tup t f => bindO (f Γ) fun d => bindO (tgSet t d Γ) kn
  | .loop t f body => bindO (f Γ) fun ds => forK t (BK body) kn ds Γ
def evSsK (p : Par) (R : Ev) (sc : Scope) (kr : D → Option α) : Nat → List Stmt → (DEnv → Option α) → DEnv → Option α
  | 0, _, _, _ => none
  | _ + 1, [], kn, Γ => kn Γ
  | n + 1, st :: rest, kn, Γ => runK kr (evSsK p R sc kr n) (act p R sc st) (evSsK p R sc kr n rest kn) Γ
theorem runK_eq {kr : D → Option α} {B : List Stmt → DEnv → Option Out} {BK : List Stmt → (DEnv → Option α) → DEnv → Option α} (h : ∀ b kn Γ, BK b kn Γ = caseO (B b Γ) kn kr) (a : Act) (kn : DEnv → Option α) (Γ : DEnv) :
    runK kr BK a kn Γ = caseO (runAct B a Γ) kn kr := by
  cases a with
  | skip => rfl
  | ex f => unfold runK runAct; dsimp only; cases f Γ <;> rfl
  | bad => rfl
  | ret f => unfold runK runAct; dsimp only; cases f Γ <;> rfl
  | cond f a b => unfold runK runAct; dsimp only; rw [caseO_ite, h, h]
  | set i f => unfold runK runAct; dsimp only; cases f Γ <;> rfl
  | par i j f g => unfold runK runAct; dsimp only; cases f Γ <;> cases g Γ <;> rfl
  | tup t f =>
    unfold runK runAct
    dsimp only
    cases f Γ with
    | none => rfl
    | some d =>
      show bindO (tgSet t d Γ) kn = caseO (bindO (tgSet t d Γ) fun Γ' => some (.nx Γ')) kn kr
      cases tgSet t d Γ <;> rfl
  | loop t f body =>
    unfold runK runAct
    dsimp only
    cases f Γ with
    | none => rfl
    | some ds => exact forK_eq (fun kn Γ => h body kn Γ) kn ds Γ
theorem evSsK_eq {p : Par} {R : Ev} {sc : Scope} {kr : D → Option α} : ∀ (n : Nat) (sts : List Stmt) (kn : DEnv → Option α) (Γ : DEnv), evSsK p R sc kr n sts kn Γ = caseO (evSs p R sc n sts Γ) kn kr
  | 0, _, _, _ => rfl
  | n + 1, [], _, _ => rfl
  | n + 1, st :: rest, kn, Γ => by
    show runK kr (evSsK p R sc kr n) (act p R sc st) (evSsK p R sc kr n rest kn) Γ = _
    rw [runK_eq fun b kn Γ => evSsK_eq n b kn Γ]
    show caseO (evSt p R sc (evSs p R sc n) st Γ) _ _ = caseO (match evSt p R sc (evSs p R sc n) st Γ with
      | some (.nx Γ') => evSs p R sc n rest Γ'
      | some (.rt d) => some (.rt d)
      | none => none) kn kr
    cases evSt p R sc (evSs p R sc n) st Γ with
    | none => rfl
    | some o =>
      cases o with
      | nx Γ' => exact evSsK_eq n rest kn Γ'
      | rt d => rfl
end
/-- what a def answers -/
def semK (p : Par) (n m : Nat) (st : Stmt) (np : Nat) (ds : List D) : Option D := match decide (ds.length = np) with
  | true => evSsK p (ev p n) (defScope st) some m (defBody st) (fun _ => some .non) (entry p.N ds)
  | false => none
theorem semD_K (p : Par) (n m : Nat) (st : Stmt) (np : Nat) (ds : List D) : semD p n m st np ds = semK p n m st np ds := by
  unfold semD semK
  generalize decide (ds.length = np) = b
  cases b with
  | false => rfl
  | true =>
    show outD (evSs p (ev p n) (defScope st) m (defBody st) (entry p.N ds)) = evSsK p (ev p n) (defScope st) some m (defBody st) (fun _ => some .non) (entry p.N ds)
    rw [evSsK_eq]
    cases evSs p (ev p n) (defScope st) m (defBody st) (entry p.N ds) with
    | none => rfl
    | some o => cases o <;> rfl
end Ag
set_option Elab.async false
set_option linter.all false
set_option autoImplicit false
set_option maxRecDepth 100000
set_option maxHeartbeats 1000000
namespace Ag
open PySem PySem.Spec L2 TL
def arg0 : Option (List D) := some []
def argC (a : Option D) (r : Option (List D)) : Option (List D) := match a with
  | some d => r.map (d :: ·)
  | none => none
def call1 (f : List D → Option D) (a : Option D) : Option D := (argC a arg0).bind f
def call2 (f : List D → Option D) (a b : Option D) : Option D := (argC a (argC b arg0)).bind f
def call3 (f : List D → Option D) (a b c : Option D) : Option D := (argC a (argC b (argC c arg0))).bind f
def tupM (a : Option (List D)) : Option D := a.map D.tup
def lstM (a : Option (List D)) : Option D := a.map D.lst
/-- the element of a comprehension without tests -/
def el (h : D → Option D) (d : D) : Option (Option D) := match h d with
  | some v => some (some v)
  | none => none
/-- [h(x) for x in o] -/
def lcM (h : D → Option D) (o : Option (List D)) : Option D := match o with
  | some ds => (mapE (el h) ds).map D.lst
  | none => none
def inM (o : Option D) : Option (List D) := bindO o seqD
def notO (a : Option Bool) : Option Bool := a.map (!·)
def cmpM (dp : Nat) (op : CmpOp) (a b : Option D) : Option Bool := bind2 a b (cmpD dp op)
def chainM (dp : Nat) (op op' : CmpOp) (a b c : Option D) : Option Bool := bind2 a b fun x y => andO (cmpD dp op x y) (bindO c (cmpD dp op' y))
def truM (a : Option D) : Option Bool := bindO a truD
def ixM (a b : Option D) : Option D := bind2 a b ixD
def slM (a : Option D) (lo hi : Option (Option Int)) : Option D := bindO a fun x => bindO lo fun l => bindO hi (slD x l)
def strM (s : Str) : Option D := some (.str s)
def intM (i : Int) : Option D := some (.int i)
def chars (s : Str) : List D := (tl s).map fun c => .str (mkS [c])
end Ag
namespace Ag
open PySem PySem.Spec L2 TL
def litM (s : Str) (k : Str → Option Str) (acc : Str) : Option Str := if okB s = true ∧ acc.length + s.length ≤ sL then k (acc ++ s) else none
def fmtM (a : Option D) (k : Str → Option Str) (acc : Str) : Option Str := match a with
  | some d => match fmtD d with
    | some s => if acc.length + s.length ≤ sL then k (acc ++ s) else none
    | none => none
  | none => none
def isi2 (a : Option D) (y1 y2 : Ty0) : Option Bool := a.bind fun d => match isi0 d y1 with
  | some true => some true
  | some false => isi0 d y2
  | none => none
abbrev FtL : Type := List (Str × (List D → Option D))
def ftOf : FtL → Str → Option (List D → Option D)
  | [], _ => none
  | (n, g) :: r, x => match decide (n = x) with
    | true => some g
    | false => ftOf r x
def lkC : List (Str × D) → Str → Option D
  | [], _ => none
  | (n, g) :: r, x => match decide (n = x) with
    | true => some g
    | false => lkC r x
/-- the names of the module that stand for data -/
def gcL : List (Str × D) := [("FIGURES", .str "0123456789"), ("MOST_FIGURES", .int 400), ("LOTS_READ", .int 12), ("TIMES_READ", .int (10 ^ 30)), ("MOST_COLUMNS", .int 3), ("MOST_ROWS", .int 40), ("MOST_STEPS", .int 200), ("ONE_WAY", .tup [.str "ahead", .str "behind"]), ("TWO_WAY", .tup [.str "sum", .str "less", .str "times"]), ("MOST_PARTS", .int 400), ("MOST_LETTERS", .int 8), ("MOST_POWER", .int 8), ("MOST_LOTS", .int 12), ("MOST_TIMES", .int (10 ^ 30))]
def gcB : Str → Option D := lkC gcL
def fl0 : FtL := [("len", gLen), ("int", gInt), ("str", gStr), ("all", gAll), ("any", gAny), ("tuple", gTuple), ("abs", gAbs)]
end Ag
set_option Elab.async false
set_option linter.all false
set_option autoImplicit false
set_option maxRecDepth 100000
set_option maxHeartbeats 1000000
namespace Ag
open PySem PySem.Spec L2 TL
section
variable {α β : Type}
theorem bindO_s {x : α} {f : α → Option β} : bindO (some x) f = f x := rfl
theorem bindO_n {f : α → Option β} : bindO none f = none := rfl
theorem bindO_r {a : Option α} : bindO a some = a := by cases a <;> rfl
theorem bind2_s {x y : α} {f : α → α → Option β} : bind2 (some x) (some y) f = f x y := rfl
theorem argC_s {d : D} {r : List D} : argC (some d) (some r) = some (d :: r) := rfl
theorem arg0_s : arg0 = some [] := rfl
theorem andO_t {b : Option Bool} : andO (some true) b = b := rfl
theorem andO_f {b : Option Bool} : andO (some false) b = some false := rfl
theorem orO_t {b : Option Bool} : orO (some true) b = some true := rfl
theorem orO_f {b : Option Bool} : orO (some false) b = b := rfl
theorem andO_s {a b : Bool} : andO (some a) (some b) = some (a && b) := by cases a <;> rfl
theorem orO_s {a b : Bool} : orO (some a) (some b) = some (a || b) := by cases a <;> rfl
theorem notO_s {a : Bool} : notO (some a) = some (!a) := rfl
theorem iteO_t {x y : Option α} : iteO (some true) x y = x := rfl
theorem iteO_f {x y : Option α} : iteO (some false) x y = y := rfl
theorem iteO_s {b : Bool} {x y : Option α} : iteO (some b) x y = if b = true then x else y := by cases b <;> rfl
theorem obind_s {x : α} {f : α → Option β} : (some x).bind f = f x := rfl
theorem omap_s {x : α} {f : α → β} : (some x).map f = some (f x) := rfl
theorem strM_d {s : Str} : strM s = some (.str s) := rfl
theorem intM_d {i : Int} : intM i = some (.int i) := rfl
theorem inM_lst {ds : List D} : inM (some (.lst ds)) = some ds := rfl
theorem inM_tup {ds : List D} : inM (some (.tup ds)) = some ds := rfl
theorem inM_str {s : Str} : inM (some (.str s)) = some (chars s) := rfl
theorem truM_bl {b : Bool} : truM (some (.bl b)) = some b := rfl
theorem cmpM_s {dp : Nat} {op : CmpOp} {x y : D} : cmpM dp op (some x) (some y) = cmpD dp op x y := rfl
theorem chainM_s {dp : Nat} {op op' : CmpOp} {x y z : D} : chainM dp op op' (some x) (some y) (some z) = andO (cmpD dp op x y) (cmpD dp op' y z) := rfl
theorem lst_s {ds : List D} : lstM (some ds) = some (.lst ds) := rfl
theorem tup_s {ds : List D} : tupM (some ds) = some (.tup ds) := rfl
theorem ixM_s {x y : D} : ixM (some x) (some y) = ixD x y := rfl
theorem slM_s {x : D} {l h : Option Int} : slM (some x) (some l) (some h) = slD x l h := rfl
end
/-- a comprehension whose elements are known -/
theorem lcM_s {h : D → Option D} {f : D → D} {ds : List D} (hf : ∀ d ∈ ds, h d = some (f d)) : lcM h (some ds) = some (.lst (ds.map f)) := by
  have key : mapE (el h) ds = some (ds.map f) := by
    induction ds with
    | nil => rfl
    | cons d r ih =>
      have e : el h d = some (some (f d)) := by unfold el; rw [hf d List.mem_cons_self]
      show (match el h d with
        | none => none
        | some none => mapE (el h) r
        | some (some v) => match mapE (el h) r with
          | some vs => some (v :: vs)
          | none => none) = _
      rw [e, ih fun d hd => hf d (List.mem_cons_of_mem _ hd)]
      rfl
  show (mapE (el h) ds).map D.lst = _
  rw [key]
  rfl
theorem lcM_map {α : Type} {h : D → Option D} {i : α → D} {f : α → D} {l : List α} (hf : ∀ a ∈ l, h (i a) = some (f a)) : lcM h (some (l.map i)) = some (.lst (l.map f)) := by
  have key : mapE (el h) (l.map i) = some (l.map f) := by
    induction l with
    | nil => rfl
    | cons d r ih =>
      have e : el h (i d) = some (some (f d)) := by unfold el; rw [hf d List.mem_cons_self]
      show (match el h (i d) with
        | none => none
        | some none => mapE (el h) (r.map i)
        | some (some v) => match mapE (el h) (r.map i) with
          | some vs => some (v :: vs)
          | none => none) = _
      rw [e, ih fun d hd => hf d (List.mem_cons_of_mem _ hd)]
      rfl
  show (mapE (el h) (l.map i)).map D.lst = _
  rw [key]
  rfl
theorem allBl_map {α : Type} (b : α → Bool) : ∀ l : List α, D.allBl (l.map fun a => .bl (b a)) = some (l.map b)
  | [] => rfl
  | a :: r => by
    show (D.allBl (r.map fun a => .bl (b a))).map (b a :: ·) = _
    rw [allBl_map b r]
    rfl
theorem gAll_map {α : Type} (b : α → Bool) (l : List α) : gAll [.lst (l.map fun a => .bl (b a))] = some (.bl (l.all b)) := by
  show (D.allBl (l.map fun a => .bl (b a))).map (fun bs => D.bl (bs.all id)) = _
  rw [allBl_map]
  show some (D.bl ((l.map b).all id)) = _
  rw [List.all_map]
  rfl
theorem gAny_map {α : Type} (b : α → Bool) (l : List α) : gAny [.lst (l.map fun a => .bl (b a))] = some (.bl (l.any b)) := by
  show (D.allBl (l.map fun a => .bl (b a))).map (fun bs => D.bl (bs.any id)) = _
  rw [allBl_map]
  show some (D.bl ((l.map b).any id)) = _
  rw [List.any_map]
  rfl
/-- all([..]) -/
theorem all_lc {α : Type} {h : D → Option D} {i : α → D} {b : α → Bool} {l : List α} (hf : ∀ a ∈ l, h (i a) = some (.bl (b a))) : (argC (lcM h (some (l.map i))) arg0).bind gAll = some (.bl (l.all b)) := by
  rw [lcM_map hf]
  exact gAll_map b l
theorem any_lc {α : Type} {h : D → Option D} {i : α → D} {b : α → Bool} {l : List α} (hf : ∀ a ∈ l, h (i a) = some (.bl (b a))) : (argC (lcM h (some (l.map i))) arg0).bind gAny = some (.bl (l.any b)) := by
  rw [lcM_map hf]
  exact gAny_map b l
theorem tl_mkS (l : List Nat) : tl (mkS l) = l := rfl
theorem mkS_tl (s : Str) : mkS (tl s) = s := mk_tl s
theorem eq_iff {s t : Str} : s = t ↔ tl s = tl t := ⟨fun h => by rw [h], ext_tl⟩
theorem mkS_eq {l : List Nat} {t : Str} : mkS l = t ↔ l = tl t := eq_iff
theorem dec_eq {s t : Str} : decide (s = t) = decide (tl s = tl t) := decide_eq_decide.mpr eq_iff
theorem str_ind {P : Str → Prop} (h : ∀ l : List Nat, P (mkS l)) (s : Str) : P s := by rw [← mkS_tl s]; exact h _
theorem len_mkS (l : List Nat) : (mkS l).length = l.length := len_tl _
end Ag
set_option Elab.async false
set_option linter.all false
set_option autoImplicit false
set_option maxRecDepth 100000
set_option maxHeartbeats 1000000
namespace Ag
open PySem PySem.Spec L2 TL
def N_is_integer : List Str := ["value"]
def m_is_integer (v_value : D) : Option D :=
  bindO (bindO ((((some v_value)).bind fun d => isi0 d .int).map D.bl) (andV1 (bindO ((((some v_value)).bind fun d => isi0 d .bool).map D.bl) notD))) some
theorem mq_is_integer (v_value : D) : semK ⟨0, N_is_integer, ftOf fl0, gcB⟩ 40 40 s_is_integer 1 [v_value] = m_is_integer v_value := by kernel_rfl
def N_is_list : List Str := ["value"]
def m_is_list (v_value : D) : Option D :=
  bindO ((isi2 (some v_value) .list .tuple).map D.bl) some
theorem mq_is_list (v_value : D) : semK ⟨0, N_is_list, ftOf fl0, gcB⟩ 40 40 s_is_list 1 [v_value] = m_is_list v_value := by kernel_rfl
def N_count_told : List Str := ["text", "sign"]
def m_count_told (v_text : D) : Option D :=
  iteO (orO (notO (chainM 0 .LtE .LtE (intM 1) (((argC (some v_text) arg0)).bind gLen) (intM 400))) (notO (truM (((argC (lcM (fun v_sign => ((cmpM 0 .In (some v_sign) (strM "0123456789")).map D.bl)) (inM (some v_text))) arg0)).bind gAll))))
    (bindO (some D.non) some)
    (bindO (iteO (orO (cmpM 0 .Eq (some v_text) (strM "0")) (cmpM 0 .NotEq (ixM (some v_text) (intM 0)) (strM "0"))) (((argC (some v_text) arg0)).bind gInt) (some D.non)) some)
theorem mq_count_told (v_text : D) : semK ⟨0, N_count_told, ftOf fl0, gcB⟩ 40 40 s_count_told 1 [v_text] = m_count_told v_text := by kernel_rfl
def N__law_count : List Str := ["_law_text_here", "_law_sign"]
def m__law_count (v_text_here : D) : Option D :=
  iteO (orO (cmpM 0 .Eq (some v_text_here) (strM "")) (orO (notO (truM (((argC (lcM (fun v_sign => ((cmpM 0 .In (some v_sign) (strM "0123456789")).map D.bl)) (inM (some v_text_here))) arg0)).bind gAll))) (cmpM 0 .Gt (((argC (some v_text_here) arg0)).bind gLen) (intM 400))))
    (bindO (some D.non) some)
    (bindO (iteO (andO (cmpM 0 .Eq (ixM (some v_text_here) (intM 0)) (strM "0")) (cmpM 0 .Gt (((argC (some v_text_here) arg0)).bind gLen) (intM 1))) (some D.non) (((argC (some v_text_here) arg0)).bind gInt)) some)
theorem mq__law_count (v_text_here : D) : semK ⟨0, N__law_count, ftOf fl0, gcB⟩ 40 40 s__law_count 1 [v_text_here] = m__law_count v_text_here := by kernel_rfl
def digB (l : List Nat) : Bool := l.all fun c => decide (48 ≤ c) && decide (c ≤ 57)
def figs : List Nat := [48, 49, 50, 51, 52, 53, 54, 55, 56, 57]
theorem tl_figs : tl ("0123456789" : Str) = figs := by decide +kernel
theorem mem_figs (c : Nat) : decide (c ∈ figs) = (decide (48 ≤ c) && decide (c ≤ 57)) := by
  rw [← Bool.decide_and]
  refine decide_eq_decide.mpr ⟨fun h => ?_, fun h => ?_⟩
  · simp only [figs, List.mem_cons, List.not_mem_nil, or_false] at h
    omega
  · simp only [figs, List.mem_cons, List.not_mem_nil, or_false]
    omega
def cntB (l : List Nat) : Bool := (decide (1 ≤ l.length) && decide (l.length ≤ 400)) && (digB l && (decide (l.length = 1) || !decide (l.headD 0 = 48)))
/-- the number that a numeral tells -/
def cnt (l : List Nat) : Option Nat := if cntB l = true then some (NumText.digitsVal l) else none
def optN : Option Nat → D
  | some n => .int (n : Nat)
  | none => .non
def g_count_told : List D → Option D
  | [.str s] => some (optN (cnt (tl s)))
  | _ => none
theorem all_dig (l : List Nat) : (argC (lcM (fun v_sign => ((cmpM 0 .In (some v_sign) (strM "0123456789")).map D.bl)) (inM (some (.str (mkS l))))) arg0).bind gAll = some (.bl (digB l)) := by
  refine all_lc (i := fun c => .str (mkS [c])) (l := l) fun c _ => ?_
  show (some (decide (c ∈ tl ("0123456789" : Str)))).map D.bl = _
  rw [tl_figs, mem_figs]
  rfl
theorem ix0 {c : Nat} {r : List Nat} : ixM (some (.str (mkS (c :: r)))) (intM 0) = some (.str (mkS [c])) := by
  show (atI (tl (mkS (c :: r))) ((0 : Nat) : Int)).map _ = _
  rw [tl_mkS, atI_nat (v := c) rfl]
  rfl
theorem eq0 {l : List Nat} : eqD 0 (.str (mkS l)) (.str "0") = some (decide (l = [48])) := by
  show some (decide (mkS l = "0")) = _
  rw [dec_eq, tl_mkS]
  rfl
theorem eqE {l : List Nat} : eqD 0 (.str (mkS l)) (.str "") = some (decide (l = [])) := by
  show some (decide (mkS l = "")) = _
  rw [dec_eq, tl_mkS]
  rfl
theorem gInt_dig {l : List Nat} (h : digB l = true) (h1 : 1 ≤ l.length) (h2 : l.length ≤ 400) : gInt [.str (mkS l)] = some (.int (NumText.digitsVal l : Nat)) := by
  have hd : NumText.AllDigits (mkS l).cps.toList := fun c hc => by
    have := List.all_eq_true.mp h c hc
    simpa using this
  show (if (mkS l).length ≤ 640 then (PySem.intText? (mkS l)).map D.int else none) = _
  rw [len_mkS, if_pos (by omega), PySem.intText_digits hd (by intro e; have e : l = [] := e; rw [e] at h1; exact absurd h1 (by decide)) (by rw [len_mkS]; omega)]
  rfl
theorem gLen_str (l : List Nat) : gLen [.str (mkS l)] = some (.int (l.length : Nat)) := by
  show some (D.int ((mkS l).length : Nat)) = _
  rw [len_mkS]
theorem count_plain (l : List Nat) : m_count_told (.str (mkS l)) = some (optN (cnt l)) := by
  unfold m_count_told cnt cntB
  rw [all_dig]
  simp only [argC_s, arg0_s, obind_s, gLen_str, truM_bl, intM_d, chainM_s, notO_s, strM_d, cmpM_s, bindO_s, bindO_r]
  have e1 : cmpD 0 .LtE (.int 1) (.int (l.length : Nat)) = some (decide (1 ≤ l.length)) := by
    show some (decide ((1 : Int) ≤ (l.length : Nat))) = _
    rw [show decide ((1 : Int) ≤ (l.length : Nat)) = decide (1 ≤ l.length) from decide_eq_decide.mpr (by omega)]
  have e2 : cmpD 0 .LtE (.int (l.length : Nat)) (.int 400) = some (decide (l.length ≤ 400)) := by
    show some (decide (((l.length : Nat) : Int) ≤ 400)) = _
    rw [show decide (((l.length : Nat) : Int) ≤ 400) = decide (l.length ≤ 400) from decide_eq_decide.mpr (by omega)]
  rw [e1, e2, andO_s, notO_s, orO_s]
  by_cases h1 : 1 ≤ l.length
  · by_cases h2 : l.length ≤ 400
    · cases hd : digB l with
      | false => simp [iteO_s, optN]
      | true =>
        rw [decide_eq_true h1, decide_eq_true h2]
        show iteO (orO (cmpD 0 .Eq _ _) _) _ _ = _
        rw [gInt_dig hd h1 h2]
        have e3 : cmpD 0 .Eq (.str (mkS l)) (.str "0") = some (decide (l = [48])) := eq0
        rw [e3]
        cases l with
        | nil => exact absurd h1 (by decide)
        | cons c r =>
          rw [← intM_d, ix0]
          have e4 : cmpM 0 .NotEq (some (.str (mkS [c]))) (some (.str "0")) = some (!decide (c = 48)) := by
            show (eqD 0 (.str (mkS [c])) (.str "0")).map (!·) = _
            rw [eq0]
            simp
          rw [e4, orO_s]
          by_cases hc : c = 48
          · subst hc
            cases r <;> simp [iteO_s, optN]
          · simp [iteO_s, optN, hc]
    · simp [h2, iteO_s, optN]
  · simp [h1, iteO_s, optN]
theorem law_count_plain (l : List Nat) : m__law_count (.str (mkS l)) = some (optN (cnt l)) := by
  unfold m__law_count cnt cntB
  rw [all_dig]
  simp only [argC_s, arg0_s, obind_s, gLen_str, truM_bl, intM_d, chainM_s, notO_s, strM_d, cmpM_s, bindO_s, bindO_r]
  have e0 : cmpD 0 .Eq (.str (mkS l)) (.str "") = some (decide (l = [])) := eqE
  have e2 : cmpD 0 .Gt (.int (l.length : Nat)) (.int 400) = some (!decide (l.length ≤ 400)) := by
    show some (decide ((400 : Int) < (l.length : Nat))) = _
    by_cases h : l.length ≤ 400
    · rw [decide_eq_false (by omega), decide_eq_true h]; rfl
    · rw [decide_eq_true (by omega), decide_eq_false h]; rfl
  have e3 : cmpD 0 .Gt (.int (l.length : Nat)) (.int 1) = some (decide (1 < l.length)) := by
    show some (decide ((1 : Int) < (l.length : Nat))) = _
    rw [show decide ((1 : Int) < (l.length : Nat)) = decide (1 < l.length) from decide_eq_decide.mpr (by omega)]
  rw [e0, e2, orO_s, orO_s]
  cases l with
  | nil => rfl
  | cons c r =>
    have h1 : 1 ≤ (c :: r).length := Nat.succ_le_succ (Nat.zero_le _)
    by_cases h2 : (c :: r).length ≤ 400
    · cases hd : digB (c :: r) with
      | false => simp [iteO_s, optN]
      | true =>
        rw [decide_eq_true h1, decide_eq_true h2, gInt_dig hd h1 h2, ← intM_d, ix0, e3]
        have e4 : cmpM 0 .Eq (some (.str (mkS [c]))) (some (.str "0")) = some (decide (c = 48)) := by
          show eqD 0 (.str (mkS [c])) (.str "0") = _
          rw [eq0]
          simp
        rw [e4, andO_s]
        by_cases hc : c = 48
        · subst hc
          cases r <;> simp [iteO_s, optN]
        · simp [iteO_s, optN, hc]
    · have h3 : 399 < r.length := by
        rw [List.length_cons] at h2
        omega
      have h4 : ¬ r.length ≤ 399 := by omega
      simp [h3, h4, iteO_s, optN]
end Ag
set_option Elab.async false
set_option linter.all false
set_option autoImplicit false
set_option maxRecDepth 100000
set_option maxHeartbeats 1000000
namespace Ag
open PySem PySem.Spec L2 TL
/-- a statement that leaves the first name as it is -/
def frozen (p : Par) (R : Ev) (sc : Scope) : Nat → Act → Bool
  | _, .skip => true
  | _, .ex _ => true
  | _, .bad => true
  | _, .ret _ => true
  | _, .set i _ => !decide (i = 0)
  | _, .par i j _ _ => !decide (i = 0) && !decide (j = 0)
  | m + 1, .cond _ a b => (a.all fun st => frozen p R sc m (act p R sc st)) && (b.all fun st => frozen p R sc m (act p R sc st))
  | _, _ => false
theorem frozen_ok {p : Par} {R : Ev} {sc : Scope} : ∀ (n m : Nat) (sts : List Stmt) (Γ Γ' : DEnv), (sts.all fun st => frozen p R sc m (act p R sc st)) = true → evSs p R sc n sts Γ = some (.nx Γ') → Γ'[0]? = Γ[0]?
  | 0, _, _, _, _, _, h => by cases h
  | _ + 1, _, [], Γ, Γ', _, h => by cases h; rfl
  | n + 1, m, st :: rest, Γ, Γ', hf, h => by
    rw [List.all_cons, Bool.and_eq_true] at hf
    unfold evSs at h
    split at h
    · rename_i Γ1 h1
      rw [frozen_ok n m rest Γ1 Γ' hf.2 h]
      have hf1 := hf.1
      have h1 : runAct (evSs p R sc n) (act p R sc st) Γ = some (.nx Γ1) := h1
      cases q : act p R sc st with
      | skip => rw [q] at h1; cases h1; rfl
      | ex f =>
        rw [q] at h1
        obtain ⟨d, _, h2⟩ := bindO_inv h1
        cases h2
        rfl
      | bad => rw [q] at h1; cases h1
      | ret f =>
        rw [q] at h1
        obtain ⟨d, _, h2⟩ := bindO_inv h1
        cases h2
      | cond f a b =>
        rw [q] at h1 hf1
        cases m with
        | zero => cases hf1
        | succ m =>
          have hf1 : ((a.all fun st => frozen p R sc m (act p R sc st)) && (b.all fun st => frozen p R sc m (act p R sc st))) = true := hf1
          rw [Bool.and_eq_true] at hf1
          rcases iteO_inv h1 with ⟨_, h2⟩ | ⟨_, h2⟩
          · exact frozen_ok n m a Γ Γ1 hf1.1 h2
          · exact frozen_ok n m b Γ Γ1 hf1.2 h2
      | set i f =>
        rw [q] at h1 hf1
        obtain ⟨d, _, h2⟩ := bindO_inv h1
        cases h2
        have hi : i ≠ 0 := by
          cases m <;> simpa [frozen] using hf1
        exact List.getElem?_set_ne hi
      | par i j f g =>
        rw [q] at h1 hf1
        obtain ⟨d, e, _, _, h2⟩ := bind2_inv h1
        cases h2
        have hi : i ≠ 0 ∧ j ≠ 0 := by
          cases m <;> simpa [frozen] using hf1
        rw [List.getElem?_set_ne hi.2, List.getElem?_set_ne hi.1]
      | tup t f => rw [q] at hf1; cases m <;> cases hf1
      | loop t f body => rw [q] at hf1; cases m <;> cases hf1
    · cases h
    · cases h
theorem act_frozen {p : Par} {R : Ev} {sc : Scope} (n m : Nat) (a : Act) (Γ Γ' : DEnv) (hf1 : frozen p R sc m a = true) (h1 : runAct (evSs p R sc n) a Γ = some (.nx Γ')) : Γ'[0]? = Γ[0]? := by
  cases a with
  | skip => cases h1; rfl
  | ex f =>
    obtain ⟨d, _, h2⟩ := bindO_inv h1
    cases h2
    rfl
  | bad => cases h1
  | ret f =>
    obtain ⟨d, _, h2⟩ := bindO_inv h1
    cases h2
  | cond f a b =>
    cases m with
    | zero => cases hf1
    | succ m =>
      have hf1 : ((a.all fun st => frozen p R sc m (act p R sc st)) && (b.all fun st => frozen p R sc m (act p R sc st))) = true := hf1
      rw [Bool.and_eq_true] at hf1
      rcases iteO_inv h1 with ⟨_, h2⟩ | ⟨_, h2⟩
      · exact frozen_ok n m a Γ Γ' hf1.1 h2
      · exact frozen_ok n m b Γ Γ' hf1.2 h2
  | set i f =>
    obtain ⟨d, _, h2⟩ := bindO_inv h1
    cases h2
    have hi : i ≠ 0 := by
      cases m <;> simpa [frozen] using hf1
    exact List.getElem?_set_ne hi
  | par i j f g =>
    obtain ⟨d, e, _, _, h2⟩ := bind2_inv h1
    cases h2
    have hi : i ≠ 0 ∧ j ≠ 0 := by
      cases m <;> simpa [frozen] using hf1
    rw [List.getElem?_set_ne hi.2, List.getElem?_set_ne hi.1]
  | tup t f => cases m <;> cases hf1
  | loop t f body => cases m <;> cases hf1
/-- what a body of an __init__ sets, one field after the other -/
def initK (p : Par) (R : Ev) (sc : Scope) (n : Nat) (fl : List Str) : List Stmt → List D → DEnv → Option (List D)
  | [], acc, _ => some acc
  | st :: rest, acc, Γ => match st with
    | .Assign [.Attribute (.Name x ap) f fp] e _ => match decide (x = "self") && decide (fl[acc.length]? = some f) with
      | true => bindO (R.E sc e Γ) fun d => initK p R sc n fl rest (acc ++ [d]) Γ
      | false => none
    | st => match frozen p R sc 5 (act p R sc st) with
      | true => runK (fun _ => none) (evSsK p R sc (fun _ => none) n) (act p R sc st) (initK p R sc n fl rest acc) Γ
      | false => none
/-- an own instance is under way -/
structure GrowX (x : Addr) (G H G' H' : Hp) : Prop where
  ext : ∀ a o, a ≠ x → H a = some o → H' a = some o
  g : Ext G G'
  sub : Ext G' H'
  no : G' x = none
  fresh : ∀ b o, G' b = some o → G b = some o ∨ H b = none
theorem GrowX.of {x : Addr} {G H G' H' : Hp} {o : HO} (w : Grow G H G' H') (hG : G x = none) (hx : H x = some o) : GrowX x G H G' H' :=
  ⟨fun a u _ e => w.ext a u e, w.g, w.sub, (by
    cases q : G' x with
    | none => rfl
    | some z =>
      rcases w.fresh _ _ q with h | h
      · rw [hG] at h; cases h
      · rw [hx] at h
        cases h), w.fresh⟩
theorem GrowX.trans {x : Addr} {G H G1 H1 G2 H2 : Hp} {o : HO} (hx : H x = some o) (a : GrowX x G H G1 H1) (b : GrowX x G1 H1 G2 H2) : GrowX x G H G2 H2 := by
  refine ⟨fun c o h e => b.ext c o h (a.ext c o h e), a.g.trans b.g, b.sub, b.no, fun c o e => ?_⟩
  rcases b.fresh c o e with h | h
  · exact a.fresh c o h
  · by_cases q : c = x
    · subst q
      rw [b.no] at e
      cases e
    · cases z : H c with
      | none => exact .inr rfl
      | some u => rw [a.ext c u q z] at h; cases h
theorem GrowX.put {x : Addr} {G H : Hp} (s : Ext G H) (hG : G x = none) (o : HO) : GrowX x G H G (upd H x o) :=
  ⟨fun a u h e => by rw [upd_ne h]; exact e, Ext.rfl', fun a u e => by
    have h : a ≠ x := fun z => by rw [z, hG] at e; cases e
    rw [upd_ne h]
    exact s a u e, hG, fun b o e => .inl e⟩
theorem putF_end {f : Str} {v : V} : ∀ {fs : List (Str × V)}, f ∉ fs.map (·.1) → putF f v fs = fs ++ [(f, v)]
  | [], _ => rfl
  | (g, w) :: r, h => by
    have h1 : ¬ g = f := fun e => h (by rw [e]; exact List.mem_cons_self)
    show (if g = f then (g, v) :: r else (g, w) :: putF f v r) = _
    rw [if_neg h1, putF_end fun e => h (List.mem_cons_of_mem _ e)]
    rfl
theorem sw_attr {e o : Expr} {f : Str} {p : Pos} {l : Nat} {env : Env} : swapsWith e (some (.Attribute o f p)) l env = pure false := by
  unfold swapsWith
  cases e <;> rfl
def rdN (K : PySem.W.Frag) (cl : Cl) (f : List D → DEnv → Option (List D)) : TS := fun D σ H => ∃ x dx fs G Γ ds out, Γ[0]? = some (some (.obj x)) ∧ H x = some (.ins (He.ga K cl.nm) dx fs) ∧ fs.map (·.1) = cl.flds.take fs.length ∧ Reps K G (fs.map (·.2)) ds ∧ G x = none ∧
  Ext G H ∧ EnvR K G σ Γ ∧ f ds Γ = some out ∧ ∀ σ' G' H' fs', GrowX x G H G' H' → H' x = some (.ins (He.ga K cl.nm) dx fs') → fs'.map (·.1) = cl.flds.take fs'.length → Reps K G' (fs'.map (·.2)) out → D.nx σ' H'
section
variable {c : Ctx} {p : Par} {X : Cx} {R : Ev} {cl : Cl}
theorem evSt_keep {p : Par} {R : Ev} {sc : Scope} {B : List Stmt → DEnv → Option Out} : True := trivial
theorem cl_nodup (cl : Cl) : cl.flds.Nodup := by cases cl <;> decide +kernel
theorem self_pe (g : Good c p.N X) (h0 : p.N[0]? = some ("self" : Str)) (hl : locK X.env.scope "self" = true) (ap : Pos) : PE X (.Name "self" ap) (tVar 0) :=
  pe_var (by rw [g.N]; exact h0) (.inl (loc_of hl)) (by decide) (by decide)
theorem initK_inv {p : Par} {R : Ev} {sc : Scope} {n : Nat} {fl : List Str} {st : Stmt} {rest : List Stmt} {acc out : List D} {Γ : DEnv} (h : initK p R sc n fl (st :: rest) acc Γ = some out) :
    (∃ ap f fp e pos d, st = .Assign [.Attribute (.Name "self" ap) f fp] e pos ∧ fl[acc.length]? = some f ∧ R.E sc e Γ = some d ∧ initK p R sc n fl rest (acc ++ [d]) Γ = some out) ∨
    ∃ Γ', evSt p R sc (evSs p R sc n) st Γ = some (.nx Γ') ∧ Γ'[0]? = Γ[0]? ∧ initK p R sc n fl rest acc Γ' = some out := by
  unfold initK at h
  split at h
  · rename_i x ap f fp e pos
    split at h
    · rename_i hh
      simp only [Bool.and_eq_true, decide_eq_true_eq] at hh
      obtain ⟨rfl, hf⟩ := hh
      obtain ⟨d, h1, h2⟩ := bindO_inv h
      exact .inl ⟨ap, f, fp, e, pos, d, rfl, hf, h1, h2⟩
    · cases h
  · split at h
    · rename_i hfr
      rw [runK_eq fun b kn Γ => evSsK_eq n b kn Γ] at h
      cases q : runAct (evSs p R sc n) (act p R sc st) Γ with
      | none => rw [q] at h; cases h
      | some o =>
        rw [q] at h
        cases o with
        | rt d => cases h
        | nx Γ' =>
          exact .inr ⟨Γ', q, act_frozen n 5 _ Γ Γ' hfr q, h⟩
    · cases h
theorem sInit (V0 : Given c p) (g : GoodS c p.N X) (S : Sound c p.N R) (h0 : p.N[0]? = some ("self" : Str)) (hl : locK X.env.scope "self" = true) (T : ClF c.K c.mg cl) (n : Nat) : ∀ (sts : List Stmt), PSs X sts (rdN X.K cl (initK p R X.env.scope n cl.flds sts))
  | [] => pss_imp pss_nil fun D σ H ⟨x, dx, fs, G, Γ, ds, out, hx, hH, hn, hr, hG, hs, he, hf, hq⟩ => by
    cases hf
    exact hq σ G H fs ⟨fun _ _ _ e => e, Ext.rfl', hs, hG, fun _ _ e => .inl e⟩ hH hn hr
  | st :: rest => by
    have ih := sInit V0 g S h0 hl T n rest
    refine ⟨fun pins s σ H D I ⟨x, dx, fs, G, Γ, ds, out, hx, hH, hn, hr, hG, hs, he, hf, hq⟩ => ?_⟩
    rcases initK_inv hf with ⟨ap, f, fp, e, pos, d, rfl, hfl, hd, hf2⟩ | ⟨Γ', h1, h2, hf2⟩
    · refine (pss_cons (ps_fld (self_pe g.toGood h0 hl ap) (S.E X g.toGood e) sw_attr) ih).run pins s σ H D I ?_
      refine ⟨G, Γ, d, hs, he, hd, fun v G1 H1 w1 r1 => ?_⟩
      have hH1 := w1.ext _ _ hH
      obtain ⟨v0, hv0, rv0⟩ := he.get 0 _ hx
      obtain rfl := rv0.of_obj
      have hlen : fs.length = ds.length := by
        have := hr.length
        rwa [List.length_map] at this
      have hfm : f ∈ cl.flds := List.mem_of_getElem? hfl
      have w0 := GrowX.of (o := .ins (He.ga X.K cl.nm) dx fs) w1 hG hH
      have hnf : f ∉ fs.map (·.1) := by
        rw [hn, hlen]
        intro hm
        obtain ⟨i, hi, e2⟩ := List.getElem_of_mem hm
        rw [List.getElem_take] at e2
        have hi2 : i < ds.length := by
          rw [List.length_take] at hi
          omega
        have hlt : ds.length < cl.flds.length := (List.getElem?_eq_some_iff.mp hfl).1
        have e3 : cl.flds[ds.length] = f := (List.getElem?_eq_some_iff.mp hfl).2
        exact List.pairwise_iff_getElem.mp (cl_nodup cl) i ds.length (by omega) hlt hi2 (by rw [e2, e3])
      have hl3 : fs.length ≤ 3 := by
        have h3 : fs.length = (cl.flds.take fs.length).length := by rw [← hn, List.length_map]
        rw [List.length_take] at h3
        have : cl.flds.length ≤ 3 := by cases cl <;> decide
        omega
      refine ⟨_, hv0, x, _, dx, fs, rfl, hH1, by rw [g.K]; exact T.cls, by rw [g.K]; exact T.no f hfm, by omega, ?_⟩
      have hz : upd H1 x (.ins (He.ga X.K cl.nm) dx (putF f v fs)) = upd H1 x (.ins (He.ga X.K cl.nm) dx (fs ++ [(f, v)])) := by rw [putF_end hnf]
      rw [hz]
      have w2 := GrowX.put w1.sub w0.no (.ins (He.ga X.K cl.nm) dx (fs ++ [(f, v)]))
      refine ⟨x, dx, fs ++ [(f, v)], G1, Γ, ds ++ [d], out, hx, upd_same, ?_, ?_, w0.no, w2.sub, he.ext w1.g, hf2, fun σ' G' H' fs' w h3 h4 h5 => hq σ' G' H' fs' ((w0.trans hH w2).trans hH w) h3 h4 h5⟩
      · rw [List.map_append, hn, List.length_append, hlen]
        show cl.flds.take ds.length ++ [f] = cl.flds.take (ds.length + 1)
        rw [List.take_add_one, hfl]
        rfl
      · rw [List.map_append]
        exact (hr.ext w1.g).append (.cons r1 .nil)
    · refine (pss_cons (sSt V0 g S (sSs V0 g S n) st) ih).run pins s σ H D I ?_
      refine ⟨G, Γ, .nx Γ', hs, he, h1, fun Γ2 e σ2 G2 H2 w2 he2 => ?_, fun d e => by cases e⟩
      cases e
      have w0 := GrowX.of (o := .ins (He.ga X.K cl.nm) dx fs) w2 hG hH
      exact ⟨x, dx, fs, G2, Γ', ds, out, by rw [h2]; exact hx, w2.ext _ _ hH, hn, hr.ext w2.g, w0.no, w2.sub, he2, hf2, fun σ' G' H' fs' w h3 h4 h5 => hq σ' G' H' fs' (w0.trans hH w) h3 h4 h5⟩
end
/-! ### the promise of an __init__, and making -/
def spI (K : PySem.W.Frag) (cl : Cl) (g : Addr → List D → Option (List D)) : Sp := fun vs H Q _ => ∃ x dx args G ds out, vs = .ref x :: args ∧ H x = some (.ins (He.ga K cl.nm) dx []) ∧ G x = none ∧ Ext G H ∧ Reps K G args ds ∧ g x ds = some out ∧
  ∀ G' H' fs', GrowX x G H G' H' → H' x = some (.ins (He.ga K cl.nm) dx fs') → fs'.map (·.1) = cl.flds → Reps K G' (fs'.map (·.2)) out → Q .non H'
def lenOk (cl : Cl) (out : List D) : Option (List D) := match decide (out.length = cl.flds.length) with
  | true => some out
  | false => none
def semI (p : Par) (n m : Nat) (st : Stmt) (np : Nat) (cl : Cl) (x : Addr) (ds : List D) : Option (List D) := match decide (ds.length + 1 = np) with
  | true => bindO (initK p (ev p n) (defScope st) m cl.flds (defBody st) [] (entry p.N (.obj x :: ds))) (lenOk cl)
  | false => none
theorem fn_I {c : Ctx} {ft : Str → Option (List D → Option D)} {gc : Str → Option D} {dp : Nat} (L : Lib dp c ft gc) {cl : Cl} {x qual : Str} {st : Stmt} {f : Addr} {fd : FuncData} {N ps : List Str} (T : ClF c.K c.mg cl)
    (F : ∃ (oc : Value) (od : Option Addr) (dV kV doc pm : Value) (an : Option Addr) (cdv ct : Value) (osl : Array (Option Value)), fd = PySem.W.fnOf x qual (defArgs st) (defBody st) (defScope st) dV kV doc pm an cdv ct ∧ c.K.lookup f = some ⟨oc, od, .func fd, osl⟩ ∧ PySem.W.codeIn c.K cdv qual = true)
    (S : FnScope N ps (defScope st)) (h0 : N[0]? = some ("self" : Str)) (hl : locK (defScope st) "self" = true) (n m : Nat) :
    FnOk c.P c.w c.K c.mg c.base CX0 (c.k + 1) f fd ps (spI c.K cl (semI ⟨dp, N, ft, gc⟩ n m st ps.length cl)) := by
  obtain ⟨oc, od, dV, kV, doc, pm, an, cdv, ct, osl, rfl, lk, hcd⟩ := F
  have hlen : ∀ {ds : List D} {x : Addr} {out : List D}, semI ⟨dp, N, ft, gc⟩ n m st ps.length cl x ds = some out → ds.length + 1 = ps.length ∧ out.length = cl.flds.length ∧ initK ⟨dp, N, ft, gc⟩ (ev ⟨dp, N, ft, gc⟩ n) (defScope st) m cl.flds (defBody st) [] (entry N (.obj x :: ds)) = some out := by
    intro ds x out h
    unfold semI at h
    split at h
    · rename_i h1
      obtain ⟨o, h2, h3⟩ := bindO_inv h
      unfold lenOk at h3
      split at h3
      · rename_i h4
        cases h3
        exact ⟨of_decide_eq_true h1, of_decide_eq_true h4, h2⟩
      · cases h3
    · cases h
  refine fn_of lk hcd S (fun vs H Q E ⟨x, dx, args, G, ds, out, e, _, _, _, r, hg, _⟩ => ?_) fun A outer s H vs Q E hr ⟨x, dx, args, G, ds, out, e, hH, hG, hs, r, hg, hq⟩ => ?_
  · rw [e, List.length_cons, r.length]
    exact (hlen hg).1
  · obtain ⟨h1, h2, h3⟩ := hlen hg
    have V0 := L.given S.nd
    subst e
    refine ⟨_, (sInit V0 (noxGood hr S.kind) (sound_ev V0 n) h0 hl T m (defBody st)).nox, ?_⟩
    refine ⟨x, dx, [], G, entry N (.obj x :: ds), [], out, ?_, hH, rfl, .nil, hG, hs, entry_ok (.cons (.obj x) r), h3, fun σ' G' H' fs' w e1 e2 e3 => ?_⟩
    · unfold entry
      rfl
    · refine hq G' H' fs' w e1 ?_ e3
      have hl3 : fs'.length = cl.flds.length := by
        have := e3.length
        rw [List.length_map] at this
        rw [this, h2]
      rw [e2, hl3, List.take_length]
theorem pa_mono {X : Cx} {es : List Expr} {ta : TA} (h : PA X es ta) : PA X es fun σ H Q => ∃ Q0, ta σ H Q0 ∧ ∀ vs H1, Q0 vs H1 → Q vs H1 :=
  ⟨fun pos pins s σ H Q I ⟨Q0, h1, h2⟩ => wpAny_mono (h.run pos pins s σ H Q0 I h1) (fun us s' ⟨vs, H1, I1, r, q⟩ => ⟨vs, H1, I1, r, h2 vs H1 q⟩) fun _ _ x => x⟩
theorem call_I {c : Ctx} {N : List Str} {X : Cx} (gd : Good c N X) {cl : Cl} {f : Addr} {fd : FuncData} {ps : List Str} {g : Addr → List D → Option (List D)} {gC : List D → Option D} {j : Nat} (M : Mk c.K (He.ga c.K cl.nm) f) (F : FnOk c.P c.w c.K c.mg c.base CX0 j f fd ps (spI c.K cl g)) (hj : j + 1 ≤ c.k) (hm : c.mg cl.nm = some (.ref (He.ga c.K cl.nm)))
    (hb : Binds c.K fd ps []) (hd : (cl.nm == ("__debug__" : Str)) = false) (hC : ∀ ds d, gC ds = some d → ∃ out, d = .ins cl out ∧ ∀ x, g x ds = some out) (e : Expr) (es : List Expr) (px pos : Pos) (ta : TA) (hg : glbK X.env.scope cl.nm = true) (hst : (e :: es).all notStar = true) (ha : PA X (e :: es) ta) :
    PE X (.Call (.Name cl.nm px) (e :: es) [] pos) (tCB (rCall X.K gC) ta) := by
  rw [List.all_cons, Bool.and_eq_true] at hst
  have F' : FnOk X.prog X.w X.K X.mg X.base CX0 j f fd ps (spI X.K cl g) := by rw [gd.prog, gd.w, gd.K, gd.mg, gd.base]; exact F
  refine pe_imp (pe_make (E := E0) (C := He.ga X.K cl.nm) (f := f) (by rw [gd.K]; exact M) F' (gd.room.mono hj) (glb_of hg) (by rw [gd.mg, gd.K]; exact hm) (by rw [gd.K]; exact hb) .nil pass0 (pa_mono ha) hd (starEach_ok hst.1 _ _) (back_ok hst.2)) fun σ H Q h => ?_
  refine ⟨_, h, fun vs H1 ⟨G1, ds, d, hs1, r1, hf, hq⟩ => ?_⟩
  obtain ⟨out, rfl, ho⟩ := hC ds d hf
  intro x dx hx hdx hne
  show spI X.K cl g (.ref x :: (vs ++ [])) _ _ _
  rw [List.append_nil]
  have e1 : Ext H1 (upd (upd H1 dx (.own x)) x (.ins (He.ga X.K cl.nm) dx [])) := (Ext.upd hdx).trans (Ext.upd (by rw [upd_ne (Ne.symm hne)]; exact hx))
  refine ⟨x, dx, vs, G1, ds, out, rfl, upd_same, Ext.back hs1 hx, hs1.trans e1, r1, ho x, fun G' H' fs' w h1 h2 h3 => ⟨rfl, ?_⟩⟩
  refine hq (.ref x) (upd G' x (.ins (He.ga X.K cl.nm) dx fs')) H' ⟨fun a o ha => ?_, w.g.trans (Ext.upd w.no), fun a o ha => ?_, fun b o hb => ?_⟩ (.ins upd_same h2 (h3.ext (Ext.upd w.no)))
  · have hax : a ≠ x := fun z => by rw [z, hx] at ha; cases ha
    exact w.ext a o hax (e1 a o ha)
  · by_cases z : a = x
    · subst z
      rw [upd_same] at ha
      rw [h1]
      exact ha
    · rw [upd_ne z] at ha
      exact w.sub a o ha
  · by_cases z : b = x
    · subst z
      exact .inr hx
    · rw [upd_ne z] at hb
      rcases w.fresh b o hb with h | h
      · exact .inl h
      · exact .inr (Ext.back e1 h)
section
variable {c : Ctx} {p : Par} {X : Cx} {R : Ev}
/-- what a comprehension's turns come to, the tests and the element read in any way -/
theorem lc_walkE {K : PySem.W.Frag} {σ : L2.St} {H0 H1 G0 G1 : Hp} {Γ : DEnv} {J : It} {ds res : List D} {t : Tg} {ft : DEnv → Option Bool} {fe : DEnv → Option D} {vs : List Nat} {Q : V → Hp → Prop} {tt : TT} {te : TE} {Eh : Hp → Prop} (hE : Eh H1) (mE : ∀ H H', Ext H H' → Eh H → Eh H')
    (htt : ∀ σ H Q, Eh H → rdT K ft σ H Q → tt σ H Q) (hte : ∀ σ H Q, Eh H → rdE K fe σ H Q → te σ H Q)
    (ht : (tgAll t).all (fun i => vs.contains i) = true) (he : EnvR K G0 σ Γ) (w1 : Grow G0 H0 G1 H1) (wk : WalkD K J G1 ds) (hm : mapLC t (wipeD Γ vs) ft fe ds = some res)
    (hq : ∀ v G' H', Grow G0 H0 G' H' → Rep K G' v (.lst res) → Q v H') (D0 : Addr) (hD : H1 D0 = none) :
    ∃ W : Nat → Nat → Hp → Prop, (∃ m, W 0 m (upd H1 D0 (.lst []))) ∧ ∀ i m H, W i m H →
      (J.stop i H ∧ Q (.ref D0) H) ∨ (J.go i H ∧ ∃ Nx : Hp → Prop, (∀ H', Nx H' → ∃ m', m' < m ∧ W (i + 1) m' H') ∧ ∀ x H', J.yld i H x H' → gTg K t x (wipe σ vs) H' fun σ2 H2 => wipe σ2 vs = wipe σ vs ∧ tt σ2 H2 fun b H3 =>
        if b = true then te σ2 H3 fun y H4 => ∃ acc, H4 D0 = some (.lst acc) ∧ acc.length < sizeLine ∧ Nx (upd H4 D0 (.lst (acc ++ [y]))) else Nx H3) := by
  have htm : ∀ i ∈ tgAll t, i ∈ vs := fun i hi => by
    have := List.all_eq_true.mp ht i hi
    simpa using this
  refine ⟨LcW K t (wipeD Γ vs) ft fe D0 G1 H1 ds res, ⟨ds.length, by omega, by omega, G1, [], [], res, Ext.rfl', w1.sub.trans (Ext.upd hD), Ext.upd hD, Ext.back w1.sub hD, fun _ _ h => .inl h, upd_same, .nil, by simp, by simpa using hm, rfl⟩, ?_⟩
  rintro i m H ⟨hm0, hi, G, acc, accD, rest, e1, e2, e3, hG, hf, hH, hr, hl, hmr, hres⟩
  obtain ⟨hlen, wk⟩ := wk
  by_cases hlt : i < ds.length
  · refine .inr ⟨((wk i G H e1 e2).1 hlt).1, LcW K t (wipeD Γ vs) ft fe D0 G1 H1 ds res (i + 1) (ds.length - (i + 1)), fun H' h => ⟨_, by omega, h⟩, fun x H' y => ?_⟩
    obtain ⟨G', d, w2, hd, rx⟩ := ((wk i G H e1 e2).1 hlt).2 x H' y
    have hdr : ds.drop i = d :: ds.drop (i + 1) := by
      rw [List.drop_eq_getElem_cons hlt]
      rw [List.getElem?_eq_getElem hlt] at hd
      cases hd
      rfl
    rw [hdr] at hmr
    rw [mapLC_cons] at hmr
    have frD : ∀ {Ga Ha Gb Hb : Hp}, Grow Ga Ha Gb Hb → Ga D0 = none → (∃ o, Ha D0 = some o) → Gb D0 = none := fun {Ga Ha Gb Hb} w hn ⟨o, ho⟩ => by
      cases q : Gb D0 with
      | none => exact rfl
      | some z =>
        rcases w.fresh _ _ q with h | h
        · rw [hn] at h; cases h
        · rw [ho] at h; cases h
    have frE : ∀ {Ga Ha Gb Hb : Hp}, Grow Ga Ha Gb Hb → Ext H1 Ha → (∀ b o, Ga b = some o → G1 b = some o ∨ H1 b = none) → (∀ b o, Gb b = some o → G1 b = some o ∨ H1 b = none) := fun w he hg b o hb =>
      (w.fresh b o hb).elim (hg b o) fun h => .inr (Ext.back he h)
    split at hmr
    · cases hmr
    · rename_i Γ' htg
      refine tg_take (Γ' := Γ') w2.sub (((he.ext w1.g).ext (e1.trans w2.g)).wipe vs) rx htg fun σ' he' hw => ⟨by rw [hw vs htm, wipe_wipe], ?_⟩
      have gD' := frD w2 hG ⟨_, hH⟩
      have hH' := w2.ext _ _ hH
      have fE' := frE w2 e3 hf
      have e3' := e3.trans w2.ext
      split at hmr
      · cases hmr
      · rename_i hft
        refine htt _ _ _ (mE _ _ (e3.trans w2.ext) hE) ⟨G', Γ', false, w2.sub, he', hft, fun G3 H3 w3 => iteF ?_⟩
        exact ⟨rfl, by omega, G3, acc, accD, rest, (e1.trans w2.g).trans w3.g, w3.sub, e3'.trans w3.ext, frD w3 gD' ⟨_, hH'⟩, frE w3 e3' fE', w3.ext _ _ hH', (hr.ext w2.g).ext w3.g, by omega, hmr, hres⟩
      · rename_i hft
        refine htt _ _ _ (mE _ _ (e3.trans w2.ext) hE) ⟨G', Γ', true, w2.sub, he', hft, fun G3 H3 w3 => iteT ?_⟩
        split at hmr
        · rename_i u us hu hus
          cases hmr
          have gD3 := frD w3 gD' ⟨_, hH'⟩
          have hH3 := w3.ext _ _ hH'
          have fE3 := frE w3 e3' fE'
          have e33 := e3'.trans w3.ext
          refine hte _ _ _ (mE _ _ e33 hE) ⟨G3, Γ', u, w3.sub, he'.ext w3.g, hu, fun yv G4 H4 w4 ry => ⟨acc, w4.ext _ _ hH3, by omega, rfl, by omega, G4, acc ++ [yv], accD ++ [u], us, ((e1.trans w2.g).trans w3.g).trans w4.g, ?_, ?_, frD w4 gD3 ⟨_, hH3⟩, frE w4 e33 fE3, upd_same, ?_, ?_, hus, ?_⟩⟩
          · intro a o ha
            have hne : a ≠ D0 := fun e => by
              rw [e, frD w4 gD3 ⟨_, hH3⟩] at ha
              cases ha
            rw [upd_ne hne]
            exact w4.sub _ _ ha
          · intro a o ha
            have hne : a ≠ D0 := fun e => by
              rw [e, hD] at ha
              cases ha
            rw [upd_ne hne]
            exact (e33.trans w4.ext) _ _ ha
          · exact ((((hr.ext w2.g).ext w3.g).ext w4.g)).append (.cons ry .nil)
          · rw [List.length_append]
            show acc.length + 1 ≤ i + 1
            omega
          · rw [List.append_assoc]
            exact hres
        · cases hmr
  · have hge : ds.length ≤ i := by omega
    refine .inl ⟨(wk i G H e1 e2).2 hge, ?_⟩
    rw [List.drop_eq_nil_of_le hge] at hmr
    have hmr : some [] = some rest := hmr
    cases hmr
    rw [List.append_nil] at hres
    subst hres
    refine hq _ (upd G D0 (.lst acc)) H ⟨w1.ext.trans e3, (w1.g.trans e1).trans (Ext.upd hG), fun a o ha => ?_, fun b o hb => ?_⟩ (.lst upd_same (hr.ext (Ext.upd hG)))
    · by_cases q : a = D0
      · subst q
        rw [upd_same] at ha
        rw [hH]
        exact ha
      · rw [upd_ne q] at ha
        exact e2 _ _ ha
    · by_cases q : b = D0
      · subst q
        exact .inr (Ext.back w1.ext hD)
      · rw [upd_ne q] at hb
        rcases hf b o hb with h | h
        · exact w1.fresh b o h
        · exact .inr (Ext.back w1.ext h)
end
end Ag
set_option Elab.async false
set_option linter.all false
set_option autoImplicit false
set_option maxRecDepth 100000
set_option maxHeartbeats 1000000
namespace Ag
open PySem PySem.Spec L2 TL
def gGcd : List D → Option D
  | [.int a, .int b] => some (.int (Nat.gcd a.natAbs b.natAbs : Nat))
  | _ => none
def g_is_integer : List D → Option D
  | [.int _] => some (.bl true)
  | [.ins .ratio _] => some (.bl false)
  | _ => none
def g_is_list : List D → Option D
  | [.lst _] => some (.bl true)
  | [.tup _] => some (.bl true)
  | _ => none
theorem is_integer_plain {v d : D} (h : g_is_integer [v] = some d) : m_is_integer v = some d := by
  unfold g_is_integer at h
  split at h
  · rename_i e; cases e; cases h; rfl
  · rename_i e; cases e; cases h; rfl
  · cases h
theorem is_list_plain {v d : D} (h : g_is_list [v] = some d) : m_is_list v = some d := by
  unfold g_is_list at h
  split at h
  · rename_i e; cases e; cases h; rfl
  · rename_i e; cases e; cases h; rfl
  · cases h
def fl1 : FtL := ("gcd", gGcd) :: ("is_integer", g_is_integer) :: ("is_list", g_is_list) :: ("count_told", g_count_told) :: fl0
def N_divisor_of : List Str := ["one", "other"]
def m_divisor_of (v_one v_other : D) : Option D :=
  bindO (((argC (some v_one) (argC (some v_other) arg0))).bind gGcd) some
theorem mq_divisor_of (v_one v_other : D) : semK ⟨0, N_divisor_of, ftOf fl1, gcB⟩ 40 40 s_divisor_of 2 [v_one, v_other] = m_divisor_of v_one v_other := by kernel_rfl
def N_is_count : List Str := ["value"]
def m_is_count (v_value : D) : Option D :=
  bindO (bindO (((argC (some v_value) arg0)).bind g_is_integer) (andV1 ((cmpM 0 .GtE (some v_value) (intM 0)).map D.bl))) some
theorem mq_is_count (v_value : D) : semK ⟨0, N_is_count, ftOf fl1, gcB⟩ 40 40 s_is_count 1 [v_value] = m_is_count v_value := by kernel_rfl
def g_divisor_of : List D → Option D := gGcd
def g_is_count : List D → Option D
  | [.int i] => some (.bl (decide (0 ≤ i)))
  | _ => none
def fl2 : FtL := ("divisor_of", g_divisor_of) :: ("is_count", g_is_count) :: fl1
def N_Ratio_init : List Str := ["self", "top", "bottom", "common"]
def m_Ratio_init (v_top v_bottom : D) : Option (List D) :=
  iteO (notO (truM (((argC (some v_top) arg0)).bind g_is_integer)))
    (none)
    (iteO (orO (notO (truM (((argC (some v_bottom) arg0)).bind g_is_integer))) (cmpM 0 .Eq (some v_bottom) (intM 0)))
      (none)
      (bindO (((argC (some v_top) (argC (some v_bottom) arg0))).bind g_divisor_of) fun v_common =>
      (iteO (cmpM 0 .Lt (some v_bottom) (intM 0))
        (bindO (bind2 (intM 0) (some v_common) (binD .Sub)) fun v_common =>
        (bindO (bind2 (some v_top) (some v_common) (binD .FloorDiv)) fun f_own_top =>
        (bindO (bind2 (some v_bottom) (some v_common) (binD .FloorDiv)) fun f_own_bottom =>
        (some [f_own_top, f_own_bottom]))))
        (bindO (bind2 (some v_top) (some v_common) (binD .FloorDiv)) fun f_own_top =>
        (bindO (bind2 (some v_bottom) (some v_common) (binD .FloorDiv)) fun f_own_bottom =>
        (some [f_own_top, f_own_bottom]))))))
theorem mq_Ratio_init (x : Addr) (v_top v_bottom : D) : semI ⟨0, N_Ratio_init, ftOf fl2, gcB⟩ 40 40 s_Ratio_init 3 .ratio x [v_top, v_bottom] = bindO (m_Ratio_init v_top v_bottom) (lenOk .ratio) := by kernel_rfl
def N_Ratio_eq : List Str := ["self", "other"]
def m_Ratio_eq (v_self v_other : D) : Option D :=
  iteO (notO (truM ((((some v_other)).bind fun d => isiC d .ratio).map D.bl)))
    (bindO (some (D.bl false)) some)
    (bindO (bindO ((cmpM 0 .Eq (bindO (some v_self) (fldD "own_top")) (bindO (some v_other) (fldD "own_top"))).map D.bl) (andV1 ((cmpM 0 .Eq (bindO (some v_self) (fldD "own_bottom")) (bindO (some v_other) (fldD "own_bottom"))).map D.bl))) some)
theorem mq_Ratio_eq (v_self v_other : D) : semK ⟨0, N_Ratio_eq, ftOf fl2, gcB⟩ 40 40 s_Ratio_eq 2 [v_self, v_other] = m_Ratio_eq v_self v_other := by kernel_rfl
end Ag
set_option Elab.async false
set_option linter.all false
set_option autoImplicit false
set_option maxRecDepth 100000
set_option maxHeartbeats 1000000
namespace Ag
open PySem PySem.Spec L2 TL
def ratD (t b : Int) : D := .ins .ratio [.int (t / (Nat.gcd t.natAbs b.natAbs : Nat)), .int (b / (Nat.gcd t.natAbs b.natAbs : Nat))]
def g_Ratio : List D → Option D
  | [.int t, .int b] => if 0 < b ∧ b.natAbs.log2 < 9000 then some (ratD t b) else none
  | _ => none
theorem eq_ints (dp : Nat) (i j : Int) : cmpD dp .Eq (.int i) (.int j) = some (decide (i = j)) := rfl
theorem ratio_plain {t b : Int} (h : 0 < b) (h2 : b.natAbs.log2 < 9000) : m_Ratio_init (.int t) (.int b) = some [.int (t / (Nat.gcd t.natAbs b.natAbs : Nat)), .int (b / (Nat.gcd t.natAbs b.natAbs : Nat))] := by
  have hg0 : 0 < Nat.gcd t.natAbs b.natAbs := Nat.gcd_pos_of_pos_right _ (by omega)
  have hgl : (Nat.gcd t.natAbs b.natAbs) ≤ b.natAbs := Nat.gcd_le_right _ (by omega)
  have hl : ((Nat.gcd t.natAbs b.natAbs : Nat) : Int).natAbs.log2 < 9000 := by
    rw [Int.natAbs_natCast]
    refine Nat.lt_of_le_of_lt ?_ h2
    rw [Nat.le_log2 (by omega)]
    exact Nat.le_trans (Nat.log2_self_le (by omega)) hgl
  unfold m_Ratio_init
  have e1 : (argC (some (D.int t)) arg0).bind g_is_integer = some (.bl true) := rfl
  have e2 : (argC (some (D.int b)) arg0).bind g_is_integer = some (.bl true) := rfl
  have e3 : cmpM 0 .Eq (some (.int b)) (intM 0) = some false := by
    show some (decide (b = 0)) = _
    rw [decide_eq_false (by omega)]
  have e4 : cmpM 0 .Lt (some (.int b)) (intM 0) = some false := by
    show some (decide (b < 0)) = _
    rw [decide_eq_false (by omega)]
  have e5 : (argC (some (D.int t)) (argC (some (.int b)) arg0)).bind g_divisor_of = some (.int (Nat.gcd t.natAbs b.natAbs : Nat)) := rfl
  have e6 : ∀ i : Int, bind2 (some (D.int i)) (some (.int (Nat.gcd t.natAbs b.natAbs : Nat))) (binD .FloorDiv) = some (.int (i / (Nat.gcd t.natAbs b.natAbs : Nat))) := fun i => if_pos ⟨by omega, hl⟩
  rw [e1, e2, e3, e4, e5]
  show (bindO (bind2 (some (D.int t)) (some (.int (Nat.gcd t.natAbs b.natAbs : Nat))) (binD .FloorDiv)) fun f_own_top => bindO (bind2 (some (D.int b)) (some (.int (Nat.gcd t.natAbs b.natAbs : Nat))) (binD .FloorDiv)) fun f_own_bottom => some [f_own_top, f_own_bottom]) = _
  rw [e6, e6]
  rfl
theorem ratio_make {ds : List D} {d : D} (h : g_Ratio ds = some d) : ∃ out, d = .ins .ratio out ∧ ∀ x, semI ⟨0, N_Ratio_init, ftOf fl2, gcB⟩ 40 40 s_Ratio_init 3 .ratio x ds = some out := by
  unfold g_Ratio at h
  split at h
  · rename_i t b
    split at h
    · rename_i hh
      cases h
      refine ⟨_, rfl, fun x => ?_⟩
      rw [mq_Ratio_init, ratio_plain hh.1 hh.2]
      rfl
    · cases h
  · cases h
/-- what Ratio.__eq__ says -/
def g_Ratio_eq : List D → Option D
  | [.ins .ratio [.int a, .int b], .ins .ratio [.int c, .int d]] => some (.bl (decide (a = c) && decide (b = d)))
  | [.ins .ratio [.int _, .int _], .non] => some (.bl false)
  | _ => none
theorem ratio_eq_plain {ds : List D} {d : D} (h : g_Ratio_eq ds = some d) : semD ⟨0, N_Ratio_eq, ftOf fl2, gcB⟩ 40 40 s_Ratio_eq 2 ds = some d := by
  unfold g_Ratio_eq at h
  split at h
  · rename_i a b c d'
    cases h
    rw [semD_K, mq_Ratio_eq]
    unfold m_Ratio_eq
    show bindO (bindO (some (.bl (decide (a = c)))) (andV1 (some (.bl (decide (b = d')))))) some = _
    cases decide (a = c) <;> rfl
  · cases h
    rw [semD_K, mq_Ratio_eq]
    rfl
  · cases h
/-! ### numbers -/
def intT : List Nat → Option Int
  | [] => none
  | c :: r => if c = 45 then (match cnt r with
    | some n => if n = 0 then none else some (-(n : Int))
    | none => none) else (cnt (c :: r)).map fun n => (n : Int)
def numT (l : List Nat) : Option (Int × Nat) := match splitL 47 l with
  | [a] => (intT a).map fun t => (t, 1)
  | [a, b] => match intT a, cnt b with
    | some t, some n => if n = 0 then none else some (t, n)
    | _, _ => none
  | _ => none
def optI : Option Int → D
  | some n => .int n
  | none => .non
def optR : Option (Int × Nat) → D
  | some z => ratD z.1 z.2
  | none => .non
def g_integer_told : List D → Option D
  | [.str s] => some (optI (intT (tl s)))
  | _ => none
def g_number_told : List D → Option D
  | [.str s] => some (optR (numT (tl s)))
  | _ => none
def fl3 : FtL := ("Ratio", g_Ratio) :: fl2
def N_integer_told : List Str := ["text", "found"]
def m_integer_told (v_text : D) : Option D :=
  iteO (cmpM 1 .NotEq (slM (some v_text) (some none) (bindO (intM 1) intP)) (strM "-"))
    (bindO (((argC (some v_text) arg0)).bind g_count_told) some)
    (bindO (((argC (slM (some v_text) (bindO (intM 1) intP) (some none)) arg0)).bind g_count_told) fun v_found =>
    (bindO (iteO (orO (cmpM 1 .Is (some v_found) (some D.non)) (cmpM 1 .Eq (some v_found) (intM 0))) (some D.non) (bind2 (intM 0) (some v_found) (binD .Sub))) some))
theorem mq_integer_told (v_text : D) : semK ⟨1, N_integer_told, ftOf fl3, gcB⟩ 40 40 s_integer_told 1 [v_text] = m_integer_told v_text := by kernel_rfl
abbrev g__law_count : List D → Option D := g_count_told
def fl4 : FtL := ("integer_told", g_integer_told) :: ("_law_count", g_count_told) :: fl3
def N_number_told : List Str := ["text", "parts", "top", "bottom"]
def m_number_told (v_text : D) : Option D :=
  bindO (bind2 (some v_text) (strM "/") splitD) fun v_parts =>
  (bind2 (((argC (ixM (some v_parts) (intM 0)) arg0)).bind g_integer_told) (iteO (cmpM 1 .Eq (((argC (some v_parts) arg0)).bind gLen) (intM 2)) (((argC (ixM (some v_parts) (bindO (intM 1) negD)) arg0)).bind g_count_told) (intM 1)) fun v_top v_bottom =>
  (iteO (orO (cmpM 1 .Gt (((argC (some v_parts) arg0)).bind gLen) (intM 2)) (orO (cmpM 1 .Is (some v_top) (some D.non)) (orO (cmpM 1 .Is (some v_bottom) (some D.non)) (cmpM 1 .Eq (some v_bottom) (intM 0)))))
    (bindO (some D.non) some)
    (bindO (((argC (some v_top) (argC (some v_bottom) arg0))).bind g_Ratio) some)))
theorem mq_number_told (v_text : D) : semK ⟨1, N_number_told, ftOf fl4, gcB⟩ 40 40 s_number_told 1 [v_text] = m_number_told v_text := by kernel_rfl
def N__law_number : List Str := ["_law_text_here", "_law_is_below", "_law_parts", "_law_told_here", "_law_part"]
def m__law_number (v_text_here : D) : Option D :=
  bindO ((cmpM 1 .Eq (slM (some v_text_here) (some none) (bindO (intM 1) intP)) (strM "-")).map D.bl) fun v_is_below =>
  (bindO (bind2 (iteO (truM (some v_is_below)) (slM (some v_text_here) (bindO (intM 1) intP) (some none)) (some v_text_here)) (strM "/") splitD) fun v_parts =>
  (bindO (lcM (fun v_part => (((argC (some v_part) arg0)).bind g__law_count)) (inM (some v_parts))) fun v_told_here =>
  (iteO (orO (cmpM 1 .Gt (((argC (some v_told_here) arg0)).bind gLen) (intM 2)) (orO (cmpM 1 .In (some D.non) (some v_told_here)) (orO (andO (cmpM 1 .Eq (ixM (some v_told_here) (intM 0)) (intM 0)) (truM (some v_is_below))) (andO (cmpM 1 .Eq (((argC (some v_told_here) arg0)).bind gLen) (intM 2)) (cmpM 1 .Eq (ixM (some v_told_here) (intM 1)) (intM 0))))))
    (bindO (some D.non) some)
    (bindO (((argC (iteO (truM (some v_is_below)) (bindO (ixM (some v_told_here) (intM 0)) negD) (ixM (some v_told_here) (intM 0))) (argC (iteO (cmpM 1 .Eq (((argC (some v_told_here) arg0)).bind gLen) (intM 2)) (ixM (some v_told_here) (intM 1)) (intM 1)) arg0))).bind g_Ratio) some))))
theorem mq__law_number (v_text_here : D) : semK ⟨1, N__law_number, ftOf fl4, gcB⟩ 40 40 s__law_number 1 [v_text_here] = m__law_number v_text_here := by kernel_rfl
theorem sl_take1 (l : List Nat) : slM (some (.str (mkS l))) (some none) (bindO (intM 1) intP) = some (.str (mkS (l.take 1))) := by
  show some (D.str (cutS (mkS l) none (some ((1 : Nat) : Int)))) = _
  unfold cutS
  rw [HT.sIx_none, HT.sIx_nat]
  show some (D.str ⟨((l.drop 0).take (min 1 (mkS l).length - 0)).toArray⟩) = _
  rw [len_mkS, List.drop_zero, Nat.sub_zero]
  have e : l.take (min 1 l.length) = l.take 1 := by
    cases l <;> simp
  rw [e]
  rfl
theorem sl_drop1 (l : List Nat) : slM (some (.str (mkS l))) (bindO (intM 1) intP) (some none) = some (.str (mkS (l.drop 1))) := by
  show some (D.str (cutS (mkS l) (some ((1 : Nat) : Int)) none)) = _
  unfold cutS
  rw [HT.sIx_none, HT.sIx_nat]
  show some (D.str ⟨((l.drop (min 1 (mkS l).length)).take ((mkS l).length - min 1 (mkS l).length)).toArray⟩) = _
  rw [len_mkS]
  have e : (l.drop (min 1 l.length)).take (l.length - min 1 l.length) = l.drop 1 := by
    cases l with
    | nil => rfl
    | cons c r => simp
  rw [e]
  rfl
theorem eqS (dp : Nat) (l : List Nat) (t : Str) : cmpD dp .Eq (.str (mkS l)) (.str t) = some (decide (l = tl t)) := by
  show some (decide (mkS l = t)) = _
  rw [dec_eq, tl_mkS]
theorem neS (dp : Nat) (l : List Nat) (t : Str) : cmpD dp .NotEq (.str (mkS l)) (.str t) = some (!decide (l = tl t)) := by
  show (some (decide (mkS l = t))).map (!·) = _
  rw [dec_eq, tl_mkS]
  rfl
theorem take1_eq (l : List Nat) (c : Nat) : decide (l.take 1 = [c]) = decide (l.head? = some c) := by
  cases l with
  | nil => rfl
  | cons a r => simp
theorem integer_plain (l : List Nat) : m_integer_told (.str (mkS l)) = some (optI (intT l)) := by
  unfold m_integer_told
  rw [sl_take1]
  show iteO (cmpD 1 .NotEq (.str (mkS (l.take 1))) (.str "-")) _ _ = _
  rw [neS, show tl ("-" : Str) = [45] by decide +kernel, take1_eq]
  cases l with
  | nil => rfl
  | cons c r =>
    by_cases h : c = 45
    · subst h
      rw [sl_drop1, show decide ((45 :: r).head? = some 45) = true from decide_eq_true rfl]
      rw [show (!true) = false from rfl, iteO_f]
      have e1 : ((argC (some (D.str (mkS (List.drop 1 (45 :: r))))) arg0).bind g_count_told) = some (optN (cnt r)) := rfl
      rw [e1, bindO_s]
      show _ = some (optI (match cnt r with
        | some n => if n = 0 then none else some (-(n : Int))
        | none => none))
      cases cnt r with
      | none => rfl
      | some n =>
        show bindO (iteO (orO (some false) (some (decide ((n : Int) = 0)))) (some D.non) (some (.int (0 - (n : Int))))) some = _
        by_cases hn : n = 0
        · subst hn; rfl
        · rw [decide_eq_false (show ¬ (n : Int) = 0 by omega)]
          show some (D.int (0 - (n : Int))) = _
          dsimp only
          rw [if_neg hn, Int.zero_sub]
          rfl
    · have e : decide ((c :: r).head? = some 45) = false := decide_eq_false (by simpa using h)
      rw [e]
      show bindO (some (optN (cnt (c :: r)))) some = _
      have : intT (c :: r) = (cnt (c :: r)).map fun n => (n : Int) := if_neg h
      rw [this]
      cases cnt (c :: r) <;> rfl
end Ag
set_option Elab.async false
set_option linter.all false
set_option autoImplicit false
set_option maxRecDepth 100000
set_option maxHeartbeats 1000000
set_option exponentiation.threshold 100000
namespace Ag
open PySem PySem.Spec L2 TL
def pcs (c : Nat) (l : List Nat) : List D := (splitL c l).map fun p => .str (mkS p)
theorem split_s (c : Nat) (l : List Nat) (h : c < 256) (t : Str) (ht : t = mkS [c]) : bind2 (some (.str (mkS l))) (strM t) splitD = some (.lst (pcs c l)) := by
  subst ht
  show splitD (.str (mkS l)) (.str ⟨#[c]⟩) = _
  unfold splitD
  simp only [if_pos h]
  unfold pcs splitS
  rw [List.map_map, tl_mkS]
  rfl
theorem pcs_len (c : Nat) (l : List Nat) : (pcs c l).length = (splitL c l).length := by unfold pcs; rw [List.length_map]
theorem sl47 : ("/" : Str) = mkS [47] := by decide +kernel
theorem sl45 : tl ("-" : Str) = [45] := by decide +kernel
theorem ix_lst {ds : List D} {i : Nat} {d : D} (h : ds[i]? = some d) : ixM (some (.lst ds)) (intM (i : Nat)) = some d := atI_nat h
theorem ix_neg {ds : List D} {d : D} : ixM (some (.lst (ds ++ [d]))) (bindO (intM 1) negD) = some d := atI_last ds d
theorem gLen_lst (ds : List D) : (argC (some (.lst ds)) arg0).bind gLen = some (.int (ds.length : Nat)) := rfl
theorem eqI (dp : Nat) (i j : Int) : cmpM dp .Eq (some (.int i)) (intM j) = some (decide (i = j)) := rfl
theorem gtI (dp : Nat) (i j : Int) : cmpM dp .Gt (some (.int i)) (intM j) = some (decide (j < i)) := rfl
theorem isI (dp : Nat) (o : Option Int) : cmpM dp .Is (some (optI o)) (some .non) = some o.isNone := by cases o <;> rfl
theorem isN (dp : Nat) (o : Option Nat) : cmpM dp .Is (some (optN o)) (some .non) = some o.isNone := by cases o <;> rfl
theorem digitsVal_lt : ∀ (l : List Nat) (acc : Nat), digB l = true → l.foldl (fun acc c => acc * 10 + (c - 48)) acc < (acc + 1) * 10 ^ l.length
  | [], acc, _ => by simp
  | c :: r, acc, h => by
    have h : ((decide (48 ≤ c) && decide (c ≤ 57)) && digB r) = true := h
    simp only [Bool.and_eq_true, decide_eq_true_eq] at h
    have ih := digitsVal_lt r (acc * 10 + (c - 48)) h.2
    rw [List.foldl_cons, List.length_cons, Nat.pow_succ]
    refine Nat.lt_of_lt_of_le ih ?_
    have e1 : acc * 10 + (c - 48) + 1 ≤ (acc + 1) * 10 := by omega
    calc (acc * 10 + (c - 48) + 1) * 10 ^ r.length ≤ ((acc + 1) * 10) * 10 ^ r.length := Nat.mul_le_mul_right _ e1
      _ = (acc + 1) * (10 ^ r.length * 10) := by rw [Nat.mul_assoc, Nat.mul_comm 10]
theorem cnt_lt {l : List Nat} {n : Nat} (h : cnt l = some n) : n < 10 ^ l.length ∧ l.length ≤ 400 ∧ 1 ≤ l.length := by
  unfold cnt cntB at h
  split at h
  · rename_i hh
    cases h
    simp only [Bool.and_eq_true, decide_eq_true_eq] at hh
    have := digitsVal_lt l 0 hh.2.1
    exact ⟨by simpa [NumText.digitsVal] using this, hh.1.2, hh.1.1⟩
  · cases h
theorem log2_of {n k : Nat} (h : n < 10 ^ k) (hk : k ≤ 2200) : n.log2 < 9000 := by
  rcases Nat.eq_zero_or_pos n with rfl | hn
  · simp
  · rw [Nat.log2_lt (by omega)]
    calc n < 10 ^ k := h
      _ ≤ 10 ^ 2200 := Nat.pow_le_pow_right (by decide) hk
      _ ≤ (2 ^ 4) ^ 2200 := Nat.pow_le_pow_left (by decide) _
      _ = 2 ^ 8800 := by rw [← Nat.pow_mul]
      _ ≤ 2 ^ 9000 := Nat.pow_le_pow_right (by decide) (by decide)
theorem g_Ratio_s {t : Int} {n : Nat} (h0 : n ≠ 0) (hl : n.log2 < 9000) : (argC (some (.int t)) (argC (some (.int (n : Nat))) arg0)).bind g_Ratio = some (ratD t n) := by
  show (if 0 < (n : Int) ∧ (n : Int).natAbs.log2 < 9000 then some (ratD t n) else none) = _
  rw [Int.natAbs_natCast, if_pos ⟨by omega, hl⟩]
theorem number_plain (l : List Nat) : m_number_told (.str (mkS l)) = some (optR (numT l)) := by
  unfold m_number_told
  rw [split_s 47 l (by decide) _ sl47, bindO_s, gLen_lst, pcs_len]
  unfold numT pcs
  match hq : splitL 47 l with
  | [] => exact absurd hq (splitL_ne 47 l)
  | [a] =>
    rw [show (List.map (fun p => D.str (mkS p)) [a]) = [D.str (mkS a)] from rfl, show intM (0 : Int) = intM ((0 : Nat) : Int) from rfl, ix_lst (d := .str (mkS a)) rfl]
    show bind2 (some (optI (intT a))) (intM 1) _ = _
    rw [intM_d, bind2_s, isI]
    show _ = some (optR ((intT a).map fun t => (t, 1)))
    cases h : intT a with
    | none => rfl
    | some t =>
      show bindO ((argC (some (D.int t)) (argC (some (.int ((1 : Nat) : Int))) arg0)).bind g_Ratio) some = _
      rw [g_Ratio_s (by decide) (by decide)]
      rfl
  | [a, b] =>
    rw [show (List.map (fun p => D.str (mkS p)) [a, b]) = [D.str (mkS a)] ++ [D.str (mkS b)] from rfl, ix_neg, show intM (0 : Int) = intM ((0 : Nat) : Int) from rfl, ix_lst (d := .str (mkS a)) rfl]
    show bind2 (some (optI (intT a))) (some (optN (cnt b))) _ = _
    rw [bind2_s, isI, isN]
    show _ = some (optR (match intT a, cnt b with
      | some t, some n => if n = 0 then none else some (t, n)
      | _, _ => none))
    cases h : intT a with
    | none => rfl
    | some t =>
      cases h2 : cnt b with
      | none => rfl
      | some n =>
        by_cases hn : n = 0
        · subst hn; rfl
        · have e : cmpM 1 .Eq (some (optN (some n))) (intM ((0 : Nat) : Int)) = some false := by
            show some (decide ((n : Int) = 0)) = _
            rw [decide_eq_false (by omega)]
          rw [e]
          show bindO ((argC (some (D.int t)) (argC (some (.int (n : Nat))) arg0)).bind g_Ratio) some = _
          have hb := cnt_lt h2
          rw [g_Ratio_s hn (log2_of hb.1 (by omega))]
          dsimp only
          rw [if_neg hn]
          rfl
  | a :: b :: c :: r =>
    have e : cmpM 1 .Gt (some (D.int ((a :: b :: c :: r).length : Nat))) (intM 2) = some true := by
      rw [gtI]
      exact congrArg some (decide_eq_true (by simp only [List.length_cons]; omega))
    have e2 : cmpM 1 .Eq (some (D.int ((a :: b :: c :: r).length : Nat))) (intM 2) = some false := by
      rw [eqI]
      exact congrArg some (decide_eq_false (by simp only [List.length_cons]; omega))
    rw [e, e2, show intM (0 : Int) = intM ((0 : Nat) : Int) from rfl, ix_lst (d := .str (mkS a)) rfl]
    rfl
theorem none_in {dp : Nat} {ds : List D} (h : ds.all (D.okIn dp) = true) : cmpM dp .In (some .non) (some (.lst ds)) = some (ds.any D.isNon) := if_pos h
theorem none_in_t {dp : Nat} {ds : List D} (h : ds.all (D.okIn dp) = true) : cmpM dp .In (some .non) (some (.tup ds)) = some (ds.any D.isNon) := if_pos h
theorem none_notin {dp : Nat} {ds : List D} (h : ds.all (D.okIn dp) = true) : cmpM dp .NotIn (some .non) (some (.lst ds)) = some (!ds.any D.isNon) := by
  show (inD dp .non (.lst ds)).map (!·) = _
  rw [show inD dp .non (.lst ds) = some (ds.any D.isNon) from if_pos h]
  rfl
theorem okIn_N (dp : Nat) (l : List (Option Nat)) : (l.map optN).all (D.okIn dp) = true := by
  rw [List.all_map, List.all_eq_true]
  intro o _
  cases o <;> rfl
theorem intT_ne {a : List Nat} (h : a.head? ≠ some 45) : intT a = (cnt a).map fun n => (n : Int) := by
  cases a with
  | nil => rfl
  | cons c r => exact if_neg fun e => h (by rw [e]; rfl)
theorem splitL_head {c : Nat} {l a : List Nat} {r : List (List Nat)} (h : splitL c l = a :: r) : a = [] ∨ a.head? = l.head? := by
  cases l with
  | nil => cases h; exact .inl rfl
  | cons x t =>
    unfold splitL at h
    split at h
    · cases h; exact .inl rfl
    · split at h <;> (cases h; exact .inr rfl)
theorem law_told (r : List Nat) : lcM (fun v_part => (((argC (some v_part) arg0)).bind g__law_count)) (inM (some (.lst (pcs 47 r)))) = some (.lst (((splitL 47 r).map cnt).map optN)) := by
  rw [inM_lst]
  unfold pcs
  rw [lcM_map (i := fun p => D.str (mkS p)) (f := fun p => optN (cnt p)) fun a _ => rfl, List.map_map]
  rfl
/-- behind the sign -/
def lawN (b : Bool) (ps : List (Option Nat)) : Option (Int × Nat) := match ps with
  | [some n] => if n = 0 ∧ b = true then none else some (if b then -(n : Int) else n, 1)
  | [some n, some m] => if (n = 0 ∧ b = true) ∨ m = 0 then none else some (if b then -(n : Int) else n, m)
  | _ => none
theorem lawN_more (b : Bool) (x y z : Option Nat) (t : List (Option Nat)) : lawN b (x :: y :: z :: t) = none := by
  cases x <;> cases y <;> rfl
theorem numT_law (l r : List Nat) (b : Bool) (hb : b = decide (l.head? = some 45)) (hr : r = if b then l.drop 1 else l) : numT l = lawN b ((splitL 47 r).map cnt) := by
  subst hb
  by_cases h : l.head? = some 45
  · rw [decide_eq_true h] at hr ⊢
    obtain ⟨t, rfl⟩ : ∃ t, l = 45 :: t := by
      cases l with
      | nil => cases h
      | cons c t => exact ⟨t, by rw [Option.some.inj h]⟩
    have hr : r = t := hr
    subst hr
    unfold numT
    have e : splitL 47 (45 :: r) = match splitL 47 r with
      | [] => [[45]]
      | x :: xs => (45 :: x) :: xs := by
      rw [splitL, if_neg (by decide)]
      all_goals (cases splitL 47 r <;> rfl)
    rw [e]
    match splitL 47 r with
    | [] => rfl
    | [a] =>
      show (intT (45 :: a)).map _ = lawN true [cnt a]
      show (match cnt a with
        | some n => if n = 0 then none else some (-(n : Int))
        | none => none).map _ = _
      cases cnt a with
      | none => rfl
      | some n =>
        by_cases hn : n = 0
        · subst hn; rfl
        · dsimp only [lawN]
          rw [if_neg hn, if_neg (by simp [hn])]
          rfl
    | [a, c] =>
      show (match intT (45 :: a), cnt c with
        | some t, some n => if n = 0 then none else some (t, n)
        | _, _ => none) = lawN true [cnt a, cnt c]
      show (match (match cnt a with
        | some n => if n = 0 then none else some (-(n : Int))
        | none => none), cnt c with
        | some t, some n => if n = 0 then none else some (t, n)
        | _, _ => none) = _
      cases cnt a with
      | none => rfl
      | some n =>
        cases cnt c with
        | none =>
          dsimp only
          split <;> first
            | rfl
            | (rename_i h; cases h)
            | skip
        | some m =>
          by_cases hn : n = 0
          · subst hn; rfl
          · dsimp only [lawN]
            rw [if_neg hn]
            by_cases hm : m = 0
            · subst hm; simp
            · rw [if_neg (by simp [hn, hm])]
              dsimp only
              rw [if_neg hm]
              rfl
    | x :: y :: z :: t => exact (lawN_more _ (cnt x) (cnt y) (cnt z) (t.map cnt)).symm
  · rw [decide_eq_false h] at hr ⊢
    have hr : r = l := hr
    subst hr
    unfold numT
    match hq : splitL 47 r with
    | [] => rfl
    | [a] =>
      have ha : a.head? ≠ some 45 := by
        rcases splitL_head hq with rfl | e
        · simp
        · rw [e]; exact h
      dsimp only
      rw [intT_ne ha]
      show _ = lawN false [cnt a]
      cases cnt a with
      | none => rfl
      | some n =>
        dsimp only [lawN]
        rw [if_neg (by simp)]
        rfl
    | [a, c] =>
      have ha : a.head? ≠ some 45 := by
        rcases splitL_head hq with rfl | e
        · simp
        · rw [e]; exact h
      dsimp only
      rw [intT_ne ha]
      show _ = lawN false [cnt a, cnt c]
      cases cnt a with
      | none => rfl
      | some n =>
        cases cnt c with
        | none => rfl
        | some m =>
          show (if m = 0 then none else some ((n : Int), m)) = if (n = 0 ∧ false = true) ∨ m = 0 then none else some (if false = true then -(n : Int) else n, m)
          by_cases hm : m = 0
          · subst hm; simp
          · rw [if_neg hm, if_neg (by simp [hm])]
            rfl
    | x :: y :: z :: t => exact (lawN_more _ (cnt x) (cnt y) (cnt z) (t.map cnt)).symm
def lawTail (v_is_below v_told_here : D) : Option D := iteO
            (orO (cmpM 1 CmpOp.Gt ((argC (some v_told_here) arg0).bind gLen) (intM 2))
              (orO (cmpM 1 CmpOp.In (some D.non) (some v_told_here))
                (orO (andO (cmpM 1 CmpOp.Eq (ixM (some v_told_here) (intM 0)) (intM 0)) (truM (some v_is_below)))
                  (andO (cmpM 1 CmpOp.Eq ((argC (some v_told_here) arg0).bind gLen) (intM 2))
                    (cmpM 1 CmpOp.Eq (ixM (some v_told_here) (intM 1)) (intM 0))))))
            (bindO (some D.non) some)
            (bindO
              ((argC
                    (iteO (truM (some v_is_below)) (bindO (ixM (some v_told_here) (intM 0)) negD)
                      (ixM (some v_told_here) (intM 0)))
                    (argC
                      (iteO (cmpM 1 CmpOp.Eq ((argC (some v_told_here) arg0).bind gLen) (intM 2))
                        (ixM (some v_told_here) (intM 1)) (intM 1))
                      arg0)).bind
                g_Ratio)
              some)
theorem lawTail_eq (b : Bool) (os : List (Option Nat)) (hne : os ≠ []) (ho : ∀ m, some m ∈ os → m.log2 < 9000) : lawTail (.bl b) (.lst (os.map optN)) = some (optR (lawN b os)) := by
  have hin : cmpM 1 .In (some .non) (some (.lst (os.map optN))) = some ((os.map optN).any D.isNon) := none_in (okIn_N 1 os)
  unfold lawTail
  rw [gLen_lst, hin, gtI, eqI, List.length_map, truM_bl]
  match os, hne, ho with
  | [none], _, _ => rfl
  | [some n], _, _ =>
    have e0 : ixM (some (.lst ([some n].map optN))) (intM 0) = some (.int (n : Nat)) := ix_lst (i := 0) rfl
    rw [e0, eqI]
    by_cases hn : n = 0
    · subst hn
      cases b
      · show bindO ((argC (some (D.int 0)) (argC (some (.int ((1 : Nat) : Int))) arg0)).bind g_Ratio) some = _
        rw [g_Ratio_s (by decide) (by decide)]
        rfl
      · rfl
    · rw [decide_eq_false (show ¬ (n : Int) = 0 by omega)]
      cases b
      · show bindO ((argC (some (D.int (n : Int))) (argC (some (.int ((1 : Nat) : Int))) arg0)).bind g_Ratio) some = _
        rw [g_Ratio_s (by decide) (by decide)]
        dsimp only [lawN]
        rw [if_neg (by simp [hn])]
        rfl
      · show bindO ((argC (some (D.int (-(n : Int)))) (argC (some (.int ((1 : Nat) : Int))) arg0)).bind g_Ratio) some = _
        rw [g_Ratio_s (by decide) (by decide)]
        dsimp only [lawN]
        rw [if_neg (by simp [hn])]
        rfl
  | [none, o], _, _ => cases o <;> rfl
  | [some n, none], _, _ => rfl
  | [some n, some m], _, ho =>
    have hm := ho m (List.mem_cons_of_mem _ List.mem_cons_self)
    have e0 : ixM (some (.lst ([some n, some m].map optN))) (intM 0) = some (.int (n : Nat)) := ix_lst (i := 0) rfl
    have e1 : ixM (some (.lst ([some n, some m].map optN))) (intM 1) = some (.int (m : Nat)) := ix_lst (i := 1) rfl
    rw [e0, e1, eqI, eqI]
    by_cases h0 : (n = 0 ∧ b = true) ∨ m = 0
    · dsimp only [lawN]
      rw [if_pos h0]
      rcases h0 with ⟨h1, h2⟩ | h1
      · subst h1 h2; rfl
      · subst h1
        by_cases hn : n = 0
        · subst hn
          cases b <;> rfl
        · rw [decide_eq_false (show ¬ (n : Int) = 0 by omega)]
          cases b <;> rfl
    · have hm0 : m ≠ 0 := fun e => h0 (.inr e)
      have e2 : (decide ((n : Int) = 0) && b) = false := by
        cases b with
        | false => simp
        | true =>
          have : n ≠ 0 := fun e => h0 (.inl ⟨e, rfl⟩)
          rw [decide_eq_false (show ¬ (n : Int) = 0 by omega)]
          rfl
      rw [andO_s, e2, decide_eq_false (show ¬ (m : Int) = 0 by omega)]
      dsimp only [lawN]
      rw [if_neg h0]
      cases b
      · show bindO ((argC (some (D.int (n : Int))) (argC (some (.int (m : Nat))) arg0)).bind g_Ratio) some = _
        rw [g_Ratio_s hm0 hm]
        rfl
      · show bindO ((argC (some (D.int (-(n : Int)))) (argC (some (.int (m : Nat))) arg0)).bind g_Ratio) some = _
        rw [g_Ratio_s hm0 hm]
        rfl
  | x :: y :: z :: t, _, _ =>
    rw [lawN_more]
    have : decide ((2 : Int) < ((x :: y :: z :: t).length : Nat)) = true := decide_eq_true (by simp only [List.length_cons]; omega)
    rw [this]
    rfl
theorem splitL_cnt {r : List Nat} : ∀ m, some m ∈ (splitL 47 r).map cnt → m.log2 < 9000 := fun m hm => by
  obtain ⟨a, _, h⟩ := List.mem_map.mp hm
  have := cnt_lt h
  exact log2_of this.1 (by omega)
theorem law_number_plain (l : List Nat) : m__law_number (.str (mkS l)) = some (optR (numT l)) := by
  have e1 : cmpM 1 .Eq (some (.str (mkS (l.take 1)))) (strM "-") = some (decide (l.head? = some 45)) := by
    show cmpD 1 .Eq (.str (mkS (l.take 1))) (.str "-") = _
    rw [eqS, sl45, take1_eq]
  have hn := numT_law l _ _ rfl rfl
  unfold m__law_number
  rw [sl_take1, e1, sl_drop1]
  generalize hb : decide (l.head? = some 45) = b at hn ⊢
  rw [omap_s, bindO_s, truM_bl]
  have e2 : iteO (some b) (some (D.str (mkS (l.drop 1)))) (some (.str (mkS l))) = some (.str (mkS (if b = true then l.drop 1 else l))) := by cases b <;> rfl
  rw [e2, split_s 47 _ (by decide) _ sl47, bindO_s, law_told, bindO_s]
  have := lawTail_eq b ((splitL 47 (if b = true then l.drop 1 else l)).map cnt) (by
    intro e
    exact splitL_ne 47 _ (List.map_eq_nil_iff.mp e)) splitL_cnt
  rw [hn]
  exact this
end Ag
set_option Elab.async false
set_option linter.all false
set_option autoImplicit false
set_option maxRecDepth 100000
set_option maxHeartbeats 1000000
namespace Ag
open PySem PySem.Spec L2 TL
def fl5 : FtL := ("number_told", g_number_told) :: ("_law_number", g_number_told) :: fl4
def N_letter_told : List Str := ["columns", "text", "parts", "powers", "part", "power"]
def m_letter_told (v_columns v_text : D) : Option D :=
  iteO (orO (cmpM 1 .NotEq (slM (some v_text) (some none) (bindO (intM 1) intP)) (strM "(")) (orO (cmpM 1 .NotEq (slM (some v_text) (bindO (bindO (intM 1) negD) intP) (some none)) (strM ")")) (cmpM 1 .Lt (((argC (some v_text) arg0)).bind gLen) (intM 2))))
    (bindO (some D.non) some)
    (bindO (iteO (cmpM 1 .Gt (((argC (some v_text) arg0)).bind gLen) (intM 2)) (bind2 (slM (some v_text) (bindO (intM 1) intP) (bindO (bindO (intM 1) negD) intP)) (strM ",") splitD) (lstM arg0)) fun v_parts =>
    (bindO (lcM (fun v_part => (((argC (some v_part) arg0)).bind g_count_told)) (inM (some v_parts))) fun v_powers =>
    (iteO (orO (cmpM 1 .NotEq (((argC (some v_powers) arg0)).bind gLen) (some v_columns)) (notO (truM (((argC (lcM (fun v_power => (bindO ((cmpM 1 .IsNot (some v_power) (some D.non)).map D.bl) (andV1 ((cmpM 1 .LtE (some v_power) (intM 8)).map D.bl)))) (inM (some v_powers))) arg0)).bind gAll))))
      (bindO (some D.non) some)
      (bindO (((argC (some v_powers) arg0)).bind gTuple) some))))
theorem mq_letter_told (v_columns v_text : D) : semK ⟨1, N_letter_told, ftOf fl5, gcB⟩ 40 40 s_letter_told 2 [v_columns, v_text] = m_letter_told v_columns v_text := by kernel_rfl
def N__law_letter_of : List Str := ["_law_columns", "_law_text_here", "_law_told_here", "_law_part", "_law_power"]
def m__law_letter_of (v_columns v_text_here : D) : Option D :=
  iteO (orO (cmpM 1 .NotEq (slM (some v_text_here) (some none) (bindO (intM 1) intP)) (strM "(")) (orO (cmpM 1 .NotEq (slM (some v_text_here) (bindO (bindO (intM 1) negD) intP) (some none)) (strM ")")) (cmpM 1 .Lt (((argC (some v_text_here) arg0)).bind gLen) (intM 2))))
    (bindO (some D.non) some)
    (bindO (iteO (cmpM 1 .NotEq (some v_text_here) (strM "()")) (lcM (fun v_part => (((argC (some v_part) arg0)).bind g__law_count)) (inM (bind2 (slM (some v_text_here) (bindO (intM 1) intP) (bindO (bindO (intM 1) negD) intP)) (strM ",") splitD))) (lstM arg0)) fun v_told_here =>
    (iteO (orO (cmpM 1 .NotEq (((argC (some v_told_here) arg0)).bind gLen) (some v_columns)) (truM (((argC (lcM (fun v_power => (bindO ((cmpM 1 .Is (some v_power) (some D.non)).map D.bl) (orV1 ((cmpM 1 .Gt (some v_power) (intM 8)).map D.bl)))) (inM (some v_told_here))) arg0)).bind gAny)))
      (bindO (some D.non) some)
      (bindO (((argC (some v_told_here) arg0)).bind gTuple) some)))
theorem mq__law_letter_of (v_columns v_text_here : D) : semK ⟨1, N__law_letter_of, ftOf fl5, gcB⟩ 40 40 s__law_letter_of 2 [v_columns, v_text_here] = m__law_letter_of v_columns v_text_here := by kernel_rfl
def okP : Option Nat → Bool
  | some n => decide (n ≤ 8)
  | none => false
def letOf (c : Int) (os : List (Option Nat)) : Option (List Nat) := if decide ((os.length : Int) = c) && os.all okP then some (os.map (·.getD 0)) else none
def letT (c : Int) (l : List Nat) : Option (List Nat) := if decide (l.head? = some 40) && (decide (l.getLast? = some 41) && decide (2 ≤ l.length)) then
  letOf c (if l.length = 2 then [] else (splitL 44 ((l.drop 1).take (l.length - 2))).map cnt) else none
def letD (ps : List Nat) : D := .tup (ps.map fun n => .int (n : Nat))
def optL : Option (List Nat) → D
  | some ps => letD ps
  | none => .non
def g_letter_told : List D → Option D
  | [.int c, .str s] => some (optL (letT c (tl s)))
  | _ => none
theorem sl_last (l : List Nat) : slM (some (.str (mkS l))) (bindO (bindO (intM 1) negD) intP) (some none) = some (.str (mkS (l.drop (l.length - 1)))) := by
  show some (D.str (cutS (mkS l) (some (-1)) none)) = _
  unfold cutS
  rw [HT.sIx_none]
  have e0 : HT.sIx (mkS l).length 0 (some (-1)) = l.length - 1 := by
    show (if (-1 : Int) < 0 then ((-1 : Int) + ((mkS l).length : Int)).toNat else min (-1 : Int).toNat (mkS l).length) = _
    rw [if_pos (by decide), len_mkS]
    omega
  rw [e0, len_mkS]
  show some (D.str (mkS ((l.drop (l.length - 1)).take (l.length - (l.length - 1))))) = _
  rw [List.take_of_length_le (by rw [List.length_drop]; exact Nat.le_refl _)]
theorem sIx_m1 (n d : Nat) : HT.sIx n d (some (-1)) = n - 1 := by
  show (if (-1 : Int) < 0 then ((-1 : Int) + (n : Int)).toNat else min (-1 : Int).toNat n) = _
  rw [if_pos (by decide)]
  omega
theorem sl_mid (l : List Nat) : slM (some (.str (mkS l))) (bindO (intM 1) intP) (bindO (bindO (intM 1) negD) intP) = some (.str (mkS ((l.drop 1).take (l.length - 2)))) := by
  show some (D.str (cutS (mkS l) (some ((1 : Nat) : Int)) (some (-1)))) = _
  unfold cutS
  rw [HT.sIx_nat, sIx_m1, len_mkS]
  show some (D.str (mkS ((l.drop (min 1 l.length)).take (l.length - 1 - min 1 l.length)))) = _
  cases l with
  | nil => rfl
  | cons a r =>
    have e : min 1 (a :: r).length = 1 := by simp
    rw [e]
    rfl
theorem sl_init (l : List Nat) : slM (some (.str (mkS l))) (some none) (bindO (bindO (intM 1) negD) intP) = some (.str (mkS (l.take (l.length - 1)))) := by
  show some (D.str (cutS (mkS l) none (some (-1)))) = _
  unfold cutS
  rw [HT.sIx_none, sIx_m1, len_mkS]
  rfl
theorem sl_initL (ds : List D) : slM (some (.lst ds)) (some none) (bindO (bindO (intM 1) negD) intP) = some (.lst (ds.take (ds.length - 1))) := by
  show some (D.lst (cutL ds none (some (-1)))) = _
  unfold cutL
  rw [HT.sIx_none, sIx_m1]
  rfl
theorem last_eq (l : List Nat) (c : Nat) : decide (l.drop (l.length - 1) = [c]) = decide (l.getLast? = some c) := by
  rcases List.eq_nil_or_concat l with rfl | ⟨m, a, rfl⟩
  · rfl
  rw [List.concat_eq_append]
  have e : (m ++ [a]).drop ((m ++ [a]).length - 1) = [a] := by simp
  rw [e, List.getLast?_concat]
  simp
theorem strs5 : tl ("(" : Str) = [40] ∧ tl (")" : Str) = [41] ∧ ("," : Str) = mkS [44] ∧ tl ("()" : Str) = [40, 41] ∧ (")" : Str) = mkS [41] ∧ ("-" : Str) = mkS [45] := by decide +kernel
theorem pow_ok (o : Option Nat) : bindO ((cmpM 1 .IsNot (some (optN o)) (some D.non)).map D.bl) (andV1 ((cmpM 1 .LtE (some (optN o)) (intM 8)).map D.bl)) = some (.bl (okP o)) := by
  cases o with
  | none => rfl
  | some n =>
    show some (D.bl (decide ((n : Int) ≤ 8))) = some (.bl (decide (n ≤ 8)))
    rw [show decide ((n : Int) ≤ 8) = decide (n ≤ 8) from decide_eq_decide.mpr (by omega)]
theorem pow_bad (o : Option Nat) : bindO ((cmpM 1 .Is (some (optN o)) (some D.non)).map D.bl) (orV1 ((cmpM 1 .Gt (some (optN o)) (intM 8)).map D.bl)) = some (.bl (!okP o)) := by
  cases o with
  | none => rfl
  | some n =>
    show some (D.bl (decide ((8 : Int) < n))) = some (.bl (!decide (n ≤ 8)))
    by_cases h : n ≤ 8
    · rw [decide_eq_true h, decide_eq_false (by omega)]; rfl
    · rw [decide_eq_false h, decide_eq_true (by omega)]; rfl
theorem optN_map (os : List (Option Nat)) (h : os.all okP = true) : os.map optN = (os.map (·.getD 0)).map fun n => D.int (n : Nat) := by
  rw [List.map_map]
  refine List.map_congr_left fun o ho => ?_
  have := List.all_eq_true.mp h o ho
  cases o with
  | none => cases this
  | some n => rfl
theorem pcs_told (l : List Nat) (c : Nat) : lcM (fun v_part => (((argC (some v_part) arg0)).bind g_count_told)) (inM (some (.lst (pcs c l)))) = some (.lst (((splitL c l).map cnt).map optN)) := by
  rw [inM_lst]
  unfold pcs
  rw [lcM_map (i := fun p => D.str (mkS p)) (f := fun p => optN (cnt p)) fun a _ => rfl, List.map_map]
  rfl
theorem letter_tail (c : Int) (os : List (Option Nat)) : iteO (orO (cmpM 1 .NotEq ((argC (some (.lst (os.map optN))) arg0).bind gLen) (some (.int c))) (notO (truM ((argC (lcM (fun v_power => bindO ((cmpM 1 .IsNot (some v_power) (some D.non)).map D.bl) (andV1 ((cmpM 1 .LtE (some v_power) (intM 8)).map D.bl))) (inM (some (.lst (os.map optN))))) arg0).bind gAll))))
    (bindO (some D.non) some) (bindO ((argC (some (.lst (os.map optN))) arg0).bind gTuple) some) = some (optL (letOf c os)) := by
  rw [gLen_lst, inM_lst, all_lc (i := optN) (b := okP) fun a _ => pow_ok a, truM_bl, notO_s, List.length_map]
  have e : cmpM 1 .NotEq (some (.int (os.length : Nat))) (some (.int c)) = some (!decide ((os.length : Int) = c)) := rfl
  rw [e, orO_s]
  unfold letOf
  cases h1 : decide ((os.length : Int) = c) with
  | false => rfl
  | true =>
    cases h2 : os.all okP with
    | false => rfl
    | true =>
      show some (D.tup (os.map optN)) = _
      rw [optN_map os h2]
      rfl
theorem letter_plain (c : Int) (l : List Nat) : m_letter_told (.int c) (.str (mkS l)) = some (optL (letT c l)) := by
  obtain ⟨s1, s2, s3, s4, _, _⟩ := strs5
  unfold m_letter_told letT
  have e1 : cmpM 1 .NotEq (some (.str (mkS (l.take 1)))) (strM "(") = some (!decide (l.head? = some 40)) := by
    show cmpD 1 .NotEq (.str (mkS (l.take 1))) (.str "(") = _
    rw [neS, s1, take1_eq]
  have e2 : cmpM 1 .NotEq (some (.str (mkS (l.drop (l.length - 1))))) (strM ")") = some (!decide (l.getLast? = some 41)) := by
    show cmpD 1 .NotEq (.str (mkS (l.drop (l.length - 1)))) (.str ")") = _
    rw [neS, s2, last_eq]
  have e3 : cmpM 1 .Lt ((argC (some (.str (mkS l))) arg0).bind gLen) (intM 2) = some (!decide (2 ≤ l.length)) := by
    show cmpM 1 .Lt (gLen [.str (mkS l)]) (intM 2) = _
    rw [gLen_str]
    show some (decide ((l.length : Int) < 2)) = _
    by_cases h : 2 ≤ l.length
    · rw [decide_eq_true h, decide_eq_false (by omega)]; rfl
    · rw [decide_eq_false h, decide_eq_true (by omega)]; rfl
  rw [sl_take1, sl_last, sl_mid, e1, e2, e3, orO_s, orO_s]
  cases h1 : decide (l.head? = some 40) with
  | false => rfl
  | true =>
    cases h2 : decide (l.getLast? = some 41) with
    | false => rfl
    | true =>
      by_cases h3 : 2 ≤ l.length
      · rw [decide_eq_true h3]
        have e4 : iteO (cmpM 1 .Gt ((argC (some (.str (mkS l))) arg0).bind gLen) (intM 2)) (bind2 (some (.str (mkS ((l.drop 1).take (l.length - 2))))) (strM ",") splitD) (lstM arg0) = some (.lst (if l.length = 2 then [] else pcs 44 ((l.drop 1).take (l.length - 2)))) := by
          rw [split_s 44 _ (by decide) _ s3]
          show iteO (cmpM 1 .Gt (gLen [.str (mkS l)]) (intM 2)) _ _ = _
          rw [gLen_str, gtI]
          by_cases h : l.length = 2
          · rw [decide_eq_false (by omega), if_pos h]; rfl
          · rw [decide_eq_true (by omega), if_neg h]; rfl
        rw [e4]
        show iteO (some false) _ _ = _
        rw [iteO_f, bindO_s]
        by_cases h : l.length = 2
        · rw [if_pos h, if_pos h]
          exact letter_tail c []
        · rw [if_neg h, if_neg h, pcs_told, bindO_s]
          exact letter_tail c _
      · rw [decide_eq_false h3]
        rfl
theorem law_letter_tail (c : Int) (os : List (Option Nat)) : iteO (orO (cmpM 1 .NotEq ((argC (some (.lst (os.map optN))) arg0).bind gLen) (some (.int c))) (truM ((argC (lcM (fun v_power => bindO ((cmpM 1 .Is (some v_power) (some D.non)).map D.bl) (orV1 ((cmpM 1 .Gt (some v_power) (intM 8)).map D.bl))) (inM (some (.lst (os.map optN))))) arg0).bind gAny)))
    (bindO (some D.non) some) (bindO ((argC (some (.lst (os.map optN))) arg0).bind gTuple) some) = some (optL (letOf c os)) := by
  rw [gLen_lst, inM_lst, any_lc (i := optN) (b := fun o => !okP o) fun a _ => pow_bad a, truM_bl, List.length_map]
  have e : cmpM 1 .NotEq (some (.int (os.length : Nat))) (some (.int c)) = some (!decide ((os.length : Int) = c)) := rfl
  have e2 : os.any (fun o => !okP o) = !os.all okP := by
    rw [List.not_all_eq_any_not]
  rw [e, e2, orO_s]
  unfold letOf
  cases h1 : decide ((os.length : Int) = c) with
  | false => rfl
  | true =>
    cases h2 : os.all okP with
    | false => rfl
    | true =>
      show some (D.tup (os.map optN)) = _
      rw [optN_map os h2]
      rfl
theorem law_letter_plain (c : Int) (l : List Nat) : m__law_letter_of (.int c) (.str (mkS l)) = some (optL (letT c l)) := by
  obtain ⟨s1, s2, s3, s4, _, _⟩ := strs5
  unfold m__law_letter_of letT
  have e1 : cmpM 1 .NotEq (some (.str (mkS (l.take 1)))) (strM "(") = some (!decide (l.head? = some 40)) := by
    show cmpD 1 .NotEq (.str (mkS (l.take 1))) (.str "(") = _
    rw [neS, s1, take1_eq]
  have e2 : cmpM 1 .NotEq (some (.str (mkS (l.drop (l.length - 1))))) (strM ")") = some (!decide (l.getLast? = some 41)) := by
    show cmpD 1 .NotEq (.str (mkS (l.drop (l.length - 1)))) (.str ")") = _
    rw [neS, s2, last_eq]
  have e3 : cmpM 1 .Lt ((argC (some (.str (mkS l))) arg0).bind gLen) (intM 2) = some (!decide (2 ≤ l.length)) := by
    show cmpM 1 .Lt (gLen [.str (mkS l)]) (intM 2) = _
    rw [gLen_str]
    show some (decide ((l.length : Int) < 2)) = _
    by_cases h : 2 ≤ l.length
    · rw [decide_eq_true h, decide_eq_false (by omega)]; rfl
    · rw [decide_eq_false h, decide_eq_true (by omega)]; rfl
  rw [sl_take1, sl_last, sl_mid, e1, e2, e3, orO_s, orO_s]
  cases h1 : decide (l.head? = some 40) with
  | false => rfl
  | true =>
    cases h2 : decide (l.getLast? = some 41) with
    | false => rfl
    | true =>
      by_cases h3 : 2 ≤ l.length
      · rw [decide_eq_true h3]
        have e5 : decide (l = [40, 41]) = decide (l.length = 2) := by
          refine decide_eq_decide.mpr ⟨fun e => by rw [e]; rfl, fun e => ?_⟩
          match l, e, of_decide_eq_true h1, of_decide_eq_true h2 with
          | [a, b], _, h1, h2 =>
            cases h1
            cases h2
            rfl
        have e4 : iteO (cmpM 1 .NotEq (some (.str (mkS l))) (strM "()")) (lcM (fun v_part => (((argC (some v_part) arg0)).bind g__law_count)) (inM (bind2 (some (.str (mkS ((l.drop 1).take (l.length - 2))))) (strM ",") splitD))) (lstM arg0) = some (.lst ((if l.length = 2 then [] else (splitL 44 ((l.drop 1).take (l.length - 2))).map cnt).map optN)) := by
          rw [split_s 44 _ (by decide) _ s3]
          show iteO (cmpD 1 .NotEq (.str (mkS l)) (.str "()")) (lcM (fun v_part => (((argC (some v_part) arg0)).bind g_count_told)) (inM (some (.lst (pcs 44 ((l.drop 1).take (l.length - 2))))))) _ = _
          rw [neS, s4, e5, pcs_told]
          by_cases h : l.length = 2
          · rw [decide_eq_true h, if_pos h]; rfl
          · rw [decide_eq_false h, if_neg h]; rfl
        rw [e4]
        show iteO (some false) _ _ = _
        rw [iteO_f, bindO_s]
        exact law_letter_tail c _
      · rw [decide_eq_false h3]
        rfl
end Ag
set_option Elab.async false
set_option linter.all false
set_option autoImplicit false
set_option maxRecDepth 100000
set_option maxHeartbeats 1000000
namespace Ag
open PySem PySem.Spec L2 TL
abbrev g__law_letter_of : List D → Option D := g_letter_told
def fl6 : FtL := ("letter_told", g_letter_told) :: ("_law_letter_of", g_letter_told) :: fl5
def N_word_told : List Str := ["columns", "text", "letters", "part"]
def m_word_told (v_columns v_text : D) : Option D :=
  iteO (cmpM 1 .Eq (some v_text) (strM "-"))
    (bindO (tupM arg0) some)
    (bindO (lcM (fun v_part => (((argC (some v_columns) (argC (((fmtM (some v_part) (litM ")" some)) Str.empty).map D.str) arg0))).bind g_letter_told)) (inM (slM (bind2 (some v_text) (strM ")") splitD) (some none) (bindO (bindO (intM 1) negD) intP)))) fun v_letters =>
    (iteO (orO (cmpM 1 .NotEq (slM (some v_text) (bindO (bindO (intM 1) negD) intP) (some none)) (strM ")")) (orO (cmpM 1 .In (some D.non) (some v_letters)) (cmpM 1 .Gt (((argC (some v_letters) arg0)).bind gLen) (intM 8))))
      (bindO (some D.non) some)
      (bindO (((argC (some v_letters) arg0)).bind gTuple) some)))
theorem mq_word_told (v_columns v_text : D) : semK ⟨1, N_word_told, ftOf fl6, gcB⟩ 40 40 s_word_told 2 [v_columns, v_text] = m_word_told v_columns v_text := by kernel_rfl
def N__law_word_of : List Str := ["_law_columns", "_law_text_here", "_law_found", "_law_part", "_law_letter_here"]
def m__law_word_of (v_columns v_text_here : D) : Option D :=
  iteO (cmpM 1 .Eq (some v_text_here) (strM "-"))
    (bindO (tupM arg0) some)
    (iteO (cmpM 1 .NotEq (slM (some v_text_here) (bindO (bindO (intM 1) negD) intP) (some none)) (strM ")"))
      (bindO (some D.non) some)
      (bindO (lcM (fun v_part => (((argC (some v_columns) (argC (bind2 (some v_part) (strM ")") (binD .Add)) arg0))).bind g__law_letter_of)) (inM (bind2 (slM (some v_text_here) (some none) (bindO (bindO (intM 1) negD) intP)) (strM ")") splitD))) fun v_found =>
      (bindO (iteO (orO (cmpM 1 .Gt (((argC (some v_found) arg0)).bind gLen) (intM 8)) (truM (((argC (lcM (fun v_letter_here => ((cmpM 1 .Is (some v_letter_here) (some D.non)).map D.bl)) (inM (some v_found))) arg0)).bind gAny))) (some D.non) (((argC (some v_found) arg0)).bind gTuple)) some)))
theorem mq__law_word_of (v_columns v_text_here : D) : semK ⟨1, N__law_word_of, ftOf fl6, gcB⟩ 40 40 s__law_word_of 2 [v_columns, v_text_here] = m__law_word_of v_columns v_text_here := by kernel_rfl
def wordOf (os : List (Option (List Nat))) : Option (List (List Nat)) := if os.all (·.isSome) && decide (os.length ≤ 8) then some (os.map (·.getD [])) else none
def wordT (c : Int) (l : List Nat) : Option (List (List Nat)) := if l = [45] then some [] else if l.getLast? = some 41 then wordOf ((splitL 41 (l.take (l.length - 1))).map fun p => letT c (p ++ [41])) else none
def wordD (ws : List (List Nat)) : D := .tup (ws.map letD)
def optW : Option (List (List Nat)) → D
  | some ws => wordD ws
  | none => .non
def g_word_told : List D → Option D
  | [.int c, .str s] => if s.length < sL then some (optW (wordT c (tl s))) else none
  | _ => none
theorem okIn_L (dp : Nat) (l : List (Option (List Nat))) : (l.map optL).all (D.okIn dp) = true := by
  rw [List.all_map, List.all_eq_true]
  intro o _
  cases o <;> rfl
theorem optL_map (os : List (Option (List Nat))) (h : os.all (·.isSome) = true) : os.map optL = (os.map (·.getD [])).map letD := by
  rw [List.map_map]
  refine List.map_congr_left fun o ho => ?_
  have := List.all_eq_true.mp h o ho
  cases o with
  | none => cases this
  | some n => rfl
theorem anyNon_L (os : List (Option (List Nat))) : (os.map optL).any D.isNon = !os.all (·.isSome) := by
  induction os with
  | nil => rfl
  | cons o r ih =>
    rw [List.map_cons, List.any_cons, List.all_cons, ih]
    cases o <;> rfl
theorem okB41 : okB (")" : Str) = true := by decide +kernel
theorem len41 : (")" : Str).length = 1 := by decide +kernel
theorem app41 (p : List Nat) : (mkS p ++ (")" : Str)) = mkS (p ++ [41]) := ext_tl (by rw [tl_append, strs5.2.1]; rfl)
theorem emp_app (s : Str) : Str.empty ++ s = s := ext_tl (by rw [tl_append]; rfl)
theorem fmt41 (p : List Nat) (h : p.length < sL) : ((fmtM (some (.str (mkS p))) (litM ")" some) Str.empty).map D.str) = some (.str (mkS (p ++ [41]))) := by
  have h1 : fmtM (some (.str (mkS p))) (litM ")" some) Str.empty = if Str.empty.length + (mkS p).length ≤ sL then litM ")" some (Str.empty ++ mkS p) else none := rfl
  rw [h1, len_mkS, if_pos (by show 0 + p.length ≤ sL; omega), emp_app]
  unfold litM
  rw [if_pos ⟨okB41, by rw [len_mkS, len41]; omega⟩, app41]
  rfl
theorem splitL_snoc (c : Nat) : ∀ l : List Nat, splitL c (l ++ [c]) = splitL c l ++ [[]]
  | [] => by simp [splitL]
  | a :: r => by
    show splitL c (a :: (r ++ [c])) = _
    unfold splitL
    rw [splitL_snoc c r]
    split
    · rfl
    · cases h : splitL c r with
      | nil => exact absurd h (splitL_ne c r)
      | cons x xs => rfl
theorem take_snoc {l : List Nat} {c : Nat} (h : l.getLast? = some c) : l = l.take (l.length - 1) ++ [c] := by
  rcases List.eq_nil_or_concat l with rfl | ⟨m, a, rfl⟩
  · cases h
  · rw [List.concat_eq_append, List.getLast?_concat] at h
    cases h
    rw [List.concat_eq_append]
    simp
theorem word_pieces {l : List Nat} (h : l.getLast? = some 41) : (pcs 41 l).take ((pcs 41 l).length - 1) = pcs 41 (l.take (l.length - 1)) := by
  have e : pcs 41 l = pcs 41 (l.take (l.length - 1)) ++ [.str (mkS [])] := by
    conv => lhs; rw [take_snoc h]
    unfold pcs
    rw [splitL_snoc, List.map_append]
    rfl
  rw [e]
  simp
theorem pcs_letters (c : Int) {l : List Nat} (hl : l.length < sL) : lcM (fun v_part => (argC (some (.int c)) (argC ((fmtM (some v_part) (litM ")" some) Str.empty).map D.str) arg0)).bind g_letter_told) (inM (some (.lst (pcs 41 l)))) = some (.lst (((splitL 41 l).map fun p => letT c (p ++ [41])).map optL)) := by
  rw [inM_lst]
  unfold pcs
  rw [lcM_map (i := fun p => D.str (mkS p)) (f := fun p => optL (letT c (p ++ [41]))) fun p hp => ?_, List.map_map]
  · rfl
  · rw [fmt41 p (Nat.lt_of_le_of_lt (splitL_mem hp).1 hl)]
    rfl
theorem word_tail (c : Int) (os : List (Option (List Nat))) : iteO (orO (cmpM 1 .In (some D.non) (some (.lst (os.map optL)))) (cmpM 1 .Gt ((argC (some (.lst (os.map optL))) arg0).bind gLen) (intM 8)))
    (bindO (some D.non) some) (bindO ((argC (some (.lst (os.map optL))) arg0).bind gTuple) some) = some (optW (wordOf os)) := by
  rw [none_in (okIn_L 1 os), gLen_lst, gtI, anyNon_L, List.length_map, orO_s]
  unfold wordOf
  cases h1 : os.all (·.isSome) with
  | false => rfl
  | true =>
    by_cases h2 : os.length ≤ 8
    · rw [decide_eq_true h2, decide_eq_false (by omega)]
      show some (D.tup (os.map optL)) = _
      rw [optL_map os h1]
      rfl
    · rw [decide_eq_false h2, decide_eq_true (by omega)]
      rfl
theorem word_plain (c : Int) (l : List Nat) (hl : l.length < sL) : m_word_told (.int c) (.str (mkS l)) = some (optW (wordT c l)) := by
  obtain ⟨_, s2, _, _, s5, s6⟩ := strs5
  unfold m_word_told wordT
  have e1 : cmpM 1 .Eq (some (.str (mkS l))) (strM "-") = some (decide (l = [45])) := by
    show cmpD 1 .Eq (.str (mkS l)) (.str "-") = _
    rw [eqS, s6]
    rfl
  have e2 : cmpM 1 .NotEq (some (.str (mkS (l.drop (l.length - 1))))) (strM ")") = some (!decide (l.getLast? = some 41)) := by
    show cmpD 1 .NotEq (.str (mkS (l.drop (l.length - 1)))) (.str ")") = _
    rw [neS, s2, last_eq]
  rw [e1]
  by_cases h1 : l = [45]
  · rw [decide_eq_true h1, if_pos h1]
    rfl
  · rw [decide_eq_false h1, if_neg h1, iteO_f, split_s 41 l (by decide) _ s5, sl_initL, sl_last, e2]
    by_cases h2 : l.getLast? = some 41
    · rw [decide_eq_true h2, if_pos h2, word_pieces h2, pcs_letters c (by rw [List.length_take]; omega), bindO_s]
      exact word_tail c _
    · rw [decide_eq_false h2, if_neg h2]
      have e3 : (pcs 41 l).take ((pcs 41 l).length - 1) = ((splitL 41 l).take ((pcs 41 l).length - 1)).map fun p => D.str (mkS p) := by
        unfold pcs
        rw [List.map_take]
      rw [e3, inM_lst, lcM_map (i := fun p => D.str (mkS p)) (f := fun p => optL (letT c (p ++ [41]))) fun p hp => ?_, bindO_s]
      · rfl
      · rw [fmt41 p (Nat.lt_of_le_of_lt (splitL_mem (List.mem_of_mem_take hp)).1 hl)]
        rfl
theorem add41 (p : List Nat) (h : p.length < sL) : bind2 (some (.str (mkS p))) (strM ")") (binD .Add) = some (.str (mkS (p ++ [41]))) := by
  have h1 : bind2 (some (.str (mkS p))) (strM ")") (binD .Add) = if (mkS p).length + (")" : Str).length ≤ sL then some (.str (mkS p ++ ")")) else none := rfl
  rw [h1, len_mkS, len41, if_pos (by omega), app41]
theorem law_word_plain (c : Int) (l : List Nat) (hl : l.length < sL) : m__law_word_of (.int c) (.str (mkS l)) = some (optW (wordT c l)) := by
  obtain ⟨_, s2, _, _, s5, s6⟩ := strs5
  unfold m__law_word_of wordT
  have e1 : cmpM 1 .Eq (some (.str (mkS l))) (strM "-") = some (decide (l = [45])) := by
    show cmpD 1 .Eq (.str (mkS l)) (.str "-") = _
    rw [eqS, s6]
    rfl
  have e2 : cmpM 1 .NotEq (some (.str (mkS (l.drop (l.length - 1))))) (strM ")") = some (!decide (l.getLast? = some 41)) := by
    show cmpD 1 .NotEq (.str (mkS (l.drop (l.length - 1)))) (.str ")") = _
    rw [neS, s2, last_eq]
  rw [e1]
  by_cases h1 : l = [45]
  · rw [decide_eq_true h1, if_pos h1]
    rfl
  · rw [decide_eq_false h1, if_neg h1, iteO_f, sl_last, e2]
    by_cases h2 : l.getLast? = some 41
    · rw [decide_eq_true h2, if_pos h2]
      show iteO (some false) _ _ = _
      rw [iteO_f, sl_init, split_s 41 _ (by decide) _ s5, inM_lst]
      have hl2 : (l.take (l.length - 1)).length < sL := by rw [List.length_take]; omega
      generalize l.take (l.length - 1) = m at hl2
      have e5 : lcM (fun v_part => (argC (some (.int c)) (argC (bind2 (some v_part) (strM ")") (binD .Add)) arg0)).bind g__law_letter_of) (some (pcs 41 m)) = some (.lst (((splitL 41 m).map fun p => letT c (p ++ [41])).map optL)) := by
        unfold pcs
        rw [lcM_map (i := fun p => D.str (mkS p)) (f := fun p => optL (letT c (p ++ [41]))) fun p hp => ?_, List.map_map]
        · rfl
        · rw [add41 p (Nat.lt_of_le_of_lt (splitL_mem hp).1 hl2)]
          rfl
      rw [e5, bindO_s]
      generalize ((splitL 41 m).map fun p => letT c (p ++ [41])) = os
      have e6 : (argC (lcM (fun v_letter_here => (cmpM 1 .Is (some v_letter_here) (some D.non)).map D.bl) (inM (some (.lst (os.map optL))))) arg0).bind gAny = some (.bl (os.any fun o => !o.isSome)) := by
        rw [inM_lst]
        refine any_lc (i := optL) fun o _ => ?_
        cases o <;> rfl
      rw [e6, truM_bl, gLen_lst, gtI, List.length_map, orO_s]
      unfold wordOf
      have e7 : (os.any fun o => !o.isSome) = !os.all (·.isSome) := by rw [List.not_all_eq_any_not]
      rw [e7]
      cases h3 : os.all (·.isSome) with
      | false => simp; rfl
      | true =>
        by_cases h4 : os.length ≤ 8
        · rw [decide_eq_true h4, decide_eq_false (by omega)]
          show some (D.tup (os.map optL)) = _
          rw [optL_map os h3]
          rfl
        · rw [decide_eq_false h4, decide_eq_true (by omega)]
          rfl
    · rw [decide_eq_false h2, if_neg h2]
      rfl
end Ag
set_option Elab.async false
set_option linter.all false
set_option autoImplicit false
set_option maxRecDepth 100000
set_option maxHeartbeats 1000000
namespace Ag
open PySem PySem.Spec L2 TL
abbrev g__law_number : List D → Option D := g_number_told
abbrev g__law_word_of : List D → Option D := g_word_told
def fl7 : FtL := ("word_told", g_word_told) :: ("_law_word_of", g_word_told) :: fl6
def N_numbers_told : List Str := ["columns", "parts", "numbers", "part"]
def m_numbers_told (v_columns v_parts : D) : Option D :=
  bindO (lcM (fun v_part => (((argC (some v_part) arg0)).bind g_number_told)) (inM (some v_parts))) fun v_numbers =>
  (bindO (iteO (andO (cmpM 1 .Eq (((argC (some v_numbers) arg0)).bind gLen) (some v_columns)) (cmpM 1 .NotIn (some D.non) (some v_numbers))) (some v_numbers) (some D.non)) some)
theorem mq_numbers_told (v_columns v_parts : D) : semK ⟨1, N_numbers_told, ftOf fl7, gcB⟩ 40 40 s_numbers_told 2 [v_columns, v_parts] = m_numbers_told v_columns v_parts := by kernel_rfl
def N__law_numbers : List Str := ["_law_texts", "_law_found", "_law_text_here", "_law_number_here"]
def m__law_numbers (v_texts : D) : Option D :=
  bindO (lcM (fun v_text_here => (((argC (some v_text_here) arg0)).bind g__law_number)) (inM (some v_texts))) fun v_found =>
  (bindO (iteO (truM (((argC (lcM (fun v_number_here => ((cmpM 1 .Is (some v_number_here) (some D.non)).map D.bl)) (inM (some v_found))) arg0)).bind gAny)) (some D.non) (some v_found)) some)
theorem mq__law_numbers (v_texts : D) : semK ⟨1, N__law_numbers, ftOf fl7, gcB⟩ 40 40 s__law_numbers 1 [v_texts] = m__law_numbers v_texts := by kernel_rfl
def N_step_of_two : List Str := ["word", "places", "ahead", "place", "many"]
def m_step_of_two (v_word v_places v_ahead : D) : Option D :=
  iteO (orO (cmpM 1 .In (some D.non) (some v_places)) (notO (truM (((argC (lcM (fun v_place => ((cmpM 1 .Lt (some v_place) (some v_ahead)).map D.bl)) (inM (some v_places))) arg0)).bind gAll))))
    (bindO (some D.non) some)
    (bindO (iteO (cmpM 1 .In (some v_word) (some (D.tup [.str "sum", .str "less", .str "times"]))) (intM 2) (intM 1)) fun v_many =>
    (bindO (iteO (cmpM 1 .Eq (((argC (some v_places) arg0)).bind gLen) (some v_many)) (((argC (bind2 (lstM (argC (some v_word) arg0)) (some v_places) (binD .Add)) arg0)).bind gTuple) (some D.non)) some))
theorem mq_step_of_two (v_word v_places v_ahead : D) : semK ⟨1, N_step_of_two, ftOf fl7, gcB⟩ 40 40 s_step_of_two 3 [v_word, v_places, v_ahead] = m_step_of_two v_word v_places v_ahead := by kernel_rfl
def strL (ps : List (List Nat)) : List D := ps.map fun p => .str (mkS p)
theorem allStr_L : ∀ ps : List (List Nat), D.allStr (strL ps) = some (ps.map mkS)
  | [] => rfl
  | p :: r => by
    show (D.allStr (strL r)).map (mkS p :: ·) = _
    rw [allStr_L r]
    rfl
def rowOf (os : List (Option (Int × Nat))) : Option (List (Int × Nat)) := if os.all (·.isSome) then some (os.map (·.getD (0, 1))) else none
def numsT (c : Int) (ps : List (List Nat)) : Option (List (Int × Nat)) := if (ps.length : Int) = c then rowOf (ps.map numT) else none
def rowD (rs : List (Int × Nat)) : D := .lst (rs.map fun z => ratD z.1 z.2)
def optRow : Option (List (Int × Nat)) → D
  | some rs => rowD rs
  | none => .non
def unS (ss : List Str) : List (List Nat) := ss.map tl
theorem unS_mk (ps : List (List Nat)) : unS (ps.map mkS) = ps := by
  unfold unS
  rw [List.map_map]
  have : (fun p => tl (mkS p)) = (id : List Nat → List Nat) := rfl
  show ps.map (fun p => tl (mkS p)) = ps
  rw [this, List.map_id]
def g_numbers_told : List D → Option D
  | [.int c, .lst ds] => (D.allStr ds).map fun ss => optRow (numsT c (unS ss))
  | _ => none
def g__law_numbers : List D → Option D
  | [.lst ds] => (D.allStr ds).map fun ss => optRow (rowOf ((unS ss).map numT))
  | _ => none
theorem g_numbers_s (c : Int) (ps : List (List Nat)) : g_numbers_told [.int c, .lst (strL ps)] = some (optRow (numsT c ps)) := by
  show (D.allStr (strL ps)).map _ = _
  rw [allStr_L]
  show some (optRow (numsT c (unS (ps.map mkS)))) = _
  rw [unS_mk]
theorem g_law_numbers_s (ps : List (List Nat)) : g__law_numbers [.lst (strL ps)] = some (optRow (rowOf (ps.map numT))) := by
  show (D.allStr (strL ps)).map _ = _
  rw [allStr_L]
  show some (optRow (rowOf ((unS (ps.map mkS)).map numT))) = _
  rw [unS_mk]
theorem okIn_R (l : List (Option (Int × Nat))) : (l.map optR).all (D.okIn 1) = true := by
  rw [List.all_map, List.all_eq_true]
  intro o _
  cases o <;> rfl
theorem anyNon_R (os : List (Option (Int × Nat))) : (os.map optR).any D.isNon = !os.all (·.isSome) := by
  induction os with
  | nil => rfl
  | cons o r ih =>
    rw [List.map_cons, List.any_cons, List.all_cons, ih]
    cases o <;> rfl
theorem optR_map (os : List (Option (Int × Nat))) (h : os.all (·.isSome) = true) : os.map optR = (os.map (·.getD (0, 1))).map fun z => ratD z.1 z.2 := by
  rw [List.map_map]
  refine List.map_congr_left fun o ho => ?_
  have := List.all_eq_true.mp h o ho
  cases o with
  | none => cases this
  | some n => rfl
theorem lc_numT (ps : List (List Nat)) : lcM (fun v_part => (((argC (some v_part) arg0)).bind g_number_told)) (inM (some (.lst (strL ps)))) = some (.lst ((ps.map numT).map optR)) := by
  rw [inM_lst]
  unfold strL
  rw [lcM_map (i := fun p => D.str (mkS p)) (f := fun p => optR (numT p)) fun a _ => rfl, List.map_map]
  rfl
theorem numbers_plain (c : Int) (ps : List (List Nat)) : m_numbers_told (.int c) (.lst (strL ps)) = some (optRow (numsT c ps)) := by
  unfold m_numbers_told numsT
  rw [lc_numT, bindO_s, gLen_lst, none_notin (okIn_R _), anyNon_R, List.length_map, List.length_map]
  have e : cmpM 1 .Eq (some (.int (ps.length : Nat))) (some (.int c)) = some (decide ((ps.length : Int) = c)) := rfl
  rw [e, andO_s]
  by_cases h1 : (ps.length : Int) = c
  · rw [decide_eq_true h1, if_pos h1]
    unfold rowOf
    cases h2 : (ps.map numT).all (·.isSome) with
    | false => rfl
    | true =>
      show some (D.lst ((ps.map numT).map optR)) = _
      rw [optR_map _ h2]
      rfl
  · rw [decide_eq_false h1, if_neg h1]
    rfl
theorem law_numbers_plain (ps : List (List Nat)) : m__law_numbers (.lst (strL ps)) = some (optRow (rowOf (ps.map numT))) := by
  unfold m__law_numbers
  rw [show lcM (fun v_text_here => (((argC (some v_text_here) arg0)).bind g__law_number)) (inM (some (.lst (strL ps)))) = _ from lc_numT ps, bindO_s]
  generalize ps.map numT = os
  have e6 : (argC (lcM (fun v_number_here => (cmpM 1 .Is (some v_number_here) (some D.non)).map D.bl) (inM (some (.lst (os.map optR))))) arg0).bind gAny = some (.bl (os.any fun o => !o.isSome)) := by
    rw [inM_lst]
    refine any_lc (i := optR) fun o _ => ?_
    cases o <;> rfl
  rw [e6, truM_bl]
  have e7 : (os.any fun o => !o.isSome) = !os.all (·.isSome) := by rw [List.not_all_eq_any_not]
  rw [e7]
  unfold rowOf
  cases h2 : os.all (·.isSome) with
  | false => rfl
  | true =>
    show some (D.lst (os.map optR)) = _
    rw [optR_map _ h2]
    rfl
/-! ### steps -/
def placeOk (m : Int) : Option Nat → Bool
  | some n => decide ((n : Int) < m)
  | none => false
def manyT (w : List Nat) : Nat := if w = tl ("sum" : Str) ∨ w = tl ("less" : Str) ∨ w = tl ("times" : Str) then 2 else 1
def placesT (w : List Nat) (m : Int) (os : List (Option Nat)) : Option D := if os.all (placeOk m) && decide (os.length = manyT w) then some (.tup (.str (mkS w) :: os.map optN)) else none
def optD : Option D → D
  | some d => d
  | none => .non
def unN : D → Option (Option Nat)
  | .non => some none
  | .int i => if 0 ≤ i then some (some i.toNat) else none
  | _ => none
def unNs : List D → Option (List (Option Nat))
  | [] => some []
  | d :: r => match unN d, unNs r with
    | some o, some os => some (o :: os)
    | _, _ => none
theorem unN_optN (o : Option Nat) : unN (optN o) = some o := by
  cases o with
  | none => rfl
  | some n =>
    show (if 0 ≤ (n : Int) then some (some (n : Int).toNat) else none) = _
    rw [if_pos (Int.natCast_nonneg n), Int.toNat_natCast]
theorem unNs_map : ∀ os : List (Option Nat), unNs (os.map optN) = some os
  | [] => rfl
  | o :: r => by
    show (match unN (optN o), unNs (r.map optN) with
      | some o, some os => some (o :: os)
      | _, _ => none) = _
    rw [unN_optN, unNs_map r]
def g_step_of_two : List D → Option D
  | [.str w, .lst ds, .int m] => (unNs ds).map fun os => optD (placesT (tl w) m os)
  | _ => none
theorem in_words (dp : Nat) (w : List Nat) (ss : List Str) : cmpM dp .In (some (.str (mkS w))) (some (.tup (ss.map D.str))) = some (decide (mkS w ∈ ss)) := by
  show (D.allStr (ss.map D.str)).map _ = _
  have : ∀ ss : List Str, D.allStr (ss.map D.str) = some ss := by
    intro ss
    induction ss with
    | nil => rfl
    | cons s r ih =>
      show (D.allStr (r.map D.str)).map (s :: ·) = _
      rw [ih]
      rfl
  rw [this]
  rfl
theorem anyNon_N (os : List (Option Nat)) : (os.map optN).any D.isNon = !os.all (·.isSome) := by
  induction os with
  | nil => rfl
  | cons o r ih =>
    rw [List.map_cons, List.any_cons, List.all_cons, ih]
    cases o <;> rfl
theorem step_of_two_plain (w : List Nat) (m : Int) (os : List (Option Nat)) : m_step_of_two (.str (mkS w)) (.lst (os.map optN)) (.int m) = some (optD (placesT w m os)) := by
  unfold m_step_of_two placesT
  rw [none_in (okIn_N 1 os), anyNon_N, gLen_lst, List.length_map]
  cases h1 : os.all (·.isSome) with
  | false =>
    have h2 : os.all (placeOk m) = false := by
      rw [Bool.eq_false_iff]
      intro h
      have : os.all (·.isSome) = true := by
        rw [List.all_eq_true] at h ⊢
        intro o ho
        have := h o ho
        cases o with
        | none => cases this
        | some n => rfl
      rw [this] at h1
      cases h1
    rw [h2]
    rfl
  | true =>
    have e1 : (argC (lcM (fun v_place => (cmpM 1 .Lt (some v_place) (some (D.int m))).map D.bl) (inM (some (.lst (os.map optN))))) arg0).bind gAll = some (.bl (os.all (placeOk m))) := by
      rw [inM_lst]
      refine all_lc (i := optN) fun o ho => ?_
      have := List.all_eq_true.mp h1 o ho
      cases o with
      | none => cases this
      | some n => rfl
    rw [e1, truM_bl]
    cases h2 : os.all (placeOk m) with
    | false => rfl
    | true =>
      have e2 : cmpM 1 .In (some (.str (mkS w))) (some (D.tup [.str "sum", .str "less", .str "times"])) = some (decide (manyT w = 2)) := by
        rw [show (D.tup [.str "sum", .str "less", .str "times"]) = .tup ((["sum", "less", "times"] : List Str).map D.str) from rfl, in_words]
        refine congrArg some (decide_eq_decide.mpr ?_)
        unfold manyT
        simp only [List.mem_cons, List.not_mem_nil, or_false, eq_iff, tl_mkS]
        constructor
        · intro h; rw [if_pos h]
        · intro h
          by_cases h' : (w = tl ("sum" : Str) ∨ w = tl ("less" : Str) ∨ w = tl ("times" : Str))
          · exact h'
          · rw [if_neg h'] at h; cases h
      rw [e2]
      show bindO (iteO (some (decide (manyT w = 2))) (intM 2) (intM 1)) _ = _
      have e3 : iteO (some (decide (manyT w = 2))) (intM 2) (intM 1) = some (.int (manyT w : Nat)) := by
        have : manyT w = 2 ∨ manyT w = 1 := by
          unfold manyT
          split
          · exact .inl rfl
          · exact .inr rfl
        rcases this with h | h <;> rw [h] <;> rfl
      rw [e3, bindO_s]
      have e4 : cmpM 1 .Eq (some (.int (os.length : Nat))) (some (.int (manyT w : Nat))) = some (decide (os.length = manyT w)) := by
        show some (decide ((os.length : Int) = (manyT w : Int))) = _
        exact congrArg some (decide_eq_decide.mpr (by omega))
      rw [e4]
      by_cases h3 : os.length = manyT w
      · rw [decide_eq_true h3]
        have e5 : bind2 (lstM (argC (some (D.str (mkS w))) arg0)) (some (.lst (os.map optN))) (binD .Add) = some (.lst (.str (mkS w) :: os.map optN)) := by
          show (if [D.str (mkS w)].length + (os.map optN).length ≤ sL then _ else none) = _
          rw [if_pos]
          · rfl
          · rw [List.length_map, h3]
            unfold manyT sL
            split <;> simp
        rw [e5]
        rfl
      · rw [decide_eq_false h3]
        rfl
end Ag
set_option Elab.async false
set_option linter.all false
set_option autoImplicit false
set_option maxRecDepth 100000
set_option maxHeartbeats 1000000
namespace Ag
open PySem PySem.Spec L2 TL
def fl8 : FtL := ("numbers_told", g_numbers_told) :: ("_law_numbers", g__law_numbers) :: ("step_of_two", g_step_of_two) :: fl7
def N_row_told : List Str := ["columns", "ahead", "line", "parts"]
def m_row_told (v_columns v_ahead v_line : D) : Option D :=
  bindO (bind2 (some v_line) (strM " ") splitD) fun v_parts =>
  (bindO (iteO (andO (cmpM 1 .Eq (ixM (some v_parts) (intM 0)) (strM "row")) (cmpM 1 .Lt (some v_ahead) (intM 40))) (((argC (some v_columns) (argC (slM (some v_parts) (bindO (intM 1) intP) (some none)) arg0))).bind g_numbers_told) (some D.non)) some)
theorem mq_row_told (v_columns v_ahead v_line : D) : semK ⟨1, N_row_told, ftOf fl8, gcB⟩ 40 40 s_row_told 3 [v_columns, v_ahead, v_line] = m_row_told v_columns v_ahead v_line := by kernel_rfl
def N__law_row_of : List Str := ["_law_columns", "_law_parts"]
def m__law_row_of (v_columns v_parts : D) : Option D :=
  bindO (iteO (andO (cmpM 1 .Eq (ixM (some v_parts) (intM 0)) (strM "row")) (cmpM 1 .Eq (((argC (some v_parts) arg0)).bind gLen) (bind2 (intM 1) (some v_columns) (binD .Add)))) (((argC (slM (some v_parts) (bindO (intM 1) intP) (some none)) arg0)).bind g__law_numbers) (some D.non)) some
theorem mq__law_row_of (v_columns v_parts : D) : semK ⟨1, N__law_row_of, ftOf fl8, gcB⟩ 40 40 s__law_row_of 2 [v_columns, v_parts] = m__law_row_of v_columns v_parts := by kernel_rfl
def N_step_told : List Str := ["columns", "ahead", "line", "parts", "word", "number", "places", "part"]
def m_step_told (v_columns v_ahead v_line : D) : Option D :=
  bindO (bind2 (some v_line) (strM " ") splitD) fun v_parts =>
  (bindO (ixM (some v_parts) (intM 0)) fun v_word =>
  (iteO (cmpM 1 .GtE (some v_ahead) (intM 200))
    (bindO (some D.non) some)
    (iteO (cmpM 1 .Eq (some v_word) (strM "told"))
      (bindO (iteO (cmpM 1 .Eq (((argC (some v_parts) arg0)).bind gLen) (intM 2)) (((argC (ixM (some v_parts) (intM 1)) arg0)).bind g_number_told) (some D.non)) fun v_number =>
      (bindO (iteO (cmpM 1 .Is (some v_number) (some D.non)) (some D.non) (tupM (argC (strM "told") (argC (some v_number) arg0)))) some))
      (bindO (lcM (fun v_part => (((argC (some v_part) arg0)).bind g_count_told)) (inM (slM (some v_parts) (bindO (intM 1) intP) (some none)))) fun v_places =>
      (iteO (cmpM 1 .Eq (some v_word) (strM "column"))
        (bindO (((argC (some v_word) (argC (some v_places) (argC (some v_columns) arg0)))).bind g_step_of_two) some)
        (bindO (iteO (orO (cmpM 1 .In (some v_word) (some (D.tup [.str "ahead", .str "behind"]))) (cmpM 1 .In (some v_word) (some (D.tup [.str "sum", .str "less", .str "times"])))) (((argC (some v_word) (argC (some v_places) (argC (some v_ahead) arg0)))).bind g_step_of_two) (some D.non)) some))))))
theorem mq_step_told (v_columns v_ahead v_line : D) : semK ⟨1, N_step_told, ftOf fl8, gcB⟩ 40 40 s_step_told 3 [v_columns, v_ahead, v_line] = m_step_told v_columns v_ahead v_line := by kernel_rfl
def N__law_step_of : List Str := ["_law_columns", "_law_at", "_law_parts", "_law_word_here", "_law_told_here", "_law_part", "_law_number_here", "_law_many", "_law_most", "_law_place"]
def m__law_step_of (v_columns v_at v_parts : D) : Option D :=
  bind2 (ixM (some v_parts) (intM 0)) (lcM (fun v_part => (((argC (some v_part) arg0)).bind g__law_count)) (inM (slM (some v_parts) (bindO (intM 1) intP) (some none)))) fun v_word_here v_told_here =>
  (iteO (cmpM 1 .Eq (some v_word_here) (strM "told"))
    (bindO (iteO (cmpM 1 .Eq (((argC (some v_parts) arg0)).bind gLen) (intM 2)) (((argC (ixM (some v_parts) (intM 1)) arg0)).bind g__law_number) (some D.non)) fun v_number_here =>
    (bindO (iteO (cmpM 1 .Is (some v_number_here) (some D.non)) (some D.non) (tupM (argC (some v_word_here) (argC (some v_number_here) arg0)))) some))
    (bindO (bind2 (some v_word_here) (intM 0) (lookD2 [("column", 1), ("ahead", 1), ("behind", 1), ("sum", 2), ("less", 2), ("times", 2)])) fun v_many =>
    (bindO (iteO (cmpM 1 .Eq (some v_word_here) (strM "column")) (some v_columns) (some v_at)) fun v_most =>
    (iteO (orO (cmpM 1 .Eq (some v_many) (intM 0)) (orO (cmpM 1 .NotEq (((argC (some v_told_here) arg0)).bind gLen) (some v_many)) (truM (((argC (lcM (fun v_place => (bindO ((cmpM 1 .Is (some v_place) (some D.non)).map D.bl) (orV1 ((cmpM 1 .GtE (some v_place) (some v_most)).map D.bl)))) (inM (some v_told_here))) arg0)).bind gAny))))
      (bindO (some D.non) some)
      (bindO (bind2 (tupM (argC (some v_word_here) arg0)) (((argC (some v_told_here) arg0)).bind gTuple) (binD .Add)) some)))))
theorem mq__law_step_of (v_columns v_at v_parts : D) : semK ⟨1, N__law_step_of, ftOf fl8, gcB⟩ 40 40 s__law_step_of 3 [v_columns, v_at, v_parts] = m__law_step_of v_columns v_at v_parts := by kernel_rfl
def N_word_part_told : List Str := ["columns", "ahead", "line", "parts", "number", "word"]
def m_word_part_told (v_columns v_ahead v_line : D) : Option D :=
  bindO (bind2 (some v_line) (strM " ") splitD) fun v_parts =>
  (iteO (orO (cmpM 1 .NotEq (((argC (some v_parts) arg0)).bind gLen) (intM 2)) (cmpM 1 .GtE (some v_ahead) (intM 400)))
    (bindO (some D.non) some)
    (bind2 (((argC (ixM (some v_parts) (intM 0)) arg0)).bind g_number_told) (((argC (some v_columns) (argC (ixM (some v_parts) (intM 1)) arg0))).bind g_word_told) fun v_number v_word =>
    (bindO (iteO (orO (cmpM 1 .Is (some v_number) (some D.non)) (cmpM 1 .Is (some v_word) (some D.non))) (some D.non) (tupM (argC (some v_word) (argC (some v_number) arg0)))) some)))
theorem mq_word_part_told (v_columns v_ahead v_line : D) : semK ⟨1, N_word_part_told, ftOf fl8, gcB⟩ 40 40 s_word_part_told 3 [v_columns, v_ahead, v_line] = m_word_part_told v_columns v_ahead v_line := by kernel_rfl
def N__law_part_of : List Str := ["_law_columns", "_law_parts", "_law_number_here", "_law_word_here"]
def m__law_part_of (v_columns v_parts : D) : Option D :=
  bindO (iteO (cmpM 1 .Eq (((argC (some v_parts) arg0)).bind gLen) (intM 2)) (((argC (ixM (some v_parts) (intM 0)) arg0)).bind g__law_number) (some D.non)) fun v_number_here =>
  (bindO (iteO (cmpM 1 .Eq (((argC (some v_parts) arg0)).bind gLen) (intM 2)) (((argC (some v_columns) (argC (ixM (some v_parts) (intM 1)) arg0))).bind g__law_word_of) (some D.non)) fun v_word_here =>
  (bindO (iteO (orO (cmpM 1 .Is (some v_number_here) (some D.non)) (cmpM 1 .Is (some v_word_here) (some D.non))) (some D.non) (tupM (argC (some v_word_here) (argC (some v_number_here) arg0)))) some))
theorem mq__law_part_of (v_columns v_parts : D) : semK ⟨1, N__law_part_of, ftOf fl8, gcB⟩ 40 40 s__law_part_of 2 [v_columns, v_parts] = m__law_part_of v_columns v_parts := by kernel_rfl
def N_term_part_told : List Str := ["columns", "ahead", "line", "parts", "number", "left", "own", "right"]
def m_term_part_told (v_columns v_ahead v_line : D) : Option D :=
  bindO (bind2 (some v_line) (strM " ") splitD) fun v_parts =>
  (iteO (orO (cmpM 1 .NotEq (((argC (some v_parts) arg0)).bind gLen) (intM 6)) (orO (cmpM 1 .NotEq (tupM (argC (ixM (some v_parts) (intM 2)) (argC (ixM (some v_parts) (intM 4)) arg0))) (tupM (argC (strM "<") (argC (strM ">") arg0)))) (cmpM 1 .GtE (some v_ahead) (intM 400))))
    (bindO (some D.non) some)
    (bind2 (((argC (ixM (some v_parts) (intM 0)) arg0)).bind g_number_told) (((argC (some v_columns) (argC (ixM (some v_parts) (intM 1)) arg0))).bind g_word_told) fun v_number v_left =>
    (bind2 (((argC (some v_columns) (argC (ixM (some v_parts) (intM 3)) arg0))).bind g_letter_told) (((argC (some v_columns) (argC (ixM (some v_parts) (intM 5)) arg0))).bind g_word_told) fun v_own v_right =>
    (iteO (orO (cmpM 1 .Is (some v_number) (some D.non)) (orO (cmpM 1 .Is (some v_left) (some D.non)) (orO (cmpM 1 .Is (some v_own) (some D.non)) (orO (cmpM 1 .Is (some v_right) (some D.non)) (cmpM 1 .Gt (bind2 (bind2 (((argC (some v_left) arg0)).bind gLen) (intM 1) (binD .Add)) (((argC (some v_right) arg0)).bind gLen) (binD .Add)) (intM 8))))))
      (bindO (some D.non) some)
      (bindO (tupM (argC (tupM (argC (some v_left) (argC (some v_own) (argC (some v_right) arg0)))) (argC (some v_number) arg0))) some)))))
theorem mq_term_part_told (v_columns v_ahead v_line : D) : semK ⟨1, N_term_part_told, ftOf fl8, gcB⟩ 40 40 s_term_part_told 3 [v_columns, v_ahead, v_line] = m_term_part_told v_columns v_ahead v_line := by kernel_rfl
def N__law_term_of : List Str := ["_law_columns", "_law_parts", "_law_term_here", "_law_number_here"]
def m__law_term_of (v_columns v_parts : D) : Option D :=
  iteO (orO (cmpM 1 .NotEq (((argC (some v_parts) arg0)).bind gLen) (intM 6)) (orO (cmpM 1 .NotEq (ixM (some v_parts) (intM 2)) (strM "<")) (cmpM 1 .NotEq (ixM (some v_parts) (intM 4)) (strM ">"))))
    (bindO (some D.non) some)
    (bindO (tupM (argC (((argC (some v_columns) (argC (ixM (some v_parts) (intM 1)) arg0))).bind g__law_word_of) (argC (((argC (some v_columns) (argC (ixM (some v_parts) (intM 3)) arg0))).bind g__law_letter_of) (argC (((argC (some v_columns) (argC (ixM (some v_parts) (intM 5)) arg0))).bind g__law_word_of) arg0)))) fun v_term_here =>
    (bindO (((argC (ixM (some v_parts) (intM 0)) arg0)).bind g__law_number) fun v_number_here =>
    (iteO (orO (cmpM 1 .Is (some v_number_here) (some D.non)) (orO (cmpM 1 .In (some D.non) (some v_term_here)) (cmpM 1 .Gt (bind2 (((argC (ixM (some v_term_here) (intM 0)) arg0)).bind gLen) (((argC (ixM (some v_term_here) (intM 2)) arg0)).bind gLen) (binD .Add)) (intM 7))))
      (bindO (some D.non) some)
      (bindO (tupM (argC (some v_term_here) (argC (some v_number_here) arg0))) some))))
theorem mq__law_term_of (v_columns v_parts : D) : semK ⟨1, N__law_term_of, ftOf fl8, gcB⟩ 40 40 s__law_term_of 2 [v_columns, v_parts] = m__law_term_of v_columns v_parts := by kernel_rfl
def N_lot_told : List Str := ["columns", "ahead", "line", "parts", "many", "row"]
def m_lot_told (v_columns v_ahead v_line : D) : Option D :=
  bindO (bind2 (some v_line) (strM " ") splitD) fun v_parts =>
  (iteO (orO (cmpM 1 .Lt (((argC (some v_parts) arg0)).bind gLen) (intM 2)) (orO (cmpM 1 .NotEq (ixM (some v_parts) (intM 1)) (strM "times")) (cmpM 1 .GtE (some v_ahead) (intM 12))))
    (bindO (some D.non) some)
    (bind2 (((argC (ixM (some v_parts) (intM 0)) arg0)).bind g_count_told) (((argC (some v_columns) (argC (slM (some v_parts) (bindO (intM 2) intP) (some none)) arg0))).bind g_numbers_told) fun v_many v_row =>
    (bindO (iteO (orO (cmpM 1 .Is (some v_many) (some D.non)) (orO (cmpM 1 .Gt (some v_many) (intM (10 ^ 30))) (cmpM 1 .Is (some v_row) (some D.non)))) (some D.non) (tupM (argC (some v_row) (argC (some v_many) arg0)))) some)))
theorem mq_lot_told (v_columns v_ahead v_line : D) : semK ⟨1, N_lot_told, ftOf fl8, gcB⟩ 40 40 s_lot_told 3 [v_columns, v_ahead, v_line] = m_lot_told v_columns v_ahead v_line := by kernel_rfl
def N__law_lot_of : List Str := ["_law_columns", "_law_parts", "_law_many", "_law_row"]
def m__law_lot_of (v_columns v_parts : D) : Option D :=
  bind2 (((argC (ixM (some v_parts) (intM 0)) arg0)).bind g__law_count) (((argC (slM (some v_parts) (bindO (intM 2) intP) (some none)) arg0)).bind g__law_numbers) fun v_many v_row =>
  (iteO (orO (cmpM 1 .Is (some v_many) (some D.non)) (orO (cmpM 1 .Gt (some v_many) (bind2 (intM 10) (intM 30) (binD .Pow))) (orO (cmpM 1 .NotEq (slM (some v_parts) (bindO (intM 1) intP) (bindO (intM 2) intP)) (lstM (argC (strM "times") arg0))) (orO (cmpM 1 .Is (some v_row) (some D.non)) (cmpM 1 .NotEq (((argC (some v_row) arg0)).bind gLen) (some v_columns))))))
    (bindO (some D.non) some)
    (bindO (tupM (argC (some v_row) (argC (some v_many) arg0))) some))
theorem mq__law_lot_of (v_columns v_parts : D) : semK ⟨1, N__law_lot_of, ftOf fl8, gcB⟩ 40 40 s__law_lot_of 2 [v_columns, v_parts] = m__law_lot_of v_columns v_parts := by kernel_rfl
def N_head_told : List Str := ["sort", "line", "columns"]
def m_head_told (v_sort v_line : D) : Option D :=
  iteO (cmpM 1 .Eq (some v_line) (((fmtM (some v_sort) (litM " " (fmtM (intM 0) some))) Str.empty).map D.str))
    (bindO (intM 0) some)
    (iteO (cmpM 1 .Eq (some v_line) (((fmtM (some v_sort) (litM " " (fmtM (intM 1) some))) Str.empty).map D.str))
    (bindO (intM 1) some)
    (iteO (cmpM 1 .Eq (some v_line) (((fmtM (some v_sort) (litM " " (fmtM (intM 2) some))) Str.empty).map D.str))
    (bindO (intM 2) some)
    (iteO (cmpM 1 .Eq (some v_line) (((fmtM (some v_sort) (litM " " (fmtM (intM 3) some))) Str.empty).map D.str))
    (bindO (intM 3) some)
    (bindO (some D.non) some))))
theorem mq_head_told (v_sort v_line : D) : semK ⟨1, N_head_told, ftOf fl8, gcB⟩ 40 40 s_head_told 2 [v_sort, v_line] = m_head_told v_sort v_line := by kernel_rfl
theorem sl32 : (" " : Str) = mkS [32] := by decide +kernel
theorem split32 (l : List Nat) : bind2 (some (.str (mkS l))) (strM " ") splitD = some (.lst (strL (splitL 32 l))) := split_s 32 l (by decide) _ sl32
theorem strL_len (ps : List (List Nat)) : (strL ps).length = ps.length := by unfold strL; rw [List.length_map]
theorem strL_ix {ps : List (List Nat)} {i : Nat} {p : List Nat} (h : ps[i]? = some p) : ixM (some (.lst (strL ps))) (intM (i : Nat)) = some (.str (mkS p)) := ix_lst (by unfold strL; rw [List.getElem?_map, h]; rfl)
theorem sl_dropL (ds : List D) (k : Nat) : slM (some (.lst ds)) (bindO (intM (k : Nat)) intP) (some none) = some (.lst (ds.drop k)) := by
  show some (D.lst (cutL ds (some ((k : Nat) : Int)) none)) = _
  unfold cutL
  rw [HT.sIx_none, HT.sIx_nat, List.take_of_length_le (by rw [List.length_drop]; exact Nat.le_refl _)]
  by_cases h : k ≤ ds.length
  · rw [Nat.min_eq_left h]
  · rw [Nat.min_eq_right (by omega), List.drop_of_length_le (Nat.le_refl _), List.drop_of_length_le (by omega)]
theorem strL_drop (ps : List (List Nat)) (k : Nat) : slM (some (.lst (strL ps))) (bindO (intM (k : Nat)) intP) (some none) = some (.lst (strL (ps.drop k))) := by
  rw [sl_dropL]
  unfold strL
  rw [List.map_drop]
/-! ### rows -/
def rowT (c : Int) : List (List Nat) → Option (List (Int × Nat))
  | w :: r => if w = tl ("row" : Str) then numsT c r else none
  | [] => none
theorem row_plain (c a : Int) (l : List Nat) : m_row_told (.int c) (.int a) (.str (mkS l)) = some (optRow (if a < 40 then rowT c (splitL 32 l) else none)) := by
  unfold m_row_told
  rw [split32, bindO_s]
  match splitL 32 l, splitL_ne 32 l with
  | w :: r, _ =>
    have e1 : ixM (some (.lst (strL (w :: r)))) (intM 0) = some (.str (mkS w)) := strL_ix (i := 0) rfl
    have e2 : slM (some (.lst (strL (w :: r)))) (bindO (intM 1) intP) (some none) = some (.lst (strL r)) := strL_drop (w :: r) 1
    have e3 : cmpM 1 .Eq (some (.str (mkS w))) (strM "row") = some (decide (w = tl ("row" : Str))) := eqS 1 w "row"
    have e4 : cmpM 1 .Lt (some (.int a)) (intM 40) = some (decide (a < 40)) := rfl
    rw [e1, e2, e3, e4, andO_s]
    rw [show rowT c (w :: r) = (if w = tl ("row" : Str) then numsT c r else none) from rfl]
    by_cases h1 : w = tl ("row" : Str)
    · by_cases h2 : a < 40
      · rw [decide_eq_true h1, decide_eq_true h2, if_pos h1, if_pos h2]
        show bindO (g_numbers_told [.int c, .lst (strL r)]) some = _
        rw [g_numbers_s]
        rfl
      · rw [decide_eq_true h1, decide_eq_false h2, if_neg h2]
        rfl
    · rw [decide_eq_false h1, if_neg h1]
      by_cases h2 : a < 40
      · rw [if_pos h2]; rfl
      · rw [if_neg h2]; rfl
theorem law_row_plain (c : Int) (ps : List (List Nat)) (hne : ps ≠ []) : m__law_row_of (.int c) (.lst (strL ps)) = some (optRow (rowT c ps)) := by
  unfold m__law_row_of
  match ps, hne with
  | w :: r, _ =>
    have e1 : ixM (some (.lst (strL (w :: r)))) (intM 0) = some (.str (mkS w)) := strL_ix (i := 0) rfl
    have e2 : slM (some (.lst (strL (w :: r)))) (bindO (intM 1) intP) (some none) = some (.lst (strL r)) := strL_drop (w :: r) 1
    have e3 : cmpM 1 .Eq (some (.str (mkS w))) (strM "row") = some (decide (w = tl ("row" : Str))) := eqS 1 w "row"
    have e4 : cmpM 1 .Eq ((argC (some (.lst (strL (w :: r)))) arg0).bind gLen) (bind2 (intM 1) (some (.int c)) (binD .Add)) = some (decide ((r.length : Int) = c)) := by
      rw [gLen_lst, strL_len]
      show some (decide (((w :: r).length : Int) = 1 + c)) = _
      refine congrArg some (decide_eq_decide.mpr ?_)
      rw [List.length_cons]
      omega
    rw [e1, e2, e3, e4, andO_s]
    rw [show rowT c (w :: r) = (if w = tl ("row" : Str) then numsT c r else none) from rfl]
    unfold numsT
    by_cases h1 : w = tl ("row" : Str)
    · by_cases h2 : (r.length : Int) = c
      · rw [decide_eq_true h1, decide_eq_true h2, if_pos h1, if_pos h2]
        show bindO (g__law_numbers [.lst (strL r)]) some = _
        rw [g_law_numbers_s]
        rfl
      · rw [decide_eq_true h1, decide_eq_false h2, if_pos h1, if_neg h2]
        rfl
    · rw [decide_eq_false h1, if_neg h1]
      rfl
/-! ### parts of tallies -/
def partT (c : Int) : List (List Nat) → Option D
  | [a, b] => match numT a, wordT c b with
    | some n, some w => some (.tup [wordD w, ratD n.1 n.2])
    | _, _ => none
  | _ => none
theorem isR (dp : Nat) (o : Option (Int × Nat)) : cmpM dp .Is (some (optR o)) (some .non) = some o.isNone := by cases o <;> rfl
theorem isW (dp : Nat) (o : Option (List (List Nat))) : cmpM dp .Is (some (optW o)) (some .non) = some o.isNone := by cases o <;> rfl
theorem isL (dp : Nat) (o : Option (List Nat)) : cmpM dp .Is (some (optL o)) (some .non) = some o.isNone := by cases o <;> rfl
theorem isRow (dp : Nat) (o : Option (List (Int × Nat))) : cmpM dp .Is (some (optRow o)) (some .non) = some o.isNone := by cases o <;> rfl
theorem g_word_s (c : Int) {b : List Nat} (h : b.length < sL) : (argC (some (.int c)) (argC (some (.str (mkS b))) arg0)).bind g_word_told = some (optW (wordT c b)) := by
  show (if (mkS b).length < sL then some (optW (wordT c (tl (mkS b)))) else none) = _
  rw [len_mkS, if_pos h]
  rfl
theorem part_end (n : Option (Int × Nat)) (w : Option (List (List Nat))) : bindO (iteO (orO (cmpM 1 .Is (some (optR n)) (some D.non)) (cmpM 1 .Is (some (optW w)) (some D.non))) (some D.non) (tupM (argC (some (optW w)) (argC (some (optR n)) arg0)))) some = some (optD (match n, w with
    | some n, some w => some (.tup [wordD w, ratD n.1 n.2])
    | _, _ => none)) := by
  rw [isR, isW]
  cases n <;> cases w <;> rfl
theorem len_ne (ps : List (List Nat)) (k : Nat) : cmpM 1 .NotEq ((argC (some (.lst (strL ps))) arg0).bind gLen) (intM (k : Nat)) = some (!decide (ps.length = k)) := by
  rw [gLen_lst, strL_len]
  show some (!decide ((ps.length : Int) = (k : Int))) = _
  rw [show decide ((ps.length : Int) = (k : Int)) = decide (ps.length = k) from decide_eq_decide.mpr (by omega)]
theorem len_eq (ps : List (List Nat)) (k : Nat) : cmpM 1 .Eq ((argC (some (.lst (strL ps))) arg0).bind gLen) (intM (k : Nat)) = some (decide (ps.length = k)) := by
  rw [gLen_lst, strL_len]
  show some (decide ((ps.length : Int) = (k : Int))) = _
  rw [show decide ((ps.length : Int) = (k : Int)) = decide (ps.length = k) from decide_eq_decide.mpr (by omega)]
theorem partT_ne (c : Int) {ps : List (List Nat)} (h : ps.length ≠ 2) : partT c ps = none := by
  unfold partT
  split
  · exact absurd rfl h
  · rfl
theorem geI (a k : Int) : cmpM 1 .GtE (some (.int a)) (intM k) = some (!decide (a < k)) := by
  show some (decide (k ≤ a)) = _
  by_cases h : a < k
  · rw [decide_eq_true h, decide_eq_false (by omega)]; rfl
  · rw [decide_eq_false h, decide_eq_true (by omega)]; rfl
theorem part_plain (c a : Int) (l : List Nat) (hl : l.length < sL) : m_word_part_told (.int c) (.int a) (.str (mkS l)) = some (optD (if a < 400 then partT c (splitL 32 l) else none)) := by
  unfold m_word_part_told
  have hm : ∀ p ∈ splitL 32 l, p.length < sL := fun p hp => Nat.lt_of_le_of_lt (splitL_mem hp).1 hl
  rw [split32, bindO_s, show intM (2 : Int) = intM ((2 : Nat) : Int) from rfl, len_ne, geI, orO_s]
  generalize splitL 32 l = ps at hm
  by_cases h2 : a < 400
  · rw [decide_eq_true h2, if_pos h2]
    by_cases h1 : ps.length = 2
    · match ps, h1, hm with
      | [x, y], _, hm =>
        have e1 : ixM (some (.lst (strL [x, y]))) (intM 0) = some (.str (mkS x)) := strL_ix (i := 0) rfl
        have e2 : ixM (some (.lst (strL [x, y]))) (intM 1) = some (.str (mkS y)) := strL_ix (i := 1) rfl
        rw [e1, e2, g_word_s c (hm y (by simp))]
        exact part_end (numT x) (wordT c y)
    · rw [decide_eq_false h1, partT_ne c h1]
      rfl
  · rw [decide_eq_false h2, if_neg h2]
    cases decide (ps.length = 2) <;> rfl
theorem law_part_plain (c : Int) (ps : List (List Nat)) (hm : ∀ p ∈ ps, p.length < sL) : m__law_part_of (.int c) (.lst (strL ps)) = some (optD (partT c ps)) := by
  unfold m__law_part_of
  rw [show intM (2 : Int) = intM ((2 : Nat) : Int) from rfl, len_eq]
  by_cases h1 : ps.length = 2
  · match ps, h1, hm with
    | [x, y], _, hm =>
      have e1 : ixM (some (.lst (strL [x, y]))) (intM 0) = some (.str (mkS x)) := strL_ix (i := 0) rfl
      have e2 : ixM (some (.lst (strL [x, y]))) (intM 1) = some (.str (mkS y)) := strL_ix (i := 1) rfl
      have e3 : (argC (some (.int c)) (argC (some (.str (mkS y))) arg0)).bind g__law_word_of = some (optW (wordT c y)) := g_word_s c (hm y (by simp))
      rw [e1, e2, e3]
      exact part_end (numT x) (wordT c y)
  · rw [decide_eq_false h1, partT_ne c h1]
    rfl
/-! ### steps -/
def toldT : List (List Nat) → Option D
  | [x] => (numT x).map fun z => .tup [.str "told", ratD z.1 z.2]
  | _ => none
def stepT (c a : Int) : List (List Nat) → Option D
  | [] => none
  | w :: r => if w = tl ("told" : Str) then toldT r
    else if w = tl ("column" : Str) then placesT w c (r.map cnt)
    else if w = tl ("ahead" : Str) ∨ w = tl ("behind" : Str) ∨ w = tl ("sum" : Str) ∨ w = tl ("less" : Str) ∨ w = tl ("times" : Str) then placesT w a (r.map cnt) else none
theorem lc_cnt (ps : List (List Nat)) : lcM (fun v_part => (((argC (some v_part) arg0)).bind g_count_told)) (inM (some (.lst (strL ps)))) = some (.lst ((ps.map cnt).map optN)) := by
  rw [inM_lst]
  unfold strL
  rw [lcM_map (i := fun p => D.str (mkS p)) (f := fun p => optN (cnt p)) fun a _ => rfl, List.map_map]
  rfl
theorem g_step_s (w : List Nat) (m : Int) (os : List (Option Nat)) : (argC (some (.str (mkS w))) (argC (some (.lst (os.map optN))) (argC (some (.int m)) arg0))).bind g_step_of_two = some (optD (placesT w m os)) := by
  show (unNs (os.map optN)).map _ = _
  rw [unNs_map]
  rfl
theorem told_eq {w : List Nat} (h : w = tl ("told" : Str)) : mkS w = "told" := by rw [h, mkS_tl]
theorem told_end (n : Option (Int × Nat)) (s : Str) : bindO (iteO (cmpM 1 .Is (some (optR n)) (some D.non)) (some D.non) (tupM (argC (some (.str s)) (argC (some (optR n)) arg0)))) some = some (optD (n.map fun z => .tup [.str s, ratD z.1 z.2])) := by
  rw [isR]
  cases n <;> rfl
theorem step_plain (c a : Int) (l : List Nat) : m_step_told (.int c) (.int a) (.str (mkS l)) = some (optD (if a < 200 then stepT c a (splitL 32 l) else none)) := by
  unfold m_step_told
  rw [split32, bindO_s]
  match splitL 32 l, splitL_ne 32 l with
  | w :: r, _ =>
    have e1 : ixM (some (.lst (strL (w :: r)))) (intM 0) = some (.str (mkS w)) := strL_ix (i := 0) rfl
    have e2 : slM (some (.lst (strL (w :: r)))) (bindO (intM 1) intP) (some none) = some (.lst (strL r)) := strL_drop (w :: r) 1
    have e3 : cmpM 1 .Eq (some (.str (mkS w))) (strM "told") = some (decide (w = tl ("told" : Str))) := eqS 1 w "told"
    have e4 : cmpM 1 .Eq (some (.str (mkS w))) (strM "column") = some (decide (w = tl ("column" : Str))) := eqS 1 w "column"
    rw [e1, bindO_s, geI]
    by_cases h2 : a < 200
    · rw [decide_eq_true h2, if_pos h2, e3]
      show iteO (some (decide (w = tl ("told" : Str)))) _ _ = _
      by_cases h1 : w = tl ("told" : Str)
      · rw [decide_eq_true h1, iteO_t, show intM (2 : Int) = intM ((2 : Nat) : Int) from rfl, len_eq]
        have es : stepT c a (w :: r) = toldT r := if_pos h1
        rw [es]
        match r with
        | [] => rfl
        | [x] =>
          have e5 : ixM (some (.lst (strL [w, x]))) (intM 1) = some (.str (mkS x)) := strL_ix (i := 1) rfl
          rw [e5]
          exact told_end (numT x) "told"
        | x :: y :: t =>
          have : decide ((w :: x :: y :: t).length = 2) = false := decide_eq_false (by simp only [List.length_cons]; omega)
          rw [this]
          rfl
      · rw [decide_eq_false h1, iteO_f, e2, lc_cnt, bindO_s, e4]
        by_cases h3 : w = tl ("column" : Str)
        · have es : stepT c a (w :: r) = placesT w c (r.map cnt) := by
            show (if w = tl ("told" : Str) then _ else if w = tl ("column" : Str) then _ else _) = _
            rw [if_neg h1, if_pos h3]
          rw [decide_eq_true h3, iteO_t, g_step_s, es]
          rfl
        · rw [decide_eq_false h3, iteO_f]
          have e5 : cmpM 1 .In (some (.str (mkS w))) (some (D.tup [.str "ahead", .str "behind"])) = some (decide (w = tl ("ahead" : Str) ∨ w = tl ("behind" : Str))) := by
            rw [show (D.tup [.str "ahead", .str "behind"]) = .tup ((["ahead", "behind"] : List Str).map D.str) from rfl, in_words]
            refine congrArg some (decide_eq_decide.mpr ?_)
            simp only [List.mem_cons, List.not_mem_nil, or_false, eq_iff, tl_mkS]
          have e6 : cmpM 1 .In (some (.str (mkS w))) (some (D.tup [.str "sum", .str "less", .str "times"])) = some (decide (w = tl ("sum" : Str) ∨ w = tl ("less" : Str) ∨ w = tl ("times" : Str))) := by
            rw [show (D.tup [.str "sum", .str "less", .str "times"]) = .tup ((["sum", "less", "times"] : List Str).map D.str) from rfl, in_words]
            refine congrArg some (decide_eq_decide.mpr ?_)
            simp only [List.mem_cons, List.not_mem_nil, or_false, eq_iff, tl_mkS]
          rw [e5, e6, orO_s, ← Bool.decide_or]
          have es : stepT c a (w :: r) = if w = tl ("ahead" : Str) ∨ w = tl ("behind" : Str) ∨ w = tl ("sum" : Str) ∨ w = tl ("less" : Str) ∨ w = tl ("times" : Str) then placesT w a (r.map cnt) else none := by
            show (if w = tl ("told" : Str) then _ else if w = tl ("column" : Str) then _ else _) = _
            rw [if_neg h1, if_neg h3]
          rw [es]
          by_cases h4 : w = tl ("ahead" : Str) ∨ w = tl ("behind" : Str) ∨ w = tl ("sum" : Str) ∨ w = tl ("less" : Str) ∨ w = tl ("times" : Str)
          · rw [if_pos h4, decide_eq_true (by rcases h4 with h | h | h; exact .inl (.inl h); exact .inl (.inr h); exact .inr h), iteO_t, g_step_s]
            rfl
          · rw [if_neg h4, decide_eq_false (fun h => h4 (by rcases h with (h | h) | h; exact .inl h; exact .inr (.inl h); exact .inr (.inr h)))]
            rfl
    · rw [decide_eq_false h2, if_neg h2]
      rfl
theorem pad_ok (m : Int) (o : Option Nat) : bindO ((cmpM 1 .Is (some (optN o)) (some D.non)).map D.bl) (orV1 ((cmpM 1 .GtE (some (optN o)) (some (.int m))).map D.bl)) = some (.bl (!placeOk m o)) := by
  cases o with
  | none => rfl
  | some n =>
    show some (D.bl (decide (m ≤ (n : Int)))) = some (.bl (!decide ((n : Int) < m)))
    by_cases h : (n : Int) < m
    · rw [decide_eq_true h, decide_eq_false (by omega)]; rfl
    · rw [decide_eq_false h, decide_eq_true (by omega)]; rfl
theorem law_step_end (w : List Nat) (m : Int) (os : List (Option Nat)) (k : Nat) (hk : k = 1 ∨ k = 2) (hw : manyT w = k) : iteO (orO (cmpM 1 .Eq (some (.int (k : Nat))) (intM 0)) (orO (cmpM 1 .NotEq ((argC (some (.lst (os.map optN))) arg0).bind gLen) (some (.int (k : Nat)))) (truM ((argC (lcM (fun v_place => bindO ((cmpM 1 .Is (some v_place) (some D.non)).map D.bl) (orV1 ((cmpM 1 .GtE (some v_place) (some (.int m))).map D.bl))) (inM (some (.lst (os.map optN))))) arg0).bind gAny))))
      (bindO (some D.non) some)
      (bindO (bind2 (tupM (argC (some (.str (mkS w))) arg0)) ((argC (some (.lst (os.map optN))) arg0).bind gTuple) (binD .Add)) some) = some (optD (placesT w m os)) := by
  have e1 : cmpM 1 .Eq (some (.int (k : Nat))) (intM 0) = some false := by
    rcases hk with h | h <;> rw [h] <;> rfl
  have e2 : cmpM 1 .NotEq ((argC (some (.lst (os.map optN))) arg0).bind gLen) (some (.int (k : Nat))) = some (!decide (os.length = k)) := by
    rw [gLen_lst, List.length_map]
    show some (!decide ((os.length : Int) = (k : Int))) = _
    rw [show decide ((os.length : Int) = (k : Int)) = decide (os.length = k) from decide_eq_decide.mpr (by omega)]
  have e3 : (argC (lcM (fun v_place => bindO ((cmpM 1 .Is (some v_place) (some D.non)).map D.bl) (orV1 ((cmpM 1 .GtE (some v_place) (some (.int m))).map D.bl))) (inM (some (.lst (os.map optN))))) arg0).bind gAny = some (.bl (!os.all (placeOk m))) := by
    rw [inM_lst, any_lc (i := optN) (b := fun o => !placeOk m o) fun o _ => pad_ok m o, List.not_all_eq_any_not]
  rw [e1, e2, e3, truM_bl, orO_s, orO_s]
  unfold placesT
  rw [hw]
  by_cases h1 : os.length = k
  · rw [decide_eq_true h1]
    cases h2 : os.all (placeOk m) with
    | false => rfl
    | true =>
      have e5 : bind2 (tupM (argC (some (D.str (mkS w))) arg0)) ((argC (some (.lst (os.map optN))) arg0).bind gTuple) (binD .Add) = some (.tup (.str (mkS w) :: os.map optN)) := by
        show (if [D.str (mkS w)].length + (os.map optN).length ≤ sL ∧ [D.str (mkS w)].isEmpty = false then _ else none) = _
        rw [if_pos]
        · rfl
        · rw [List.length_map, h1]
          rcases hk with h | h <;> rw [h] <;> exact ⟨by unfold sL; simp, rfl⟩
      rw [e5]
      rfl
  · rw [decide_eq_false h1, Bool.and_false]
    rfl
def dicS : List (Str × Int) := [("column", 1), ("ahead", 1), ("behind", 1), ("sum", 2), ("less", 2), ("times", 2)]
theorem dic_known {w : List Nat} (h : w = tl ("column" : Str) ∨ w = tl ("ahead" : Str) ∨ w = tl ("behind" : Str) ∨ w = tl ("sum" : Str) ∨ w = tl ("less" : Str) ∨ w = tl ("times" : Str)) : ∃ k : Nat, (k = 1 ∨ k = 2) ∧ manyT w = k ∧ lookC dicS (mkS w) = some (k : Int) := by
  rcases h with h | h | h | h | h | h
  · exact ⟨1, .inl rfl, by rw [h]; decide +kernel, by rw [h, mkS_tl]; decide +kernel⟩
  · exact ⟨1, .inl rfl, by rw [h]; decide +kernel, by rw [h, mkS_tl]; decide +kernel⟩
  · exact ⟨1, .inl rfl, by rw [h]; decide +kernel, by rw [h, mkS_tl]; decide +kernel⟩
  · exact ⟨2, .inr rfl, by rw [h]; decide +kernel, by rw [h, mkS_tl]; decide +kernel⟩
  · exact ⟨2, .inr rfl, by rw [h]; decide +kernel, by rw [h, mkS_tl]; decide +kernel⟩
  · exact ⟨2, .inr rfl, by rw [h]; decide +kernel, by rw [h, mkS_tl]; decide +kernel⟩
theorem look_none {l : List (Str × Int)} {s : Str} (h : ∀ z ∈ l, ¬ z.1 = s) : lookC l s = none := by
  induction l with
  | nil => rfl
  | cons z r ih =>
    obtain ⟨k, v⟩ := z
    show (match decide (k = s) with
      | true => some v
      | false => lookC r s) = none
    rw [decide_eq_false (h (k, v) List.mem_cons_self)]
    exact ih fun z hz => h z (List.mem_cons_of_mem _ hz)
theorem law_step_plain (c a : Int) (ps : List (List Nat)) (hne : ps ≠ []) : m__law_step_of (.int c) (.int a) (.lst (strL ps)) = some (optD (stepT c a ps)) := by
  unfold m__law_step_of
  match ps, hne with
  | w :: r, _ =>
    have e1 : ixM (some (.lst (strL (w :: r)))) (intM 0) = some (.str (mkS w)) := strL_ix (i := 0) rfl
    have e2 : slM (some (.lst (strL (w :: r)))) (bindO (intM 1) intP) (some none) = some (.lst (strL r)) := strL_drop (w :: r) 1
    have e3 : cmpM 1 .Eq (some (.str (mkS w))) (strM "told") = some (decide (w = tl ("told" : Str))) := eqS 1 w "told"
    have e4 : cmpM 1 .Eq (some (.str (mkS w))) (strM "column") = some (decide (w = tl ("column" : Str))) := eqS 1 w "column"
    rw [e1, e2, show lcM (fun v_part => (((argC (some v_part) arg0)).bind g__law_count)) (inM (some (.lst (strL r)))) = _ from lc_cnt r, bind2_s, e3]
    by_cases h1 : w = tl ("told" : Str)
    · rw [decide_eq_true h1, iteO_t, show intM (2 : Int) = intM ((2 : Nat) : Int) from rfl, len_eq, told_eq h1]
      have es : stepT c a (w :: r) = toldT r := if_pos h1
      rw [es]
      match r with
      | [] => rfl
      | [x] =>
        have e5 : ixM (some (.lst (strL [w, x]))) (intM 1) = some (.str (mkS x)) := strL_ix (i := 1) rfl
        rw [e5]
        exact told_end (numT x) "told"
      | x :: y :: t =>
        have : decide ((w :: x :: y :: t).length = 2) = false := decide_eq_false (by simp only [List.length_cons]; omega)
        rw [this]
        rfl
    · rw [decide_eq_false h1, iteO_f, e4]
      generalize hos : r.map cnt = os
      by_cases hk : w = tl ("column" : Str) ∨ w = tl ("ahead" : Str) ∨ w = tl ("behind" : Str) ∨ w = tl ("sum" : Str) ∨ w = tl ("less" : Str) ∨ w = tl ("times" : Str)
      · obtain ⟨k, hk1, hk2, hk3⟩ := dic_known hk
        have e5 : bind2 (some (D.str (mkS w))) (intM 0) (lookD2 dicS) = some (.int (k : Nat)) := by
          show some (D.int ((lookC dicS (mkS w)).getD 0)) = _
          rw [hk3]
          rfl
        rw [show bind2 (some (D.str (mkS w))) (intM 0) (lookD2 [("column", 1), ("ahead", 1), ("behind", 1), ("sum", 2), ("less", 2), ("times", 2)]) = _ from e5, bindO_s]
        by_cases h3 : w = tl ("column" : Str)
        · have es : stepT c a (w :: r) = placesT w c (r.map cnt) := by
            show (if w = tl ("told" : Str) then _ else if w = tl ("column" : Str) then _ else _) = _
            rw [if_neg h1, if_pos h3]
          rw [decide_eq_true h3, iteO_t, bindO_s, es, hos]
          exact law_step_end w c os k hk1 hk2
        · have h4 := hk.resolve_left h3
          have es : stepT c a (w :: r) = placesT w a (r.map cnt) := by
            show (if w = tl ("told" : Str) then _ else if w = tl ("column" : Str) then _ else if _ then _ else _) = _
            rw [if_neg h1, if_neg h3, if_pos h4]
          rw [decide_eq_false h3, iteO_f, bindO_s, es, hos]
          exact law_step_end w a os k hk1 hk2
      · have hn : lookC dicS (mkS w) = none := look_none fun z hz e => by
          have e' : w = tl z.1 := by rw [e]; exact (tl_mkS w).symm
          simp only [dicS, List.mem_cons, List.not_mem_nil, or_false] at hz
          rcases hz with rfl | rfl | rfl | rfl | rfl | rfl
          · exact hk (.inl e')
          · exact hk (.inr (.inl e'))
          · exact hk (.inr (.inr (.inl e')))
          · exact hk (.inr (.inr (.inr (.inl e'))))
          · exact hk (.inr (.inr (.inr (.inr (.inl e')))))
          · exact hk (.inr (.inr (.inr (.inr (.inr e')))))
        have e5 : bind2 (some (D.str (mkS w))) (intM 0) (lookD2 dicS) = some (.int 0) := by
          show some (D.int ((lookC dicS (mkS w)).getD 0)) = _
          rw [hn]
          rfl
        rw [show bind2 (some (D.str (mkS w))) (intM 0) (lookD2 [("column", 1), ("ahead", 1), ("behind", 1), ("sum", 2), ("less", 2), ("times", 2)]) = _ from e5, bindO_s]
        have es : stepT c a (w :: r) = none := by
          show (if w = tl ("told" : Str) then _ else if w = tl ("column" : Str) then _ else if _ then _ else _) = _
          rw [if_neg h1, if_neg fun h => hk (.inl h), if_neg fun h => hk (.inr h)]
        rw [es]
        cases decide (w = tl ("column" : Str)) <;> rfl
end Ag
set_option Elab.async false
set_option linter.all false
set_option autoImplicit false
set_option maxRecDepth 100000
set_option maxHeartbeats 1000000
namespace Ag
open PySem PySem.Spec L2 TL
/-! ### terms -/
def termOf (n : Option (Int × Nat)) (l : Option (List (List Nat))) (o : Option (List Nat)) (r : Option (List (List Nat))) : Option D := match n, l, o, r with
  | some n, some l, some o, some r => if l.length + r.length ≤ 7 then some (.tup [.tup [wordD l, letD o, wordD r], ratD n.1 n.2]) else none
  | _, _, _, _ => none
def termT (c : Int) : List (List Nat) → Option D
  | [a, b, x, d, y, f] => if x = tl ("<" : Str) ∧ y = tl (">" : Str) then termOf (numT a) (wordT c b) (letT c d) (wordT c f) else none
  | _ => none
theorem g_letter_s (c : Int) (b : List Nat) : (argC (some (.int c)) (argC (some (.str (mkS b))) arg0)).bind g_letter_told = some (optL (letT c b)) := rfl
theorem gLen_W (w : List (List Nat)) : (argC (some (wordD w)) arg0).bind gLen = some (.int (w.length : Nat)) := by
  show some (D.int ((w.map letD).length : Nat)) = _
  rw [List.length_map]
theorem term_end (n : Option (Int × Nat)) (l : Option (List (List Nat))) (o : Option (List Nat)) (r : Option (List (List Nat))) :
    (iteO (orO (cmpM 1 .Is (some (optR n)) (some D.non)) (orO (cmpM 1 .Is (some (optW l)) (some D.non)) (orO (cmpM 1 .Is (some (optL o)) (some D.non)) (orO (cmpM 1 .Is (some (optW r)) (some D.non)) (cmpM 1 .Gt (bind2 (bind2 ((argC (some (optW l)) arg0).bind gLen) (intM 1) (binD .Add)) ((argC (some (optW r)) arg0).bind gLen) (binD .Add)) (intM 8))))))
      (bindO (some D.non) some)
      (bindO (tupM (argC (tupM (argC (some (optW l)) (argC (some (optL o)) (argC (some (optW r)) arg0)))) (argC (some (optR n)) arg0))) some)) = some (optD (termOf n l o r)) := by
  rw [isR, isW, isL, isW]
  cases n with
  | none => rfl
  | some n => cases l with
    | none => rfl
    | some l => cases o with
      | none => rfl
      | some o => cases r with
        | none => rfl
        | some r =>
          have e1 : cmpM 1 .Gt (bind2 (bind2 ((argC (some (optW (some l))) arg0).bind gLen) (intM 1) (binD .Add)) ((argC (some (optW (some r))) arg0).bind gLen) (binD .Add)) (intM 8) = some (!decide (l.length + r.length ≤ 7)) := by
            show cmpM 1 .Gt (bind2 (bind2 ((argC (some (wordD l)) arg0).bind gLen) (intM 1) (binD .Add)) ((argC (some (wordD r)) arg0).bind gLen) (binD .Add)) (intM 8) = _
            rw [gLen_W, gLen_W]
            show some (decide ((8 : Int) < (l.length : Int) + 1 + (r.length : Int))) = _
            by_cases h : l.length + r.length ≤ 7
            · rw [decide_eq_true h, decide_eq_false (by omega)]; rfl
            · rw [decide_eq_false h, decide_eq_true (by omega)]; rfl
          rw [e1]
          unfold termOf
          dsimp only
          by_cases h : l.length + r.length ≤ 7
          · rw [decide_eq_true h, if_pos h]; rfl
          · rw [decide_eq_false h, if_neg h]; rfl
theorem termT_ne (c : Int) {ps : List (List Nat)} (h : ps.length ≠ 6) : termT c ps = none := by
  unfold termT
  split
  · exact absurd rfl h
  · rfl
theorem tup2_ne (dp : Nat) (a b : List Nat) (s t : Str) : cmpM dp .NotEq (tupM (argC (some (.str (mkS a))) (argC (some (.str (mkS b))) arg0))) (tupM (argC (strM s) (argC (strM t) arg0))) = some (!decide (a = tl s ∧ b = tl t)) := by
  show some (!decide ([mkS a, mkS b] = [s, t])) = _
  refine congrArg (fun b => some (!b)) (decide_eq_decide.mpr ?_)
  constructor
  · intro h
    injection h with h1 h2
    injection h2 with h2 _
    exact ⟨by rw [← h1]; exact (tl_mkS a).symm, by rw [← h2]; exact (tl_mkS b).symm⟩
  · rintro ⟨h1, h2⟩
    rw [h1, h2, mkS_tl, mkS_tl]
theorem term_plain (c a : Int) (l : List Nat) (hl : l.length < sL) : m_term_part_told (.int c) (.int a) (.str (mkS l)) = some (optD (if a < 400 then termT c (splitL 32 l) else none)) := by
  unfold m_term_part_told
  have hm : ∀ p ∈ splitL 32 l, p.length < sL := fun p hp => Nat.lt_of_le_of_lt (splitL_mem hp).1 hl
  rw [split32, bindO_s, show intM (6 : Int) = intM ((6 : Nat) : Int) from rfl, len_ne, geI]
  generalize splitL 32 l = ps at hm
  by_cases h1 : ps.length = 6
  · match ps, h1, hm with
    | [p0, p1, p2, p3, p4, p5], _, hm =>
      have i0 : ixM (some (.lst (strL [p0, p1, p2, p3, p4, p5]))) (intM 0) = some (.str (mkS p0)) := strL_ix (i := 0) rfl
      have i1 : ixM (some (.lst (strL [p0, p1, p2, p3, p4, p5]))) (intM 1) = some (.str (mkS p1)) := strL_ix (i := 1) rfl
      have i2 : ixM (some (.lst (strL [p0, p1, p2, p3, p4, p5]))) (intM 2) = some (.str (mkS p2)) := strL_ix (i := 2) rfl
      have i3 : ixM (some (.lst (strL [p0, p1, p2, p3, p4, p5]))) (intM 3) = some (.str (mkS p3)) := strL_ix (i := 3) rfl
      have i4 : ixM (some (.lst (strL [p0, p1, p2, p3, p4, p5]))) (intM 4) = some (.str (mkS p4)) := strL_ix (i := 4) rfl
      have i5 : ixM (some (.lst (strL [p0, p1, p2, p3, p4, p5]))) (intM 5) = some (.str (mkS p5)) := strL_ix (i := 5) rfl
      rw [i0, i1, i2, i3, i4, i5, tup2_ne, g_word_s c (hm p1 (by simp)), g_word_s c (hm p5 (by simp)), g_letter_s]
      show iteO (orO (some false) (orO (some (!decide (p2 = tl ("<" : Str) ∧ p4 = tl (">" : Str)))) (some (!decide (a < 400))))) _ _ = some (optD (if a < 400 then (if p2 = tl ("<" : Str) ∧ p4 = tl (">" : Str) then termOf (numT p0) (wordT c p1) (letT c p3) (wordT c p5) else none) else none))
      by_cases h2 : p2 = tl ("<" : Str) ∧ p4 = tl (">" : Str)
      · by_cases h3 : a < 400
        · rw [decide_eq_true h2, decide_eq_true h3, if_pos h3, if_pos h2]
          exact term_end (numT p0) (wordT c p1) (letT c p3) (wordT c p5)
        · rw [decide_eq_true h2, decide_eq_false h3, if_neg h3]
          rfl
      · rw [decide_eq_false h2, if_neg h2]
        by_cases h3 : a < 400
        · rw [if_pos h3]; rfl
        · rw [if_neg h3]; rfl
  · rw [decide_eq_false h1, termT_ne c h1]
    by_cases h3 : a < 400
    · rw [if_pos h3]; rfl
    · rw [if_neg h3]; rfl
theorem ix_tup {ds : List D} {i : Nat} {d : D} (h : ds[i]? = some d) : ixM (some (.tup ds)) (intM (i : Nat)) = some d := atI_nat h
theorem law_term_end (n : Option (Int × Nat)) (l : Option (List (List Nat))) (o : Option (List Nat)) (r : Option (List (List Nat))) :
    (iteO (orO (cmpM 1 .Is (some (optR n)) (some D.non)) (orO (cmpM 1 .In (some D.non) (some (.tup [optW l, optL o, optW r]))) (cmpM 1 .Gt (bind2 ((argC (ixM (some (.tup [optW l, optL o, optW r])) (intM 0)) arg0).bind gLen) ((argC (ixM (some (.tup [optW l, optL o, optW r])) (intM 2)) arg0).bind gLen) (binD .Add)) (intM 7))))
      (bindO (some D.non) some)
      (bindO (tupM (argC (some (.tup [optW l, optL o, optW r])) (argC (some (optR n)) arg0))) some)) = some (optD (termOf n l o r)) := by
  have hin : cmpM 1 .In (some D.non) (some (.tup [optW l, optL o, optW r])) = some (l.isNone || (o.isNone || (r.isNone || false))) := by
    rw [none_in_t (by cases l <;> cases o <;> cases r <;> rfl)]
    cases l <;> cases o <;> cases r <;> rfl
  have i0 : ixM (some (.tup [optW l, optL o, optW r])) (intM 0) = some (optW l) := ix_tup (i := 0) rfl
  have i2 : ixM (some (.tup [optW l, optL o, optW r])) (intM 2) = some (optW r) := ix_tup (i := 2) rfl
  rw [isR, hin, i0, i2]
  cases n with
  | none => rfl
  | some n => cases l with
    | none => rfl
    | some l => cases o with
      | none => rfl
      | some o => cases r with
        | none => rfl
        | some r =>
          have e1 : cmpM 1 .Gt (bind2 ((argC (some (optW (some l))) arg0).bind gLen) ((argC (some (optW (some r))) arg0).bind gLen) (binD .Add)) (intM 7) = some (!decide (l.length + r.length ≤ 7)) := by
            show cmpM 1 .Gt (bind2 ((argC (some (wordD l)) arg0).bind gLen) ((argC (some (wordD r)) arg0).bind gLen) (binD .Add)) (intM 7) = _
            rw [gLen_W, gLen_W]
            show some (decide ((7 : Int) < (l.length : Int) + (r.length : Int))) = _
            by_cases h : l.length + r.length ≤ 7
            · rw [decide_eq_true h, decide_eq_false (by omega)]; rfl
            · rw [decide_eq_false h, decide_eq_true (by omega)]; rfl
          rw [e1]
          unfold termOf
          dsimp only
          by_cases h : l.length + r.length ≤ 7
          · rw [decide_eq_true h, if_pos h]; rfl
          · rw [decide_eq_false h, if_neg h]; rfl
theorem law_term_plain (c : Int) (ps : List (List Nat)) (hm : ∀ p ∈ ps, p.length < sL) : m__law_term_of (.int c) (.lst (strL ps)) = some (optD (termT c ps)) := by
  unfold m__law_term_of
  rw [show intM (6 : Int) = intM ((6 : Nat) : Int) from rfl, len_ne]
  by_cases h1 : ps.length = 6
  · match ps, h1, hm with
    | [p0, p1, p2, p3, p4, p5], _, hm =>
      have i0 : ixM (some (.lst (strL [p0, p1, p2, p3, p4, p5]))) (intM 0) = some (.str (mkS p0)) := strL_ix (i := 0) rfl
      have i1 : ixM (some (.lst (strL [p0, p1, p2, p3, p4, p5]))) (intM 1) = some (.str (mkS p1)) := strL_ix (i := 1) rfl
      have i2 : ixM (some (.lst (strL [p0, p1, p2, p3, p4, p5]))) (intM 2) = some (.str (mkS p2)) := strL_ix (i := 2) rfl
      have i3 : ixM (some (.lst (strL [p0, p1, p2, p3, p4, p5]))) (intM 3) = some (.str (mkS p3)) := strL_ix (i := 3) rfl
      have i4 : ixM (some (.lst (strL [p0, p1, p2, p3, p4, p5]))) (intM 4) = some (.str (mkS p4)) := strL_ix (i := 4) rfl
      have i5 : ixM (some (.lst (strL [p0, p1, p2, p3, p4, p5]))) (intM 5) = some (.str (mkS p5)) := strL_ix (i := 5) rfl
      have w1 : (argC (some (.int c)) (argC (some (.str (mkS p1))) arg0)).bind g__law_word_of = _ := g_word_s c (hm p1 (by simp))
      have w5 : (argC (some (.int c)) (argC (some (.str (mkS p5))) arg0)).bind g__law_word_of = _ := g_word_s c (hm p5 (by simp))
      have n2 : cmpM 1 .NotEq (some (.str (mkS p2))) (strM "<") = some (!decide (p2 = tl ("<" : Str))) := neS 1 p2 "<"
      have n4 : cmpM 1 .NotEq (some (.str (mkS p4))) (strM ">") = some (!decide (p4 = tl (">" : Str))) := neS 1 p4 ">"
      rw [i0, i1, i2, i3, i4, i5, w1, w5, n2, n4]
      show iteO (orO (some false) (orO (some (!decide (p2 = tl ("<" : Str)))) (some (!decide (p4 = tl (">" : Str)))))) _ _ = some (optD (if p2 = tl ("<" : Str) ∧ p4 = tl (">" : Str) then termOf (numT p0) (wordT c p1) (letT c p3) (wordT c p5) else none))
      by_cases h2 : p2 = tl ("<" : Str)
      · by_cases h3 : p4 = tl (">" : Str)
        · rw [decide_eq_true h2, decide_eq_true h3, if_pos ⟨h2, h3⟩]
          exact law_term_end (numT p0) (wordT c p1) (letT c p3) (wordT c p5)
        · rw [decide_eq_true h2, decide_eq_false h3, if_neg fun h => h3 h.2]
          rfl
      · rw [decide_eq_false h2, if_neg fun h => h2 h.1]
        rfl
  · rw [decide_eq_false h1, termT_ne c h1]
    rfl
/-! ### lots -/
def lotOf (m : Option Nat) (r : Option (List (Int × Nat))) : Option D := match m, r with
  | some m, some r => if m ≤ 10 ^ 30 then some (.tup [rowD r, .int (m : Nat)]) else none
  | _, _ => none
def lotT (c : Int) : List (List Nat) → Option D
  | a :: t :: r => if t = tl ("times" : Str) then lotOf (cnt a) (numsT c r) else none
  | _ => none
theorem lot_plain (c a : Int) (l : List Nat) : m_lot_told (.int c) (.int a) (.str (mkS l)) = some (optD (if a < 12 then lotT c (splitL 32 l) else none)) := by
  unfold m_lot_told
  rw [split32, bindO_s, geI]
  match splitL 32 l, splitL_ne 32 l with
  | [w], _ =>
    show some D.non = _
    by_cases h3 : a < 12
    · rw [if_pos h3]; rfl
    · rw [if_neg h3]; rfl
  | w :: t :: r, _ =>
    have e0 : ixM (some (.lst (strL (w :: t :: r)))) (intM 0) = some (.str (mkS w)) := strL_ix (i := 0) rfl
    have e1 : ixM (some (.lst (strL (w :: t :: r)))) (intM 1) = some (.str (mkS t)) := strL_ix (i := 1) rfl
    have e2 : slM (some (.lst (strL (w :: t :: r)))) (bindO (intM 2) intP) (some none) = some (.lst (strL r)) := strL_drop (w :: t :: r) 2
    have e3 : cmpM 1 .Lt ((argC (some (.lst (strL (w :: t :: r)))) arg0).bind gLen) (intM 2) = some false := by
      rw [gLen_lst, strL_len]
      exact congrArg some (decide_eq_false (by simp only [List.length_cons]; omega))
    have n1 : cmpM 1 .NotEq (some (.str (mkS t))) (strM "times") = some (!decide (t = tl ("times" : Str))) := neS 1 t "times"
    have g1 : (argC (some (.int c)) (argC (some (.lst (strL r))) arg0)).bind g_numbers_told = some (optRow (numsT c r)) := g_numbers_s c r
    rw [e0, e1, e2, e3, n1, g1]
    show iteO (orO (some false) (orO (some (!decide (t = tl ("times" : Str)))) (some (!decide (a < 12))))) (bindO (some D.non) some) (bind2 (some (optN (cnt w))) (some (optRow (numsT c r))) _) = some (optD (if a < 12 then (if t = tl ("times" : Str) then lotOf (cnt w) (numsT c r) else none) else none))
    by_cases h2 : t = tl ("times" : Str)
    · by_cases h3 : a < 12
      · rw [decide_eq_true h2, decide_eq_true h3, if_pos h3, if_pos h2, bind2_s, isN, isRow]
        show bindO (iteO _ _ _) some = _
        generalize cnt w = m
        generalize numsT c r = row
        cases m with
        | none => rfl
        | some m =>
          have e4 : cmpM 1 .Gt (some (optN (some m))) (intM (10 ^ 30)) = some (!decide (m ≤ 10 ^ 30)) := by
            show some (decide ((10 : Int) ^ 30 < (m : Int))) = _
            by_cases h : m ≤ 10 ^ 30
            · rw [decide_eq_true h, decide_eq_false (by omega)]; rfl
            · rw [decide_eq_false h, decide_eq_true (by omega)]; rfl
          rw [e4]
          unfold lotOf
          by_cases h : m ≤ 10 ^ 30
          · rw [decide_eq_true h]
            cases row with
            | none => rfl
            | some row =>
              dsimp only
              rw [if_pos h]
              rfl
          · rw [decide_eq_false h]
            cases row with
            | none => rfl
            | some row =>
              dsimp only
              rw [if_neg h]
              rfl
      · rw [decide_eq_true h2, decide_eq_false h3, if_neg h3]
        rfl
    · rw [decide_eq_false h2, if_neg h2]
      by_cases h3 : a < 12
      · rw [if_pos h3]; rfl
      · rw [if_neg h3]; rfl
theorem pow30 : bind2 (intM 10) (intM 30) (binD .Pow) = intM (10 ^ 30) := by kernel_rfl
theorem law_lot_end (c : Int) (m : Option Nat) (os : List (Option (Int × Nat))) (t : Bool) :
    iteO (orO (cmpM 1 .Is (some (optN m)) (some D.non)) (orO (cmpM 1 .Gt (some (optN m)) (intM (10 ^ 30))) (orO (some (!t)) (orO (cmpM 1 .Is (some (optRow (rowOf os))) (some D.non)) (cmpM 1 .NotEq ((argC (some (optRow (rowOf os))) arg0).bind gLen) (some (.int c))))))) (bindO (some D.non) some)
      (bindO (tupM (argC (some (optRow (rowOf os))) (argC (some (optN m)) arg0))) some) = some (optD (if t = true then lotOf m (if (os.length : Int) = c then rowOf os else none) else none)) := by
  rw [isN, isRow]
  cases m with
  | none => cases t <;> rfl
  | some m =>
    have e4 : cmpM 1 .Gt (some (optN (some m))) (intM (10 ^ 30)) = some (!decide (m ≤ 10 ^ 30)) := by
      show some (decide ((10 : Int) ^ 30 < (m : Int))) = _
      by_cases h : m ≤ 10 ^ 30
      · rw [decide_eq_true h, decide_eq_false (by omega)]; rfl
      · rw [decide_eq_false h, decide_eq_true (by omega)]; rfl
    rw [e4]
    by_cases h : m ≤ 10 ^ 30
    · rw [decide_eq_true h]
      cases t with
      | false => rfl
      | true =>
        have hl : ∀ rs, rowOf os = some rs → rs.length = os.length := by
          intro rs hr
          unfold rowOf at hr
          split at hr
          · cases hr
            rw [List.length_map]
          · cases hr
        cases hr : rowOf os with
        | none =>
          show some D.non = some (optD (lotOf (some m) (if (os.length : Int) = c then none else none)))
          split <;> rfl
        | some rs =>
          have e5 : cmpM 1 .NotEq ((argC (some (optRow (some rs))) arg0).bind gLen) (some (.int c)) = some (!decide ((os.length : Int) = c)) := by
            show some (!decide (((rs.map fun z => ratD z.1 z.2).length : Int) = c)) = _
            rw [List.length_map, hl rs hr]
          rw [e5]
          by_cases h2 : (os.length : Int) = c
          · rw [decide_eq_true h2, if_pos rfl, if_pos h2]
            unfold lotOf
            dsimp only
            rw [if_pos h]
            rfl
          · rw [decide_eq_false h2, if_pos rfl, if_neg h2]
            rfl
    · rw [decide_eq_false h]
      have : lotOf (some m) (if (os.length : Int) = c then rowOf os else none) = none := by
        unfold lotOf
        split
        · rename_i e _
          cases e
          exact if_neg h
        · rfl
      cases t with
      | false => rfl
      | true =>
        rw [if_pos rfl, this]
        rfl
theorem law_lot_plain (c : Int) (ps : List (List Nat)) (hne : ps ≠ []) : m__law_lot_of (.int c) (.lst (strL ps)) = some (optD (lotT c ps)) := by
  unfold m__law_lot_of
  rw [pow30]
  match ps, hne with
  | [w], _ =>
    have e0 : ixM (some (.lst (strL [w]))) (intM 0) = some (.str (mkS w)) := strL_ix (i := 0) rfl
    have e2 : slM (some (.lst (strL [w]))) (bindO (intM 2) intP) (some none) = some (.lst (strL [])) := strL_drop [w] 2
    have g1 : (argC (some (.lst (strL []))) arg0).bind g__law_numbers = some (optRow (rowOf [])) := g_law_numbers_s []
    have e5 : cmpM 1 .NotEq (slM (some (.lst (strL [w]))) (bindO (intM 1) intP) (bindO (intM 2) intP)) (lstM (argC (strM "times") arg0)) = some (!false) := rfl
    rw [e0, e2, g1, e5]
    exact law_lot_end c (cnt w) [] false
  | w :: t :: r, _ =>
    have e0 : ixM (some (.lst (strL (w :: t :: r)))) (intM 0) = some (.str (mkS w)) := strL_ix (i := 0) rfl
    have e2 : slM (some (.lst (strL (w :: t :: r)))) (bindO (intM 2) intP) (some none) = some (.lst (strL r)) := strL_drop (w :: t :: r) 2
    have g1 : (argC (some (.lst (strL r))) arg0).bind g__law_numbers = some (optRow (rowOf (r.map numT))) := g_law_numbers_s r
    have e6 : slM (some (.lst (strL (w :: t :: r)))) (bindO (intM 1) intP) (bindO (intM 2) intP) = some (.lst [.str (mkS t)]) := by
      show some (D.lst (cutL (strL (w :: t :: r)) (some ((1 : Nat) : Int)) (some ((2 : Nat) : Int)))) = _
      unfold cutL
      rw [HT.sIx_nat, HT.sIx_nat, strL_len]
      have h1 : min 1 (w :: t :: r).length = 1 := by simp only [List.length_cons]; omega
      have h2 : min 2 (w :: t :: r).length = 2 := by simp only [List.length_cons]; omega
      rw [h1, h2]
      rfl
    have e5 : cmpM 1 .NotEq (some (.lst [.str (mkS t)])) (lstM (argC (strM "times") arg0)) = some (!decide (t = tl ("times" : Str))) := by
      show some (!decide ([mkS t] = [("times" : Str)])) = _
      refine congrArg (fun b => some (!b)) (decide_eq_decide.mpr ?_)
      constructor
      · intro h
        injection h with h _
        rw [← h]
        exact (tl_mkS t).symm
      · intro h
        rw [h, mkS_tl]
    rw [e0, e2, g1, e6, e5]
    have := law_lot_end c (cnt w) (r.map numT) (decide (t = tl ("times" : Str)))
    rw [List.length_map] at this
    show _ = some (optD (if t = tl ("times" : Str) then lotOf (cnt w) (numsT c r) else none))
    unfold numsT
    by_cases ht : t = tl ("times" : Str)
    · rw [decide_eq_true ht, if_pos rfl] at this
      rw [decide_eq_true ht, if_pos ht]
      exact this
    · rw [decide_eq_false ht, if_neg Bool.false_ne_true] at this
      rw [decide_eq_false ht, if_neg ht]
      exact this
end Ag
set_option Elab.async false
set_option linter.all false
set_option autoImplicit false
set_option maxRecDepth 100000
set_option maxHeartbeats 1000000
namespace Ag
open PySem PySem.Spec L2 TL
def gLcm : List D → Option D
  | [.int a, .int b] => if a.natAbs.log2 < 9000 ∧ b.natAbs.log2 < 9000 then some (.int (Nat.lcm a.natAbs b.natAbs : Nat)) else none
  | _ => none
def fl9 : FtL := ("lcm", gLcm) :: fl8
def N_wholes : List Str := ["ratios", "bottom", "ratio"]
def wBody (kn : DEnv → Option D) (Γ : DEnv) : Option D := bindO ((argC (Γ.getD 1 none) (argC (bindO (Γ.getD 2 none) (fldD "own_bottom")) arg0)).bind gLcm) fun d => kn (Γ.set 1 (some d))
def wElt (Γ : DEnv) (d : D) : Option (Option D) := lcOne (.inl 2) (wipeD Γ [2]) (fun _ => some true) (fun Γ' => bind2 (bindO (Γ'.getD 2 none) (fldD "own_top")) (bind2 (Γ'.getD 1 none) (bindO (Γ'.getD 2 none) (fldD "own_bottom")) (binD .FloorDiv)) (binD .Mult)) d
def wRest (Γ : DEnv) : Option D := bindO (tupM (argC (Γ.getD 1 none) (argC (match bindO (Γ.getD 0 none) seqD with
    | some ds => (mapE (wElt Γ) ds).map D.lst
    | none => none) arg0))) some
theorem mq_wholes (v_ratios : D) : semK ⟨1, N_wholes, ftOf fl9, gcB⟩ 40 40 s_wholes 1 [v_ratios] =
    bindO (intM 1) fun v_bottom => bindO (bindO (some v_ratios) seqD) fun ds => forK (.inl 2) wBody wRest ds [some v_ratios, some v_bottom, none] := by kernel_rfl
def rD (r : Int × Int) : D := .ins .ratio [.int r.1, .int r.2]
def lcmF (acc : Nat) (rs : List (Int × Int)) : Nat := rs.foldl (fun a r => Nat.lcm a r.2.natAbs) acc
theorem lcmF_pos : ∀ (rs : List (Int × Int)) (acc : Nat), 0 < acc → (∀ r ∈ rs, 0 < r.2) → 0 < lcmF acc rs
  | [], acc, h, _ => h
  | r :: rs, acc, h, hr => lcmF_pos rs _ (Nat.lcm_pos h (by have := hr r List.mem_cons_self; omega)) fun x hx => hr x (List.mem_cons_of_mem _ hx)
theorem lcmF_ge : ∀ (rs : List (Int × Int)) (acc : Nat), 0 < acc → (∀ r ∈ rs, 0 < r.2) → acc ≤ lcmF acc rs
  | [], acc, h, _ => Nat.le_refl _
  | r :: rs, acc, h, hr => by
    have h2 : 0 < r.2.natAbs := by have := hr r List.mem_cons_self; omega
    have h3 : 0 < Nat.lcm acc r.2.natAbs := Nat.lcm_pos h h2
    exact Nat.le_trans (Nat.le_of_dvd h3 (Nat.dvd_lcm_left _ _)) (lcmF_ge rs _ h3 fun x hx => hr x (List.mem_cons_of_mem _ hx))
theorem wLoop (R : D) : ∀ (rs : List (Int × Int)) (acc : Nat) (x : Option D), 0 < acc → (∀ r ∈ rs, 0 < r.2 ∧ r.2.natAbs.log2 < 9000) → (lcmF acc rs).log2 < 9000 → ∃ y, forK (.inl 2) wBody wRest (rs.map rD) [some R, some (.int (acc : Nat)), x] = wRest [some R, some (.int (lcmF acc rs : Nat)), y]
  | [], acc, x, _, _, _ => ⟨x, rfl⟩
  | r :: rs, acc, x, h0, hr, hl => by
    obtain ⟨h1, h2⟩ := hr r List.mem_cons_self
    have h3 : 0 < Nat.lcm acc r.2.natAbs := Nat.lcm_pos h0 (by omega)
    obtain ⟨y, h⟩ := wLoop R rs (Nat.lcm acc r.2.natAbs) (some (rD r)) h3 (fun x hx => hr x (List.mem_cons_of_mem _ hx)) hl
    refine ⟨y, ?_⟩
    show bindO ((argC (some (D.int (acc : Nat))) (argC (some (.int r.2)) arg0)).bind gLcm) (fun d => forK (.inl 2) wBody wRest (rs.map rD) ([some R, some (.int (acc : Nat)), some (rD r)].set 1 (some d))) = _
    have ha : acc.log2 < 9000 := by
      have hge := lcmF_ge (r :: rs) acc h0 fun x hx => (hr x hx).1
      have hlt : lcmF acc (r :: rs) < 2 ^ 9000 := (Nat.log2_lt (by omega)).mp hl
      exact (Nat.log2_lt (by omega)).mpr (Nat.lt_of_le_of_lt hge hlt)
    have e : (argC (some (D.int (acc : Nat))) (argC (some (.int r.2)) arg0)).bind gLcm = some (.int (Nat.lcm acc r.2.natAbs : Nat)) := if_pos ⟨ha, h2⟩
    rw [e]
    exact h
theorem wholes_plain (rs : List (Int × Int)) (h0 : (lcmF 1 rs).log2 < 9000) (h : ∀ r ∈ rs, 0 < r.2 ∧ r.2.natAbs.log2 < 9000 ∧ r.1.natAbs.log2 + (lcmF 1 rs / r.2.natAbs).log2 < 1000000) :
    semK ⟨1, N_wholes, ftOf fl9, gcB⟩ 40 40 s_wholes 1 [.lst (rs.map rD)] = some (.tup [.int (lcmF 1 rs : Nat), .lst (rs.map fun r => .int (r.1 * ((lcmF 1 rs : Nat) / r.2)))]) := by
  rw [mq_wholes]
  show forK (.inl 2) wBody wRest (rs.map rD) [some (.lst (rs.map rD)), some (.int ((1 : Nat) : Int)), none] = _
  obtain ⟨y, e⟩ := wLoop (.lst (rs.map rD)) rs 1 none (by decide) (fun r hr => ⟨(h r hr).1, (h r hr).2.1⟩) h0
  rw [e]
  generalize hbt : lcmF 1 rs = bt at h
  have key : ∀ l : List (Int × Int), (∀ r ∈ l, 0 < r.2 ∧ r.2.natAbs.log2 < 9000 ∧ r.1.natAbs.log2 + (bt / r.2.natAbs).log2 < 1000000) → mapE (wElt [some (.lst (rs.map rD)), some (.int (bt : Nat)), y]) (l.map rD) = some (l.map fun r => .int (r.1 * ((bt : Nat) / r.2))) := by
    intro l
    induction l with
    | nil => intro _; rfl
    | cons r l ih =>
      intro hl
      obtain ⟨h1, h2, h3⟩ := hl r List.mem_cons_self
      have e1 : binD .FloorDiv (.int (bt : Nat)) (.int r.2) = some (.int ((bt : Nat) / r.2)) := if_pos ⟨h1, h2⟩
      have e3 : ((bt : Nat) / r.2 : Int).natAbs = bt / r.2.natAbs := by
        have : r.2 = ((r.2.natAbs : Nat) : Int) := by omega
        rw [this, ← Int.natCast_ediv, Int.natAbs_natCast, Int.natAbs_natCast]
      have e2 : binD .Mult (.int r.1) (.int ((bt : Nat) / r.2)) = some (.int (r.1 * ((bt : Nat) / r.2))) := if_pos (by rw [e3]; exact h3)
      have eo : wElt [some (.lst (rs.map rD)), some (.int (bt : Nat)), y] (rD r) = some (some (.int (r.1 * ((bt : Nat) / r.2)))) := by
        show (match bind2 (some (D.int r.1)) (bind2 (some (D.int (bt : Nat))) (some (.int r.2)) (binD .FloorDiv)) (binD .Mult) with
          | some v => some (some v)
          | none => none) = _
        rw [bind2_s, e1, bind2_s, e2]
      show (match wElt _ (rD r) with
        | none => none
        | some none => mapE _ (l.map rD)
        | some (some v) => match mapE _ (l.map rD) with
          | some vs => some (v :: vs)
          | none => none) = _
      rw [eo, ih fun x hx => hl x (List.mem_cons_of_mem _ hx)]
      rfl
  show bindO (tupM (argC (some (D.int (bt : Nat))) (argC ((mapE (wElt [some (.lst (rs.map rD)), some (.int (bt : Nat)), y]) (rs.map rD)).map D.lst) arg0))) some = _
  rw [key rs h]
  rfl
end Ag
set_option Elab.async false
set_option linter.all false
set_option autoImplicit false
set_option maxRecDepth 100000
set_option maxHeartbeats 1000000
namespace Ag
open PySem PySem.Spec L2 TL
/-- [h(..) for a, b in o] -/
def lcT (t : Tg) (L : DEnv) (h : DEnv → Option D) (o : Option (List D)) : Option D := match o with
  | some ds => (mapLC t L (fun _ => some true) h ds).map D.lst
  | none => none
def N_is_number : List Str := ["value"]
def m_is_number (v_value : D) : Option D :=
  bindO (bindO (((argC (some v_value) arg0)).bind g_is_integer) (orV1 ((((some v_value)).bind fun d => isiC d .ratio).map D.bl))) some
theorem mq_is_number (v_value : D) : semK ⟨1, N_is_number, ftOf fl9, gcB⟩ 40 40 s_is_number 1 [v_value] = m_is_number v_value := by kernel_rfl
def N_ratio_of : List Str := ["number"]
def m_ratio_of (v_number : D) : Option D :=
  bindO (iteO (truM ((((some v_number)).bind fun d => isiC d .ratio).map D.bl)) (some v_number) (((argC (some v_number) arg0)).bind g_Ratio)) some
theorem mq_ratio_of (v_number : D) : semK ⟨1, N_ratio_of, ftOf fl9, gcB⟩ 40 40 s_ratio_of 1 [v_number] = m_ratio_of v_number := by kernel_rfl
def N_want_columns : List Str := ["value"]
def m_want_columns (v_value : D) : Option D :=
  iteO (orO (notO (truM (((argC (some v_value) arg0)).bind g_is_count))) (cmpM 1 .Gt (some v_value) (intM 3)))
    (none)
    (some D.non)
theorem mq_want_columns (v_value : D) : semK ⟨1, N_want_columns, ftOf fl9, gcB⟩ 40 40 s_want_columns 1 [v_value] = m_want_columns v_value := by kernel_rfl
def isRat : D → Bool
  | .ins .ratio [.int _, .int _] => true
  | _ => false
def g_is_number : List D → Option D
  | [.ins .ratio [.int _, .int _]] => some (.bl true)
  | _ => none
def g_ratio_of : List D → Option D
  | [.ins .ratio [.int t, .int b]] => some (.ins .ratio [.int t, .int b])
  | _ => none
def g_want_columns : List D → Option D
  | [.int c] => if 0 ≤ c ∧ c ≤ 3 then some .non else none
  | _ => none
theorem is_number_plain {ds : List D} {d : D} (h : g_is_number ds = some d) : semD ⟨1, N_is_number, ftOf fl9, gcB⟩ 40 40 s_is_number 1 ds = some d := by
  unfold g_is_number at h
  split at h
  · cases h; rw [semD_K, mq_is_number]; rfl
  · cases h
theorem ratio_of_plain {ds : List D} {d : D} (h : g_ratio_of ds = some d) : semD ⟨1, N_ratio_of, ftOf fl9, gcB⟩ 40 40 s_ratio_of 1 ds = some d := by
  unfold g_ratio_of at h
  split at h
  · cases h; rw [semD_K, mq_ratio_of]; rfl
  · cases h
theorem want_columns_plain {ds : List D} {d : D} (h : g_want_columns ds = some d) : semD ⟨1, N_want_columns, ftOf fl9, gcB⟩ 40 40 s_want_columns 1 ds = some d := by
  unfold g_want_columns at h
  split at h
  · rename_i c
    split at h
    · rename_i hc
      cases h
      rw [semD_K, mq_want_columns]
      show m_want_columns (.int c) = _
      unfold m_want_columns
      have e1 : (argC (some (D.int c)) arg0).bind g_is_count = some (.bl (decide (0 ≤ c))) := rfl
      have e2 : cmpM 1 .Gt (some (.int c)) (intM 3) = some (decide (3 < c)) := rfl
      rw [e1, e2, decide_eq_true hc.1, decide_eq_false (by omega)]
      rfl
    · cases h
  · cases h
def fl10 : FtL := ("is_number", g_is_number) :: ("ratio_of", g_ratio_of) :: ("want_columns", g_want_columns) :: fl9
def N_is_row : List Str := ["columns", "value", "number"]
def m_is_row (v_columns v_value : D) : Option D :=
  bindO (bindO (((argC (some v_value) arg0)).bind g_is_list) (andV1 (bindO ((cmpM 1 .Eq (((argC (some v_value) arg0)).bind gLen) (some v_columns)).map D.bl) (andV1 (((argC (lcM (fun v_number => (((argC (some v_number) arg0)).bind g_is_number)) (inM (some v_value))) arg0)).bind gAll))))) some
theorem mq_is_row (v_columns v_value : D) : semK ⟨1, N_is_row, ftOf fl10, gcB⟩ 40 40 s_is_row 2 [v_columns, v_value] = m_is_row v_columns v_value := by kernel_rfl
def N_told_row : List Str := ["row", "number"]
def m_told_row (v_row : D) : Option D :=
  bindO (((argC (lcM (fun v_number => (((argC (some v_number) arg0)).bind g_ratio_of)) (inM (some v_row))) arg0)).bind gTuple) some
theorem mq_told_row (v_row : D) : semK ⟨1, N_told_row, ftOf fl10, gcB⟩ 40 40 s_told_row 1 [v_row] = m_told_row v_row := by kernel_rfl
def N_is_letter_of : List Str := ["columns", "value", "power"]
def m_is_letter_of (v_columns v_value : D) : Option D :=
  iteO (orO (notO (truM ((((some v_value)).bind fun d => isi0 d .tuple).map D.bl))) (cmpM 1 .NotEq (((argC (some v_value) arg0)).bind gLen) (some v_columns)))
    (bindO (some (D.bl false)) some)
    (bindO (((argC (lcM (fun v_power => (bindO (((argC (some v_power) arg0)).bind g_is_count) (andV1 ((cmpM 1 .LtE (some v_power) (intM 8)).map D.bl)))) (inM (some v_value))) arg0)).bind gAll) some)
theorem mq_is_letter_of (v_columns v_value : D) : semK ⟨1, N_is_letter_of, ftOf fl10, gcB⟩ 40 40 s_is_letter_of 2 [v_columns, v_value] = m_is_letter_of v_columns v_value := by kernel_rfl
def N_term_length : List Str := ["term"]
def m_term_length (v_term : D) : Option D :=
  bindO (bind2 (bind2 (((argC (ixM (some v_term) (intM 0)) arg0)).bind gLen) (intM 1) (binD .Add)) (((argC (ixM (some v_term) (intM 2)) arg0)).bind gLen) (binD .Add)) some
theorem mq_term_length (v_term : D) : semK ⟨1, N_term_length, ftOf fl10, gcB⟩ 40 40 s_term_length 1 [v_term] = m_term_length v_term := by kernel_rfl
def N_is_step : List Str := ["columns", "position", "value", "one"]
def m_is_step (v_columns v_position v_value : D) : Option D :=
  iteO (orO (notO (truM ((((some v_value)).bind fun d => isi0 d .tuple).map D.bl))) (orO (cmpM 1 .Lt (((argC (some v_value) arg0)).bind gLen) (intM 2)) (notO (truM ((((ixM (some v_value) (intM 0))).bind fun d => isi0 d .str).map D.bl)))))
    (bindO (some (D.bl false)) some)
    (iteO (cmpM 1 .In (ixM (some v_value) (intM 0)) (some (D.tup [.str "sum", .str "less", .str "times"])))
      (bindO (bindO ((cmpM 1 .Eq (((argC (some v_value) arg0)).bind gLen) (intM 3)).map D.bl) (andV1 (((argC (lcM (fun v_one => (bindO (((argC (some v_one) arg0)).bind g_is_count) (andV1 ((cmpM 1 .Lt (some v_one) (some v_position)).map D.bl)))) (inM (slM (some v_value) (bindO (intM 1) intP) (some none)))) arg0)).bind gAll))) some)
      (iteO (cmpM 1 .NotEq (((argC (some v_value) arg0)).bind gLen) (intM 2))
        (bindO (some (D.bl false)) some)
        (iteO (cmpM 1 .In (ixM (some v_value) (intM 0)) (some (D.tup [.str "ahead", .str "behind"])))
          (bindO (bindO (((argC (ixM (some v_value) (intM 1)) arg0)).bind g_is_count) (andV1 ((cmpM 1 .Lt (ixM (some v_value) (intM 1)) (some v_position)).map D.bl))) some)
          (iteO (cmpM 1 .Eq (ixM (some v_value) (intM 0)) (strM "column"))
            (bindO (bindO (((argC (ixM (some v_value) (intM 1)) arg0)).bind g_is_count) (andV1 ((cmpM 1 .Lt (ixM (some v_value) (intM 1)) (some v_columns)).map D.bl))) some)
            (bindO (bindO ((cmpM 1 .Eq (ixM (some v_value) (intM 0)) (strM "told")).map D.bl) (andV1 (((argC (ixM (some v_value) (intM 1)) arg0)).bind g_is_number))) some)))))
theorem mq_is_step (v_columns v_position v_value : D) : semK ⟨1, N_is_step, ftOf fl10, gcB⟩ 40 40 s_is_step 3 [v_columns, v_position, v_value] = m_is_step v_columns v_position v_value := by kernel_rfl
def N_told_step : List Str := ["step"]
def m_told_step (v_step : D) : Option D :=
  bindO (iteO (cmpM 1 .Eq (ixM (some v_step) (intM 0)) (strM "told")) (tupM (argC (strM "told") (argC (((argC (ixM (some v_step) (intM 1)) arg0)).bind g_ratio_of) arg0))) (some v_step)) some
theorem mq_told_step (v_step : D) : semK ⟨1, N_told_step, ftOf fl10, gcB⟩ 40 40 s_told_step 1 [v_step] = m_told_step v_step := by kernel_rfl
theorem all_lcD {h : D → Option D} {b : D → Bool} {ds : List D} (hf : ∀ d ∈ ds, h d = some (.bl (b d))) : (argC (lcM h (some ds)) arg0).bind gAll = some (.bl (ds.all b)) := by
  have := all_lc (h := h) (i := id) (b := b) (l := ds) hf
  rwa [List.map_id] at this
theorem andV1_bl {a b : Bool} : andV1 (some (D.bl b)) (.bl a) = some (.bl (a && b)) := by cases a <;> rfl
theorem rat_num {d : D} (h : isRat d = true) : (argC (some d) arg0).bind g_is_number = some (.bl true) := by
  unfold isRat at h
  split at h
  · rfl
  · cases h
theorem rat_of {d : D} (h : isRat d = true) : (argC (some d) arg0).bind g_ratio_of = some d := by
  unfold isRat at h
  split at h
  · rfl
  · cases h
def g_is_row : List D → Option D
  | [.int c, .lst ds] => if ds.all isRat = true then some (.bl (decide ((ds.length : Nat) = c))) else none
  | _ => none
theorem is_row_plain {ds : List D} {d : D} (h : g_is_row ds = some d) : semD ⟨1, N_is_row, ftOf fl10, gcB⟩ 40 40 s_is_row 2 ds = some d := by
  unfold g_is_row at h
  split at h
  · rename_i c ds
    split at h
    · rename_i ha
      cases h
      rw [semD_K, mq_is_row]
      unfold m_is_row
      have e1 : (argC (some (D.lst ds)) arg0).bind g_is_list = some (.bl true) := rfl
      have e2 : cmpM 1 .Eq ((argC (some (D.lst ds)) arg0).bind gLen) (some (.int c)) = some (decide ((ds.length : Nat) = c)) := rfl
      have e3 : (argC (lcM (fun v => (argC (some v) arg0).bind g_is_number) (inM (some (.lst ds)))) arg0).bind gAll = some (.bl (ds.all fun _ => true)) := all_lcD fun d hd => rat_num (List.all_eq_true.mp ha d hd)
      have e4 : (ds.all fun _ => true) = true := List.all_eq_true.mpr fun _ _ => rfl
      rw [e1, e2, e3, omap_s, bindO_s, bindO_s, andV1_bl, andV1_bl, e4, Bool.and_true]
      rfl
    · cases h
  · cases h
theorem lcM_id {h : D → Option D} {ds : List D} (hf : ∀ d ∈ ds, h d = some d) : lcM h (some ds) = some (.lst ds) := by
  have := lcM_s (h := h) (f := id) (ds := ds) hf
  rwa [List.map_id] at this
def g_told_row : List D → Option D
  | [.lst ds] => if ds.all isRat = true then some (.tup ds) else none
  | _ => none
theorem told_row_plain {ds : List D} {d : D} (h : g_told_row ds = some d) : semD ⟨1, N_told_row, ftOf fl10, gcB⟩ 40 40 s_told_row 1 ds = some d := by
  unfold g_told_row at h
  split at h
  · rename_i ds
    split at h
    · rename_i ha
      cases h
      rw [semD_K, mq_told_row]
      unfold m_told_row
      have e3 : lcM (fun v => (argC (some v) arg0).bind g_ratio_of) (inM (some (.lst ds))) = some (.lst ds) := lcM_id fun d hd => rat_of (List.all_eq_true.mp ha d hd)
      rw [e3]
      rfl
    · cases h
  · cases h
def isInt : D → Bool
  | .int _ => true
  | _ => false
def powOk : D → Bool
  | .int i => decide (0 ≤ i) && decide (i ≤ 8)
  | _ => false
def g_is_letter_of : List D → Option D
  | [.int c, .tup ds] => if ds.all isInt = true then some (.bl (decide ((ds.length : Nat) = c) && ds.all powOk)) else none
  | _ => none
theorem pow_is {d : D} (h : isInt d = true) : bindO ((argC (some d) arg0).bind g_is_count) (andV1 ((cmpM 1 .LtE (some d) (intM 8)).map D.bl)) = some (.bl (powOk d)) := by
  unfold isInt at h
  split at h
  · rename_i i
    show andV1 (some (.bl (decide (i ≤ 8)))) (.bl (decide (0 ≤ i))) = _
    exact andV1_bl
  · cases h
theorem is_letter_of_plain {ds : List D} {d : D} (h : g_is_letter_of ds = some d) : semD ⟨1, N_is_letter_of, ftOf fl10, gcB⟩ 40 40 s_is_letter_of 2 ds = some d := by
  unfold g_is_letter_of at h
  split at h
  · rename_i c ds
    split at h
    · rename_i ha
      cases h
      rw [semD_K, mq_is_letter_of]
      unfold m_is_letter_of
      have e1 : notO (truM (((some (D.tup ds)).bind fun d => isi0 d .tuple).map D.bl)) = some false := rfl
      have e2 : cmpM 1 .NotEq ((argC (some (D.tup ds)) arg0).bind gLen) (some (.int c)) = some (!decide ((ds.length : Nat) = c)) := rfl
      have e3 : (argC (lcM (fun v_power => (bindO (((argC (some v_power) arg0)).bind g_is_count) (andV1 ((cmpM 1 .LtE (some v_power) (intM 8)).map D.bl)))) (inM (some (.tup ds)))) arg0).bind gAll = some (.bl (ds.all powOk)) := all_lcD fun d hd => pow_is (List.all_eq_true.mp ha d hd)
      rw [e1, e2, e3, orO_s, iteO_s]
      cases decide ((ds.length : Nat) = c) <;> rfl
    · cases h
  · cases h
def g_term_length : List D → Option D
  | [.tup [.tup a, _, .tup b]] => some (.int ((a.length : Nat) + 1 + (b.length : Nat)))
  | _ => none
theorem term_length_plain {ds : List D} {d : D} (h : g_term_length ds = some d) : semD ⟨1, N_term_length, ftOf fl10, gcB⟩ 40 40 s_term_length 1 ds = some d := by
  unfold g_term_length at h
  split at h
  · cases h
    rw [semD_K, mq_term_length]
    rfl
  · cases h
/-! ### steps -/
def isIn : List Str → Str → Bool
  | [], _ => false
  | a :: r, s => decide (s = a) || isIn r s
def ltOk (m : Int) : D → Bool
  | .int i => decide (0 ≤ i) && decide (i < m)
  | _ => false
theorem lt_is {m : Int} {d : D} (h : isInt d = true) : bindO ((argC (some d) arg0).bind g_is_count) (andV1 ((cmpM 1 .Lt (some d) (some (.int m))).map D.bl)) = some (.bl (ltOk m d)) := by
  unfold isInt at h
  split at h
  · rename_i i
    show andV1 (some (.bl (decide (i < m)))) (.bl (decide (0 ≤ i))) = _
    exact andV1_bl
  · cases h
/-- the steps that are right -/
def stepOk (c at_ : Int) : D → Bool
  | .tup [.str w, x] => if w = "told" then isRat x else if w = "column" then ltOk c x else if w = "ahead" ∨ w = "behind" then ltOk at_ x else false
  | .tup [.str w, x, y] => decide (w = "sum" ∨ w = "less" ∨ w = "times") && (ltOk at_ x && ltOk at_ y)
  | _ => false
theorem ltOk_int {m : Int} {d : D} (h : ltOk m d = true) : isInt d = true := by
  unfold ltOk at h
  split at h
  · rfl
  · cases h
theorem lt_ok {m : Int} {d : D} (h : ltOk m d = true) : bindO ((argC (some d) arg0).bind g_is_count) (andV1 ((cmpM 1 .Lt (some d) (some (.int m))).map D.bl)) = some (.bl true) := by
  rw [lt_is (ltOk_int h), h]
theorem in_two (w : Str) : cmpM 1 .In (some (.str w)) (some (D.tup [.str "sum", .str "less", .str "times"])) = some (decide (w ∈ (["sum", "less", "times"] : List Str))) := rfl
theorem in_one (w : Str) : cmpM 1 .In (some (.str w)) (some (D.tup [.str "ahead", .str "behind"])) = some (decide (w ∈ (["ahead", "behind"] : List Str))) := rfl
theorem is_step_true {c at_ : Int} {d : D} (h : stepOk c at_ d = true) : m_is_step (.int c) (.int at_) d = some (.bl true) := by
  unfold stepOk at h
  split at h
  · rename_i w x
    unfold m_is_step
    have e1 : notO (truM (((some (D.tup [.str w, x])).bind fun d => isi0 d .tuple).map D.bl)) = some false := rfl
    have e2 : cmpM 1 .Lt ((argC (some (D.tup [.str w, x])) arg0).bind gLen) (intM 2) = some false := rfl
    have e3 : ixM (some (D.tup [.str w, x])) (intM 0) = some (.str w) := rfl
    have e4 : ixM (some (D.tup [.str w, x])) (intM 1) = some x := rfl
    have e5 : notO (truM (((some (D.str w)).bind fun d => isi0 d .str).map D.bl)) = some false := rfl
    have e6 : cmpM 1 .NotEq ((argC (some (D.tup [.str w, x])) arg0).bind gLen) (intM 2) = some false := rfl
    have e7 : cmpM 1 .Eq (some (.str w)) (strM "column") = some (decide (w = "column")) := rfl
    have e8 : cmpM 1 .Eq (some (.str w)) (strM "told") = some (decide (w = "told")) := rfl
    rw [e3, e1, e2, e4, e5, e6, e7, e8, in_two, in_one]
    by_cases q1 : w = "told"
    · subst q1
      rw [if_pos rfl] at h
      rw [rat_num h]
      rfl
    · rw [if_neg q1] at h
      by_cases q2 : w = "column"
      · subst q2
        rw [if_pos rfl] at h
        rw [lt_ok h]
        rfl
      · rw [if_neg q2] at h
        split at h
        · rename_i q3
          rw [lt_ok h]
          rcases q3 with rfl | rfl <;> rfl
        · cases h
  · rename_i w x y
    unfold m_is_step
    rw [Bool.and_eq_true, Bool.and_eq_true] at h
    obtain ⟨h1, h2, h3⟩ := h
    have e1 : notO (truM (((some (D.tup [.str w, x, y])).bind fun d => isi0 d .tuple).map D.bl)) = some false := rfl
    have e2 : cmpM 1 .Lt ((argC (some (D.tup [.str w, x, y])) arg0).bind gLen) (intM 2) = some false := rfl
    have e3 : ixM (some (D.tup [.str w, x, y])) (intM 0) = some (.str w) := rfl
    have e5 : notO (truM (((some (D.str w)).bind fun d => isi0 d .str).map D.bl)) = some false := rfl
    have e6 : cmpM 1 .Eq ((argC (some (D.tup [.str w, x, y])) arg0).bind gLen) (intM 3) = some true := rfl
    have e9 : inM (slM (some (D.tup [.str w, x, y])) (bindO (intM 1) intP) (some none)) = some [x, y] := rfl
    have e7 : (argC (lcM (fun v_one => (bindO (((argC (some v_one) arg0)).bind g_is_count) (andV1 ((cmpM 1 .Lt (some v_one) (some (.int at_))).map D.bl)))) (some [x, y])) arg0).bind gAll = some (.bl ([x, y].all (ltOk at_))) := all_lcD fun d hd => by
      rcases List.mem_cons.mp hd with rfl | hd
      · exact lt_is (ltOk_int h2)
      · rcases List.mem_cons.mp hd with rfl | hd
        · exact lt_is (ltOk_int h3)
        · cases hd
    have e8 : decide (w ∈ (["sum", "less", "times"] : List Str)) = true := by
      have := of_decide_eq_true h1
      simpa using this
    rw [e3, e1, e2, e5, e6, e9, e7, in_two, e8, List.all_cons, List.all_cons, h2, h3]
    rfl
  · cases h
def g_is_step : List D → Option D
  | [.int c, .int a, d] => if stepOk c a d = true then some (.bl true) else none
  | _ => none
theorem is_step_plain {ds : List D} {d : D} (h : g_is_step ds = some d) : semD ⟨1, N_is_step, ftOf fl10, gcB⟩ 40 40 s_is_step 3 ds = some d := by
  unfold g_is_step at h
  split at h
  · split at h
    · rename_i hh
      cases h
      rw [semD_K, mq_is_step, is_step_true hh]
    · cases h
  · cases h
/-- a step that told_step leaves as it is -/
def stepIn : D → Bool
  | .tup [.str w, x] => if w = "told" then isRat x else true
  | .tup [.str w, _, _] => decide (w ≠ "told")
  | _ => false
def g_told_step : List D → Option D
  | [d] => if stepIn d = true then some d else none
  | _ => none
theorem told_step_plain {ds : List D} {d : D} (h : g_told_step ds = some d) : semD ⟨1, N_told_step, ftOf fl10, gcB⟩ 40 40 s_told_step 1 ds = some d := by
  unfold g_told_step at h
  split at h
  · rename_i d0
    split at h
    · rename_i hh
      cases h
      rw [semD_K, mq_told_step]
      unfold stepIn at hh
      split at hh
      · rename_i w x
        unfold m_told_step
        have e3 : ixM (some (D.tup [.str w, x])) (intM 0) = some (.str w) := rfl
        have e4 : ixM (some (D.tup [.str w, x])) (intM 1) = some x := rfl
        have e8 : cmpM 1 .Eq (some (.str w)) (strM "told") = some (decide (w = "told")) := rfl
        rw [e3, e4, e8]
        split at hh
        · rename_i q
          subst q
          rw [rat_of hh]
          rfl
        · rename_i q
          rw [decide_eq_false q]
          rfl
      · rename_i w x y
        unfold m_told_step
        have e3 : ixM (some (D.tup [.str w, x, y])) (intM 0) = some (.str w) := rfl
        have e8 : cmpM 1 .Eq (some (.str w)) (strM "told") = some (decide (w = "told")) := rfl
        rw [e3, e8, decide_eq_false (of_decide_eq_true hh)]
        rfl
      · cases hh
    · cases h
  · cases h
def fl11 : FtL := ("is_row", g_is_row) :: ("told_row", g_told_row) :: ("is_letter_of", g_is_letter_of) :: ("term_length", g_term_length) :: ("is_step", g_is_step) :: ("told_step", g_told_step) :: fl10
def N_is_word_of : List Str := ["columns", "value", "letter"]
def m_is_word_of (v_columns v_value : D) : Option D :=
  iteO (orO (notO (truM ((((some v_value)).bind fun d => isi0 d .tuple).map D.bl))) (cmpM 1 .Gt (((argC (some v_value) arg0)).bind gLen) (intM 8)))
    (bindO (some (D.bl false)) some)
    (bindO (((argC (lcM (fun v_letter => (((argC (some v_columns) (argC (some v_letter) arg0))).bind g_is_letter_of)) (inM (some v_value))) arg0)).bind gAll) some)
theorem mq_is_word_of (v_columns v_value : D) : semK ⟨1, N_is_word_of, ftOf fl11, gcB⟩ 40 40 s_is_word_of 2 [v_columns, v_value] = m_is_word_of v_columns v_value := by kernel_rfl
def N_are_steps : List Str := ["columns", "value", "position", "step"]
def m_are_steps (v_columns v_value : D) : Option D :=
  iteO (orO (notO (truM (((argC (some v_value) arg0)).bind g_is_list))) (notO (chainM 1 .LtE .LtE (intM 1) (((argC (some v_value) arg0)).bind gLen) (intM 200))))
    (bindO (some (D.bl false)) some)
    (bindO (((argC (lcT (.inr [2, 3]) [(some v_columns), (some v_value), none, none] (fun Λ1 => (((argC (Λ1.getD 0 none) (argC (Λ1.getD 2 none) (argC (Λ1.getD 3 none) arg0)))).bind g_is_step)) (bindO (some v_value) enumO)) arg0)).bind gAll) some)
theorem mq_are_steps (v_columns v_value : D) : semK ⟨1, N_are_steps, ftOf fl11, gcB⟩ 40 40 s_are_steps 2 [v_columns, v_value] = m_are_steps v_columns v_value := by kernel_rfl
def N_is_lot : List Str := ["columns", "value"]
def m_is_lot (v_columns v_value : D) : Option D :=
  iteO (orO (notO (truM ((((some v_value)).bind fun d => isi0 d .tuple).map D.bl))) (orO (cmpM 1 .NotEq (((argC (some v_value) arg0)).bind gLen) (intM 2)) (notO (truM (((argC (some v_columns) (argC (ixM (some v_value) (intM 0)) arg0))).bind g_is_row)))))
    (bindO (some (D.bl false)) some)
    (bindO (bindO (((argC (ixM (some v_value) (intM 1)) arg0)).bind g_is_count) (andV1 ((cmpM 1 .LtE (ixM (some v_value) (intM 1)) (intM (10 ^ 30))).map D.bl))) some)
theorem mq_is_lot (v_columns v_value : D) : semK ⟨1, N_is_lot, ftOf fl11, gcB⟩ 40 40 s_is_lot 2 [v_columns, v_value] = m_is_lot v_columns v_value := by kernel_rfl
def N_Table_init : List Str := ["self", "columns", "rows", "row"]
def m_Table_init (v_columns v_rows : D) : Option (List D) :=
  bindO (((argC (some v_columns) arg0)).bind g_want_columns) fun _ =>
  (iteO (orO (notO (truM (((argC (some v_rows) arg0)).bind g_is_list))) (orO (cmpM 1 .Gt (((argC (some v_rows) arg0)).bind gLen) (intM 40)) (notO (truM (((argC (lcM (fun v_row => (((argC (some v_columns) (argC (some v_row) arg0))).bind g_is_row)) (inM (some v_rows))) arg0)).bind gAll)))))
    (none)
    (bindO (some v_columns) fun f_own_columns =>
    (bindO (((argC (lcM (fun v_row => (((argC (some v_row) arg0)).bind g_told_row)) (inM (some v_rows))) arg0)).bind gTuple) fun f_own_rows =>
    (some [f_own_columns, f_own_rows]))))
theorem mq_Table_init (x : Addr) (v_columns v_rows : D) : semI ⟨1, N_Table_init, ftOf fl11, gcB⟩ 40 40 s_Table_init 3 .table x [v_columns, v_rows] = bindO (m_Table_init v_columns v_rows) (lenOk .table) := by kernel_rfl
end Ag
set_option Elab.async false
set_option linter.all false
set_option autoImplicit false
set_option maxRecDepth 100000
set_option maxHeartbeats 1000000
namespace Ag
open PySem PySem.Spec L2 TL
theorem lcT_i {α : Type} {t : Tg} {L : DEnv} {h : DEnv → Option D} {i f : α → D} : ∀ {l : List α}, (∀ a ∈ l, ∃ Γ', tgSet t (i a) L = some Γ' ∧ h Γ' = some (f a)) → lcT t L h (some (l.map i)) = some (.lst (l.map f)) := by
  have key : ∀ {l : List α}, (∀ a ∈ l, ∃ Γ', tgSet t (i a) L = some Γ' ∧ h Γ' = some (f a)) → mapLC t L (fun _ => some true) h (l.map i) = some (l.map f) := by
    intro l
    induction l with
    | nil => intro _; rfl
    | cons a r ih =>
      intro hl
      obtain ⟨Γ', h1, h2⟩ := hl a List.mem_cons_self
      rw [List.map_cons, List.map_cons, mapLC_cons, h1]
      show (match h Γ', mapLC t L (fun _ => some true) h (r.map i) with
        | some v, some vs => some (v :: vs)
        | _, _ => none) = _
      rw [h2, ih fun b hb => hl b (List.mem_cons_of_mem _ hb)]
  intro l hl
  unfold lcT
  dsimp only
  rw [key hl]
  rfl
def letRight (c : Int) : D → Bool
  | .tup ds => decide ((ds.length : Nat) = c) && ds.all powOk
  | _ => false
def wordRight (c : Int) : D → Bool
  | .tup ws => decide (ws.length ≤ 8) && ws.all (letRight c)
  | _ => false
theorem powOk_int {d : D} (h : powOk d = true) : isInt d = true := by
  unfold powOk at h
  split at h
  · rfl
  · cases h
theorem g_let {c : Int} {d : D} (h : letRight c d = true) : (argC (some (.int c)) (argC (some d) arg0)).bind g_is_letter_of = some (.bl true) := by
  unfold letRight at h
  split at h
  · rename_i ds
    rw [Bool.and_eq_true] at h
    show g_is_letter_of [.int c, .tup ds] = _
    unfold g_is_letter_of
    dsimp only
    rw [if_pos (List.all_eq_true.mpr fun d hd => powOk_int (List.all_eq_true.mp h.2 d hd)), h.1, h.2]
    rfl
  · cases h
def g_is_word_of : List D → Option D
  | [.int c, d] => if wordRight c d = true then some (.bl true) else none
  | _ => none
theorem is_word_true {c : Int} {d : D} (h : wordRight c d = true) : m_is_word_of (.int c) d = some (.bl true) := by
  unfold wordRight at h
  split at h
  · rename_i ws
    rw [Bool.and_eq_true] at h
    unfold m_is_word_of
    have h8 := of_decide_eq_true h.1
    have e1 : notO (truM (((some (D.tup ws)).bind fun d => isi0 d .tuple).map D.bl)) = some false := rfl
    have e2 : cmpM 1 .Gt ((argC (some (D.tup ws)) arg0).bind gLen) (intM 8) = some (decide ((8 : Int) < (ws.length : Nat))) := rfl
    have e3 : (argC (lcM (fun v_letter => (((argC (some (.int c)) (argC (some v_letter) arg0))).bind g_is_letter_of)) (inM (some (.tup ws)))) arg0).bind gAll = some (.bl (ws.all fun _ => true)) := all_lcD fun d hd => g_let (List.all_eq_true.mp h.2 d hd)
    have e4 : (ws.all fun _ => true) = true := List.all_eq_true.mpr fun _ _ => rfl
    rw [e1, e2, e3, e4, decide_eq_false (by omega)]
    rfl
  · cases h
theorem is_word_of_plain {ds : List D} {d : D} (h : g_is_word_of ds = some d) : semD ⟨1, N_is_word_of, ftOf fl11, gcB⟩ 40 40 s_is_word_of 2 ds = some d := by
  unfold g_is_word_of at h
  split at h
  · split at h
    · rename_i hh
      cases h
      rw [semD_K, mq_is_word_of, is_word_true hh]
    · cases h
  · cases h
def stepsOk (c : Int) : Nat → List D → Bool
  | _, [] => true
  | n, d :: r => stepOk c (n : Nat) d && stepsOk c (n + 1) r
theorem stepsOk_at {c : Int} : ∀ {ds : List D} {n : Nat}, stepsOk c n ds = true → ∀ z ∈ ds.zipIdx n, stepOk c (z.2 : Nat) z.1 = true
  | [], _, _, z, hz => by cases hz
  | d :: r, n, h, z, hz => by
    have h : (stepOk c (n : Nat) d && stepsOk c (n + 1) r) = true := h
    rw [Bool.and_eq_true] at h
    rw [List.zipIdx_cons] at hz
    rcases List.mem_cons.mp hz with rfl | hz
    · exact h.1
    · exact stepsOk_at h.2 z hz
def progRight (c : Int) (ds : List D) : Bool := decide (1 ≤ ds.length) && decide (ds.length ≤ 200) && stepsOk c 0 ds
def g_are_steps : List D → Option D
  | [.int c, .lst ds] => if progRight c ds = true then some (.bl true) else none
  | _ => none
theorem are_steps_plain {ds : List D} {d : D} (h : g_are_steps ds = some d) : semD ⟨1, N_are_steps, ftOf fl11, gcB⟩ 40 40 s_are_steps 2 ds = some d := by
  unfold g_are_steps at h
  split at h
  · rename_i c ds
    split at h
    · rename_i hh
      cases h
      unfold progRight at hh
      rw [Bool.and_eq_true, Bool.and_eq_true] at hh
      obtain ⟨⟨h1, h2⟩, h3⟩ := hh
      have h1 := of_decide_eq_true h1
      have h2 := of_decide_eq_true h2
      rw [semD_K, mq_are_steps]
      unfold m_are_steps
      have e1 : notO (truM ((argC (some (D.lst ds)) arg0).bind g_is_list)) = some false := rfl
      have e2 : chainM 1 .LtE .LtE (intM 1) ((argC (some (D.lst ds)) arg0).bind gLen) (intM 200) = andO (some (decide ((1 : Int) ≤ (ds.length : Nat)))) (some (decide (((ds.length : Nat) : Int) ≤ 200))) := rfl
      have e3 : lcT (.inr [2, 3]) [some (.int c), some (.lst ds), none, none] (fun Λ1 => (((argC (Λ1.getD 0 none) (argC (Λ1.getD 2 none) (argC (Λ1.getD 3 none) arg0)))).bind g_is_step)) (bindO (some (.lst ds)) enumO) = some (.lst (ds.zipIdx.map fun _ => .bl true)) := by
        show lcT _ _ _ (some (ds.zipIdx.map fun z => D.tup [.int (z.2 : Nat), z.1])) = _
        refine lcT_i fun z hz => ⟨_, rfl, ?_⟩
        show g_is_step [.int c, .int (z.2 : Nat), z.1] = _
        unfold g_is_step
        dsimp only
        rw [if_pos (stepsOk_at h3 z hz)]
      have e4 : (argC (some (D.lst (ds.zipIdx.map fun _ => .bl true))) arg0).bind gAll = some (.bl (ds.zipIdx.all fun _ => true)) := gAll_map (fun _ => true) ds.zipIdx
      have e5 : (ds.zipIdx.all fun _ => true) = true := List.all_eq_true.mpr fun _ _ => rfl
      rw [e1, e2, e3, e4, e5, decide_eq_true (by omega), decide_eq_true (by omega)]
      rfl
    · cases h
  · cases h
def rowRight (c : Int) : D → Bool
  | .lst ds => ds.all isRat && decide ((ds.length : Nat) = c)
  | _ => false
theorem g_row_r {c : Int} {d : D} (h : rowRight c d = true) : (argC (some (.int c)) (argC (some d) arg0)).bind g_is_row = some (.bl true) := by
  unfold rowRight at h
  split at h
  · rename_i ds
    rw [Bool.and_eq_true] at h
    show g_is_row [.int c, .lst ds] = _
    unfold g_is_row
    dsimp only
    rw [if_pos h.1, h.2]
  · cases h
def lotRight (c : Int) : D → Bool
  | .tup [r, .int m] => rowRight c r && (decide (0 ≤ m) && decide (m ≤ 10 ^ 30))
  | _ => false
def g_is_lot : List D → Option D
  | [.int c, d] => if lotRight c d = true then some (.bl true) else none
  | _ => none
theorem is_lot_plain {ds : List D} {d : D} (h : g_is_lot ds = some d) : semD ⟨1, N_is_lot, ftOf fl11, gcB⟩ 40 40 s_is_lot 2 ds = some d := by
  unfold g_is_lot at h
  split at h
  · rename_i c d0
    split at h
    · rename_i hh
      cases h
      unfold lotRight at hh
      split at hh
      · rename_i r m
        rw [Bool.and_eq_true, Bool.and_eq_true] at hh
        obtain ⟨h1, h2, h3⟩ := hh
        rw [semD_K, mq_is_lot]
        unfold m_is_lot
        have e1 : notO (truM (((some (D.tup [r, .int m])).bind fun d => isi0 d .tuple).map D.bl)) = some false := rfl
        have e2 : cmpM 1 .NotEq ((argC (some (D.tup [r, .int m])) arg0).bind gLen) (intM 2) = some false := rfl
        have e3 : ixM (some (D.tup [r, .int m])) (intM 0) = some r := rfl
        have e4 : ixM (some (D.tup [r, .int m])) (intM 1) = some (.int m) := rfl
        have e5 : (argC (some (D.int m)) arg0).bind g_is_count = some (.bl (decide (0 ≤ m))) := rfl
        have e6 : cmpM 1 .LtE (some (.int m)) (intM (10 ^ 30)) = some (decide (m ≤ 10 ^ 30)) := rfl
        rw [e1, e2, e3, e4, e5, e6, g_row_r h1, h2, h3]
        rfl
      · cases hh
    · cases h
  · cases h
/-! ### Table -/
def tupOf : D → D
  | .lst ds => .tup ds
  | d => d
def tableRight (c : Int) (rows : List D) : Bool := decide (0 ≤ c) && decide (c ≤ 3) && (decide (rows.length ≤ 40) && rows.all (rowRight c))
def g_Table : List D → Option D
  | [.int c, .lst rows] => if tableRight c rows = true then some (.ins .table [.int c, .tup (rows.map tupOf)]) else none
  | _ => none
theorem g_told {c : Int} {d : D} (h : rowRight c d = true) : (argC (some d) arg0).bind g_told_row = some (tupOf d) := by
  unfold rowRight at h
  split at h
  · rename_i ds
    rw [Bool.and_eq_true] at h
    show g_told_row [.lst ds] = _
    unfold g_told_row
    dsimp only
    rw [if_pos h.1]
    rfl
  · cases h
theorem table_make {ds : List D} {d : D} (h : g_Table ds = some d) : ∃ out, d = .ins .table out ∧ ∀ x, semI ⟨1, N_Table_init, ftOf fl11, gcB⟩ 40 40 s_Table_init 3 .table x ds = some out := by
  unfold g_Table at h
  split at h
  · rename_i c rows
    split at h
    · rename_i hh
      cases h
      refine ⟨_, rfl, fun x => ?_⟩
      unfold tableRight at hh
      simp only [Bool.and_eq_true, decide_eq_true_eq] at hh
      obtain ⟨⟨h0, h3⟩, h40, hr⟩ := hh
      rw [mq_Table_init]
      unfold m_Table_init
      have e0 : (argC (some (D.int c)) arg0).bind g_want_columns = some .non := if_pos ⟨h0, h3⟩
      have e1 : notO (truM ((argC (some (D.lst rows)) arg0).bind g_is_list)) = some false := rfl
      have e2 : cmpM 1 .Gt ((argC (some (D.lst rows)) arg0).bind gLen) (intM 40) = some (decide ((40 : Int) < (rows.length : Nat))) := rfl
      have e3 : (argC (lcM (fun v_row => (((argC (some (.int c)) (argC (some v_row) arg0))).bind g_is_row)) (inM (some (.lst rows)))) arg0).bind gAll = some (.bl (rows.all fun _ => true)) := all_lcD fun d hd => g_row_r (List.all_eq_true.mp hr d hd)
      have e4 : (rows.all fun _ => true) = true := List.all_eq_true.mpr fun _ _ => rfl
      have e5 : lcM (fun v_row => (((argC (some v_row) arg0)).bind g_told_row)) (inM (some (.lst rows))) = some (.lst (rows.map tupOf)) := lcM_s fun d hd => g_told (List.all_eq_true.mp hr d hd)
      rw [e0, e1, e2, e3, e4, e5, decide_eq_false (by omega)]
      rfl
    · cases h
  · cases h
def fl12 : FtL := ("is_word_of", g_is_word_of) :: ("are_steps", g_are_steps) :: ("is_lot", g_is_lot) :: fl11
def N_Program_init : List Str := ["self", "columns", "steps", "step"]
def m_Program_init (v_columns v_steps : D) : Option (List D) :=
  bindO (((argC (some v_columns) arg0)).bind g_want_columns) fun _ =>
  (iteO (notO (truM (((argC (some v_columns) (argC (some v_steps) arg0))).bind g_are_steps)))
    (none)
    (bindO (some v_columns) fun f_own_columns =>
    (bindO (((argC (lcM (fun v_step => (((argC (some v_step) arg0)).bind g_told_step)) (inM (some v_steps))) arg0)).bind gTuple) fun f_own_steps =>
    (some [f_own_columns, f_own_steps]))))
theorem mq_Program_init (x : Addr) (v_columns v_steps : D) : semI ⟨1, N_Program_init, ftOf fl12, gcB⟩ 40 40 s_Program_init 3 .program x [v_columns, v_steps] = bindO (m_Program_init v_columns v_steps) (lenOk .program) := by kernel_rfl
def N_Runs_init : List Str := ["self", "columns", "lots", "one", "row", "times"]
def m_Runs_init (x : Addr) (v_columns v_lots : D) : Option (List D) :=
  bindO (((argC (some v_columns) arg0)).bind g_want_columns) fun _ =>
  (iteO (orO (notO (truM (((argC (some v_lots) arg0)).bind g_is_list))) (orO (cmpM 1 .Gt (((argC (some v_lots) arg0)).bind gLen) (intM 12)) (notO (truM (((argC (lcM (fun v_one => (((argC (some v_columns) (argC (some v_one) arg0))).bind g_is_lot)) (inM (some v_lots))) arg0)).bind gAll)))))
    (none)
    (bindO (some v_columns) fun f_own_columns =>
    (bindO (((argC (lcT (.inr [4, 5]) [(some (.obj x)), (some v_columns), (some v_lots), none, none, none] (fun Λ1 => (tupM (argC (((argC (Λ1.getD 4 none) arg0)).bind g_told_row) (argC (Λ1.getD 5 none) arg0)))) (inM (some v_lots))) arg0)).bind gTuple) fun f_own_lots =>
    (some [f_own_columns, f_own_lots]))))
theorem mq_Runs_init (x : Addr) (v_columns v_lots : D) : semI ⟨1, N_Runs_init, ftOf fl12, gcB⟩ 40 40 s_Runs_init 3 .runs x [v_columns, v_lots] = bindO (m_Runs_init x v_columns v_lots) (lenOk .runs) := by kernel_rfl
def N_is_word_part : List Str := ["columns", "value"]
def m_is_word_part (v_columns v_value : D) : Option D :=
  bindO (bindO ((((some v_value)).bind fun d => isi0 d .tuple).map D.bl) (andV1 (bindO ((cmpM 1 .Eq (((argC (some v_value) arg0)).bind gLen) (intM 2)).map D.bl) (andV1 (bindO (((argC (some v_columns) (argC (ixM (some v_value) (intM 0)) arg0))).bind g_is_word_of) (andV1 (((argC (ixM (some v_value) (intM 1)) arg0)).bind g_is_number))))))) some
theorem mq_is_word_part (v_columns v_value : D) : semK ⟨1, N_is_word_part, ftOf fl12, gcB⟩ 40 40 s_is_word_part 2 [v_columns, v_value] = m_is_word_part v_columns v_value := by kernel_rfl
def N_is_term : List Str := ["columns", "value", "left", "own", "right"]
def m_is_term (v_columns v_value : D) : Option D :=
  iteO (orO (notO (truM ((((some v_value)).bind fun d => isi0 d .tuple).map D.bl))) (cmpM 1 .NotEq (((argC (some v_value) arg0)).bind gLen) (intM 3)))
    (bindO (some (D.bl false)) some)
    (bindO (some v_value) fun d1 => bindO (tgSet (.inr [2, 3, 4]) d1 [(some v_columns), (some v_value), none, none, none]) fun Γ1 =>
    (iteO (orO (notO (truM (((argC (Γ1.getD 0 none) (argC (Γ1.getD 2 none) arg0))).bind g_is_word_of))) (orO (notO (truM (((argC (Γ1.getD 0 none) (argC (Γ1.getD 3 none) arg0))).bind g_is_letter_of))) (notO (truM (((argC (Γ1.getD 0 none) (argC (Γ1.getD 4 none) arg0))).bind g_is_word_of)))))
      (bindO (some (D.bl false)) some)
      (bindO ((cmpM 1 .LtE (((argC (Γ1.getD 1 none) arg0)).bind g_term_length) (intM 8)).map D.bl) some)))
theorem mq_is_term (v_columns v_value : D) : semK ⟨1, N_is_term, ftOf fl12, gcB⟩ 40 40 s_is_term 2 [v_columns, v_value] = m_is_term v_columns v_value := by kernel_rfl
end Ag
set_option Elab.async false
set_option linter.all false
set_option autoImplicit false
set_option maxRecDepth 100000
set_option maxHeartbeats 1000000
namespace Ag
open PySem PySem.Spec L2 TL
def colsOk (c : Int) : Bool := decide (0 ≤ c) && decide (c ≤ 3)
theorem g_want {c : Int} (h : colsOk c = true) : (argC (some (D.int c)) arg0).bind g_want_columns = some .non := by
  unfold colsOk at h
  rw [Bool.and_eq_true] at h
  exact if_pos ⟨of_decide_eq_true h.1, of_decide_eq_true h.2⟩
theorem stepOk_in {c a : Int} {d : D} (h : stepOk c a d = true) : stepIn d = true := by
  unfold stepOk at h
  split at h
  · rename_i w x
    show (if w = "told" then isRat x else true) = true
    split
    · rename_i q
      rwa [if_pos q] at h
    · rfl
  · rename_i w x y
    rw [Bool.and_eq_true] at h
    have h1 := of_decide_eq_true h.1
    refine decide_eq_true ?_
    rcases h1 with rfl | rfl | rfl <;> decide
  · cases h
theorem stepsOk_in {c : Int} : ∀ {ds : List D} {n : Nat}, stepsOk c n ds = true → ∀ d ∈ ds, stepIn d = true
  | [], _, _, d, hd => by cases hd
  | e :: r, n, h, d, hd => by
    have h : (stepOk c (n : Nat) e && stepsOk c (n + 1) r) = true := h
    rw [Bool.and_eq_true] at h
    rcases List.mem_cons.mp hd with rfl | hd
    · exact stepOk_in h.1
    · exact stepsOk_in h.2 d hd
def g_Program : List D → Option D
  | [.int c, .lst steps] => if (colsOk c && progRight c steps) = true then some (.ins .program [.int c, .tup steps]) else none
  | _ => none
theorem program_make {ds : List D} {d : D} (h : g_Program ds = some d) : ∃ out, d = .ins .program out ∧ ∀ x, semI ⟨1, N_Program_init, ftOf fl12, gcB⟩ 40 40 s_Program_init 3 .program x ds = some out := by
  unfold g_Program at h
  split at h
  · rename_i c steps
    split at h
    · rename_i hh
      cases h
      refine ⟨_, rfl, fun x => ?_⟩
      rw [Bool.and_eq_true] at hh
      obtain ⟨h1, h2⟩ := hh
      rw [mq_Program_init]
      unfold m_Program_init
      have e1 : (argC (some (D.int c)) (argC (some (.lst steps)) arg0)).bind g_are_steps = some (.bl true) := if_pos h2
      unfold progRight at h2
      rw [Bool.and_eq_true, Bool.and_eq_true] at h2
      have e5 : lcM (fun v_step => (((argC (some v_step) arg0)).bind g_told_step)) (inM (some (.lst steps))) = some (.lst steps) := lcM_id fun d hd => if_pos (stepsOk_in h2.2 d hd)
      rw [g_want h1, e1, e5]
      rfl
    · cases h
  · cases h
def lotTup : D → D
  | .tup [r, m] => .tup [tupOf r, m]
  | d => d
def runsRight (c : Int) (lots : List D) : Bool := decide (lots.length ≤ 12) && lots.all (lotRight c)
def g_Runs : List D → Option D
  | [.int c, .lst lots] => if (colsOk c && runsRight c lots) = true then some (.ins .runs [.int c, .tup (lots.map lotTup)]) else none
  | _ => none
theorem runs_make {ds : List D} {d : D} (h : g_Runs ds = some d) : ∃ out, d = .ins .runs out ∧ ∀ x, semI ⟨1, N_Runs_init, ftOf fl12, gcB⟩ 40 40 s_Runs_init 3 .runs x ds = some out := by
  unfold g_Runs at h
  split at h
  · rename_i c lots
    split at h
    · rename_i hh
      cases h
      refine ⟨_, rfl, fun x => ?_⟩
      rw [Bool.and_eq_true] at hh
      obtain ⟨h1, h2⟩ := hh
      unfold runsRight at h2
      rw [Bool.and_eq_true] at h2
      obtain ⟨h2, h3⟩ := h2
      have h2 := of_decide_eq_true h2
      rw [mq_Runs_init]
      unfold m_Runs_init
      have e1 : notO (truM ((argC (some (D.lst lots)) arg0).bind g_is_list)) = some false := rfl
      have e2 : cmpM 1 .Gt ((argC (some (D.lst lots)) arg0).bind gLen) (intM 12) = some (decide ((12 : Int) < (lots.length : Nat))) := rfl
      have e3 : (argC (lcM (fun v_one => (((argC (some (.int c)) (argC (some v_one) arg0))).bind g_is_lot)) (inM (some (.lst lots)))) arg0).bind gAll = some (.bl (lots.all fun _ => true)) := all_lcD fun d hd => if_pos (List.all_eq_true.mp h3 d hd)
      have e4 : (lots.all fun _ => true) = true := List.all_eq_true.mpr fun _ _ => rfl
      have e5 : lcT (.inr [4, 5]) [(some (.obj x)), (some (.int c)), (some (.lst lots)), none, none, none] (fun Λ1 => (tupM (argC (((argC (Λ1.getD 4 none) arg0)).bind g_told_row) (argC (Λ1.getD 5 none) arg0)))) (inM (some (.lst lots))) = some (.lst (lots.map lotTup)) := by
        have := lcT_i (t := .inr [4, 5]) (L := [(some (.obj x)), (some (.int c)), (some (.lst lots)), none, none, none]) (h := fun Λ1 => (tupM (argC (((argC (Λ1.getD 4 none) arg0)).bind g_told_row) (argC (Λ1.getD 5 none) arg0)))) (i := id) (f := lotTup) (l := lots) fun d hd => by
          have hr := List.all_eq_true.mp h3 d hd
          unfold lotRight at hr
          split at hr
          · rename_i r m
            rw [Bool.and_eq_true] at hr
            refine ⟨_, rfl, ?_⟩
            show tupM (argC ((argC (some r) arg0).bind g_told_row) (argC (some (.int m)) arg0)) = _
            rw [g_told hr.1]
            rfl
          · cases hr
        rw [List.map_id] at this
        exact this
      rw [g_want h1, e1, e2, e3, e4, e5, decide_eq_false (by omega)]
      rfl
    · cases h
  · cases h
/-! ### parts -/
def partRight (c : Int) : D → Bool
  | .tup [w, q] => wordRight c w && isRat q
  | _ => false
def g_is_word_part : List D → Option D
  | [.int c, d] => if partRight c d = true then some (.bl true) else none
  | _ => none
theorem g_word_r {c : Int} {d : D} (h : wordRight c d = true) : (argC (some (.int c)) (argC (some d) arg0)).bind g_is_word_of = some (.bl true) := if_pos h
theorem is_word_part_plain {ds : List D} {d : D} (h : g_is_word_part ds = some d) : semD ⟨1, N_is_word_part, ftOf fl12, gcB⟩ 40 40 s_is_word_part 2 ds = some d := by
  unfold g_is_word_part at h
  split at h
  · rename_i c d0
    split at h
    · rename_i hh
      cases h
      unfold partRight at hh
      split at hh
      · rename_i w q
        rw [Bool.and_eq_true] at hh
        rw [semD_K, mq_is_word_part]
        unfold m_is_word_part
        have e3 : ixM (some (D.tup [w, q])) (intM 0) = some w := rfl
        have e4 : ixM (some (D.tup [w, q])) (intM 1) = some q := rfl
        rw [e3, e4, g_word_r hh.1, rat_num hh.2]
        rfl
      · cases hh
    · cases h
  · cases h
def lenT : D → Nat
  | .tup ds => ds.length
  | _ => 0
def termRight (c : Int) : D → Bool
  | .tup [a, l, b] => wordRight c a && (letRight c l && (wordRight c b && decide (lenT a + 1 + lenT b ≤ 8)))
  | _ => false
def g_is_term : List D → Option D
  | [.int c, d] => if termRight c d = true then some (.bl true) else none
  | _ => none
theorem word_tup {c : Int} {d : D} (h : wordRight c d = true) : ∃ ws, d = .tup ws := by
  unfold wordRight at h
  split at h
  · exact ⟨_, rfl⟩
  · cases h
theorem is_term_plain {ds : List D} {d : D} (h : g_is_term ds = some d) : semD ⟨1, N_is_term, ftOf fl12, gcB⟩ 40 40 s_is_term 2 ds = some d := by
  unfold g_is_term at h
  split at h
  · rename_i c d0
    split at h
    · rename_i hh
      cases h
      unfold termRight at hh
      split at hh
      · rename_i a l b
        simp only [Bool.and_eq_true, decide_eq_true_eq] at hh
        obtain ⟨h1, h2, h3, h4⟩ := hh
        obtain ⟨wa, rfl⟩ := word_tup h1
        obtain ⟨wb, rfl⟩ := word_tup h3
        have h4 : wa.length + 1 + wb.length ≤ 8 := h4
        rw [semD_K, mq_is_term]
        unfold m_is_term
        have e1 : notO (truM (((some (D.tup [.tup wa, l, .tup wb])).bind fun d => isi0 d .tuple).map D.bl)) = some false := rfl
        have e2 : cmpM 1 .NotEq ((argC (some (D.tup [.tup wa, l, .tup wb])) arg0).bind gLen) (intM 3) = some false := rfl
        rw [e1, e2]
        show iteO (orO (notO (truM ((argC (some (D.int c)) (argC (some (.tup wa)) arg0)).bind g_is_word_of))) (orO (notO (truM ((argC (some (D.int c)) (argC (some l) arg0)).bind g_is_letter_of))) (notO (truM ((argC (some (D.int c)) (argC (some (.tup wb)) arg0)).bind g_is_word_of)))))
          _ (bindO ((cmpM 1 .LtE (((argC (some (D.tup [.tup wa, l, .tup wb])) arg0)).bind g_term_length) (intM 8)).map D.bl) some) = _
        have e3 : cmpM 1 .LtE (((argC (some (D.tup [.tup wa, l, .tup wb])) arg0)).bind g_term_length) (intM 8) = some (decide (((wa.length : Nat) : Int) + 1 + ((wb.length : Nat) : Int) ≤ 8)) := rfl
        rw [g_word_r h1, g_word_r h3, g_let h2, e3, decide_eq_true (by omega)]
        rfl
      · cases hh
    · cases h
  · cases h
def fl13 : FtL := ("is_word_part", g_is_word_part) :: ("is_term", g_is_term) :: fl12
def N_is_term_part : List Str := ["columns", "value"]
def m_is_term_part (v_columns v_value : D) : Option D :=
  bindO (bindO ((((some v_value)).bind fun d => isi0 d .tuple).map D.bl) (andV1 (bindO ((cmpM 1 .Eq (((argC (some v_value) arg0)).bind gLen) (intM 2)).map D.bl) (andV1 (bindO (((argC (some v_columns) (argC (ixM (some v_value) (intM 0)) arg0))).bind g_is_term) (andV1 (((argC (ixM (some v_value) (intM 1)) arg0)).bind g_is_number))))))) some
theorem mq_is_term_part (v_columns v_value : D) : semK ⟨1, N_is_term_part, ftOf fl13, gcB⟩ 40 40 s_is_term_part 2 [v_columns, v_value] = m_is_term_part v_columns v_value := by kernel_rfl
def N_Table_eq : List Str := ["self", "other"]
def m_Table_eq (v_self v_other : D) : Option D :=
  iteO (notO (truM ((((some v_other)).bind fun d => isiC d .table).map D.bl)))
    (bindO (some (D.bl false)) some)
    (bindO (bindO ((cmpM 1 .Eq (bindO (some v_self) (fldD "own_columns")) (bindO (some v_other) (fldD "own_columns"))).map D.bl) (andV1 ((cmpM 1 .Eq (bindO (some v_self) (fldD "own_rows")) (bindO (some v_other) (fldD "own_rows"))).map D.bl))) some)
theorem mq_Table_eq (v_self v_other : D) : semK ⟨1, N_Table_eq, ftOf fl13, gcB⟩ 40 40 s_Table_eq 2 [v_self, v_other] = m_Table_eq v_self v_other := by kernel_rfl
def N_Program_eq : List Str := ["self", "other"]
def m_Program_eq (v_self v_other : D) : Option D :=
  iteO (notO (truM ((((some v_other)).bind fun d => isiC d .program).map D.bl)))
    (bindO (some (D.bl false)) some)
    (bindO (bindO ((cmpM 1 .Eq (bindO (some v_self) (fldD "own_columns")) (bindO (some v_other) (fldD "own_columns"))).map D.bl) (andV1 ((cmpM 1 .Eq (bindO (some v_self) (fldD "own_steps")) (bindO (some v_other) (fldD "own_steps"))).map D.bl))) some)
theorem mq_Program_eq (v_self v_other : D) : semK ⟨1, N_Program_eq, ftOf fl13, gcB⟩ 40 40 s_Program_eq 2 [v_self, v_other] = m_Program_eq v_self v_other := by kernel_rfl
def N_Runs_eq : List Str := ["self", "other"]
def m_Runs_eq (v_self v_other : D) : Option D :=
  iteO (notO (truM ((((some v_other)).bind fun d => isiC d .runs).map D.bl)))
    (bindO (some (D.bl false)) some)
    (bindO (bindO ((cmpM 1 .Eq (bindO (some v_self) (fldD "own_columns")) (bindO (some v_other) (fldD "own_columns"))).map D.bl) (andV1 ((cmpM 1 .Eq (bindO (some v_self) (fldD "own_lots")) (bindO (some v_other) (fldD "own_lots"))).map D.bl))) some)
theorem mq_Runs_eq (v_self v_other : D) : semK ⟨1, N_Runs_eq, ftOf fl13, gcB⟩ 40 40 s_Runs_eq 2 [v_self, v_other] = m_Runs_eq v_self v_other := by kernel_rfl
def N_Form_eq : List Str := ["self", "other"]
def m_Form_eq (v_self v_other : D) : Option D :=
  iteO (notO (truM ((((some v_other)).bind fun d => isiC d .form).map D.bl)))
    (bindO (some (D.bl false)) some)
    (bindO (bindO ((cmpM 1 .Eq (bindO (some v_self) (fldD "own_columns")) (bindO (some v_other) (fldD "own_columns"))).map D.bl) (andV1 ((cmpM 1 .Eq (bindO (some v_self) (fldD "own_parts")) (bindO (some v_other) (fldD "own_parts"))).map D.bl))) some)
theorem mq_Form_eq (v_self v_other : D) : semK ⟨1, N_Form_eq, ftOf fl13, gcB⟩ 40 40 s_Form_eq 2 [v_self, v_other] = m_Form_eq v_self v_other := by kernel_rfl
def N_Tally_eq : List Str := ["self", "other"]
def m_Tally_eq (v_self v_other : D) : Option D :=
  iteO (notO (truM ((((some v_other)).bind fun d => isiC d .tally).map D.bl)))
    (bindO (some (D.bl false)) some)
    (bindO (bindO ((cmpM 1 .Eq (bindO (some v_self) (fldD "own_columns")) (bindO (some v_other) (fldD "own_columns"))).map D.bl) (andV1 ((cmpM 1 .Eq (bindO (some v_self) (fldD "own_parts")) (bindO (some v_other) (fldD "own_parts"))).map D.bl))) some)
theorem mq_Tally_eq (v_self v_other : D) : semK ⟨1, N_Tally_eq, ftOf fl13, gcB⟩ 40 40 s_Tally_eq 2 [v_self, v_other] = m_Tally_eq v_self v_other := by kernel_rfl
end Ag
set_option Elab.async false
set_option linter.all false
set_option autoImplicit false
set_option maxRecDepth 100000
set_option maxHeartbeats 1000000
namespace Ag
open PySem PySem.Spec L2 TL
def termPartRight (c : Int) : D → Bool
  | .tup [t, q] => termRight c t && isRat q
  | _ => false
def g_is_term_part : List D → Option D
  | [.int c, d] => if termPartRight c d = true then some (.bl true) else none
  | _ => none
theorem g_term_r {c : Int} {d : D} (h : termRight c d = true) : (argC (some (.int c)) (argC (some d) arg0)).bind g_is_term = some (.bl true) := if_pos h
theorem is_term_part_plain {ds : List D} {d : D} (h : g_is_term_part ds = some d) : semD ⟨1, N_is_term_part, ftOf fl13, gcB⟩ 40 40 s_is_term_part 2 ds = some d := by
  unfold g_is_term_part at h
  split at h
  · rename_i c d0
    split at h
    · rename_i hh
      cases h
      unfold termPartRight at hh
      split at hh
      · rename_i w q
        rw [Bool.and_eq_true] at hh
        rw [semD_K, mq_is_term_part]
        unfold m_is_term_part
        have e3 : ixM (some (D.tup [w, q])) (intM 0) = some w := rfl
        have e4 : ixM (some (D.tup [w, q])) (intM 1) = some q := rfl
        rw [e3, e4, g_term_r hh.1, rat_num hh.2]
        rfl
      · cases hh
    · cases h
  · cases h
mutual
theorem beqDP : ∀ d : D, beqD d d = true
  | .non => rfl
  | .bl a => by show (a == a) = true; simp
  | .int a => decide_eq_true rfl
  | .str a => decide_eq_true rfl
  | .tup a => beqDsP a
  | .lst a => beqDsP a
  | .ins c a => by
    show (decide (c = c) && beqDs a a) = true
    rw [beqDsP a, decide_eq_true rfl]
    rfl
  | .emp => rfl
  | .obj a => decide_eq_true rfl
theorem beqDsP : ∀ d : List D, beqDs d d = true
  | [] => rfl
  | a :: r => by
    show (beqD a a && beqDs r r) = true
    rw [beqDP a, beqDsP r]
    rfl
end
theorem eqD_refl {dp : Nat} {d : D} (h1 : 1 ≤ dp) (hl : lvlD dp d = true) (hd : d.deep ≤ 8) : eqD dp d d = some true := by
  unfold eqD
  have hq : deepQ dp d d = some true := if_pos ⟨h1, beqDP d, hl, hd⟩
  have key : eq0D d d = some true ∨ eq0D d d = none := by
    cases d with
    | int i => exact .inl (congrArg some (decide_eq_true rfl))
    | str s => exact .inl (congrArg some (decide_eq_true rfl))
    | bl b => exact .inl (congrArg some (decide_eq_true rfl))
    | tup a =>
      have e : eq0D (.tup a) (.tup a) = match D.allStr a, D.allStr a with
        | some ss, some ts => some (decide (ss = ts))
        | _, _ => none := rfl
      rw [e]
      cases D.allStr a with
      | none => exact .inr rfl
      | some ss => exact .inl (congrArg some (decide_eq_true rfl))
    | lst a =>
      have e : eq0D (.lst a) (.lst a) = match D.allStr a, D.allStr a with
        | some ss, some ts => some (decide (ss = ts))
        | _, _ => none := rfl
      rw [e]
      cases D.allStr a with
      | none => exact .inr rfl
      | some ss => exact .inl (congrArg some (decide_eq_true rfl))
    | _ => exact .inr rfl
  rcases key with e | e
  · rw [e]
  · rw [e, hq]
theorem cmp_refl {d : D} (hl : lvlD 1 d = true) (hd : d.deep ≤ 8) : cmpM 1 .Eq (some d) (some d) = some true := eqD_refl (Nat.le_refl 1) hl hd
/-- two fields that are asked for -/
theorem two_eq {a b : D} (h1 : lvlDs 1 [a, b] = true) (h2 : D.deeps [a, b] ≤ 7) : bindO (bindO ((cmpM 1 .Eq (some a) (some a)).map D.bl) (andV1 ((cmpM 1 .Eq (some b) (some b)).map D.bl))) some = some (.bl true) := by
  have h1 : (lvlD 1 a && (lvlD 1 b && true)) = true := h1
  simp only [Bool.and_eq_true] at h1
  have h2 : max a.deep (max b.deep 0) ≤ 7 := h2
  rw [cmp_refl h1.1 (by omega), cmp_refl h1.2.1 (by omega)]
  rfl
theorem deeps_two {a b : D} {r : List D} (h : D.deeps (a :: b :: r) ≤ 7) : D.deeps [a, b] ≤ 7 := by
  have h : max a.deep (max b.deep (D.deeps r)) ≤ 7 := h
  show max a.deep (max b.deep 0) ≤ 7
  omega
theorem table_eq_plain {a b : D} (h1 : lvlDs 1 [a, b] = true) (h2 : D.deeps [a, b] ≤ 7) : semD ⟨1, N_Table_eq, ftOf fl13, gcB⟩ 40 40 s_Table_eq 2 [.ins .table [a, b], .ins .table [a, b]] = some (.bl true) := by
  rw [semD_K, mq_Table_eq]
  exact two_eq h1 h2
theorem program_eq_plain {a b : D} (h1 : lvlDs 1 [a, b] = true) (h2 : D.deeps [a, b] ≤ 7) : semD ⟨1, N_Program_eq, ftOf fl13, gcB⟩ 40 40 s_Program_eq 2 [.ins .program [a, b], .ins .program [a, b]] = some (.bl true) := by
  rw [semD_K, mq_Program_eq]
  exact two_eq h1 h2
theorem runs_eq_plain {a b : D} (h1 : lvlDs 1 [a, b] = true) (h2 : D.deeps [a, b] ≤ 7) : semD ⟨1, N_Runs_eq, ftOf fl13, gcB⟩ 40 40 s_Runs_eq 2 [.ins .runs [a, b], .ins .runs [a, b]] = some (.bl true) := by
  rw [semD_K, mq_Runs_eq]
  exact two_eq h1 h2
theorem form_eq_plain {a b : D} (h1 : lvlDs 1 [a, b] = true) (h2 : D.deeps [a, b] ≤ 7) : semD ⟨1, N_Form_eq, ftOf fl13, gcB⟩ 40 40 s_Form_eq 2 [.ins .form [a, b], .ins .form [a, b]] = some (.bl true) := by
  rw [semD_K, mq_Form_eq]
  exact two_eq h1 h2
theorem tally_eq_plain {a b d : D} (h1 : lvlDs 1 [a, b] = true) (h2 : D.deeps [a, b] ≤ 7) : semD ⟨1, N_Tally_eq, ftOf fl13, gcB⟩ 40 40 s_Tally_eq 2 [.ins .tally [a, b, d], .ins .tally [a, b, d]] = some (.bl true) := by
  rw [semD_K, mq_Tally_eq]
  exact two_eq h1 h2
def fl14 : FtL := ("is_term_part", g_is_term_part) :: fl13
end Ag
set_option Elab.async false
set_option linter.all false
set_option autoImplicit false
set_option maxRecDepth 100000
set_option maxHeartbeats 1000000
namespace GQ
open PySem PySem.SeqAt
open AutoSeq1 (wpAny_loadPart')
open MeetsSeq MeetsSeq2 MeetsSeq3 SeqRoads2
section
variable {prog : Program} {w : World} {A : Around} {R : Result → Shared → Prop}
theorem contains_loopG (l : Addr) (x : Value) (N : Nat) (b : Nat → Bool) (I : Nat → Shared → Prop)
    (hl : ∀ i s, I i s → ∃ (items : Array Value) (n : Nat), s.heap.get? l = some { cls := .type "list", data := .seq items n } ∧ items.size = N ∧ ∀ h1 : i < items.size, wpAny (model prog w) A.in1 (eqBool items[i] x) (fun r s' => r = b i ∧ I (i + 1) s') (fun e s' => R (.error e) s') s)
    (fin : ∀ i s, I i s → R (.ok (.ret (.bool ((List.range N).any b)))) s) (k : Nat) :
    ∀ i : Nat, N - i = k → i ≤ N → (∀ j, j < i → b j = false) → ∀ s, I i s →
      wpAny (model prog w) A.in1 (Builtin.«list.__contains__.loop» ⟨[.ref l, x, rawInt i], []⟩) (FinOf prog w A R) (fun e s' => R (.error e) s') s := by
  induction k with
  | zero =>
    intro i hk hi hb s h
    obtain ⟨items, n, hl1, hs1, _⟩ := hl _ _ h
    have hi' : i = N := by omega
    have hR := fin _ _ h
    have hf : (List.range N).any b = false := by
      rw [List.any_eq_false]
      intro j hj
      rw [hb j (by rw [hi']; exact List.mem_range.mp hj)]
      exact Bool.false_ne_true
    rw [hf] at hR
    obtain ⟨hp, g, d, tk, os⟩ := s
    wp_walk using wpAny_loadPart' hl1
    have hi1 : items[((i : Nat) : Int).toNat]? = none := by simp; omega
    rw [hi1]
    wp_walk
    exact hR
  | succ k ih =>
    intro i hk hi hb s h
    obtain ⟨items, n, hl1, hs1, turn⟩ := hl _ _ h
    have hlt : i < items.size := by omega
    have ht := turn hlt
    obtain ⟨hp, g, d, tk, os⟩ := s
    wp_walk using wpAny_loadPart' hl1
    have hi1 : items[((i : Nat) : Int).toNat]? = some items[i] := by simp [hlt]
    have hc : ((i : Int) + 1) = ((i + 1 : Nat) : Int) := by omega
    rw [hi1]
    refine wpAny_bind (wpAny_mono ht (fun r s2 h2 => ?_) fun _ _ x => x)
    obtain ⟨hr, h2⟩ := h2
    subst hr
    cases q : b i with
    | true =>
      have hR := fin _ _ h2
      have hf : (List.range N).any b = true := List.any_eq_true.mpr ⟨i, List.mem_range.mpr (by omega), q⟩
      rw [hf] at hR
      obtain ⟨hp2, g2, d2, tk2, os2⟩ := s2
      wp_walk
      exact hR
    | false =>
      have hrec := ih (i + 1) (by omega) (by omega) (fun j hj => by
        rcases Nat.lt_or_eq_of_le (Nat.le_of_lt_succ hj) with h' | h'
        · exact hb j h'
        · rw [h']; exact q) s2 h2
      obtain ⟨hp2, g2, d2, tk2, os2⟩ := s2
      wp_walk
      rw [hc]
      exact ⟨plainId_quiet plain_contains_loop _, codeAny_builtin entry_contains_loop (by
        rw [Around.under_plainId plain_contains_loop _]
        exact hrec)⟩
theorem list_containsG (l : Addr) (x : Value) (N : Nat) (b : Nat → Bool) (I : Nat → Shared → Prop)
    (hl : ∀ i s, I i s → ∃ (items : Array Value) (n : Nat), s.heap.get? l = some { cls := .type "list", data := .seq items n } ∧ items.size = N ∧ ∀ h1 : i < items.size, wpAny (model prog w) A.in1 (eqBool items[i] x) (fun r s' => r = b i ∧ I (i + 1) s') (fun e s' => R (.error e) s') s)
    (fin : ∀ i s, I i s → R (.ok (.ret (.bool ((List.range N).any b)))) s) {s : Shared} (h : I 0 s) :
    wpAny (model prog w) A.in1 (Builtin.«list.__contains__» ⟨[.ref l, x], []⟩) (FinOf prog w A R) (fun e s' => R (.error e) s') s := by
  obtain ⟨items, n, hl1, hs1, _⟩ := hl _ _ h
  have hrec := contains_loopG (A := A) (R := R) l x N b I hl fin _ 0 rfl (Nat.zero_le _) (fun j hj => absurd hj (Nat.not_lt_zero j)) s h
  obtain ⟨hp, g, d, tk, os⟩ := s
  wp_walk using wpAny_loadPart' hl1
  exact ⟨plainId_quiet plain_contains_loop _, codeAny_builtin entry_contains_loop (by
    rw [Around.under_plainId plain_contains_loop _]
    exact hrec)⟩
theorem tuple_containsG (l : Addr) (x : Value) (items : Array Value) (n : Nat) (dd : Option Addr) (sl : Array (Option Value)) (b : Nat → Bool) (I : Nat → Shared → Prop)
    (turn : ∀ i (h1 : i < items.size) s, I i s → wpAny (model prog w) A.in1 (eqBool items[i] x) (fun r s' => r = b i ∧ I (i + 1) s') (fun e s' => R (.error e) s') s)
    (fin : ∀ i s, I i s → R (.ok (.ret (.bool ((List.range items.size).any b)))) s) {s : Shared} (hl1 : s.heap.get? l = some { cls := .type "tuple", dict := dd, data := .seq items n, slots := sl }) (h : I 0 s) :
    wpAny (model prog w) A.in1 (Builtin.«tuple.__contains__» ⟨[.ref l, x], []⟩) (FinOf prog w A R) (fun e s' => R (.error e) s') s := by
  have h0 := h
  obtain ⟨hp, g, d, tk, os⟩ := s
  wp_walk using wpAny_loadPart' hl1, wpAny_forIn_array _ (fun rest c s' => c.1 = none ∧ ∃ i, rest = items.toList.drop i ∧ i ≤ items.size ∧ (∀ j, j < i → b j = false) ∧ I i s') _
  case turn =>
    rintro y rest c s' ⟨hb', i, hz, hi, hf, hI⟩
    have hlt : i < items.toList.length := by
      rcases Nat.lt_or_ge i items.toList.length with h' | h'
      · exact h'
      · rw [List.drop_of_length_le h'] at hz; cases hz
    have h1 : i < items.size := by simpa using hlt
    rw [List.drop_eq_getElem_cons hlt] at hz
    injection hz with hyx hrest
    have hy : y = items[i] := by simpa using hyx
    subst hy
    refine wpAny_bind (wpAny_mono (turn i h1 s' hI) (fun r s2 q2 => ?_) fun _ _ x => x)
    obtain ⟨hr, q2⟩ := q2
    subst hr
    cases q : b i with
    | true =>
      have hR := fin _ _ q2
      have hf : (List.range items.size).any b = true := List.any_eq_true.mpr ⟨i, List.mem_range.mpr h1, q⟩
      rw [hf] at hR
      wp_walk
      exact hR
    | false =>
      wp_walk
      refine ⟨rfl, i + 1, hrest, h1, fun j hj => ?_, q2⟩
      rcases Nat.lt_or_eq_of_le (Nat.le_of_lt_succ hj) with h' | h'
      · exact hf j h'
      · rw [h']; exact q
  case fin =>
    rintro ⟨b1, b2⟩ s' ⟨hb', i, hz, hi, hf, hI⟩
    simp only at hb'
    subst hb'
    have hge : items.size ≤ i := by
      rcases Nat.lt_or_ge i items.toList.length with h' | h'
      · rw [List.drop_eq_getElem_cons h'] at hz; cases hz
      · simpa using h'
    have hR := fin _ _ hI
    have hff : (List.range items.size).any b = false := by
      rw [List.any_eq_false]
      intro j hj
      rw [hf j (Nat.lt_of_lt_of_le (List.mem_range.mp hj) hge)]
      exact Bool.false_ne_true
    rw [hff] at hR
    wp_walk
    exact hR
  case h =>
    exact ⟨rfl, 0, by simp, Nat.zero_le _, fun j hj => absurd hj (Nat.not_lt_zero j), h0⟩
theorem list_eq_sizes (l b : Addr) (items items2 : Array Value) (n n2 : Nat) (hsz : items.size ≠ items2.size) {s : Shared} (hl1 : s.heap.get? l = some { cls := .type "list", data := .seq items n }) (hb1 : s.heap.get? b = some { cls := .type "list", data := .seq items2 n2 })
    (hR : R (.ok (.ret (.bool false))) s) : wpAny (model prog w) A.in1 (Builtin.«list.__eq__» ⟨[.ref l, .ref b], []⟩) (FinOf prog w A R) (fun e s' => R (.error e) s') s := by
  obtain ⟨hp, g, d, tk, os⟩ := s
  have f3 := AutoSeq1.sub_list_list
  have hne : (items.size != items2.size) = true := by simp [hsz]
  wp_walk using wpAny_loadPart' hl1, wpAny_loadPart' hb1
  exact hR
end
end GQ
set_option Elab.async false
set_option linter.all false
set_option autoImplicit false
set_option maxRecDepth 100000
set_option maxHeartbeats 1000000
namespace Ag
open PySem PySem.Spec L2 TL
/-- a class's own __eq__, by data -/
def OwnQ (c : Ctx) (cl : Cl) (g : List D → Option D) (n : Nat) : Prop :=
  ∃ (f : Addr) (fd : FuncData) (ps : List Str), FnOk c.P c.w c.K c.mg c.base CX0 n f fd ps (spD c.K g) ∧ PySem.W.findIn c.K (.ref (He.ga c.K cl.nm)) "__eq__" = some (some (.ref f)) ∧ PySem.W.isFn c.K (.ref f) = true ∧ Binds c.K fd ps []
mutual
theorem beqD_eq : ∀ {x y : D}, beqD x y = true → x = y
  | .non, .non, _ => rfl
  | .bl a, .bl b, h => by have : (a == b) = true := h; rw [beq_iff_eq.mp this]
  | .int a, .int b, h => by have : decide (a = b) = true := h; rw [of_decide_eq_true this]
  | .str a, .str b, h => by have : decide (a = b) = true := h; rw [of_decide_eq_true this]
  | .tup a, .tup b, h => by have : beqDs a b = true := h; rw [beqDs_eq this]
  | .lst a, .lst b, h => by have : beqDs a b = true := h; rw [beqDs_eq this]
  | .emp, .emp, _ => rfl
  | .obj a, .obj b, h => by have : decide (a = b) = true := h; rw [of_decide_eq_true this]
  | .ins c a, .ins c' b, h => by
    have : (decide (c = c') && beqDs a b) = true := h
    rw [Bool.and_eq_true] at this
    rw [of_decide_eq_true this.1, beqDs_eq this.2]
theorem beqDs_eq : ∀ {x y : List D}, beqDs x y = true → x = y
  | [], [], _ => rfl
  | a :: r, b :: t, h => by
    have : (beqD a b && beqDs r t) = true := h
    rw [Bool.and_eq_true] at this
    rw [beqD_eq this.1, beqDs_eq this.2]
end
mutual
theorem beqD_refl : ∀ x : D, beqD x x = true
  | .non => rfl
  | .bl a => beq_self_eq_true a
  | .int a => decide_eq_true rfl
  | .str a => decide_eq_true rfl
  | .tup a => beqDs_refl a
  | .lst a => beqDs_refl a
  | .emp => rfl
  | .obj a => decide_eq_true rfl
  | .ins c a => by
    show (decide (c = c) && beqDs a a) = true
    rw [decide_eq_true rfl, beqDs_refl a]
    rfl
theorem beqDs_refl : ∀ x : List D, beqDs x x = true
  | [] => rfl
  | a :: r => by
    show (beqD a a && beqDs r r) = true
    rw [beqD_refl a, beqDs_refl r]
    rfl
end
theorem lvlDs_get {dp : Nat} : ∀ {ds : List D} {i : Nat} {d : D}, lvlDs dp ds = true → ds[i]? = some d → lvlD dp d = true
  | [], _, _, _, h => by simp at h
  | a :: r, 0, d, h, e => by
    have h : (lvlD dp a && lvlDs dp r) = true := h
    rw [Bool.and_eq_true] at h
    simp at e
    rw [← e]
    exact h.1
  | a :: r, i + 1, d, h, e => by
    have h : (lvlD dp a && lvlDs dp r) = true := h
    rw [Bool.and_eq_true] at h
    exact lvlDs_get h.2 (by simpa using e)
theorem deeps_get : ∀ {ds : List D} {i : Nat} {d : D}, ds[i]? = some d → d.deep ≤ D.deeps ds
  | [], _, _, h => by simp at h
  | a :: r, 0, d, e => by
    simp at e
    rw [← e]
    exact Nat.le_max_left _ _
  | a :: r, i + 1, d, e => Nat.le_trans (deeps_get (ds := r) (by simpa using e)) (Nat.le_max_right _ _)
/-- two values that stand for one datum -/
def Dv (K : PySem.W.Frag) (dp f : Nat) : Eqv := fun x y H => ∃ G d, Ext G H ∧ Rep K G x d ∧ Rep K G y d ∧ lvlD dp d = true ∧ d.deep ≤ f
theorem mon_Dv {K : PySem.W.Frag} {dp f : Nat} : Mon (Dv K dp f) := fun x y H H' e ⟨G, d, s, h1, h2, h3, h4⟩ => ⟨G, d, s.trans e, h1, h2, h3, h4⟩
def okFl (dp : Nat) (cl : Cl) (ds : List D) : Prop := ds.length = cl.flds.length ∧ lvlDs 1 (ds.take 2) = true ∧ D.deeps ds ≤ 7 ∧ (cl = .ratio → ∃ i j r, ds = .int i :: .int j :: r)
/-- every class that may occur has its own __eq__ -/
def OwnAll (c : Ctx) (dp n0 : Nat) : Prop := ∀ cl : Cl, (cl = .ratio ∨ 2 ≤ dp) → ∃ g n, n ≤ n0 ∧ OwnQ c cl g n ∧ ∀ ds, okFl dp cl ds → g [.ins cl ds, .ins cl ds] = some (.bl true)
section
variable {c : Ctx} {N : List Str} {X : Cx} {dp n0 : Nat}
def Rq (K : PySem.W.Frag) (dp : Nat) (cl : Cl) : Addr → Addr → Hp → Prop := fun a b H => ∃ G ds, Ext G H ∧ Rep K G (.ref a) (.ins cl ds) ∧ Rep K G (.ref b) (.ins cl ds) ∧ okFl dp cl ds
theorem rcG_cls (gd : Good c N X) (O : OwnAll c dp n0) {cl : Cl} (hcl : cl = .ratio ∨ 2 ≤ dp) : ∃ n, n ≤ n0 ∧ RcG X n (DIns (He.ga X.K cl.nm) (Rq X.K dp cl)) := by
  obtain ⟨g, n, hn, ⟨f, fd, ps, F, h1, h2, h3⟩, hg⟩ := O cl hcl
  refine ⟨n, hn, rcG_ins (CX := CX0) (E := E0) (f := f) (fd := fd) (ps := ps) ?_ (by rw [gd.K]; exact h1) (by rw [gd.K]; exact h2) (by rw [gd.K]; exact h3) pass0⟩
  have F' : FnOk X.prog X.w X.K X.mg X.base CX0 n f fd ps (spD X.K g) := by rw [gd.prog, gd.w, gd.K, gd.mg, gd.base]; exact F
  refine F'.imp fun vs H Q E ⟨a, b, e, ⟨G, ds, hs, ra, rb, ho⟩, hq⟩ => ?_
  subst e
  refine ⟨G, [.ins cl ds, .ins cl ds], .bl true, hs, .cons ra (.cons rb .nil), hg ds ho, fun v G' H' w r => ?_⟩
  rw [r.of_bl]
  exact hq H' w.ext
theorem ins_D {K : PySem.W.Frag} {G H : Hp} {cl : Cl} {x y : V} {ds : List D} (hs : Ext G H) (hx : Rep K G x (.ins cl ds)) (hy : Rep K G y (.ins cl ds)) (ho : okFl dp cl ds) : DIns (He.ga K cl.nm) (Rq K dp cl) x y H := by
  obtain ⟨a, dx, fs, rfl, h1, _, _⟩ := hx.of_ins
  obtain ⟨b, dy, gs, rfl, h2, _, _⟩ := hy.of_ins
  exact ⟨a, b, dx, dy, fs, gs, rfl, rfl, hs _ _ h1, hs _ _ h2, G, ds, hs, hx, hy, ho⟩
theorem prs_D {K : PySem.W.Frag} {G H : Hp} {f : Nat} {xs ys : List V} {ds : List D} (hs : Ext G H) (hx : Reps K G xs ds) (hy : Reps K G ys ds) (hl : lvlDs dp ds = true) (hd : D.deeps ds ≤ f) : Prs (Dv K dp f) xs ys H := by
  refine ⟨by rw [hx.length, hy.length], fun i x y h1 h2 => ?_⟩
  obtain ⟨d, e, r1⟩ := hx.getV h1
  obtain ⟨d', e', r2⟩ := hy.getV h2
  rw [e] at e'
  cases e'
  exact ⟨G, d, hs, r1, r2, lvlDs_get hl e, Nat.le_trans (deeps_get e) hd⟩
theorem lvl_ins {cl : Cl} {ds : List D} (h : lvlD dp (.ins cl ds) = true) (hd : D.deep (.ins cl ds) ≤ 8) : (cl = .ratio ∨ 2 ≤ dp) ∧ okFl dp cl ds := by
  match ds, h, hd with
  | a :: b :: r, h, hd =>
    have h : (decide (r.length + 2 = cl.flds.length) && (decide (cl = .ratio) || decide (2 ≤ dp)) && (lvlD 1 a && (lvlD 1 b && (!decide (cl = .ratio) || (intD a && intD b))))) = true := h
    simp only [Bool.and_eq_true, Bool.or_eq_true, decide_eq_true_eq, Bool.not_eq_true', decide_eq_false_iff_not] at h
    have hd : D.deeps (a :: b :: r) + 1 ≤ 8 := hd
    refine ⟨h.1.2, h.1.1, ?_, by omega, fun hc => ?_⟩
    rotate_left
    · rcases h.2.2.2 with q | ⟨q1, q2⟩
      · exact absurd hc q
      · unfold intD at q1 q2
        split at q1
        · split at q2
          · exact ⟨_, _, _, rfl⟩
          · cases q2
        · cases q1
    show (lvlD 1 a && (lvlD 1 b && true)) = true
    rw [h.2.1, h.2.2.1]
    rfl
  | [], h, _ => cases h
  | [_], h, _ => cases h
theorem eqG_D (gd : Good c N X) (O : OwnAll c dp n0) : ∀ f : Nat, f ≤ 8 → EqG X (n0 + f) (Dv X.K dp f)
  | f, hf => by
    intro A pins s σ H x y u v sb I rx ry ⟨G, d, hs, hx, hy, hl, hd⟩
    cases d with
    | non => exact eqG_flat.mono (Nat.zero_le _) A pins s σ H x y u v sb I rx ry (by rw [hx.of_non, hy.of_non]; exact ⟨rfl, rfl, rfl⟩)
    | bl b => exact eqG_flat.mono (Nat.zero_le _) A pins s σ H x y u v sb I rx ry (by rw [hx.of_bl, hy.of_bl]; exact ⟨rfl, rfl, by cases b <;> rfl⟩)
    | int i => exact eqG_flat.mono (Nat.zero_le _) A pins s σ H x y u v sb I rx ry (by rw [hx.of_int, hy.of_int]; exact ⟨rfl, rfl, by simp [eqV]⟩)
    | str z => exact eqG_flat.mono (Nat.zero_le _) A pins s σ H x y u v sb I rx ry (by rw [hx.of_str.1, hy.of_str.1]; exact ⟨rfl, rfl, by simp [eqV]⟩)
    | emp => cases hl
    | obj a => cases hl
    | tup ds =>
      have hd : D.deeps ds + 1 ≤ f := hd
      obtain ⟨f', rfl⟩ : ∃ f', f = f' + 1 := ⟨f - 1, by omega⟩
      obtain ⟨a, vs, rfl, h1, r1⟩ := hx.of_tup
      obtain ⟨b, ws, rfl, h2, r2⟩ := hy.of_tup
      exact eqG_tup mon_Dv (eqG_D gd O f' (by omega)) A pins s σ H _ _ u v sb I rx ry ⟨a, b, vs, ws, rfl, rfl, h1.ext hs, h2.ext hs, prs_D hs r1 r2 hl (by omega)⟩
    | lst ds =>
      have hd : D.deeps ds + 1 ≤ f := hd
      obtain ⟨f', rfl⟩ : ∃ f', f = f' + 1 := ⟨f - 1, by omega⟩
      obtain ⟨a, vs, rfl, h1, r1⟩ := hx.of_lst
      obtain ⟨b, ws, rfl, h2, r2⟩ := hy.of_lst
      exact eqG_list mon_Dv (eqG_D gd O f' (by omega)) A pins s σ H _ _ u v sb I rx ry ⟨a, b, vs, ws, rfl, rfl, hs _ _ h1, hs _ _ h2, prs_D hs r1 r2 hl (by omega)⟩
    | ins cl ds =>
      obtain ⟨hcl, ho⟩ := lvl_ins hl (Nat.le_trans hd hf)
      obtain ⟨n, hn, R⟩ := rcG_cls gd O hcl
      exact (R.eqG fun _ _ _ d => let ⟨a, b, _, _, _, _, hx, hy, _⟩ := d; ⟨a, b, hx, hy⟩).mono (Nat.le_trans hn (Nat.le_add_right _ _)) A pins s σ H x y u v sb I rx ry (ins_D hs hx hy ho)
theorem deep_e (gd : Good c N X) (O : OwnAll c dp n0) (hk : n0 + 9 ≤ c.k) : OpR X (compareOp .Eq) (rCmp X.K (deepQ dp)) := by
  intro pins s σ H x y v u Q I rx ry ⟨dx, dy, b, hx, hy, hg, hq⟩
  unfold deepQ at hg
  split at hg
  · rename_i hh
    cases hg
    obtain ⟨_, hb, hl, hd⟩ := hh
    obtain rfl := beqD_eq hb
    have q := hq H Ext.rfl'
    cases dx with
    | non =>
      rw [hx.of_non] at rx
      rw [hy.of_non] at ry
      exact op_eq pins s σ H _ _ v u Q I rx ry ⟨rfl, by rw [decide_eq_true rfl]; exact q⟩
    | bl b =>
      rw [hx.of_bl] at rx
      rw [hy.of_bl] at ry
      exact op_eq pins s σ H _ _ v u Q I rx ry ⟨rfl, by rw [decide_eq_true rfl]; exact q⟩
    | int i =>
      rw [hx.of_int] at rx
      rw [hy.of_int] at ry
      exact op_eq pins s σ H _ _ v u Q I rx ry ⟨rfl, by rw [decide_eq_true rfl]; exact q⟩
    | str z =>
      rw [hx.of_str.1] at rx
      rw [hy.of_str.1] at ry
      exact op_eq pins s σ H _ _ v u Q I rx ry ⟨rfl, by rw [decide_eq_true rfl]; exact q⟩
    | emp => cases hl
    | obj a => cases hl
    | tup ds =>
      have hd : D.deeps ds + 1 ≤ 8 := hd
      obtain ⟨a, vs, rfl, h1, r1⟩ := hx.of_tup
      obtain ⟨b, ws, rfl, h2, r2⟩ := hy.of_tup
      exact op_eqG (rcG_tup mon_Dv (eqG_D gd O 8 (Nat.le_refl _))) (gd.room.mono (by omega)) pins s σ H _ _ v u Q I rx ry ⟨⟨a, b, vs, ws, rfl, rfl, h1, h2, prs_D Ext.rfl' r1 r2 hl (by omega)⟩, hq⟩
    | lst ds =>
      have hd : D.deeps ds + 1 ≤ 8 := hd
      obtain ⟨a, vs, rfl, h1, r1⟩ := hx.of_lst
      obtain ⟨b, ws, rfl, h2, r2⟩ := hy.of_lst
      exact op_eqG (rcG_list mon_Dv (eqG_D gd O 8 (Nat.le_refl _))) (gd.room.mono (by omega)) pins s σ H _ _ v u Q I rx ry ⟨⟨a, b, vs, ws, rfl, rfl, h1, h2, prs_D Ext.rfl' r1 r2 hl (by omega)⟩, hq⟩
    | ins cl ds =>
      obtain ⟨hcl, ho⟩ := lvl_ins hl hd
      obtain ⟨n, hn, R⟩ := rcG_cls gd O hcl
      exact op_eqG R (gd.room.mono (by omega)) pins s σ H _ _ v u Q I rx ry ⟨ins_D Ext.rfl' hx hy ho, hq⟩
  · cases hg
theorem deep_l (gd : Good c N X) : OpR X (compareOp .Eq) (rCmp X.K lenQ) := by
  intro pins s σ H x y v u Q I rx ry ⟨dx, dy, b, hx, hy, hg, hq⟩
  unfold lenQ at hg
  split at hg
  · rename_i ds es
    split at hg
    · rename_i hne
      cases hg
      obtain ⟨a, vs, rfl, h1, r1⟩ := hx.of_lst
      obtain ⟨b, ws, rfl, h2, r2⟩ := hy.of_lst
      cases rx
      cases ry
      obtain ⟨z, its, k, r, e⟩ := I.hok a _ h1
      obtain ⟨z2, its2, k2, r3, e2⟩ := I.hok b _ h2
      show wpAny (model X.prog X.w) X.A (richCompare .Eq (.ref a) (.ref b)) (EP X pins σ Q) X.xe s
      refine wpAny_richCompare_same_room (op := .Eq) ⟨_, e, rfl⟩ ⟨_, e2, rfl⟩ F.slot_list_eq (GQ.call_here F.slot_list_eq ⟨_, e, rfl⟩ F.entry_list_eq (F.args_list_eq_2 _ _) ?_) gd.room.units0
      refine GQ.list_eq_sizes (R := wants (fun v s' => v ≠ .notImplemented ∧ EP X pins σ Q v s') X.xe) a b its.toArray its2.toArray k k2 ?_ e e2 ⟨(fun x => nomatch x), .bl false, H, I, rfl, hq H Ext.rfl'⟩
      rw [List.size_toArray, List.size_toArray, ← r.length, ← r3.length, r1.length, r2.length]
      exact hne
    · cases hg
  · cases hg
end
end Ag
set_option Elab.async false
set_option linter.all false
set_option autoImplicit false
set_option maxRecDepth 100000
set_option maxHeartbeats 1000000
namespace Ag
open PySem PySem.Spec L2 TL
def NoneAll (c : Ctx) (dp n0 : Nat) : Prop := 1 ≤ dp → ∃ g n, n ≤ n0 ∧ OwnQ c .ratio g n ∧ ∀ i j, g [.ins .ratio [.int i, .int j], .non] = some (.bl false)
section
variable {c : Ctx} {N : List Str} {X : Cx} {dp n0 : Nat}
theorem none_not (K : PySem.W.Frag) (C : Addr) : PySem.W.notFirst K C (.type "NoneType") = true := by
  unfold PySem.W.notFirst PySem.W.subIn
  rfl
/-- item == None -/
theorem none_item (gd : Good c N X) (O : NoneAll c dp n0) {A : Around} (sb : Sub X n0 A) {pins : List (Addr × Obj)} {s : Shared} {σ : L2.St} {H G : Hp} {x : V} {u : Value} {d : D} (I : Inv X pins σ H s) (rx : RelV x u) (hs : Ext G H) (hx : Rep X.K G x d) (ho : d.okIn dp = true) :
    wpAny (model X.prog X.w) A (eqBool u .none) (fun r s' => r = d.isNon ∧ ∃ H', Inv X pins σ H' s' ∧ Ext H H') X.xe s := by
  have hu : A.units < cLine := sb.room.units0
  cases d with
  | non =>
    rw [hx.of_non] at rx
    cases rx
    exact SeqAt.EqAt.same (A := A) (s := s) .none X.prog X.w X.xe _ ⟨rfl, H, I, Ext.rfl'⟩
  | bl b =>
    rw [hx.of_bl] at rx
    cases rx
    exact SeqAt.EqAt.bool_none b X.prog X.w X.xe _ ⟨rfl, H, I, Ext.rfl'⟩
  | int i =>
    rw [hx.of_int] at rx
    obtain ⟨t, rfl⟩ := rx
    exact SeqAt.EqAt.int_none i t X.prog X.w X.xe _ ⟨rfl, H, I, Ext.rfl'⟩
  | str z =>
    rw [hx.of_str.1] at rx
    obtain ⟨t, rfl⟩ := rx
    exact SeqAt.EqAt.str_none z t X.prog X.w X.xe _ ⟨rfl, H, I, Ext.rfl'⟩
  | tup ds =>
    obtain ⟨a, vs, rfl, h1, _⟩ := hx.of_tup
    cases rx
    obtain ⟨its, r, e, z⟩ := I.tuple (h1.ext hs)
    exact SeqAt.EqAt.tuple_none e hu X.prog X.w X.xe _ ⟨rfl, H, I, Ext.rfl'⟩
  | lst ds =>
    obtain ⟨a, vs, rfl, h1, _⟩ := hx.of_lst
    cases rx
    obtain ⟨its, r, e, z⟩ := I.list (SqL.of (hs _ _ h1))
    exact SeqAt.EqAt.list_none e.isList hu X.prog X.w X.xe _ ⟨rfl, H, I, Ext.rfl'⟩
  | emp => cases ho
  | obj a => cases ho
  | ins cl ds =>
    obtain ⟨i, j, rfl, rfl, hdp⟩ : ∃ i j, cl = .ratio ∧ ds = [.int i, .int j] ∧ 1 ≤ dp := by
      unfold D.okIn at ho
      split at ho
      · rename_i i j e
        cases e
        exact ⟨i, j, rfl, rfl, of_decide_eq_true ho⟩
      · cases ho
      · cases ho
      · cases ho
      · rename_i h _ _
        exact (h cl ds rfl).elim
    obtain ⟨g, n, hn, ⟨f, fd, ps, F, h1, h2, h3⟩, hg⟩ := O hdp
    have hx0 := hx
    obtain ⟨a, dx, fs, rfl, ha, _, _⟩ := hx.of_ins
    cases rx
    have ha := hs _ _ ha
    obtain ⟨mA, J, _⟩ := ins_get I.hok ha
    obtain ⟨od, J, _⟩ := J.look
    obtain ⟨m, hF⟩ := I.fr
    have F' : FnOk X.prog X.w X.K X.mg X.base CX0 n f fd ps (spD X.K g) := by rw [gd.prog, gd.w, gd.K, gd.mg, gd.base]; exact F
    have h1' : PySem.W.findIn X.K (.ref (He.ga X.K Cl.ratio.nm)) "__eq__" = some (some (.ref f)) := by rw [gd.K]; exact h1
    have h2' : PySem.W.isFn X.K (.ref f) = true := by rw [gd.K]; exact h2
    have h3' : Binds X.K fd ps [] := by rw [gd.K]; exact h3
    have hsp : spD X.K g [.ref a, .non] H (fun v H' => v = .bl false ∧ Ext H H') E0 := ⟨G, _, _, hs, .cons hx0 (.cons .non .nil), hg i j, fun v G' H' w r => ⟨r.of_bl, w.ext⟩⟩
    have e0 : Env0 X.prog X.w X.K X.mg X.base A X.stack s H := by
      have e := I.env0
      exact ⟨by rw [sb.fr]; exact e.frames, e.mod, e.bs, e.bsz, e.funs, e.frf, e.hok, e.bare⟩
    have hl := F'.len _ _ _ _ hsp
    have r2 : Vals [V.ref a, V.non] [Value.ref a, Value.none] := .cons rfl (.cons rfl .nil)
    unfold eqBool
    refine wpAny_holding ?_
    refine wpAny_ite_split (fun hab => absurd (eq_of_beq hab) nofun) (fun _ => ?_)
    refine wpAny_bind (PySem.W.cmp_K (op := .Eq) (tb := .type "NoneType") hu hF I.ok.mod.kin J (PySem.W.Looks.of_pure rfl) (none_not _ _) h1' h2' ?_)
    refine wpAny_call (codeAny_mono (F'.run A X.stack s H ⟨[.ref a, .none], []⟩ [.ref a, .none] [.ref a, .non] _ E0 (sb.room.mono hn) e0 (by
      have := h3' s [.ref a, .none] I.kIn (by simpa using hl)
      simpa using this) r2 hsp) fun r s' hq => ?_)
    cases r with
    | error e => exact hq.elim
    | ok fl =>
      cases fl with
      | ret w =>
        obtain ⟨z, H', I', rz, ez, ex⟩ := I.after hq
        subst ez
        cases rz
        exact wpAny_truthy_bool ⟨rfl, H', I', ex⟩
      | next => exact False.elim hq
      | brk => exact False.elim hq
      | cont => exact False.elim hq
/-- the turns through the items -/
theorem none_turn (gd : Good c N X) (O : NoneAll c dp n0) {A : Around} (sb : Sub X (n0 + 1) A) {pins : List (Addr × Obj)} {σ : L2.St} {H : Hp} {vs : List V} {its : List Value} {ds : List D} (r : Vals vs its) (hx : Reps X.K H vs ds) (ho : ds.all (D.okIn dp) = true)
    (i : Nat) (h1 : i < its.toArray.size) (s' : Shared) (l : LoopI X pins σ H s') :
    wpAny (model X.prog X.w) A.in1 (eqBool its.toArray[i] .none) (fun r s2 => r = (ds.getD i .non).isNon ∧ LoopI X pins σ H s2) X.xe s' := by
  obtain ⟨H1, I1, e1⟩ := l
  have h1' : i < its.length := by simpa using h1
  have k1 : i < vs.length := by rw [r.length]; exact h1'
  obtain ⟨u, hu, ru⟩ := r.get (List.getElem?_eq_getElem k1)
  obtain ⟨d, hd, rd⟩ := hx.getV (List.getElem?_eq_getElem k1)
  have g1 : its[i]? = some its.toArray[i] := by
    rw [List.getElem?_eq_getElem h1'] <;> simp
  rw [g1] at hu
  rw [Option.some.inj hu]
  have hok : d.okIn dp = true := List.all_eq_true.mp ho d (List.mem_of_getElem? hd)
  refine wpAny_mono (none_item gd O sb.in1 I1 ru e1 rd hok) (fun b s2 q => ?_) fun _ _ x => x
  obtain ⟨hr, H2, I2, e2⟩ := q
  refine ⟨?_, H2, I2, e1.trans e2⟩
  rw [hr, List.getD_eq_getElem?_getD, hd]
  rfl
theorem any_range (ds : List D) : (List.range ds.length).any (fun i => (ds.getD i .non).isNon) = ds.any D.isNon := by
  apply Bool.eq_iff_iff.mpr
  rw [List.any_eq_true, List.any_eq_true]
  constructor
  · rintro ⟨i, hi, h⟩
    have hi := List.mem_range.mp hi
    rw [List.getD_eq_getElem?_getD, List.getElem?_eq_getElem hi] at h
    exact ⟨ds[i], List.getElem_mem hi, h⟩
  · rintro ⟨d, hd, h⟩
    obtain ⟨i, hi, e⟩ := List.getElem_of_mem hd
    refine ⟨i, List.mem_range.mpr hi, ?_⟩
    rw [List.getD_eq_getElem?_getD, List.getElem?_eq_getElem hi, e]
    exact h
theorem none_contains (gd : Good c N X) (O : NoneAll c dp n0) (hk : n0 + 1 ≤ c.k) {pins : List (Addr × Obj)} {s : Shared} {σ : L2.St} {H : Hp} {y : V} {u : Value} {dy : D} {b : Bool} {Q : Bool → Shared → Prop} (I : Inv X pins σ H s) (ry : RelV y u) (hy : Rep X.K H y dy) (hg : nonIn dp .non dy = some b)
    (hq : ∀ s' H', Inv X pins σ H' s' → Ext H H' → Q b s') : wpAny (model X.prog X.w) X.A (contains u .none) Q X.xe s := by
  have sb : Sub X (n0 + 1) X.A := ⟨gd.room.mono hk, rfl⟩
  cases dy with
  | lst ds =>
    have hg : (if ds.all (D.okIn dp) then some (ds.any D.isNon) else none) = some b := hg
    split at hg
    · rename_i ho
      cases hg
      obtain ⟨a, vs, rfl, h1, r1⟩ := hy.of_lst
      cases ry
      obtain ⟨z, its, k, r, e⟩ := I.hok a _ h1
      refine wpAny_contains_slot (T := "list") ⟨_, e, rfl⟩ F.slot_list_contains (GQ.call_here F.slot_list_contains ⟨_, e, rfl⟩ F.entry_list_contains (F.args_list_contains_2 _ _) ?_)
      refine GQ.list_containsG a .none ds.length (fun i => (ds.getD i .non).isNon) (fun _ s' => LoopI X pins σ H s') (fun i s' q => ?_) (fun i s' q => ?_) ⟨H, I, Ext.rfl'⟩
      · obtain ⟨H1, I1, e1⟩ := id q
        obtain ⟨z, its, k, r, e⟩ := I1.hok a _ (e1 _ _ h1)
        exact ⟨its.toArray, k, e, by rw [List.size_toArray, ← r.length, r1.length], fun h1 => none_turn gd O sb r r1 ho i h1 s' q⟩
      · obtain ⟨H1, I1, e1⟩ := q
        rw [any_range]
        exact wpAny_truthy_bool (hq s' H1 I1 e1)
    · cases hg
  | tup ds =>
    have hg : (if ds.all (D.okIn dp) then some (ds.any D.isNon) else none) = some b := hg
    split at hg
    · rename_i ho
      cases hg
      obtain ⟨a, vs, rfl, h1, r1⟩ := hy.of_tup
      cases ry
      obtain ⟨its, r, hl, z⟩ := I.tuple h1
      obtain ⟨⟨cls, dd, data, sl⟩, e, hc, n, hd⟩ := id hl
      simp only at hc hd
      subst hc hd
      refine wpAny_contains_slot (T := "tuple") ⟨_, e, rfl⟩ F.slot_tuple_contains (GQ.call_here F.slot_tuple_contains ⟨_, e, rfl⟩ F.entry_tuple_contains (F.args_tuple_contains_2 _ _) ?_)
      refine GQ.tuple_containsG a .none its.toArray n dd sl (fun i => (ds.getD i .non).isNon) (fun _ s' => LoopI X pins σ H s') (fun i h1 s' q => none_turn gd O sb r r1 ho i h1 s' q) (fun i s' q => ?_) e ⟨H, I, Ext.rfl'⟩
      obtain ⟨H1, I1, e1⟩ := q
      rw [show its.toArray.size = ds.length by rw [List.size_toArray, ← r.length, r1.length], any_range]
      exact wpAny_truthy_bool (hq s' H1 I1 e1)
    · cases hg
  | _ => cases hg
theorem nonIn_non {dx dy : D} {b : Bool} (h : nonIn dp dx dy = some b) : dx = .non := by
  cases dx with
  | non => rfl
  | _ => cases h
theorem deep_i (gd : Good c N X) (O : NoneAll c dp n0) (hk : n0 + 1 ≤ c.k) : OpR X (compareOp .In) (rCmp X.K (nonIn dp)) := by
  intro pins s σ H x y v u Q I rx ry ⟨dx, dy, b, hx, hy, hg, hq⟩
  obtain rfl := nonIn_non hg
  rw [hx.of_non] at rx
  cases rx
  show wpAny _ X.A (do return Value.bool (← contains u .none)) _ X.xe s
  exact wpAny_bind (none_contains gd O hk I ry hy hg fun s' H' I' e => wpAny_pure ⟨.bl b, H', I', rfl, hq H' e⟩)
theorem deep_n (gd : Good c N X) (O : NoneAll c dp n0) (hk : n0 + 1 ≤ c.k) : OpR X (compareOp .NotIn) (rCmp X.K fun x y => (nonIn dp x y).map (!·)) := by
  intro pins s σ H x y v u Q I rx ry ⟨dx, dy, b, hx, hy, hg, hq⟩
  have hg : (nonIn dp dx dy).map (!·) = some b := hg
  cases q : nonIn dp dx dy with
  | none => rw [q] at hg; cases hg
  | some b0 =>
    rw [q] at hg
    cases hg
    obtain rfl := nonIn_non q
    rw [hx.of_non] at rx
    cases rx
    show wpAny _ X.A (do return Value.bool (!(← contains u .none))) _ X.xe s
    exact wpAny_bind (none_contains gd O hk I ry hy q fun s' H' I' e => wpAny_pure ⟨.bl (!b0), H', I', rfl, hq H' e⟩)
theorem deep_all (gd : Good c N X) (O : OwnAll c dp n0) (O2 : NoneAll c dp n0) (hk : n0 + 9 ≤ c.k) : DeepIn X dp :=
  ⟨deep_i gd O2 (by omega), deep_n gd O2 (by omega), deep_e gd O hk, deep_l gd⟩
/-- nothing is known of the classes yet -/
theorem deep_zero (gd : Good c N X) (hk : 1 ≤ c.k) : DeepIn X 0 := by
  have O2 : NoneAll c 0 0 := fun h => absurd h (by decide)
  refine ⟨deep_i gd O2 hk, deep_n gd O2 hk, ?_, deep_l gd⟩
  intro pins s σ H x y v u Q I rx ry ⟨dx, dy, b, hx, hy, hg, hq⟩
  unfold deepQ at hg
  split at hg
  · rename_i hh
    exact absurd hh.1 (by decide)
  · cases hg
end
end Ag
set_option Elab.async false
set_option linter.all false
set_option autoImplicit false
set_option maxRecDepth 100000
set_option maxHeartbeats 1000000
namespace Ag
open PySem PySem.Spec L2 TL
mutual
/-- what is a key: ints, and tuples of such -/
def isKey : D → Bool
  | .int _ => true
  | .tup ds => areKeys ds
  | _ => false
def areKeys : List D → Bool
  | [] => true
  | d :: r => isKey d && areKeys r
end
mutual
def nk : D → NestedKey
  | .int i => .num i
  | .tup ds => .tup (nks ds)
  | _ => .none
def nks : List D → List NestedKey
  | [] => []
  | d :: r => nk d :: nks r
end
mutual
theorem nk_inj : ∀ {x y : D}, isKey x = true → isKey y = true → nk x = nk y → x = y
  | .int i, .int j, _, _, h => by
    have h : NestedKey.num i = NestedKey.num j := h
    cases h
    rfl
  | .tup a, .tup b, hx, hy, h => by
    have h : NestedKey.tup (nks a) = NestedKey.tup (nks b) := h
    injection h with h
    rw [nks_inj hx hy h]
  | .int _, .tup _, _, _, h => by cases h
  | .tup _, .int _, _, _, h => by cases h
theorem nks_inj : ∀ {x y : List D}, areKeys x = true → areKeys y = true → nks x = nks y → x = y
  | [], [], _, _, _ => rfl
  | a :: r, b :: t, hx, hy, h => by
    have hx : (isKey a && areKeys r) = true := hx
    have hy : (isKey b && areKeys t) = true := hy
    rw [Bool.and_eq_true] at hx hy
    have h : nk a :: nks r = nk b :: nks t := h
    injection h with h1 h2
    rw [nk_inj hx.1 hy.1 h1, nks_inj hx.2 hy.2 h2]
  | [], _ :: _, _, _, h => by cases h
  | _ :: _, [], _, _, h => by cases h
end
mutual
theorem nk_depth : ∀ {x : D}, isKey x = true → (nk x).depth = x.deep
  | .int i, _ => rfl
  | .tup a, h => by
    show NestedKey.depthAll (nks a) + 1 = D.deeps a + 1
    rw [nks_depth h]
theorem nks_depth : ∀ {x : List D}, areKeys x = true → NestedKey.depthAll (nks x) = D.deeps x
  | [], _ => rfl
  | a :: r, h => by
    have h : (isKey a && areKeys r) = true := h
    rw [Bool.and_eq_true] at h
    show max (nk a).depth (NestedKey.depthAll (nks r)) = max a.deep (D.deeps r)
    rw [nk_depth h.1, nks_depth h.2]
end
section
variable {X : Cx} {pins : List (Addr × Obj)} {σ : L2.St} {H : Hp} {s : Shared}
mutual
theorem nested_of (I : Inv X pins σ H s) {G : Hp} (hs : Ext G H) : ∀ {d : D} {v : V} {u : Value}, isKey d = true → Rep X.K G v d → RelV v u → NestedIs s.heap (nk d) u
  | .int i, v, u, _, r, rv => by
    rw [r.of_int] at rv
    obtain ⟨t, rfl⟩ := rv
    exact .int i t
  | .tup ds, v, u, hk, r, rv => by
    obtain ⟨a, vs, rfl, h1, r1⟩ := r.of_tup
    cases rv
    obtain ⟨its, rel, ⟨o, e, hc, n, hd⟩, hz⟩ := I.tuple (h1.ext hs)
    exact .tup e hc hd (by simpa using nested_all I hs hk r1 rel)
theorem nested_all (I : Inv X pins σ H s) {G : Hp} (hs : Ext G H) : ∀ {ds : List D} {vs : List V} {us : List Value}, areKeys ds = true → Reps X.K G vs ds → Vals vs us → NestedAll s.heap (nks ds) us
  | [], vs, us, _, r, rv => by
    cases r
    cases rv
    exact .nil
  | d :: ds, vs, us, hk, r, rv => by
    have hk : (isKey d && areKeys ds) = true := hk
    rw [Bool.and_eq_true] at hk
    cases r with
    | cons r1 r2 =>
      cases rv with
      | cons v1 v2 => exact .cons (nested_of I hs hk.1 r1 v1) (nested_all I hs hk.2 r2 v2)
end
end
/-- keys with their tuples' places and ints -/
abbrev Kis := List (NestedKey × Addr × Int)
def KiR (p : NestedKey × Addr × Int) (x : NestedKey × Addr × Value) : Prop := x.1 = p.1 ∧ x.2.1 = p.2.1 ∧ ∃ t, x.2.2 = .int p.2.2 t
def DctO (P : Program) (w : World) (a : Addr) (ks : Kis) : HO := .ext fun h => (a == sysModules) = false ∧ ks.length ≤ sizeLine ∧ ∃ xs : List (NestedKey × Addr × Value), Paired KiR ks xs ∧ (xs.map (·.1)).Nodup ∧
  ∃ o es ep, h.get? a = some o ∧ o.ExactDict ∧ o.data = .dict es ep ∧ es.toList = xs.map (entryOfKey (nestedKind P w))
theorem dct_obj {P : Program} {w : World} {H : Hp} {h : Heap} {a : Addr} {ks : Kis} (h1 : (a == sysModules) = false) (h2 : ks.length ≤ sizeLine) {xs : List (NestedKey × Addr × Value)} (h3 : Paired KiR ks xs) (h4 : h.DictOfH (nestedKind P w) a xs) : ObjOk P w H h a (DctO P w a ks) := by
  obtain ⟨o, es, ep, e1, e2, e3, e4, _, e5⟩ := h4
  exact ⟨⟨h1, h2, xs, h3, e5, o, es, ep, e1, e2, e3, e4⟩, ⟨o, e1⟩, fun h1 h2 ⟨a1, a2, ys, a3, a4, o, es, ep, a5, a6⟩ k => ⟨a1, a2, ys, a3, a4, o, es, ep, k o a5, a6⟩⟩
/-- the keys' tuples stand in G -/
def KeysOk (K : PySem.W.Frag) (G : Hp) (ks : Kis) : Prop := ∀ p ∈ ks, ∃ d, isKey d = true ∧ d.deep ≤ 8 ∧ nk d = p.1 ∧ Rep K G (.ref p.2.1) d
theorem KeysOk.ext {K : PySem.W.Frag} {G G' : Hp} {ks : Kis} (h : KeysOk K G ks) (e : Ext G G') : KeysOk K G' ks := fun p hp => let ⟨d, h1, h2, h3, h4⟩ := h p hp; ⟨d, h1, h2, h3, h4.ext e⟩
def getN (ks : Kis) (k : NestedKey) : Option Int := (ks.find? fun x => decide (x.1 = k)).map (·.2.2)
def putN (ks : Kis) (k : NestedKey) (a : Addr) (v : Int) : Kis := if (getN ks k).isSome then ks.map (fun x => if x.1 = k then (x.1, x.2.1, v) else x) else ks ++ [(k, a, v)]
theorem ki_get {ks : Kis} {xs : List (NestedKey × Addr × Value)} (r : Paired KiR ks xs) (k : NestedKey) : RelO ((getN ks k).map V.int) ((atKey xs k).map (·.2)) := by
  induction r with
  | nil => exact True.intro
  | @cons p x ps xs hp t ih =>
    obtain ⟨h1, h2, tk, h3⟩ := hp
    unfold getN atKey at ih ⊢
    rw [List.find?_cons, List.find?_cons, h1]
    by_cases hk : p.1 = k
    · rw [decide_eq_true hk]
      show RelV (.int p.2.2) x.2.2
      rw [h3]
      exact ⟨tk, rfl⟩
    · rw [decide_eq_false hk]
      exact ih
theorem ki_isSome {ks : Kis} {xs : List (NestedKey × Addr × Value)} (r : Paired KiR ks xs) (k : NestedKey) : (atKey xs k).isSome = (getN ks k).isSome := by
  have := ki_get r k
  cases h1 : getN ks k <;> cases h2 : atKey xs k <;> rw [h1, h2] at this <;> first | rfl | exact this.elim
theorem ki_put {ks : Kis} {xs : List (NestedKey × Addr × Value)} (r : Paired KiR ks xs) (k : NestedKey) (a : Addr) (v : Int) (t : Tok) : Paired KiR (putN ks k a v) (storedH xs k a (.int v t)) := by
  unfold putN storedH
  rw [ki_isSome r k]
  split
  · have : ∀ {l : Kis} {m : List (NestedKey × Addr × Value)}, Paired KiR l m → Paired KiR (l.map fun x => if x.1 = k then (x.1, x.2.1, v) else x) (m.map (putAt k (.int v t))) := by
      intro l m q
      induction q with
      | nil => exact .nil
      | @cons p x ps xs hp tl ih =>
        refine .cons ?_ ih
        obtain ⟨h1, h2, tk, h3⟩ := hp
        show KiR (if p.1 = k then (p.1, p.2.1, v) else p) (putAt k (.int v t) x)
        unfold putAt
        rw [h1]
        by_cases hk : p.1 = k
        · rw [if_pos hk, if_pos hk]
          exact ⟨rfl, h2, t, rfl⟩
        · rw [if_neg hk, if_neg hk]
          exact ⟨h1, h2, tk, h3⟩
    exact this r
  · have : ∀ {l : Kis} {m : List (NestedKey × Addr × Value)}, Paired KiR l m → Paired KiR (l ++ [(k, a, v)]) (m ++ [(k, a, .int v t)]) := by
      intro l m q
      induction q with
      | nil => exact .cons ⟨rfl, rfl, t, rfl⟩ .nil
      | cons h _ ih => exact .cons h ih
    exact this r
theorem putN_len (ks : Kis) (k : NestedKey) (a : Addr) (v : Int) : (putN ks k a v).length ≤ ks.length + 1 := by
  unfold putN
  split
  · rw [List.length_map]; exact Nat.le_succ _
  · rw [List.length_append]; exact Nat.le_refl _
section
variable {X : Cx} {pins : List (Addr × Obj)} {σ : L2.St} {H G : Hp} {s : Shared} {a : Addr} {ks : Kis} {A : Around} {E : Value → Shared → Prop}
theorem dct_at (I : Inv X pins σ H s) (hs : Ext G H) (e : H a = some (DctO X.prog X.w a ks)) (ko : KeysOk X.K G ks) : (a == sysModules) = false ∧ ks.length ≤ sizeLine ∧ ∃ xs, Paired KiR ks xs ∧ s.heap.DictOfH (nestedKind X.prog X.w) a xs := by
  obtain ⟨⟨h1, h2, xs, h3, h4, o, es, ep, h5, h6, h7, h8⟩, _⟩ := I.hok a _ e
  refine ⟨h1, h2, xs, h3, o, es, ep, h5, h6, h7, h8, ?_, h4⟩
  have all : ∀ {l : Kis} {m : List (NestedKey × Addr × Value)}, Paired KiR l m → (∀ p ∈ l, ∃ d, isKey d = true ∧ d.deep ≤ 8 ∧ nk d = p.1 ∧ Rep X.K G (.ref p.2.1) d) → ∀ x ∈ m, (nestedKind X.prog X.w).is s.heap x.1 x.2.1 := by
    intro l m q
    induction q with
    | nil => intro _ x hx; exact nomatch hx
    | @cons p q ps qs hq t ih =>
      intro ha x hx
      rcases List.mem_cons.mp hx with e | hx
      · subst e
        obtain ⟨d, d1, d2, d3, d4⟩ := ha p List.mem_cons_self
        rw [hq.1, hq.2.1, ← d3]
        exact ⟨nested_of I hs d1 d4 rfl, by rw [nk_depth d1]; exact d2⟩
      · exact ih (fun p hp => ha p (List.mem_cons_of_mem _ hp)) x hx
  exact all h3 ko
theorem key_is (I : Inv X pins σ H s) (hs : Ext G H) {d : D} {b : Addr} (hk : isKey d = true) (hd : d.deep ≤ 8) (r : Rep X.K G (.ref b) d) : (nestedKind X.prog X.w).is s.heap (nk d) b := ⟨nested_of I hs hk r rfl, by rw [nk_depth hk]; exact hd⟩
/-- d.get(key, z) -/
theorem dct_get {Q : Value → Shared → Prop} (hu : A.units + 9 < cLine) (I : Inv X pins σ H s) (hs : Ext G H) (e : H a = some (DctO X.prog X.w a ks)) (ko : KeysOk X.K G ks) {d : D} {b : Addr} (hk : isKey d = true) (hd : d.deep ≤ 8) (r : Rep X.K G (.ref b) d) {z : Int} {u : Value} (ru : RelV (.int z) u)
    (h : ∀ w' s', Inv X pins σ H s' → RelV (.int ((getN ks (nk d)).getD z)) w' → Q w' s') : wpAny (model X.prog X.w) A (call (.builtin "dict.get") [.ref a, .ref b, u]) Q E s := by
  obtain ⟨h1, h2, xs, h3, dd⟩ := dct_at I hs e ko
  have hroom : (nestedKind X.prog X.w).room A.in1 := hu
  refine call_meetsIn F.slot_dict_get dd.typeIs F.entry_dict_get (F.args_dict_get_3 _ _ _) (meetsH_dict_get_default (nestedKind X.prog X.w) a b h1 u) ⟨hroom, nk d, xs, key_is I hs hk hd r, dd, h _ _ (I.tok _) ?_⟩
  have := ki_get h3 (nk d)
  cases q1 : getN ks (nk d) <;> cases q2 : (atKey xs (nk d)).map (·.2) <;> rw [q1, q2] at this
  · exact ru
  · exact this.elim
  · exact this.elim
  · exact this
/-- d[key], there -/
theorem dct_item {Q : Value → Shared → Prop} (hu : A.units + 9 < cLine) (I : Inv X pins σ H s) (hs : Ext G H) (e : H a = some (DctO X.prog X.w a ks)) (ko : KeysOk X.K G ks) {d : D} {b : Addr} (hk : isKey d = true) (hd : d.deep ≤ 8) (r : Rep X.K G (.ref b) d) {z : Int} (hz : getN ks (nk d) = some z)
    (h : ∀ w' s', Inv X pins σ H s' → RelV (.int z) w' → Q w' s') : wpAny (model X.prog X.w) A (getItem (.ref a) (.ref b)) Q E s := by
  obtain ⟨h1, h2, xs, h3, dd⟩ := dct_at I hs e ko
  have hroom : (nestedKind X.prog X.w).room A.in1 := hu
  have := ki_get h3 (nk d)
  rw [hz] at this
  cases q2 : atKey xs (nk d) with
  | none => rw [q2] at this; exact this.elim
  | some p =>
    rw [q2] at this
    exact wpAny_getItem_heap hroom (key_is I hs hk hd r) dd q2 (h _ _ (I.tok _) this)
/-- d[key] = v -/
theorem dct_put {Q : Unit → Shared → Prop} (hu : A.units + 9 < cLine) (I : Inv X pins σ H s) (hs : Ext G H) (e : H a = some (DctO X.prog X.w a ks)) (ko : KeysOk X.K G ks) {d : D} {b : Addr} (hk : isKey d = true) (hd : d.deep ≤ 8) (r : Rep X.K G (.ref b) d) {z : Int} {u : Value} (ru : RelV (.int z) u) (hl : ks.length < sizeLine)
    (h : ∀ s', Inv X pins σ (upd H a (DctO X.prog X.w a (putN ks (nk d) b z))) s' → Q () s') : wpAny (model X.prog X.w) A (setItem (.ref a) (.ref b) u) Q E s := by
  obtain ⟨h1, h2, xs, h3, dd⟩ := dct_at I hs e ko
  obtain ⟨t, rfl⟩ := ru
  have hroom : (nestedKind X.prog X.w).room A.in1 := hu
  have hz : xs.length ≤ sizeLine := by rw [← Paired.length h3]; exact h2
  refine wpAny_setItem_heap (hsz := hz) hroom (key_is I hs hk hd r) dd fun h' dd' hs' => h _ ?_
  have hq : ∃ q, h'.get? a = some q := let ⟨q, _, _, hq, _⟩ := dd'; ⟨q, hq⟩
  have hl' : (putN ks (nk d) b z).length ≤ sizeLine := by have := putN_len ks (nk d) b z; omega
  exact d_write I (by rw [e]; exact True.intro) hs' hq (dct_obj h1 hl' (ki_put h3 (nk d) b z t) dd')
/-- {} -/
theorem pe_dctNew {pos : Pos} : PE X (.Dict [] [] pos) fun _ H Q => ∀ p, H p = none → Q (.ref p) (upd H p (DctO X.prog X.w p [])) := ⟨fun pins s σ H Q I h =>
  wpAny_Dict_empty ⟨.ref s.heap.objs.size, _, I.laid (a := s.heap.objs.size) (o := DctO X.prog X.w s.heap.objs.size []) (t' := s.toks) (fun _ _ q => Heap.get?_push_of_some _ q) (Nat.le_refl _)
    (dct_obj (beq_eq_false_iff_ne.mpr (Ne.symm (Nat.ne_of_lt I.big))) (Nat.zero_le _) .nil (Heap.DictOfH.new s.heap)), rfl, h _ (I.hok.fresh (Nat.le_refl _))⟩⟩
/-- list(d): the keys' tuples in their order -/
theorem dct_list (hc : X.calm = true) : CallR X (.type "list") (fun xs H Q => ∃ d ks, xs = [V.ref d] ∧ H d = some (DctO X.prog X.w d ks) ∧ ∀ p, H p = none → Q (.ref p) (upd H p (.lst (ks.map fun x => V.ref x.2.1)))) := by
  intro pins s σ H xs us Q I r h
  obtain ⟨d, ks, rfl, hd, q⟩ := h
  obtain ⟨u, rfl, rx⟩ := r.one
  cases rx
  obtain ⟨⟨h1, h2, xs, h3, h4, o, es, ep, ho, hx, hdt, he⟩, _⟩ := I.hok d _ hd
  have l1 : es.size = xs.length := size_of_entries he
  have l2 : ks.length = xs.length := Paired.length h3
  refine PySem.W.kdl_call (kdl_raw h1 hx hdt) (I.ok.hd hc) ho (by omega) fun h' tk acc' c' kp e it => ?_
  have ea : acc'.toList = xs.map fun x => Value.ref x.2.1 := by
    have hl : acc'.toList.length = xs.length := by rw [Array.length_toList, it.1]; exact l1
    apply List.ext_getElem?
    intro j
    rw [List.getElem?_map]
    cases hj : acc'.toList[j]? with
    | none =>
      have h1 := List.getElem?_eq_none_iff.mp hj
      rw [List.getElem?_eq_none (by omega)]
      all_goals rfl
    | some v =>
      obtain ⟨en, hen, hv⟩ := it.2 j v (by rw [← Array.getElem?_toList]; exact hj)
      have qe := entry_at he j
      rw [hen] at qe
      cases hb : xs[j]? with
      | none =>
        rw [hb] at qe
        exact nomatch (show some en = none from qe)
      | some b =>
        rw [hb] at qe
        have e2 : en = entryOfKey (nestedKind X.prog X.w) b := Option.some.inj qe
        rw [hv, e2]
        all_goals rfl
  have eb : acc'.toList = (ks.map fun x => x.2.1).map Value.ref := by
    rw [ea, List.map_map]
    clear ea
    have : ∀ {l : Kis} {m : List (NestedKey × Addr × Value)}, Paired KiR l m → (m.map fun x => Value.ref x.2.1) = l.map (Value.ref ∘ fun x => x.2.1) := by
      intro l m q
      induction q with
      | nil => rfl
      | cons h _ ih =>
        rw [List.map_cons, List.map_cons, ih, h.2.1]
        rfl
    exact this h3
  have rv : Vals ((ks.map fun x => x.2.1).map V.ref) acc'.toList := by rw [eb]; exact vals_refs _
  have hz : ((ks.map fun x => x.2.1).map V.ref).length ≤ sizeLine := by rw [List.length_map, List.length_map]; omega
  have e3 : (ks.map fun x => x.2.1).map V.ref = ks.map fun x => V.ref x.2.1 := by rw [List.map_map]; rfl
  refine ⟨.ref s.heap.objs.size, _, I.laid (t' := tk) (o := .lst ((ks.map fun x => x.2.1).map V.ref)) kp (Nat.le_refl _) ?_, rfl, by rw [e3]; exact q _ (I.hok.fresh (Nat.le_refl _))⟩
  exact ⟨hz, acc'.toList, c', rv, by rw [Array.toArray_toList]; exact e⟩
end
end Ag
set_option Elab.async false
set_option linter.all false
set_option autoImplicit false
set_option maxRecDepth 100000
set_option maxHeartbeats 2000000
namespace Ag
open PySem PySem.W PyProof.Rows SeqAt
mutual
/-- a key as data -/
def pd : D → PyData
  | .int i => .int i
  | .tup ds => .tuple (pds ds)
  | _ => .none
def pds : List D → List PyData
  | [] => []
  | d :: r => pd d :: pds r
end
section
variable {prog : Program} {w : World} {A : Around} {E : Value → Shared → Prop} {s : Shared}
/-- the call of tuple's own __lt__, as sorting makes it -/
theorem call_tuple_ltA {Q : Value → Shared → Prop} {l b : Addr} {items items2 : Array Value} {e r : Nat → Bool} (hl : s.heap.IsTuple l items) (hb : s.heap.IsTuple b items2)
    (he : ∀ j (h1 : j < items.size) (h2 : j < items2.size), EqAt A.in1 s items[j] items2[j] (e j)) (hr : ∀ j (h1 : j < items.size) (h2 : j < items2.size), e j = false → RcLt A.in1 s items[j] items2[j] (r j))
    (h : Q (.bool (firstLt e r (decide (items.size < items2.size)) (List.range (min items.size items2.size)))) s) : wpAny (model prog w) A (call (.builtin "tuple.__lt__") [.ref l, .ref b]) Q E s := by
  obtain ⟨⟨cls, dd, data, sl⟩, ho, hc, n, hd⟩ := id hl
  obtain ⟨⟨cls2, dd2, data2, sl2⟩, ho2, hc2, n2, hd2⟩ := id hb
  simp only at hc hd hc2 hd2
  subst hc hd hc2 hd2
  exact call_meets F.slot_tuple_lt ⟨_, ho, rfl⟩ F.entry_tuple_lt (F.args_tuple_lt_2 _ _) (tuple_ltAt l b items items2 n n2 dd dd2 sl sl2 e r) ⟨ho, ho2, he, hr, h⟩
theorem oneLt_tup {f : Bool} {xs ys : List PyData} {a b : Value} {as bs : List Addr} {Q : Bool → Shared → Prop} (ra : Reads s.heap a (.tuple xs) as) (rb : Reads s.heap b (.tuple ys) bs) (h : alike (.tuple xs) (.tuple ys) = true)
    (hu : A.units + min (PyData.tuple xs).depth (PyData.tuple ys).depth < cLine) (hq : Q (dataLt (.tuple xs) (.tuple ys)) s) : wpAny (model prog w) A (oneLt' f a b) Q E s := by
  cases f with
  | false => exact oneLt_alike (by intro h; cases h) ra rb h (by intro z; cases z) hu hq
  | true =>
    have hal : alikeAll xs ys = true := by simpa [alike] using h
    cases ra with
    | @tuple l o vs n _ as₁ h1 h2 h3 h4 =>
      cases rb with
      | @tuple l' o' vs' n' _ bs₁ k1 k2 k3 k4 =>
        have n1 : vs.size = xs.length := by simpa using ReadsAll.length _ _ _ h4
        have n2 : vs'.size = ys.length := by simpa using ReadsAll.length _ _ _ k4
        rw [dataLt_tuple, ← firstLt_toks xs ys hal, ← n1, ← n2] at hq
        rw [oneLt'_eq]
        simp only [if_true]
        refine wpAny_bind (wpAny_cRoomFor (room_here hu) ?_)
        refine wpAny_bind (wpAny_callSpecialIfBound?_slot (T := "tuple") ⟨_, h1, h2⟩ F.slot_tuple_lt (call_tuple_ltA (e := pairEq xs ys) (r := fun j => dataLt (xs.getD j .none) (ys.getD j .none)) ⟨_, h1, h2, _, h3⟩ ⟨_, k1, k2, _, k3⟩ (fun j j1 j2 => ?_) (fun j j1 j2 hj => ?_) ?_))
        · have := eqAt_alikeAll xs ys A.in1 s vs.toList vs'.toList _ _ h4 k4 hal (room_in hu) j (by simpa using j1) (by simpa using j2)
          simpa using this
        · have := rcLt_alikeAll xs ys A.in1 s vs.toList vs'.toList _ _ h4 k4 hal (room_in hu) j (by simpa using j1) (by simpa using j2) hj
          simpa using this
        · exact wpAny_truthy_bool hq
/-- a value that reads as a tuple, whose items are tuples -/
def TupT (h : Heap) (v : Value) (xs : List PyData) : Prop := ∃ as, Reads h v (.tuple xs) as
theorem keyLt_tup {κ : SortKind} (hκ : κ = general' ∨ κ = oneType' ∨ κ = tuples' false) {xs ys : List PyData} {a b : Value} {Q : Bool → Shared → Prop} (ra : TupT s.heap a xs) (rb : TupT s.heap b ys) (h : alike (.tuple xs) (.tuple ys) = true)
    (hu : A.units + min (PyData.tuple xs).depth (PyData.tuple ys).depth < cLine) (hq : Q (dataLt (.tuple xs) (.tuple ys)) s) : wpAny (model prog w) A (keyLt' κ a b) Q E s := by
  obtain ⟨as, ra⟩ := ra
  obtain ⟨bs, rb⟩ := rb
  rcases hκ with rfl | rfl | rfl
  · exact oneLt_tup (f := false) ra rb h hu hq
  · exact oneLt_tup (f := true) ra rb h hu hq
  · have hal : alikeAll xs ys = true := by simpa [alike] using h
    cases ra with
    | @tuple l o vs n _ as₁ h1 h2 h3 h4 =>
      cases rb with
      | @tuple l' o' vs' n' _ bs₁ k1 k2 k3 k4 =>
        have n1 : vs.size = xs.length := by simpa using ReadsAll.length _ _ _ h4
        have n2 : vs'.size = ys.length := by simpa using ReadsAll.length _ _ _ k4
        refine kat_lt h1 h3 k1 k3 (katLex_alike xs ys 0 vs.toList vs'.toList _ _ h4 k4 hal ?_ (by intro z; cases z) (by rw [n1, n2]) (by rw [dataLt_tuple] at hq; exact hq))
        have hu' : A.units + min (PyData.depthAll xs + 1) (PyData.depthAll ys + 1) < cLine := by simpa [PyData.depth] using hu
        omega
/-- the first items -/
theorem tup_firsts : ∀ (vs : List Value) (xss : List (List PyData)) {Q : List (Option Value) → Shared → Prop}, EachIs (TupT s.heap) vs xss → (∀ fs : List (Option Value), fs.length = vs.length → (∀ (i : Nat) (f : Option Value), fs[i]? = some f → ∃ xs, xss[i]? = some xs ∧ ((f = none ∧ xs = []) ∨ ∃ v x r as, f = some v ∧ xs = x :: r ∧ Reads s.heap v x as)) → Q fs s) →
    wpAny (model prog w) A (vs.mapM firstOfTuple') Q E s
  | _, _, Q, .nil, h => by
    rw [List.mapM_nil]
    exact wpAny_pure (h [] rfl fun i f e => by simp at e)
  | v :: vs, xs :: xss, Q, .cons hv t, h => by
    rw [List.mapM_cons]
    obtain ⟨as, ra⟩ := hv
    cases ra with
    | @tuple a o us n _ as₁ h1 h2 h3 h4 =>
      refine wpAny_bind ?_
      rw [kas_first_eq]
      refine wpAny_bind (Looks.here (show Looks (model prog w) s.heap (typeOf (.ref a)) o.cls from (Looks.ld h1).andThen .now) ?_)
      rw [h2, if_neg (by first | decide | simp)]
      refine wpAny_bind (listItems_at h1 h3 (wpAny_pure ?_))
      refine wpAny_bind (tup_firsts vs xss t fun fs hl hf => wpAny_pure (h (us[0]? :: fs) (by rw [List.length_cons, List.length_cons, hl]) fun i f e => ?_))
      cases i with
      | zero =>
        simp at e
        subst e
        refine ⟨xs, rfl, ?_⟩
        have hu : us.toList = us.toList := rfl
        cases hh : us.toList with
        | nil =>
          rw [hh] at h4
          cases h4
          refine .inl ⟨?_, rfl⟩
          rw [← Array.getElem?_toList, hh]
          rfl
        | cons y ys =>
          rw [hh] at h4
          cases h4 with
          | @cons _ _ d ds as' bs' r1 r2 =>
            refine .inr ⟨y, _, _, _, ?_, rfl, r1⟩
            rw [← Array.getElem?_toList, hh]
            rfl
      | succ i => exact hf i f (by simpa using e)
def kOf (xss : List (List PyData)) : SortKind := if xss.all (fun xs => !xs.isEmpty) = true then tuples' false else if xss.head?.map (·.isEmpty) = some false then general' else oneType'
theorem kOf_or (xss : List (List PyData)) : kOf xss = general' ∨ kOf xss = oneType' ∨ kOf xss = tuples' false := by
  unfold kOf
  split
  · exact .inr (.inr rfl)
  · split
    · exact .inl rfl
    · exact .inr (.inl rfl)
theorem tup_kindA {vs : List Value} {xss : List (List PyData)} {Q : SortKind → Shared → Prop} (h0 : vs ≠ []) (e : EachIs (TupT s.heap) vs xss) (hx : ∀ xs ∈ xss, ∀ x r, xs = x :: r → ∃ ys, x = .tuple ys)
    (h : Q (kOf xss) s) : wpAny (model prog w) A (keyKind' vs.toArray) Q E s := by
  rw [kat_kind_eq, List.mapM_toArray, map_eq_pure_bind]
  refine wpAny_bind (wpAny_bind (tup_firsts vs xss e fun fs hl hf => wpAny_pure ?_))
  have hlook : ∀ (f : Value) (i : Nat), fs[i]? = some (some f) → Looks (model prog w) s.heap (typeOf f) (.type "tuple") := by
    intro f i e1
    obtain ⟨xs, e2, h1 | ⟨v, x, r, as, e3, e4, e5⟩⟩ := hf i _ e1
    · cases h1.1
    · cases e3
      obtain ⟨ys, rfl⟩ := hx xs (List.mem_of_getElem? e2) x r e4
      cases e5 with
      | @tuple a o us n _ as₁ h1 h2 h3 h4 =>
        have : Looks (model prog w) s.heap (typeOf (.ref a)) o.cls := (Looks.ld h1).andThen .now
        rw [h2] at this
        exact this
  have hone : ∀ (gs : List Value) {Q' : Option Value → Shared → Prop}, gs ≠ [] → (∀ g ∈ gs, Looks (model prog w) s.heap (typeOf g) (.type "tuple")) → Q' (some (.type "tuple")) s → wpAny (model prog w) A (oneTypeOnly' gs.toArray) Q' E s := by
    intro gs Q' hne hg hq
    obtain ⟨g1, gr, rfl⟩ : ∃ g1 gr, gs = g1 :: gr := by
      match gs, hne with
      | g1 :: gr, _ => exact ⟨g1, gr, rfl⟩
    rw [oneTypeOnly'_eq, List.mapM_toArray, map_eq_pure_bind]
    refine wpAny_bind (wpAny_bind (kas_mapM (r := Value.type "tuple") _ (fun v hv Q' hq => (hg v hv).here hq) (wpAny_pure ?_)))
    have hall2 : ((List.map (fun _ => Value.type "tuple") (g1 :: gr)).toArray.all fun x => x == Value.type "tuple") = true := by
      simp only [List.all_toArray, List.all_map, List.all_eq_true]
      intro _ _
      rfl
    have h0 : (List.map (fun _ => Value.type "tuple") (g1 :: gr)).toArray[0]? = some (Value.type "tuple") := by simp
    rw [h0]
    simp only [hall2, if_true]
    exact wpAny_pure hq
  have hlx : fs.length = xss.length := by
    have : ∀ {l : List Value} {m : List (List PyData)}, EachIs (TupT s.heap) l m → l.length = m.length := by
      intro l m q
      induction q with
      | nil => rfl
      | cons _ _ ih => rw [List.length_cons, List.length_cons, ih]
    rw [hl, this e]
  have hiff : ∀ (i : Nat) (f : Option Value) (xs : List PyData), fs[i]? = some f → xss[i]? = some xs → f.isSome = !xs.isEmpty := by
    intro i f xs e1 e2
    obtain ⟨xs', e3, h1 | ⟨v, x, r, as, e4, e5, _⟩⟩ := hf i f e1
    · rw [e2] at e3
      cases e3
      rw [h1.1, h1.2]
      rfl
    · rw [e2] at e3
      cases e3
      rw [e4, e5]
      rfl
  have hall' : (fs.toArray.all fun x => x.isSome) = xss.all (fun xs => !xs.isEmpty) := by
    rw [List.all_toArray]
    apply Bool.eq_iff_iff.mpr
    rw [List.all_eq_true, List.all_eq_true]
    constructor
    · intro hh xs hxs
      obtain ⟨i, hi⟩ := List.mem_iff_getElem?.mp hxs
      have hlt : i < fs.length := by rw [hlx]; exact (List.getElem?_eq_some_iff.mp hi).1
      rw [← hiff i _ xs (List.getElem?_eq_getElem hlt) hi]
      exact hh _ (List.getElem_mem hlt)
    · intro hh f hff
      obtain ⟨i, hi⟩ := List.mem_iff_getElem?.mp hff
      have hlt : i < xss.length := by rw [← hlx]; exact (List.getElem?_eq_some_iff.mp hi).1
      rw [hiff i f _ hi (List.getElem?_eq_getElem hlt)]
      exact hh _ (List.getElem_mem hlt)
  have hhead : (fs.toArray[0]?.bind id).isSome = decide (xss.head?.map (·.isEmpty) = some false) := by
    cases hfs : fs with
    | nil =>
      rw [hfs] at hlx
      have : xss = [] := List.eq_nil_of_length_eq_zero hlx.symm
      rw [this]
      rfl
    | cons f r =>
      cases hxs : xss with
      | nil => rw [hfs, hxs] at hlx; cases hlx
      | cons xs t =>
        have := hiff 0 f xs (by rw [hfs]; rfl) (by rw [hxs]; rfl)
        show (((f :: r).toArray[0]?).bind id).isSome = decide (some xs.isEmpty = some false)
        have e0 : ((f :: r).toArray[0]?).bind id = f := by simp
        rw [e0, this]
        cases xs.isEmpty <;> rfl
  unfold kOf at h
  by_cases hall : (fs.toArray.all fun x => x.isSome) = true
  · rw [if_pos (by rw [← hall']; exact hall)] at h
    rw [if_pos hall]
    refine wpAny_bind (wpAny_rule ?_)
    have hfm : fs.toArray.filterMap id = (fs.filterMap id).toArray := by simp
    rw [hfm]
    refine wpAny_bind (hone (fs.filterMap id) ?_ (fun g hg => ?_) ?_)
    · intro e0
      cases hfs : fs with
      | nil => rw [hfs] at hl; exact h0 (List.eq_nil_of_length_eq_zero hl.symm)
      | cons f r =>
        rw [hfs] at e0 hall
        cases f with
        | none => simp at hall
        | some g => simp at e0
    · obtain ⟨o, ho, e1⟩ := List.mem_filterMap.mp hg
      have e1 : o = some g := e1
      subst e1
      obtain ⟨i, e2⟩ := List.mem_iff_getElem?.mp ho
      exact hlook g i e2
    · exact wpAny_pure h
  · rw [if_neg (by rw [← hall']; exact hall)] at h
    rw [if_neg hall]
    by_cases hf0 : (fs.toArray[0]?.bind id).isSome = true
    · rw [if_pos hf0]
      rw [if_pos (by rw [hhead] at hf0; exact of_decide_eq_true hf0)] at h
      exact wpAny_pure h
    · rw [if_neg hf0]
      rw [if_neg (by rw [hhead] at hf0; intro z; exact hf0 (decide_eq_true z))] at h
      refine wpAny_bind (hone vs h0 (fun g hg => ?_) ?_)
      · have key : ∀ {l : List Value} {m : List (List PyData)}, EachIs (TupT s.heap) l m → ∀ g ∈ l, Looks (model prog w) s.heap (typeOf g) (.type "tuple") := by
          intro l m q
          induction q with
          | nil => intro g hg; cases hg
          | cons hv _ ih =>
            intro g hg
            rcases List.mem_cons.mp hg with rfl | hg
            · obtain ⟨as, ra⟩ := hv
              cases ra with
              | @tuple a o us n _ as₁ h1 h2 h3 h4 =>
                have : Looks (model prog w) s.heap (typeOf (.ref a)) o.cls := (Looks.ld h1).andThen .now
                rw [h2] at this
                exact this
            · exact ih g hg
        exact key e g hg
      · exact wpAny_pure h
end
mutual
def tupOnly : PyData → Bool
  | .int _ => true
  | .tuple xs => tupOnlys xs
  | _ => false
def tupOnlys : List PyData → Bool
  | [] => true
  | x :: r => tupOnly x && tupOnlys r
end
mutual
theorem reads_keep {h h' : Heap} (k : ∀ b o, o.cls = .type "tuple" → h.get? b = some o → h'.get? b = some o) : ∀ (d : PyData) (v : Value) (as : List Addr), tupOnly d = true → Reads h v d as → Reads h' v d as
  | .int i, v, as, _, r => by
    cases r
    exact .int _ _
  | .tuple xs, v, as, ht, r => by
    cases r with
    | tuple h1 h2 h3 h4 => exact .tuple (k _ _ h2 h1) h2 h3 (readsAll_keep k xs _ _ ht h4)
  | .none, _, _, ht, _ => by cases ht
  | .bool _, _, _, ht, _ => by cases ht
  | .str _, _, _, ht, _ => by cases ht
  | .list _, _, _, ht, _ => by cases ht
  | .dict _, _, _, ht, _ => by cases ht
theorem readsAll_keep {h h' : Heap} (k : ∀ b o, o.cls = .type "tuple" → h.get? b = some o → h'.get? b = some o) : ∀ (ds : List PyData) (vs : List Value) (as : List Addr), tupOnlys ds = true → ReadsAll h vs ds as → ReadsAll h' vs ds as
  | [], vs, as, _, r => by
    cases r
    exact .nil
  | d :: ds, vs, as, ht, r => by
    have ht : (tupOnly d && tupOnlys ds) = true := ht
    rw [Bool.and_eq_true] at ht
    cases r with
    | cons r1 r2 => exact .cons (reads_keep k d _ _ ht.1 r1) (readsAll_keep k ds _ _ ht.2 r2)
end
theorem TupT.keep {h h' : Heap} (k : ∀ b o, o.cls = .type "tuple" → h.get? b = some o → h'.get? b = some o) {v : Value} {xs : List PyData} (ht : tupOnlys xs = true) (r : TupT h v xs) : TupT h' v xs := let ⟨as, r⟩ := r; ⟨as, reads_keep k (.tuple xs) v as ht r⟩
theorem each_mem {α β : Type} {R : α → β → Prop} : ∀ {l : List α} {m : List β}, EachIs R l m → ∀ p ∈ l.zip m, R p.1 p.2
  | _, _, .nil, p, h => by cases h
  | _, _, .cons hv t, p, h => by
    rw [List.zip_cons_cons] at h
    rcases List.mem_cons.mp h with rfl | h
    · exact hv
    · exact each_mem t p h
theorem each_zip {α β : Type} {R : α → β → Prop} : ∀ {l : List α} {m : List β}, EachIs R l m → ∀ v ∈ l, ∃ y, (v, y) ∈ l.zip m
  | _, _, .nil, v, h => by cases h
  | x :: l, y :: m, .cons hv t, v, h => by
    rw [List.zip_cons_cons]
    rcases List.mem_cons.mp h with rfl | h
    · exact ⟨y, List.mem_cons_self⟩
    · obtain ⟨z, hz⟩ := each_zip t v h
      exact ⟨z, List.mem_cons_of_mem _ hz⟩
theorem each_map' {α β : Type} {R R' : α → β → Prop} (f : ∀ a b, R a b → R' a b) : ∀ {l : List α} {m : List β}, EachIs R l m → EachIs R' l m
  | _, _, .nil => .nil
  | _, _, .cons hv t => .cons (f _ _ hv) (each_map' f t)
theorem each_map2 {α β : Type} {R R' : α → β → Prop} : ∀ {l : List α} {m : List β}, (∀ a b, b ∈ m → R a b → R' a b) → EachIs R l m → EachIs R' l m
  | _, _, _, .nil => .nil
  | _, _, f, .cons hv t => .cons (f _ _ List.mem_cons_self hv) (each_map2 (fun a b hb => f a b (List.mem_cons_of_mem _ hb)) t)
open Classical in
/-- by what a value is sorted -/
noncomputable def ktOf (us : List Value) (xss : List (List PyData)) (v : Value) : List (Int ⊕ List Nat) := if h : ∃ xs, (v, xs) ∈ us.zip xss then keyToks (.tuple h.choose) else []
theorem kt_of {us : List Value} {xss : List (List PyData)} {v : Value} (h : ∃ xs, (v, xs) ∈ us.zip xss) : ∃ xs, (v, xs) ∈ us.zip xss ∧ ktOf us xss v = keyToks (.tuple xs) := ⟨h.choose, h.choose_spec, by unfold ktOf; rw [dif_pos h]⟩
theorem swo_kt (kt : Value → List (Int ⊕ List Nat)) : SrtO.Swo fun v u => lexLt itemOrd (kt v) (kt u) := by
  refine ⟨fun x y h => ?_, fun x y z h1 h2 => ?_⟩
  · cases q : lexLt itemOrd (kt y) (kt x) with
    | false => rfl
    | true =>
      have := lex_trans (O := itemOrd) _ _ _ h q
      rw [lex_irrefl] at this
      cases this
  · cases q : lexLt itemOrd (kt z) (kt x) with
    | false => rfl
    | true =>
      rcases lex_negTrans (O := itemOrd) (kt z) (kt y) (kt x) q with h | h
      · rw [h2] at h; cases h
      · rw [h1] at h; cases h
section
variable {prog : Program} {w : World} {A : Around} {E : Value → Shared → Prop} {s : Shared}
theorem sorted_tups {l : Addr} {us : List Value} {xss : List (List PyData)} {Q : Value → Shared → Prop} (hl : s.heap.IsList l us.toArray) (hz : us.length ≤ sizeLine) (he : EachIs (TupT s.heap) us xss)
    (hal : ∀ xs ∈ xss, ∀ ys ∈ xss, alike (.tuple xs) (.tuple ys) = true) (hx : ∀ xs ∈ xss, ∀ x r, xs = x :: r → ∃ ys, x = .tuple ys) (ht : ∀ xs ∈ xss, tupOnlys xs = true) (hd : ∀ xs ∈ xss, (PyData.tuple xs).depth ≤ 20) (hu : A.units + 25 < cLine)
    (h : ∀ (h' : Heap) (d : Addr) (out : List Value), out.Perm us → (out.Pairwise fun x y => lexLt itemOrd (ktOf us xss y) (ktOf us xss x) = false) → (∀ b o, s.heap.get? b = some o → h'.get? b = some o) → s.heap.objs.size ≤ d → (∃ n, h'.get? d = some (seqObj "list" out.toArray n)) → Q (.ref d) { s with heap := h' }) :
    wpAny (model prog w) A (call (.builtin "sorted") [.ref l]) Q E s := by
  refine SrtO.sorted_ord (swo_kt (ktOf us xss)) hl hz (fun h2 h₁ a ha kk h' keep => ?_) fun out hs hb => ?_
  · have ktup : ∀ b o, o.cls = .type "tuple" → s.heap.get? b = some o → h'.get? b = some o := fun b o hc e => keep b o (kk b o e).1 (kk b o e).2
    have he' : EachIs (TupT h') us xss := each_map2 (fun v xs hxs r => r.keep ktup (ht xs hxs)) he
    by_cases hne : us = []
    · rw [hne] at h2
      exact absurd h2 (by decide)
    · refine ⟨kOf xss, fun Q E hq => tup_kindA hne he' hx hq, fun p q hp hq => ?_⟩
      obtain ⟨xs, m1, k1⟩ := kt_of (each_zip he p.1 hp)
      obtain ⟨ys, m2, k2⟩ := kt_of (each_zip he q.1 hq)
      have r1 := each_mem he' _ m1
      have r2 := each_mem he' _ m2
      have x1 : xs ∈ xss := (List.of_mem_zip m1).2
      have x2 : ys ∈ xss := (List.of_mem_zip m2).2
      refine keyLt_tup (s := { s with heap := h' }) (kOf_or xss) r1 r2 (hal xs x1 ys x2) ?_ ⟨rfl, ?_⟩
      · have d1 := hd xs x1
        have d2 := hd ys x2
        show A.units + 1 + 1 + min (PyData.tuple xs).depth (PyData.tuple ys).depth < cLine
        omega
      · show _ = lexLt itemOrd (ktOf us xss p.1) (ktOf us xss q.1)
        rw [k1, k2]
        rfl
  · exact h _ _ out hb.perm hs (fun b o e => sortedAll_old e) (Nat.le_succ _) (sortedAll_at s.heap us out.toArray)
end
end Ag
set_option Elab.async false
set_option linter.all false
set_option autoImplicit false
set_option maxRecDepth 100000
set_option maxHeartbeats 2000000
namespace Ag
open PySem PySem.Spec L2 TL
/-- the items of a key -/
def itsOf : D → List D
  | .tup ds => ds
  | _ => []
def isTupD : D → Bool
  | .tup _ => true
  | _ => false
/-- a list of keys that can be sorted -/
structure SortOk (ds : List D) : Prop where
  key : ∀ d ∈ ds, isKey d = true ∧ isTupD d = true ∧ d.deep ≤ 8
  first : ∀ d ∈ ds, ∀ x r, itsOf d = x :: r → isTupD x = true
  alike : ∀ d ∈ ds, ∀ e ∈ ds, PySem.W.alike (pd d) (pd e) = true
  nd : ds.Nodup
def SortedD (ds es : List D) : Prop := es.Perm ds ∧ es.Pairwise fun a b => PySem.W.dataLt (pd b) (pd a) = false
theorem pd_tup {d : D} (h : isTupD d = true) : pd d = .tuple (pds (itsOf d)) := by
  cases d with
  | tup ds => rfl
  | _ => cases h
mutual
theorem pd_only : ∀ {d : D}, isKey d = true → tupOnly (pd d) = true
  | .int _, _ => rfl
  | .tup ds, h => pds_only (ds := ds) h
theorem pds_only : ∀ {ds : List D}, areKeys ds = true → tupOnlys (pds ds) = true
  | [], _ => rfl
  | d :: r, h => by
    have h : (isKey d && areKeys r) = true := h
    rw [Bool.and_eq_true] at h
    show (tupOnly (pd d) && tupOnlys (pds r)) = true
    rw [pd_only h.1, pds_only h.2]
    rfl
end
mutual
theorem pd_depth : ∀ {d : D}, isKey d = true → (pd d).depth = d.deep
  | .int _, _ => by simp [pd, PyData.depth, D.deep]
  | .tup ds, h => by
    have := pds_depth (ds := ds) h
    simp [pd, PyData.depth, D.deep, this]
theorem pds_depth : ∀ {ds : List D}, areKeys ds = true → PyData.depthAll (pds ds) = D.deeps ds
  | [], _ => by simp [pds, PyData.depthAll, D.deeps]
  | d :: r, h => by
    have h : (isKey d && areKeys r) = true := h
    rw [Bool.and_eq_true] at h
    have h1 := pd_depth h.1
    have h2 := pds_depth h.2
    simp [pds, PyData.depthAll, D.deeps, h1, h2]
end
mutual
theorem pd_inj : ∀ {x y : D}, isKey x = true → isKey y = true → PyData.eqv (pd x) (pd y) = true → x = y
  | .int i, .int j, _, _, h => by
    have : i = j := by simpa [pd, PyData.eqv] using h
    rw [this]
  | .tup a, .tup b, hx, hy, h => by
    have h : PyData.eqvAll (pds a) (pds b) = true := by simpa [pd, PyData.eqv] using h
    rw [pds_inj hx hy h]
  | .int _, .tup _, _, _, h => by simp [pd, PyData.eqv] at h
  | .tup _, .int _, _, _, h => by simp [pd, PyData.eqv] at h
theorem pds_inj : ∀ {x y : List D}, areKeys x = true → areKeys y = true → PyData.eqvAll (pds x) (pds y) = true → x = y
  | [], [], _, _, _ => rfl
  | a :: r, b :: t, hx, hy, h => by
    have hx : (isKey a && areKeys r) = true := hx
    have hy : (isKey b && areKeys t) = true := hy
    rw [Bool.and_eq_true] at hx hy
    have h : PyData.eqvAll (pd a :: pds r) (pd b :: pds t) = true := h
    rw [PyData.eqvAll, Bool.and_eq_true] at h
    rw [pd_inj hx.1 hy.1 h.1, pds_inj hx.2 hy.2 h.2]
  | [], _ :: _, _, _, h => by simp [pds, PyData.eqvAll] at h
  | _ :: _, [], _, _, h => by simp [pds, PyData.eqvAll] at h
end
/-- of two unlike keys one is below the other -/
theorem dataLt_tot {x y : D} (hx : isKey x = true) (hy : isKey y = true) (ha : PySem.W.alike (pd x) (pd y) = true) (h1 : PySem.W.dataLt (pd x) (pd y) = false) (h2 : PySem.W.dataLt (pd y) (pd x) = false) : x = y := by
  have ht : PySem.W.keyToks (pd x) = PySem.W.keyToks (pd y) := PyProof.Rows.lex_total (O := PyProof.Rows.itemOrd) _ _ h1 h2
  cases he : PyData.eqv (pd x) (pd y) with
  | true => exact pd_inj hx hy he
  | false =>
    have k := (PySem.W.toks_eqv (pd x) (pd y) ha).2 he [.inl 0] [.inl 1]
    rw [ht, PySem.W.lex_pre, PyProof.Rows.lex_irrefl] at k
    exact absurd k (by decide)
/-- sorting has one result -/
theorem sorted_uniq {ds : List D} (ok : SortOk ds) : ∀ {es es' : List D}, SortedD ds es → SortedD ds es' → es = es' := by
  have key : ∀ (n : Nat) (es es' : List D), es.length = n → es.Perm es' → (∀ d ∈ es, d ∈ ds) → es.Nodup → (es.Pairwise fun a b => PySem.W.dataLt (pd b) (pd a) = false) → (es'.Pairwise fun a b => PySem.W.dataLt (pd b) (pd a) = false) → es = es' := by
    intro n
    induction n with
    | zero =>
      intro es es' hl hp _ _ _ _
      have e : es = [] := List.eq_nil_of_length_eq_zero hl
      subst e
      exact hp.nil_eq
    | succ n ih =>
      intro es es' hl hp hm hnd h1 h2
      match es, es', hl, hp, hm, hnd, h1, h2 with
      | a :: r, [], _, hp, _, _, _, _ => exact absurd hp.eq_nil (by simp)
      | a :: r, b :: t, hl, hp, hm, hnd, h1, h2 =>
        have e : a = b := by
          by_cases hab : a = b
          · exact hab
          · have ha : a ∈ b :: t := hp.mem_iff.mp List.mem_cons_self
            have hb : b ∈ a :: r := hp.mem_iff.mpr List.mem_cons_self
            have ha' : a ∈ t := (List.mem_cons.mp ha).resolve_left hab
            have hb' : b ∈ r := (List.mem_cons.mp hb).resolve_left fun z => hab z.symm
            have l1 := (List.pairwise_cons.mp h1).1 b hb'
            have l2 := (List.pairwise_cons.mp h2).1 a ha'
            have ia := hm a List.mem_cons_self
            have ib := hm b hb
            exact dataLt_tot (ok.key a ia).1 (ok.key b ib).1 (ok.alike a ia b ib) l2 l1
        subst e
        rw [ih r t (by simpa using hl) ((List.perm_cons a).mp hp) (fun d hd => hm d (List.mem_cons_of_mem _ hd)) (List.nodup_cons.mp hnd).2 (List.pairwise_cons.mp h1).2 (List.pairwise_cons.mp h2).2]
  intro es es' h h'
  exact key _ es es' rfl (h.1.trans h'.1.symm) (fun d hd => h.1.mem_iff.mp hd) (h.1.nodup_iff.mpr ok.nd) h.2 h'.2
open Classical in
noncomputable def sortD (ds : List D) : List D := if h : ∃ es, SortedD ds es then h.choose else []
theorem sortD_is {ds es : List D} (ok : SortOk ds) (h : SortedD ds es) : sortD ds = es := by
  have hex : ∃ es, SortedD ds es := ⟨es, h⟩
  have : SortedD ds (sortD ds) := by
    unfold sortD
    rw [dif_pos hex]
    exact hex.choose_spec
  exact sorted_uniq ok this h
section
variable {X : Cx} {pins : List (Addr × Obj)} {σ : L2.St} {H : Hp} {s : Shared}
mutual
theorem reads_of (I : Inv X pins σ H s) {G : Hp} (hs : Ext G H) : ∀ {d : D} {v : V} {u : Value}, isKey d = true → Rep X.K G v d → RelV v u → ∃ as, Reads s.heap u (pd d) as
  | .int i, v, u, _, r, rv => by
    rw [r.of_int] at rv
    obtain ⟨t, rfl⟩ := rv
    exact ⟨_, .int i t⟩
  | .tup ds, v, u, hk, r, rv => by
    obtain ⟨a, vs, rfl, h1, r1⟩ := r.of_tup
    cases rv
    obtain ⟨its, rel, ⟨o, e, hc, n, hd⟩, hz⟩ := I.tuple (h1.ext hs)
    obtain ⟨as, ra⟩ := reads_all I hs hk r1 rel
    exact ⟨as, .tuple e hc hd (by simpa using ra)⟩
theorem reads_all (I : Inv X pins σ H s) {G : Hp} (hs : Ext G H) : ∀ {ds : List D} {vs : List V} {us : List Value}, areKeys ds = true → Reps X.K G vs ds → Vals vs us → ∃ as, ReadsAll s.heap us (pds ds) as
  | [], vs, us, _, r, rv => by
    cases r
    cases rv
    exact ⟨_, .nil⟩
  | d :: ds, vs, us, hk, r, rv => by
    have hk : (isKey d && areKeys ds) = true := hk
    rw [Bool.and_eq_true] at hk
    cases r with
    | cons r1 r2 =>
      cases rv with
      | cons v1 v2 =>
        obtain ⟨as, h1⟩ := reads_of I hs hk.1 r1 v1
        obtain ⟨bs, h2⟩ := reads_all I hs hk.2 r2 v2
        exact ⟨_, .cons h1 h2⟩
end
theorem vals_get {vs : List V} {us : List Value} (r : Vals vs us) : ∀ {i : Nat} {u : Value}, us[i]? = some u → ∃ v, vs[i]? = some v ∧ RelV v u := by
  induction r with
  | nil => intro i u h; simp at h
  | @cons v u vs us h _ ih =>
    intro i w hw
    cases i with
    | zero => simp at hw; subst hw; exact ⟨v, rfl, h⟩
    | succ i =>
      obtain ⟨v', h1, h2⟩ := ih (i := i) (u := w) (by simpa using hw)
      exact ⟨v', by simpa using h1, h2⟩
theorem each_tup (I : Inv X pins σ H s) {G : Hp} (hs : Ext G H) : ∀ {ds : List D} {vs : List V} {us : List Value}, (∀ d ∈ ds, isKey d = true ∧ isTupD d = true) → Reps X.K G vs ds → Vals vs us → PySem.W.EachIs (TupT s.heap) us (ds.map fun d => pds (itsOf d))
  | [], _, _, _, r, rv => by
    cases r
    cases rv
    exact .nil
  | d :: ds, _, _, hk, r, rv => by
    cases r with
    | cons r1 r2 =>
      cases rv with
      | cons v1 v2 =>
        have k := hk d List.mem_cons_self
        refine .cons ?_ (each_tup I hs (fun e he => hk e (List.mem_cons_of_mem _ he)) r2 v2)
        obtain ⟨as, h1⟩ := reads_of I hs k.1 r1 v1
        rw [pd_tup k.2] at h1
        exact ⟨as, h1⟩
def toV : Value → V
  | .ref a => .ref a
  | _ => .non
/-- sorted(l), l a list of keys -/
theorem call_sortedD (hu : X.A.units + 25 < cLine) : CallR X (.builtin "sorted") (fun xs H Q => ∃ p vs G ds, xs = [V.ref p] ∧ H p = some (.lst vs) ∧ Ext G H ∧ Reps X.K G vs ds ∧ SortOk ds ∧
    ∀ q vs' es, H q = none → Reps X.K G vs' es → SortedD ds es → Q (.ref q) (upd H q (.lst vs'))) := by
  intro pins s σ H xs us Q I r h
  obtain ⟨p, vs, G, ds, rfl, hp, hs, hr, ok, q⟩ := h
  obtain ⟨u, rfl, rx⟩ := r.one
  cases rx
  obtain ⟨z, its, k, rel, e⟩ := I.hok p _ hp
  have hlen : its.length = ds.length := by rw [← rel.length, hr.length]
  -- every value with its datum
  have hget : ∀ (i : Nat) (u : Value), its[i]? = some u → ∃ d v, ds[i]? = some d ∧ RelV v u ∧ Rep X.K G v d := by
    intro i u hi
    obtain ⟨v, hv, rv⟩ := vals_get rel hi
    obtain ⟨d, hd, rd⟩ := hr.getV hv
    exact ⟨d, v, hd, rv, rd⟩
  have hnodup : ∀ (i j : Nat) (u : Value) (d e : D), its[i]? = some u → ds[i]? = some d → its[j]? = some u → ds[j]? = some e → d = e := by
    intro i j u d e h1 h2 h3 h4
    obtain ⟨d', v, k1, k2, k3⟩ := hget i u h1
    obtain ⟨e', v', m1, m2, m3⟩ := hget j u h3
    rw [h2] at k1; cases k1
    rw [h4] at m1; cases m1
    exact nk_inj (ok.key d (List.mem_of_getElem? h2)).1 (ok.key e (List.mem_of_getElem? h4)).1 (NestedIs.inj _ _ _ (nested_of I hs (ok.key d (List.mem_of_getElem? h2)).1 k3 k2) (nested_of I hs (ok.key e (List.mem_of_getElem? h4)).1 m3 m2))
  have hrefs : ∀ u ∈ its, ∃ a, u = .ref a := by
    intro u hu
    obtain ⟨i, hi⟩ := List.mem_iff_getElem?.mp hu
    obtain ⟨d, v, k1, k2, k3⟩ := hget i u hi
    have kd := ok.key d (List.mem_of_getElem? k1)
    cases d with
    | tup l =>
      obtain ⟨a, _, rfl, _, _⟩ := k3.of_tup
      exact ⟨a, k2⟩
    | _ => cases kd.2.1
  -- the datum of a value
  have hdo : ∃ dOf : Value → D, ∀ (i : Nat) (u : Value) (d : D), its[i]? = some u → ds[i]? = some d → dOf u = d := by
    refine ⟨fun u => open Classical in if h : ∃ d, ∃ i : Nat, its[i]? = some u ∧ ds[i]? = some d then h.choose else .non, fun i u d h1 h2 => ?_⟩
    have hex : ∃ d, ∃ i : Nat, its[i]? = some u ∧ ds[i]? = some d := ⟨d, i, h1, h2⟩
    simp only [dif_pos hex]
    obtain ⟨j, k1, k2⟩ := hex.choose_spec
    exact hnodup j i u _ d k1 k2 h1 h2
  obtain ⟨dOf, hdo⟩ := hdo
  have hmap : its.map dOf = ds := by
    apply List.ext_getElem?
    intro i
    rw [List.getElem?_map]
    cases h1 : its[i]? with
    | none =>
      have := List.getElem?_eq_none_iff.mp h1
      rw [List.getElem?_eq_none (by omega)]
      rfl
    | some u =>
      obtain ⟨d, v, k1, _, _⟩ := hget i u h1
      rw [k1]
      show some (dOf u) = some d
      rw [hdo i u d h1 k1]
  have hat : ∀ u ∈ its, ∃ (i : Nat) (d : D), its[i]? = some u ∧ ds[i]? = some d ∧ dOf u = d ∧ Rep X.K G (toV u) d := by
    intro u hu
    obtain ⟨i, hi⟩ := List.mem_iff_getElem?.mp hu
    obtain ⟨d, v, k1, k2, k3⟩ := hget i u hi
    obtain ⟨a, rfl⟩ := hrefs u hu
    have hv : v = .ref a := by
      cases v with
      | ref b => have : Value.ref a = .ref b := k2; cases this; rfl
      | _ => first
        | (have k2 : Value.ref a = _ := k2; cases k2; done)
        | (obtain ⟨_, k2⟩ := k2; cases k2; done)
        | cases k2
    rw [hv] at k3
    exact ⟨i, d, hi, k1, hdo i _ d hi k1, k3⟩
  refine (sorted_tups (us := its) (xss := ds.map fun d => pds (itsOf d)) ⟨_, e, rfl, k, rfl⟩ (by rw [← rel.length]; exact z) (each_tup I hs (fun d hd => ⟨(ok.key d hd).1, (ok.key d hd).2.1⟩) hr rel) ?_ ?_ ?_ ?_ hu fun h' d0 out hperm hpair hkeep hge hnew => ?_)
  · intro xs hxs ys hys
    obtain ⟨d, hd, rfl⟩ := List.mem_map.mp hxs
    obtain ⟨e, he, rfl⟩ := List.mem_map.mp hys
    have := ok.alike d hd e he
    rw [pd_tup (ok.key d hd).2.1, pd_tup (ok.key e he).2.1] at this
    exact this
  · intro xs hxs x r hx
    obtain ⟨d, hd, rfl⟩ := List.mem_map.mp hxs
    cases hi : itsOf d with
    | nil => rw [hi] at hx; cases hx
    | cons y t =>
      rw [hi] at hx
      have hx : pd y :: pds t = x :: r := hx
      cases hx
      have := ok.first d hd y t hi
      exact ⟨_, pd_tup this⟩
  · intro xs hxs
    obtain ⟨d, hd, rfl⟩ := List.mem_map.mp hxs
    have := pd_only (ok.key d hd).1
    rw [pd_tup (ok.key d hd).2.1] at this
    exact this
  · intro xs hxs
    obtain ⟨d, hd, rfl⟩ := List.mem_map.mp hxs
    rw [← pd_tup (ok.key d hd).2.1, pd_depth (ok.key d hd).1]
    have := (ok.key d hd).2.2
    omega
  · have hmem : ∀ u ∈ out, u ∈ its := fun u hu => hperm.mem_iff.mp hu
    obtain ⟨n0, hnew⟩ := hnew
    have hvals : Vals (out.map toV) out := by
      have : ∀ l : List Value, (∀ u ∈ l, ∃ a, u = .ref a) → Vals (l.map toV) l := by
        intro l
        induction l with
        | nil => intro _; exact .nil
        | cons u r ih =>
          intro hl
          obtain ⟨a, rfl⟩ := hl u List.mem_cons_self
          exact .cons rfl (ih fun w hw => hl w (List.mem_cons_of_mem _ hw))
      exact this out fun u hu => hrefs u (hmem u hu)
    have hreps : Reps X.K G (out.map toV) (out.map dOf) := by
      have : ∀ l : List Value, (∀ u ∈ l, u ∈ its) → Reps X.K G (l.map toV) (l.map dOf) := by
        intro l
        induction l with
        | nil => intro _; exact .nil
        | cons u r ih =>
          intro hl
          obtain ⟨i, d, _, _, h3, h4⟩ := hat u (hl u List.mem_cons_self)
          refine .cons ?_ (ih fun w hw => hl w (List.mem_cons_of_mem _ hw))
          rw [h3]
          exact h4
      exact this out hmem
    have hsorted : SortedD ds (out.map dOf) := by
      refine ⟨by rw [← hmap]; exact hperm.map dOf, ?_⟩
      rw [List.pairwise_map]
      refine hpair.imp_of_mem fun {x y} hx hy hxy => ?_
      have hk : ∀ u ∈ out, ktOf its (ds.map fun d => pds (itsOf d)) u = PySem.W.keyToks (pd (dOf u)) := by
        intro u hu
        obtain ⟨i, d, k1, k2, k3, _⟩ := hat u (hmem u hu)
        have hz : (u, pds (itsOf d)) ∈ its.zip (ds.map fun d => pds (itsOf d)) := by
          refine List.mem_of_getElem? (i := i) ?_
          rw [List.getElem?_zip_eq_some]
          exact ⟨k1, by rw [List.getElem?_map, k2]; rfl⟩
        obtain ⟨xs, m1, m2⟩ := kt_of ⟨_, hz⟩
        rw [m2]
        obtain ⟨j, hj⟩ := List.mem_iff_getElem?.mp m1
        rw [List.getElem?_zip_eq_some] at hj
        obtain ⟨j1, j2⟩ := hj
        rw [List.getElem?_map] at j2
        cases hd : ds[j]? with
        | none => rw [hd] at j2; cases j2
        | some d' =>
          rw [hd] at j2
          have j2 : pds (itsOf d') = xs := Option.some.inj j2
          rw [hdo j u d' j1 hd, pd_tup (ok.key d' (List.mem_of_getElem? hd)).2.1, j2]
      show PyProof.Rows.lexLt PyProof.Rows.itemOrd (PySem.W.keyToks (pd (dOf y))) (PySem.W.keyToks (pd (dOf x))) = false
      rw [← hk x hx, ← hk y hy]
      exact hxy
    have hlen2 : out.length = its.length := hperm.length_eq
    refine ⟨.ref d0, _, I.laid (t' := s.toks) (o := .lst (out.map toV)) hkeep hge ⟨by rw [List.length_map, hlen2, ← rel.length]; exact z, out, n0, hvals, hnew⟩, rfl, q d0 (out.map toV) (out.map dOf) (I.hok.fresh hge) hreps hsorted⟩
end
end Ag
set_option Elab.async false
set_option linter.all false
set_option autoImplicit false
set_option maxRecDepth 100000
set_option maxHeartbeats 1000000
namespace Ag
open PySem PySem.Spec L2 TL
def partKV : D → Option (D × Int × Int)
  | .tup [k, .ins .ratio [.int t, .int b]] => some (k, t, b)
  | _ => none
def partsKV : List D → Option (List (D × Int × Int))
  | [] => some []
  | d :: r => match partKV d, partsKV r with
    | some x, some xs => some (x :: xs)
    | _, _ => none
/-- what stands at a key -/
def getA : List (D × Int) → D → Option Int
  | [], _ => none
  | (k, v) :: r, x => if beqD k x = true then some v else getA r x
/-- a number put at a key -/
def setA : List (D × Int) → D → Int → List (D × Int)
  | [], x, n => [(x, n)]
  | (k, v) :: r, x, n => if beqD k x = true then (k, n) :: r else (k, v) :: setA r x n
def addA (a : List (D × Int)) (x : D) (n : Int) : List (D × Int) := setA a x ((getA a x).getD 0 + n)
def accOf (bt : Int) (kvs : List (D × Int × Int)) (a : List (D × Int)) : List (D × Int) := kvs.foldl (fun a z => addA a z.1 (z.2.1 * (bt / z.2.2))) a
/-- what is told of sums over a bottom -/
noncomputable def toldA (bt : Int) (a : List (D × Int)) : List D := (sortD (a.map (·.1))).filterMap fun k => if (getA a k).getD 0 = 0 then none else some (.tup [k, ratD ((getA a k).getD 0) bt])
def btOf (kvs : List (D × Int × Int)) : Nat := lcmF 1 (kvs.map (·.2))
structure GoodKV (kvs : List (D × Int × Int)) : Prop where
  len : kvs.length ≤ 400
  num : ∀ z ∈ kvs, 0 < z.2.2 ∧ z.2.2.natAbs.log2 < 9000 ∧ z.2.1.natAbs.log2 + (btOf kvs / z.2.2.natAbs).log2 < 1000000
  bt : (btOf kvs).log2 < 9000
  key : ∀ z ∈ kvs, isKey z.1 = true ∧ z.1.deep ≤ 8
  sort : SortOk ((accOf (btOf kvs) kvs []).map (·.1))
open Classical in
noncomputable def g_parts_joined : List D → Option D
  | [.lst parts] => match partsKV parts with
    | some kvs => if GoodKV kvs then some (.lst (toldA (btOf kvs) (accOf (btOf kvs) kvs []))) else none
    | none => none
  | _ => none
noncomputable def fl15 : FtL := ("parts_joined", g_parts_joined) :: fl14
noncomputable section
def N_Form_init : List Str := ["self", "columns", "parts", "one"]
def m_Form_init (v_columns v_parts : D) : Option (List D) :=
  bindO (((argC (some v_columns) arg0)).bind g_want_columns) fun _ =>
  (iteO (orO (notO (truM (((argC (some v_parts) arg0)).bind g_is_list))) (orO (cmpM 1 .Gt (((argC (some v_parts) arg0)).bind gLen) (intM 400)) (notO (truM (((argC (lcM (fun v_one => (((argC (some v_columns) (argC (some v_one) arg0))).bind g_is_term_part)) (inM (some v_parts))) arg0)).bind gAll)))))
    (none)
    (bindO (some v_columns) fun f_own_columns =>
    (bindO (((argC (some v_parts) arg0)).bind g_parts_joined) fun f_own_parts =>
    (some [f_own_columns, f_own_parts]))))
theorem mq_Form_init (x : Addr) (v_columns v_parts : D) : semI ⟨1, N_Form_init, ftOf fl15, gcB⟩ 40 40 s_Form_init 3 .form x [v_columns, v_parts] = bindO (m_Form_init v_columns v_parts) (lenOk .form) := by kernel_rfl
def N_Tally_init : List Str := ["self", "columns", "parts", "one"]
def m_Tally_init (v_columns v_parts : D) : Option (List D) :=
  bindO (((argC (some v_columns) arg0)).bind g_want_columns) fun _ =>
  (iteO (orO (notO (truM (((argC (some v_parts) arg0)).bind g_is_list))) (orO (cmpM 1 .Gt (((argC (some v_parts) arg0)).bind gLen) (intM 400)) (notO (truM (((argC (lcM (fun v_one => (((argC (some v_columns) (argC (some v_one) arg0))).bind g_is_word_part)) (inM (some v_parts))) arg0)).bind gAll)))))
    (none)
    (bindO (some v_columns) fun f_own_columns =>
    (bindO (((argC (some v_parts) arg0)).bind g_parts_joined) fun f_own_parts =>
    (bindO (some D.emp) fun f_own_kept =>
    (some [f_own_columns, f_own_parts, f_own_kept])))))
theorem mq_Tally_init (x : Addr) (v_columns v_parts : D) : semI ⟨1, N_Tally_init, ftOf fl15, gcB⟩ 40 40 s_Tally_init 3 .tally x [v_columns, v_parts] = bindO (m_Tally_init v_columns v_parts) (lenOk .tally) := by kernel_rfl
end
def formRight (c : Int) (parts : List D) : Bool := colsOk c && (decide (parts.length ≤ 400) && parts.all (termPartRight c))
noncomputable def g_Form : List D → Option D
  | [.int c, .lst parts] => if formRight c parts = true then (g_parts_joined [.lst parts]).map fun p => .ins .form [.int c, p] else none
  | _ => none
def tallyRight (c : Int) (parts : List D) : Bool := colsOk c && (decide (parts.length ≤ 400) && parts.all (partRight c))
noncomputable def g_Tally : List D → Option D
  | [.int c, .lst parts] => if tallyRight c parts = true then (g_parts_joined [.lst parts]).map fun p => .ins .tally [.int c, p, .emp] else none
  | _ => none
theorem form_make {ds : List D} {d : D} (h : g_Form ds = some d) : ∃ out, d = .ins .form out ∧ ∀ x, semI ⟨1, N_Form_init, ftOf fl15, gcB⟩ 40 40 s_Form_init 3 .form x ds = some out := by
  unfold g_Form at h
  split at h
  · rename_i c parts
    split at h
    · rename_i hh
      cases q : g_parts_joined [.lst parts] with
      | none => rw [q] at h; cases h
      | some p =>
        rw [q] at h
        cases h
        refine ⟨_, rfl, fun x => ?_⟩
        unfold formRight at hh
        simp only [Bool.and_eq_true, decide_eq_true_eq] at hh
        obtain ⟨h1, h2, h3⟩ := hh
        rw [mq_Form_init]
        unfold m_Form_init
        have e1 : notO (truM ((argC (some (D.lst parts)) arg0).bind g_is_list)) = some false := rfl
        have e2 : cmpM 1 .Gt ((argC (some (D.lst parts)) arg0).bind gLen) (intM 400) = some (decide ((400 : Int) < (parts.length : Nat))) := rfl
        have e3 : (argC (lcM (fun v_one => (((argC (some (.int c)) (argC (some v_one) arg0))).bind g_is_term_part)) (inM (some (.lst parts)))) arg0).bind gAll = some (.bl (parts.all fun _ => true)) := all_lcD fun d hd => if_pos (List.all_eq_true.mp h3 d hd)
        have e4 : (parts.all fun _ => true) = true := List.all_eq_true.mpr fun _ _ => rfl
        have e5 : (argC (some (D.lst parts)) arg0).bind g_parts_joined = some p := q
        rw [g_want h1, e1, e2, e3, e4, e5, decide_eq_false (by omega)]
        rfl
    · cases h
  · cases h
theorem tally_make {ds : List D} {d : D} (h : g_Tally ds = some d) : ∃ out, d = .ins .tally out ∧ ∀ x, semI ⟨1, N_Tally_init, ftOf fl15, gcB⟩ 40 40 s_Tally_init 3 .tally x ds = some out := by
  unfold g_Tally at h
  split at h
  · rename_i c parts
    split at h
    · rename_i hh
      cases q : g_parts_joined [.lst parts] with
      | none => rw [q] at h; cases h
      | some p =>
        rw [q] at h
        cases h
        refine ⟨_, rfl, fun x => ?_⟩
        unfold tallyRight at hh
        simp only [Bool.and_eq_true, decide_eq_true_eq] at hh
        obtain ⟨h1, h2, h3⟩ := hh
        rw [mq_Tally_init]
        unfold m_Tally_init
        have e1 : notO (truM ((argC (some (D.lst parts)) arg0).bind g_is_list)) = some false := rfl
        have e2 : cmpM 1 .Gt ((argC (some (D.lst parts)) arg0).bind gLen) (intM 400) = some (decide ((400 : Int) < (parts.length : Nat))) := rfl
        have e3 : (argC (lcM (fun v_one => (((argC (some (.int c)) (argC (some v_one) arg0))).bind g_is_word_part)) (inM (some (.lst parts)))) arg0).bind gAll = some (.bl (parts.all fun _ => true)) := all_lcD fun d hd => if_pos (List.all_eq_true.mp h3 d hd)
        have e4 : (parts.all fun _ => true) = true := List.all_eq_true.mpr fun _ _ => rfl
        have e5 : (argC (some (D.lst parts)) arg0).bind g_parts_joined = some p := q
        rw [g_want h1, e1, e2, e3, e4, e5, decide_eq_false (by omega)]
        rfl
    · cases h
  · cases h
noncomputable def fl16 : FtL := ("Table", g_Table) :: ("Program", g_Program) :: ("Runs", g_Runs) :: ("Form", g_Form) :: ("Tally", g_Tally) :: fl15
end Ag
set_option Elab.async false
set_option linter.all false
set_option autoImplicit false
set_option maxRecDepth 100000
set_option maxHeartbeats 1000000
namespace Ag
open PySem PySem.Spec L2 TL
def txs : List D → Option (List (List Nat))
  | [] => some []
  | .str s :: r => (txs r).map (tl s :: ·)
  | _ :: _ => none
theorem txs_L : ∀ ps : List (List Nat), txs (strL ps) = some ps
  | [] => rfl
  | p :: r => by
    show (txs (strL r)).map (tl (mkS p) :: ·) = _
    rw [txs_L r]
    rfl
theorem txs_inv : ∀ {ds : List D} {ps : List (List Nat)}, txs ds = some ps → ds = strL ps
  | [], ps, h => by cases h; rfl
  | .str s :: r, ps, h => by
    have h : (txs r).map (tl s :: ·) = some ps := h
    cases q : txs r with
    | none => rw [q] at h; cases h
    | some t =>
      rw [q] at h
      cases h
      show _ = D.str (mkS (tl s)) :: strL t
      rw [mkS_tl, txs_inv q]
  | .int _ :: _, _, h => by cases h
  | .bl _ :: _, _, h => by cases h
  | .non :: _, _, h => by cases h
  | .tup _ :: _, _, h => by cases h
  | .lst _ :: _, _, h => by cases h
  | .ins _ _ :: _, _, h => by cases h
  | .emp :: _, _, h => by cases h
  | .obj _ :: _, _, h => by cases h
def lineOk (ps : List (List Nat)) : Bool := !ps.isEmpty && ps.all fun p => decide (p.length < sL)
theorem lineOk_ne {ps : List (List Nat)} (h : lineOk ps = true) : ps ≠ [] := by
  rintro rfl
  cases h
theorem lineOk_all {ps : List (List Nat)} (h : lineOk ps = true) : ∀ p ∈ ps, p.length < sL := by
  unfold lineOk at h
  rw [Bool.and_eq_true] at h
  exact fun p hp => of_decide_eq_true (List.all_eq_true.mp h.2 p hp)
def lineG2 (T : Int → List (List Nat) → Option D) : List D → Option D
  | [.int c, .lst ds] => match txs ds with
    | some ps => if lineOk ps = true then some (optD (T c ps)) else none
    | none => none
  | _ => none
def lineG3 (T : Int → Int → List (List Nat) → Option D) : List D → Option D
  | [.int c, .int a, .lst ds] => match txs ds with
    | some ps => if lineOk ps = true then some (optD (T c a ps)) else none
    | none => none
  | _ => none
theorem lineG2_inv {T : Int → List (List Nat) → Option D} {ds : List D} {d : D} (h : lineG2 T ds = some d) : ∃ c ps, ds = [.int c, .lst (strL ps)] ∧ lineOk ps = true ∧ d = optD (T c ps) := by
  unfold lineG2 at h
  split at h
  · split at h
    · rename_i ps q
      split at h
      · rename_i ho
        cases h
        exact ⟨_, ps, by rw [txs_inv q], ho, rfl⟩
      · cases h
    · cases h
  · cases h
theorem lineG3_inv {T : Int → Int → List (List Nat) → Option D} {ds : List D} {d : D} (h : lineG3 T ds = some d) : ∃ c a ps, ds = [.int c, .int a, .lst (strL ps)] ∧ lineOk ps = true ∧ d = optD (T c a ps) := by
  unfold lineG3 at h
  split at h
  · split at h
    · rename_i ps q
      split at h
      · rename_i ho
        cases h
        exact ⟨_, _, ps, by rw [txs_inv q], ho, rfl⟩
      · cases h
    · cases h
  · cases h
def rowTD (c : Int) (ps : List (List Nat)) : Option D := (rowT c ps).map rowD
theorem optD_row (o : Option (List (Int × Nat))) : optD (o.map rowD) = optRow o := by cases o <;> rfl
def g__law_row_of : List D → Option D := lineG2 rowTD
def g__law_step_of : List D → Option D := lineG3 stepT
def g__law_part_of : List D → Option D := lineG2 partT
def g__law_term_of : List D → Option D := lineG2 termT
def g__law_lot_of : List D → Option D := lineG2 lotT
theorem law_row_g {ds : List D} {d : D} (h : g__law_row_of ds = some d) : semD ⟨1, N__law_row_of, ftOf fl8, gcB⟩ 40 40 s__law_row_of 2 ds = some d := by
  obtain ⟨c, ps, rfl, ho, rfl⟩ := lineG2_inv h
  rw [semD_K, mq__law_row_of, law_row_plain c ps (lineOk_ne ho)]
  exact congrArg some (optD_row _).symm
theorem law_step_g {ds : List D} {d : D} (h : g__law_step_of ds = some d) : semD ⟨1, N__law_step_of, ftOf fl8, gcB⟩ 40 40 s__law_step_of 3 ds = some d := by
  obtain ⟨c, a, ps, rfl, ho, rfl⟩ := lineG3_inv h
  rw [semD_K, mq__law_step_of, law_step_plain c a ps (lineOk_ne ho)]
theorem law_part_g {ds : List D} {d : D} (h : g__law_part_of ds = some d) : semD ⟨1, N__law_part_of, ftOf fl8, gcB⟩ 40 40 s__law_part_of 2 ds = some d := by
  obtain ⟨c, ps, rfl, ho, rfl⟩ := lineG2_inv h
  rw [semD_K, mq__law_part_of, law_part_plain c ps (lineOk_all ho)]
theorem law_term_g {ds : List D} {d : D} (h : g__law_term_of ds = some d) : semD ⟨1, N__law_term_of, ftOf fl8, gcB⟩ 40 40 s__law_term_of 2 ds = some d := by
  obtain ⟨c, ps, rfl, ho, rfl⟩ := lineG2_inv h
  rw [semD_K, mq__law_term_of, law_term_plain c ps (lineOk_all ho)]
theorem law_lot_g {ds : List D} {d : D} (h : g__law_lot_of ds = some d) : semD ⟨1, N__law_lot_of, ftOf fl8, gcB⟩ 40 40 s__law_lot_of 2 ds = some d := by
  obtain ⟨c, ps, rfl, ho, rfl⟩ := lineG2_inv h
  rw [semD_K, mq__law_lot_of, law_lot_plain c ps (lineOk_ne ho)]
/-! ### kinds -/
inductive Kd where
  | tab | prog | tal | frm | rns
def Kd.nm : Kd → Str
  | .tab => "table" | .prog => "program" | .tal => "tally" | .frm => "form" | .rns => "runs"
def kdOf (s : Str) : Option Kd := if s = "table" then some .tab else if s = "program" then some .prog else if s = "tally" then some .tal else if s = "form" then some .frm else if s = "runs" then some .rns else none
theorem kdOf_inv {s : Str} {k : Kd} (h : kdOf s = some k) : s = k.nm := by
  unfold kdOf at h
  split at h
  · rename_i q; cases h; exact q
  split at h
  · rename_i q; cases h; exact q
  split at h
  · rename_i q; cases h; exact q
  split at h
  · rename_i q; cases h; exact q
  split at h
  · rename_i q; cases h; exact q
  · cases h
/-- what a line tells at its place -/
def lineT (k : Kd) (c a : Int) (ps : List (List Nat)) : Option D := match k with
  | .tab => rowTD c ps
  | .prog => stepT c a ps
  | .tal => partT c ps
  | .frm => termT c ps
  | .rns => lotT c ps
noncomputable section
def fl17 : FtL := ("_law_row_of", g__law_row_of) :: ("_law_step_of", g__law_step_of) :: ("_law_part_of", g__law_part_of) :: ("_law_term_of", g__law_term_of) :: ("_law_lot_of", g__law_lot_of) :: fl16
def N__law_line_of : List Str := ["_law_kind", "_law_columns", "_law_at", "_law_parts"]
def m__law_line_of (v_kind v_columns v_at v_parts : D) : Option D :=
  iteO (cmpM 1 .Eq (some v_kind) (strM "table"))
    (bindO (((argC (some v_columns) (argC (some v_parts) arg0))).bind g__law_row_of) some)
    (iteO (cmpM 1 .Eq (some v_kind) (strM "program"))
      (bindO (((argC (some v_columns) (argC (some v_at) (argC (some v_parts) arg0)))).bind g__law_step_of) some)
      (iteO (cmpM 1 .Eq (some v_kind) (strM "tally"))
        (bindO (((argC (some v_columns) (argC (some v_parts) arg0))).bind g__law_part_of) some)
        (bindO (iteO (cmpM 1 .Eq (some v_kind) (strM "form")) (((argC (some v_columns) (argC (some v_parts) arg0))).bind g__law_term_of) (((argC (some v_columns) (argC (some v_parts) arg0))).bind g__law_lot_of)) some)))
theorem mq__law_line_of (v_kind v_columns v_at v_parts : D) : semK ⟨1, N__law_line_of, ftOf fl17, gcB⟩ 40 40 s__law_line_of 4 [v_kind, v_columns, v_at, v_parts] = m__law_line_of v_kind v_columns v_at v_parts := by kernel_rfl
def N__law_thing : List Str := ["_law_kind", "_law_columns", "_law_found"]
def m__law_thing (v_kind v_columns v_found : D) : Option D :=
  iteO (cmpM 1 .Eq (some v_kind) (strM "table"))
    (bindO (((argC (some v_columns) (argC (some v_found) arg0))).bind g_Table) some)
    (iteO (cmpM 1 .Eq (some v_kind) (strM "program"))
      (bindO (((argC (some v_columns) (argC (some v_found) arg0))).bind g_Program) some)
      (iteO (cmpM 1 .Eq (some v_kind) (strM "tally"))
        (bindO (((argC (some v_columns) (argC (some v_found) arg0))).bind g_Tally) some)
        (bindO (iteO (cmpM 1 .Eq (some v_kind) (strM "form")) (((argC (some v_columns) (argC (some v_found) arg0))).bind g_Form) (((argC (some v_columns) (argC (some v_found) arg0))).bind g_Runs)) some)))
theorem mq__law_thing (v_kind v_columns v_found : D) : semK ⟨1, N__law_thing, ftOf fl17, gcB⟩ 40 40 s__law_thing 3 [v_kind, v_columns, v_found] = m__law_thing v_kind v_columns v_found := by kernel_rfl
end
def g__law_line_of : List D → Option D
  | [.str s, .int c, .int a, .lst ds] => match kdOf s, txs ds with
    | some k, some ps => if lineOk ps = true then some (optD (lineT k c a ps)) else none
    | _, _ => none
  | _ => none
theorem lineG2_s {T : Int → List (List Nat) → Option D} {c : Int} {ps : List (List Nat)} (h : lineOk ps = true) : (argC (some (.int c)) (argC (some (.lst (strL ps))) arg0)).bind (lineG2 T) = some (optD (T c ps)) := by
  show lineG2 T [.int c, .lst (strL ps)] = _
  unfold lineG2
  dsimp only
  rw [txs_L]
  exact if_pos h
theorem lineG3_s {T : Int → Int → List (List Nat) → Option D} {c a : Int} {ps : List (List Nat)} (h : lineOk ps = true) : (argC (some (.int c)) (argC (some (.int a)) (argC (some (.lst (strL ps))) arg0))).bind (lineG3 T) = some (optD (T c a ps)) := by
  show lineG3 T [.int c, .int a, .lst (strL ps)] = _
  unfold lineG3
  dsimp only
  rw [txs_L]
  exact if_pos h
theorem law_line_g {ds : List D} {d : D} (h : g__law_line_of ds = some d) : semD ⟨1, N__law_line_of, ftOf fl17, gcB⟩ 40 40 s__law_line_of 4 ds = some d := by
  unfold g__law_line_of at h
  split at h
  · rename_i s c a ds
    split at h
    · rename_i k ps hk hp
      split at h
      · rename_i ho
        cases h
        rw [kdOf_inv hk, txs_inv hp, semD_K, mq__law_line_of]
        unfold m__law_line_of g__law_row_of g__law_step_of g__law_part_of g__law_term_of g__law_lot_of
        rw [lineG2_s ho, lineG2_s ho, lineG2_s ho, lineG2_s ho, lineG3_s ho]
        cases k <;> rfl
      · cases h
    · cases h
  · cases h
/-- what is made of all lines -/
noncomputable def thingD (k : Kd) (c : Int) (ds : List D) : Option D := match k with
  | .tab => g_Table [.int c, .lst ds]
  | .prog => g_Program [.int c, .lst ds]
  | .tal => g_Tally [.int c, .lst ds]
  | .frm => g_Form [.int c, .lst ds]
  | .rns => g_Runs [.int c, .lst ds]
noncomputable def g__law_thing : List D → Option D
  | [.str s, .int c, .lst ds] => match kdOf s with
    | some k => thingD k c ds
    | none => none
  | _ => none
theorem law_thing_g {ds : List D} {d : D} (h : g__law_thing ds = some d) : semD ⟨1, N__law_thing, ftOf fl17, gcB⟩ 40 40 s__law_thing 3 ds = some d := by
  unfold g__law_thing at h
  split at h
  · rename_i s c ds
    split at h
    · rename_i k hk
      rw [kdOf_inv hk, semD_K, mq__law_thing]
      rw [← h]
      unfold m__law_thing
      cases k <;> exact bindO_r
    · cases h
  · cases h
end Ag
set_option Elab.async false
set_option linter.all false
set_option autoImplicit false
set_option maxRecDepth 100000
set_option maxHeartbeats 1000000
namespace Ag
open PySem PySem.Spec L2 TL
theorem rat_is (t b : Int) : isRat (ratD t b) = true := rfl
theorem rowOf_some {os : List (Option (Int × Nat))} {rs : List (Int × Nat)} (h : rowOf os = some rs) : rs.length = os.length := by
  unfold rowOf at h
  split at h
  · cases h; rw [List.length_map]
  · cases h
theorem row_right {c : Int} {ps : List (List Nat)} {rs : List (Int × Nat)} (h : numsT c ps = some rs) : rowRight c (rowD rs) = true := by
  unfold numsT at h
  split at h
  · rename_i hc
    have hl := rowOf_some h
    rw [List.length_map] at hl
    show ((rs.map fun z => ratD z.1 z.2).all isRat && decide ((((rs.map fun z => ratD z.1 z.2).length : Nat) : Int) = c)) = true
    rw [Bool.and_eq_true]
    refine ⟨?_, decide_eq_true ?_⟩
    · rw [List.all_map]
      exact List.all_eq_true.mpr fun _ _ => rfl
    · rw [List.length_map, hl]
      exact hc
  · cases h
theorem rowT_right {c : Int} {ps : List (List Nat)} {d : D} (h : rowTD c ps = some d) : rowRight c d = true := by
  unfold rowTD at h
  cases q : rowT c ps with
  | none => rw [q] at h; cases h
  | some rs =>
    rw [q] at h
    cases h
    unfold rowT at q
    split at q
    · split at q
      · exact row_right q
      · cases q
    · cases q
theorem lotT_right {c : Int} {ps : List (List Nat)} {d : D} (h : lotT c ps = some d) : lotRight c d = true := by
  unfold lotT at h
  split at h
  · split at h
    · unfold lotOf at h
      split at h
      · rename_i m rs hm hr
        split at h
        · rename_i hb
          cases h
          show (rowRight c (rowD rs) && (decide ((0 : Int) ≤ (m : Nat)) && decide (((m : Nat) : Int) ≤ 10 ^ 30))) = true
          rw [row_right hr, decide_eq_true (by omega), decide_eq_true (by exact_mod_cast hb)]
          rfl
        · cases h
      · cases h
    · cases h
  · cases h
theorem letT_right {c : Int} {l ns : List Nat} (h : letT c l = some ns) : letRight c (letD ns) = true := by
  have key : ∀ {os : List (Option Nat)}, letOf c os = some ns → letRight c (letD ns) = true := by
    intro os h
    unfold letOf at h
    split at h
    · rename_i hh
      cases h
      rw [Bool.and_eq_true] at hh
      obtain ⟨h1, h2⟩ := hh
      have h1 := of_decide_eq_true h1
      show (decide (((((os.map (·.getD 0)).map fun n => D.int (n : Nat)).length : Nat) : Int) = c) && ((os.map (·.getD 0)).map fun n => D.int (n : Nat)).all powOk) = true
      rw [Bool.and_eq_true]
      refine ⟨decide_eq_true (by rw [List.length_map, List.length_map]; exact h1), ?_⟩
      rw [List.all_map, List.all_map]
      refine List.all_eq_true.mpr fun o ho => ?_
      have ho := List.all_eq_true.mp h2 o ho
      cases o with
      | none => cases ho
      | some n =>
        have ho : decide (n ≤ 8) = true := ho
        have ho := of_decide_eq_true ho
        show (decide ((0 : Int) ≤ (n : Nat)) && decide (((n : Nat) : Int) ≤ 8)) = true
        rw [decide_eq_true (by omega), decide_eq_true (by omega)]
        rfl
    · cases h
  unfold letT at h
  split at h
  · exact key h
  · cases h
theorem wordT_right {c : Int} {l : List Nat} {ws : List (List Nat)} (h : wordT c l = some ws) : wordRight c (wordD ws) = true ∧ ws.length ≤ 8 := by
  unfold wordT at h
  split at h
  · cases h; exact ⟨rfl, by simp⟩
  · split at h
    · unfold wordOf at h
      split at h
      · rename_i hh
        cases h
        rw [Bool.and_eq_true] at hh
        obtain ⟨h1, h2⟩ := hh
        have h2 := of_decide_eq_true h2
        generalize hps : (splitL 41 (l.take (l.length - 1))) = ps at h1 h2 ⊢
        refine ⟨?_, by simpa using h2⟩
        show (decide ((((ps.map fun p => letT c (p ++ [41])).map (·.getD [])).map letD).length ≤ 8) && (((ps.map fun p => letT c (p ++ [41])).map (·.getD [])).map letD).all (letRight c)) = true
        rw [Bool.and_eq_true]
        refine ⟨decide_eq_true (by simpa using h2), ?_⟩
        rw [List.all_map, List.all_map]
        refine List.all_eq_true.mpr fun o ho => ?_
        have h3 := List.all_eq_true.mp h1 o ho
        obtain ⟨p, _, rfl⟩ := List.mem_map.mp ho
        cases q : letT c (p ++ [41]) with
        | none => rw [q] at h3; cases h3
        | some ns => exact letT_right q
      · cases h
    · cases h
theorem partT_right {c : Int} {ps : List (List Nat)} {d : D} (h : partT c ps = some d) : partRight c d = true := by
  unfold partT at h
  split at h
  · split at h
    · rename_i n w hn hw
      cases h
      show (wordRight c (wordD w) && isRat (ratD n.1 n.2)) = true
      rw [(wordT_right hw).1]
      rfl
    · cases h
  · cases h
theorem termT_right {c : Int} {ps : List (List Nat)} {d : D} (h : termT c ps = some d) : termPartRight c d = true := by
  unfold termT at h
  split at h
  · split at h
    · rename_i a b x d0 y f hx
      cases hn : numT a with
      | none => rw [hn] at h; cases h
      | some n =>
        cases hl : wordT c b with
        | none => rw [hn, hl] at h; cases h
        | some l =>
          cases ho : letT c d0 with
          | none => rw [hn, hl, ho] at h; cases h
          | some o =>
            cases hr : wordT c f with
            | none => rw [hn, hl, ho, hr] at h; cases h
            | some r =>
              rw [hn, hl, ho, hr] at h
              have h : (if l.length + r.length ≤ 7 then some (D.tup [.tup [wordD l, letD o, wordD r], ratD n.1 n.2]) else none) = some d := h
              split at h
              · rename_i h7
                cases h
                show ((wordRight c (wordD l) && (letRight c (letD o) && (wordRight c (wordD r) && decide ((l.map letD).length + 1 + (r.map letD).length ≤ 8)))) && isRat (ratD n.1 n.2)) = true
                rw [(wordT_right hl).1, (wordT_right hr).1, letT_right ho, List.length_map, List.length_map, decide_eq_true (by omega)]
                rfl
              · cases h
    · cases h
  · cases h
theorem place_lt {m : Int} {o : Option Nat} (h : placeOk m o = true) : ltOk m (optN o) = true := by
  cases o with
  | none => cases h
  | some n =>
    have h : decide (((n : Nat) : Int) < m) = true := h
    have h := of_decide_eq_true h
    show (decide ((0 : Int) ≤ (n : Nat)) && decide (((n : Nat) : Int) < m)) = true
    rw [decide_eq_true (by omega), decide_eq_true h]
    rfl
theorem len_one {α : Type} {l : List α} (h : l.length = 1) : ∃ a, l = [a] := by
  match l, h with
  | [a], _ => exact ⟨a, rfl⟩
theorem len_two {α : Type} {l : List α} (h : l.length = 2) : ∃ a b, l = [a, b] := by
  match l, h with
  | [a, b], _ => exact ⟨a, b, rfl⟩
theorem stepOk_one {c a : Int} {w : Str} {x : D} : stepOk c a (.tup [.str w, x]) = (if w = "told" then isRat x else if w = "column" then ltOk c x else if w = "ahead" ∨ w = "behind" then ltOk a x else false) := rfl
theorem stepT_right {c a : Int} {ps : List (List Nat)} {d : D} (h : stepT c a ps = some d) : stepOk c a d = true := by
  unfold stepT at h
  split at h
  · cases h
  · rename_i w r
    split at h
    · unfold toldT at h
      split at h
      · rename_i x
        cases q : numT x with
        | none => rw [q] at h; cases h
        | some z => rw [q] at h; cases h; rfl
      · cases h
    · split at h
      · rename_i q1 q2
        subst q2
        unfold placesT at h
        split at h
        · rename_i hh
          cases h
          rw [Bool.and_eq_true] at hh
          obtain ⟨h1, h2⟩ := hh
          have h2 : (r.map cnt).length = 1 := of_decide_eq_true h2
          obtain ⟨o, ho⟩ := len_one h2
          rw [ho] at h1 ⊢
          rw [List.all_cons, Bool.and_eq_true] at h1
          have h3 := place_lt h1.1
          show stepOk c a (.tup [.str (mkS (tl ("column" : Str))), optN o]) = true
          rw [stepOk_one, if_neg (by decide), if_pos (by decide)]
          exact h3
        · cases h
      · split at h
        · rename_i q1 q2 q3
          unfold placesT at h
          split at h
          · rename_i hh
            cases h
            rw [Bool.and_eq_true] at hh
            obtain ⟨h1, h2⟩ := hh
            have h2 := of_decide_eq_true h2
            have one : manyT w = 1 → (w = tl ("ahead" : Str) ∨ w = tl ("behind" : Str)) → stepOk c a (.tup (.str (mkS w) :: (r.map cnt).map optN)) = true := by
              intro hm hw
              rw [hm] at h2
              obtain ⟨o, ho⟩ := len_one h2
              rw [ho] at h1 ⊢
              rw [List.all_cons, Bool.and_eq_true] at h1
              have h3 := place_lt h1.1
              show stepOk c a (.tup [.str (mkS w), optN o]) = true
              rw [stepOk_one, if_neg (fun e => q1 (mkS_eq.mp e)), if_neg (fun e => q2 (mkS_eq.mp e)), if_pos (by rw [mkS_eq, mkS_eq]; exact hw)]
              exact h3
            have two : manyT w = 2 → (w = tl ("sum" : Str) ∨ w = tl ("less" : Str) ∨ w = tl ("times" : Str)) → stepOk c a (.tup (.str (mkS w) :: (r.map cnt).map optN)) = true := by
              intro hm hw
              rw [hm] at h2
              obtain ⟨o, o', ho⟩ := len_two h2
              rw [ho] at h1 ⊢
              rw [List.all_cons, List.all_cons, Bool.and_eq_true, Bool.and_eq_true] at h1
              show (decide (mkS w = "sum" ∨ mkS w = "less" ∨ mkS w = "times") && (ltOk a (optN o) && ltOk a (optN o'))) = true
              rw [place_lt h1.1, place_lt h1.2.1, decide_eq_true (by rw [mkS_eq, mkS_eq, mkS_eq]; exact hw)]
              rfl
            rcases q3 with q | q | q | q | q
            · exact one (by subst q; decide) (.inl q)
            · exact one (by subst q; decide) (.inr q)
            · exact two (by subst q; decide) (.inl q)
            · exact two (by subst q; decide) (.inr (.inl q))
            · exact two (by subst q; decide) (.inr (.inr q))
          · cases h
        · cases h
end Ag
set_option Elab.async false
set_option linter.all false
set_option autoImplicit false
set_option maxRecDepth 100000
set_option maxHeartbeats 1000000
namespace Ag
open PySem PySem.Spec L2 TL
/-- a tuple of ints -/
def isLet : D → Bool
  | .tup ds => ds.all isInt
  | _ => false
def isWord : D → Bool
  | .tup ws => ws.all isLet
  | _ => false
def isTermK : D → Bool
  | .tup [a, l, b] => isWord a && (isLet l && isWord b)
  | _ => false
theorem let_is {c : Int} {d : D} (h : letRight c d = true) : isLet d = true := by
  unfold letRight at h
  split at h
  · rw [Bool.and_eq_true] at h
    exact List.all_eq_true.mpr fun d hd => powOk_int (List.all_eq_true.mp h.2 d hd)
  · cases h
theorem word_is {c : Int} {d : D} (h : wordRight c d = true) : isWord d = true := by
  unfold wordRight at h
  split at h
  · rw [Bool.and_eq_true] at h
    exact List.all_eq_true.mpr fun d hd => let_is (List.all_eq_true.mp h.2 d hd)
  · cases h
theorem term_is {c : Int} {d : D} (h : termRight c d = true) : isTermK d = true := by
  unfold termRight at h
  split at h
  · simp only [Bool.and_eq_true] at h
    show (_ && (_ && _)) = true
    rw [word_is h.1, let_is h.2.1, word_is h.2.2.1]
    rfl
  · cases h
theorem int_inv {d : D} (h : isInt d = true) : ∃ i, d = .int i := by
  unfold isInt at h
  split at h
  · exact ⟨_, rfl⟩
  · cases h
theorem let_inv {d : D} (h : isLet d = true) : ∃ ds, d = .tup ds ∧ ∀ x ∈ ds, isInt x = true := by
  unfold isLet at h
  split at h
  · exact ⟨_, rfl, List.all_eq_true.mp h⟩
  · cases h
theorem word_inv {d : D} (h : isWord d = true) : ∃ ds, d = .tup ds ∧ ∀ x ∈ ds, isLet x = true := by
  unfold isWord at h
  split at h
  · exact ⟨_, rfl, List.all_eq_true.mp h⟩
  · cases h
theorem termK_inv {d : D} (h : isTermK d = true) : ∃ a l b, d = .tup [a, l, b] ∧ isWord a = true ∧ isLet l = true ∧ isWord b = true := by
  unfold isTermK at h
  split at h
  · simp only [Bool.and_eq_true] at h
    exact ⟨_, _, _, rfl, h.1, h.2.1, h.2.2⟩
  · cases h
theorem areKeys_of : ∀ {ds : List D}, (∀ x ∈ ds, isKey x = true) → areKeys ds = true
  | [], _ => rfl
  | d :: r, h => by
    show (isKey d && areKeys r) = true
    rw [h d List.mem_cons_self, areKeys_of fun x hx => h x (List.mem_cons_of_mem _ hx)]
    rfl
theorem deeps_of {n : Nat} : ∀ {ds : List D}, (∀ x ∈ ds, x.deep ≤ n) → D.deeps ds ≤ n
  | [], _ => Nat.zero_le _
  | d :: r, h => by
    have h1 := h d List.mem_cons_self
    have h2 := deeps_of fun x hx => h x (List.mem_cons_of_mem _ hx)
    show max d.deep (D.deeps r) ≤ n
    omega
theorem alikeAll_of : ∀ {xs ys : List D}, (∀ x ∈ xs, ∀ y ∈ ys, PySem.W.alike (pd x) (pd y) = true) → PySem.W.alikeAll (pds xs) (pds ys) = true
  | [], _, _ => by simp [pds, PySem.W.alikeAll]
  | _ :: _, [], _ => by simp [pds, PySem.W.alikeAll]
  | x :: xs, y :: ys, h => by
    have h1 := h x List.mem_cons_self y List.mem_cons_self
    have h2 := alikeAll_of fun a ha b hb => h a (List.mem_cons_of_mem _ ha) b (List.mem_cons_of_mem _ hb)
    simp [pds, PySem.W.alikeAll, h1, h2]
theorem alike_tup {xs ys : List D} : PySem.W.alike (pd (.tup xs)) (pd (.tup ys)) = PySem.W.alikeAll (pds xs) (pds ys) := by simp [pd, PySem.W.alike]
theorem int_alike {x y : D} (hx : isInt x = true) (hy : isInt y = true) : PySem.W.alike (pd x) (pd y) = true := by
  obtain ⟨i, rfl⟩ := int_inv hx
  obtain ⟨j, rfl⟩ := int_inv hy
  simp [pd, PySem.W.alike]
theorem let_alike {x y : D} (hx : isLet x = true) (hy : isLet y = true) : PySem.W.alike (pd x) (pd y) = true := by
  obtain ⟨i, rfl, kx⟩ := let_inv hx
  obtain ⟨j, rfl, ky⟩ := let_inv hy
  rw [alike_tup]
  exact alikeAll_of fun a ha b hb => int_alike (kx a ha) (ky b hb)
theorem word_alike {x y : D} (hx : isWord x = true) (hy : isWord y = true) : PySem.W.alike (pd x) (pd y) = true := by
  obtain ⟨i, rfl, kx⟩ := word_inv hx
  obtain ⟨j, rfl, ky⟩ := word_inv hy
  rw [alike_tup]
  exact alikeAll_of fun a ha b hb => let_alike (kx a ha) (ky b hb)
theorem termK_alike {x y : D} (hx : isTermK x = true) (hy : isTermK y = true) : PySem.W.alike (pd x) (pd y) = true := by
  obtain ⟨a, l, b, rfl, h1, h2, h3⟩ := termK_inv hx
  obtain ⟨a', l', b', rfl, k1, k2, k3⟩ := termK_inv hy
  rw [alike_tup]
  simp [pds, PySem.W.alikeAll, word_alike h1 k1, let_alike h2 k2, word_alike h3 k3]
theorem int_key {x : D} (h : isInt x = true) : isKey x = true ∧ x.deep ≤ 0 := by
  obtain ⟨i, rfl⟩ := int_inv h
  exact ⟨rfl, Nat.le_refl _⟩
theorem let_key {x : D} (h : isLet x = true) : isKey x = true ∧ isTupD x = true ∧ x.deep ≤ 1 := by
  obtain ⟨i, rfl, kx⟩ := let_inv h
  exact ⟨areKeys_of fun a ha => (int_key (kx a ha)).1, rfl, Nat.succ_le_succ (deeps_of fun a ha => (int_key (kx a ha)).2)⟩
theorem word_key {x : D} (h : isWord x = true) : isKey x = true ∧ isTupD x = true ∧ x.deep ≤ 2 := by
  obtain ⟨i, rfl, kx⟩ := word_inv h
  exact ⟨areKeys_of fun a ha => (let_key (kx a ha)).1, rfl, Nat.succ_le_succ (deeps_of fun a ha => (let_key (kx a ha)).2.2)⟩
theorem termK_key {x : D} (h : isTermK x = true) : isKey x = true ∧ isTupD x = true ∧ x.deep ≤ 3 := by
  obtain ⟨a, l, b, rfl, h1, h2, h3⟩ := termK_inv h
  have k1 := word_key h1
  have k2 := let_key h2
  have k3 := word_key h3
  refine ⟨areKeys_of fun z hz => ?_, rfl, Nat.succ_le_succ (deeps_of fun z hz => ?_)⟩
  · simp only [List.mem_cons, List.not_mem_nil, or_false] at hz
    rcases hz with rfl | rfl | rfl
    · exact k1.1
    · exact k2.1
    · exact k3.1
  · simp only [List.mem_cons, List.not_mem_nil, or_false] at hz
    rcases hz with rfl | rfl | rfl
    · exact k1.2.2
    · exact Nat.le_trans k2.2.2 (by decide)
    · exact k3.2.2
theorem sort_words {ds : List D} (h : ∀ d ∈ ds, isWord d = true) (nd : ds.Nodup) : SortOk ds :=
  ⟨fun d hd => ⟨(word_key (h d hd)).1, (word_key (h d hd)).2.1, Nat.le_trans (word_key (h d hd)).2.2 (by decide)⟩, fun d hd x r e => by
    obtain ⟨i, rfl, hi⟩ := word_inv (h d hd)
    have e : i = x :: r := e
    exact (let_key (hi x (by rw [e]; exact List.mem_cons_self))).2.1, fun d hd e he => word_alike (h d hd) (h e he), nd⟩
theorem sort_terms {ds : List D} (h : ∀ d ∈ ds, isTermK d = true) (nd : ds.Nodup) : SortOk ds :=
  ⟨fun d hd => ⟨(termK_key (h d hd)).1, (termK_key (h d hd)).2.1, Nat.le_trans (termK_key (h d hd)).2.2 (by decide)⟩, fun d hd x r e => by
    obtain ⟨a, l, b, rfl, h1, h2, h3⟩ := termK_inv (h d hd)
    have e : [a, l, b] = x :: r := e
    cases e
    exact (word_key h1).2.1, fun d hd e he => termK_alike (h d hd) (h e he), nd⟩
/-! ### the keys of what is put together -/
theorem getA_none {a : List (D × Int)} {x : D} : getA a x = none → x ∉ a.map (·.1) := by
  induction a with
  | nil => intro _ h; cases h
  | cons z r ih =>
    obtain ⟨k, v⟩ := z
    intro h
    have h : (if beqD k x = true then some v else getA r x) = none := h
    split at h
    · cases h
    · rename_i q
      intro hm
      rcases List.mem_cons.mp hm with e | hm
      · exact q (by rw [e]; exact beqDP k)
      · exact ih h hm
theorem setA_keys (x : D) (n : Int) : ∀ a : List (D × Int), (setA a x n).map (·.1) = if (getA a x).isSome = true then a.map (·.1) else a.map (·.1) ++ [x]
  | [] => rfl
  | (k, v) :: r => by
    have e1 : setA ((k, v) :: r) x n = if beqD k x = true then (k, n) :: r else (k, v) :: setA r x n := rfl
    have e2 : getA ((k, v) :: r) x = if beqD k x = true then some v else getA r x := rfl
    rw [e1, e2]
    by_cases q : beqD k x = true
    · rw [if_pos q, if_pos q]
      rfl
    · rw [if_neg q, if_neg q, List.map_cons, setA_keys x n r]
      split <;> rfl
theorem setA_nd {a : List (D × Int)} {x : D} {n : Int} (h : (a.map (·.1)).Nodup) : ((setA a x n).map (·.1)).Nodup := by
  rw [setA_keys]
  split
  · exact h
  · rename_i q
    have hn : getA a x = none := by
      cases e : getA a x with
      | none => rfl
      | some v => rw [e] at q; exact absurd rfl q
    rw [List.nodup_append]
    refine ⟨h, by simp, fun y hy z hz e => ?_⟩
    rw [List.mem_singleton] at hz
    subst hz
    subst e
    exact getA_none hn hy
theorem setA_mem {a : List (D × Int)} {x y : D} {n : Int} (h : y ∈ (setA a x n).map (·.1)) : y = x ∨ y ∈ a.map (·.1) := by
  rw [setA_keys] at h
  split at h
  · exact .inr h
  · rcases List.mem_append.mp h with h | h
    · exact .inr h
    · exact .inl (List.mem_singleton.mp h)
theorem accOf_nd (bt : Int) : ∀ (kvs : List (D × Int × Int)) (a : List (D × Int)), (a.map (·.1)).Nodup → ((accOf bt kvs a).map (·.1)).Nodup
  | [], a, h => h
  | z :: r, a, h => accOf_nd bt r (addA a z.1 (z.2.1 * (bt / z.2.2))) (setA_nd h)
theorem accOf_mem (bt : Int) : ∀ (kvs : List (D × Int × Int)) (a : List (D × Int)) (y : D), y ∈ (accOf bt kvs a).map (·.1) → y ∈ kvs.map (·.1) ∨ y ∈ a.map (·.1)
  | [], a, y, h => .inr h
  | z :: r, a, y, h => by
    rcases accOf_mem bt r (addA a z.1 (z.2.1 * (bt / z.2.2))) y h with h | h
    · exact .inl (List.mem_cons_of_mem _ h)
    · rcases setA_mem h with rfl | h
      · exact .inl List.mem_cons_self
      · exact .inr h
end Ag
set_option Elab.async false
set_option linter.all false
set_option autoImplicit false
set_option maxRecDepth 100000
set_option maxHeartbeats 1000000
namespace Ag
open PySem PySem.Spec L2 TL
def sumL : List Nat → Nat
  | [] => 0
  | a :: r => a + sumL r
/-- bottoms below powers of ten: so is their least common multiple -/
theorem lcmF_lt : ∀ (rs : List ((Int × Int) × Nat)) (acc e : Nat), acc ≤ 10 ^ e → (∀ z ∈ rs, z.1.2.natAbs ≤ 10 ^ z.2) → lcmF acc (rs.map (·.1)) ≤ 10 ^ (e + sumL (rs.map (·.2)))
  | [], acc, e, h, _ => h
  | z :: rs, acc, e, h, hz => by
    have h1 : Nat.lcm acc z.1.2.natAbs ≤ 10 ^ (e + z.2) := by
      rw [Nat.pow_add]
      refine Nat.le_trans ?_ (Nat.mul_le_mul h (hz z List.mem_cons_self))
      show acc * z.1.2.natAbs / Nat.gcd acc z.1.2.natAbs ≤ _
      exact Nat.div_le_self _ _
    have := lcmF_lt rs _ _ h1 fun y hy => hz y (List.mem_cons_of_mem _ hy)
    rw [Nat.add_assoc] at this
    exact this
theorem log2_le {n k : Nat} (h : n ≤ 10 ^ k) (hk : k ≤ 2100) : n.log2 < 9000 := log2_of (k := k + 1) (Nat.lt_of_le_of_lt h (Nat.pow_lt_pow_right (by decide) (Nat.lt_succ_self k))) (by omega)
theorem intT_le {l : List Nat} {t : Int} (h : intT l = some t) : t.natAbs ≤ 10 ^ l.length := by
  unfold intT at h
  split at h
  · cases h
  · rename_i c r
    split at h
    · split at h
      · rename_i n hn
        split at h
        · cases h
        · cases h
          have := (cnt_lt hn).1
          rw [Int.natAbs_neg, Int.natAbs_natCast]
          exact Nat.le_trans (Nat.le_of_lt this) (Nat.pow_le_pow_right (by decide) (by simp))
      · cases h
    · cases q : cnt (c :: r) with
      | none => rw [q] at h; cases h
      | some n =>
        rw [q] at h
        cases h
        rw [Int.natAbs_natCast]
        exact Nat.le_of_lt (cnt_lt q).1
theorem numT_le {l : List Nat} {z : Int × Nat} (h : numT l = some z) : z.1.natAbs ≤ 10 ^ l.length ∧ 0 < z.2 ∧ z.2 ≤ 10 ^ l.length := by
  have hl : ∀ p ∈ splitL 47 l, p.length ≤ l.length := fun p hp => (splitL_mem hp).1
  have up : ∀ {k : Nat}, k ≤ l.length → 10 ^ k ≤ 10 ^ l.length := fun hk => Nat.pow_le_pow_right (by decide) hk
  unfold numT at h
  split at h
  · rename_i a q
    rw [q] at hl
    cases e : intT a with
    | none => rw [e] at h; cases h
    | some t =>
      rw [e] at h
      cases h
      exact ⟨Nat.le_trans (intT_le e) (up (hl a List.mem_cons_self)), Nat.one_pos, Nat.one_le_pow _ _ (by decide)⟩
  · rename_i a b q
    rw [q] at hl
    split at h
    · rename_i t n ht hn
      split at h
      · cases h
      · rename_i h0
        cases h
        exact ⟨Nat.le_trans (intT_le ht) (up (hl a List.mem_cons_self)), Nat.pos_of_ne_zero h0, Nat.le_trans (Nat.le_of_lt (cnt_lt hn).1) (up (hl b (List.mem_cons_of_mem _ List.mem_cons_self)))⟩
    · cases h
  · cases h
/-- the fields of a number's Ratio -/
def ratF (z : Int × Nat) : Int × Int := (z.1 / (Nat.gcd z.1.natAbs (z.2 : Int).natAbs : Nat), (z.2 : Int) / (Nat.gcd z.1.natAbs (z.2 : Int).natAbs : Nat))
theorem ratD_F (z : Int × Nat) : ratD z.1 z.2 = .ins .ratio [.int (ratF z).1, .int (ratF z).2] := rfl
theorem ratF_le {l : List Nat} {z : Int × Nat} (h : numT l = some z) : (ratF z).1.natAbs ≤ 10 ^ l.length ∧ 0 < (ratF z).2 ∧ (ratF z).2.natAbs ≤ 10 ^ l.length := by
  obtain ⟨h1, h2, h3⟩ := numT_le h
  unfold ratF
  rw [Int.natAbs_natCast]
  dsimp only
  generalize hg : Nat.gcd z.1.natAbs z.2 = g
  have g0 : 0 < g := by rw [← hg]; exact Nat.gcd_pos_of_pos_right _ h2
  have gle : g ≤ z.2 := by rw [← hg]; exact Nat.gcd_le_right _ h2
  have gdv : g ∣ z.1.natAbs := by rw [← hg]; exact Nat.gcd_dvd_left _ _
  refine ⟨?_, ?_, ?_⟩
  · have : ((g : Nat) : Int) ∣ z.1 := Int.ofNat_dvd_left.2 gdv
    rw [Int.natAbs_ediv_of_dvd this, Int.natAbs_natCast]
    exact Nat.le_trans (Nat.div_le_self _ _) h1
  · rw [← Int.natCast_ediv]
    have := Nat.div_pos gle g0
    omega
  · rw [← Int.natCast_ediv, Int.natAbs_natCast]
    exact Nat.le_trans (Nat.div_le_self _ _) h3
theorem sumL_mem {a : Nat} : ∀ {l : List Nat}, a ∈ l → a ≤ sumL l
  | b :: r, h => by
    rcases List.mem_cons.mp h with rfl | h
    · exact Nat.le_add_right _ _
    · exact Nat.le_trans (sumL_mem h) (Nat.le_add_left _ _)
/-- parts of numbers that are short enough can be joined -/
theorem goodKV {ps : List ((D × Int × Int) × Nat)} (hl : ps.length ≤ 400) (hs : sumL (ps.map (·.2)) ≤ 2000)
    (hn : ∀ z ∈ ps, z.1.2.1.natAbs ≤ 10 ^ z.2 ∧ 0 < z.1.2.2 ∧ z.1.2.2.natAbs ≤ 10 ^ z.2)
    (hk : (∀ z ∈ ps, isWord z.1.1 = true) ∨ ∀ z ∈ ps, isTermK z.1.1 = true) : GoodKV (ps.map (·.1)) := by
  have hb : btOf (ps.map (·.1)) ≤ 10 ^ 2000 := by
    unfold btOf
    have := lcmF_lt (ps.map fun z => (z.1.2, z.2)) 1 0 (Nat.le_refl _) fun y hy => by
      obtain ⟨z, hz, rfl⟩ := List.mem_map.mp hy
      exact (hn z hz).2.2
    rw [List.map_map, List.map_map, Nat.zero_add] at this
    rw [List.map_map]
    exact Nat.le_trans this (Nat.pow_le_pow_right (by decide) hs)
  have hz2 : ∀ z ∈ ps, z.2 ≤ 2000 := fun z hz => Nat.le_trans (sumL_mem (List.mem_map_of_mem hz)) hs
  have nd : ((accOf (btOf (ps.map (·.1))) (ps.map (·.1)) []).map (·.1)).Nodup := accOf_nd _ _ [] List.nodup_nil
  have mem : ∀ y ∈ (accOf (btOf (ps.map (·.1))) (ps.map (·.1)) []).map (·.1), ∃ z ∈ ps, z.1.1 = y := fun y hy => by
    rcases accOf_mem _ _ [] y hy with h | h
    · rw [List.map_map] at h
      obtain ⟨z, hz, rfl⟩ := List.mem_map.mp h
      exact ⟨z, hz, rfl⟩
    · cases h
  refine ⟨by rw [List.length_map]; exact hl, fun y hy => ?_, log2_le hb (by decide), fun y hy => ?_, ?_⟩
  · obtain ⟨z, hz, rfl⟩ := List.mem_map.mp hy
    obtain ⟨h1, h2, h3⟩ := hn z hz
    have k := hz2 z hz
    have l1 := log2_le h1 (by omega)
    have l2 := log2_le h3 (by omega)
    have l3 : (btOf (ps.map (·.1)) / z.1.2.2.natAbs).log2 < 9000 := log2_le (Nat.le_trans (Nat.div_le_self _ _) hb) (by decide)
    exact ⟨h2, l2, by omega⟩
  · obtain ⟨z, hz, rfl⟩ := List.mem_map.mp hy
    rcases hk with hk | hk
    · exact ⟨(word_key (hk z hz)).1, Nat.le_trans (word_key (hk z hz)).2.2 (by decide)⟩
    · exact ⟨(termK_key (hk z hz)).1, Nat.le_trans (termK_key (hk z hz)).2.2 (by decide)⟩
  · rcases hk with hk | hk
    · exact sort_words (fun y hy => by obtain ⟨z, hz, rfl⟩ := mem y hy; exact hk z hz) nd
    · exact sort_terms (fun y hy => by obtain ⟨z, hz, rfl⟩ := mem y hy; exact hk z hz) nd
end Ag
set_option Elab.async false
set_option linter.all false
set_option autoImplicit false
set_option maxRecDepth 100000
set_option maxHeartbeats 1000000
namespace Ag
open PySem PySem.Spec L2 TL
/-- at level 1 and not too deep -/
def Lv (n : Nat) (d : D) : Prop := lvlD 1 d = true ∧ d.deep ≤ n
theorem lvlDs_of : ∀ {ds : List D}, (∀ x ∈ ds, lvlD 1 x = true) → lvlDs 1 ds = true
  | [], _ => rfl
  | d :: r, h => by
    show (lvlD 1 d && lvlDs 1 r) = true
    rw [h d List.mem_cons_self, lvlDs_of fun x hx => h x (List.mem_cons_of_mem _ hx)]
    rfl
theorem Lv.tup {n : Nat} {ds : List D} (h : ∀ x ∈ ds, Lv n x) : Lv (n + 1) (.tup ds) := ⟨lvlDs_of fun x hx => (h x hx).1, Nat.succ_le_succ (deeps_of fun x hx => (h x hx).2)⟩
theorem Lv.lst {n : Nat} {ds : List D} (h : ∀ x ∈ ds, Lv n x) : Lv (n + 1) (.lst ds) := ⟨lvlDs_of fun x hx => (h x hx).1, Nat.succ_le_succ (deeps_of fun x hx => (h x hx).2)⟩
theorem Lv.le {n m : Nat} {d : D} (h : Lv n d) (hl : n ≤ m) : Lv m d := ⟨h.1, Nat.le_trans h.2 hl⟩
theorem Lv.int (i : Int) : Lv 0 (.int i) := ⟨rfl, Nat.le_refl _⟩
theorem Lv.str (i : Str) : Lv 0 (.str i) := ⟨rfl, Nat.le_refl _⟩
theorem Lv.rat {d : D} (h : isRat d = true) : Lv 1 d := by
  unfold isRat at h
  split at h
  · exact ⟨rfl, Nat.le_refl 1⟩
  · cases h
theorem Lv.int_of {d : D} (h : isInt d = true) : Lv 0 d := by
  obtain ⟨i, rfl⟩ := int_inv h
  exact .int i
theorem Lv.letter {d : D} (h : isLet d = true) : Lv 1 d := by
  obtain ⟨ds, rfl, k⟩ := let_inv h
  exact .tup fun x hx => .int_of (k x hx)
theorem Lv.word {d : D} (h : isWord d = true) : Lv 2 d := by
  obtain ⟨ds, rfl, k⟩ := word_inv h
  exact .tup fun x hx => .letter (k x hx)
theorem Lv.term {d : D} (h : isTermK d = true) : Lv 3 d := by
  obtain ⟨a, l, b, rfl, h1, h2, h3⟩ := termK_inv h
  refine .tup fun z hz => ?_
  simp only [List.mem_cons, List.not_mem_nil, or_false] at hz
  rcases hz with rfl | rfl | rfl
  · exact .word h1
  · exact (Lv.letter h2).le (by decide)
  · exact .word h3
theorem Lv.two {n : Nat} {a b : D} (h1 : Lv n a) (h2 : Lv n b) : Lv (n + 1) (.tup [a, b]) := .tup fun z hz => by
  simp only [List.mem_cons, List.not_mem_nil, or_false] at hz
  rcases hz with rfl | rfl
  · exact h1
  · exact h2
theorem Lv.row {c : Int} {d : D} (h : rowRight c d = true) : Lv 2 (tupOf d) := by
  unfold rowRight at h
  split at h
  · rw [Bool.and_eq_true] at h
    exact .tup fun x hx => .rat (List.all_eq_true.mp h.1 x hx)
  · cases h
theorem Lv.lot {c : Int} {d : D} (h : lotRight c d = true) : Lv 3 (lotTup d) := by
  unfold lotRight at h
  split at h
  · rw [Bool.and_eq_true] at h
    exact .two (.row h.1) ((Lv.int _).le (by decide))
  · cases h
theorem ltOk_Lv {m : Int} {d : D} (h : ltOk m d = true) : Lv 0 d := .int_of (ltOk_int h)
theorem Lv.step {c a : Int} {d : D} (h : stepOk c a d = true) : Lv 2 d := by
  unfold stepOk at h
  split at h
  · rename_i w x
    refine .two ((Lv.str w).le (by decide)) ?_
    split at h
    · exact .rat h
    · split at h
      · exact (ltOk_Lv h).le (by decide)
      · split at h
        · exact (ltOk_Lv h).le (by decide)
        · cases h
  · rename_i w x y
    rw [Bool.and_eq_true, Bool.and_eq_true] at h
    refine Lv.le (n := 1) (.tup fun z hz => ?_) (by decide)
    simp only [List.mem_cons, List.not_mem_nil, or_false] at hz
    rcases hz with rfl | rfl | rfl
    · exact .str _
    · exact ltOk_Lv h.2.1
    · exact ltOk_Lv h.2.2
  · cases h
theorem sortD_mem {ds : List D} {x : D} (h : x ∈ sortD ds) : x ∈ ds := by
  unfold sortD at h
  split at h
  · rename_i hex
    exact hex.choose_spec.1.mem_iff.mp h
  · cases h
theorem Lv.told {n : Nat} {bt : Int} {a : List (D × Int)} (h : ∀ x ∈ a.map (·.1), Lv (n + 1) x) : Lv (n + 3) (.lst (toldA bt a)) := by
  refine .lst fun y hy => ?_
  unfold toldA at hy
  obtain ⟨k, hk, e⟩ := List.mem_filterMap.mp hy
  split at e
  · cases e
  · cases e
    exact .two (h k (sortD_mem hk)) ((Lv.rat (rat_is _ _)).le (by omega))
theorem ins_eq {cl : Cl} {a b : D} {r : List D} (hf : r.length + 2 = cl.flds.length) (hc : cl ≠ .ratio) (ha : Lv 6 a) (hb : Lv 6 b) (hr : D.deeps r ≤ 6) : eqD 2 (.ins cl (a :: b :: r)) (.ins cl (a :: b :: r)) = some true := by
  refine eqD_refl (by decide) ?_ ?_
  · show (decide (r.length + 2 = cl.flds.length) && (decide (cl = .ratio) || decide (2 ≤ 2)) && (lvlD 1 a && (lvlD 1 b && (!decide (cl = .ratio) || (intD a && intD b))))) = true
    rw [decide_eq_true hf, decide_eq_false hc, ha.1, hb.1]
    rfl
  · show max a.deep (max b.deep (D.deeps r)) + 1 ≤ 8
    have := ha.2
    have := hb.2
    omega
theorem table_same {c : Int} {ds : List D} {t : D} (h : g_Table [.int c, .lst ds] = some t) : eqD 2 t t = some true := by
  unfold g_Table at h
  dsimp only at h
  split at h
  · rename_i hh
    cases h
    unfold tableRight at hh
    simp only [Bool.and_eq_true] at hh
    refine ins_eq (cl := .table) rfl (by decide) ((Lv.int c).le (by decide)) (Lv.le (n := 3) (.tup fun x hx => ?_) (by decide)) (Nat.zero_le _)
    obtain ⟨d, hd, rfl⟩ := List.mem_map.mp hx
    exact .row (List.all_eq_true.mp hh.2.2 d hd)
  · cases h
theorem runs_same {c : Int} {ds : List D} {t : D} (h : g_Runs [.int c, .lst ds] = some t) : eqD 2 t t = some true := by
  unfold g_Runs at h
  dsimp only at h
  split at h
  · rename_i hh
    cases h
    unfold runsRight at hh
    simp only [Bool.and_eq_true] at hh
    refine ins_eq (cl := .runs) rfl (by decide) ((Lv.int c).le (by decide)) (Lv.le (n := 4) (.tup fun x hx => ?_) (by decide)) (Nat.zero_le _)
    obtain ⟨d, hd, rfl⟩ := List.mem_map.mp hx
    exact .lot (List.all_eq_true.mp hh.2.2 d hd)
  · cases h
theorem stepsOk_Lv {c : Int} : ∀ {ds : List D} {n : Nat}, stepsOk c n ds = true → ∀ d ∈ ds, Lv 2 d
  | [], _, _, d, hd => by cases hd
  | e :: r, n, h, d, hd => by
    have h : (stepOk c (n : Nat) e && stepsOk c (n + 1) r) = true := h
    rw [Bool.and_eq_true] at h
    rcases List.mem_cons.mp hd with rfl | hd
    · exact .step h.1
    · exact stepsOk_Lv h.2 d hd
theorem program_same {c : Int} {ds : List D} {t : D} (h : g_Program [.int c, .lst ds] = some t) : eqD 2 t t = some true := by
  unfold g_Program at h
  dsimp only at h
  split at h
  · rename_i hh
    cases h
    unfold progRight at hh
    simp only [Bool.and_eq_true] at hh
    exact ins_eq (cl := .program) rfl (by decide) ((Lv.int c).le (by decide)) (Lv.le (n := 3) (.tup fun x hx => stepsOk_Lv hh.2.2 x hx) (by decide)) (Nat.zero_le _)
  · cases h
end Ag
set_option Elab.async false
set_option linter.all false
set_option autoImplicit false
set_option maxRecDepth 100000
set_option maxHeartbeats 1000000
namespace Ag
open PySem PySem.Spec L2 TL
/-- what the lines tell one after the other: the place of the first wrong one, or all -/
def scan (T : Nat → List Nat → Option D) : Nat → List (List Nat) → Sum Nat (List D)
  | _, [] => .inr []
  | n, l :: r => match T n l with
    | none => .inl n
    | some d => match scan T (n + 1) r with
      | .inl m => .inl m
      | .inr ds => .inr (d :: ds)
def mostOf : Kd → Nat
  | .tab => 40
  | .prog => 200
  | .tal => 400
  | .frm => 400
  | .rns => 12
/-- what a line tells at its place, none from the most on -/
def placeT (k : Kd) (c : Int) (n : Nat) (l : List Nat) : Option D := if n < mostOf k then lineT k c (n : Nat) (splitL 32 l) else none
theorem scan_len {T : Nat → List Nat → Option D} : ∀ {ls : List (List Nat)} {n : Nat} {ds : List D}, scan T n ls = .inr ds → ds.length = ls.length
  | [], n, ds, h => by cases h; rfl
  | l :: r, n, ds, h => by
    unfold scan at h
    split at h
    · cases h
    · split at h
      · cases h
      · rename_i q
        cases h
        rw [List.length_cons, List.length_cons, scan_len q]
theorem scan_all {T : Nat → List Nat → Option D} : ∀ {ls : List (List Nat)} {n : Nat} {ds : List D}, scan T n ls = .inr ds → ∀ i (l : List Nat) (d : D), ls[i]? = some l → ds[i]? = some d → T (n + i) l = some d
  | [], n, ds, h, i, l, d, hl, hd => by simp at hl
  | l0 :: r, n, ds, h, i, l, d, hl, hd => by
    unfold scan at h
    split at h
    · cases h
    · rename_i d0 q0
      split at h
      · cases h
      · rename_i ds0 q
        cases h
        cases i with
        | zero =>
          simp at hl hd
          subst hl
          subst hd
          exact q0
        | succ i =>
          have := scan_all q i l d (by simpa using hl) (by simpa using hd)
          rw [← this]
          congr 1
          omega
/-- a scan to the end stays below the most -/
theorem scan_most {k : Kd} {c : Int} {ls : List (List Nat)} {ds : List D} (h : scan (placeT k c) 0 ls = .inr ds) : ls.length ≤ mostOf k := by
  by_cases hlt : ls.length ≤ mostOf k
  · exact hlt
  · have hi : mostOf k < ls.length := by omega
    have hd : mostOf k < ds.length := by rw [scan_len h]; exact hi
    have := scan_all h (mostOf k) _ _ (List.getElem?_eq_getElem hi) (List.getElem?_eq_getElem hd)
    unfold placeT at this
    rw [if_neg (by omega)] at this
    cases this
theorem scan_mem {k : Kd} {c : Int} {ls : List (List Nat)} {ds : List D} (h : scan (placeT k c) 0 ls = .inr ds) {d : D} (hd : d ∈ ds) : ∃ (n : Nat) (l : List Nat), l ∈ ls ∧ lineT k c (n : Nat) (splitL 32 l) = some d := by
  obtain ⟨i, hi, rfl⟩ := List.getElem_of_mem hd
  have hl : i < ls.length := by rw [← scan_len h]; exact hi
  have := scan_all h i _ _ (List.getElem?_eq_getElem hl) (List.getElem?_eq_getElem hi)
  unfold placeT at this
  split at this
  · exact ⟨_, _, List.getElem_mem hl, this⟩
  · cases this
theorem scan_table {c : Int} {ls : List (List Nat)} {ds : List D} (hc : colsOk c = true) (h : scan (placeT .tab c) 0 ls = .inr ds) : ∃ t, thingD .tab c ds = some t ∧ eqD 2 t t = some true := by
  have hr : tableRight c ds = true := by
    unfold tableRight
    have h40 : ds.length ≤ 40 := by rw [scan_len h]; exact scan_most h
    have hall : ds.all (rowRight c) = true := List.all_eq_true.mpr fun d hd => by
      obtain ⟨n, l, _, e⟩ := scan_mem h hd
      exact rowT_right e
    unfold colsOk at hc
    rw [hc, decide_eq_true h40, hall]
    rfl
  have e : g_Table [.int c, .lst ds] = some (.ins .table [.int c, .tup (ds.map tupOf)]) := if_pos hr
  exact ⟨_, e, table_same e⟩
theorem scan_runs {c : Int} {ls : List (List Nat)} {ds : List D} (hc : colsOk c = true) (h : scan (placeT .rns c) 0 ls = .inr ds) : ∃ t, thingD .rns c ds = some t ∧ eqD 2 t t = some true := by
  have hr : (colsOk c && runsRight c ds) = true := by
    unfold runsRight
    have h40 : ds.length ≤ 12 := by rw [scan_len h]; exact scan_most h
    have hall : ds.all (lotRight c) = true := List.all_eq_true.mpr fun d hd => by
      obtain ⟨n, l, _, e⟩ := scan_mem h hd
      exact lotT_right e
    rw [hc, decide_eq_true h40, hall]
    rfl
  have e : g_Runs [.int c, .lst ds] = some (.ins .runs [.int c, .tup (ds.map lotTup)]) := if_pos hr
  exact ⟨_, e, runs_same e⟩
theorem scan_steps {c : Int} : ∀ {ls : List (List Nat)} {n : Nat} {ds : List D}, scan (placeT .prog c) n ls = .inr ds → stepsOk c n ds = true
  | [], n, ds, h => by cases h; rfl
  | l0 :: r, n, ds, h => by
    unfold scan at h
    split at h
    · cases h
    · rename_i d0 q0
      split at h
      · cases h
      · rename_i ds0 q
        cases h
        unfold placeT at q0
        split at q0
        · show (stepOk c (n : Nat) d0 && stepsOk c (n + 1) ds0) = true
          rw [stepT_right q0, scan_steps q]
          rfl
        · cases q0
theorem scan_program {c : Int} {ls : List (List Nat)} {ds : List D} (hc : colsOk c = true) (hne : ds ≠ []) (h : scan (placeT .prog c) 0 ls = .inr ds) : ∃ t, thingD .prog c ds = some t ∧ eqD 2 t t = some true := by
  have hr : (colsOk c && progRight c ds) = true := by
    unfold progRight
    have h40 : ds.length ≤ 200 := by rw [scan_len h]; exact scan_most h
    have h1 : 1 ≤ ds.length := List.length_pos_iff.mpr hne
    rw [hc, decide_eq_true h40, decide_eq_true h1, scan_steps h]
    rfl
  have e : g_Program [.int c, .lst ds] = some (.ins .program [.int c, .tup ds]) := if_pos hr
  exact ⟨_, e, program_same e⟩
/-- what a part's line gives -/
def PartOf (P : D → Bool) (d : D) (n : Nat) : Prop := ∃ kv : D × Int × Int, partKV d = some kv ∧ P kv.1 = true ∧ kv.2.1.natAbs ≤ 10 ^ n ∧ 0 < kv.2.2 ∧ kv.2.2.natAbs ≤ 10 ^ n
theorem scan_parts {P : D → Bool} {T : Nat → List Nat → Option D} (hT : ∀ n l d, T n l = some d → PartOf P d l.length) : ∀ {ls : List (List Nat)} {n : Nat} {ds : List D}, scan T n ls = .inr ds →
    ∃ ps : List ((D × Int × Int) × Nat), partsKV ds = some (ps.map (·.1)) ∧ ps.map (·.2) = ls.map (·.length) ∧ (∀ z ∈ ps, z.1.2.1.natAbs ≤ 10 ^ z.2 ∧ 0 < z.1.2.2 ∧ z.1.2.2.natAbs ≤ 10 ^ z.2) ∧ ∀ z ∈ ps, P z.1.1 = true
  | [], n, ds, h => by cases h; exact ⟨[], rfl, rfl, by simp, by simp⟩
  | l0 :: r, n, ds, h => by
    unfold scan at h
    split at h
    · cases h
    · rename_i d0 q0
      split at h
      · cases h
      · rename_i ds0 q
        cases h
        obtain ⟨ps, h1, h2, h3, h4⟩ := scan_parts hT q
        obtain ⟨kv, k1, k2, k3, k4, k5⟩ := hT _ _ _ q0
        refine ⟨(kv, l0.length) :: ps, ?_, ?_, ?_, ?_⟩
        · unfold partsKV
          rw [k1, h1]
          rfl
        · rw [List.map_cons, List.map_cons, h2]
        · intro z hz
          rcases List.mem_cons.mp hz with rfl | hz
          · exact ⟨k3, k4, k5⟩
          · exact h3 z hz
        · intro z hz
          rcases List.mem_cons.mp hz with rfl | hz
          · exact k2
          · exact h4 z hz
theorem part_of_tally {c : Int} {n : Nat} {l : List Nat} {d : D} (h : placeT .tal c n l = some d) : PartOf isWord d l.length := by
  unfold placeT at h
  split at h
  · have h : partT c (splitL 32 l) = some d := h
    have hl : ∀ p ∈ splitL 32 l, p.length ≤ l.length := fun p hp => (splitL_mem hp).1
    unfold partT at h
    split at h
    · rename_i a b q
      split at h
      · rename_i z w hn hw
        cases h
        obtain ⟨h1, h2, h3⟩ := ratF_le hn
        rw [q] at hl
        have up : 10 ^ a.length ≤ 10 ^ l.length := Nat.pow_le_pow_right (by decide) (hl a List.mem_cons_self)
        exact ⟨(wordD w, ratF z), rfl, word_is (wordT_right hw).1, Nat.le_trans h1 up, h2, Nat.le_trans h3 up⟩
      · cases h
    · cases h
  · cases h
theorem part_of_form {c : Int} {n : Nat} {l : List Nat} {d : D} (h : placeT .frm c n l = some d) : PartOf isTermK d l.length := by
  unfold placeT at h
  split at h
  · have h : termT c (splitL 32 l) = some d := h
    have hl : ∀ p ∈ splitL 32 l, p.length ≤ l.length := fun p hp => (splitL_mem hp).1
    have hr := termT_right h
    unfold termT at h
    split at h
    · rename_i a b x d0 y f q
      split at h
      · cases hn : numT a with
        | none => rw [hn] at h; cases h
        | some z =>
          rw [hn] at h
          rw [q] at hl
          have up : 10 ^ a.length ≤ 10 ^ l.length := Nat.pow_le_pow_right (by decide) (hl a List.mem_cons_self)
          obtain ⟨h1, h2, h3⟩ := ratF_le hn
          unfold termOf at h
          split at h
          · rename_i z' w o w' e1 e2 e3 e4
            cases e1
            split at h
            · cases h
              have hr : (termRight c (.tup [wordD w, letD o, wordD w']) && isRat (ratD z.1 z.2)) = true := hr
              rw [Bool.and_eq_true] at hr
              exact ⟨(.tup [wordD w, letD o, wordD w'], ratF z), rfl, term_is hr.1, Nat.le_trans h1 up, h2, Nat.le_trans h3 up⟩
            · cases h
          · cases h
      · cases h
    · cases h
  · cases h
theorem joined_is {ds : List D} {ps : List ((D × Int × Int) × Nat)} (h : partsKV ds = some (ps.map (·.1))) (g : GoodKV (ps.map (·.1))) : g_parts_joined [.lst ds] = some (.lst (toldA (btOf (ps.map (·.1))) (accOf (btOf (ps.map (·.1))) (ps.map (·.1)) []))) := by
  unfold g_parts_joined
  dsimp only
  rw [h]
  exact if_pos g
theorem scan_tally {c : Int} {ls : List (List Nat)} {ds : List D} (hc : colsOk c = true) (hs : sumL (ls.map (·.length)) ≤ 2000) (h : scan (placeT .tal c) 0 ls = .inr ds) : ∃ t, thingD .tal c ds = some t ∧ eqD 2 t t = some true := by
  have h40 : ds.length ≤ 400 := by rw [scan_len h]; exact scan_most h
  have hr : tallyRight c ds = true := by
    unfold tallyRight
    have hall : ds.all (partRight c) = true := List.all_eq_true.mpr fun d hd => by
      obtain ⟨n, l, _, e⟩ := scan_mem h hd
      exact partT_right e
    rw [hc, decide_eq_true h40, hall]
    rfl
  obtain ⟨ps, h1, h2, h3, h4⟩ := scan_parts (P := isWord) (fun n l d e => part_of_tally e) h
  have hlp : ps.length ≤ 400 := by
    have := congrArg List.length h2
    rw [List.length_map, List.length_map] at this
    rw [this]
    exact scan_most h
  have gk := goodKV hlp (by rw [h2]; exact hs) h3 (.inl h4)
  have e : g_Tally [.int c, .lst ds] = some (.ins .tally [.int c, .lst (toldA (btOf (ps.map (·.1))) (accOf (btOf (ps.map (·.1))) (ps.map (·.1)) [])), .emp]) := by
    unfold g_Tally
    dsimp only
    rw [if_pos hr, joined_is h1 gk]
    rfl
  refine ⟨_, e, ins_eq (cl := .tally) rfl (by decide) ((Lv.int c).le (by decide)) (Lv.le (Lv.told (n := 1) fun x hx => ?_) (by decide)) (Nat.zero_le _)⟩
  rcases accOf_mem _ _ [] x hx with hx | hx
  · rw [List.map_map] at hx
    obtain ⟨z, hz, rfl⟩ := List.mem_map.mp hx
    exact Lv.word (h4 z hz)
  · cases hx
theorem scan_form {c : Int} {ls : List (List Nat)} {ds : List D} (hc : colsOk c = true) (hs : sumL (ls.map (·.length)) ≤ 2000) (h : scan (placeT .frm c) 0 ls = .inr ds) : ∃ t, thingD .frm c ds = some t ∧ eqD 2 t t = some true := by
  have h40 : ds.length ≤ 400 := by rw [scan_len h]; exact scan_most h
  have hr : formRight c ds = true := by
    unfold formRight
    have hall : ds.all (termPartRight c) = true := List.all_eq_true.mpr fun d hd => by
      obtain ⟨n, l, _, e⟩ := scan_mem h hd
      exact termT_right e
    rw [hc, decide_eq_true h40, hall]
    rfl
  obtain ⟨ps, h1, h2, h3, h4⟩ := scan_parts (P := isTermK) (fun n l d e => part_of_form e) h
  have hlp : ps.length ≤ 400 := by
    have := congrArg List.length h2
    rw [List.length_map, List.length_map] at this
    rw [this]
    exact scan_most h
  have gk := goodKV hlp (by rw [h2]; exact hs) h3 (.inr h4)
  have e : g_Form [.int c, .lst ds] = some (.ins .form [.int c, .lst (toldA (btOf (ps.map (·.1))) (accOf (btOf (ps.map (·.1))) (ps.map (·.1)) []))]) := by
    unfold g_Form
    dsimp only
    rw [if_pos hr, joined_is h1 gk]
    rfl
  refine ⟨_, e, ins_eq (cl := .form) rfl (by decide) ((Lv.int c).le (by decide)) (Lv.le (Lv.told (n := 2) fun x hx => ?_) (by decide)) (Nat.zero_le _)⟩
  rcases accOf_mem _ _ [] x hx with hx | hx
  · rw [List.map_map] at hx
    obtain ⟨z, hz, rfl⟩ := List.mem_map.mp hx
    exact Lv.term (h4 z hz)
  · cases hx
end Ag
set_option Elab.async false
set_option linter.all false
set_option autoImplicit false
set_option maxRecDepth 100000
set_option maxHeartbeats 1000000
namespace Ag
open PySem PySem.Spec L2 TL
/-- the lists under way -/
abbrev Ms := Addr → Option (List D)
def noMs : Ms := fun _ => none
def putM (ms : Ms) (a : Addr) (o : Option (List D)) : Ms := fun b => if b = a then o else ms b
section
variable {K : PySem.W.Frag} {G H G' H' G1 H1 G2 H2 : Hp} {ms ms' ms1 ms2 : Ms} {a b : Addr} {o : Option (List D)} {vs : List V} {ds : List D}
theorem putM_same : putM ms a o a = o := if_pos rfl
theorem putM_ne (h : b ≠ a) : putM ms a o b = ms b := if_neg h
theorem putM_put {o' : Option (List D)} : putM (putM ms a o) a o' = putM ms a o' := by
  funext c
  unfold putM
  split <;> rfl
theorem putM_comm {o' : Option (List D)} (h : a ≠ b) : putM (putM ms a o) b o' = putM (putM ms b o') a o := by
  funext c
  unfold putM
  by_cases h1 : c = a
  · by_cases h2 : c = b
    · exact absurd (h1.symm.trans h2) h
    · rw [if_neg h2, if_pos h1, if_pos h1]
  · by_cases h2 : c = b
    · rw [if_pos h2, if_neg h1, if_pos h2]
    · rw [if_neg h2, if_neg h1, if_neg h1, if_neg h2]
theorem putM_id (h : ms a = o) : putM ms a o = ms := by
  funext c
  unfold putM
  split
  · rename_i e; rw [e, h]
  · rfl
def MsOk (K : PySem.W.Frag) (G H : Hp) (ms : Ms) : Prop := ∀ a ds, ms a = some ds → G a = none ∧ ∃ vs, H a = some (.lst vs) ∧ Reps K G vs ds
structure GrowM (ms : Ms) (G H : Hp) (ms' : Ms) (G' H' : Hp) : Prop where
  ext : ∀ a o, ms a = none → H a = some o → H' a = some o
  g : Ext G G'
  sub : Ext G' H'
  fresh : ∀ b o, G' b = some o → G b = some o ∨ H b = none ∨ ms b ≠ none
  mfresh : ∀ a, ms' a ≠ none → ms a ≠ none ∨ H a = none
theorem GrowM.rfl' (s : Ext G H) : GrowM ms G H ms G H := ⟨fun _ _ _ h => h, Ext.rfl', s, fun _ _ h => .inl h, fun _ h => .inl h⟩
theorem GrowM.of (w : Grow G H G' H') : GrowM ms G H ms G' H' := ⟨fun a o _ h => w.ext a o h, w.g, w.sub, fun b o h => (w.fresh b o h).elim .inl fun h => .inr (.inl h), fun _ h => .inl h⟩
theorem GrowM.trans (x : GrowM ms G H ms1 G1 H1) (y : GrowM ms1 G1 H1 ms2 G2 H2) : GrowM ms G H ms2 G2 H2 := by
  have back : ∀ b, H1 b = none → ms b ≠ none ∨ H b = none := fun b h => by
    cases q : ms b with
    | some l => exact .inl (by simp)
    | none =>
      cases z : H b with
      | none => exact .inr rfl
      | some u => rw [x.ext b u q z] at h; cases h
  refine ⟨fun a o h e => ?_, x.g.trans y.g, y.sub, fun b o h => ?_, fun a h => ?_⟩
  · refine y.ext a o ?_ (x.ext a o h e)
    cases q : ms1 a with
    | none => rfl
    | some l =>
      rcases x.mfresh a (by rw [q]; simp) with h1 | h1
      · exact absurd h h1
      · rw [e] at h1; cases h1
  · rcases y.fresh b o h with h | h | h
    · exact x.fresh b o h
    · exact (back b h).elim (fun h => .inr (.inr h)) fun h => .inr (.inl h)
    · exact (x.mfresh b h).elim (fun h => .inr (.inr h)) fun h => .inr (.inl h)
  · rcases y.mfresh a h with h | h
    · exact x.mfresh a h
    · exact back a h
theorem GrowM.back (x : GrowM noMs G H ms' G' H') : Grow G H G' H' := ⟨fun a o h => x.ext a o rfl h, x.g, x.sub, fun b o h => by
  rcases x.fresh b o h with h | h | h
  · exact .inl h
  · exact .inr h
  · exact absurd rfl h⟩
theorem MsOk.none : MsOk K G H noMs := fun _ _ h => by cases h
theorem MsOk.grow (k : MsOk K G H ms) (w : Grow G H G' H') : MsOk K G' H' ms := fun a ds h => by
  obtain ⟨h1, vs, h2, h3⟩ := k a ds h
  refine ⟨?_, vs, w.ext _ _ h2, h3.ext w.g⟩
  cases q : G' a with
  | none => rfl
  | some o =>
    rcases w.fresh a o q with z | z
    · rw [h1] at z; cases z
    · rw [h2] at z; cases z
theorem MsOk.free (k : MsOk K G H ms) (h : H a = Option.none) : ms a = Option.none := by
  cases q : ms a with
  | none => rfl
  | some l =>
    obtain ⟨_, vs, h2, _⟩ := k a l q
    rw [h] at h2
    cases h2
/-- a new list under way -/
theorem ms_new (s : Ext G H) (k : MsOk K G H ms) (h : H a = none) (r : Reps K G vs ds) : MsOk K G (upd H a (.lst vs)) (putM ms a (some ds)) ∧ GrowM ms G H (putM ms a (some ds)) G (upd H a (.lst vs)) := by
  refine ⟨fun b es e => ?_, fun b o _ e => ?_, Ext.rfl', fun b o e => ?_, fun b o e => .inl e, fun b e => ?_⟩
  · by_cases q : b = a
    · subst q
      rw [putM_same] at e
      cases e
      exact ⟨Ext.back s h, vs, upd_same, r⟩
    · rw [putM_ne q] at e
      obtain ⟨h1, us, h2, h3⟩ := k b es e
      exact ⟨h1, us, by rw [upd_ne q]; exact h2, h3⟩
  · have q : b ≠ a := fun q => by rw [q, h] at e; cases e
    rw [upd_ne q]
    exact e
  · have q : b ≠ a := fun q => by rw [q, Ext.back s h] at e; cases e
    rw [upd_ne q]
    exact s _ _ e
  · by_cases q : b = a
    · exact .inr (by rw [q]; exact h)
    · rw [putM_ne q] at e
      exact .inl e
/-- a list under way is changed -/
theorem ms_put (s : Ext G H) (k : MsOk K G H ms) {es : List D} (h : ms a = some es) (r : Reps K G vs ds) : MsOk K G (upd H a (.lst vs)) (putM ms a (some ds)) ∧ GrowM ms G H (putM ms a (some ds)) G (upd H a (.lst vs)) := by
  have ha : G a = none := (k a es h).1
  refine ⟨fun b es e => ?_, fun b o hb e => ?_, Ext.rfl', fun b o e => ?_, fun b o e => .inl e, fun b e => ?_⟩
  · by_cases q : b = a
    · subst q
      rw [putM_same] at e
      cases e
      exact ⟨ha, vs, upd_same, r⟩
    · rw [putM_ne q] at e
      obtain ⟨h1, us, h2, h3⟩ := k b es e
      exact ⟨h1, us, by rw [upd_ne q]; exact h2, h3⟩
  · have q : b ≠ a := fun q => by rw [q, h] at hb; cases hb
    rw [upd_ne q]
    exact e
  · have q : b ≠ a := fun q => by rw [q, ha] at e; cases e
    rw [upd_ne q]
    exact s _ _ e
  · by_cases q : b = a
    · exact .inl (by rw [q, h]; simp)
    · rw [putM_ne q] at e
      exact .inl e
/-- a list is under way no more -/
theorem ms_frz (s : Ext G H) (k : MsOk K G H ms) (h : ms a = some ds) : ∃ G', GrowM ms G H (putM ms a none) G' H ∧ MsOk K G' H (putM ms a none) ∧ Rep K G' (.ref a) (.lst ds) := by
  obtain ⟨ha, vs, hH, r⟩ := k a ds h
  have eg : Ext G (upd G a (.lst vs)) := Ext.upd ha
  refine ⟨upd G a (.lst vs), ⟨fun b o _ e => e, eg, fun b o e => ?_, fun b o e => ?_, fun b e => ?_⟩, fun b es e => ?_, .lst upd_same (r.ext eg)⟩
  · by_cases q : b = a
    · subst q
      rw [upd_same] at e
      rw [hH]
      exact e
    · rw [upd_ne q] at e
      exact s _ _ e
  · by_cases q : b = a
    · exact .inr (.inr (by rw [q, h]; simp))
    · rw [upd_ne q] at e
      exact .inl e
  · by_cases q : b = a
    · subst q
      rw [putM_same] at e
      exact absurd rfl e
    · rw [putM_ne q] at e
      exact .inl e
  · by_cases q : b = a
    · subst q
      rw [putM_same] at e
      cases e
    · rw [putM_ne q] at e
      obtain ⟨h1, us, h2, h3⟩ := k b es e
      exact ⟨by rw [upd_ne q]; exact h1, us, h2, h3.ext eg⟩
end
/-! ### readings -/
abbrev WE1 := DEnv → Ms → (D → Ms → Prop) → Prop
abbrev WA1 := DEnv → Ms → (List D → Ms → Prop) → Prop
abbrev WT1 := DEnv → Ms → (Bool → Ms → Prop) → Prop
def rmE (K : PySem.W.Frag) (P : WE1) : TE := fun σ H Q => ∃ G Γ ms R, Ext G H ∧ MsOk K G H ms ∧ EnvR K G σ Γ ∧ P Γ ms R ∧ ∀ d ms' v G' H', R d ms' → GrowM ms G H ms' G' H' → MsOk K G' H' ms' → Rep K G' v d → Q v H'
def rmA (K : PySem.W.Frag) (P : WA1) : TA := fun σ H Q => ∃ G Γ ms R, Ext G H ∧ MsOk K G H ms ∧ EnvR K G σ Γ ∧ P Γ ms R ∧ ∀ ds ms' vs G' H', R ds ms' → GrowM ms G H ms' G' H' → MsOk K G' H' ms' → Reps K G' vs ds → Q vs H'
def rmT (K : PySem.W.Frag) (P : WT1) : TT := fun σ H Q => ∃ G Γ ms R, Ext G H ∧ MsOk K G H ms ∧ EnvR K G σ Γ ∧ P Γ ms R ∧ ∀ b ms' G' H', R b ms' → GrowM ms G H ms' G' H' → MsOk K G' H' ms' → Q b H'
def bindW {α : Type} (o : Option α) (k : α → Prop) : Prop := match o with
  | some d => k d
  | none => False
theorem bindW_inv {α : Type} {o : Option α} {k : α → Prop} (h : bindW o k) : ∃ d, o = some d ∧ k d := by
  cases o with
  | none => exact h.elim
  | some d => exact ⟨d, rfl, h⟩
def objW (d : D) (k : Addr → Prop) : Prop := match d with
  | .obj a => k a
  | _ => False
theorem objW_inv {d : D} {k : Addr → Prop} (h : objW d k) : ∃ a, d = .obj a ∧ k a := by
  unfold objW at h
  split at h
  · exact ⟨_, rfl, h⟩
  · exact h.elim
def strW (d : D) (k : Prop) : Prop := match d with
  | .str _ => k
  | _ => False
theorem strW_inv {d : D} {k : Prop} (h : strW d k) : ∃ a, d = .str a ∧ k := by
  unfold strW at h
  split at h
  · exact ⟨_, rfl, h⟩
  · exact h.elim
def ifB (b : Bool) (x y : Prop) : Prop := match b with
  | true => x
  | false => y
def pureW (f : DEnv → Option D) : WE1 := fun Γ ms R => bindW (f Γ) fun d => R d ms
def pureT (f : DEnv → Option Bool) : WT1 := fun Γ ms R => bindW (f Γ) fun d => R d ms
section
variable {X : Cx} {e : Expr}
theorem rm_pure {f : DEnv → Option D} (h : PE X e (rdE X.K f)) : PE X e (rmE X.K (pureW f)) := pe_imp h fun σ H Q ⟨G, Γ, ms, R, s, k, he, hp, hq⟩ => by
  obtain ⟨d, h1, h2⟩ := bindW_inv hp
  exact ⟨G, Γ, d, s, he, h1, fun v G1 H1 w r => hq d ms v G1 H1 h2 (.of w) (k.grow w) r⟩
theorem rm_pureT {f : DEnv → Option Bool} (h : PT X e (rdT X.K f)) : PT X e (rmT X.K (pureT f)) := pt_imp h fun σ H Q ⟨G, Γ, ms, R, s, k, he, hp, hq⟩ => by
  obtain ⟨d, h1, h2⟩ := bindW_inv hp
  exact ⟨G, Γ, d, s, he, h1, fun G1 H1 w => hq d ms G1 H1 h2 (.of w) (k.grow w)⟩
theorem rm_no {P : WE1} (h : ∀ Γ ms R, ¬ P Γ ms R) : PE X e (rmE X.K P) := ⟨fun _ _ _ _ _ _ ⟨_, _, _, _, _, _, _, hp, _⟩ => absurd hp (h _ _ _)⟩
theorem rmT_no {P : WT1} (h : ∀ Γ ms R, ¬ P Γ ms R) : PT X e (rmT X.K P) := ⟨fun _ _ _ _ _ _ ⟨_, _, _, _, _, _, _, hp, _⟩ => absurd hp (h _ _ _)⟩
end
/-! ### the evaluator of expressions -/
inductive OutX where
  | ok (d : D) | rz (d : D)
structure ParN where
  P : Par
  nf : Str → Option (List D → Ms → (D → Ms → Prop) → Prop)
  xf : Str → Option (List D → Ms → (OutX → Ms → Prop) → Prop)
  lf : Addr → Option (List D → Option D)
  mu : List Str
def isLen (p : ParN) (x : Str) : List Expr → Bool
  | [.Name y _] => decide (x = "len") && p.mu.contains y
  | _ => false
/-- x != () -/
def isNe : Expr → Bool
  | .Compare _ [.NotEq] [.Tuple [] _ _] _ => true
  | _ => false
def neE : D → Option Bool
  | .tup ds => if areKeys ds = true ∧ D.deeps ds ≤ 7 then some (!ds.isEmpty) else none
  | _ => none
def condT (R0 : Ev) (sc : Scope) : Expr → DEnv → Option Bool
  | .Compare a [.NotEq] [.Tuple [] _ _] _ => fun Γ => bindO (R0.E sc a Γ) neE
  | t => R0.T sc t
def isNd (p : ParN) (sc : Scope) : Nat → Expr → Bool
  | 0, _ => false
  | n + 1, .Call (.Name x _) es [] _ => (p.nf x).isSome || (locK sc x || (isLen p x es || es.any (isNd p sc n)))
  | n + 1, .BinOp a op b _ => decide (op = .Mod) || (isNd p sc n a || isNd p sc n b)
  | n + 1, .Tuple es _ _ => es.any (isNd p sc n)
  | n + 1, .List es _ => es.any (isNd p sc n)
  | n + 1, .Subscript a (.Slice _ _ (some _) _) _ => true
  | n + 1, .Subscript a b _ => isNd p sc n a || isNd p sc n b
  | n + 1, .Call (.Attribute o _ _) [e] [] _ => isNd p sc n e
  | n + 1, .IfExp t a b _ => isNe t || (isNd p sc n a || isNd p sc n b)
  | n + 1, .UnaryOp _ a _ => isNd p sc n a
  | n + 1, .BoolOp _ es _ => es.any (isNd p sc n)
  | _, _ => false
def binM : Operator → D → D → Option D
  | .Mod, .int i, .int j => if 0 < j then some (.int (i % j)) else none
  | .Add, .tup a, .tup b => if a.length + b.length ≤ sL then some (.tup (a ++ b)) else none
  | op, x, y => binD op x y
/-- a text turned about -/
def revD : D → Option D
  | .str s => some (.str (mkS (tl s).reverse))
  | _ => none
def isRev : Option Expr → Option Expr → Option Expr → Bool
  | none, none, some (.UnaryOp .USub (.Constant (.int 1) _ _) _) => true
  | _, _, _ => false
def nvA (E : Expr → WE1) : List Expr → WA1
  | [], _, ms, R => R [] ms
  | e :: es, Γ, ms, R => E e Γ ms fun d ms1 => nvA E es Γ ms1 fun ds ms2 => R (d :: ds) ms2
def noW : WE1 := fun _ _ _ => False
def lenW (p : ParN) (sc : Scope) : List Expr → WE1
  | [.Name y _] => fun Γ ms R => bindW (vName p.P sc y Γ) fun d => objW d fun a => bindW (ms a) fun ds => R (.int (ds.length : Nat)) ms
  | _ => noW
def callW (p : ParN) (sc : Scope) (E : Expr → WE1) (x : Str) (es : List Expr) : WE1 :=
  if isLen p x es = true then (if glbK sc "len" = true then lenW p sc es else noW)
  else if es.all notStar = true ∧ es.isEmpty = false then
    if locK sc x = true then (fun Γ ms R => bindW (vName p.P sc x Γ) fun d => objW d fun f => bindW (p.lf f) fun g => nvA E es Γ ms fun ds ms1 => bindW (g ds) fun d => R d ms1)
    else if glbK sc x = true then match p.nf x with
      | some sp => fun Γ ms R => nvA E es Γ ms fun ds ms1 => sp ds ms1 R
      | none => match p.P.ft x with
        | some g => fun Γ ms R => nvA E es Γ ms fun ds ms1 => bindW (g ds) fun d => R d ms1
        | none => noW
    else noW
  else noW
def nvE (p : ParN) (R0 : Ev) (sc : Scope) : Nat → Expr → WE1
  | 0, _ => noW
  | n + 1, e => match isNd p sc 30 e with
    | false => pureW (R0.E sc e)
    | true => match e with
      | .Call (.Name x _) es [] _ => callW p sc (nvE p R0 sc n) x es
      | .BinOp a op b _ => fun Γ ms R => nvE p R0 sc n a Γ ms fun x ms1 => nvE p R0 sc n b Γ ms1 fun y ms2 => bindW (binM op x y) fun d => R d ms2
      | .Tuple es _ _ => if es.all notStar = true ∧ es.length ≤ 100 then fun Γ ms R => nvA (nvE p R0 sc n) es Γ ms fun ds ms1 => R (.tup ds) ms1 else noW
      | .List es _ => if es.all notStar = true ∧ es.length ≤ 100 then fun Γ ms R => nvA (nvE p R0 sc n) es Γ ms fun ds ms1 => R (.lst ds) ms1 else noW
      | .Subscript a (.Slice lo hi st _) _ => if isRev lo hi st = true then fun Γ ms R => nvE p R0 sc n a Γ ms fun x ms1 => bindW (revD x) fun d => R d ms1 else noW
      | .Subscript a b _ => if notSlice b = true then fun Γ ms R => nvE p R0 sc n a Γ ms fun x ms1 => nvE p R0 sc n b Γ ms1 fun y ms2 => bindW (ixD x y) fun d => R d ms2 else noW
      | .Call (.Attribute o m ap) [e] [] pos => if m = "join" ∧ notCall o = true ∧ notStar e = true ∧ (ap.endLine == pos.line) = true then fun Γ ms R => nvE p R0 sc n o Γ ms fun x ms1 => strW x (nvE p R0 sc n e Γ ms1 fun y ms2 => bindW (joinD x y) fun d => R d ms2) else noW
      | .IfExp t a b _ => fun Γ ms R => bindW (condT R0 sc t Γ) fun k => ifB k (nvE p R0 sc n a Γ ms R) (nvE p R0 sc n b Γ ms R)
      | _ => noW
def nvT (p : ParN) (R0 : Ev) (sc : Scope) (n : Nat) : Nat → Expr → WT1
  | 0, _ => fun _ _ _ => False
  | m + 1, e => match isNd p sc 30 e with
    | false => pureT (R0.T sc e)
    | true => match e with
      | .UnaryOp .Not a _ => fun Γ ms R => nvT p R0 sc n m a Γ ms fun b ms1 => R (!b) ms1
      | .BoolOp .Or [a, b] _ => fun Γ ms R => nvT p R0 sc n m a Γ ms fun k ms1 => ifB k (R true ms1) (nvT p R0 sc n m b Γ ms1 R)
      | e => if plainT e = true then fun Γ ms R => nvE p R0 sc n e Γ ms fun d ms1 => bindW (truD d) fun k => R k ms1 else fun _ _ _ => False
end Ag
set_option Elab.async false
set_option linter.all false
set_option autoImplicit false
set_option maxRecDepth 100000
set_option maxHeartbeats 1000000
namespace Ag
open PySem PySem.Spec L2 TL
section
variable {X : Cx}
theorem op_binM (op : Operator) : OpR X (binaryOp op) (rBin X.K (binM op)) := by
  intro pins s σ H x y v u Q I rx ry ⟨G, dx, dy, d, hs, hx, hy, hg, hq⟩
  unfold binM at hg
  split at hg
  · split at hg
    · rename_i hh
      cases hg
      exact bin_int (C := fun _ j => 0 < j) (g := fun i j => i % j) op_mod I hs rx ry hx hy hh hq
    · cases hg
  · split at hg
    · rename_i hl
      cases hg
      obtain ⟨p, xs, ex, hp, r1⟩ := hx.of_tup
      obtain ⟨q', ys, ey, hq', r2⟩ := hy.of_tup
      subst ex ey
      refine op_catA pins s σ H _ _ v u Q I rx ry ⟨p, q', xs, ys, rfl, rfl, hp.ext hs, hq'.ext hs, ?_, fun e => ?_, fun _ e => ?_, fun _ _ l hl => ?_⟩
      · rw [r1.length, r2.length]
        exact Nat.le_of_lt (Nat.lt_of_le_of_lt hl sL_line)
      · subst e
        cases r1
        exact hq _ G H (Grow.rfl' hs) (.tup hq' r2)
      · subst e
        cases r2
        refine hq _ G H (Grow.rfl' hs) ?_
        rw [List.append_nil]
        exact .tup hp r1
      · exact hq _ _ _ (Grow.new hs hl) (.tup (SqT.of upd_same) ((r1.append r2).ext (Ext.upd (Ext.back hs hl))))
    · cases hg
  · exact op_bin op pins s σ H x y v u Q I rx ry ⟨G, dx, dy, d, hs, hx, hy, hg, hq⟩
/-- s[::-1] -/
def tRevS (te : TE) : TE := fun σ H Q => te σ H fun x H1 => ∃ z, x = .str z ∧ z.length ≤ sizeLine ∧ Q (.str (mkS (tl z).reverse)) H1
theorem rev_pick (z : Str) : (⟨((Builtin.Str.strSliceIndices none none (-1) z.length).filterMap (z.cps[·]?)).toArray⟩ : Str) = mkS (tl z).reverse := by
  rw [PyProof.Rows.picked_rev, PySem.W.krv_range, List.filterMap_reverse]
  have e : (List.range z.length).filterMap (z.cps[·]?) = z.cps.toList := PySem.W.krv_all z.cps
  rw [e]
  rfl
theorem pe_revS {e : Expr} {te : TE} {k : Nat} {p1 p2 p3 pos : Pos} (he : PE X e te) : PE X (.Subscript e (.Slice none none (some (.UnaryOp .USub (.Constant (.int 1) k p1) p2)) p3) pos) (tRevS te) := by
  refine ⟨fun pins s σ H Q I h => ?_⟩
  refine PyProof.Rows.Subscript_ (thn (he.run pins s σ H _ I h) fun v s1 ⟨x, H1, I1, r1, q1⟩ => ?_)
  obtain ⟨z, ex, hx, q⟩ := q1
  subst ex
  obtain ⟨t, rfl⟩ := r1
  have hst : PO X (some (.UnaryOp .USub (.Constant (.int 1) k p1) p2)) (tPart (tUn (rU fun i => .int (-i)) (tC (.int 1)))) := po_some (pe_un un_neg pe_int)
  refine wpAny_Slice (thn (po_none.run pins s1 σ H1 (fun o H2 => o = none ∧ H2 = H1) I1 ⟨rfl, rfl⟩) fun vl s2 ⟨l, H2, I2, pl, el, e2⟩ => ?_)
  subst el e2
  refine thn (po_none.run pins s2 σ H2 (fun o H3 => o = none ∧ H3 = H2) I2 ⟨rfl, rfl⟩) fun vu s3 ⟨u, H3, I3, pu, eu, e3⟩ => ?_
  subst eu e3
  refine thn (hst.run pins s3 σ H3 (fun o H4 => o = some (-1) ∧ H4 = H3) I3 ⟨1, rfl, -1, rfl, rfl, rfl⟩) fun vs s4 ⟨o, H4, I4, ps, eo, e4⟩ => ?_
  subst eo e4
  have I5 : Inv X pins σ H4 { s4 with heap := s4.heap.push { cls := .type "slice", data := .fields #[vl, vu, vs] } } := I4.kept (t' := s4.toks) fun b ob q => Heap.get?_push_of_some _ q
  obtain ⟨l, rfl, e1⟩ := IsPart.raw pl
  obtain ⟨u, rfl, e2⟩ := IsPart.raw pu
  obtain ⟨w, rfl, e3⟩ := IsPart.raw ps
  have el : l = none := by cases l with
    | none => rfl
    | some _ => cases e1
  have eu : u = none := by cases u with
    | none => rfl
    | some _ => cases e2
  subst el eu
  obtain ⟨w, rfl⟩ : ∃ w', w = some ((-1 : Int), w') := by
    cases w with
    | none => cases e3
    | some w =>
      obtain ⟨i, tk⟩ := w
      have e4 : some i = some (-1 : Int) := e3
      cases e4
      exact ⟨tk, rfl⟩
  show wpAny (model X.prog X.w) X.A (PyProof.Rows.subscriptTail e (.Slice none none (some (.UnaryOp .USub (.Constant (.int 1) k p1) p2)) p3) (.str z t) (.ref s4.heap.objs.size)) (EP X pins σ Q) X.xe { s4 with heap := s4.heap.push { cls := .type "slice", data := .fields #[partValue none, partValue none, partValue (some ((-1 : Int), w))] } }
  refine PyProof.Rows.tail_any (ops := [.str z t, .ref s4.heap.objs.size]) (typeIs_str _ _ _) (PySem.F.slot_str_getitem.lookup) ?_ (by with_unfolding_all rfl)
  refine wpAny_getItem_str_slice (l := none) (u := none) (st := some ((-1 : Int), w)) (Heap.IsSliceOf.new _ _ _ _) rfl ?_
  have e5 := rev_pick z
  show Made.post (if ((-1 : Int) == 1 && (Builtin.Str.strSliceIndices none none (-1) z.length).length == z.length) = true then Made.val (.str z t)
    else Made.str ⟨((Builtin.Str.strSliceIndices none none (-1) z.length).filterMap (z.cps[·]?)).toArray⟩) (EP X pins σ Q) _
  rw [if_neg (fun h => by rw [Bool.and_eq_true] at h; exact absurd h.1 (by decide)), e5]
  refine ⟨?_, .str _, H4, I5.tok _, ⟨_, rfl⟩, q⟩
  rw [len_mkS, List.length_reverse]
  exact Nat.le_trans (Nat.le_of_eq (len_tl z)) hx
end
/-! ### soundness -/
def rN (K : PySem.W.Frag) (sp : List D → Ms → (D → Ms → Prop) → Prop) : List V → Hp → VK → Prop := fun vs H Q => ∃ G ds ms R, Ext G H ∧ MsOk K G H ms ∧ Reps K G vs ds ∧ sp ds ms R ∧ ∀ d ms' v G' H', R d ms' → GrowM ms G H ms' G' H' → MsOk K G' H' ms' → Rep K G' v d → Q v H'
structure GivenN (c : Ctx) (p : ParN) : Prop where
  pu : Given c p.P
  nf : ∀ x sp, p.nf x = some sp → ∀ X, Good c p.P.N X → ∀ (e : Expr) (es : List Expr) (px pos : Pos) (ta : TA), glbK X.env.scope x = true → (e :: es).all notStar = true → PA X (e :: es) ta → PE X (.Call (.Name x px) (e :: es) [] pos) (fun σ H Q => ta σ H fun vs H1 => rN X.K sp vs H1 Q)
  lf : ∀ f g, p.lf f = some g → Held c.P c.w c.K c.mg c.base c.k f (spD c.K g)
  len : c.mg "len" = none
section
variable {c : Ctx} {p : ParN} {X : Cx} {R0 : Ev} {E : Expr → WE1}
theorem nA (hE : ∀ e, PE X e (rmE X.K (E e))) : ∀ es : List Expr, es.all notStar = true → PA X es (rmA X.K (nvA E es))
  | [], _ => pa_imp pa_nil fun σ H Q ⟨G, Γ, ms, R, s, k, he, hp, hq⟩ => hq [] ms [] G H hp (.rfl' s) k .nil
  | e :: es, h => by
    rw [List.all_cons, Bool.and_eq_true] at h
    exact pa_imp (pa_cons (hE e) (nA hE es h.2) (starEach_ok h.1 _ _)) fun σ H Q ⟨G, Γ, ms, R, s, k, he, hp, hq⟩ =>
      ⟨G, Γ, ms, _, s, k, he, hp, fun d ms1 v G1 H1 h1 w1 k1 r1 => ⟨G1, Γ, ms1, _, w1.sub, k1, he.ext w1.g, h1, fun ds ms2 vs G2 H2 h2 w2 k2 r2 => hq _ ms2 _ G2 H2 h2 (w1.trans w2) k2 (.cons (r1.ext w2.g) r2)⟩⟩
theorem sLenN (g : Good c p.P.N X) (V0 : GivenN c p) (S : Sound c p.P.N R0) (hv : ∀ y pos, PE X (.Name y pos) (rdE X.K (vName p.P X.env.scope y))) (es : List Expr) (px pos : Pos) (hg : glbK X.env.scope "len" = true) : PE X (.Call (.Name "len" px) es [] pos) (rmE X.K (lenW p X.env.scope es)) := by
  unfold lenW
  split
  · rename_i y py
    refine pe_imp (pe_callB (t := tCons (rdE X.K (vName p.P X.env.scope y)) tNil) call_len_seq (glb_of hg) (by rw [g.mg]; exact V0.len) PySem.boot_len (pa_cons (hv y py) pa_nil)) fun σ H Q ⟨G, Γ, ms, R, s, k, he, hp, hq⟩ => ?_
    obtain ⟨d, h1, h2⟩ := bindW_inv hp
    refine ⟨G, Γ, d, s, he, h1, fun v G1 H1 w r => ?_⟩
    obtain ⟨a, rfl, h2⟩ := objW_inv h2
    obtain ⟨ds, h3, h4⟩ := bindW_inv h2
    obtain rfl := r.of_obj
    obtain ⟨z1, vs, z2, z3⟩ := k a ds h3
    have e : vs.length = ds.length := z3.length
    refine ⟨a, vs, rfl, .inl (SqL.of (w.ext _ _ z2)), ?_⟩
    rw [e]
    exact hq _ ms _ G1 H1 h4 (.of w) (k.grow w) (.int _)
  · exact rm_no fun _ _ _ h => h
/-- what a name gives, its place -/
theorem name_at {x : Str} {Γ : DEnv} {σ : L2.St} {G : Hp} {a : Addr} {sc : Scope} (hl : locK sc x = true) (he : EnvR X.K G σ Γ) (h : vName p.P sc x Γ = some (.obj a)) : ∃ i, ixOf p.P.N x = some i ∧ σ[i]? = some (some (.ref a)) ∧ plainN x = true := by
  unfold vName at h
  split at h
  · rename_i hpl
    split at h
    · cases hi : ixOf p.P.N x with
      | none => rw [hi] at h; cases h
      | some i =>
        rw [hi] at h
        have h : Γ.getD i none = some (.obj a) := h
        rw [List.getD_eq_getElem?_getD] at h
        cases q : Γ[i]? with
        | none => rw [q] at h; cases h
        | some o =>
          rw [q] at h
          have h : o = some (.obj a) := h
          subst h
          obtain ⟨v, h1, h2⟩ := he.get i _ q
          rw [h2.of_obj] at h1
          exact ⟨i, rfl, h1, hpl⟩
    · rename_i hv
      have := loc_of hl
      unfold visK at hv
      rw [this] at hv
      exact absurd rfl hv
  · cases h
theorem sCallN (g : Good c p.P.N X) (V0 : GivenN c p) (hE : ∀ e, PE X e (rmE X.K (E e))) (hv : ∀ y pos, PE X (.Name y pos) (rdE X.K (vName p.P X.env.scope y))) (S : Sound c p.P.N R0) (x : Str) (es : List Expr) (px pos : Pos) : PE X (.Call (.Name x px) es [] pos) (rmE X.K (callW p X.env.scope E x es)) := by
  unfold callW
  split
  · rename_i hl
    split
    · rename_i hg
      have ex : x = "len" := by
        unfold isLen at hl
        split at hl
        · rw [Bool.and_eq_true] at hl
          exact of_decide_eq_true hl.1
        · cases hl
      subst ex
      exact sLenN g V0 S hv es px pos hg
    · exact rm_no fun _ _ _ h => h
  · split
    · rename_i hh
      obtain ⟨hst, hne⟩ := hh
      cases es with
      | nil => cases hne
      | cons e es =>
        have hst' := hst
        rw [List.all_cons, Bool.and_eq_true] at hst'
        have hA := nA hE (e :: es) hst
        split
        · rename_i hl
          refine ⟨fun pins s σ H Q I ⟨G, Γ, ms, R, s0, k, he, hp, hq⟩ => ?_⟩
          obtain ⟨d, h1, h2⟩ := bindW_inv hp
          obtain ⟨f, rfl, h2⟩ := objW_inv h2
          obtain ⟨gf, h3, h4⟩ := bindW_inv h2
          obtain ⟨i, hi, hσ, hpl⟩ := name_at hl he h1
          refine (pe_callA (S := fun f => (p.lf f).map (spD X.K)) (k := c.k) (i := i) ?_ g.room (by rw [g.N]; exact ixOf_get hi) (.inl (loc_of hl)) hA (plainN_d hpl) (plainN_c hpl) (starEach_ok hst'.1 _ _) (back_ok hst'.2)).run pins s σ H Q I ⟨f, spD X.K gf, hσ, ?_, G, Γ, ms, _, s0, k, he, h4, fun ds ms1 vs G1 H1 h5 w1 k1 r1 => ?_⟩
          · intro f' sp' hf'
            have hf' : (p.lf f').map (spD X.K) = some sp' := hf'
            cases q : p.lf f' with
            | none => rw [q] at hf'; cases hf'
            | some g' =>
              rw [q] at hf'
              cases hf'
              rw [g.prog, g.w, g.K, g.mg, g.base]
              exact V0.lf f' g' q
          · show (p.lf f).map (spD X.K) = _
            rw [h3]
            rfl
          · obtain ⟨d2, h6, h7⟩ := bindW_inv h5
            exact ⟨G1, ds, d2, w1.sub, r1, h6, fun v G2 H2 w2 r2 => hq d2 ms1 v G2 H2 h7 (w1.trans (.of w2)) (k1.grow w2) r2⟩
        · split
          · rename_i hg
            split
            · rename_i sp hsp
              refine pe_imp (V0.nf x sp hsp X g e es px pos _ hg hst hA) fun σ H Q ⟨G, Γ, ms, R, s, k, he, hp, hq⟩ => ?_
              exact ⟨G, Γ, ms, _, s, k, he, hp, fun ds ms1 vs G1 H1 h1 w1 k1 r1 => ⟨G1, ds, ms1, R, w1.sub, k1, r1, h1, fun d ms2 v G2 H2 h2 w2 k2 r2 => hq d ms2 v G2 H2 h2 (w1.trans w2) k2 r2⟩⟩
            · split
              · rename_i gf hgf
                refine pe_imp (V0.pu.ft.run x gf hgf X g e es px pos _ hg hst hA) fun σ H Q ⟨G, Γ, ms, R, s, k, he, hp, hq⟩ => ?_
                refine ⟨G, Γ, ms, _, s, k, he, hp, fun ds ms1 vs G1 H1 h1 w1 k1 r1 => ?_⟩
                obtain ⟨d, h2, h3⟩ := bindW_inv h1
                exact ⟨G1, ds, d, w1.sub, r1, h2, fun v G2 H2 w2 r2 => hq d ms1 v G2 H2 h3 (w1.trans (.of w2)) (k1.grow w2) r2⟩
              · exact rm_no fun _ _ _ h => h
          · exact rm_no fun _ _ _ h => h
    · exact rm_no fun _ _ _ h => h
def rmAn (K : PySem.W.Frag) (n : Nat) (P : WA1) : TA := fun σ H Q => ∃ G Γ ms R, Ext G H ∧ MsOk K G H ms ∧ EnvR K G σ Γ ∧ P Γ ms R ∧ ∀ ds ms' vs G' H', ds.length = n → R ds ms' → GrowM ms G H ms' G' H' → MsOk K G' H' ms' → Reps K G' vs ds → Q vs H'
theorem nAn (hE : ∀ e, PE X e (rmE X.K (E e))) : ∀ es : List Expr, es.all notStar = true → PA X es (rmAn X.K es.length (nvA E es))
  | [], _ => pa_imp pa_nil fun σ H Q ⟨G, Γ, ms, R, s, k, he, hp, hq⟩ => hq [] ms [] G H rfl hp (.rfl' s) k .nil
  | e :: es, h => by
    rw [List.all_cons, Bool.and_eq_true] at h
    exact pa_imp (pa_cons (hE e) (nAn hE es h.2) (starEach_ok h.1 _ _)) fun σ H Q ⟨G, Γ, ms, R, s, k, he, hp, hq⟩ =>
      ⟨G, Γ, ms, _, s, k, he, hp, fun d ms1 v G1 H1 h1 w1 k1 r1 => ⟨G1, Γ, ms1, _, w1.sub, k1, he.ext w1.g, h1, fun ds ms2 vs G2 H2 hl h2 w2 k2 r2 => hq _ ms2 _ G2 H2 (by rw [List.length_cons, List.length_cons, hl]) h2 (w1.trans w2) k2 (.cons (r1.ext w2.g) r2)⟩⟩
theorem isRev_inv {lo hi st : Option Expr} (h : isRev lo hi st = true) : ∃ k p1 p2, lo = none ∧ hi = none ∧ st = some (.UnaryOp .USub (.Constant (.int 1) k p1) p2) := by
  unfold isRev at h
  split at h
  · exact ⟨_, _, _, rfl, rfl, rfl⟩
  · cases h
mutual
theorem dp_key {H : Hp} : ∀ {d : D} {v : V}, isKey d = true → Rep X.K H v d → Dp X.K H v (pd d)
  | .int i, v, _, r => by rw [r.of_int]; exact .int i
  | .tup ds, v, hk, r => by
    obtain ⟨a, vs, rfl, h1, r1⟩ := r.of_tup
    exact .tup h1 (dp_keys hk r1)
theorem dp_keys {H : Hp} : ∀ {ds : List D} {vs : List V}, areKeys ds = true → Reps X.K H vs ds → DpAll X.K H vs (pds ds)
  | [], vs, _, r => by cases r; exact .nil
  | d :: ds, vs, hk, r => by
    have hk : (isKey d && areKeys ds) = true := hk
    rw [Bool.and_eq_true] at hk
    cases r with
    | cons r1 r2 => exact .cons (dp_key hk.1 r1) (dp_keys hk.2 r2)
end
mutual
theorem lay_key : ∀ {d : D}, isKey d = true → PyData.canLay0 (pd d) = true
  | .int i, _ => by simp [pd, PyData.canLay0]
  | .tup ds, h => by
    have := lay_keys h
    simpa [pd, PyData.canLay0] using this
theorem lay_keys : ∀ {ds : List D}, areKeys ds = true → PyData.canLayAll0 (pds ds) = true
  | [], _ => by simp [pds, PyData.canLayAll0]
  | d :: ds, h => by
    have h : (isKey d && areKeys ds) = true := h
    rw [Bool.and_eq_true] at h
    simp [pds, PyData.canLayAll0, lay_key h.1, lay_keys h.2]
end
theorem sNe (g : Good c p.P.N X) (S : Sound c p.P.N R0) (a : Expr) (k : Nat) (tp pos : Pos) : PT X (.Compare a [.NotEq] [.Tuple [] k tp] pos) (rdT X.K fun Γ => bindO (R0.E X.env.scope a Γ) neE) := by
  refine pt_imp (pt_cmpR (op_neD g.room.units) (S.E X g a) (pe_tup pa_nil) rfl) fun σ H Q ⟨G, Γ, b, s, he, hf, hq⟩ => ?_
  have hf : bindO (R0.E X.env.scope a Γ) neE = some b := hf
  obtain ⟨d, h1, h2⟩ := bindO_inv hf
  refine ⟨G, Γ, d, s, he, h1, fun v G1 H1 w r => ?_⟩
  unfold neE at h2
  split at h2
  · rename_i ds
    split at h2
    · rename_i hh
      cases h2
      refine ⟨Nat.zero_le _, fun l hl => ?_⟩
      have e1 : Ext H1 (upd H1 l (.tup [])) := Ext.upd hl
      have k1 : isKey (.tup ds) = true := hh.1
      refine ⟨pd (.tup ds), .tuple [], dp_key k1 ((r.ext w.sub).ext e1), .tup (SqT.of upd_same) .nil, ?_, ?_, ?_⟩
      · unfold SeqAt.shaped
        rw [lay_key k1, pd_depth k1]
        exact decide_eq_true (Nat.succ_le_succ (Nat.le_trans hh.2 (by decide)))
      · decide
      · have e2 : PyData.eqv (pd (.tup ds)) (.tuple []) = ds.isEmpty := by
          cases ds <;> simp [pd, pds, PyData.eqv, PyData.eqvAll]
        rw [e2]
        exact ⟨_, rfl, hq G1 _ (w.trans (Grow.same w.sub e1))⟩
    · cases h2
  · cases h2
theorem sCond (g : Good c p.P.N X) (S : Sound c p.P.N R0) (t : Expr) : PT X t (rdT X.K (condT R0 X.env.scope t)) := by
  unfold condT
  split
  · exact sNe g S _ _ _ _
  · exact S.T X g t
theorem sNvE (g : Good c p.P.N X) (V0 : GivenN c p) (S : Sound c p.P.N R0) : ∀ (n : Nat) (e : Expr), PE X e (rmE X.K (nvE p R0 X.env.scope n e))
  | 0, e => rm_no fun _ _ _ h => h
  | n + 1, e => by
    have ih := sNvE g V0 S n
    unfold nvE
    split
    · exact rm_pure (S.E X g e)
    · split
      · exact sCallN g V0 ih (sName g V0.pu.gc) S _ _ _ _
      · rename_i a op b pos _
        refine pe_imp (pe_op (op_binM op) (ih a) (ih b)) fun σ H Q ⟨G, Γ, ms, R, s, k, he, hp, hq⟩ => ?_
        refine ⟨G, Γ, ms, _, s, k, he, hp, fun x ms1 v G1 H1 h1 w1 k1 r1 => ⟨G1, Γ, ms1, _, w1.sub, k1, he.ext w1.g, h1, fun y ms2 u G2 H2 h2 w2 k2 r2 => ?_⟩⟩
        obtain ⟨d, h3, h4⟩ := bindW_inv h2
        exact ⟨G2, x, y, d, w2.sub, r1.ext w2.g, r2, h3, fun z G3 H3 w3 r3 => hq d ms2 z G3 H3 h4 ((w1.trans w2).trans (.of w3)) (k2.grow w3) r3⟩
      · split
        · rename_i es kk pos _ hh
          refine pe_imp (pe_tup (nAn ih es hh.1)) fun σ H Q ⟨G, Γ, ms, R, s, k, he, hp, hq⟩ => ?_
          refine ⟨G, Γ, ms, _, s, k, he, hp, fun ds ms1 vs G1 H1 hl h1 w1 k1 r1 => ⟨by rw [r1.length, hl, sizeLine_eq]; omega, fun l hl2 => ?_⟩⟩
          have w2 := Grow.new (o := .tup vs) w1.sub hl2
          exact hq _ ms1 _ _ _ h1 (w1.trans (.of w2)) (k1.grow w2) (.tup (SqT.of upd_same) (r1.ext w2.g))
        · exact rm_no fun _ _ _ h => h
      · split
        · rename_i es pos _ hh
          refine pe_imp (pe_lst (nAn ih es hh.1)) fun σ H Q ⟨G, Γ, ms, R, s, k, he, hp, hq⟩ => ?_
          refine ⟨G, Γ, ms, _, s, k, he, hp, fun ds ms1 vs G1 H1 hl h1 w1 k1 r1 => ⟨by rw [r1.length, hl, sizeLine_eq]; omega, fun l hl2 => ?_⟩⟩
          have w2 := Grow.new (o := .lst vs) w1.sub hl2
          exact hq _ ms1 _ _ _ h1 (w1.trans (.of w2)) (k1.grow w2) (.lst upd_same (r1.ext w2.g))
        · exact rm_no fun _ _ _ h => h
      · split
        · rename_i a lo hi st p2 pos _ hh
          obtain ⟨kk, p3, p4, rfl, rfl, rfl⟩ := isRev_inv hh
          refine pe_imp (pe_revS (ih a)) fun σ H Q ⟨G, Γ, ms, R, s, k, he, hp, hq⟩ => ?_
          refine ⟨G, Γ, ms, _, s, k, he, hp, fun x ms1 v G1 H1 h1 w1 k1 r1 => ?_⟩
          obtain ⟨d, h2, h3⟩ := bindW_inv h1
          unfold revD at h2
          split at h2
          · rename_i z
            cases h2
            obtain ⟨rfl, o⟩ := r1.of_str
            refine ⟨z, rfl, Nat.le_of_lt (Nat.lt_of_le_of_lt o.len sL_line), hq _ ms1 _ G1 H1 h3 w1 k1 (.str _ (o.sub ?_ ?_))⟩
            · rw [len_mkS, List.length_reverse]
              exact Nat.le_of_eq (len_tl z)
            · intro ch hc
              exact List.mem_reverse.mp hc
          · cases h2
        · exact rm_no fun _ _ _ h => h
      · split
        · rename_i a b pos _ _ hh
          refine pe_imp (pe_ix ix_D (ih a) (ih b) (slice_ok hh)) fun σ H Q ⟨G, Γ, ms, R, s, k, he, hp, hq⟩ => ?_
          refine ⟨G, Γ, ms, _, s, k, he, hp, fun x ms1 v G1 H1 h1 w1 k1 r1 => ⟨G1, Γ, ms1, _, w1.sub, k1, he.ext w1.g, h1, fun y ms2 u G2 H2 h2 w2 k2 r2 => ?_⟩⟩
          obtain ⟨d, h3, h4⟩ := bindW_inv h2
          exact ⟨G2, x, y, d, w2.sub, r1.ext w2.g, r2, h3, fun z G3 H3 w3 r3 => hq d ms2 z G3 H3 h4 ((w1.trans w2).trans (.of w3)) (k2.grow w3) r3⟩
        · exact rm_no fun _ _ _ h => h
      · split
        · rename_i o m ap e pos _ hh
          obtain ⟨rfl, h1, h2, h3⟩ := hh
          refine pe_imp (pe_join (ih o) (ih e) (starEach_ok h2 [] X.env) (base_ok h1) h3) fun σ H Q ⟨G, Γ, ms, R, s, k, he, hp, hq⟩ => ?_
          refine ⟨G, Γ, ms, _, s, k, he, hp, fun x ms1 v G1 H1 h1 w1 k1 r1 => ?_⟩
          obtain ⟨z, rfl, h1⟩ := strW_inv h1
          refine ⟨⟨z, r1.of_str.1⟩, G1, Γ, ms1, _, w1.sub, k1, he.ext w1.g, h1, fun y ms2 u G2 H2 h2 w2 k2 r2 => ?_⟩
          obtain ⟨d, h3, h4⟩ := bindW_inv h2
          exact join_D (dx := .str z) w2.sub (r1.ext w2.g) r2 h3 fun z G3 H3 w3 r3 => hq d ms2 z G3 H3 h4 ((w1.trans w2).trans (.of w3)) (k2.grow w3) r3
        · exact rm_no fun _ _ _ h => h
      · rename_i t a b pos _
        refine pe_imp (pe_ifExp (sCond g S t) (ih a) (ih b)) fun σ H Q ⟨G, Γ, ms, R, s, k, he, hp, hq⟩ => ?_
        obtain ⟨b, h1, h2⟩ := bindW_inv hp
        refine ⟨G, Γ, b, s, he, h1, fun G1 H1 w => ?_⟩
        cases b with
        | true => exact iteT ⟨G1, Γ, ms, R, w.sub, k.grow w, he.ext w.g, h2, fun d ms1 v G2 H2 h3 w2 k2 r2 => hq d ms1 v G2 H2 h3 (GrowM.trans (.of w) w2) k2 r2⟩
        | false => exact iteF ⟨G1, Γ, ms, R, w.sub, k.grow w, he.ext w.g, h2, fun d ms1 v G2 H2 h3 w2 k2 r2 => hq d ms1 v G2 H2 h3 (GrowM.trans (.of w) w2) k2 r2⟩
      · exact rm_no fun _ _ _ h => h
theorem sNvT (g : Good c p.P.N X) (V0 : GivenN c p) (S : Sound c p.P.N R0) (n : Nat) : ∀ (m : Nat) (e : Expr), PT X e (rmT X.K (nvT p R0 X.env.scope n m e))
  | 0, e => rmT_no fun _ _ _ h => h
  | m + 1, e => by
    have ih := sNvT g V0 S n m
    unfold nvT
    split
    · exact rm_pureT (S.T X g e)
    · split
      · rename_i a pos _
        refine pt_imp (pt_not (ih a)) fun σ H Q ⟨G, Γ, ms, R, s, k, he, hp, hq⟩ => ?_
        exact ⟨G, Γ, ms, _, s, k, he, hp, fun b ms1 G1 H1 h1 w1 k1 => hq _ ms1 G1 H1 h1 w1 k1⟩
      · rename_i a b pos _
        refine pt_imp (pw_or (ih a) (pw_or1 (ih b))).pt fun σ H Q ⟨G, Γ, ms, R, s, k, he, hp, hq⟩ => ?_
        refine ⟨G, Γ, ms, _, s, k, he, hp, fun b ms1 G1 H1 h1 w1 k1 => ?_⟩
        cases b with
        | true => exact iteT (hq true ms1 G1 H1 h1 w1 k1)
        | false => exact iteF ⟨G1, Γ, ms1, R, w1.sub, k1, he.ext w1.g, h1, fun b2 ms2 G2 H2 h2 w2 k2 => hq b2 ms2 G2 H2 h2 (w1.trans w2) k2⟩
      · split
        · rename_i hh
          refine pt_imp (pt_truth (sNvE g V0 S n _) (test_ok hh)) fun σ H Q ⟨G, Γ, ms, R, s, k, he, hp, hq⟩ => ?_
          refine ⟨G, Γ, ms, _, s, k, he, hp, fun d ms1 v G1 H1 h1 w1 k1 r1 => ?_⟩
          obtain ⟨b, h2, h3⟩ := bindW_inv h1
          exact ⟨b, tru_D (r1.ext w1.sub) h2, hq b ms1 G1 H1 h3 w1 k1⟩
        · exact rmT_no fun _ _ _ h => h
end
end Ag
set_option Elab.async false
set_option linter.all false
set_option autoImplicit false
set_option maxRecDepth 100000
set_option maxHeartbeats 1000000
namespace Ag
open PySem PySem.Spec L2 TL
inductive OutM where
  | nx (Γ : DEnv) | rt (d : D) | rz (d : D)
abbrev WS1 := DEnv → Ms → (OutM → Ms → Prop) → Prop
abbrev SpX := List D → Ms → (OutX → Ms → Prop) → Prop
def lnF (v : V) : List (Str × V) := [(("line" : Str), v)]
def OutOk (K : PySem.W.Frag) (W : WX) (C : Addr) (D : Ends) (G H : Hp) : OutM → Prop
  | .nx Γ => ∀ σ, EnvR K G σ Γ → D.nx σ H
  | .rt d => ∀ v, Rep K G v d → D.rt v H
  | .rz d => ∀ σ v dd, Rep K G v d → H dd = none → W (.ref C) (some dd) σ (upd H dd (.xd (lnF v)))
def EndM (K : PySem.W.Frag) (W : WX) (C : Addr) (R : OutM → Ms → Prop) (ms : Ms) (G H : Hp) (D : Ends) : Prop := ∀ o ms' G' H', R o ms' → GrowM ms G H ms' G' H' → MsOk K G' H' ms' → OutOk K W C D G' H' o
def rmS (K : PySem.W.Frag) (W : WX) (C : Addr) (P : WS1) : TS := fun D σ H => ∃ G Γ ms R, Ext G H ∧ MsOk K G H ms ∧ EnvR K G σ Γ ∧ P Γ ms R ∧ EndM K W C R ms G H D
def rX (K : PySem.W.Frag) (C : Addr) (sp : SpX) : List V → Hp → VK → XK → Prop := fun vs H Q E => ∃ G ds ms R, Ext G H ∧ MsOk K G H ms ∧ Reps K G vs ds ∧ sp ds ms R ∧
  ∀ o ms' G' H', R o ms' → GrowM ms G H ms' G' H' → MsOk K G' H' ms' → match o with
    | .ok d => ∀ v, Rep K G' v d → Q v H'
    | .rz d => ∀ v dd, Rep K G' v d → H' dd = none → E (.ref C) (some dd) (upd H' dd (.xd (lnF v)))
def rmI (K : PySem.W.Frag) (P : WA1) : TI := fun σ H W => ∃ G Γ ms R, Ext G H ∧ MsOk K G H ms ∧ EnvR K G σ Γ ∧ P Γ ms R ∧ ∀ ds ms' J G' H', R ds ms' → GrowM ms G H ms' G' H' → MsOk K G' H' ms' → WalkD K J G' ds → W J H'
/-- what is known of callables and of the exception -/
structure GivenX (c : Ctx) (p : ParN) (C : Addr) (X : Cx) (W : WX) : Prop extends GivenN c p where
  tk : Takes X W
  range : c.mg "range" = none
  rz : ∀ (e : Expr) (px pos : Pos) (ta : TA), glbK X.env.scope "InvalidText" = true → notStar e = true → PA X [e] ta →
    PMk X (.Call (.Name "InvalidText" px) [e] [] pos) (fun σ H Q => ta σ H fun vs H1 => ∃ v, vs = [v] ∧ ∀ d, H1 d = none → Q (.ref C) (some d) (upd H1 d (.xd (lnF v))))
  xf : ∀ x sp, p.xf x = some sp → ∀ (e : Expr) (es : List Expr) (px pos : Pos) (ta : TA), glbK X.env.scope x = true → (e :: es).all notStar = true → PA X (e :: es) ta →
    PE X (.Call (.Name x px) (e :: es) [] pos) (fun σ H Q => ta σ H fun vs H1 => rX X.K C sp vs H1 Q (WE W σ))
/-! ### the evaluator -/
def appOf : List Stmt → Option Str
  | [] => none
  | .Expr (.Call (.Attribute (.Name x _) m _) [_] [] _) _ :: r => if m = "append" then some x else appOf r
  | _ :: r => appOf r
def frzW (N : List Str) (x : Option Str) (R : OutM → Ms → Prop) : OutM → Ms → Prop
  | .nx Γ, ms => match x with
    | none => R (.nx Γ) ms
    | some x => bindW (ixOf N x) fun i => bindW (Γ.getD i none) fun d => objW d fun a => bindW (ms a) fun ds => R (.nx (Γ.set i (some (.lst ds)))) (putM ms a none)
  | .rt d, ms => R (.rt d) ms
  | .rz d, ms => R (.rz d) ms
/-- what comes behind -/
def contM (C : WS1) (R : OutM → Ms → Prop) : OutM → Ms → Prop
  | .nx Γ, ms => C Γ ms R
  | .rt d, ms => R (.rt d) ms
  | .rz d, ms => R (.rz d) ms
def okX (k z : D → Ms → Prop) : OutX → Ms → Prop
  | .ok d, ms => k d ms
  | .rz d, ms => z d ms
def forW (t : Tg) (B : WS1) (R : OutM → Ms → Prop) : List D → DEnv → Ms → Prop
  | [], Γ, ms => R (.nx Γ) ms
  | d :: r, Γ, ms => bindW (tgSet t d Γ) fun Γ1 => B Γ1 ms (contM (fun Γ2 ms1 _ => forW t B R r Γ2 ms1) R)
def nvI (p : ParN) (R0 : Ev) (sc : Scope) (n : Nat) (tg iter : Expr) : WA1 := match isNd p sc 30 iter with
  | false => fun Γ ms R => bindW (evI R0 sc tg iter Γ) fun ds => R ds ms
  | true => match iter with
    | .Call (.Name x _) [e] [] _ => if x = "range" ∧ glbK sc "range" = true ∧ notStar e = true then fun Γ ms R => nvE p R0 sc n e Γ ms fun d ms1 => bindW (rangeD d) fun ds => R ds ms1 else fun _ _ _ => False
    | _ => fun _ _ _ => False
def pureS (f : DEnv → Option Out) : WS1 := fun Γ ms R => bindW (f Γ) fun o => match o with
  | .nx Γ' => R (.nx Γ') ms
  | .rt d => R (.rt d) ms
def noS : WS1 := fun _ _ _ => False
def nvS (p : ParN) (R0 : Ev) (sc : Scope) (n : Nat) (B : List Stmt → WS1) (B0 : List Stmt → DEnv → Option Out) (st : Stmt) : WS1 := match st with
  | .Expr (.Call (.Attribute (.Name x px) m ap) [e] [] pos) q => if m = "append" ∧ notStar e = true ∧ (ap.endLine == pos.line) = true then
      fun Γ ms R => bindW (vName p.P sc x Γ) fun d => objW d fun a => bindW (ms a) fun _ => nvE p R0 sc n e Γ ms fun v ms1 => bindW (ms1 a) fun ds => ds.length < 100000 ∧ R (.nx Γ) (putM ms1 a (some (ds ++ [v])))
    else noS
  | .Expr (.Call (.Name x px) (e :: es) [] cp) q => fun Γ ms R => nvE p R0 sc n (.Call (.Name x px) (e :: es) [] cp) Γ ms fun _ ms1 => R (.nx Γ) ms1
  | .Return (some e) _ => fun Γ ms R => nvE p R0 sc n e Γ ms fun d ms1 => R (.rt d) ms1
  | .If t a b _ => fun Γ ms R => nvT p R0 sc n n t Γ ms fun k ms1 => ifB k (B a Γ ms1 R) (B b Γ ms1 R)
  | .Raise (some (.Call (.Name x _) [e] [] _)) none _ => if x = "InvalidText" ∧ glbK sc "InvalidText" = true ∧ notStar e = true then fun Γ ms R => nvE p R0 sc n e Γ ms fun d ms1 => R (.rz d) ms1 else noS
  | .Assign [.Name x py] e pos => match (match e with | .List es lp => p.mu.contains x && es.all notStar && decide (es.length ≤ 100) | _ => false) with
    | true => match e with
      | .List es lp => match ixOf p.P.N x with
        | some i => if (locK sc x || celK sc x) = true then fun Γ ms R => nvA (nvE p R0 sc n) es Γ ms fun ds ms1 => ∀ a, ms1 a = none → R (.nx (Γ.set i (some (.obj a)))) (putM ms1 a (some ds)) else noS
        | none => noS
      | _ => noS
    | false => match ixOf p.P.N x with
        | some i => if notLC e = true ∧ (locK sc x || celK sc x) = true then fun Γ ms R => nvE p R0 sc n e Γ ms fun d ms1 => R (.nx (Γ.set i (some d))) ms1 else noS
        | none => noS
  | .Assign [.Tuple [.Name x px, .Name y py] k1 tp] (.Tuple [a, b] k2 tp2) pos => match ixOf p.P.N x, ixOf p.P.N y with
    | some i, some j => if parOk x y px py a b = true ∧ locK sc x = true ∧ locK sc y = true ∧ i ≠ j then fun Γ ms R => nvE p R0 sc n a Γ ms fun d ms1 => nvE p R0 sc n b Γ ms1 fun e ms2 => R (.nx ((Γ.set i (some d)).set j (some e))) ms2 else noS
    | _, _ => noS
  | .Assign [.Tuple ts k tp] (.Call (.Name f px) (e :: es) [] cp) pos => match p.xf f with
    | some sp => match tgIx p.P.N sc (.Tuple ts k tp) with
      | some t => if glbK sc f = true ∧ (e :: es).all notStar = true then fun Γ ms R => nvA (nvE p R0 sc n) (e :: es) Γ ms fun ds ms1 => sp ds ms1 (okX (fun d ms2 => bindW (tgSet t d Γ) fun Γ' => R (.nx Γ') ms2) fun d ms2 => R (.rz d) ms2) else noS
      | none => noS
    | none => pureS (evSt p.P R0 sc B0 (.Assign [.Tuple ts k tp] (.Call (.Name f px) (e :: es) [] cp) pos))
  | .Assign [.Tuple ts k tp] (.Name y px) pos => match tgIx p.P.N sc (.Tuple ts k tp) with
    | some t => fun Γ ms R => nvE p R0 sc n (.Name y px) Γ ms fun d ms1 => bindW (tgSet t d Γ) fun Γ' => R (.nx Γ') ms1
    | none => noS
  | .For tg iter body [] _ => match tgIx p.P.N sc tg with
    | some t => if notSet iter = true then fun Γ ms R => nvI p R0 sc n tg iter Γ ms fun ds ms1 => forW t (B body) (frzW p.P.N (appOf body) R) ds Γ ms1 else noS
    | none => noS
  | st => pureS (evSt p.P R0 sc B0 st)
def nvSs (p : ParN) (R0 : Ev) (sc : Scope) : Nat → List Stmt → WS1
  | 0, _ => noS
  | _ + 1, [] => fun Γ ms R => R (.nx Γ) ms
  | n + 1, st :: rest => fun Γ ms R => nvS p R0 sc 30 (nvSs p R0 sc n) (evSs p.P R0 sc 30) st Γ ms (contM (nvSs p R0 sc n rest) R)
/-! ### soundness -/
section
variable {c : Ctx} {p : ParN} {X : Cx} {R0 : Ev} {W : WX} {C : Addr}
theorem EndM.step {K : PySem.W.Frag} {R : OutM → Ms → Prop} {ms ms1 : Ms} {G H G1 H1 : Hp} {D : Ends} (w : GrowM ms G H ms1 G1 H1) (q : EndM K W C R ms G H D) : EndM K W C R ms1 G1 H1 D := fun o ms' G' H' h w' k => q o ms' G' H' h (w.trans w') k
theorem rmS_no {st : Stmt} : PS X st (rmS X.K W C noS) := ⟨fun _ _ _ _ _ _ ⟨_, _, _, _, _, _, _, hp, _⟩ => hp.elim⟩
theorem rmSs_no {st : List Stmt} : PSs X st (rmS X.K W C noS) := ⟨fun _ _ _ _ _ _ ⟨_, _, _, _, _, _, _, hp, _⟩ => hp.elim⟩
theorem rmI_no {tg it : Expr} : PI X tg it (rmI X.K fun _ _ _ => False) := ⟨fun _ _ _ _ _ _ ⟨_, _, _, _, _, _, _, hp, _⟩ => hp.elim⟩
theorem rm_pureS {st : Stmt} {f : DEnv → Option Out} (h : PS X st (rdS X.K f)) : PS X st (rmS X.K W C (pureS f)) := ps_imp h fun D σ H ⟨G, Γ, ms, R, s, k, he, hp, hq⟩ => by
  obtain ⟨o, h1, h2⟩ := bindW_inv hp
  refine ⟨G, Γ, o, s, he, h1, fun Γ' e σ' G' H' w he' => ?_, fun d e v G' H' w r => ?_⟩
  · subst e
    exact hq (.nx Γ') ms G' H' h2 (.of w) (k.grow w) σ' he'
  · subst e
    exact hq (.rt d) ms G' H' h2 (.of w) (k.grow w) v r
theorem EnvR.reset {K : PySem.W.Frag} {G : Hp} {σ : L2.St} {Γ : DEnv} {i : Nat} {v : V} {d : D} (r : EnvR K G σ Γ) (h : σ[i]? = some (some v)) (rv : Rep K G v d) : EnvR K G σ (Γ.set i (some d)) := by
  have e : σ.set i (some v) = σ := by
    apply List.ext_getElem?
    intro j
    by_cases q : i = j
    · subst q
      rw [List.getElem?_set_self (by exact (List.getElem?_eq_some_iff.mp h).1), h]
    · rw [List.getElem?_set_ne q]
  have := r.set i rv
  rwa [e] at this
theorem getD_some {Γ : DEnv} {i : Nat} {d : D} (h : Γ.getD i none = some d) : Γ[i]? = some (some d) := by
  rw [List.getD_eq_getElem?_getD] at h
  cases q : Γ[i]? with
  | none => rw [q] at h; cases h
  | some o =>
    rw [q] at h
    have h : o = some d := h
    rw [h]
theorem sNvI (g : Good c p.P.N X) (V0 : GivenN c p) (hr : c.mg "range" = none) (S : Sound c p.P.N R0) (n : Nat) (tg iter : Expr) : PI X tg iter (rmI X.K (nvI p R0 X.env.scope n tg iter)) := by
  unfold nvI
  split
  · refine pi_imp (sIter g S V0.pu.it tg iter) fun σ H W ⟨G, Γ, ms, R, s, k, he, hp, hq⟩ => ?_
    obtain ⟨ds, h1, h2⟩ := bindW_inv hp
    exact ⟨G, Γ, ds, s, he, h1, fun J G1 H1 w wk => hq ds ms J G1 H1 h2 (.of w) (k.grow w) wk⟩
  · split
    · split
      · rename_i x px e pos _ hh
        obtain ⟨rfl, h1, h2⟩ := hh
        refine pi_imp (pi_range1 (glb_of h1) (by rw [g.mg]; exact hr) (pa_cons (sNvE g V0 S n e) pa_nil (starEach_ok h2 _ _)) (starEach_ok h2 _ _)) fun σ H W ⟨G, Γ, ms, R, s, k, he, hp, hq⟩ => ?_
        refine ⟨G, Γ, ms, _, s, k, he, hp, fun d ms1 v G1 H1 h3 w1 k1 r1 => ?_⟩
        obtain ⟨ds, h4, h5⟩ := bindW_inv h3
        unfold rangeD at h4
        split at h4
        · rename_i j
          split at h4
          · rename_i hn
            cases h4
            obtain rfl := r1.of_int
            exact ⟨j, rfl, by omega, by omega, hq _ ms1 _ G1 H1 h5 w1 k1 (walk_range _ (by rw [sizeLine_eq]; omega))⟩
          · cases h4
        · cases h4
      · exact rmI_no
    · exact rmI_no
theorem sForW (g : GoodS c p.P.N X) (V0 : GivenX c p C X W) (S : Sound c p.P.N R0) {n : Nat} {tg iter : Expr} {body : List Stmt} {B : List Stmt → WS1} (hB : PSs X body (rmS X.K W C (B body))) {t : Tg} (ht : tgIx p.P.N X.env.scope tg = some t) (hs : notSet iter = true) (pos : Pos) :
    PS X (.For tg iter body [] pos) (rmS X.K W C fun Γ ms R => nvI p R0 X.env.scope n tg iter Γ ms fun ds ms1 => forW t (B body) (frzW p.P.N (appOf body) R) ds Γ ms1) := by
  refine ps_imp (ps_for g.po g.calm (sNvI g.toGood V0.toGivenN V0.range S n tg iter) (sTg g.toGood V0.pu.nd ht) hB (set_ok hs)) fun D σ H ⟨G, Γ, ms, R, hs, k, he, hp, hq⟩ => ?_
  refine ⟨G, Γ, ms, _, hs, k, he, hp, fun ds ms1 J G1 H1 h1 w1 k1 wk => ?_⟩
  have he1 := he.ext w1.g
  have hq1 := EndM.step w1 hq
  refine ⟨fun i m σ' H' => m = ds.length - i ∧ i ≤ ds.length ∧ ∃ G' Γ' ms', GrowM ms1 G1 H1 ms' G' H' ∧ MsOk X.K G' H' ms' ∧ EnvR X.K G' σ' Γ' ∧ forW t (B body) (frzW p.P.N (appOf body) R) (ds.drop i) Γ' ms', ⟨ds.length, by omega, by omega, G1, Γ, ms1, .rfl' w1.sub, k1, he1, by simpa using h1⟩, ?_⟩
  rintro i m σ' H' ⟨rfl, hi, G', Γ', ms', w2, k2, he2, hf2⟩
  obtain ⟨hlen, wk⟩ := wk
  by_cases hlt : i < ds.length
  · refine .inr ⟨((wk i G' H' w2.g w2.sub).1 hlt).1, fun σ' H' => i + 1 ≤ ds.length ∧ ∃ G' Γ' ms', GrowM ms1 G1 H1 ms' G' H' ∧ MsOk X.K G' H' ms' ∧ EnvR X.K G' σ' Γ' ∧ forW t (B body) (frzW p.P.N (appOf body) R) (ds.drop (i + 1)) Γ' ms', fun σ' H' h => ⟨_, by omega, rfl, h⟩, fun x H3 y => ?_⟩
    obtain ⟨G3, d, w3, hd, rx⟩ := ((wk i G' H' w2.g w2.sub).1 hlt).2 x H3 y
    have hdr : ds.drop i = d :: ds.drop (i + 1) := by
      rw [List.drop_eq_getElem_cons hlt]
      rw [List.getElem?_eq_getElem hlt] at hd
      cases hd
      rfl
    rw [hdr] at hf2
    obtain ⟨Γ1, htg, hb⟩ := bindW_inv (show bindW (tgSet t d Γ') _ from hf2)
    refine tg_take w3.sub (he2.ext w3.g) rx htg fun σ4 he4 _ => ?_
    have w4 := w2.trans (.of w3)
    have k4 := k2.grow w3
    refine ⟨G3, Γ1, ms', _, w3.sub, k4, he4, hb, fun o ms5 G5 H5 h5 w5 k5 => ?_⟩
    cases o with
    | nx Γ2 => exact fun σ5 he5 => ⟨by omega, G5, Γ2, ms5, w4.trans w5, k5, he5, h5⟩
    | rt d' => exact hq1 (.rt d') ms5 G5 H5 h5 (w4.trans w5) k5
    | rz d' => exact hq1 (.rz d') ms5 G5 H5 h5 (w4.trans w5) k5
  · have hge : ds.length ≤ i := by omega
    rw [List.drop_eq_nil_of_le hge] at hf2
    refine .inl ⟨(wk i G' H' w2.g w2.sub).2 hge, ?_⟩
    have hf2 : frzW p.P.N (appOf body) R (.nx Γ') ms' := hf2
    cases q : appOf body with
    | none =>
      rw [q] at hf2
      exact hq1 (.nx Γ') ms' G' H' hf2 w2 k2 σ' he2
    | some x =>
      rw [q] at hf2
      have hf2 : bindW (ixOf p.P.N x) (fun i => bindW (Γ'.getD i none) fun d => objW d fun a => bindW (ms' a) fun ds => R (.nx (Γ'.set i (some (.lst ds)))) (putM ms' a none)) := hf2
      obtain ⟨j, hj, hf2⟩ := bindW_inv hf2
      obtain ⟨d, hd, hf2⟩ := bindW_inv hf2
      obtain ⟨a, rfl, hf2⟩ := objW_inv hf2
      obtain ⟨es, hes, hf2⟩ := bindW_inv hf2
      obtain ⟨G5, w5, k5, r5⟩ := ms_frz w2.sub k2 hes
      obtain ⟨v, h1, h2⟩ := he2.get j _ (getD_some hd)
      rw [h2.of_obj] at h1
      exact hq1 (.nx _) _ G5 H' hf2 (w2.trans w5) k5 σ' ((he2.ext w5.g).reset h1 r5)
theorem sAppend (g : GoodS c p.P.N X) (V0 : GivenX c p C X W) (S : Sound c p.P.N R0) (n : Nat) (x : Str) (px ap : Pos) (e : Expr) (pos q : Pos) (h1 : notStar e = true) (h2 : (ap.endLine == pos.line) = true) :
    PS X (.Expr (.Call (.Attribute (.Name x px) "append" ap) [e] [] pos) q) (rmS X.K W C fun Γ ms R => bindW (vName p.P X.env.scope x Γ) fun d => objW d fun a => bindW (ms a) fun _ => nvE p R0 X.env.scope n e Γ ms fun v ms1 => bindW (ms1 a) fun ds => ds.length < 100000 ∧ R (.nx Γ) (putM ms1 a (some (ds ++ [v])))) := by
  have hb : starEach [e] X.env = [(false, eval e X.env)] := starEach_ok h1 [] X.env
  refine ps_imp (ps_expr (pe_bm PySem.F.plainAttrs_list PySem.F.slot_list_append PySem.F.type_list_append mt_append (sName g.toGood V0.pu.gc x px) (pa_cons (sNvE g.toGood V0.toGivenN S n e) pa_nil (starEach_ok h1 _ _)) rfl (by rw [hb]; rfl) h2 (starEach_ok h1 _ _) rfl) rfl) fun D σ H ⟨G, Γ, ms, R, s, k, he, hp, hq⟩ => ?_
  obtain ⟨d, h3, h4⟩ := bindW_inv hp
  refine ⟨G, Γ, d, s, he, h3, fun v G1 H1 w1 r1 => ?_⟩
  obtain ⟨a, rfl, h4⟩ := objW_inv h4
  obtain ⟨es, h5, h6⟩ := bindW_inv h4
  obtain rfl := r1.of_obj
  have k1 := k.grow w1
  obtain ⟨z1, vs, z2, z3⟩ := k1 a es h5
  refine ⟨.inl ⟨rfl, _, SqL.of z2⟩, G1, Γ, ms, _, w1.sub, k1, he.ext w1.g, h6, fun d ms2 u G2 H2 h7 w2 k2 r2 => ?_⟩
  obtain ⟨ds, h8, h9, h10⟩ := bindW_inv h7
  obtain ⟨z4, us, z5, z6⟩ := k2 a ds h8
  refine ⟨a, us, u, rfl, rfl, z5, ?_, ?_⟩
  · rw [z6.length, sizeLine_eq]
    omega
  · obtain ⟨k3, w3⟩ := ms_put w2.sub k2 h8 (z6.append (.cons r2 .nil))
    exact hq (.nx Γ) _ _ _ h10 ((GrowM.trans (.of w1) w2).trans w3) k3 σ ((he.ext w1.g).ext w2.g)
theorem sNvS (g : GoodS c p.P.N X) (V0 : GivenX c p C X W) (S : Sound c p.P.N R0) (n : Nat) {B : List Stmt → WS1} (hB : ∀ b, PSs X b (rmS X.K W C (B b))) {B0 : List Stmt → DEnv → Option Out} (hB0 : ∀ b, PSs X b (rdS X.K (B0 b))) (st : Stmt) : PS X st (rmS X.K W C (nvS p R0 X.env.scope n B B0 st)) := by
  have pur : ∀ st, PS X st (rmS X.K W C (pureS (evSt p.P R0 X.env.scope B0 st))) := fun st => rm_pureS (sSt V0.pu g S hB0 st)
  unfold nvS
  split
  · split
    · rename_i hh
      obtain ⟨rfl, h1, h2⟩ := hh
      exact sAppend g V0 S n _ _ _ _ _ _ h1 h2
    · exact rmS_no
  · rename_i x px e es cp q
    refine ps_imp (ps_expr (sNvE g.toGood V0.toGivenN S n _) rfl) fun D σ H ⟨G, Γ, ms, R, s, k, he, hp, hq⟩ => ?_
    exact ⟨G, Γ, ms, _, s, k, he, hp, fun d ms1 v G1 H1 h1 w1 k1 r1 => hq (.nx Γ) ms1 G1 H1 h1 w1 k1 σ (he.ext w1.g)⟩
  · rename_i e pos
    refine ps_imp (ps_ret (sNvE g.toGood V0.toGivenN S n e)) fun D σ H ⟨G, Γ, ms, R, s, k, he, hp, hq⟩ => ?_
    exact ⟨G, Γ, ms, _, s, k, he, hp, fun d ms1 v G1 H1 h1 w1 k1 r1 => hq (.rt d) ms1 G1 H1 h1 w1 k1 v r1⟩
  · rename_i t a b pos
    refine ps_imp (ps_if (sNvT g.toGood V0.toGivenN S n n t) (hB a) (hB b)) fun D σ H ⟨G, Γ, ms, R, s, k, he, hp, hq⟩ => ?_
    refine ⟨G, Γ, ms, _, s, k, he, hp, fun b ms1 G1 H1 h1 w1 k1 => ?_⟩
    cases b with
    | true => exact iteT ⟨G1, Γ, ms1, R, w1.sub, k1, he.ext w1.g, h1, .step w1 hq⟩
    | false => exact iteF ⟨G1, Γ, ms1, R, w1.sub, k1, he.ext w1.g, h1, .step w1 hq⟩
  · split
    · rename_i x px e pos _ hh
      obtain ⟨rfl, h1, h2⟩ := hh
      refine ps_imp (ps_raise g.calm V0.tk (V0.rz e px pos _ h1 h2 (pa_cons (sNvE g.toGood V0.toGivenN S n e) pa_nil (starEach_ok h2 _ _)))) fun D σ H ⟨G, Γ, ms, R, s, k, he, hp, hq⟩ => ?_
      refine ⟨G, Γ, ms, _, s, k, he, hp, fun d ms1 v G1 H1 h1 w1 k1 r1 => ⟨v, rfl, fun dd hd => ?_⟩⟩
      exact hq (.rz d) ms1 G1 H1 h1 w1 k1 σ v dd r1 hd
    · exact rmS_no
  · rename_i x py e pos
    split
    · rename_i hm
      split
      · rename_i es lp
        split
        · rename_i i hi
          split
          · rename_i hl
            simp only [Bool.and_eq_true, decide_eq_true_eq] at hm
            obtain ⟨⟨m1, m2⟩, m3⟩ := hm
            have hl' : Loc X.env.scope x := by
              rw [Bool.or_eq_true] at hl
              exact hl.elim (fun h => .inl (loc_of h)) fun h => .inr (cel_of h)
            refine ps_imp (ps_set (by rw [g.N]; exact V0.pu.nd) (by rw [g.N]; exact ixOf_get hi) hl' (pe_lst (nAn (sNvE g.toGood V0.toGivenN S n) es m2)) (sw_no rfl) (.inl (g.fn x))) fun D σ H ⟨G, Γ, ms, R, s, k, he, hp, hq⟩ => ?_
            refine ⟨G, Γ, ms, _, s, k, he, hp, fun ds ms1 vs G1 H1 hl h1 w1 k1 r1 => ⟨by rw [r1.length, hl, sizeLine_eq]; omega, fun l hl2 => ?_⟩⟩
            obtain ⟨k2, w2⟩ := ms_new w1.sub k1 hl2 r1
            exact hq _ _ _ _ (h1 l (k1.free hl2)) (w1.trans w2) k2 _ (((he.ext w1.g).ext w2.g).set i (.obj l))
          · exact rmS_no
        · exact rmS_no
      · exact rmS_no
    · split
      · rename_i i hi
        split
        · rename_i hh
          have hl' : Loc X.env.scope x := by
            have hl := hh.2
            rw [Bool.or_eq_true] at hl
            exact hl.elim (fun h => .inl (loc_of h)) fun h => .inr (cel_of h)
          refine ps_imp (ps_set (by rw [g.N]; exact V0.pu.nd) (by rw [g.N]; exact ixOf_get hi) hl' (sNvE g.toGood V0.toGivenN S n e) (sw_no hh.1) (.inl (g.fn x))) fun D σ H ⟨G, Γ, ms, R, s, k, he, hp, hq⟩ => ?_
          exact ⟨G, Γ, ms, _, s, k, he, hp, fun d ms1 v G1 H1 h1 w1 k1 r1 => hq _ ms1 G1 H1 h1 w1 k1 _ ((he.ext w1.g).set i r1)⟩
        · exact rmS_no
      · exact rmS_no
  · rename_i x px y py k1 tp a b k2 tp2 pos
    split
    · rename_i i j hi hj
      split
      · rename_i hh
        obtain ⟨h1, h2, h3, h4⟩ := hh
        have h1' := h1
        unfold parOk at h1'
        simp only [Bool.and_eq_true, Bool.not_eq_true', decide_eq_false_iff_not] at h1'
        obtain ⟨⟨⟨⟨⟨⟨_, _⟩, n3⟩, n4⟩, _⟩, _⟩, _⟩ := h1'
        have ih := sNvE g.toGood V0.toGivenN S n
        refine ps_imp (ps_par g.calm (by rw [g.N]; exact V0.pu.nd) (by rw [g.N]; exact ixOf_get hi) (by rw [g.N]; exact ixOf_get hj) h4 (loc_of h2) (loc_of h3) (pa_cons (ih a) (pa_cons (ih b) pa_nil (starEach_ok n4 _ _)) (starEach_ok n3 _ _)) (swap_par g.kind h2 h3 h1) rfl) fun D σ H ⟨G, Γ, ms, R, s, k, he, hp, hq⟩ => ?_
        refine ⟨G, Γ, ms, _, s, k, he, hp, fun d ms1 v G1 H1 h1 w1 k1 r1 => ⟨G1, Γ, ms1, _, w1.sub, k1, he.ext w1.g, h1, fun e ms2 u G2 H2 h2 w2 k2 r2 => ⟨v, u, rfl, ?_⟩⟩⟩
        exact hq _ ms2 G2 H2 h2 (w1.trans w2) k2 _ (((((he.ext w1.g).ext w2.g).set i (r1.ext w2.g))).set j r2)
      · exact rmS_no
    · exact rmS_no
  · rename_i ts kk tp f px e es cp pos
    split
    · rename_i sp hsp
      split
      · rename_i t ht
        split
        · rename_i hh
          obtain ⟨h1, h2⟩ := hh
          refine ps_imp (ps_asg (V0.xf f sp hsp e es px cp _ h1 h2 (nA (sNvE g.toGood V0.toGivenN S n) (e :: es) h2)) (sTg g.toGood V0.pu.nd ht) (by unfold swapsWithSole; exact sw_no rfl) (swap_tup rfl) rfl) fun D σ H ⟨G, Γ, ms, R, s, k, he, hp, hq⟩ => ?_
          refine ⟨G, Γ, ms, _, s, k, he, hp, fun ds ms1 vs G1 H1 h1 w1 k1 r1 => ⟨G1, ds, ms1, _, w1.sub, k1, r1, h1, fun o ms2 G2 H2 h2 w2 k2 => ?_⟩⟩
          cases o with
          | ok d =>
            intro v r2
            obtain ⟨Γ', h3, h4⟩ := bindW_inv (show bindW (tgSet t d Γ) _ from h2)
            exact tg_take w2.sub ((he.ext w1.g).ext w2.g) r2 h3 fun σ' he' _ => hq (.nx Γ') ms2 G2 H2 h4 (w1.trans w2) k2 σ' he'
          | rz d => exact fun v dd r2 hd => hq (.rz d) ms2 G2 H2 h2 (w1.trans w2) k2 σ v dd r2 hd
        · exact rmS_no
      · exact rmS_no
    · exact pur _
  · rename_i ts kk tp y px pos
    split
    · rename_i t ht
      refine ps_imp (ps_asg (sNvE g.toGood V0.toGivenN S n (.Name y px)) (sTg g.toGood V0.pu.nd ht) (by unfold swapsWithSole; exact sw_no rfl) (swap_tup rfl) rfl) fun D σ H ⟨G, Γ, ms, R, s, k, he, hp, hq⟩ => ?_
      refine ⟨G, Γ, ms, _, s, k, he, hp, fun d ms1 v G1 H1 h1 w1 k1 r1 => ?_⟩
      obtain ⟨Γ', h3, h4⟩ := bindW_inv h1
      exact tg_take w1.sub (he.ext w1.g) r1 h3 fun σ' he' _ => hq (.nx Γ') ms1 G1 H1 h4 w1 k1 σ' he'
    · exact rmS_no
  · split
    · rename_i t ht
      split
      · rename_i hs
        exact sForW g V0 S (hB _) ht hs _
      · exact rmS_no
    · exact rmS_no
  · exact pur _
theorem sNvSs (g : GoodS c p.P.N X) (V0 : GivenX c p C X W) (S : Sound c p.P.N R0) : ∀ (n : Nat) (sts : List Stmt), PSs X sts (rmS X.K W C (nvSs p R0 X.env.scope n sts))
  | 0, _ => rmSs_no
  | n + 1, [] => pss_imp pss_nil fun D σ H ⟨G, Γ, ms, R, s, k, he, hp, hq⟩ => hq (.nx Γ) ms G H hp (.rfl' s) k σ he
  | n + 1, st :: rest => by
    refine pss_imp (pss_cons (sNvS g V0 S 30 (sNvSs g V0 S n) (sSs V0.pu g S 30) st) (sNvSs g V0 S n rest)) fun D σ H ⟨G, Γ, ms, R, s, k, he, hp, hq⟩ => ?_
    refine ⟨G, Γ, ms, _, s, k, he, hp, fun o ms1 G1 H1 h1 w1 k1 => ?_⟩
    cases o with
    | nx Γ1 => exact fun σ1 he1 => ⟨G1, Γ1, ms1, R, w1.sub, k1, he1, h1, .step w1 hq⟩
    | rt d => exact hq (.rt d) ms1 G1 H1 h1 w1 k1
    | rz d => exact hq (.rz d) ms1 G1 H1 h1 w1 k1
end
end Ag
set_option Elab.async false
set_option linter.all false
set_option autoImplicit false
set_option maxRecDepth 100000
set_option maxHeartbeats 1000000
namespace Ag
open PySem PySem.Spec L2 TL
abbrev SpN := List D → Ms → (D → Ms → Prop) → Prop
def spN (K : PySem.W.Frag) (sp : SpN) : Sp := fun vs H Q _ => rN K sp vs H Q
def spX (K : PySem.W.Frag) (C : Addr) (sp : SpX) : Sp := fun vs H Q E => rX K C sp vs H Q E
def outR (R : OutX → Ms → Prop) : OutM → Ms → Prop
  | .nx _, ms => R (.ok .non) ms
  | .rt d, ms => R (.ok d) ms
  | .rz d, ms => R (.rz d) ms
def okR (R : D → Ms → Prop) : OutX → Ms → Prop
  | .ok d, ms => R d ms
  | .rz _, _ => False
def semN (p : ParN) (n m : Nat) (st : Stmt) (np : Nat) : SpX := fun ds ms R => match decide (ds.length = np) with
  | true => nvSs p (ev p.P n) (defScope st) m (defBody st) (entry p.P.N ds) ms (outR R)
  | false => False
def semN0 (p : ParN) (n m : Nat) (st : Stmt) (np : Nat) : SpN := fun ds ms R => semN p n m st np ds ms (okR R)
def nfOf : List (Str × SpN) → Str → Option SpN
  | [], _ => none
  | (n, g) :: r, x => match decide (n = x) with
    | true => some g
    | false => nfOf r x
def xfOf : List (Str × SpX) → Str → Option SpX
  | [], _ => none
  | (n, g) :: r, x => match decide (n = x) with
    | true => some g
    | false => xfOf r x
def stN (sts : List Stmt) (i : Nat) : Stmt := sts.getD i (.Pass ⟨0, 0, 0, 0⟩)
def forBody : Stmt → List Stmt
  | .For _ _ b _ _ => b
  | _ => []
/-- what is known of callables -/
structure LibN (dp : Nat) (c : Ctx) (ft : Str → Option (List D → Option D)) (gc : Str → Option D) (nf : Str → Option SpN) (xf : Str → Option SpX) (lf : Addr → Option (List D → Option D)) (C : Addr) : Prop extends Lib dp c ft gc where
  nf : ∀ N x sp, nf x = some sp → ∀ X, Good c N X → ∀ (e : Expr) (es : List Expr) (px pos : Pos) (ta : TA), glbK X.env.scope x = true → (e :: es).all notStar = true → PA X (e :: es) ta → PE X (.Call (.Name x px) (e :: es) [] pos) (fun σ H Q => ta σ H fun vs H1 => rN X.K sp vs H1 Q)
  lf : ∀ f g, lf f = some g → Held c.P c.w c.K c.mg c.base c.k f (spD c.K g)
  len : c.mg "len" = none
  range : c.mg "range" = none
  rz : ∀ N X, Good c N X → ∀ (e : Expr) (px pos : Pos) (ta : TA), glbK X.env.scope "InvalidText" = true → notStar e = true → PA X [e] ta →
    PMk X (.Call (.Name "InvalidText" px) [e] [] pos) (fun σ H Q => ta σ H fun vs H1 => ∃ v, vs = [v] ∧ ∀ d, H1 d = none → Q (.ref C) (some d) (upd H1 d (.xd (lnF v))))
  xf : ∀ N x sp, xf x = some sp → ∀ X W, Good c N X → Takes X W → ∀ (e : Expr) (es : List Expr) (px pos : Pos) (ta : TA), glbK X.env.scope x = true → (e :: es).all notStar = true → PA X (e :: es) ta →
    PE X (.Call (.Name x px) (e :: es) [] pos) (fun σ H Q => ta σ H fun vs H1 => rX X.K C sp vs H1 Q (WE W σ))
section
variable {dp : Nat} {c : Ctx} {ft : Str → Option (List D → Option D)} {gc : Str → Option D} {nf : Str → Option SpN} {xf : Str → Option SpX} {lf : Addr → Option (List D → Option D)} {C : Addr}
theorem LibN.given (L : LibN dp c ft gc nf xf lf C) {N : List Str} (h : N.Nodup) {X : Cx} (g : Good c N X) {W : WX} (tk : Takes X W) (mu : List Str) : GivenX c ⟨⟨dp, N, ft, gc⟩, nf, xf, lf, mu⟩ C X W :=
  { pu := L.toLib.given h, nf := L.nf N, lf := L.lf, len := L.len, tk := tk, range := L.range, rz := L.rz N X g, xf := fun x sp h => L.xf N x sp h X W g tk }
theorem semN_inv {p : ParN} {n m : Nat} {st : Stmt} {np : Nat} {ds : List D} {ms : Ms} {R : OutX → Ms → Prop} (h : semN p n m st np ds ms R) : ds.length = np ∧ nvSs p (ev p.P n) (defScope st) m (defBody st) (entry p.P.N ds) ms (outR R) := by
  unfold semN at h
  split at h
  · rename_i q
    exact ⟨of_decide_eq_true q, h⟩
  · exact h.elim
theorem goodX {CX : CXT} {N : List Str} {qual : Str} {scope : Scope} {f : Addr} {cd : Value} {A : Around} {outer : List Env} {s : Shared} {H : Hp} {E : XK} (hr : Room c.k (A.deeper (PyProof.Rows.envOfC qual scope s.heap.objs.size f cd))) (hk : scope.kind = .function) :
    GoodS c N (cxOf CX c.P c.w c.K c.mg c.base N qual scope f cd A outer s H E) :=
  { prog := rfl, w := rfl, K := rfl, mg := rfl, base := rfl, N := rfl, calm := rfl, room := hr, fn := fun _ => rfl, po := passes_of rfl, kind := hk }
/-- a def that may raise -/
theorem fn_N (L : LibN dp c ft gc nf xf lf C) {x qual : Str} {st : Stmt} {f : Addr} {fd : FuncData} {N ps : List Str} (F : Fun c.K x qual st f fd) (S : FnScope N ps (defScope st)) (mu : List Str) (n m : Nat) :
    FnOk c.P c.w c.K c.mg c.base (L2.CX c.P c.w) (c.k + 1) f fd ps (spX c.K C (semN ⟨⟨dp, N, ft, gc⟩, nf, xf, lf, mu⟩ n m st ps.length)) := by
  refine F.okX S (fun vs H Q E ⟨G, ds, ms, R, hs, k, r, hg, hq⟩ => by rw [r.length]; exact (semN_inv hg).1) fun cdv A outer s H vs Q E hr ⟨G, ds, ms, R, hs, k, r, hg, hq⟩ => ?_
  have g : GoodS c N (cxOf (L2.CX c.P c.w) c.P c.w c.K c.mg c.base N qual (defScope st) f cdv A outer s H E) := goodX hr S.kind
  have V0 := L.given S.nd g.toGood (W := fun cls d _ H => E cls d H) (takes_of rfl rfl rfl rfl) mu
  refine ⟨_, sNvSs g V0 (sound_ev V0.pu n) m (defBody st), G, entry N ds, ms, _, hs, k, entry_ok r, (semN_inv hg).2, fun o ms' G' H' h w k' => ?_⟩
  cases o with
  | nx Γ => exact fun σ he => hq (.ok .non) ms' G' H' h w k' .non .non
  | rt d => exact fun v r' => hq (.ok d) ms' G' H' h w k' v r'
  | rz d => exact fun σ v dd r' hd => hq (.rz d) ms' G' H' h w k' v dd r' hd
/-- a def that does not raise -/
theorem fn_N0 (L : LibN dp c ft gc nf xf lf C) {x qual : Str} {st : Stmt} {f : Addr} {fd : FuncData} {N ps : List Str} (F : Fun c.K x qual st f fd) (S : FnScope N ps (defScope st)) (mu : List Str) (n m : Nat) :
    FnOk c.P c.w c.K c.mg c.base CX0 (c.k + 1) f fd ps (spN c.K (semN0 ⟨⟨dp, N, ft, gc⟩, nf, xf, lf, mu⟩ n m st ps.length)) := by
  refine F.ok S (fun vs H Q E ⟨G, ds, ms, R, hs, k, r, hg, hq⟩ => by rw [r.length]; exact (semN_inv hg).1) fun cdv A outer s H vs Q E hr ⟨G, ds, ms, R, hs, k, r, hg, hq⟩ => ?_
  have g := noxGood (CX := CX0) (c := c) (N := N) (outer := outer) (H := H) (E := E) hr S.kind
  have V0 := L.given S.nd g.toGood (W := fun _ _ _ _ => False) takes0 mu
  refine ⟨_, sNvSs g V0 (sound_ev V0.pu n) m (defBody st), G, entry N ds, ms, _, hs, k, entry_ok r, (semN_inv hg).2, fun o ms' G' H' h w k' => ?_⟩
  cases o with
  | nx Γ => exact fun σ he => hq .non ms' .non G' H' h w k' .non
  | rt d => exact fun v r' => hq d ms' v G' H' h w k' r'
  | rz d => exact h.elim
theorem fn_weakN {P : Program} {w : World} {K : PySem.W.Frag} {mg : Str → Option Value} {base : Heap} {CX : CXT} {k : Nat} {f : Addr} {fd : FuncData} {ps : List Str} {sp sp' : SpN} (F : FnOk P w K mg base CX k f fd ps (spN K sp)) (h : ∀ ds ms R, sp' ds ms R → sp ds ms R) : FnOk P w K mg base CX k f fd ps (spN K sp') :=
  F.imp fun vs H Q E ⟨G, ds, ms, R, hs, k, r, hg, hq⟩ => ⟨G, ds, ms, R, hs, k, r, h _ _ _ hg, hq⟩
theorem fn_weakX {P : Program} {w : World} {K : PySem.W.Frag} {mg : Str → Option Value} {base : Heap} {CX : CXT} {k : Nat} {f : Addr} {fd : FuncData} {ps : List Str} {sp sp' : SpX} (F : FnOk P w K mg base CX k f fd ps (spX K C sp)) (h : ∀ ds ms R, sp' ds ms R → sp ds ms R) : FnOk P w K mg base CX k f fd ps (spX K C sp') :=
  F.imp fun vs H Q E ⟨G, ds, ms, R, hs, k, r, hg, hq⟩ => ⟨G, ds, ms, R, hs, k, r, h _ _ _ hg, hq⟩
theorem fn_weakD {P : Program} {w : World} {K : PySem.W.Frag} {mg : Str → Option Value} {base : Heap} {CX : CXT} {k : Nat} {f : Addr} {fd : FuncData} {ps : List Str} {g g' : List D → Option D} (F : FnOk P w K mg base CX k f fd ps (spD K g)) (h : ∀ ds d, g' ds = some d → g ds = some d) : FnOk P w K mg base CX k f fd ps (spD K g') :=
  F.imp fun vs H Q E ⟨G, ds, d, hs, r, hg, hq⟩ => ⟨G, ds, d, hs, r, h _ _ hg, hq⟩
/-- one that leaves the lists under way as they are -/
theorem fn_pure {P : Program} {w : World} {K : PySem.W.Frag} {mg : Str → Option Value} {base : Heap} {CX : CXT} {k : Nat} {f : Addr} {fd : FuncData} {ps : List Str} {sp : SpN} {g : List D → Option D} (F : FnOk P w K mg base CX k f fd ps (spN K sp)) (h : ∀ ds d R, g ds = some d → R d noMs → sp ds noMs R) : FnOk P w K mg base CX k f fd ps (spD K g) :=
  F.imp fun vs H Q E ⟨G, ds, d, hs, r, hg, hq⟩ => ⟨G, ds, noMs, fun d' ms' => d' = d ∧ ms' = noMs, hs, .none, r, h ds d _ hg ⟨rfl, rfl⟩, fun d' ms' v G' H' ⟨e1, e2⟩ w _ r' => by
    subst e1 e2
    exact hq v G' H' w.back r'⟩
theorem call_N {N : List Str} {X : Cx} (gd : Good c N X) {x : Str} {f : Addr} {fd : FuncData} {ps : List Str} {sp : SpN} {j : Nat} (F : FnOk c.P c.w c.K c.mg c.base CX0 j f fd ps (spN c.K sp)) (hj : j ≤ c.k) (hm : c.mg x = some (.ref f)) (hk : PySem.W.keepIn c.K (.ref f) = true)
    (hb : Binds c.K fd ps []) (hd : (x == ("__debug__" : Str)) = false) (e : Expr) (es : List Expr) (px pos : Pos) (ta : TA) (hg : glbK X.env.scope x = true) (hst : (e :: es).all notStar = true) (ha : PA X (e :: es) ta) :
    PE X (.Call (.Name x px) (e :: es) [] pos) (fun σ H Q => ta σ H fun vs H1 => rN X.K sp vs H1 Q) := by
  rw [List.all_cons, Bool.and_eq_true] at hst
  have F' : FnOk X.prog X.w X.K X.mg X.base CX0 c.k f fd ps (spN X.K sp) := by rw [gd.prog, gd.w, gd.K, gd.mg, gd.base]; exact F.mono hj
  refine pe_imp (pe_call (E := E0) F' gd.room (glb_of hg) (by rw [gd.mg]; exact hm) (by rw [gd.K]; exact hk) (by rw [gd.K]; exact hb) .nil pass0 ha hd (starEach_ok hst.1 _ _) (back_ok hst.2)) fun σ H Q h => ?_
  show ta σ H fun vs H1 => spN X.K sp (vs ++ []) H1 Q E0
  have e : (fun (vs : List V) (H1 : Hp) => spN X.K sp (vs ++ []) H1 Q E0) = fun vs H1 => rN X.K sp vs H1 Q := by
    funext vs H1
    rw [List.append_nil]
    rfl
  rw [e]
  exact h
theorem call_X {N : List Str} {X : Cx} (gd : Good c N X) {W : WX} (tk : Takes X W) {x : Str} {f : Addr} {fd : FuncData} {ps : List Str} {sp : SpX} {j : Nat} (F : FnOk c.P c.w c.K c.mg c.base (L2.CX c.P c.w) j f fd ps (spX c.K C sp)) (hj : j ≤ c.k) (hm : c.mg x = some (.ref f)) (hk : PySem.W.keepIn c.K (.ref f) = true)
    (hb : Binds c.K fd ps []) (hd : (x == ("__debug__" : Str)) = false) (e : Expr) (es : List Expr) (px pos : Pos) (ta : TA) (hg : glbK X.env.scope x = true) (hst : (e :: es).all notStar = true) (ha : PA X (e :: es) ta) :
    PE X (.Call (.Name x px) (e :: es) [] pos) (fun σ H Q => ta σ H fun vs H1 => rX X.K C sp vs H1 Q (WE W σ)) := by
  rw [List.all_cons, Bool.and_eq_true] at hst
  have F' : FnOk X.prog X.w X.K X.mg X.base (L2.CX X.prog X.w) c.k f fd ps (spX X.K C sp) := by rw [gd.prog, gd.w, gd.K, gd.mg, gd.base]; exact F.mono hj
  exact pe_callS F' gd.room (glb_of hg) (by rw [gd.mg]; exact hm) (by rw [gd.K]; exact hk) (by rw [gd.K]; exact hb) (fun σ => passAt tk σ) ha hd (starEach_ok hst.1 _ _) (back_ok hst.2)
end
end Ag
set_option Elab.async false
set_option linter.all false
set_option autoImplicit false
set_option maxRecDepth 100000
set_option maxHeartbeats 2000000
namespace Ag
open PySem PySem.Spec L2 TL
/-- a pot stands at x -/
def potD (p q : Int) : List D := [.int p, .int q]
def PotOk (p q : Int) : Prop := 0 ≤ q ∧ q < 2147483424
def potFn (pre : List D → Prop) (post : List D → D → Prop) : SpN
  | .obj x :: ds, ms, R => ∃ p q, ms x = some (potD p q) ∧ PotOk p q ∧ pre ds ∧ ∀ d p' q', post ds d → PotOk p' q' → R d (putM ms x (some (potD p' q')))
  | _, _, _ => False
theorem potFn_inv {pre : List D → Prop} {post : List D → D → Prop} {ds : List D} {ms : Ms} {R : D → Ms → Prop} (h : potFn pre post ds ms R) : ∃ x es p q, ds = .obj x :: es ∧ ms x = some (potD p q) ∧ PotOk p q ∧ pre es ∧ ∀ d p' q', post es d → PotOk p' q' → R d (putM ms x (some (potD p' q'))) := by
  unfold potFn at h
  split at h
  · obtain ⟨p, q, h1, h2, h3, h4⟩ := h
    exact ⟨_, _, p, q, rfl, h1, h2, h3, h4⟩
  · exact h.elim
/-! ### texts -/
def OkL (l : List Nat) : Prop := ∀ c ∈ l, c < 0x110000
def TxtN (n : Nat) (d : D) : Prop := ∃ l, d = .str (mkS l) ∧ l.length ≤ n ∧ OkL l
theorem TxtN.le {n m : Nat} {d : D} (h : TxtN n d) (hl : n ≤ m) : TxtN m d := let ⟨l, h1, h2, h3⟩ := h; ⟨l, h1, Nat.le_trans h2 hl, h3⟩
theorem mkS_app (a b : List Nat) : mkS a ++ mkS b = mkS (a ++ b) := by
  apply ext_tl
  show (Array.toList (a.toArray ++ b.toArray)) = a ++ b
  simp
theorem TxtN.add {n m : Nat} {x y : D} (h : TxtN n x) (k : TxtN m y) (hl : n + m ≤ sL) : ∃ z, binD .Add x y = some z ∧ TxtN (n + m) z := by
  obtain ⟨a, rfl, h1, h2⟩ := h
  obtain ⟨b, rfl, k1, k2⟩ := k
  refine ⟨.str (mkS (a ++ b)), ?_, a ++ b, rfl, by rw [List.length_append]; omega, fun c hc => (List.mem_append.mp hc).elim (h2 c) (k2 c)⟩
  show (if (mkS a).length + (mkS b).length ≤ sL then some (D.str (mkS a ++ mkS b)) else none) = _
  rw [len_mkS, len_mkS, if_pos (by omega), mkS_app]
theorem TxtN.addM {n m : Nat} {x y : D} (h : TxtN n x) (k : TxtN m y) (hl : n + m ≤ sL) : ∃ z, binM .Add x y = some z ∧ TxtN (n + m) z := by
  obtain ⟨z, h1, h2⟩ := h.add k hl
  obtain ⟨a, rfl, _, _⟩ := h
  obtain ⟨b, rfl, _, _⟩ := k
  exact ⟨z, h1, h2⟩
theorem TxtN.lit (s : Str) (n : Nat) (h : (decide (s.length ≤ n) && PyData.strOk s) = true) : TxtN n (.str s) := by
  rw [Bool.and_eq_true] at h
  refine ⟨tl s, by rw [mkS_tl], ?_, fun c hc => strOk_iff.mp h.2 c hc⟩
  exact Nat.le_trans (Nat.le_of_eq (len_tl s).symm) (of_decide_eq_true h.1)
theorem gStr_small {i : Int} (h0 : 0 ≤ i) (h1 : i ≤ 9) : ∃ z, gStr [.int i] = some z ∧ TxtN 1 z := by
  have : ∃ c : Nat, c < 58 ∧ gStr [.int i] = some (.str (mkS [c])) := by
    have h : i = 0 ∨ i = 1 ∨ i = 2 ∨ i = 3 ∨ i = 4 ∨ i = 5 ∨ i = 6 ∨ i = 7 ∨ i = 8 ∨ i = 9 := by omega
    rcases h with rfl | rfl | rfl | rfl | rfl | rfl | rfl | rfl | rfl | rfl
    · exact ⟨48, by decide, by kernel_rfl⟩
    · exact ⟨49, by decide, by kernel_rfl⟩
    · exact ⟨50, by decide, by kernel_rfl⟩
    · exact ⟨51, by decide, by kernel_rfl⟩
    · exact ⟨52, by decide, by kernel_rfl⟩
    · exact ⟨53, by decide, by kernel_rfl⟩
    · exact ⟨54, by decide, by kernel_rfl⟩
    · exact ⟨55, by decide, by kernel_rfl⟩
    · exact ⟨56, by decide, by kernel_rfl⟩
    · exact ⟨57, by decide, by kernel_rfl⟩
  obtain ⟨c, hc, e⟩ := this
  refine ⟨_, e, [c], rfl, Nat.le_refl _, fun d hd => ?_⟩
  rw [List.mem_singleton] at hd
  omega
theorem joinL_len {sp : List Nat} {n : Nat} : ∀ {ls : List (List Nat)}, (∀ l ∈ ls, l.length ≤ n) → (TL.joinL sp ls).length ≤ ls.length * (n + sp.length)
  | [], _ => Nat.zero_le _
  | [p], h => by
    have := h p List.mem_cons_self
    show p.length ≤ 1 * (n + sp.length)
    omega
  | p :: q :: r, h => by
    have h1 := h p List.mem_cons_self
    have h2 := joinL_len (sp := sp) (ls := q :: r) fun l hl => h l (List.mem_cons_of_mem _ hl)
    show (p ++ (sp ++ TL.joinL sp (q :: r))).length ≤ ((q :: r).length + 1) * (n + sp.length)
    rw [List.length_append, List.length_append, Nat.add_mul]
    omega
theorem joinL_ok {sp : List Nat} (hs : OkL sp) : ∀ {ls : List (List Nat)}, (∀ l ∈ ls, OkL l) → OkL (TL.joinL sp ls)
  | [], _ => fun c hc => by cases hc
  | [p], h => h p List.mem_cons_self
  | p :: q :: r, h => by
    have h2 := joinL_ok hs (ls := q :: r) fun l hl => h l (List.mem_cons_of_mem _ hl)
    intro c hc
    have hc : c ∈ p ++ (sp ++ TL.joinL sp (q :: r)) := hc
    rcases List.mem_append.mp hc with hc | hc
    · exact h p List.mem_cons_self c hc
    · rcases List.mem_append.mp hc with hc | hc
      · exact hs c hc
      · exact h2 c hc
theorem txts_inv {n : Nat} : ∀ {ds : List D}, (∀ d ∈ ds, TxtN n d) → ∃ ls : List (List Nat), ds = ls.map (fun l => D.str (mkS l)) ∧ (∀ l ∈ ls, l.length ≤ n) ∧ ∀ l ∈ ls, OkL l
  | [], _ => ⟨[], rfl, by simp, by simp⟩
  | d :: r, h => by
    obtain ⟨l, rfl, h1, h2⟩ := h d List.mem_cons_self
    obtain ⟨ls, rfl, h3, h4⟩ := txts_inv fun d hd => h d (List.mem_cons_of_mem _ hd)
    refine ⟨l :: ls, rfl, fun x hx => ?_, fun x hx => ?_⟩
    · rcases List.mem_cons.mp hx with rfl | hx
      · exact h1
      · exact h3 x hx
    · rcases List.mem_cons.mp hx with rfl | hx
      · exact h2
      · exact h4 x hx
theorem allStr_mk : ∀ ls : List (List Nat), D.allStr (ls.map fun l => D.str (mkS l)) = some (ls.map mkS)
  | [] => rfl
  | l :: r => by
    show (D.allStr (r.map fun l => D.str (mkS l))).map (mkS l :: ·) = _
    rw [allStr_mk r]
    rfl
theorem sum_le {n : Nat} : ∀ {ls : List (List Nat)}, (∀ l ∈ ls, l.length ≤ n) → ((ls.map mkS).map (·.length)).sum ≤ ls.length * n
  | [], _ => Nat.zero_le _
  | l :: r, h => by
    have h1 := h l List.mem_cons_self
    have h2 := sum_le fun x hx => h x (List.mem_cons_of_mem _ hx)
    rw [List.map_cons, List.map_cons, List.sum_cons, List.length_cons, Nat.add_mul, len_mkS]
    omega
theorem okB_mk {l : List Nat} (h1 : l.length ≤ sL) (h2 : OkL l) : okB (mkS l) = true := by
  unfold okB
  rw [Bool.and_eq_true]
  exact ⟨decide_eq_true (by rw [len_mkS]; exact h1), strOk_iff.mpr h2⟩
theorem join_txt {sp : List Nat} {n k : Nat} {ds : List D} (hs : OkL sp) (h : ∀ d ∈ ds, TxtN n d) (hk : ds.length ≤ k) (hl : k * (n + sp.length) ≤ sL) : ∃ z, joinD (.str (mkS sp)) (.lst ds) = some z ∧ TxtN (k * (n + sp.length)) z := by
  obtain ⟨ls, rfl, h1, h2⟩ := txts_inv h
  rw [List.length_map] at hk
  have h3 : ls.length * (n + sp.length) ≤ k * (n + sp.length) := Nat.mul_le_mul_right _ hk
  have h4 := joinL_len (sp := sp) h1
  have h5 := joinL_ok hs h2
  have e : Txt.join (mkS sp) (ls.map mkS) = mkS (TL.joinL sp ls) := SX.join_S sp ls
  refine ⟨.str (mkS (TL.joinL sp ls)), ?_, _, rfl, Nat.le_trans h4 h3, h5⟩
  show (match D.allStr (ls.map fun l => D.str (mkS l)) with
    | some ss => if (ss.map fun (s : Str) => s.length).sum + ss.length * (mkS sp).length ≤ sL ∧ okB (Txt.join (mkS sp) ss) = true then some (D.str (Txt.join (mkS sp) ss)) else none
    | none => none) = _
  rw [allStr_mk]
  show (if ((ls.map mkS).map fun (s : Str) => s.length).sum + (ls.map mkS).length * (mkS sp).length ≤ sL ∧ okB (Txt.join (mkS sp) (ls.map mkS)) = true then some (D.str (Txt.join (mkS sp) (ls.map mkS))) else none) = _
  rw [e, if_pos]
  refine ⟨?_, okB_mk (by omega) h5⟩
  have := sum_le h1
  rw [List.length_map, len_mkS]
  rw [Nat.mul_add] at h3
  omega
end Ag
set_option Elab.async false
set_option linter.all false
set_option autoImplicit false
set_option maxRecDepth 100000
set_option maxHeartbeats 2000000
namespace Ag
open PySem PySem.Spec L2 TL
def w__law_draw : SpN := potFn (fun ds => ∃ n, ds = [.int n] ∧ 0 < n ∧ n ≤ 1000000) (fun ds d => ∃ n r, ds = [.int n] ∧ d = .int r ∧ 0 ≤ r ∧ r < n)
def SmInt (d : D) : Prop := ∃ i, d = .int i ∧ 0 ≤ i ∧ i ≤ 9
def SmLet (d : D) : Prop := ∃ es, d = .tup es ∧ es.length ≤ 3 ∧ ∀ e ∈ es, SmInt e
def SmWord (d : D) : Prop := ∃ es, d = .tup es ∧ es.length ≤ 3 ∧ ∀ e ∈ es, SmLet e
def SmTerm (d : D) : Prop := ∃ a l b, d = .tup [a, l, b] ∧ SmWord a ∧ SmLet l ∧ SmWord b
def w__law_pick : SpN := potFn (fun ds => ∃ es, ds = [.lst es] ∧ 0 < es.length ∧ es.length ≤ 1000000) (fun ds d => ∃ es, ds = [.lst es] ∧ d ∈ es)
def w__law_letter : SpN := potFn (fun ds => ∃ c m, ds = [.int c, .int m] ∧ 0 ≤ c ∧ c ≤ 3 ∧ 0 ≤ m ∧ m ≤ 9) (fun _ d => SmLet d)
def w__law_word : SpN := potFn (fun ds => ∃ c k m, ds = [.int c, .int k, .int m] ∧ 0 ≤ c ∧ c ≤ 3 ∧ 0 ≤ k ∧ k ≤ 3 ∧ 0 ≤ m ∧ m ≤ 9) (fun _ d => SmWord d)
def w__law_term : SpN := potFn (fun ds => ∃ c k m, ds = [.int c, .int k, .int m] ∧ 0 ≤ c ∧ c ≤ 3 ∧ 0 ≤ k ∧ k ≤ 2 ∧ 0 ≤ m ∧ m ≤ 9) (fun _ d => SmTerm d)
def nl1 : List (Str × SpN) := [("_law_draw", w__law_draw)]
def nl2 : List (Str × SpN) := ("_law_pick", w__law_pick) :: ("_law_letter", w__law_letter) :: nl1
def nl3 : List (Str × SpN) := ("_law_word", w__law_word) :: nl2
def N__law_pick : List Str := ["_law_pot_here", "_law_some"]
def pn__law_pick : ParN := ⟨⟨1, N__law_pick, ftOf fl0, gcB⟩, nfOf nl1, xfOf [], fun _ => none, []⟩
def mN__law_pick (v_pot_here v_some : D) (ms : Ms) (R : OutM → Ms → Prop) : Prop :=
  bindW (((argC (some v_some) arg0)).bind gLen) fun d3 =>
  w__law_draw [v_pot_here, d3] ms fun d1 ms2 =>
  bindW (ixD v_some d1) fun d4 =>
  R (.rt d4) ms2
theorem mqN__law_pick (v_pot_here v_some : D) (ms : Ms) (R : OutX → Ms → Prop) : semN (pn__law_pick) 40 40 s__law_pick 2 [v_pot_here, v_some] ms R = mN__law_pick v_pot_here v_some ms (outR R) := by kernel_rfl
def N__law_letter : List Str := ["_law_pot_here", "_law_columns", "_law_most", "_law_found", "_law_column"]
def pn__law_letter : ParN := ⟨⟨1, N__law_letter, ftOf fl0, gcB⟩, nfOf nl1, xfOf [], fun _ => none, []⟩
def B__law_letter_1 : WS1 := nvSs (pn__law_letter) (ev (pn__law_letter).P 40) (defScope s__law_letter) 38 (forBody (stN (defBody s__law_letter) 1))
def C__law_letter_1 : WS1 := nvSs (pn__law_letter) (ev (pn__law_letter).P 40) (defScope s__law_letter) 38 ((defBody s__law_letter).drop 2)
def mN__law_letter (v_pot_here v_columns v_most : D) (ms : Ms) (R : OutM → Ms → Prop) : Prop :=
  bindW (tupM arg0) fun d1 =>
  bindW (bindO (some v_columns) rangeD) fun l2 =>
  forW (.inl 4) (B__law_letter_1) (frzW N__law_letter none (contM (C__law_letter_1) R)) l2 [(some v_pot_here), (some v_columns), (some v_most), (some d1), none] ms
theorem mqN__law_letter (v_pot_here v_columns v_most : D) (ms : Ms) (R : OutX → Ms → Prop) : semN (pn__law_letter) 40 40 s__law_letter 3 [v_pot_here, v_columns, v_most] ms R = mN__law_letter v_pot_here v_columns v_most ms (outR R) := by kernel_rfl
theorem qB__law_letter_1 (v_pot_here : D) (v_columns : D) (v_most : D) (v_found : D) (v_column : D) (ms : Ms) (R : OutM → Ms → Prop) : B__law_letter_1 [(some v_pot_here), (some v_columns), (some v_most), (some v_found), (some v_column)] ms R =
  (bindW (bind2 (some v_most) (intM 1) (binD .Add)) fun d5 =>
  w__law_draw [v_pot_here, d5] ms fun d3 ms4 =>
  bindW (binM .Add v_found (.tup [d3])) fun d6 =>
  R (.nx [(some v_pot_here), (some v_columns), (some v_most), (some d6), (some v_column)]) ms4) := by kernel_rfl
theorem qC__law_letter_1 (v_pot_here : D) (v_columns : D) (v_most : D) (v_found : D) (o_column : Option D) (ms : Ms) (R : OutM → Ms → Prop) : C__law_letter_1 [(some v_pot_here), (some v_columns), (some v_most), (some v_found), o_column] ms R =
  (R (.rt v_found) ms) := by kernel_rfl
def N__law_word : List Str := ["_law_pot_here", "_law_columns", "_law_letters", "_law_most", "_law_found", "_law_turn"]
def pn__law_word : ParN := ⟨⟨1, N__law_word, ftOf fl0, gcB⟩, nfOf nl2, xfOf [], fun _ => none, []⟩
def B__law_word_1 : WS1 := nvSs (pn__law_word) (ev (pn__law_word).P 40) (defScope s__law_word) 38 (forBody (stN (defBody s__law_word) 1))
def C__law_word_1 : WS1 := nvSs (pn__law_word) (ev (pn__law_word).P 40) (defScope s__law_word) 38 ((defBody s__law_word).drop 2)
def mN__law_word (v_pot_here v_columns v_letters v_most : D) (ms : Ms) (R : OutM → Ms → Prop) : Prop :=
  bindW (tupM arg0) fun d1 =>
  bindW (bindO (some v_letters) rangeD) fun l2 =>
  forW (.inl 5) (B__law_word_1) (frzW N__law_word none (contM (C__law_word_1) R)) l2 [(some v_pot_here), (some v_columns), (some v_letters), (some v_most), (some d1), none] ms
theorem mqN__law_word (v_pot_here v_columns v_letters v_most : D) (ms : Ms) (R : OutX → Ms → Prop) : semN (pn__law_word) 40 40 s__law_word 4 [v_pot_here, v_columns, v_letters, v_most] ms R = mN__law_word v_pot_here v_columns v_letters v_most ms (outR R) := by kernel_rfl
theorem qB__law_word_1 (v_pot_here : D) (v_columns : D) (v_letters : D) (v_most : D) (v_found : D) (v_turn : D) (ms : Ms) (R : OutM → Ms → Prop) : B__law_word_1 [(some v_pot_here), (some v_columns), (some v_letters), (some v_most), (some v_found), (some v_turn)] ms R =
  (w__law_letter [v_pot_here, v_columns, v_most] ms fun d3 ms4 =>
  bindW (binM .Add v_found (.tup [d3])) fun d5 =>
  R (.nx [(some v_pot_here), (some v_columns), (some v_letters), (some v_most), (some d5), (some v_turn)]) ms4) := by kernel_rfl
theorem qC__law_word_1 (v_pot_here : D) (v_columns : D) (v_letters : D) (v_most : D) (v_found : D) (o_turn : Option D) (ms : Ms) (R : OutM → Ms → Prop) : C__law_word_1 [(some v_pot_here), (some v_columns), (some v_letters), (some v_most), (some v_found), o_turn] ms R =
  (R (.rt v_found) ms) := by kernel_rfl
def N__law_term : List Str := ["_law_pot_here", "_law_columns", "_law_letters", "_law_most", "_law_left", "_law_right_here", "_law_own"]
def pn__law_term : ParN := ⟨⟨1, N__law_term, ftOf fl0, gcB⟩, nfOf nl3, xfOf [], fun _ => none, []⟩
def mN__law_term (v_pot_here v_columns v_letters v_most : D) (ms : Ms) (R : OutM → Ms → Prop) : Prop :=
  bindW (bind2 (some v_letters) (intM 1) (binD .Add)) fun d3 =>
  w__law_draw [v_pot_here, d3] ms fun d1 ms2 =>
  bindW (bind2 (some v_letters) (intM 1) (binD .Add)) fun d6 =>
  w__law_draw [v_pot_here, d6] ms2 fun d4 ms5 =>
  w__law_letter [v_pot_here, v_columns, v_most] ms5 fun d7 ms8 =>
  w__law_word [v_pot_here, v_columns, d1, v_most] ms8 fun d9 ms10 =>
  w__law_word [v_pot_here, v_columns, d4, v_most] ms10 fun d11 ms12 =>
  R (.rt (.tup [d9, d7, d11])) ms12
theorem mqN__law_term (v_pot_here v_columns v_letters v_most : D) (ms : Ms) (R : OutX → Ms → Prop) : semN (pn__law_term) 40 40 s__law_term 4 [v_pot_here, v_columns, v_letters, v_most] ms R = mN__law_term v_pot_here v_columns v_letters v_most ms (outR R) := by kernel_rfl
theorem pot_run {pre : List D → Prop} {post : List D → D → Prop} {x : Addr} {ms0 : Ms} {p q : Int} {es : List D} {R : D → Ms → Prop} (hp : PotOk p q) (hpre : pre es) (h : ∀ d p' q', post es d → PotOk p' q' → R d (putM ms0 x (some (potD p' q')))) : potFn pre post (.obj x :: es) (putM ms0 x (some (potD p q))) R :=
  ⟨p, q, putM_same, hp, hpre, fun d p' q' hd hp' => by rw [putM_put]; exact h d p' q' hd hp'⟩
theorem draw_run {x : Addr} {ms0 : Ms} {p q n : Int} {R : D → Ms → Prop} (hp : PotOk p q) (h0 : 0 < n) (h1 : n ≤ 1000000) (h : ∀ r p' q', 0 ≤ r → r < n → PotOk p' q' → R (.int r) (putM ms0 x (some (potD p' q')))) : w__law_draw [.obj x, .int n] (putM ms0 x (some (potD p q))) R :=
  pot_run hp ⟨n, rfl, h0, h1⟩ fun d p' q' ⟨n', r, e1, e2, e3, e4⟩ hp' => by
    cases e1
    subst e2
    exact h r p' q' e3 e4 hp'
theorem pick_w {ds : List D} {ms : Ms} {R : D → Ms → Prop} (h : w__law_pick ds ms R) : semN0 pn__law_pick 40 40 s__law_pick 2 ds ms R := by
  obtain ⟨x, es, p, q, rfl, h1, h2, ⟨ls, rfl, h3, h4⟩, h5⟩ := potFn_inv h
  unfold semN0
  rw [mqN__law_pick]
  have hms : ms = putM ms x (some (potD p q)) := (putM_id h1).symm
  show w__law_draw [.obj x, .int (ls.length : Nat)] ms fun d m => bindW (ixD (.lst ls) d) fun d4 => outR (okR R) (.rt d4) m
  rw [hms]
  refine draw_run h2 (by omega) (by omega) fun r p' q' e3 e4 hp => ?_
  obtain ⟨k, rfl⟩ : ∃ k : Nat, r = k := ⟨r.toNat, by omega⟩
  have hr : k < ls.length := by omega
  have e5 : ixD (.lst ls) (.int (k : Nat)) = some ls[k] := by
    show atI ls ((k : Nat) : Int) = _
    rw [atI_nat (v := ls[k]) (List.getElem?_eq_getElem hr)]
  rw [e5]
  exact h5 _ p' q' ⟨ls, rfl, List.getElem_mem hr⟩ hp
theorem letter_loop {x : Addr} {c m : Int} (hm : 0 ≤ m ∧ m ≤ 9) {R : OutM → Ms → Prop} {ms0 : Ms} (hR : ∀ d p q o, SmLet d → PotOk p q → C__law_letter_1 [some (.obj x), some (.int c), some (.int m), some d, o] (putM ms0 x (some (potD p q))) R) : ∀ (l : List D) (found : List D) (p q : Int) (o : Option D), found.length + l.length ≤ 3 → (∀ e ∈ found, SmInt e) → PotOk p q →
    forW (.inl 4) B__law_letter_1 (frzW N__law_letter none (contM C__law_letter_1 R)) l [some (.obj x), some (.int c), some (.int m), some (.tup found), o] (putM ms0 x (some (potD p q)))
  | [], found, p, q, o, hl, hf, hp => hR _ p q o ⟨found, rfl, hl, hf⟩ hp
  | d :: l, found, p, q, o, hl, hf, hp => by
    show B__law_letter_1 [some (.obj x), some (.int c), some (.int m), some (.tup found), some d] (putM ms0 x (some (potD p q))) _
    rw [qB__law_letter_1]
    show w__law_draw [.obj x, .int (m + 1)] (putM ms0 x (some (potD p q))) _
    refine draw_run hp (by omega) (by omega) fun r p' q' e3 e4 hp' => ?_
    have hl' : found.length + (l.length + 1) ≤ 3 := hl
    have e5 : binM .Add (.tup found) (.tup [.int r]) = some (.tup (found ++ [.int r])) := if_pos (by show found.length + 1 ≤ sL; unfold sL; omega)
    rw [e5]
    exact letter_loop hm hR l (found ++ [.int r]) p' q' (some d) (by rw [List.length_append]; show found.length + 1 + l.length ≤ 3; omega) (fun e he => by
      rcases List.mem_append.mp he with he | he
      · exact hf e he
      · rw [List.mem_singleton] at he
        exact ⟨r, he, e3, by omega⟩) hp'
theorem letter_w {ds : List D} {ms : Ms} {R : D → Ms → Prop} (h : w__law_letter ds ms R) : semN0 pn__law_letter 40 40 s__law_letter 3 ds ms R := by
  obtain ⟨x, es, p, q, rfl, h1, h2, ⟨c, m, rfl, h3, h4, h5, h6⟩, h7⟩ := potFn_inv h
  unfold semN0
  rw [mqN__law_letter]
  have e : rangeD (.int c) = some ((List.range c.toNat).map fun k => D.int (k : Nat)) := if_pos ⟨h3, by omega⟩
  show bindW (rangeD (.int c)) fun l2 => forW (.inl 4) B__law_letter_1 (frzW N__law_letter none (contM C__law_letter_1 (outR (okR R)))) l2 [some (.obj x), some (.int c), some (.int m), some (.tup []), none] ms
  rw [e]
  have hms : ms = putM ms x (some (potD p q)) := (putM_id h1).symm
  show forW _ _ _ _ _ ms
  rw [hms]
  refine letter_loop ⟨h5, h6⟩ (fun d p q o hd hp => ?_) _ [] p q none (by rw [List.length_map, List.length_range]; show 0 + c.toNat ≤ 3; omega) (fun e he => by cases he) h2
  rw [qC__law_letter_1]
  exact h7 d p q hd hp
theorem word_loop {x : Addr} {c k m : Int} (hc : 0 ≤ c ∧ c ≤ 3) (hm : 0 ≤ m ∧ m ≤ 9) {R : OutM → Ms → Prop} {ms0 : Ms} (hR : ∀ d p q o, SmWord d → PotOk p q → C__law_word_1 [some (.obj x), some (.int c), some (.int k), some (.int m), some d, o] (putM ms0 x (some (potD p q))) R) : ∀ (l : List D) (found : List D) (p q : Int) (o : Option D), found.length + l.length ≤ 3 → (∀ e ∈ found, SmLet e) → PotOk p q →
    forW (.inl 5) B__law_word_1 (frzW N__law_word none (contM C__law_word_1 R)) l [some (.obj x), some (.int c), some (.int k), some (.int m), some (.tup found), o] (putM ms0 x (some (potD p q)))
  | [], found, p, q, o, hl, hf, hp => hR _ p q o ⟨found, rfl, hl, hf⟩ hp
  | d :: l, found, p, q, o, hl, hf, hp => by
    show B__law_word_1 [some (.obj x), some (.int c), some (.int k), some (.int m), some (.tup found), some d] (putM ms0 x (some (potD p q))) _
    rw [qB__law_word_1]
    refine pot_run hp ⟨c, m, rfl, hc.1, hc.2, hm.1, hm.2⟩ fun r p' q' hr hp' => ?_
    have hl' : found.length + (l.length + 1) ≤ 3 := hl
    have e5 : binM .Add (.tup found) (.tup [r]) = some (.tup (found ++ [r])) := if_pos (by show found.length + 1 ≤ sL; unfold sL; omega)
    rw [e5]
    exact word_loop hc hm hR l (found ++ [r]) p' q' (some d) (by rw [List.length_append]; show found.length + 1 + l.length ≤ 3; omega) (fun e he => by
      rcases List.mem_append.mp he with he | he
      · exact hf e he
      · rw [List.mem_singleton] at he
        rw [he]
        exact hr) hp'
theorem word_w {ds : List D} {ms : Ms} {R : D → Ms → Prop} (h : w__law_word ds ms R) : semN0 pn__law_word 40 40 s__law_word 4 ds ms R := by
  obtain ⟨x, es, p, q, rfl, h1, h2, ⟨c, k, m, rfl, h3, h4, h5, h6, h8, h9⟩, h7⟩ := potFn_inv h
  unfold semN0
  rw [mqN__law_word]
  have e : rangeD (.int k) = some ((List.range k.toNat).map fun k => D.int (k : Nat)) := if_pos ⟨h5, by omega⟩
  show bindW (rangeD (.int k)) fun l2 => forW (.inl 5) B__law_word_1 (frzW N__law_word none (contM C__law_word_1 (outR (okR R)))) l2 [some (.obj x), some (.int c), some (.int k), some (.int m), some (.tup []), none] ms
  rw [e]
  have hms : ms = putM ms x (some (potD p q)) := (putM_id h1).symm
  show forW _ _ _ _ _ ms
  rw [hms]
  refine word_loop ⟨h3, h4⟩ ⟨h8, h9⟩ (fun d p q o hd hp => ?_) _ [] p q none (by rw [List.length_map, List.length_range]; show 0 + k.toNat ≤ 3; omega) (fun e he => by cases he) h2
  rw [qC__law_word_1]
  exact h7 d p q hd hp
theorem term_w {ds : List D} {ms : Ms} {R : D → Ms → Prop} (h : w__law_term ds ms R) : semN0 pn__law_term 40 40 s__law_term 4 ds ms R := by
  obtain ⟨x, es, p, q, rfl, h1, h2, ⟨c, k, m, rfl, h3, h4, h5, h6, h8, h9⟩, h7⟩ := potFn_inv h
  unfold semN0
  rw [mqN__law_term]
  have hms : ms = putM ms x (some (potD p q)) := (putM_id h1).symm
  unfold mN__law_term
  show w__law_draw [.obj x, .int (k + 1)] ms _
  rw [hms]
  refine draw_run h2 (by omega) (by omega) fun r1 p1 q1 a1 b1 hp1 => ?_
  refine draw_run hp1 (by omega) (by omega) fun r2 p2 q2 a2 b2 hp2 => ?_
  refine pot_run hp2 ⟨c, m, rfl, h3, h4, h8, h9⟩ fun d3 p3 q3 hd3 hp3 => ?_
  refine pot_run hp3 ⟨c, r1, m, rfl, h3, h4, a1, by omega, h8, h9⟩ fun d4 p4 q4 hd4 hp4 => ?_
  refine pot_run hp4 ⟨c, r2, m, rfl, h3, h4, a2, by omega, h8, h9⟩ fun d5 p5 q5 hd5 hp5 => ?_
  exact h7 _ p5 q5 ⟨d4, d3, d5, rfl, hd4, hd3, hd5⟩ hp5
end Ag
set_option Elab.async false
set_option linter.all false
set_option autoImplicit false
set_option maxRecDepth 100000
set_option maxHeartbeats 2000000
namespace Ag
open PySem PySem.Spec L2 TL
def RowTx (d : D) : Prop := ∃ es, d = .lst es ∧ es.length ≤ 3 ∧ ∀ e ∈ es, TxtN 4 e
def w__law_word_words : SpN := fun ds ms R => ∃ d, ds = [d] ∧ SmWord d ∧ ∀ z, TxtN 24 z → R z ms
def w__law_term_words : SpN := fun ds ms R => ∃ d, ds = [d] ∧ SmTerm d ∧ ∀ z, TxtN 62 z → R z ms
def w__law_told : SpN := potFn (fun ds => ds = []) (fun _ d => TxtN 4 d)
def w__law_told_row : SpN := potFn (fun ds => ∃ c, ds = [.int c] ∧ 0 ≤ c ∧ c ≤ 3) (fun _ d => RowTx d)
def w__law_told_step : SpN := potFn (fun ds => ∃ c a, ds = [.int c, .int a] ∧ 0 ≤ c ∧ c ≤ 3 ∧ 0 ≤ a ∧ a ≤ 9) (fun _ d => TxtN 12 d)
def N__law_letter_words : List Str := ["_law_letter_here", "_law_power"]
def m__law_letter_words (v_letter_here : D) : Option D :=
  bindO (bind2 (bind2 (strM "(") (bind2 (strM ",") (lcM (fun v_power => (((argC (some v_power) arg0)).bind gStr)) (inM (some v_letter_here))) joinD) (binD .Add)) (strM ")") (binD .Add)) some
theorem mq__law_letter_words (v_letter_here : D) : semK ⟨1, N__law_letter_words, ftOf fl0, gcB⟩ 40 40 s__law_letter_words 1 [v_letter_here] = m__law_letter_words v_letter_here := by kernel_rfl
def g__law_letter_words : List D → Option D
  | [d] => m__law_letter_words d
  | _ => none
def flW : FtL := ("_law_letter_words", g__law_letter_words) :: fl0
def nl4 : List (Str × SpN) := ("_law_word_words", w__law_word_words) :: ("_law_term", w__law_term) :: nl3
def nl5 : List (Str × SpN) := ("_law_term_words", w__law_term_words) :: ("_law_told", w__law_told) :: nl4
def nl6 : List (Str × SpN) := ("_law_told_row", w__law_told_row) :: ("_law_told_step", w__law_told_step) :: nl5
def N__law_word_words : List Str := ["_law_word_here", "_law_letter_here"]
def pn__law_word_words : ParN := ⟨⟨1, N__law_word_words, ftOf flW, gcB⟩, nfOf nl3, xfOf [], fun _ => none, []⟩
def mN__law_word_words (v_word_here : D) (ms : Ms) (R : OutM → Ms → Prop) : Prop :=
  bindW (bindO (some v_word_here) neE) fun b1 => ifB b1
  (bindW (bind2 (strM "") (lcM (fun v_letter_here => (((argC (some v_letter_here) arg0)).bind g__law_letter_words)) (inM (some v_word_here))) joinD) fun d2 =>
  R (.rt d2) ms)
  (R (.rt (D.str "-")) ms)
theorem mqN__law_word_words (v_word_here : D) (ms : Ms) (R : OutX → Ms → Prop) : semN (pn__law_word_words) 40 40 s__law_word_words 1 [v_word_here] ms R = mN__law_word_words v_word_here ms (outR R) := by kernel_rfl
def N__law_term_words : List Str := ["_law_term_here", "_law_left", "_law_own", "_law_right_here"]
def pn__law_term_words : ParN := ⟨⟨1, N__law_term_words, ftOf flW, gcB⟩, nfOf nl4, xfOf [], fun _ => none, []⟩
def mN__law_term_words (v_term_here : D) (ms : Ms) (R : OutM → Ms → Prop) : Prop :=
  bindW (tgSet (.inr [1, 2, 3]) v_term_here [(some v_term_here), none, none, none]) fun Γ1 =>
  bindW (Γ1.getD 1 none) fun d4 =>
  w__law_word_words [d4] ms fun d2 ms3 =>
  bindW (binM .Add d2 (D.str " < ")) fun d5 =>
  bindW (((argC (Γ1.getD 2 none) arg0)).bind g__law_letter_words) fun d6 =>
  bindW (binM .Add d5 d6) fun d7 =>
  bindW (binM .Add d7 (D.str " > ")) fun d8 =>
  bindW (Γ1.getD 3 none) fun d11 =>
  w__law_word_words [d11] ms3 fun d9 ms10 =>
  bindW (binM .Add d8 d9) fun d12 =>
  R (.rt d12) ms10
theorem mqN__law_term_words (v_term_here : D) (ms : Ms) (R : OutX → Ms → Prop) : semN (pn__law_term_words) 40 40 s__law_term_words 1 [v_term_here] ms R = mN__law_term_words v_term_here ms (outR R) := by kernel_rfl
def N__law_told : List Str := ["_law_pot_here"]
def pn__law_told : ParN := ⟨⟨1, N__law_told, ftOf flW, gcB⟩, nfOf nl4, xfOf [], fun _ => none, []⟩
def mN__law_told (v_pot_here : D) (ms : Ms) (R : OutM → Ms → Prop) : Prop :=
  bindW (lstM (argC (strM "0") (argC (strM "1") (argC (strM "-1") (argC (strM "2") (argC (strM "1/2") (argC (strM "-3/2") (argC (strM "6/4") (argC (strM "0/5") (argC (strM "17") arg0)))))))))) fun d3 =>
  w__law_pick [v_pot_here, d3] ms fun d1 ms2 =>
  R (.rt d1) ms2
theorem mqN__law_told (v_pot_here : D) (ms : Ms) (R : OutX → Ms → Prop) : semN (pn__law_told) 40 40 s__law_told 1 [v_pot_here] ms R = mN__law_told v_pot_here ms (outR R) := by kernel_rfl
def N__law_told_row : List Str := ["_law_pot_here", "_law_columns", "_law_found", "_law_column"]
def pn__law_told_row : ParN := ⟨⟨1, N__law_told_row, ftOf flW, gcB⟩, nfOf nl5, xfOf [], fun _ => none, ["_law_found"]⟩
def B__law_told_row_1 : WS1 := nvSs (pn__law_told_row) (ev (pn__law_told_row).P 40) (defScope s__law_told_row) 38 (forBody (stN (defBody s__law_told_row) 1))
def C__law_told_row_1 : WS1 := nvSs (pn__law_told_row) (ev (pn__law_told_row).P 40) (defScope s__law_told_row) 38 ((defBody s__law_told_row).drop 2)
def mN__law_told_row (v_pot_here v_columns : D) (ms : Ms) (R : OutM → Ms → Prop) : Prop :=
  ∀ a1, ms a1 = none → (bindW (bindO (some v_columns) rangeD) fun l2 =>
  forW (.inl 3) (B__law_told_row_1) (frzW N__law_told_row (some "_law_found") (contM (C__law_told_row_1) R)) l2 [(some v_pot_here), (some v_columns), (some (.obj a1)), none] (putM ms a1 (some [])))
theorem mqN__law_told_row (v_pot_here v_columns : D) (ms : Ms) (R : OutX → Ms → Prop) : semN (pn__law_told_row) 40 40 s__law_told_row 2 [v_pot_here, v_columns] ms R = mN__law_told_row v_pot_here v_columns ms (outR R) := by kernel_rfl
theorem qB__law_told_row_1 (v_pot_here : D) (v_columns : D) (a_found : Addr) (v_column : D) (ms : Ms) (R : OutM → Ms → Prop) : B__law_told_row_1 [(some v_pot_here), (some v_columns), (some (.obj a_found)), (some v_column)] ms R =
  (bindW (ms a_found) fun _ =>
  w__law_told [v_pot_here] ms fun d4 ms5 =>
  bindW (ms5 a_found) fun l3 => l3.length < 100000 ∧
  (R (.nx [(some v_pot_here), (some v_columns), (some (.obj a_found)), (some v_column)]) (putM ms5 a_found (some (l3 ++ [d4]))))) := by kernel_rfl
theorem qC__law_told_row_1 (v_pot_here : D) (v_columns : D) (v_found : D) (o_column : Option D) (ms : Ms) (R : OutM → Ms → Prop) : C__law_told_row_1 [(some v_pot_here), (some v_columns), (some v_found), o_column] ms R =
  (R (.rt v_found) ms) := by kernel_rfl
def N__law_told_step : List Str := ["_law_pot_here", "_law_columns", "_law_at", "_law_word_here", "_law_one", "_law_other"]
def pn__law_told_step : ParN := ⟨⟨1, N__law_told_step, ftOf flW, gcB⟩, nfOf nl5, xfOf [], fun _ => none, []⟩
def mN__law_told_step (v_pot_here v_columns v_at : D) (ms : Ms) (R : OutM → Ms → Prop) : Prop :=
  bindW (lstM (argC (strM "told") (argC (strM "column") (argC (strM "sum") (argC (strM "less") (argC (strM "times") (argC (strM "ahead") (argC (strM "behind") arg0)))))))) fun d3 =>
  w__law_pick [v_pot_here, d3] ms fun d1 ms2 =>
  bindW (orO (cmpM 1 .Eq (some d1) (strM "told")) (orO (andO (cmpM 1 .Eq (some v_at) (intM 0)) (cmpM 1 .Eq (some v_columns) (intM 0))) (andO (cmpM 1 .Eq (some d1) (strM "column")) (cmpM 1 .Eq (some v_columns) (intM 0))))) fun b4 =>
  ifB b4
  (w__law_told [v_pot_here] ms2 fun d5 ms6 =>
  bindW (binM .Add (D.str "told ") d5) fun d7 =>
  R (.rt d7) ms6)
  (bindW (orO (cmpM 1 .Eq (some d1) (strM "column")) (cmpM 1 .Eq (some v_at) (intM 0))) fun b8 =>
  ifB b8
  (w__law_draw [v_pot_here, v_columns] ms2 fun d9 ms10 =>
  bindW (gStr [d9]) fun d11 =>
  bindW (binM .Add (D.str "column ") d11) fun d12 =>
  R (.rt d12) ms10)
  (w__law_draw [v_pot_here, v_at] ms2 fun d13 ms14 =>
  bindW (gStr [d13]) fun d15 =>
  w__law_draw [v_pot_here, v_at] ms14 fun d16 ms17 =>
  bindW (gStr [d16]) fun d18 =>
  bindW (bind2 (bind2 (bind2 (some d1) (strM " ") (binD .Add)) (some d15) (binD .Add)) (iteO (cmpM 1 .In (some d1) (tupM (argC (strM "ahead") (argC (strM "behind") arg0)))) (strM "") (bind2 (strM " ") (some d18) (binD .Add))) (binD .Add)) fun d19 =>
  R (.rt d19) ms17))
theorem mqN__law_told_step (v_pot_here v_columns v_at : D) (ms : Ms) (R : OutX → Ms → Prop) : semN (pn__law_told_step) 40 40 s__law_told_step 3 [v_pot_here, v_columns, v_at] ms R = mN__law_told_step v_pot_here v_columns v_at ms (outR R) := by kernel_rfl
theorem lit_tx (s : Str) (n : Nat) (h : (decide (s.length ≤ n) && PyData.strOk s) = true := by decide +kernel) : TxtN n (.str s) := .lit s n h
theorem add_tx {n m : Nat} {x y : D} (h : TxtN n x) (k : TxtN m y) (hl : n + m ≤ sL) {K : D → Prop} (hk : ∀ z, TxtN (n + m) z → K z) : bindW (binM .Add x y) K := by
  obtain ⟨z, e, hz⟩ := h.addM k hl
  rw [e]
  exact hk z hz
theorem sL_big {n : Nat} (h : n ≤ 100000) : n ≤ sL := by unfold sL; omega
/-- a comprehension whose elements are told -/
theorem lcM_ex {h : D → Option D} {P : D → Prop} {ds : List D} (hf : ∀ d ∈ ds, ∃ z, h d = some z ∧ P z) : ∃ zs : List D, lcM h (some ds) = some (.lst zs) ∧ zs.length = ds.length ∧ ∀ z ∈ zs, P z := by
  refine ⟨ds.map fun d => (h d).getD .non, lcM_s fun d hd => ?_, List.length_map _, fun z hz => ?_⟩
  · obtain ⟨z, e, _⟩ := hf d hd
    rw [e]
    rfl
  · obtain ⟨d, hd, rfl⟩ := List.mem_map.mp hz
    obtain ⟨z, e, hz⟩ := hf d hd
    rw [e]
    exact hz
theorem letter_tx {d : D} (h : SmLet d) : ∃ z, g__law_letter_words [d] = some z ∧ TxtN 8 z := by
  obtain ⟨es, rfl, h1, h2⟩ := h
  show ∃ z, m__law_letter_words (.tup es) = some z ∧ TxtN 8 z
  unfold m__law_letter_words
  obtain ⟨zs, e, hl, hz⟩ := lcM_ex (h := fun v => ((argC (some v) arg0)).bind gStr) (P := TxtN 1) (ds := es) fun d hd => by
    obtain ⟨i, rfl, h3, h4⟩ := h2 d hd
    exact gStr_small h3 h4
  have e0 : inM (some (D.tup es)) = some es := rfl
  rw [e0, e]
  have ec : ("," : Str) = mkS [44] := by decide +kernel
  obtain ⟨z, e2, hz2⟩ := join_txt (sp := [44]) (n := 1) (k := 3) (ds := zs) (by intro c hc; rw [List.mem_singleton] at hc; omega) hz (by omega) (sL_big (by decide))
  have e3 : bind2 (strM ",") (some (D.lst zs)) joinD = some z := by rw [ec]; exact e2
  rw [e3]
  obtain ⟨y, e4, hy⟩ := (lit_tx "(" 1).add hz2 (sL_big (by decide))
  have e5 : bind2 (strM "(") (some z) (binD .Add) = some y := e4
  rw [e5]
  obtain ⟨x, e6, hx⟩ := hy.add (lit_tx ")" 1) (sL_big (by decide))
  rw [bindO_r]
  exact ⟨x, e6, hx⟩
theorem let_sm {d : D} (h : SmLet d) : isLet d = true := by
  obtain ⟨es, rfl, _, h2⟩ := h
  exact List.all_eq_true.mpr fun e he => by
    obtain ⟨i, rfl, _⟩ := h2 e he
    rfl
theorem word_words_w {ds : List D} {ms : Ms} {R : D → Ms → Prop} (h : w__law_word_words ds ms R) : semN0 pn__law_word_words 40 40 s__law_word_words 1 ds ms R := by
  obtain ⟨d, rfl, ⟨es, rfl, h1, h2⟩, h3⟩ := h
  unfold semN0
  rw [mqN__law_word_words]
  unfold mN__law_word_words
  have e1 : bindO (some (D.tup es)) neE = some (!es.isEmpty) := if_pos ⟨areKeys_of fun x hx => (let_key (let_sm (h2 x hx))).1, Nat.le_trans (deeps_of fun x hx => (let_key (let_sm (h2 x hx))).2.2) (by decide)⟩
  rw [e1]
  cases es with
  | nil => exact h3 _ (lit_tx "-" 24)
  | cons a r =>
    obtain ⟨zs, e, hl, hz⟩ := lcM_ex (h := fun v => ((argC (some v) arg0)).bind g__law_letter_words) (P := TxtN 8) (ds := a :: r) fun d hd => letter_tx (h2 d hd)
    have e0 : inM (some (D.tup (a :: r))) = some (a :: r) := rfl
    show bindW (bind2 (strM "") (lcM _ (inM (some (D.tup (a :: r))))) joinD) _
    rw [e0, e]
    have ec : ("" : Str) = mkS [] := by decide +kernel
    obtain ⟨z, e2, hz2⟩ := join_txt (sp := []) (n := 8) (k := 3) (ds := zs) (by intro c hc; cases hc) hz (by omega) (sL_big (by decide))
    have e3 : bind2 (strM "") (some (D.lst zs)) joinD = some z := by rw [ec]; exact e2
    rw [e3]
    exact h3 z hz2
theorem term_words_w {ds : List D} {ms : Ms} {R : D → Ms → Prop} (h : w__law_term_words ds ms R) : semN0 pn__law_term_words 40 40 s__law_term_words 1 ds ms R := by
  obtain ⟨d, rfl, ⟨a, l, b, rfl, h1, h2, h4⟩, h3⟩ := h
  unfold semN0
  rw [mqN__law_term_words]
  unfold mN__law_term_words
  refine ⟨a, rfl, h1, fun z1 hz1 => ?_⟩
  refine add_tx hz1 (lit_tx " < " 3) (sL_big (by decide)) fun z2 hz2 => ?_
  obtain ⟨z3, e3, hz3⟩ := letter_tx h2
  have e4 : (argC ([some (.tup [a, l, b]), some a, some l, some b].getD 2 none) arg0).bind g__law_letter_words = some z3 := e3
  show bindW ((argC ([some (D.tup [a, l, b]), some a, some l, some b].getD 2 none) arg0).bind g__law_letter_words) _
  rw [e4]
  refine add_tx hz2 hz3 (sL_big (by decide)) fun z5 hz5 => ?_
  refine add_tx hz5 (lit_tx " > " 3) (sL_big (by decide)) fun z6 hz6 => ?_
  refine ⟨b, rfl, h4, fun z7 hz7 => ?_⟩
  refine add_tx hz6 hz7 (sL_big (by decide)) fun z8 hz8 => ?_
  exact h3 _ (hz8.le (by decide))
theorem pot_go {pre : List D → Prop} {post : List D → D → Prop} {ds : List D} {ms : Ms} {R : D → Ms → Prop} (h : potFn pre post ds ms R) : ∃ x es p q, ds = .obj x :: es ∧ PotOk p q ∧ pre es ∧ ms = putM ms x (some (potD p q)) ∧ ∀ d p' q', post es d → PotOk p' q' → R d (putM ms x (some (potD p' q'))) := by
  obtain ⟨x, es, p, q, rfl, h1, h2, h3, h4⟩ := potFn_inv h
  exact ⟨x, es, p, q, rfl, h2, h3, (putM_id h1).symm, h4⟩
theorem told_run {x : Addr} {ms0 : Ms} {p q : Int} {R : D → Ms → Prop} (hp : PotOk p q) (h : ∀ d p' q', TxtN 4 d → PotOk p' q' → R d (putM ms0 x (some (potD p' q')))) : w__law_told [.obj x] (putM ms0 x (some (potD p q))) R :=
  pot_run (pre := fun ds => ds = []) (post := fun _ d => TxtN 4 d) hp rfl h
theorem told_w {ds : List D} {ms : Ms} {R : D → Ms → Prop} (h : w__law_told ds ms R) : semN0 pn__law_told 40 40 s__law_told 1 ds ms R := by
  obtain ⟨x, es, p, q, rfl, hp, rfl, hms, h4⟩ := pot_go h
  unfold semN0
  rw [mqN__law_told]
  unfold mN__law_told
  show w__law_pick [.obj x, .lst [.str "0", .str "1", .str "-1", .str "2", .str "1/2", .str "-3/2", .str "6/4", .str "0/5", .str "17"]] ms _
  rw [hms]
  refine pot_run hp ⟨_, rfl, by decide, by decide⟩ fun d p' q' ⟨es, e, hd⟩ hp' => ?_
  cases e
  refine h4 _ p' q' ?_ hp'
  simp only [List.mem_cons, List.not_mem_nil, or_false] at hd
  rcases hd with rfl | rfl | rfl | rfl | rfl | rfl | rfl | rfl | rfl <;> exact lit_tx _ 4
theorem told_row_loop {x a : Addr} (hax : a ≠ x) {c : Int} {R : OutM → Ms → Prop} {ms0 : Ms} (hR : ∀ d p q o, RowTx d → PotOk p q → C__law_told_row_1 [some (.obj x), some (.int c), some d, o] (putM (putM ms0 a none) x (some (potD p q))) R) : ∀ (l : List D) (found : List D) (p q : Int) (o : Option D), found.length + l.length ≤ 3 → (∀ e ∈ found, TxtN 4 e) → PotOk p q →
    forW (.inl 3) B__law_told_row_1 (frzW N__law_told_row (some "_law_found") (contM C__law_told_row_1 R)) l [some (.obj x), some (.int c), some (.obj a), o] (putM (putM ms0 a (some found)) x (some (potD p q)))
  | [], found, p, q, o, hl, hf, hp => by
    have e1 : putM (putM ms0 a (some found)) x (some (potD p q)) a = some found := by rw [putM_ne hax, putM_same]
    show bindW (putM (putM ms0 a (some found)) x (some (potD p q)) a) fun ds => C__law_told_row_1 [some (.obj x), some (.int c), some (.lst ds), o] (putM (putM (putM ms0 a (some found)) x (some (potD p q))) a none) R
    rw [e1, putM_comm (Ne.symm hax), putM_put]
    exact hR _ p q o ⟨found, rfl, hl, hf⟩ hp
  | d :: l, found, p, q, o, hl, hf, hp => by
    show B__law_told_row_1 [some (.obj x), some (.int c), some (.obj a), some d] (putM (putM ms0 a (some found)) x (some (potD p q))) _
    rw [qB__law_told_row_1]
    have e1 : ∀ p q, putM (putM ms0 a (some found)) x (some (potD p q)) a = some found := fun p q => by rw [putM_ne hax, putM_same]
    rw [e1]
    show w__law_told [.obj x] (putM (putM ms0 a (some found)) x (some (potD p q))) _
    refine told_run hp fun r p' q' hr hp' => ?_
    rw [e1]
    have hl' : found.length + (l.length + 1) ≤ 3 := hl
    refine ⟨by omega, ?_⟩
    rw [putM_comm (Ne.symm hax), putM_put]
    exact told_row_loop hax hR l (found ++ [r]) p' q' (some d) (by rw [List.length_append]; show found.length + 1 + l.length ≤ 3; omega) (fun e he => by
      rcases List.mem_append.mp he with he | he
      · exact hf e he
      · rw [List.mem_singleton] at he
        rw [he]
        exact hr) hp'
theorem told_row_w {ds : List D} {ms : Ms} {R : D → Ms → Prop} (h : w__law_told_row ds ms R) : semN0 pn__law_told_row 40 40 s__law_told_row 2 ds ms R := by
  obtain ⟨x, es, p, q, rfl, hp, ⟨c, rfl, h3, h4⟩, hms, h7⟩ := pot_go h
  unfold semN0
  rw [mqN__law_told_row]
  unfold mN__law_told_row
  intro a ha
  have e : rangeD (.int c) = some ((List.range c.toNat).map fun k => D.int (k : Nat)) := if_pos ⟨h3, by omega⟩
  show bindW (rangeD (.int c)) _
  rw [e]
  have hax : a ≠ x := fun z => by
    rw [hms, z, putM_same] at ha
    cases ha
  show forW _ _ _ _ _ (putM ms a (some []))
  have e2 : putM ms a (some []) = putM (putM ms a (some [])) x (some (potD p q)) := by
    rw [← putM_comm (Ne.symm hax), ← hms]
  rw [e2]
  refine told_row_loop hax (fun d p q o hd hp => ?_) _ [] p q none (by rw [List.length_map, List.length_range]; show 0 + c.toNat ≤ 3; omega) (fun e he => by cases he) hp
  rw [qC__law_told_row_1, putM_id ha]
  exact h7 d p q hd hp
theorem str_tx {i : Int} (h0 : 0 ≤ i) (h1 : i ≤ 9) {K : D → Prop} (hk : ∀ z, TxtN 1 z → K z) : bindW (gStr [.int i]) K := by
  obtain ⟨z, e, hz⟩ := gStr_small h0 h1
  rw [e]
  exact hk z hz
theorem told_step_w {ds : List D} {ms : Ms} {R : D → Ms → Prop} (h : w__law_told_step ds ms R) : semN0 pn__law_told_step 40 40 s__law_told_step 3 ds ms R := by
  obtain ⟨x, es, p, q, rfl, hp, ⟨c, a, rfl, h1, h2, h3, h4⟩, hms, h7⟩ := pot_go h
  unfold semN0
  rw [mqN__law_told_step]
  unfold mN__law_told_step
  show w__law_pick [.obj x, .lst [.str "told", .str "column", .str "sum", .str "less", .str "times", .str "ahead", .str "behind"]] ms _
  rw [hms]
  refine pot_run hp ⟨_, rfl, by decide, by decide⟩ fun d p1 q1 ⟨es, e, hd⟩ hp1 => ?_
  cases e
  have hw : ∃ w : Str, d = .str w ∧ TxtN 6 (.str w) := by
    simp only [List.mem_cons, List.not_mem_nil, or_false] at hd
    rcases hd with rfl | rfl | rfl | rfl | rfl | rfl | rfl <;> exact ⟨_, rfl, lit_tx _ 6⟩
  obtain ⟨w, rfl, tw⟩ := hw
  clear hd
  have e1 : (orO (cmpM 1 .Eq (some (.str w)) (strM "told")) (orO (andO (cmpM 1 .Eq (some (.int a)) (intM 0)) (cmpM 1 .Eq (some (.int c)) (intM 0))) (andO (cmpM 1 .Eq (some (.str w)) (strM "column")) (cmpM 1 .Eq (some (.int c)) (intM 0))))) = some (decide (w = "told") || ((decide (a = 0) && decide (c = 0)) || (decide (w = "column") && decide (c = 0)))) := by
    show orO (some (decide (w = "told"))) (orO (andO (some (decide (a = 0))) (some (decide (c = 0)))) (andO (some (decide (w = "column"))) (some (decide (c = 0))))) = _
    rw [andO_s, andO_s, orO_s, orO_s]
  have e2 : (orO (cmpM 1 .Eq (some (.str w)) (strM "column")) (cmpM 1 .Eq (some (.int a)) (intM 0))) = some (decide (w = "column") || decide (a = 0)) := by
    show orO (some (decide (w = "column"))) (some (decide (a = 0))) = _
    rw [orO_s]
  show bindW (orO (cmpM 1 .Eq (some (.str w)) (strM "told")) _) _
  rw [e1]
  show ifB _ _ _
  cases hb : (decide (w = "told") || ((decide (a = 0) && decide (c = 0)) || (decide (w = "column") && decide (c = 0)))) with
  | true =>
    show w__law_told [.obj x] (putM ms x (some (potD p1 q1))) _
    refine told_run hp1 fun d5 p2 q2 hd5 hp2 => ?_
    refine add_tx (lit_tx "told " 5) hd5 (sL_big (by decide)) fun z hz => ?_
    exact h7 z p2 q2 (hz.le (by decide)) hp2
  | false =>
    simp only [Bool.or_eq_false_iff, Bool.and_eq_false_iff, decide_eq_false_iff_not] at hb
    obtain ⟨_, hb1, hb2⟩ := hb
    show bindW (orO (cmpM 1 .Eq (some (.str w)) (strM "column")) (cmpM 1 .Eq (some (.int a)) (intM 0))) _
    rw [e2]
    show ifB _ _ _
    cases hc : (decide (w = "column") || decide (a = 0)) with
    | true =>
      simp only [Bool.or_eq_true, decide_eq_true_eq] at hc
      have hc0 : c ≠ 0 := by
        rcases hc with hc | hc
        · rcases hb2 with h | h
          · exact absurd hc h
          · exact h
        · rcases hb1 with h | h
          · exact absurd hc h
          · exact h
      show w__law_draw [.obj x, .int c] (putM ms x (some (potD p1 q1))) _
      refine draw_run hp1 (by omega) (by omega) fun r p2 q2 a2 b2 hp2 => ?_
      refine str_tx a2 (by omega) fun z hz => ?_
      refine add_tx (lit_tx "column " 7) hz (sL_big (by decide)) fun y hy => ?_
      exact h7 y p2 q2 (hy.le (by decide)) hp2
    | false =>
      simp only [Bool.or_eq_false_iff, decide_eq_false_iff_not] at hc
      show w__law_draw [.obj x, .int a] (putM ms x (some (potD p1 q1))) _
      refine draw_run hp1 (by omega) (by omega) fun r p2 q2 a2 b2 hp2 => ?_
      refine str_tx a2 (by omega) fun z hz => ?_
      refine draw_run hp2 (by omega) (by omega) fun r3 p3 q3 a3 b3 hp3 => ?_
      refine str_tx a3 (by omega) fun y hy => ?_
      obtain ⟨v1, f1, t1⟩ := tw.add (lit_tx " " 1) (sL_big (by decide))
      obtain ⟨v2, f2, t2⟩ := t1.add hz (sL_big (by decide))
      obtain ⟨v3, f3, t3⟩ := (lit_tx " " 1).add hy (sL_big (by decide))
      have f4 : bind2 (bind2 (some (.str w)) (strM " ") (binD .Add)) (some z) (binD .Add) = some v2 := by
        have : bind2 (some (.str w)) (strM " ") (binD .Add) = some v1 := f1
        rw [this]
        exact f2
      have f5 : bind2 (strM " ") (some y) (binD .Add) = some v3 := f3
      show bindW (bind2 (bind2 (bind2 (some (.str w)) (strM " ") (binD .Add)) (some z) (binD .Add)) (iteO (cmpM 1 .In (some (.str w)) (tupM (argC (strM "ahead") (argC (strM "behind") arg0)))) (strM "") (bind2 (strM " ") (some y) (binD .Add))) (binD .Add)) _
      rw [f4, f5]
      have f6 : ∃ v, iteO (cmpM 1 .In (some (.str w)) (tupM (argC (strM "ahead") (argC (strM "behind") arg0)))) (strM "") (some v3) = some v ∧ TxtN 2 v := by
        have f7 : ∃ b, cmpM 1 .In (some (.str w)) (tupM (argC (strM "ahead") (argC (strM "behind") arg0))) = some b := ⟨_, rfl⟩
        obtain ⟨b, f7⟩ := f7
        rw [f7]
        cases b with
        | true => exact ⟨_, rfl, lit_tx "" 2⟩
        | false => exact ⟨v3, rfl, t3⟩
      obtain ⟨v, f8, t8⟩ := f6
      rw [f8]
      obtain ⟨v9, f9, t9⟩ := t2.add t8 (sL_big (by decide))
      have f10 : bind2 (some v2) (some v) (binD .Add) = some v9 := f9
      rw [f10]
      exact h7 v9 p3 q3 (t9.le (by decide)) hp3
end Ag
set_option Elab.async false
set_option linter.all false
set_option autoImplicit false
set_option maxRecDepth 100000
set_option maxHeartbeats 2000000
namespace Ag
open PySem PySem.Spec L2 TL
def w__law_told_line : SpN := potFn (fun ds => ∃ (w : Str) (c a : Int), ds = [.str w, .int c, .int a] ∧ 0 ≤ c ∧ c ≤ 3 ∧ 0 ≤ a ∧ a ≤ 9) (fun _ d => TxtN 67 d)
def sixK : List Str := ["table", "program", "tally", "form", "runs", "word"]
def w__law_text : SpN := potFn (fun ds => ∃ w : Str, ds = [.str w] ∧ w ∈ sixK) (fun _ d => TxtN 300 d)
def w__law_bent : SpN := potFn (fun ds => ∃ d, ds = [d] ∧ TxtN 300 d) (fun _ d => TxtN 1300 d)
def nl7 : List (Str × SpN) := ("_law_told_line", w__law_told_line) :: nl6
def nl8 : List (Str × SpN) := ("_law_text", w__law_text) :: ("_law_bent", w__law_bent) :: nl7
def N__law_told_line : List Str := ["_law_pot_here", "_law_kind", "_law_columns", "_law_at", "_law_letters"]
def pn__law_told_line : ParN := ⟨⟨1, N__law_told_line, ftOf flW, gcB⟩, nfOf nl6, xfOf [], fun _ => none, []⟩
def mN__law_told_line (v_pot_here v_kind v_columns v_at : D) (ms : Ms) (R : OutM → Ms → Prop) : Prop :=
  bindW (cmpM 1 .Eq (some v_kind) (strM "table")) fun b1 =>
  ifB b1
  (bindW (lstM (argC (strM "row") arg0)) fun d2 =>
  w__law_told_row [v_pot_here, v_columns] ms fun d3 ms4 =>
  bindW (binM .Add d2 d3) fun d5 =>
  bindW (joinD (.str " ") d5) fun d6 =>
  R (.rt d6) ms4)
  (bindW (cmpM 1 .Eq (some v_kind) (strM "program")) fun b7 =>
  ifB b7
  (w__law_told_step [v_pot_here, v_columns, v_at] ms fun d8 ms9 =>
  R (.rt d8) ms9)
  (bindW (cmpM 1 .Eq (some v_kind) (strM "tally")) fun b10 =>
  ifB b10
  (w__law_draw [v_pot_here, (D.int 4)] ms fun d11 ms12 =>
  w__law_told [v_pot_here] ms12 fun d13 ms14 =>
  bindW (binM .Add d13 (D.str " ")) fun d15 =>
  w__law_word [v_pot_here, v_columns, d11, (D.int 9)] ms14 fun d18 ms19 =>
  w__law_word_words [d18] ms19 fun d16 ms17 =>
  bindW (binM .Add d15 d16) fun d20 =>
  R (.rt d20) ms17)
  (bindW (cmpM 1 .Eq (some v_kind) (strM "form")) fun b21 =>
  ifB b21
  (w__law_told [v_pot_here] ms fun d22 ms23 =>
  bindW (binM .Add d22 (D.str " ")) fun d24 =>
  w__law_term [v_pot_here, v_columns, (D.int 2), (D.int 8)] ms23 fun d27 ms28 =>
  w__law_term_words [d27] ms28 fun d25 ms26 =>
  bindW (binM .Add d24 d25) fun d29 =>
  R (.rt d29) ms26)
  (bindW (lstM (argC (strM "0") (argC (strM "1") (argC (strM "12") (argC (bind2 (strM "1") (bind2 (strM "0") (intM 30) (binD .Mult)) (binD .Add)) arg0))))) fun d32 =>
  w__law_pick [v_pot_here, d32] ms fun d30 ms31 =>
  w__law_told_row [v_pot_here, v_columns] ms31 fun d33 ms34 =>
  bindW (binM .Add (.lst [d30, (D.str "times")]) d33) fun d35 =>
  bindW (joinD (.str " ") d35) fun d36 =>
  R (.rt d36) ms34))))
theorem mqN__law_told_line (v_pot_here v_kind v_columns v_at : D) (ms : Ms) (R : OutX → Ms → Prop) : semN (pn__law_told_line) 40 40 s__law_told_line 4 [v_pot_here, v_kind, v_columns, v_at] ms R = mN__law_told_line v_pot_here v_kind v_columns v_at ms (outR R) := by kernel_rfl
def N__law_text : List Str := ["_law_pot_here", "_law_kind", "_law_columns", "_law_letters", "_law_lines", "_law_at"]
def pn__law_text : ParN := ⟨⟨1, N__law_text, ftOf flW, gcB⟩, nfOf nl7, xfOf [], fun _ => none, ["_law_lines"]⟩
def B__law_text_3 : WS1 := nvSs (pn__law_text) (ev (pn__law_text).P 40) (defScope s__law_text) 36 (forBody (stN (defBody s__law_text) 3))
def C__law_text_3 : WS1 := nvSs (pn__law_text) (ev (pn__law_text).P 40) (defScope s__law_text) 36 ((defBody s__law_text).drop 4)
def mN__law_text (v_pot_here v_kind : D) (ms : Ms) (R : OutM → Ms → Prop) : Prop :=
  w__law_draw [v_pot_here, (D.int 4)] ms fun d1 ms2 =>
  bindW (cmpM 1 .Eq (some v_kind) (strM "word")) fun b3 =>
  ifB b3
  (w__law_draw [v_pot_here, (D.int 4)] ms2 fun d4 ms5 =>
  w__law_word [v_pot_here, (D.int 1), d4, (D.int 8)] ms5 fun d8 ms9 =>
  w__law_word_words [d8] ms9 fun d6 ms7 =>
  R (.rt d6) ms7)
  (bindW (bind2 (bind2 (some v_kind) (strM " ") (binD .Add)) (((argC (some d1) arg0)).bind gStr) (binD .Add)) fun d11 =>
  ∀ a10, ms2 a10 = none → (w__law_draw [v_pot_here, (D.int 4)] (putM ms2 a10 (some [d11])) fun d12 ms13 =>
  bindW (rangeD d12) fun l14 =>
  forW (.inl 5) (B__law_text_3) (frzW N__law_text (some "_law_lines") (contM (C__law_text_3) R)) l14 [(some v_pot_here), (some v_kind), (some d1), none, (some (.obj a10)), none] ms13))
theorem mqN__law_text (v_pot_here v_kind : D) (ms : Ms) (R : OutX → Ms → Prop) : semN (pn__law_text) 40 40 s__law_text 2 [v_pot_here, v_kind] ms R = mN__law_text v_pot_here v_kind ms (outR R) := by kernel_rfl
theorem qB__law_text_3 (v_pot_here : D) (v_kind : D) (v_columns : D) (a_lines : Addr) (v_at : D) (o_letters : Option D) (ms : Ms) (R : OutM → Ms → Prop) : B__law_text_3 [(some v_pot_here), (some v_kind), (some v_columns), o_letters, (some (.obj a_lines)), (some v_at)] ms R =
  (bindW (ms a_lines) fun _ =>
  w__law_told_line [v_pot_here, v_kind, v_columns, v_at] ms fun d16 ms17 =>
  bindW (ms17 a_lines) fun l15 => l15.length < 100000 ∧
  (R (.nx [(some v_pot_here), (some v_kind), (some v_columns), o_letters, (some (.obj a_lines)), (some v_at)]) (putM ms17 a_lines (some (l15 ++ [d16]))))) := by kernel_rfl
theorem qC__law_text_3 (v_pot_here : D) (v_kind : D) (v_columns : D) (v_lines : D) (o_letters o_at : Option D) (ms : Ms) (R : OutM → Ms → Prop) : C__law_text_3 [(some v_pot_here), (some v_kind), (some v_columns), o_letters, (some v_lines), o_at] ms R =
  (bindW (bind2 (strM "\n") (some v_lines) joinD) fun d18 =>
  R (.rt d18) ms) := by kernel_rfl
def N__law_bent : List Str := ["_law_pot_here", "_law_text_here", "_law_turn", "_law_at", "_law_way", "_law_one", "_law_lines", "_law_place"]
def pn__law_bent : ParN := ⟨⟨1, N__law_bent, ftOf flW, gcB⟩, nfOf nl7, xfOf [], fun _ => none, []⟩
def B__law_bent_0 : WS1 := nvSs (pn__law_bent) (ev (pn__law_bent).P 40) (defScope s__law_bent) 39 (forBody (stN (defBody s__law_bent) 0))
def C__law_bent_0 : WS1 := nvSs (pn__law_bent) (ev (pn__law_bent).P 40) (defScope s__law_bent) 39 ((defBody s__law_bent).drop 1)
def mN__law_bent (v_pot_here v_text_here : D) (ms : Ms) (R : OutM → Ms → Prop) : Prop :=
  w__law_draw [v_pot_here, (D.int 3)] ms fun d1 ms2 =>
  bindW (rangeD d1) fun l3 =>
  forW (.inl 2) (B__law_bent_0) (frzW N__law_bent none (contM (C__law_bent_0) R)) l3 [(some v_pot_here), (some v_text_here), none, none, none, none, none, none] ms2
theorem mqN__law_bent (v_pot_here v_text_here : D) (ms : Ms) (R : OutX → Ms → Prop) : semN (pn__law_bent) 40 40 s__law_bent 2 [v_pot_here, v_text_here] ms R = mN__law_bent v_pot_here v_text_here ms (outR R) := by kernel_rfl
theorem qB__law_bent_0 (v_pot_here : D) (v_text_here : D) (v_turn : D) (o_at o_way o_one o_lines o_place : Option D) (ms : Ms) (R : OutM → Ms → Prop) : B__law_bent_0 [(some v_pot_here), (some v_text_here), (some v_turn), o_at, o_way, o_one, o_lines, o_place] ms R =
  (bindW (bind2 (((argC (some v_text_here) arg0)).bind gLen) (intM 1) (binD .Add)) fun d6 =>
  w__law_draw [v_pot_here, d6] ms fun d4 ms5 =>
  w__law_draw [v_pot_here, (D.int 8)] ms5 fun d7 ms8 =>
  bindW (lstM (argC (strM "0") (argC (strM "1") (argC (strM "9") (argC (strM "-") (argC (strM "/") (argC (strM " ") (argC (strM "\n") (argC (strM "(") (argC (strM ")") (argC (strM ",") (argC (strM "<") (argC (strM ">") (argC (strM "row") (argC (strM "x") (argC (strM "()") (argC (strM "(1)") (argC (strM "\n1 -") arg0)))))))))))))))))) fun d11 =>
  w__law_pick [v_pot_here, d11] ms8 fun d9 ms10 =>
  bindW (bind2 (some v_text_here) (strM "\n") splitD) fun d12 =>
  bindW (((argC (some d12) arg0)).bind gLen) fun d13 =>
  bindW (binM .Mod d4 d13) fun d14 =>
  bindW (cmpM 1 .Eq (some d7) (intM 0)) fun b15 =>
  ifB b15
  (bindW (bind2 (slM (some v_text_here) (some none) (bindO (some d4) intP)) (slM (some v_text_here) (bindO (bind2 (some d4) (intM 1) (binD .Add)) intP) (some none)) (binD .Add)) fun d16 =>
  R (.nx [(some v_pot_here), (some d16), (some v_turn), (some d4), (some d7), (some d9), (some d12), (some d14)]) ms10)
  (bindW (cmpM 1 .Eq (some d7) (intM 1)) fun b17 =>
  ifB b17
  (bindW (bind2 (bind2 (slM (some v_text_here) (some none) (bindO (some d4) intP)) (some d9) (binD .Add)) (slM (some v_text_here) (bindO (some d4) intP) (some none)) (binD .Add)) fun d18 =>
  R (.nx [(some v_pot_here), (some d18), (some v_turn), (some d4), (some d7), (some d9), (some d12), (some d14)]) ms10)
  (bindW (cmpM 1 .Eq (some d7) (intM 2)) fun b19 =>
  ifB b19
  (bindW (slM (some v_text_here) (some none) (bindO (some d4) intP)) fun d20 =>
  bindW (slM (some v_text_here) (bindO (some d4) intP) (bindO (bind2 (some d4) (intM 2) (binD .Add)) intP)) fun d21 =>
  bindW (revD d21) fun d22 =>
  bindW (binM .Add d20 d22) fun d23 =>
  bindW (slM (some v_text_here) (bindO (bind2 (some d4) (intM 2) (binD .Add)) intP) (some none)) fun d24 =>
  bindW (binM .Add d23 d24) fun d25 =>
  R (.nx [(some v_pot_here), (some d25), (some v_turn), (some d4), (some d7), (some d9), (some d12), (some d14)]) ms10)
  (bindW (cmpM 1 .Eq (some d7) (intM 3)) fun b26 =>
  ifB b26
  (bindW (slM (some v_text_here) (some none) (bindO (some d4) intP)) fun d27 =>
  R (.nx [(some v_pot_here), (some d27), (some v_turn), (some d4), (some d7), (some d9), (some d12), (some d14)]) ms10)
  (bindW (cmpM 1 .Eq (some d7) (intM 4)) fun b28 =>
  ifB b28
  (bindW (bind2 (bind2 (slM (some v_text_here) (some none) (bindO (some d4) intP)) (slM (some v_text_here) (bindO (some d4) intP) (bindO (bind2 (some d4) (intM 1) (binD .Add)) intP)) (binD .Add)) (slM (some v_text_here) (bindO (some d4) intP) (some none)) (binD .Add)) fun d29 =>
  R (.nx [(some v_pot_here), (some d29), (some v_turn), (some d4), (some d7), (some d9), (some d12), (some d14)]) ms10)
  (bindW (cmpM 1 .Eq (some d7) (intM 5)) fun b30 =>
  ifB b30
  (bindW (bind2 (strM "\n") (bind2 (slM (some d12) (some none) (bindO (some d14) intP)) (slM (some d12) (bindO (bind2 (some d14) (intM 1) (binD .Add)) intP) (some none)) (binD .Add)) joinD) fun d31 =>
  R (.nx [(some v_pot_here), (some d31), (some v_turn), (some d4), (some d7), (some d9), (some d12), (some d14)]) ms10)
  (bindW (cmpM 1 .Eq (some d7) (intM 6)) fun b32 =>
  ifB b32
  (bindW (bind2 (strM "\n") (bind2 (slM (some d12) (some none) (bindO (bind2 (some d14) (intM 1) (binD .Add)) intP)) (slM (some d12) (bindO (some d14) intP) (some none)) (binD .Add)) joinD) fun d33 =>
  R (.nx [(some v_pot_here), (some d33), (some v_turn), (some d4), (some d7), (some d9), (some d12), (some d14)]) ms10)
  (bindW (bind2 (bind2 (slM (some v_text_here) (some none) (bindO (some d4) intP)) (some d9) (binD .Add)) (slM (some v_text_here) (bindO (bind2 (some d4) (intM 1) (binD .Add)) intP) (some none)) (binD .Add)) fun d34 =>
  R (.nx [(some v_pot_here), (some d34), (some v_turn), (some d4), (some d7), (some d9), (some d12), (some d14)]) ms10)))))))) := by kernel_rfl
theorem qC__law_bent_0 (v_pot_here : D) (v_text_here : D) (o_turn o_at o_way o_one o_lines o_place : Option D) (ms : Ms) (R : OutM → Ms → Prop) : C__law_bent_0 [(some v_pot_here), (some v_text_here), o_turn, o_at, o_way, o_one, o_lines, o_place] ms R =
  (R (.rt v_text_here) ms) := by kernel_rfl
theorem ifB_t {x y : Prop} (h : x) : ifB true x y := h
theorem ifB_f {x y : Prop} (h : y) : ifB false x y := h
theorem bindW_of {α : Type} {o : Option α} {d : α} {k : α → Prop} (e : o = some d) (h : k d) : bindW o k := by
  rw [e]
  exact h
/-! ### several texts -/
def wL (ls : List (List Nat)) : Nat := sumL (ls.map fun l => l.length + 1)
def TxtsW (m : Nat) (ds : List D) : Prop := ∃ ls : List (List Nat), ds = ls.map (fun l => D.str (mkS l)) ∧ wL ls ≤ m ∧ ∀ l ∈ ls, OkL l
theorem sumL_app : ∀ a b : List Nat, sumL (a ++ b) = sumL a + sumL b
  | [], b => (Nat.zero_add _).symm
  | x :: a, b => by
    show x + sumL (a ++ b) = x + sumL a + sumL b
    rw [sumL_app a b, Nat.add_assoc]
theorem wL_app (a b : List (List Nat)) : wL (a ++ b) = wL a + wL b := by
  unfold wL
  rw [List.map_append, sumL_app]
theorem TxtsW.nil : TxtsW 0 [] := ⟨[], rfl, Nat.le_refl _, by simp⟩
theorem TxtsW.le {m n : Nat} {ds : List D} (h : TxtsW m ds) (hl : m ≤ n) : TxtsW n ds := let ⟨ls, h1, h2, h3⟩ := h; ⟨ls, h1, Nat.le_trans h2 hl, h3⟩
theorem TxtsW.app {m n : Nat} {ds es : List D} (h : TxtsW m ds) (k : TxtsW n es) : TxtsW (m + n) (ds ++ es) := by
  obtain ⟨a, rfl, h2, h3⟩ := h
  obtain ⟨b, rfl, k2, k3⟩ := k
  refine ⟨a ++ b, by rw [List.map_append], by rw [wL_app]; omega, fun l hl => (List.mem_append.mp hl).elim (h3 l) (k3 l)⟩
theorem TxtsW.one {n : Nat} {d : D} (h : TxtN n d) : TxtsW (n + 1) [d] := by
  obtain ⟨l, rfl, h1, h2⟩ := h
  refine ⟨[l], rfl, ?_, fun x hx => by rw [List.mem_singleton] at hx; rw [hx]; exact h2⟩
  show l.length + 1 + 0 ≤ n + 1
  omega
theorem TxtsW.cons {n m : Nat} {d : D} {ds : List D} (h : TxtN n d) (k : TxtsW m ds) : TxtsW (n + 1 + m) (d :: ds) := (TxtsW.one h).app k
theorem TxtsW.all {n : Nat} : ∀ {ds : List D}, (∀ d ∈ ds, TxtN n d) → TxtsW (ds.length * (n + 1)) ds
  | [], _ => by rw [List.length_nil, Nat.zero_mul]; exact .nil
  | d :: r, h => by
    have := TxtsW.cons (h d List.mem_cons_self) (TxtsW.all fun x hx => h x (List.mem_cons_of_mem _ hx))
    rw [List.length_cons, Nat.add_mul, Nat.one_mul, Nat.add_comm]
    exact this
theorem joinL_w {sp : List Nat} (hs : sp.length ≤ 1) : ∀ ls : List (List Nat), (TL.joinL sp ls).length ≤ wL ls
  | [] => Nat.zero_le _
  | [p] => by
    show p.length ≤ p.length + 1 + 0
    omega
  | p :: q :: r => by
    have h2 := joinL_w hs (q :: r)
    show (p ++ (sp ++ TL.joinL sp (q :: r))).length ≤ p.length + 1 + wL (q :: r)
    rw [List.length_append, List.length_append]
    omega
theorem joinW {sp : List Nat} {m : Nat} {ds : List D} (hs : OkL sp) (h1 : sp.length ≤ 1) (h : TxtsW m ds) (hl : m ≤ sL) : ∃ z, joinD (.str (mkS sp)) (.lst ds) = some z ∧ TxtN m z := by
  obtain ⟨ls, rfl, h2, h3⟩ := h
  have h4 := joinL_w h1 ls
  have h5 := joinL_ok hs h3
  have e : Txt.join (mkS sp) (ls.map mkS) = mkS (TL.joinL sp ls) := SX.join_S sp ls
  refine ⟨.str (mkS (TL.joinL sp ls)), ?_, _, rfl, Nat.le_trans h4 h2, h5⟩
  show (match D.allStr (ls.map fun l => D.str (mkS l)) with
    | some ss => if (ss.map fun (s : Str) => s.length).sum + ss.length * (mkS sp).length ≤ sL ∧ okB (Txt.join (mkS sp) ss) = true then some (D.str (Txt.join (mkS sp) ss)) else none
    | none => none) = _
  rw [allStr_mk]
  show (if ((ls.map mkS).map fun (s : Str) => s.length).sum + (ls.map mkS).length * (mkS sp).length ≤ sL ∧ okB (Txt.join (mkS sp) (ls.map mkS)) = true then some (D.str (Txt.join (mkS sp) (ls.map mkS))) else none) = _
  rw [e, if_pos]
  refine ⟨?_, okB_mk (by omega) h5⟩
  have key : ∀ ls : List (List Nat), ((ls.map mkS).map fun (s : Str) => s.length).sum + ls.length ≤ wL ls := by
    intro ls
    induction ls with
    | nil => exact Nat.zero_le _
    | cons l r ih =>
      rw [List.map_cons, List.map_cons, List.sum_cons, len_mkS, List.length_cons]
      show _ ≤ l.length + 1 + wL r
      omega
  have h6 := key ls
  rw [List.length_map, len_mkS]
  have h7 : ls.length * sp.length ≤ ls.length * 1 := Nat.mul_le_mul_left _ h1
  omega
theorem ok_sp (c : Nat) (h : c < 0x110000 := by decide) : OkL [c] := by
  intro d hd
  rw [List.mem_singleton] at hd
  omega
/-- " ".join(..) -/
theorem join_bl {m : Nat} {ds : List D} (h : TxtsW m ds) (hl : m ≤ sL) {K : D → Prop} (hk : ∀ z, TxtN m z → K z) : bindW (joinD (.str " ") (.lst ds)) K := by
  obtain ⟨z, e, hz⟩ := joinW (ok_sp 32) (Nat.le_refl 1) h hl
  have ec : (" " : Str) = mkS [32] := by decide +kernel
  rw [ec, e]
  exact hk z hz
theorem sl10 : ("\n" : Str) = mkS [10] := by decide +kernel
theorem join_nl {m : Nat} {ds : List D} (h : TxtsW m ds) (hl : m ≤ sL) : ∃ z, bind2 (strM "\n") (some (.lst ds)) joinD = some z ∧ TxtN m z := by
  obtain ⟨z, e, hz⟩ := joinW (ok_sp 10) (Nat.le_refl 1) h hl
  exact ⟨z, by rw [sl10]; exact e, hz⟩
theorem word_words_run {d : D} {ms : Ms} {R : D → Ms → Prop} (h : SmWord d) (k : ∀ z, TxtN 24 z → R z ms) : w__law_word_words [d] ms R := ⟨d, rfl, h, k⟩
theorem addL {a b : List D} (h : a.length + b.length ≤ 1000) {K : D → Prop} (hk : K (.lst (a ++ b))) : bindW (binM .Add (.lst a) (.lst b)) K := by
  have e : binM .Add (.lst a) (.lst b) = some (.lst (a ++ b)) := if_pos (sL_big (by omega))
  rw [e]
  exact hk
theorem told_row_run {x : Addr} {ms0 : Ms} {p q c : Int} {R : D → Ms → Prop} (hp : PotOk p q) (h0 : 0 ≤ c) (h1 : c ≤ 3) (h : ∀ es p' q', es.length ≤ 3 → (∀ e ∈ es, TxtN 4 e) → PotOk p' q' → R (.lst es) (putM ms0 x (some (potD p' q')))) : w__law_told_row [.obj x, .int c] (putM ms0 x (some (potD p q))) R :=
  pot_run hp ⟨c, rfl, h0, h1⟩ fun d p' q' ⟨es, e, h2, h3⟩ hp' => by
    subst e
    exact h es p' q' h2 h3 hp'
theorem told_line_w {ds : List D} {ms : Ms} {R : D → Ms → Prop} (h : w__law_told_line ds ms R) : semN0 pn__law_told_line 40 40 s__law_told_line 4 ds ms R := by
  obtain ⟨x, es, p, q, rfl, hp, ⟨w, c, a, rfl, h1, h2, h3, h4⟩, hms, h7⟩ := pot_go h
  unfold semN0
  rw [mqN__law_told_line]
  unfold mN__law_told_line
  show ifB (decide (w = "table")) _ _
  rw [hms]
  cases decide (w = "table") with
  | true =>
    refine ifB_t (bindW_of (d := .lst [.str "row"]) rfl ?_)
    show w__law_told_row [.obj x, .int c] (putM ms x (some (potD p q))) _
    refine told_row_run hp h1 h2 fun es p1 q1 hl he hp1 => ?_
    refine addL (by show 1 + es.length ≤ 1000; omega) ?_
    have hw := (TxtsW.one (lit_tx "row" 3)).app (TxtsW.all he)
    refine join_bl (hw.le (n := 19) (by omega)) (sL_big (by decide)) fun z hz => ?_
    exact h7 z p1 q1 (hz.le (by decide)) hp1
  | false =>
    refine ifB_f ?_
    show ifB (decide (w = "program")) _ _
    cases decide (w = "program") with
    | true =>
      refine ifB_t ?_
      show w__law_told_step [.obj x, .int c, .int a] (putM ms x (some (potD p q))) _
      refine pot_run hp ⟨c, a, rfl, h1, h2, h3, h4⟩ fun d p1 q1 hd hp1 => ?_
      have hd : TxtN 12 d := hd
      exact h7 d p1 q1 (hd.le (by decide)) hp1
    | false =>
      refine ifB_f ?_
      show ifB (decide (w = "tally")) _ _
      cases decide (w = "tally") with
      | true =>
        refine ifB_t ?_
        show w__law_draw [.obj x, .int 4] (putM ms x (some (potD p q))) _
        refine draw_run hp (by decide) (by decide) fun r p1 q1 a1 b1 hp1 => ?_
        refine told_run hp1 fun d p2 q2 hd hp2 => ?_
        refine add_tx hd (lit_tx " " 1) (sL_big (by decide)) fun z hz => ?_
        refine pot_run hp2 ⟨c, r, 9, rfl, h1, h2, a1, by omega, by decide, by decide⟩ fun d3 p3 q3 hd3 hp3 => ?_
        refine word_words_run hd3 fun z4 hz4 => ?_
        refine add_tx hz hz4 (sL_big (by decide)) fun z5 hz5 => ?_
        exact h7 z5 p3 q3 (hz5.le (by decide)) hp3
      | false =>
        refine ifB_f ?_
        show ifB (decide (w = "form")) _ _
        cases decide (w = "form") with
        | true =>
          refine ifB_t ?_
          show w__law_told [.obj x] (putM ms x (some (potD p q))) _
          refine told_run hp fun d p2 q2 hd hp2 => ?_
          refine add_tx hd (lit_tx " " 1) (sL_big (by decide)) fun z hz => ?_
          refine pot_run hp2 ⟨c, 2, 8, rfl, h1, h2, by decide, by decide, by decide, by decide⟩ fun d3 p3 q3 hd3 hp3 => ?_
          refine ⟨d3, rfl, hd3, fun z4 hz4 => ?_⟩
          refine add_tx hz hz4 (sL_big (by decide)) fun z5 hz5 => ?_
          exact h7 z5 p3 q3 (hz5.le (by decide)) hp3
        | false =>
          have e : (lstM (argC (strM "0") (argC (strM "1") (argC (strM "12") (argC (bind2 (strM "1") (bind2 (strM "0") (intM 30) (binD .Mult)) (binD .Add)) arg0))))) = some (.lst [.str "0", .str "1", .str "12", .str (("1" : Str) ++ repS "0" 30)]) := by kernel_rfl
          refine ifB_f (bindW_of e ?_)
          show w__law_pick [.obj x, .lst [.str "0", .str "1", .str "12", .str (("1" : Str) ++ repS "0" 30)]] (putM ms x (some (potD p q))) _
          refine pot_run hp ⟨_, rfl, by decide, by decide⟩ fun d p1 q1 ⟨es, e, hd⟩ hp1 => ?_
          cases e
          have hd2 : TxtN 31 d := by
            simp only [List.mem_cons, List.not_mem_nil, or_false] at hd
            rcases hd with rfl | rfl | rfl | rfl <;> exact lit_tx _ 31
          refine told_row_run hp1 h1 h2 fun es p2 q2 hl he hp2 => ?_
          refine addL (by show 2 + es.length ≤ 1000; omega) ?_
          have hw := ((TxtsW.one hd2).app (TxtsW.one (lit_tx "times" 5))).app (TxtsW.all he)
          refine join_bl (hw.le (n := 53) (by omega)) (sL_big (by decide)) fun z hz => ?_
          exact h7 z p2 q2 (hz.le (by decide)) hp2
end Ag
set_option Elab.async false
set_option linter.all false
set_option autoImplicit false
set_option maxRecDepth 100000
set_option maxHeartbeats 2000000
namespace Ag
open PySem PySem.Spec L2 TL
def g__law_text_right : List D → Option D
  | [.str s, .str k] => if s.length ≤ 2000 ∧ k ∈ sixK then some (.bl true) else none
  | _ => none
def flX : FtL := ("_law_text_right", g__law_text_right) :: flW
def N__law_right : List Str := ["_law_pot_here", "_law_kind", "_law_text_here"]
def pn__law_right : ParN := ⟨⟨1, N__law_right, ftOf flX, gcB⟩, nfOf nl8, xfOf [], fun _ => none, []⟩
def B__law_right_0 : WS1 := nvSs (pn__law_right) (ev (pn__law_right).P 40) (defScope s__law_right) 39 (forBody (stN (defBody s__law_right) 0))
def C__law_right_0 : WS1 := nvSs (pn__law_right) (ev (pn__law_right).P 40) (defScope s__law_right) 39 ((defBody s__law_right).drop 1)
def mN__law_right (v_pot_here : D) (ms : Ms) (R : OutM → Ms → Prop) : Prop :=
  bindW (inM (lstM (argC (strM "table") (argC (strM "program") (argC (strM "tally") (argC (strM "form") (argC (strM "runs") (argC (strM "word") arg0)))))))) fun l1 =>
  forW (.inl 1) (B__law_right_0) (frzW N__law_right none (contM (C__law_right_0) R)) l1 [(some v_pot_here), none, none] ms
theorem mqN__law_right (v_pot_here : D) (ms : Ms) (R : OutX → Ms → Prop) : semN (pn__law_right) 40 40 s__law_right 1 [v_pot_here] ms R = mN__law_right v_pot_here ms (outR R) := by kernel_rfl
theorem qB__law_right_0 (v_pot_here : D) (v_kind : D) (o_text_here : Option D) (ms : Ms) (R : OutM → Ms → Prop) : B__law_right_0 [(some v_pot_here), (some v_kind), o_text_here] ms R =
  (w__law_text [v_pot_here, v_kind] ms fun d2 ms3 =>
  bindW (notO (truM (((argC (some d2) (argC (some v_kind) arg0))).bind g__law_text_right))) fun b4 =>
  ifB b4 (ifB true
  (R (.rt (D.bl false)) ms3)
  (R (.nx [(some v_pot_here), (some v_kind), (some d2)]) ms3))
  (w__law_bent [v_pot_here, d2] ms3 fun d5 ms6 =>
  bindW (g__law_text_right [d5, v_kind]) fun d7 =>
  bindW (truD d7) fun b8 =>
  ifB (!b8)
  (R (.rt (D.bl false)) ms6)
  (R (.nx [(some v_pot_here), (some v_kind), (some d2)]) ms6))) := by kernel_rfl
theorem qC__law_right_0 (v_pot_here : D) (o_kind o_text_here : Option D) (ms : Ms) (R : OutM → Ms → Prop) : C__law_right_0 [(some v_pot_here), o_kind, o_text_here] ms R =
  (R (.rt (D.bl true)) ms) := by kernel_rfl
theorem text_loop {x a : Addr} (hax : a ≠ x) {w : Str} {c : Int} (hc : 0 ≤ c ∧ c ≤ 3) {R : OutM → Ms → Prop} {ms0 : Ms} {oL : Option D} (hR : ∀ ds p q o, TxtsW (10 + 3 * 68) ds → PotOk p q → C__law_text_3 [some (.obj x), some (.str w), some (.int c), oL, some (.lst ds), o] (putM (putM ms0 a none) x (some (potD p q))) R) :
    ∀ (l : List D) (found : List D) (m : Nat) (p q : Int) (o : Option D), (∀ d ∈ l, ∃ i, d = .int i ∧ 0 ≤ i ∧ i ≤ 9) → found.length + l.length ≤ 100 → TxtsW m found → m + l.length * 68 ≤ 10 + 3 * 68 → PotOk p q →
    forW (.inl 5) B__law_text_3 (frzW N__law_text (some "_law_lines") (contM C__law_text_3 R)) l [some (.obj x), some (.str w), some (.int c), oL, some (.obj a), o] (putM (putM ms0 a (some found)) x (some (potD p q)))
  | [], found, m, p, q, o, _, hl, hf, hm, hp => by
    have e1 : putM (putM ms0 a (some found)) x (some (potD p q)) a = some found := by rw [putM_ne hax, putM_same]
    show bindW (putM (putM ms0 a (some found)) x (some (potD p q)) a) fun ds => C__law_text_3 [some (.obj x), some (.str w), some (.int c), oL, some (.lst ds), o] (putM (putM (putM ms0 a (some found)) x (some (potD p q))) a none) R
    rw [e1, putM_comm (Ne.symm hax), putM_put]
    exact hR _ p q o (hf.le (by simpa using hm)) hp
  | d :: l, found, m, p, q, o, hi, hl, hf, hm, hp => by
    show B__law_text_3 [some (.obj x), some (.str w), some (.int c), oL, some (.obj a), some d] (putM (putM ms0 a (some found)) x (some (potD p q))) _
    rw [qB__law_text_3]
    have e1 : ∀ p q, putM (putM ms0 a (some found)) x (some (potD p q)) a = some found := fun p q => by rw [putM_ne hax, putM_same]
    rw [e1]
    obtain ⟨i, rfl, i0, i1⟩ := hi d List.mem_cons_self
    show w__law_told_line [.obj x, .str w, .int c, .int i] (putM (putM ms0 a (some found)) x (some (potD p q))) _
    refine pot_run hp ⟨w, c, i, rfl, hc.1, hc.2, i0, i1⟩ fun r p' q' hr hp' => ?_
    rw [e1]
    rw [List.length_cons] at hl hm
    refine ⟨by omega, ?_⟩
    rw [putM_comm (Ne.symm hax), putM_put]
    have hr : TxtN 67 r := hr
    exact text_loop hax hc hR l (found ++ [r]) (m + 68) p' q' (some (.int i)) (fun d hd => hi d (List.mem_cons_of_mem _ hd)) (by rw [List.length_append]; show found.length + 1 + l.length ≤ 100; omega) (hf.app (.one hr)) (by omega) hp'
theorem six_tx {w : Str} (h : w ∈ sixK) : TxtN 7 (.str w) := by
  unfold sixK at h
  simp only [List.mem_cons, List.not_mem_nil, or_false] at h
  rcases h with rfl | rfl | rfl | rfl | rfl | rfl <;> exact lit_tx _ 7
theorem text_w {ds : List D} {ms : Ms} {R : D → Ms → Prop} (h : w__law_text ds ms R) : semN0 pn__law_text 40 40 s__law_text 2 ds ms R := by
  obtain ⟨x, es, p, q, rfl, hp, ⟨w, rfl, hw⟩, hms, h7⟩ := pot_go h
  unfold semN0
  rw [mqN__law_text]
  unfold mN__law_text
  rw [hms]
  refine draw_run hp (by decide) (by decide) fun c p1 q1 c0 c1 hp1 => ?_
  show ifB (decide (w = "word")) _ _
  cases decide (w = "word") with
  | true =>
    refine ifB_t ?_
    refine draw_run hp1 (by decide) (by decide) fun k p2 q2 k0 k1 hp2 => ?_
    refine pot_run hp2 ⟨1, k, 8, rfl, by decide, by decide, k0, by omega, by decide, by decide⟩ fun d p3 q3 hd hp3 => ?_
    refine word_words_run hd fun z hz => ?_
    exact h7 z p3 q3 (hz.le (by decide)) hp3
  | false =>
    refine ifB_f ?_
    obtain ⟨y1, f1, t1⟩ := (six_tx hw).add (lit_tx " " 1) (sL_big (by decide))
    obtain ⟨y2, f2, t2⟩ := gStr_small c0 (by omega : c ≤ 9)
    obtain ⟨y3, f3, t3⟩ := t1.add t2 (sL_big (by decide))
    have f4 : bind2 (bind2 (some (.str w)) (strM " ") (binD .Add)) (((argC (some (.int c)) arg0)).bind gStr) (binD .Add) = some y3 := by
      have g1 : bind2 (some (.str w)) (strM " ") (binD .Add) = some y1 := f1
      have g2 : ((argC (some (.int c)) arg0)).bind gStr = some y2 := f2
      rw [g1, g2]
      exact f3
    refine bindW_of f4 ?_
    intro a ha
    have hax : a ≠ x := fun z => by
      rw [z, putM_same] at ha
      cases ha
    rw [putM_ne hax] at ha
    rw [putM_comm (Ne.symm hax)]
    refine draw_run hp1 (by decide) (by decide) fun k p2 q2 k0 k1 hp2 => ?_
    refine bindW_of (if_pos ⟨k0, by omega⟩) ?_
    refine text_loop hax ⟨c0, by omega⟩ (fun ds p q o hd hp => ?_) _ [y3] 10 p2 q2 none (fun d hd => ?_) (by rw [List.length_map, List.length_range]; show 1 + k.toNat ≤ 100; omega) (.one t3) (by rw [List.length_map, List.length_range]; omega) hp2
    · rw [qC__law_text_3, putM_id ha]
      obtain ⟨z, e, hz⟩ := join_nl hd (sL_big (by decide))
      refine bindW_of e ?_
      exact h7 z p q (hz.le (by decide)) hp
    · obtain ⟨j, hj, rfl⟩ := List.mem_map.mp hd
      have := List.mem_range.mp hj
      exact ⟨_, rfl, by omega, by omega⟩
end Ag
set_option Elab.async false
set_option linter.all false
set_option autoImplicit false
set_option maxRecDepth 100000
set_option maxHeartbeats 2000000
namespace Ag
open PySem PySem.Spec L2 TL
def w__law_right : SpN := potFn (fun ds => ds = []) (fun _ d => d = .bl true)
theorem right_text {n : Nat} {d : D} {w : Str} (h : TxtN n d) (hn : n ≤ 2000) (hw : w ∈ sixK) : g__law_text_right [d, .str w] = some (.bl true) := by
  obtain ⟨l, rfl, h1, h2⟩ := h
  exact if_pos ⟨by rw [len_mkS]; omega, hw⟩
theorem right_loop {x : Addr} {R : OutM → Ms → Prop} {ms0 : Ms} (hR : ∀ p q o o', PotOk p q → C__law_right_0 [some (.obj x), o, o'] (putM ms0 x (some (potD p q))) R) : ∀ (l : List Str) (p q : Int) (o o' : Option D), (∀ w ∈ l, w ∈ sixK) → PotOk p q →
    forW (.inl 1) B__law_right_0 (frzW N__law_right none (contM C__law_right_0 R)) (l.map D.str) [some (.obj x), o, o'] (putM ms0 x (some (potD p q)))
  | [], p, q, o, o', _, hp => hR p q o o' hp
  | w :: l, p, q, o, o', hl, hp => by
    show B__law_right_0 [some (.obj x), some (.str w), o'] (putM ms0 x (some (potD p q))) _
    rw [qB__law_right_0]
    have hw := hl w List.mem_cons_self
    refine pot_run hp ⟨w, rfl, hw⟩ fun d p1 q1 hd hp1 => ?_
    have hd : TxtN 300 d := hd
    have e : notO (truM (((argC (some d) (argC (some (.str w)) arg0))).bind g__law_text_right)) = some false := by
      show notO (truM (g__law_text_right [d, .str w])) = _
      rw [right_text hd (by decide) hw]
      rfl
    refine bindW_of e (ifB_f ?_)
    refine pot_run hp1 ⟨d, rfl, hd⟩ fun d2 p2 q2 hd2 hp2 => ?_
    have hd2 : TxtN 1300 d2 := hd2
    refine bindW_of (right_text hd2 (by decide) hw) (bindW_of (d := true) rfl ?_)
    exact right_loop hR l p2 q2 _ _ (fun v hv => hl v (List.mem_cons_of_mem _ hv)) hp2
theorem right_w {ds : List D} {ms : Ms} {R : D → Ms → Prop} (h : w__law_right ds ms R) : semN0 pn__law_right 40 40 s__law_right 1 ds ms R := by
  obtain ⟨x, es, p, q, rfl, hp, rfl, hms, h7⟩ := pot_go h
  unfold semN0
  rw [mqN__law_right]
  unfold mN__law_right
  rw [hms]
  refine right_loop (fun p q o o' hp => ?_) sixK p q none none (fun _ h => h) hp
  rw [qC__law_right_0]
  exact h7 _ p q rfl hp
/-! ### bent -/
theorem cut_mk (l : List Nat) (lo hi : Option Int) : cutS (mkS l) lo hi = mkS ((l.drop (HT.sIx (mkS l).length 0 lo)).take (HT.sIx (mkS l).length (mkS l).length hi - HT.sIx (mkS l).length 0 lo)) := rfl
theorem ok_cut {l : List Nat} {i j : Nat} (h : OkL l) : OkL ((l.drop i).take j) := fun c hc => h c (List.mem_of_mem_drop (List.mem_of_mem_take hc))
theorem cut_tx {n : Nat} {l : List Nat} (h1 : l.length ≤ n) (h2 : OkL l) (lo hi : Option Int) : TxtN n (.str (cutS (mkS l) lo hi)) := by
  rw [cut_mk]
  refine ⟨_, rfl, ?_, ok_cut h2⟩
  rw [List.length_take, List.length_drop]
  omega
theorem cut2_tx {l : List Nat} (h2 : OkL l) (k j : Nat) : TxtN j (.str (cutS (mkS l) (some (k : Int)) (some (((k + j : Nat)) : Int)))) := by
  rw [cut_mk]
  refine ⟨_, rfl, ?_, ok_cut h2⟩
  rw [HT.sIx_nat, HT.sIx_nat, List.length_take, List.length_drop]
  omega
theorem sum_split (c : Nat) : ∀ l : List Nat, wL (splitL c l) ≤ l.length + 1
  | [] => Nat.le_refl _
  | a :: r => by
    have ih := sum_split c r
    unfold splitL
    split
    · show 0 + 1 + wL (splitL c r) ≤ r.length + 1 + 1
      omega
    · cases q : splitL c r with
      | nil =>
        show 1 + 1 + 0 ≤ r.length + 1 + 1
        omega
      | cons x xs =>
        rw [q] at ih
        have ih : x.length + 1 + wL xs ≤ r.length + 1 := ih
        show (x.length + 1) + 1 + wL xs ≤ r.length + 1 + 1
        omega
theorem split_ok {c : Nat} {l : List Nat} (h : OkL l) : ∀ x ∈ splitL c l, OkL x := fun x hx d hd => h d ((splitL_mem hx).2 d hd)
theorem txts_split {l : List Nat} (h : OkL l) : TxtsW (l.length + 1) (pcs 10 l) := ⟨splitL 10 l, rfl, sum_split 10 l, split_ok h⟩
theorem wL_take (k : Nat) : ∀ ls : List (List Nat), wL (ls.take k) ≤ wL ls := fun ls => by
  have := wL_app (ls.take k) (ls.drop k)
  rw [List.take_append_drop] at this
  omega
theorem wL_drop (k : Nat) : ∀ ls : List (List Nat), wL (ls.drop k) ≤ wL ls := fun ls => by
  have := wL_app (ls.take k) (ls.drop k)
  rw [List.take_append_drop] at this
  omega
theorem TxtsW.cut {m : Nat} {ds : List D} (h : TxtsW m ds) (lo hi : Option Int) : TxtsW m (cutL ds lo hi) := by
  obtain ⟨ls, rfl, h1, h2⟩ := h
  unfold cutL
  refine ⟨(ls.drop _).take _, by rw [List.map_take, List.map_drop], Nat.le_trans (wL_take _ _) (Nat.le_trans (wL_drop _ _) h1), fun x hx => h2 x (List.mem_of_mem_drop (List.mem_of_mem_take hx))⟩
theorem cutL_len {α : Type} (ds : List α) (lo hi : Option Int) : (cutL ds lo hi).length ≤ ds.length := by
  unfold cutL
  rw [List.length_take, List.length_drop]
  omega
theorem rev_tx {n : Nat} {d : D} (h : TxtN n d) : ∃ z, revD d = some z ∧ TxtN n z := by
  obtain ⟨l, rfl, h1, h2⟩ := h
  exact ⟨_, rfl, l.reverse, rfl, by rw [List.length_reverse]; exact h1, fun c hc => h2 c (List.mem_reverse.mp hc)⟩
theorem add_bt {n m : Nat} {a b : Option D} {x y : D} (ha : a = some x) (hb : b = some y) (h : TxtN n x) (k : TxtN m y) (hl : n + m ≤ sL) : ∃ z, bind2 a b (binD .Add) = some z ∧ TxtN (n + m) z := by
  rw [ha, hb]
  exact h.add k hl
theorem bent_one {x : Addr} {n : Nat} {d : D} (hd : TxtN n d) (hn : n ≤ 1400) {R : OutM → Ms → Prop} {ms0 : Ms} {t : D} {o1 o2 o3 o4 o5 : Option D} {p q : Int} (hp : PotOk p q)
    (hR : ∀ d' p' q' a b c e f, TxtN (2 * n + 4) d' → PotOk p' q' → R (.nx [some (.obj x), some d', some t, a, b, c, e, f]) (putM ms0 x (some (potD p' q')))) :
    B__law_bent_0 [some (.obj x), some d, some t, o1, o2, o3, o4, o5] (putM ms0 x (some (potD p q))) R := by
  obtain ⟨l, rfl, h1, h2⟩ := hd
  rw [qB__law_bent_0]
  have e1 : bind2 (((argC (some (D.str (mkS l))) arg0)).bind gLen) (intM 1) (binD .Add) = some (.int ((l.length : Nat) + 1)) := by
    have : ((argC (some (D.str (mkS l))) arg0)).bind gLen = some (.int (l.length : Nat)) := gLen_str l
    rw [this]
    rfl
  refine bindW_of e1 ?_
  refine draw_run hp (by omega) (by omega) fun r p1 q1 r0 r1 hp1 => ?_
  refine draw_run hp1 (by decide) (by decide) fun wy p2 q2 w0 w1 hp2 => ?_
  obtain ⟨k, rfl⟩ : ∃ k : Nat, r = k := ⟨r.toNat, by omega⟩
  show w__law_pick [.obj x, .lst [.str "0", .str "1", .str "9", .str "-", .str "/", .str " ", .str "\n", .str "(", .str ")", .str ",", .str "<", .str ">", .str "row", .str "x", .str "()", .str "(1)", .str "\n1 -"]] (putM ms0 x (some (potD p2 q2))) _
  refine pot_run hp2 ⟨_, rfl, by decide, by decide⟩ fun one p3 q3 ⟨es, e, hone⟩ hp3 => ?_
  cases e
  have t1 : TxtN 4 one := by
    simp only [List.mem_cons, List.not_mem_nil, or_false] at hone
    rcases hone with rfl | rfl | rfl | rfl | rfl | rfl | rfl | rfl | rfl | rfl | rfl | rfl | rfl | rfl | rfl | rfl | rfl <;> exact lit_tx _ 4
  clear hone
  have e2 : bind2 (some (.str (mkS l))) (strM "\n") splitD = some (.lst (pcs 10 l)) := split_s 10 l (by decide) _ sl10
  refine bindW_of e2 ?_
  have e3 : ((argC (some (D.lst (pcs 10 l))) arg0)).bind gLen = some (.int ((pcs 10 l).length : Nat)) := rfl
  refine bindW_of e3 ?_
  have hpos : 0 < (pcs 10 l).length := by
    rw [pcs_len]
    exact List.length_pos_iff.mpr (splitL_ne 10 l)
  have hplen : (pcs 10 l).length ≤ l.length + 1 := by
    rw [pcs_len]
    exact splitL_len 10 l
  have e4 : binM .Mod (.int (k : Nat)) (.int ((pcs 10 l).length : Nat)) = some (.int ((k : Nat) % ((pcs 10 l).length : Nat))) := if_pos (by omega)
  refine bindW_of e4 ?_
  generalize hpl : (((k : Nat) : Int) % (((pcs 10 l).length : Nat) : Int)) = pl
  have eA : bindO (some (D.int (k : Nat))) intP = some (some ((k : Nat) : Int)) := rfl
  have eB : ∀ j : Int, bindO (bind2 (some (D.int (k : Nat))) (intM j) (binD .Add)) intP = some (some (((k : Nat) : Int) + j)) := fun j => rfl
  have cut0 : ∀ lo hi, slM (some (.str (mkS l))) (some lo) (some hi) = some (.str (cutS (mkS l) lo hi)) := fun lo hi => rfl
  have cutP : ∀ lo hi, slM (some (.lst (pcs 10 l))) (some lo) (some hi) = some (.lst (cutL (pcs 10 l) lo hi)) := fun lo hi => rfl
  have tx := fun lo hi => cut_tx h1 h2 lo hi
  have big : ∀ {m : Nat}, m ≤ 100000 → m ≤ sL := fun h => sL_big h
  show ifB (decide (wy = 0)) _ _
  cases decide (wy = 0) with
  | true =>
    refine ifB_t ?_
    rw [eA, eB 1, cut0, cut0]
    obtain ⟨z, e, hz⟩ := add_bt rfl rfl (tx none (some ((k : Nat) : Int))) (tx (some (((k : Nat) : Int) + 1)) none) (big (by omega))
    exact bindW_of e (hR _ p3 q3 _ _ _ _ _ (hz.le (by omega)) hp3)
  | false =>
    refine ifB_f ?_
    show ifB (decide (wy = 1)) _ _
    cases decide (wy = 1) with
    | true =>
      refine ifB_t ?_
      rw [eA, cut0, cut0]
      obtain ⟨z, e, hz⟩ := add_bt rfl rfl (tx none (some ((k : Nat) : Int))) t1 (big (by omega))
      obtain ⟨z', e', hz'⟩ := add_bt e rfl hz (tx (some ((k : Nat) : Int)) none) (big (by omega))
      exact bindW_of e' (hR _ p3 q3 _ _ _ _ _ (hz'.le (by omega)) hp3)
    | false =>
      refine ifB_f ?_
      show ifB (decide (wy = 2)) _ _
      cases decide (wy = 2) with
      | true =>
        refine ifB_t ?_
        rw [eA, eB 2, cut0, cut0, cut0]
        refine bindW_of rfl (bindW_of rfl ?_)
        have t2 : TxtN 2 (.str (cutS (mkS l) (some ((k : Nat) : Int)) (some (((k : Nat) : Int) + 2)))) := cut2_tx h2 k 2
        obtain ⟨y, ey, hy⟩ := rev_tx t2
        refine bindW_of ey ?_
        refine add_tx (tx none (some ((k : Nat) : Int))) hy (big (by omega)) fun z hz => ?_
        refine bindW_of rfl ?_
        refine add_tx hz (tx (some (((k : Nat) : Int) + 2)) none) (big (by omega)) fun z' hz' => ?_
        exact hR _ p3 q3 _ _ _ _ _ (hz'.le (by omega)) hp3
      | false =>
        refine ifB_f ?_
        show ifB (decide (wy = 3)) _ _
        cases decide (wy = 3) with
        | true =>
          refine ifB_t ?_
          rw [eA, cut0]
          exact bindW_of rfl (hR _ p3 q3 _ _ _ _ _ ((tx none (some ((k : Nat) : Int))).le (by omega)) hp3)
        | false =>
          refine ifB_f ?_
          show ifB (decide (wy = 4)) _ _
          cases decide (wy = 4) with
          | true =>
            refine ifB_t ?_
            rw [eA, eB 1, cut0, cut0, cut0]
            have t2 : TxtN 1 (.str (cutS (mkS l) (some ((k : Nat) : Int)) (some (((k : Nat) : Int) + 1)))) := cut2_tx h2 k 1
            obtain ⟨z, e, hz⟩ := add_bt rfl rfl (tx none (some ((k : Nat) : Int))) t2 (big (by omega))
            obtain ⟨z', e', hz'⟩ := add_bt e rfl hz (tx (some ((k : Nat) : Int)) none) (big (by omega))
            exact bindW_of e' (hR _ p3 q3 _ _ _ _ _ (hz'.le (by omega)) hp3)
          | false =>
            refine ifB_f ?_
            have joins : ∀ lo hi lo' hi', ∃ z, bind2 (strM "\n") (bind2 (some (.lst (cutL (pcs 10 l) lo hi))) (some (.lst (cutL (pcs 10 l) lo' hi'))) (binD .Add)) joinD = some z ∧ TxtN (2 * n + 4) z := fun lo hi lo' hi' => by
              have l1 := cutL_len (pcs 10 l) lo hi
              have l2 := cutL_len (pcs 10 l) lo' hi'
              have ea : bind2 (some (D.lst (cutL (pcs 10 l) lo hi))) (some (.lst (cutL (pcs 10 l) lo' hi'))) (binD .Add) = some (.lst (cutL (pcs 10 l) lo hi ++ cutL (pcs 10 l) lo' hi')) := if_pos (big (by omega))
              rw [ea]
              have hw := ((txts_split h2).cut lo hi).app ((txts_split h2).cut lo' hi')
              obtain ⟨z, e, hz⟩ := join_nl hw (big (by omega))
              exact ⟨z, e, hz.le (by omega)⟩
            have eC : bindO (some (D.int pl)) intP = some (some pl) := rfl
            have eD : bindO (bind2 (some (D.int pl)) (intM 1) (binD .Add)) intP = some (some (pl + 1)) := rfl
            show ifB (decide (wy = 5)) _ _
            cases decide (wy = 5) with
            | true =>
              refine ifB_t ?_
              rw [eC, eD, cutP, cutP]
              obtain ⟨z, e, hz⟩ := joins none (some pl) (some (pl + 1)) none
              exact bindW_of e (hR _ p3 q3 _ _ _ _ _ hz hp3)
            | false =>
              refine ifB_f ?_
              show ifB (decide (wy = 6)) _ _
              cases decide (wy = 6) with
              | true =>
                refine ifB_t ?_
                rw [eC, eD, cutP, cutP]
                obtain ⟨z, e, hz⟩ := joins none (some (pl + 1)) (some pl) none
                exact bindW_of e (hR _ p3 q3 _ _ _ _ _ hz hp3)
              | false =>
                refine ifB_f ?_
                rw [eA, eB 1, cut0, cut0]
                obtain ⟨z, e, hz⟩ := add_bt rfl rfl (tx none (some ((k : Nat) : Int))) t1 (big (by omega))
                obtain ⟨z', e', hz'⟩ := add_bt e rfl hz (tx (some (((k : Nat) : Int) + 1)) none) (big (by omega))
                exact bindW_of e' (hR _ p3 q3 _ _ _ _ _ (hz'.le (by omega)) hp3)
theorem bent_loop {x : Addr} {R : OutM → Ms → Prop} {ms0 : Ms} (hR : ∀ d p q a b c e f g, TxtN 1300 d → PotOk p q → C__law_bent_0 [some (.obj x), some d, a, b, c, e, f, g] (putM ms0 x (some (potD p q))) R) : ∀ (l : List D) (n : Nat) (d : D) (p q : Int) (a b c e f g : Option D), TxtN n d → (n + 4) * 2 ^ l.length ≤ 1304 → PotOk p q →
    forW (.inl 2) B__law_bent_0 (frzW N__law_bent none (contM C__law_bent_0 R)) l [some (.obj x), some d, a, b, c, e, f, g] (putM ms0 x (some (potD p q)))
  | [], n, d, p, q, a, b, c, e, f, g, hd, hn, hp => hR d p q a b c e f g (hd.le (by simp at hn; omega)) hp
  | t :: l, n, d, p, q, a, b, c, e, f, g, hd, hn, hp => by
    rw [List.length_cons, Nat.pow_succ] at hn
    have h1 : 0 < 2 ^ l.length := Nat.pow_pos (by decide)
    have h2 : (n + 4) * 1 ≤ (n + 4) * (2 ^ l.length * 2) := Nat.mul_le_mul_left _ (by omega)
    refine bent_one hd (by omega) hp fun d' p' q' a b c e f hd' hp' => ?_
    refine bent_loop hR l (2 * n + 4) d' p' q' _ _ _ _ _ _ hd' ?_ hp'
    have e : (2 * n + 4 + 4) * 2 ^ l.length = (n + 4) * (2 ^ l.length * 2) := by
      rw [show 2 * n + 4 + 4 = (n + 4) * 2 by omega, Nat.mul_assoc, Nat.mul_comm 2]
    omega
theorem bent_w {ds : List D} {ms : Ms} {R : D → Ms → Prop} (h : w__law_bent ds ms R) : semN0 pn__law_bent 40 40 s__law_bent 2 ds ms R := by
  obtain ⟨x, es, p, q, rfl, hp, ⟨d, rfl, hd⟩, hms, h7⟩ := pot_go h
  unfold semN0
  rw [mqN__law_bent]
  unfold mN__law_bent
  rw [hms]
  refine draw_run hp (by decide) (by decide) fun k p1 q1 k0 k1 hp1 => ?_
  refine bindW_of (if_pos ⟨k0, by omega⟩) ?_
  refine bent_loop (fun d p q a b c e f g hd hp => ?_) _ 300 d p1 q1 _ _ _ _ _ _ hd ?_ hp1
  · rw [qC__law_bent_0]
    exact h7 d p q hd hp
  · rw [List.length_map, List.length_range]
    have h : k.toNat ≤ 2 := by omega
    have h1 : 2 ^ k.toNat ≤ 2 ^ 2 := Nat.pow_le_pow_right (by decide) h
    have h2 : (300 + 4) * 2 ^ k.toNat ≤ (300 + 4) * 2 ^ 2 := Nat.mul_le_mul_left _ h1
    omega
end Ag
set_option Elab.async false
set_option linter.all false
set_option autoImplicit false
set_option maxRecDepth 100000
set_option maxHeartbeats 2000000
namespace Ag
open PySem PySem.Spec L2 TL
/-- the columns that a first line tells -/
def headT (k : Kd) (l : List Nat) : Option Nat := if l = tl k.nm ++ [32, 48] then some 0 else if l = tl k.nm ++ [32, 49] then some 1 else if l = tl k.nm ++ [32, 50] then some 2 else if l = tl k.nm ++ [32, 51] then some 3 else none
def g_head_told : List D → Option D
  | [.str s, .str l] => match kdOf s with
    | some k => some (optN (headT k (tl l)))
    | none => none
  | _ => none
/-- what a line tells at its place -/
def takeG (k : Kd) : List D → Option D
  | [.int c, .int a, .str s] => if 0 ≤ a ∧ s.length < sL then some (optD (placeT k c a.toNat (tl s))) else none
  | _ => none
noncomputable def fl18 : FtL := ("head_told", g_head_told) :: fl17
noncomputable def fl19 : FtL := ("_law_line_of", g__law_line_of) :: ("_law_thing", g__law_thing) :: fl18
def lfK (fa : Addr) (k : Kd) : Addr → Option (List D → Option D) := fun f => if f = fa then some (takeG k) else none
/-- what the lines of a text tell -/
def textT (k : Kd) (l : List Nat) : OutX := match splitL 10 l with
  | [] => .rz (.int 1)
  | h :: r => match headT k h with
    | none => .rz (.int 1)
    | some c => match scan (placeT k (c : Nat)) 0 r with
      | .inl n => .rz (.int ((n + 2 : Nat)))
      | .inr ds => .ok (.tup [.int (c : Nat), .lst ds])
def x_want_lines (fk : Kd → Addr) : SpX := fun ds ms R => ∃ k t, ds = [.str (Kd.nm k), .obj (fk k), .str t] ∧ t.length ≤ 2000 ∧ R (textT k (tl t)) ms
def xl1 (fk : Kd → Addr) : List (Str × SpX) := [("want_lines", x_want_lines fk)]
def gcW (fk : Kd → Addr) (x : Str) : Option D := lkC (("row_told", D.obj (fk .tab)) :: ("step_told", D.obj (fk .prog)) :: ("word_part_told", D.obj (fk .tal)) :: ("term_part_told", D.obj (fk .frm)) :: ("lot_told", D.obj (fk .rns)) :: gcL) x
noncomputable section
def N_want_lines : List Str := ["sort", "take", "text", "lines", "columns", "found", "line", "told"]
def pn_want_lines (lf : Addr → Option (List D → Option D)) : ParN := ⟨⟨1, N_want_lines, ftOf fl18, gcB⟩, nfOf [], xfOf [], lf, ["found"]⟩
def B_want_lines_5 (lf : Addr → Option (List D → Option D)) : WS1 := nvSs (pn_want_lines lf) (ev (pn_want_lines lf).P 40) (defScope s_want_lines) 34 (forBody (stN (defBody s_want_lines) 5))
def C_want_lines_5 (lf : Addr → Option (List D → Option D)) : WS1 := nvSs (pn_want_lines lf) (ev (pn_want_lines lf).P 40) (defScope s_want_lines) 34 ((defBody s_want_lines).drop 6)
def mN_want_lines (lf : Addr → Option (List D → Option D)) (v_sort v_take v_text : D) (ms : Ms) (R : OutM → Ms → Prop) : Prop :=
  bindW (notO (truM ((((some v_text)).bind fun d => isi0 d .str).map D.bl))) fun b1 =>
  ifB b1
  (R (.rz D.non) ms)
  (bindW (bind2 (some v_text) (strM "\n") splitD) fun d2 =>
  bindW (((argC (some v_sort) (argC (ixM (some d2) (intM 0)) arg0))).bind g_head_told) fun d3 =>
  bindW (cmpM 1 .Is (some d3) (some D.non)) fun b4 =>
  ifB b4
  (R (.rz (D.int 1)) ms)
  (∀ a5, ms a5 = none → (bindW (inM (slM (some d2) (bindO (intM 1) intP) (some none))) fun l6 =>
  forW (.inl 6) (B_want_lines_5 lf) (frzW N_want_lines (some "found") (contM (C_want_lines_5 lf) R)) l6 [(some v_sort), (some v_take), (some v_text), (some d2), (some d3), (some (.obj a5)), none, none] (putM ms a5 (some [])))))
theorem mqN_want_lines (lf : Addr → Option (List D → Option D)) (v_sort v_take v_text : D) (ms : Ms) (R : OutX → Ms → Prop) : semN (pn_want_lines lf) 40 40 s_want_lines 3 [v_sort, v_take, v_text] ms R = mN_want_lines lf v_sort v_take v_text ms (outR R) := by kernel_rfl
theorem qB_want_lines_5 (lf : Addr → Option (List D → Option D)) (v_sort : D) (v_take : D) (v_text : D) (v_lines : D) (v_columns : D) (a_found : Addr) (v_line : D) (o_told : Option D) (ms : Ms) (R : OutM → Ms → Prop) : B_want_lines_5 lf [(some v_sort), (some v_take), (some v_text), (some v_lines), (some v_columns), (some (.obj a_found)), (some v_line), o_told] ms R =
  (objW v_take fun a7 => bindW (lf a7) fun l8 =>
  bindW (ms a_found) fun l9 =>
  bindW (l8 [v_columns, (.int (l9.length : Nat)), v_line]) fun d10 =>
  bindW (cmpM 1 .Is (some d10) (some D.non)) fun b11 =>
  ifB b11
  (bindW (ms a_found) fun l12 =>
  bindW (binM .Add (.int (l12.length : Nat)) (D.int 2)) fun d13 =>
  R (.rz d13) ms)
  (bindW (ms a_found) fun _ =>
  bindW (ms a_found) fun l14 => l14.length < 100000 ∧
  (R (.nx [(some v_sort), (some v_take), (some v_text), (some v_lines), (some v_columns), (some (.obj a_found)), (some v_line), (some d10)]) (putM ms a_found (some (l14 ++ [d10])))))) := by kernel_rfl
theorem qC_want_lines_5 (lf : Addr → Option (List D → Option D)) (v_sort : D) (v_take : D) (v_text : D) (v_lines : D) (v_columns : D) (v_found : D) (o_line o_told : Option D) (ms : Ms) (R : OutM → Ms → Prop) : C_want_lines_5 lf [(some v_sort), (some v_take), (some v_text), (some v_lines), (some v_columns), (some v_found), o_line, o_told] ms R =
  (bindW (tupM (argC (some v_columns) (argC (some v_found) arg0))) fun d15 =>
  R (.rt d15) ms) := by kernel_rfl
def N_read_word : List Str := ["columns", "text", "lines", "found"]
def pn_read_word : ParN := ⟨⟨1, N_read_word, ftOf fl18, gcB⟩, nfOf [], xfOf [], fun _ => none, []⟩
def mN_read_word (v_columns v_text : D) (ms : Ms) (R : OutM → Ms → Prop) : Prop :=
  bindW (((argC (some v_columns) arg0)).bind g_want_columns) fun d1 =>
  bindW (notO (truM ((((some v_text)).bind fun d => isi0 d .str).map D.bl))) fun b2 =>
  ifB b2
  (R (.rz D.non) ms)
  (bindW (bind2 (some v_text) (strM "\n") splitD) fun d3 =>
  bindW (((argC (some v_columns) (argC (ixM (some d3) (intM 0)) arg0))).bind g_word_told) fun d4 =>
  bindW (orO (cmpM 1 .Is (some d4) (some D.non)) (cmpM 1 .Gt (((argC (some d3) arg0)).bind gLen) (intM 1))) fun b5 =>
  ifB b5
  (bindW (iteO (cmpM 1 .Is (some d4) (some D.non)) (intM 1) (intM 2)) fun d6 =>
  R (.rz d6) ms)
  (R (.rt d4) ms))
theorem mqN_read_word (v_columns v_text : D) (ms : Ms) (R : OutX → Ms → Prop) : semN (pn_read_word) 40 40 s_read_word 2 [v_columns, v_text] ms R = mN_read_word v_columns v_text ms (outR R) := by kernel_rfl
def N_read_table : List Str := ["text", "columns", "rows"]
def pn_read_table (fk : Kd → Addr) : ParN := ⟨⟨1, N_read_table, ftOf fl18, gcW fk⟩, nfOf [], xfOf (xl1 fk), fun _ => none, []⟩
def mN_read_table (fk : Kd → Addr) (v_text : D) (ms : Ms) (R : OutM → Ms → Prop) : Prop :=
  x_want_lines fk [(D.str "table"), (.obj (fk .tab)), v_text] ms (okX (fun d2 ms3 => bindW (tgSet (.inr [1, 2]) d2 [(some v_text), none, none]) fun Γ1 =>
  bindW (((argC (Γ1.getD 1 none) (argC (Γ1.getD 2 none) arg0))).bind g_Table) fun d6 =>
  R (.rt d6) ms3) fun d4 ms5 => R (.rz d4) ms5)
theorem mqN_read_table (fk : Kd → Addr) (v_text : D) (ms : Ms) (R : OutX → Ms → Prop) : semN (pn_read_table fk) 40 40 s_read_table 1 [v_text] ms R = mN_read_table fk v_text ms (outR R) := by kernel_rfl
def N_read_program : List Str := ["text", "columns", "steps"]
def pn_read_program (fk : Kd → Addr) : ParN := ⟨⟨1, N_read_program, ftOf fl18, gcW fk⟩, nfOf [], xfOf (xl1 fk), fun _ => none, []⟩
def mN_read_program (fk : Kd → Addr) (v_text : D) (ms : Ms) (R : OutM → Ms → Prop) : Prop :=
  x_want_lines fk [(D.str "program"), (.obj (fk .prog)), v_text] ms (okX (fun d2 ms3 => bindW (tgSet (.inr [1, 2]) d2 [(some v_text), none, none]) fun Γ1 =>
  bindW (cmpM 1 .Eq (Γ1.getD 2 none) (lstM arg0)) fun b6 =>
  ifB b6
  (R (.rz (D.int 2)) ms3)
  (bindW (((argC (Γ1.getD 1 none) (argC (Γ1.getD 2 none) arg0))).bind g_Program) fun d7 =>
  R (.rt d7) ms3)) fun d4 ms5 => R (.rz d4) ms5)
theorem mqN_read_program (fk : Kd → Addr) (v_text : D) (ms : Ms) (R : OutX → Ms → Prop) : semN (pn_read_program fk) 40 40 s_read_program 1 [v_text] ms R = mN_read_program fk v_text ms (outR R) := by kernel_rfl
def N_read_tally : List Str := ["text", "columns", "parts"]
def pn_read_tally (fk : Kd → Addr) : ParN := ⟨⟨1, N_read_tally, ftOf fl18, gcW fk⟩, nfOf [], xfOf (xl1 fk), fun _ => none, []⟩
def mN_read_tally (fk : Kd → Addr) (v_text : D) (ms : Ms) (R : OutM → Ms → Prop) : Prop :=
  x_want_lines fk [(D.str "tally"), (.obj (fk .tal)), v_text] ms (okX (fun d2 ms3 => bindW (tgSet (.inr [1, 2]) d2 [(some v_text), none, none]) fun Γ1 =>
  bindW (((argC (Γ1.getD 1 none) (argC (Γ1.getD 2 none) arg0))).bind g_Tally) fun d6 =>
  R (.rt d6) ms3) fun d4 ms5 => R (.rz d4) ms5)
theorem mqN_read_tally (fk : Kd → Addr) (v_text : D) (ms : Ms) (R : OutX → Ms → Prop) : semN (pn_read_tally fk) 40 40 s_read_tally 1 [v_text] ms R = mN_read_tally fk v_text ms (outR R) := by kernel_rfl
def N_read_form : List Str := ["text", "columns", "parts"]
def pn_read_form (fk : Kd → Addr) : ParN := ⟨⟨1, N_read_form, ftOf fl18, gcW fk⟩, nfOf [], xfOf (xl1 fk), fun _ => none, []⟩
def mN_read_form (fk : Kd → Addr) (v_text : D) (ms : Ms) (R : OutM → Ms → Prop) : Prop :=
  x_want_lines fk [(D.str "form"), (.obj (fk .frm)), v_text] ms (okX (fun d2 ms3 => bindW (tgSet (.inr [1, 2]) d2 [(some v_text), none, none]) fun Γ1 =>
  bindW (((argC (Γ1.getD 1 none) (argC (Γ1.getD 2 none) arg0))).bind g_Form) fun d6 =>
  R (.rt d6) ms3) fun d4 ms5 => R (.rz d4) ms5)
theorem mqN_read_form (fk : Kd → Addr) (v_text : D) (ms : Ms) (R : OutX → Ms → Prop) : semN (pn_read_form fk) 40 40 s_read_form 1 [v_text] ms R = mN_read_form fk v_text ms (outR R) := by kernel_rfl
def N_read_runs : List Str := ["text", "columns", "lots"]
def pn_read_runs (fk : Kd → Addr) : ParN := ⟨⟨1, N_read_runs, ftOf fl18, gcW fk⟩, nfOf [], xfOf (xl1 fk), fun _ => none, []⟩
def mN_read_runs (fk : Kd → Addr) (v_text : D) (ms : Ms) (R : OutM → Ms → Prop) : Prop :=
  x_want_lines fk [(D.str "runs"), (.obj (fk .rns)), v_text] ms (okX (fun d2 ms3 => bindW (tgSet (.inr [1, 2]) d2 [(some v_text), none, none]) fun Γ1 =>
  bindW (((argC (Γ1.getD 1 none) (argC (Γ1.getD 2 none) arg0))).bind g_Runs) fun d6 =>
  R (.rt d6) ms3) fun d4 ms5 => R (.rz d4) ms5)
theorem mqN_read_runs (fk : Kd → Addr) (v_text : D) (ms : Ms) (R : OutX → Ms → Prop) : semN (pn_read_runs fk) 40 40 s_read_runs 1 [v_text] ms R = mN_read_runs fk v_text ms (outR R) := by kernel_rfl
def N__law_due : List Str := ["_law_text_here", "_law_kind", "_law_lines", "_law_word_here", "_law_columns", "_law_most", "_law_found", "_law_at", "_law_line", "_law_one"]
def pn__law_due : ParN := ⟨⟨1, N__law_due, ftOf fl19, gcB⟩, nfOf [], xfOf [], fun _ => none, ["_law_found"]⟩
def B__law_due_6 : WS1 := nvSs (pn__law_due) (ev (pn__law_due).P 40) (defScope s__law_due) 33 (forBody (stN (defBody s__law_due) 6))
def C__law_due_6 : WS1 := nvSs (pn__law_due) (ev (pn__law_due).P 40) (defScope s__law_due) 33 ((defBody s__law_due).drop 7)
def mN__law_due (v_text_here v_kind : D) (ms : Ms) (R : OutM → Ms → Prop) : Prop :=
  bindW (bind2 (some v_text_here) (strM "\n") splitD) fun d1 =>
  bindW (cmpM 1 .Eq (some v_kind) (strM "word")) fun b2 =>
  ifB b2
  (bindW (((argC (intM 1) (argC (ixM (some d1) (intM 0)) arg0))).bind g__law_word_of) fun d3 =>
  bindW (iteO (cmpM 1 .Is (some d3) (some D.non)) (tupM (argC (intM 1) (argC (some D.non) arg0))) (iteO (cmpM 1 .Gt (((argC (some d1) arg0)).bind gLen) (intM 1)) (tupM (argC (intM 2) (argC (some D.non) arg0))) (tupM (argC (intM 0) (argC (some d3) arg0))))) fun d4 =>
  R (.rt d4) ms)
  (bindW (slM (ixM (some d1) (intM 0)) (bindO (bind2 (((argC (some v_kind) arg0)).bind gLen) (intM 1) (binD .Add)) intP) (some none)) fun d5 =>
  bindW (orO (cmpM 1 .NotEq (slM (ixM (some d1) (intM 0)) (some none) (bindO (bind2 (((argC (some v_kind) arg0)).bind gLen) (intM 1) (binD .Add)) intP)) (bind2 (some v_kind) (strM " ") (binD .Add))) (cmpM 1 .NotIn (some d5) (tupM (argC (strM "0") (argC (strM "1") (argC (strM "2") (argC (strM "3") arg0))))))) fun b6 =>
  ifB b6
  (bindW (tupM (argC (intM 1) (argC (some D.non) arg0))) fun d7 =>
  R (.rt d7) ms)
  (bindW (bindO (some v_kind) (lookD1 [("table", 40), ("program", 200), ("tally", 400), ("form", 400), ("runs", 12)])) fun d8 =>
  ∀ a9, ms a9 = none → (bindW (bindO (slM (some d1) (bindO (intM 1) intP) (some none)) enumO) fun l10 =>
  forW (.inr [7, 8]) (B__law_due_6) (frzW N__law_due (some "_law_found") (contM (C__law_due_6) R)) l10 [(some v_text_here), (some v_kind), (some d1), none, (some d5), (some d8), (some (.obj a9)), none, none, none] (putM ms a9 (some [])))))
theorem mqN__law_due (v_text_here v_kind : D) (ms : Ms) (R : OutX → Ms → Prop) : semN (pn__law_due) 40 40 s__law_due 2 [v_text_here, v_kind] ms R = mN__law_due v_text_here v_kind ms (outR R) := by kernel_rfl
theorem qB__law_due_6 (v_text_here : D) (v_kind : D) (v_lines : D) (v_columns : D) (v_most : D) (a_found : Addr) (v_at : D) (v_line : D) (o_word_here o_one : Option D) (ms : Ms) (R : OutM → Ms → Prop) : B__law_due_6 [(some v_text_here), (some v_kind), (some v_lines), o_word_here, (some v_columns), (some v_most), (some (.obj a_found)), (some v_at), (some v_line), o_one] ms R =
  (bindW (iteO (cmpM 1 .Lt (some v_at) (some v_most)) (((argC (some v_kind) (argC (((argC (some v_columns) arg0)).bind gInt) (argC (some v_at) (argC (bind2 (some v_line) (strM " ") splitD) arg0))))).bind g__law_line_of) (some D.non)) fun d11 =>
  bindW (cmpM 1 .Is (some d11) (some D.non)) fun b12 =>
  ifB b12
  (bindW (tupM (argC (bind2 (some v_at) (intM 2) (binD .Add)) (argC (some D.non) arg0))) fun d13 =>
  R (.rt d13) ms)
  (bindW (ms a_found) fun _ =>
  bindW (ms a_found) fun l14 => l14.length < 100000 ∧
  (R (.nx [(some v_text_here), (some v_kind), (some v_lines), o_word_here, (some v_columns), (some v_most), (some (.obj a_found)), (some v_at), (some v_line), (some d11)]) (putM ms a_found (some (l14 ++ [d11])))))) := by kernel_rfl
theorem qC__law_due_6 (v_text_here : D) (v_kind : D) (v_lines : D) (v_columns : D) (v_most : D) (v_found : D) (o_word_here o_at o_line o_one : Option D) (ms : Ms) (R : OutM → Ms → Prop) : C__law_due_6 [(some v_text_here), (some v_kind), (some v_lines), o_word_here, (some v_columns), (some v_most), (some v_found), o_at, o_line, o_one] ms R =
  (bindW (andO (cmpM 1 .Eq (some v_kind) (strM "program")) (cmpM 1 .Eq (some v_found) (lstM arg0))) fun b15 =>
  ifB b15
  (bindW (tupM (argC (intM 2) (argC (some D.non) arg0))) fun d16 =>
  R (.rt d16) ms)
  (bindW (tupM (argC (intM 0) (argC (((argC (some v_kind) (argC (((argC (some v_columns) arg0)).bind gInt) (argC (some v_found) arg0)))).bind g__law_thing) arg0))) fun d17 =>
  R (.rt d17) ms)) := by kernel_rfl
end
end Ag
set_option Elab.async false
set_option linter.all false
set_option autoImplicit false
set_option maxRecDepth 100000
set_option maxHeartbeats 1000000
namespace Ag
open PySem PySem.Spec L2 TL
/-- some lists are not spoken of any more -/
def Drop (ms msd : Ms) : Prop := ∀ a, msd a = none ∨ msd a = ms a
theorem Drop.rfl' (ms : Ms) : Drop ms ms := fun _ => .inr rfl
theorem Drop.put (ms : Ms) (a : Addr) (o : Option (List D)) (h : ms a = none) : Drop (putM ms a o) ms := fun b => by
  by_cases q : b = a
  · subst q
    exact .inl h
  · exact .inr (putM_ne q).symm
theorem MsOk.drop {K : PySem.W.Frag} {G H : Hp} {ms msd : Ms} (k : MsOk K G H ms) (d : Drop ms msd) : MsOk K G H msd := fun a ds h => by
  rcases d a with q | q
  · rw [q] at h; cases h
  · exact k a ds (by rw [← q]; exact h)
theorem GrowM.drop {ms ms' msd : Ms} {G H G' H' : Hp} (w : GrowM ms G H ms' G' H') (d : Drop ms' msd) : GrowM ms G H msd G' H' := ⟨w.ext, w.g, w.sub, w.fresh, fun a h => by
  rcases d a with q | q
  · exact absurd q h
  · exact w.mfresh a (by rw [← q]; exact h)⟩
def dropR (R : OutX → Ms → Prop) : OutX → Ms → Prop := fun o ms => ∃ msd, Drop ms msd ∧ R o msd
section
variable {P : Program} {w : World} {K : PySem.W.Frag} {mg : Str → Option Value} {base : Heap} {CX : CXT} {k : Nat} {f : Addr} {fd : FuncData} {ps : List Str} {C : Addr}
theorem fn_dropX {sp sp' : SpX} (F : FnOk P w K mg base CX k f fd ps (spX K C sp)) (h : ∀ ds ms R, sp' ds ms R → sp ds ms (dropR R)) : FnOk P w K mg base CX k f fd ps (spX K C sp') :=
  F.imp fun vs H Q E ⟨G, ds, ms, R, hs, k, r, hg, hq⟩ => ⟨G, ds, ms, _, hs, k, r, h _ _ _ hg, fun o ms' G' H' ⟨msd, d, hr⟩ w' k' => hq o msd G' H' hr (w'.drop d) (k'.drop d)⟩
/-- one of several promises -/
theorem fn_ex {ι : Type} {sp : ι → Sp} (i0 : ι) (F : ∀ i, FnOk P w K mg base CX k f fd ps (sp i)) : FnOk P w K mg base CX k f fd ps (fun vs H Q E => ∃ i, sp i vs H Q E) :=
  ⟨fun vs H Q E ⟨i, h⟩ => (F i).len vs H Q E h, fun A outer s H args us vs Q E hr he hb hv ⟨i, h⟩ => (F i).run A outer s H args us vs Q E hr he hb hv h⟩
theorem fn_exX {ι : Type} {sp : ι → SpX} (i0 : ι) (F : ∀ i, FnOk P w K mg base CX k f fd ps (spX K C (sp i))) : FnOk P w K mg base CX k f fd ps (spX K C fun ds ms R => ∃ i, sp i ds ms R) :=
  (fn_ex i0 F).imp fun vs H Q E ⟨G, ds, ms, R, hs, k, r, ⟨i, hg⟩, hq⟩ => ⟨i, G, ds, ms, R, hs, k, r, hg, hq⟩
/-- one that answers by data, whatever it leaves under way -/
theorem fn_pureD {sp : SpN} {g : List D → Option D} (F : FnOk P w K mg base CX k f fd ps (spN K sp)) (h : ∀ ds d, g ds = some d → sp ds noMs (fun d' _ => d' = d)) : FnOk P w K mg base CX k f fd ps (spD K g) :=
  F.imp fun vs H Q E ⟨G, ds, d, hs, r, hg, hq⟩ => ⟨G, ds, noMs, _, hs, .none, r, h ds d hg, fun d' ms' v G' H' e w' _ r' => by
    have e : d' = d := e
    subst e
    exact hq v G' H' w'.back r'⟩
end
end Ag
set_option Elab.async false
set_option linter.all false
set_option autoImplicit false
set_option maxRecDepth 100000
set_option maxHeartbeats 2000000
namespace Ag
open PySem PySem.Spec L2 TL
theorem takeG_inv {k : Kd} {ds : List D} {d : D} (h : takeG k ds = some d) : ∃ c a s, ds = [.int c, .int a, .str s] ∧ 0 ≤ a ∧ s.length < sL ∧ d = optD (placeT k c a.toNat (tl s)) := by
  unfold takeG at h
  split at h
  · split at h
    · rename_i hh
      cases h
      exact ⟨_, _, _, rfl, hh.1, hh.2, rfl⟩
    · cases h
  · cases h
theorem place_if (k : Kd) (c a : Int) (h : 0 ≤ a) (l : List Nat) (m : Nat) (hm : m = mostOf k) : placeT k c a.toNat l = if a < (m : Nat) then lineT k c a (splitL 32 l) else none := by
  subst hm
  unfold placeT
  have e : ((a.toNat : Nat) : Int) = a := Int.toNat_of_nonneg h
  rw [e]
  by_cases q : a.toNat < mostOf k
  · rw [if_pos q, if_pos (by omega)]
  · rw [if_neg q, if_neg (by omega)]
theorem take_tab {ds : List D} {d : D} (h : takeG .tab ds = some d) : semD ⟨1, N_row_told, ftOf fl8, gcB⟩ 40 40 s_row_told 3 ds = some d := by
  obtain ⟨c, a, s, rfl, h0, hl, rfl⟩ := takeG_inv h
  rw [semD_K, mq_row_told, ← mkS_tl s, row_plain, place_if .tab c a h0 _ 40 rfl]
  by_cases q : a < 40
  · rw [if_pos q, if_pos (show a < ((40 : Nat) : Int) from q)]
    exact congrArg some (optD_row _).symm
  · rw [if_neg q, if_neg (show ¬ a < ((40 : Nat) : Int) from q)]
    rfl
theorem take_prog {ds : List D} {d : D} (h : takeG .prog ds = some d) : semD ⟨1, N_step_told, ftOf fl8, gcB⟩ 40 40 s_step_told 3 ds = some d := by
  obtain ⟨c, a, s, rfl, h0, hl, rfl⟩ := takeG_inv h
  rw [semD_K, mq_step_told, ← mkS_tl s, step_plain, place_if .prog c a h0 _ 200 rfl]
  rfl
theorem take_tal {ds : List D} {d : D} (h : takeG .tal ds = some d) : semD ⟨1, N_word_part_told, ftOf fl8, gcB⟩ 40 40 s_word_part_told 3 ds = some d := by
  obtain ⟨c, a, s, rfl, h0, hl, rfl⟩ := takeG_inv h
  have hl' : (tl s).length < sL := Nat.lt_of_le_of_lt (Nat.le_of_eq (len_tl s).symm) hl
  rw [semD_K, mq_word_part_told, ← mkS_tl s, part_plain _ _ _ hl', place_if .tal c a h0 _ 400 rfl]
  rfl
theorem take_frm {ds : List D} {d : D} (h : takeG .frm ds = some d) : semD ⟨1, N_term_part_told, ftOf fl8, gcB⟩ 40 40 s_term_part_told 3 ds = some d := by
  obtain ⟨c, a, s, rfl, h0, hl, rfl⟩ := takeG_inv h
  have hl' : (tl s).length < sL := Nat.lt_of_le_of_lt (Nat.le_of_eq (len_tl s).symm) hl
  rw [semD_K, mq_term_part_told, ← mkS_tl s, term_plain _ _ _ hl', place_if .frm c a h0 _ 400 rfl]
  rfl
theorem take_rns {ds : List D} {d : D} (h : takeG .rns ds = some d) : semD ⟨1, N_lot_told, ftOf fl8, gcB⟩ 40 40 s_lot_told 3 ds = some d := by
  obtain ⟨c, a, s, rfl, h0, hl, rfl⟩ := takeG_inv h
  rw [semD_K, mq_lot_told, ← mkS_tl s, lot_plain, place_if .rns c a h0 _ 12 rfl]
  rfl
theorem kdOf_nm (k : Kd) : kdOf k.nm = some k := by cases k <;> rfl
theorem head_g {ds : List D} {d : D} (h : g_head_told ds = some d) : semD ⟨1, N_head_told, ftOf fl8, gcB⟩ 40 40 s_head_told 2 ds = some d := by
  unfold g_head_told at h
  split at h
  · rename_i s l
    split at h
    · rename_i k hk
      cases h
      obtain rfl := kdOf_inv hk
      rw [semD_K, mq_head_told]
      have key : ∀ (e0 e1 e2 e3 : Str), tl e0 = tl k.nm ++ [32, 48] → tl e1 = tl k.nm ++ [32, 49] → tl e2 = tl k.nm ++ [32, 50] → tl e3 = tl k.nm ++ [32, 51] →
          iteO (some (decide (l = e0))) (bindO (intM 0) some) (iteO (some (decide (l = e1))) (bindO (intM 1) some) (iteO (some (decide (l = e2))) (bindO (intM 2) some) (iteO (some (decide (l = e3))) (bindO (intM 3) some) (bindO (some D.non) some)))) = some (optN (headT k (tl l))) := by
        intro e0 e1 e2 e3 h0 h1 h2 h3
        have f : ∀ e : Str, decide (l = e) = decide (tl l = tl e) := fun e => dec_eq
        rw [f, f, f, f, h0, h1, h2, h3]
        unfold headT
        by_cases q0 : tl l = tl k.nm ++ [32, 48]
        · rw [decide_eq_true q0, if_pos q0]; rfl
        rw [decide_eq_false q0, if_neg q0, iteO_f]
        by_cases q1 : tl l = tl k.nm ++ [32, 49]
        · rw [decide_eq_true q1, if_pos q1]; rfl
        rw [decide_eq_false q1, if_neg q1, iteO_f]
        by_cases q2 : tl l = tl k.nm ++ [32, 50]
        · rw [decide_eq_true q2, if_pos q2]; rfl
        rw [decide_eq_false q2, if_neg q2, iteO_f]
        by_cases q3 : tl l = tl k.nm ++ [32, 51]
        · rw [decide_eq_true q3, if_pos q3]; rfl
        rw [decide_eq_false q3, if_neg q3, iteO_f]
        rfl
      unfold m_head_told
      have g : ∀ (i : Int) (e : Str), (((fmtM (some (.str k.nm)) (litM " " (fmtM (intM i) some))) Str.empty).map D.str) = some (.str e) → cmpM 1 .Eq (some (.str l)) (((fmtM (some (.str k.nm)) (litM " " (fmtM (intM i) some))) Str.empty).map D.str) = some (decide (l = e)) := fun i e q => by
        rw [q]
        rfl
      cases k with
      | tab => rw [g 0 "table 0" (by kernel_rfl), g 1 "table 1" (by kernel_rfl), g 2 "table 2" (by kernel_rfl), g 3 "table 3" (by kernel_rfl)]; exact key _ _ _ _ (by decide +kernel) (by decide +kernel) (by decide +kernel) (by decide +kernel)
      | prog => rw [g 0 "program 0" (by kernel_rfl), g 1 "program 1" (by kernel_rfl), g 2 "program 2" (by kernel_rfl), g 3 "program 3" (by kernel_rfl)]; exact key _ _ _ _ (by decide +kernel) (by decide +kernel) (by decide +kernel) (by decide +kernel)
      | tal => rw [g 0 "tally 0" (by kernel_rfl), g 1 "tally 1" (by kernel_rfl), g 2 "tally 2" (by kernel_rfl), g 3 "tally 3" (by kernel_rfl)]; exact key _ _ _ _ (by decide +kernel) (by decide +kernel) (by decide +kernel) (by decide +kernel)
      | frm => rw [g 0 "form 0" (by kernel_rfl), g 1 "form 1" (by kernel_rfl), g 2 "form 2" (by kernel_rfl), g 3 "form 3" (by kernel_rfl)]; exact key _ _ _ _ (by decide +kernel) (by decide +kernel) (by decide +kernel) (by decide +kernel)
      | rns => rw [g 0 "runs 0" (by kernel_rfl), g 1 "runs 1" (by kernel_rfl), g 2 "runs 2" (by kernel_rfl), g 3 "runs 3" (by kernel_rfl)]; exact key _ _ _ _ (by decide +kernel) (by decide +kernel) (by decide +kernel) (by decide +kernel)
    · cases h
  · cases h
theorem headT_le {k : Kd} {l : List Nat} {c : Nat} (h : headT k l = some c) : c ≤ 3 := by
  unfold headT at h
  split at h
  · cases h; decide
  split at h
  · cases h; decide
  split at h
  · cases h; decide
  split at h
  · cases h; decide
  · cases h
/-- what a line tells is not None -/
theorem line_non {k : Kd} {c : Int} {n : Nat} {l : List Nat} {d : D} (h : placeT k c n l = some d) : d.isNon = false := by
  unfold placeT at h
  split at h
  · cases k with
    | tab =>
      have := rowT_right (show rowTD c (splitL 32 l) = some d from h)
      cases d <;> first | rfl | cases this
    | prog =>
      have := stepT_right (show stepT c (n : Nat) (splitL 32 l) = some d from h)
      cases d <;> first | rfl | cases this
    | tal =>
      have := partT_right (show partT c (splitL 32 l) = some d from h)
      cases d <;> first | rfl | cases this
    | frm =>
      have := termT_right (show termT c (splitL 32 l) = some d from h)
      cases d <;> first | rfl | cases this
    | rns =>
      have := lotT_right (show lotT c (splitL 32 l) = some d from h)
      cases d <;> first | rfl | cases this
  · cases h
theorem is_optD {o : Option D} (h : ∀ d, o = some d → d.isNon = false) : cmpM 1 .Is (some (optD o)) (some D.non) = some o.isNone := by
  cases o with
  | none => rfl
  | some d =>
    show some d.isNon = _
    rw [h d rfl]
    rfl
theorem is_optN (o : Option Nat) : cmpM 1 .Is (some (optN o)) (some D.non) = some o.isNone := by cases o <;> rfl
theorem want_loop {fa : Addr} {k : Kd} {c : Nat} {a : Addr} {v1 v3 v4 : D} {ms0 : Ms} (h0 : ms0 a = none) {R : OutM → Ms → Prop} : ∀ (r : List (List Nat)) (acc : List D) (o7 o8 : Option D), acc.length + r.length ≤ 90000 → (∀ x ∈ r, x.length < sL) →
    (match scan (placeT k (c : Nat)) acc.length r with
      | .inl n => ∀ ms', Drop ms' ms0 → R (.rz (.int ((n + 2 : Nat)))) ms'
      | .inr ds => R (.rt (.tup [.int (c : Nat), .lst (acc ++ ds)])) ms0) →
    forW (.inl 6) (B_want_lines_5 (lfK fa k)) (frzW N_want_lines (some "found") (contM (C_want_lines_5 (lfK fa k)) R)) (strL r) [some v1, some (.obj fa), some v3, some v4, some (.int (c : Nat)), some (.obj a), o7, o8] (putM ms0 a (some acc))
  | [], acc, o7, o8, hl, hx, h => by
    have h : R (.rt (.tup [.int (c : Nat), .lst (acc ++ [])])) ms0 := h
    rw [List.append_nil] at h
    show bindW (putM ms0 a (some acc) a) fun ds => C_want_lines_5 (lfK fa k) [some v1, some (.obj fa), some v3, some v4, some (.int (c : Nat)), some (.lst ds), o7, o8] (putM (putM ms0 a (some acc)) a none) R
    rw [putM_same, putM_put, putM_id h0]
    refine bindW_of rfl ?_
    rw [qC_want_lines_5]
    exact h
  | x :: r, acc, o7, o8, hl, hx, h => by
    show B_want_lines_5 (lfK fa k) [some v1, some (.obj fa), some v3, some v4, some (.int (c : Nat)), some (.obj a), some (.str (mkS x)), o8] (putM ms0 a (some acc)) _
    rw [qB_want_lines_5]
    have el : lfK fa k fa = some (takeG k) := if_pos rfl
    have eg : takeG k [.int (c : Nat), .int (acc.length : Nat), .str (mkS x)] = some (optD (placeT k (c : Nat) acc.length x)) := by
      have h1 := hx x List.mem_cons_self
      have e : takeG k [.int (c : Nat), .int (acc.length : Nat), .str (mkS x)] = some (optD (placeT k (c : Nat) ((acc.length : Nat) : Int).toNat (tl (mkS x)))) := if_pos ⟨by omega, by rw [len_mkS]; exact h1⟩
      rw [e]
      rfl
    refine bindW_of el ?_
    rw [putM_same]
    refine bindW_of rfl (bindW_of eg ?_)
    refine bindW_of (is_optD fun d hd => line_non hd) ?_
    unfold scan at h
    cases q : placeT k (c : Nat) acc.length x with
    | none =>
      rw [q] at h
      have h : ∀ ms', Drop ms' ms0 → R (.rz (.int ((acc.length + 2 : Nat)))) ms' := h
      refine ifB_t (bindW_of rfl ?_)
      exact h _ (.put ms0 a _ h0)
    | some d =>
      rw [q] at h
      refine ifB_f (bindW_of rfl (bindW_of rfl ⟨?_, ?_⟩))
      · rw [List.length_cons] at hl
        omega
      · rw [putM_put]
        refine want_loop h0 r (acc ++ [d]) _ _ (by rw [List.length_append]; rw [List.length_cons] at hl; show acc.length + 1 + r.length ≤ 90000; omega) (fun y hy => hx y (List.mem_cons_of_mem _ hy)) ?_
        have e1 : (acc ++ [d]).length = acc.length + 1 := by rw [List.length_append]; rfl
        rw [e1]
        cases q2 : scan (placeT k (c : Nat)) (acc.length + 1) r with
        | inl n =>
          rw [q2] at h
          exact h
        | inr ds =>
          rw [q2] at h
          have h : R (.rt (.tup [.int (c : Nat), .lst (acc ++ d :: ds)])) ms0 := h
          show R (.rt (.tup [.int (c : Nat), .lst (acc ++ [d] ++ ds)])) ms0
          rw [List.append_assoc]
          exact h
theorem want_w {k : Kd} {fa : Addr} {ds : List D} {ms : Ms} {R : OutX → Ms → Prop} (h : ∃ t : Str, ds = [.str k.nm, .obj fa, .str t] ∧ t.length ≤ 2000 ∧ R (textT k (tl t)) ms) : semN (pn_want_lines (lfK fa k)) 40 40 s_want_lines 3 ds ms (dropR R) := by
  obtain ⟨t, rfl, hl, hR⟩ := h
  rw [mqN_want_lines]
  unfold mN_want_lines
  obtain ⟨l, rfl⟩ : ∃ l, t = mkS l := ⟨tl t, (mkS_tl t).symm⟩
  rw [len_mkS] at hl
  rw [tl_mkS] at hR
  refine bindW_of (d := false) rfl (ifB_f ?_)
  have e2 : bind2 (some (.str (mkS l))) (strM "\n") splitD = some (.lst (strL (splitL 10 l))) := split_s 10 l (by decide) _ sl10
  refine bindW_of e2 ?_
  unfold textT at hR
  have hsp := splitL_len 10 l
  have hmem : ∀ x ∈ splitL 10 l, x.length ≤ l.length := fun x hx => (splitL_mem hx).1
  cases q : splitL 10 l with
  | nil => exact absurd q (splitL_ne 10 l)
  | cons h r =>
    rw [q] at hR hsp hmem
    have e3 : ixM (some (.lst (strL (h :: r)))) (intM 0) = some (.str (mkS h)) := strL_ix (i := 0) rfl
    have e4 : (argC (some (.str k.nm)) (argC (ixM (some (.lst (strL (h :: r)))) (intM 0)) arg0)).bind g_head_told = some (optN (headT k h)) := by
      rw [e3]
      show (match kdOf k.nm with
        | some k => some (optN (headT k (tl (mkS h))))
        | none => none) = _
      rw [kdOf_nm]
      rfl
    refine bindW_of e4 (bindW_of (is_optN _) ?_)
    cases q2 : headT k h with
    | none =>
      have hR : R (match headT k h with
        | none => .rz (.int 1)
        | some c => match scan (placeT k (c : Nat)) 0 r with
          | .inl n => .rz (.int ((n + 2 : Nat)))
          | .inr ds => .ok (.tup [.int (c : Nat), .lst ds])) ms := hR
      rw [q2] at hR
      exact ifB_t ⟨ms, .rfl' ms, hR⟩
    | some c =>
      have hR : R (match headT k h with
        | none => .rz (.int 1)
        | some c => match scan (placeT k (c : Nat)) 0 r with
          | .inl n => .rz (.int ((n + 2 : Nat)))
          | .inr ds => .ok (.tup [.int (c : Nat), .lst ds])) ms := hR
      rw [q2] at hR
      refine ifB_f fun a ha => ?_
      have e5 : inM (slM (some (.lst (strL (h :: r)))) (bindO (intM 1) intP) (some none)) = some (strL r) := by
        have : slM (some (.lst (strL (h :: r)))) (bindO (intM 1) intP) (some none) = some (.lst (strL r)) := strL_drop (h :: r) 1
        rw [this]
        rfl
      refine bindW_of e5 ?_
      rw [List.length_cons] at hsp
      refine want_loop ha r [] none none (by show 0 + r.length ≤ 90000; omega) (fun x hx => by
        have := hmem x (List.mem_cons_of_mem _ hx)
        unfold sL
        omega) ?_
      cases q3 : scan (placeT k (c : Nat)) 0 r with
      | inl n =>
        have hR : R (match scan (placeT k (c : Nat)) 0 r with
          | .inl n => .rz (.int ((n + 2 : Nat)))
          | .inr ds => .ok (.tup [.int (c : Nat), .lst ds])) ms := hR
        rw [q3] at hR
        exact fun ms' d => ⟨ms, d, hR⟩
      | inr es =>
        have hR : R (match scan (placeT k (c : Nat)) 0 r with
          | .inl n => .rz (.int ((n + 2 : Nat)))
          | .inr ds => .ok (.tup [.int (c : Nat), .lst ds])) ms := hR
        rw [q3] at hR
        exact ⟨ms, .rfl' ms, hR⟩
end Ag
set_option Elab.async false
set_option linter.all false
set_option autoImplicit false
set_option maxRecDepth 100000
set_option maxHeartbeats 2000000
namespace Ag
open PySem PySem.Spec L2 TL
def Kd.isProg : Kd → Bool
  | .prog => true
  | _ => false
noncomputable def finR (k : Kd) : OutX → OutX
  | .ok (.tup [.int c, .lst ds]) => match k.isProg && ds.isEmpty with
    | true => .rz (.int 2)
    | false => .ok ((thingD k c ds).getD .non)
  | o => o
noncomputable def textR (k : Kd) (l : List Nat) : OutX := finR k (textT k l)
/-- of a word's text -/
def wordR (l : List Nat) : OutX := match splitL 10 l with
  | [] => .rz (.int 1)
  | h :: r => match wordT 1 h with
    | none => .rz (.int 1)
    | some w => match r.isEmpty with
      | true => .ok (wordD w)
      | false => .rz (.int 2)
def dueD : OutX → D
  | .ok d => .tup [.int 0, d]
  | .rz d => .tup [d, .non]
theorem sum_lines (c : Nat) (l : List Nat) : sumL ((splitL c l).map (·.length)) ≤ l.length := by
  have key : ∀ ls : List (List Nat), sumL (ls.map (·.length)) + ls.length = wL ls := by
    intro ls
    induction ls with
    | nil => rfl
    | cons a r ih =>
      show a.length + sumL (r.map (·.length)) + (r.length + 1) = a.length + 1 + wL r
      omega
  have h1 := key (splitL c l)
  have h2 := sum_split c l
  have h3 : 0 < (splitL c l).length := List.length_pos_iff.mpr (splitL_ne c l)
  omega
theorem textT_cases (k : Kd) (l : List Nat) : (∃ i : Nat, textT k l = .rz (.int i) ∧ 0 < i) ∨ ∃ (c : Nat) (ds : List D) (r : List (List Nat)), textT k l = .ok (.tup [.int c, .lst ds]) ∧ c ≤ 3 ∧ scan (placeT k (c : Nat)) 0 r = .inr ds ∧ sumL (r.map (·.length)) ≤ l.length := by
  have hs := sum_lines 10 l
  unfold textT
  cases q : splitL 10 l with
  | nil => exact .inl ⟨1, rfl, by decide⟩
  | cons h r =>
    rw [q] at hs
    have hs : h.length + sumL (r.map (·.length)) ≤ l.length := hs
    cases q2 : headT k h with
    | none => exact .inl ⟨1, by dsimp only; rw [q2]; rfl, by decide⟩
    | some c =>
      cases q3 : scan (placeT k (c : Nat)) 0 r with
      | inl n => exact .inl ⟨n + 2, by dsimp only; rw [q2]; dsimp only; rw [q3], by omega⟩
      | inr ds => exact .inr ⟨c, ds, r, by dsimp only; rw [q2]; dsimp only; rw [q3], headT_le q2, q3, by omega⟩
theorem cols_ok {c : Nat} (h : c ≤ 3) : colsOk (c : Nat) = true := by
  unfold colsOk
  rw [decide_eq_true (by omega : (0 : Int) ≤ (c : Nat)), decide_eq_true (by omega : ((c : Nat) : Int) ≤ 3)]
  rfl
/-- a thing of lines scanned to the end -/
theorem scan_thing {k : Kd} {c : Nat} {ds : List D} {r : List (List Nat)} (hc : c ≤ 3) (hs : scan (placeT k (c : Nat)) 0 r = .inr ds) (hl : sumL (r.map (·.length)) ≤ 2000) (hp : (k.isProg && ds.isEmpty) = false) : ∃ t, thingD k (c : Nat) ds = some t ∧ eqD 2 t t = some true := by
  cases k with
  | tab => exact scan_table (cols_ok hc) hs
  | prog => exact scan_program (cols_ok hc) (fun e => by subst e; cases hp) hs
  | tal => exact scan_tally (cols_ok hc) hl hs
  | frm => exact scan_form (cols_ok hc) hl hs
  | rns => exact scan_runs (cols_ok hc) hs
def x_read (k : Kd) : SpX := fun ds ms R => ∃ t : Str, ds = [.str t] ∧ t.length ≤ 2000 ∧ R (textR k (tl t)) ms
theorem tl_len (t : Str) : (tl t).length = t.length := (len_tl t).symm
/-- what stands behind want_lines -/
theorem read_go {k : Kd} {t : Str} (hl : t.length ≤ 2000) {ms : Ms} {R : OutX → Ms → Prop} (hR : R (textR k (tl t)) ms) {kk zz : D → Ms → Prop} (hz : ∀ d, R (.rz d) ms → zz d ms)
    (hk : ∀ (c : Nat) (ds : List D), (k.isProg && ds.isEmpty) = false → ∀ th, thingD k (c : Nat) ds = some th → R (.ok th) ms → kk (.tup [.int c, .lst ds]) ms) (hp : ∀ (c : Nat), k.isProg = true → R (.rz (.int 2)) ms → kk (.tup [.int c, .lst []]) ms) : okX kk zz (textT k (tl t)) ms := by
  unfold textR at hR
  rcases textT_cases k (tl t) with ⟨i, e, _⟩ | ⟨c, ds, r, e, hc, hs, hsum⟩
  · rw [e] at hR ⊢
    exact hz _ hR
  · rw [e] at hR ⊢
    have hR : R (match k.isProg && ds.isEmpty with
      | true => .rz (.int 2)
      | false => .ok ((thingD k (c : Nat) ds).getD .non)) ms := hR
    cases q : k.isProg && ds.isEmpty with
    | true =>
      rw [q] at hR
      rw [Bool.and_eq_true] at q
      have : ds = [] := by
        cases ds with
        | nil => rfl
        | cons _ _ => cases q.2
      subst this
      exact hp c q.1 hR
    | false =>
      rw [q] at hR
      obtain ⟨th, h1, _⟩ := scan_thing hc hs (Nat.le_trans hsum (by rw [tl_len]; exact hl)) q
      have hR : R (.ok ((thingD k (c : Nat) ds).getD .non)) ms := hR
      rw [h1] at hR
      exact hk c ds q th h1 hR
theorem read_table_w {fk : Kd → Addr} {ds : List D} {ms : Ms} {R : OutX → Ms → Prop} (h : x_read .tab ds ms R) : semN (pn_read_table fk) 40 40 s_read_table 1 ds ms R := by
  obtain ⟨t, rfl, hl, hR⟩ := h
  rw [mqN_read_table]
  unfold mN_read_table
  exact ⟨.tab, t, rfl, hl, read_go hl hR (fun d h => h) (fun c ds _ th e h => bindW_of rfl (bindW_of e h)) fun c q => by cases q⟩
theorem read_tally_w {fk : Kd → Addr} {ds : List D} {ms : Ms} {R : OutX → Ms → Prop} (h : x_read .tal ds ms R) : semN (pn_read_tally fk) 40 40 s_read_tally 1 ds ms R := by
  obtain ⟨t, rfl, hl, hR⟩ := h
  rw [mqN_read_tally]
  unfold mN_read_tally
  exact ⟨.tal, t, rfl, hl, read_go hl hR (fun d h => h) (fun c ds _ th e h => bindW_of rfl (bindW_of e h)) fun c q => by cases q⟩
theorem read_form_w {fk : Kd → Addr} {ds : List D} {ms : Ms} {R : OutX → Ms → Prop} (h : x_read .frm ds ms R) : semN (pn_read_form fk) 40 40 s_read_form 1 ds ms R := by
  obtain ⟨t, rfl, hl, hR⟩ := h
  rw [mqN_read_form]
  unfold mN_read_form
  exact ⟨.frm, t, rfl, hl, read_go hl hR (fun d h => h) (fun c ds _ th e h => bindW_of rfl (bindW_of e h)) fun c q => by cases q⟩
theorem read_runs_w {fk : Kd → Addr} {ds : List D} {ms : Ms} {R : OutX → Ms → Prop} (h : x_read .rns ds ms R) : semN (pn_read_runs fk) 40 40 s_read_runs 1 ds ms R := by
  obtain ⟨t, rfl, hl, hR⟩ := h
  rw [mqN_read_runs]
  unfold mN_read_runs
  exact ⟨.rns, t, rfl, hl, read_go hl hR (fun d h => h) (fun c ds _ th e h => bindW_of rfl (bindW_of e h)) fun c q => by cases q⟩
theorem eq_nil (ds : List D) : cmpM 1 .Eq (some (.lst ds)) (lstM arg0) = some ds.isEmpty := by
  cases ds with
  | nil => rfl
  | cons d r =>
    show eqD 1 (.lst (d :: r)) (.lst []) = some false
    have h1 : eq0D (.lst (d :: r)) (.lst []) = none ∨ eq0D (.lst (d :: r)) (.lst []) = some false := by
      show (match D.allStr (d :: r), D.allStr [] with
        | some ss, some ts => some (decide (ss = ts))
        | _, _ => none) = none ∨ (match D.allStr (d :: r), D.allStr [] with
        | some ss, some ts => some (decide (ss = ts))
        | _, _ => none) = some false
      cases q : D.allStr (d :: r) with
      | none => exact .inl rfl
      | some ss =>
        refine .inr ?_
        have := allStr_eq q
        cases ss with
        | nil => cases this
        | cons s t => exact congrArg some (decide_eq_false (by simp))
    unfold eqD
    rcases h1 with h1 | h1
    · rw [h1]
      rfl
    · rw [h1]
theorem read_program_w {fk : Kd → Addr} {ds : List D} {ms : Ms} {R : OutX → Ms → Prop} (h : x_read .prog ds ms R) : semN (pn_read_program fk) 40 40 s_read_program 1 ds ms R := by
  obtain ⟨t, rfl, hl, hR⟩ := h
  rw [mqN_read_program]
  unfold mN_read_program
  refine ⟨.prog, t, rfl, hl, read_go hl hR (fun d h => h) (fun c ds q th e h => bindW_of rfl (bindW_of (eq_nil ds) ?_)) fun c q h => bindW_of rfl (bindW_of (eq_nil []) h)⟩
  have q : ds.isEmpty = false := q
  rw [q]
  exact ifB_f (bindW_of e h)
theorem read_word_w {ds : List D} {ms : Ms} {R : OutX → Ms → Prop} (h : ∃ t : Str, ds = [.int 1, .str t] ∧ t.length ≤ 2000 ∧ R (wordR (tl t)) ms) : semN pn_read_word 40 40 s_read_word 2 ds ms R := by
  obtain ⟨t, rfl, hl, hR⟩ := h
  rw [mqN_read_word]
  unfold mN_read_word
  obtain ⟨l, rfl⟩ : ∃ l, t = mkS l := ⟨tl t, (mkS_tl t).symm⟩
  rw [len_mkS] at hl
  rw [tl_mkS] at hR
  refine bindW_of (g_want (c := 1) rfl) (bindW_of (d := false) rfl (ifB_f ?_))
  have e2 : bind2 (some (.str (mkS l))) (strM "\n") splitD = some (.lst (strL (splitL 10 l))) := split_s 10 l (by decide) _ sl10
  refine bindW_of e2 ?_
  unfold wordR at hR
  have hmem : ∀ x ∈ splitL 10 l, x.length ≤ l.length := fun x hx => (splitL_mem hx).1
  cases q : splitL 10 l with
  | nil => exact absurd q (splitL_ne 10 l)
  | cons h r =>
    rw [q] at hR hmem
    have hh := hmem h List.mem_cons_self
    have e3 : ixM (some (.lst (strL (h :: r)))) (intM 0) = some (.str (mkS h)) := strL_ix (i := 0) rfl
    have e4 : (argC (some (.int 1)) (argC (ixM (some (.lst (strL (h :: r)))) (intM 0)) arg0)).bind g_word_told = some (optW (wordT 1 h)) := by
      rw [e3]
      exact g_word_s 1 (by unfold sL; omega)
    refine bindW_of e4 ?_
    have e5 : (argC (some (.lst (strL (h :: r)))) arg0).bind gLen = some (.int ((r.length + 1 : Nat))) := by
      show some (D.int ((strL (h :: r)).length : Nat)) = _
      rw [strL_len]
      rfl
    rw [e5, isW]
    have e6 : cmpM 1 .Gt (some (.int ((r.length + 1 : Nat)))) (intM 1) = some (!r.isEmpty) := by
      show some (decide ((1 : Int) < ((r.length + 1 : Nat)))) = _
      cases r with
      | nil => rfl
      | cons a t => rw [decide_eq_true (by rw [List.length_cons]; omega)]; rfl
    rw [e6, orO_s]
    cases q2 : wordT 1 h with
    | none =>
      have hR : R (match wordT 1 h with
        | none => .rz (.int 1)
        | some w => match r.isEmpty with
          | true => .ok (wordD w)
          | false => .rz (.int 2)) ms := hR
      rw [q2] at hR
      refine bindW_of (d := true) rfl ?_
      refine ifB_t ?_
      exact bindW_of rfl hR
    | some w =>
      have hR : R (match wordT 1 h with
        | none => .rz (.int 1)
        | some w => match r.isEmpty with
          | true => .ok (wordD w)
          | false => .rz (.int 2)) ms := hR
      rw [q2] at hR
      cases r with
      | nil =>
        refine bindW_of (d := false) rfl ?_
        refine ifB_f ?_
        exact hR
      | cons a t =>
        refine bindW_of (d := true) rfl ?_
        refine ifB_t ?_
        exact bindW_of rfl hR
/-! ### due -/
open Classical in
noncomputable def g__law_due : List D → Option D
  | [.str t, .str w] => if t.length ≤ 2000 then (match kdOf w with
    | some k => some (dueD (textR k (tl t)))
    | none => if w = "word" then some (dueD (wordR (tl t))) else none) else none
  | _ => none
theorem line_of {k : Kd} {c n : Int} {ps : List (List Nat)} (h : lineOk ps = true) : g__law_line_of [.str k.nm, .int c, .int n, .lst (strL ps)] = some (optD (lineT k c n ps)) := by
  show (match kdOf k.nm, txs (strL ps) with
    | some k, some ps => if lineOk ps = true then some (optD (lineT k c n ps)) else none
    | _, _ => none) = _
  rw [kdOf_nm, txs_L]
  exact if_pos h
theorem line32 {x : List Nat} (h : x.length < sL) : lineOk (splitL 32 x) = true := by
  unfold lineOk
  rw [Bool.and_eq_true]
  refine ⟨?_, List.all_eq_true.mpr fun p hp => decide_eq_true (Nat.lt_of_le_of_lt (splitL_mem hp).1 h)⟩
  cases q : splitL 32 x with
  | nil => exact absurd q (splitL_ne 32 x)
  | cons _ _ => rfl
theorem gInt_fig {c : Nat} (h : c ≤ 3) : gInt [.str (mkS [48 + c])] = some (.int (c : Nat)) := by
  have : c = 0 ∨ c = 1 ∨ c = 2 ∨ c = 3 := by omega
  rcases this with rfl | rfl | rfl | rfl <;> kernel_rfl
theorem due_loop {k : Kd} {c : Nat} (hc : c ≤ 3) {a : Addr} {v1 v3 : D} {ms0 : Ms} (h0 : ms0 a = none) {oW : Option D} {R : OutM → Ms → Prop} : ∀ (r : List (List Nat)) (acc : List D) (o7 o8 o9 : Option D), acc.length + r.length ≤ 90000 → (∀ x ∈ r, x.length < sL) →
    (match scan (placeT k (c : Nat)) acc.length r with
      | .inl n => ∀ ms', R (.rt (.tup [.int ((n + 2 : Nat)), .non])) ms'
      | .inr ds => ∀ o7 o8 o9, C__law_due_6 [some v1, some (.str k.nm), some v3, oW, some (.str (mkS [48 + c])), some (.int (mostOf k : Nat)), some (.lst (acc ++ ds)), o7, o8, o9] ms0 R) →
    forW (.inr [7, 8]) B__law_due_6 (frzW N__law_due (some "_law_found") (contM C__law_due_6 R)) (((strL r).zipIdx acc.length).map fun z => .tup [.int (z.2 : Nat), z.1]) [some v1, some (.str k.nm), some v3, oW, some (.str (mkS [48 + c])), some (.int (mostOf k : Nat)), some (.obj a), o7, o8, o9] (putM ms0 a (some acc))
  | [], acc, o7, o8, o9, hl, hx, h => by
    have h : ∀ o7 o8 o9, C__law_due_6 [some v1, some (.str k.nm), some v3, oW, some (.str (mkS [48 + c])), some (.int (mostOf k : Nat)), some (.lst (acc ++ [])), o7, o8, o9] ms0 R := h
    rw [List.append_nil] at h
    show bindW (putM ms0 a (some acc) a) fun ds => C__law_due_6 [some v1, some (.str k.nm), some v3, oW, some (.str (mkS [48 + c])), some (.int (mostOf k : Nat)), some (.lst ds), o7, o8, o9] (putM (putM ms0 a (some acc)) a none) R
    rw [putM_same, putM_put, putM_id h0]
    exact bindW_of rfl (h _ _ _)
  | x :: r, acc, o7, o8, o9, hl, hx, h => by
    have ez : (((strL (x :: r)).zipIdx acc.length).map fun z => D.tup [.int (z.2 : Nat), z.1]) = .tup [.int (acc.length : Nat), .str (mkS x)] :: (((strL r).zipIdx (acc.length + 1)).map fun z => D.tup [.int (z.2 : Nat), z.1]) := by
      show ((.str (mkS x) :: strL r).zipIdx acc.length).map _ = _
      rw [List.zipIdx_cons, List.map_cons]
    rw [ez]
    show bindW (tgSet (.inr [7, 8]) (.tup [.int (acc.length : Nat), .str (mkS x)]) [some v1, some (.str k.nm), some v3, oW, some (.str (mkS [48 + c])), some (.int (mostOf k : Nat)), some (.obj a), o7, o8, o9]) _
    refine bindW_of rfl ?_
    show B__law_due_6 [some v1, some (.str k.nm), some v3, oW, some (.str (mkS [48 + c])), some (.int (mostOf k : Nat)), some (.obj a), some (.int (acc.length : Nat)), some (.str (mkS x)), o9] (putM ms0 a (some acc)) _
    rw [qB__law_due_6]
    have hxl := hx x List.mem_cons_self
    have e1 : iteO (cmpM 1 .Lt (some (.int (acc.length : Nat))) (some (.int (mostOf k : Nat)))) ((argC (some (.str k.nm)) (argC ((argC (some (.str (mkS [48 + c]))) arg0).bind gInt) (argC (some (.int (acc.length : Nat))) (argC (bind2 (some (.str (mkS x))) (strM " ") splitD) arg0)))).bind g__law_line_of) (some D.non) = some (optD (placeT k (c : Nat) acc.length x)) := by
      have f1 : cmpM 1 .Lt (some (.int (acc.length : Nat))) (some (.int (mostOf k : Nat))) = some (decide (acc.length < mostOf k)) := by
        show some (decide (((acc.length : Nat) : Int) < (mostOf k : Nat))) = _
        exact congrArg some (decide_eq_decide.mpr (by omega))
      have f2 : (argC (some (D.str (mkS [48 + c]))) arg0).bind gInt = some (.int (c : Nat)) := gInt_fig hc
      rw [f1, f2, split32]
      have f3 : (argC (some (.str k.nm)) (argC (some (.int (c : Nat))) (argC (some (.int (acc.length : Nat))) (argC (some (.lst (strL (splitL 32 x)))) arg0)))).bind g__law_line_of = some (optD (lineT k (c : Nat) (acc.length : Nat) (splitL 32 x))) := line_of (line32 hxl)
      rw [f3]
      unfold placeT
      by_cases q : acc.length < mostOf k
      · rw [decide_eq_true q, if_pos q]
        rfl
      · rw [decide_eq_false q, if_neg q]
        rfl
    refine bindW_of e1 (bindW_of (is_optD fun d hd => line_non hd) ?_)
    unfold scan at h
    cases q : placeT k (c : Nat) acc.length x with
    | none =>
      rw [q] at h
      have h : ∀ ms', R (.rt (.tup [.int ((acc.length + 2 : Nat)), .non])) ms' := h
      exact ifB_t (bindW_of rfl (h _))
    | some d =>
      rw [q] at h
      refine ifB_f ?_
      rw [putM_same]
      refine bindW_of rfl (bindW_of rfl ⟨?_, ?_⟩)
      · rw [List.length_cons] at hl
        omega
      · rw [putM_put]
        have e2 : (acc ++ [d]).length = acc.length + 1 := by rw [List.length_append]; rfl
        have := due_loop hc h0 (R := R) (v1 := v1) (v3 := v3) (oW := oW) (k := k) r (acc ++ [d]) (some (.int (acc.length : Nat))) (some (.str (mkS x))) (some (optD (some d))) (by rw [List.length_append]; rw [List.length_cons] at hl; show acc.length + 1 + r.length ≤ 90000; omega) (fun y hy => hx y (List.mem_cons_of_mem _ hy)) ?_
        · rw [e2] at this
          exact this
        · rw [e2]
          cases q2 : scan (placeT k (c : Nat)) (acc.length + 1) r with
          | inl n =>
            rw [q2] at h
            exact h
          | inr ds =>
            rw [q2] at h
            have h : ∀ o7 o8 o9, C__law_due_6 [some v1, some (.str k.nm), some v3, oW, some (.str (mkS [48 + c])), some (.int (mostOf k : Nat)), some (.lst (acc ++ d :: ds)), o7, o8, o9] ms0 R := h
            show ∀ o7 o8 o9, C__law_due_6 [some v1, some (.str k.nm), some v3, oW, some (.str (mkS [48 + c])), some (.int (mostOf k : Nat)), some (.lst (acc ++ [d] ++ ds)), o7, o8, o9] ms0 R
            rw [List.append_assoc]
            exact h
theorem prog_eq (k : Kd) : cmpM 1 .Eq (some (.str k.nm)) (strM "program") = some k.isProg := by cases k <;> kernel_rfl
theorem word_ne (k : Kd) : cmpM 1 .Eq (some (.str k.nm)) (strM "word") = some false := by cases k <;> kernel_rfl
theorem most_of (k : Kd) : bindO (some (D.str k.nm)) (lookD1 [("table", 40), ("program", 200), ("tally", 400), ("form", 400), ("runs", 12)]) = some (.int (mostOf k : Nat)) := by cases k <;> kernel_rfl
theorem nm_len (k : Kd) : (tl k.nm).length ≤ 7 := by cases k <;> decide +kernel
/-- the law's look at a first line -/
theorem head_law {k : Kd} {h : List Nat} : orO (cmpM 1 .NotEq (some (.str (mkS (h.take ((tl k.nm).length + 1))))) (some (.str (mkS (tl k.nm ++ [32]))))) (cmpM 1 .NotIn (some (.str (mkS (h.drop ((tl k.nm).length + 1))))) (tupM (argC (strM "0") (argC (strM "1") (argC (strM "2") (argC (strM "3") arg0)))))) = some (headT k h).isNone ∧
    ∀ c, headT k h = some c → h.drop ((tl k.nm).length + 1) = [48 + c] := by
  generalize hn : (tl k.nm).length + 1 = n
  have e1 : cmpM 1 .NotEq (some (.str (mkS (h.take n)))) (some (.str (mkS (tl k.nm ++ [32])))) = some (!decide (h.take n = tl k.nm ++ [32])) := by
    show some (!decide (mkS (h.take n) = mkS (tl k.nm ++ [32]))) = _
    rw [dec_eq]
    rfl
  have e2 : cmpM 1 .NotIn (some (.str (mkS (h.drop n)))) (tupM (argC (strM "0") (argC (strM "1") (argC (strM "2") (argC (strM "3") arg0))))) = some (!(decide (h.drop n = [48]) || (decide (h.drop n = [49]) || (decide (h.drop n = [50]) || decide (h.drop n = [51]))))) := by
    show some (!decide (mkS (h.drop n) ∈ [("0" : Str), "1", "2", "3"])) = _
    have m0 : ("0" : Str) = mkS [48] := by decide +kernel
    have m1 : ("1" : Str) = mkS [49] := by decide +kernel
    have m2 : ("2" : Str) = mkS [50] := by decide +kernel
    have m3 : ("3" : Str) = mkS [51] := by decide +kernel
    have inj : ∀ l, (mkS (h.drop n) = mkS l) ↔ h.drop n = l := fun l => mkS_eq
    congr 2
    rw [← Bool.decide_or, ← Bool.decide_or, ← Bool.decide_or]
    refine decide_eq_decide.mpr ?_
    rw [m0, m1, m2, m3]
    simp only [List.mem_cons, List.not_mem_nil, or_false, inj]
  rw [e1, e2, orO_s]
  have up : ∀ c, h = tl k.nm ++ [32, c] ↔ (h.take n = tl k.nm ++ [32] ∧ h.drop n = [c]) := fun c => by
    constructor
    · intro e
      have e' : h = (tl k.nm ++ [32]) ++ [c] := by rw [e, List.append_assoc]; rfl
      have hl : (tl k.nm ++ [32]).length = n := by rw [List.length_append, ← hn]; rfl
      rw [e', ← hl]
      exact ⟨List.take_left' rfl, List.drop_left' rfl⟩
    · intro ⟨a, b⟩
      rw [← List.take_append_drop n h, a, b, List.append_assoc]
      rfl
  have no : ∀ c, ¬ h.drop n = [c] → ¬ h = tl k.nm ++ [32, c] := fun c z e => z ((up c).mp e).2
  have no' : ∀ c, ¬ h.take n = tl k.nm ++ [32] → ¬ h = tl k.nm ++ [32, c] := fun c z e => z ((up c).mp e).1
  unfold headT
  by_cases q : h.take n = tl k.nm ++ [32]
  · by_cases q0 : h.drop n = [48]
    · rw [if_pos ((up 48).mpr ⟨q, q0⟩), decide_eq_true q, decide_eq_true q0]
      exact ⟨rfl, fun c e => by cases e; exact q0⟩
    rw [if_neg (no _ q0)]
    by_cases q1 : h.drop n = [49]
    · rw [if_pos ((up 49).mpr ⟨q, q1⟩), decide_eq_true q, decide_eq_false q0, decide_eq_true q1]
      exact ⟨rfl, fun c e => by cases e; exact q1⟩
    rw [if_neg (no _ q1)]
    by_cases q2 : h.drop n = [50]
    · rw [if_pos ((up 50).mpr ⟨q, q2⟩), decide_eq_true q, decide_eq_false q0, decide_eq_false q1, decide_eq_true q2]
      exact ⟨rfl, fun c e => by cases e; exact q2⟩
    rw [if_neg (no _ q2)]
    by_cases q3 : h.drop n = [51]
    · rw [if_pos ((up 51).mpr ⟨q, q3⟩), decide_eq_true q, decide_eq_false q0, decide_eq_false q1, decide_eq_false q2, decide_eq_true q3]
      exact ⟨rfl, fun c e => by cases e; exact q3⟩
    rw [if_neg (no _ q3), decide_eq_true q, decide_eq_false q0, decide_eq_false q1, decide_eq_false q2, decide_eq_false q3]
    exact ⟨rfl, fun c e => by cases e⟩
  · rw [if_neg (no' _ q), if_neg (no' _ q), if_neg (no' _ q), if_neg (no' _ q), decide_eq_false q]
    exact ⟨rfl, fun c e => by cases e⟩
theorem sl_takeS (h : List Nat) (n : Nat) : slM (some (.str (mkS h))) (some none) (some (some (n : Int))) = some (.str (mkS (h.take n))) := by
  show some (D.str (cutS (mkS h) none (some (n : Int)))) = _
  rw [cut_mk, HT.sIx_none, HT.sIx_nat, len_mkS]
  congr 3
  rw [List.drop_zero, Nat.sub_zero]
  by_cases q : n ≤ h.length
  · rw [Nat.min_eq_left q]
  · rw [Nat.min_eq_right (by omega), List.take_of_length_le (Nat.le_refl _), List.take_of_length_le (by omega)]
theorem sl_dropS (h : List Nat) (n : Nat) : slM (some (.str (mkS h))) (some (some (n : Int))) (some none) = some (.str (mkS (h.drop n))) := by
  show some (D.str (cutS (mkS h) (some (n : Int)) none)) = _
  rw [cut_mk, HT.sIx_none, HT.sIx_nat, len_mkS]
  congr 3
  by_cases q : n ≤ h.length
  · rw [Nat.min_eq_left q, List.take_of_length_le (by rw [List.length_drop]; exact Nat.le_refl _)]
  · rw [Nat.min_eq_right (by omega), List.drop_of_length_le (Nat.le_refl _), List.drop_of_length_le (by omega), List.take_nil]
theorem due_text {k : Kd} {l : List Nat} (hl : l.length ≤ 2000) {ms : Ms} {R0 : D → Ms → Prop} (hR : ∀ ms, R0 (dueD (textR k l)) ms) : semN0 pn__law_due 40 40 s__law_due 2 [.str (mkS l), .str k.nm] ms R0 := by
  unfold semN0
  rw [mqN__law_due]
  unfold mN__law_due
  have e2 : bind2 (some (.str (mkS l))) (strM "\n") splitD = some (.lst (strL (splitL 10 l))) := split_s 10 l (by decide) _ sl10
  refine bindW_of e2 (bindW_of (word_ne k) (ifB_f ?_))
  have hsp := splitL_len 10 l
  have hmem : ∀ x ∈ splitL 10 l, x.length ≤ l.length := fun x hx => (splitL_mem hx).1
  have hsum := sum_lines 10 l
  unfold textR textT at hR
  cases q : splitL 10 l with
  | nil => exact absurd q (splitL_ne 10 l)
  | cons h r =>
    rw [q] at hR hsp hmem hsum
    have hR : ∀ ms, R0 (dueD (finR k (match headT k h with
      | none => .rz (.int 1)
      | some c => match scan (placeT k (c : Nat)) 0 r with
        | .inl n => .rz (.int ((n + 2 : Nat)))
        | .inr ds => .ok (.tup [.int (c : Nat), .lst ds])))) ms := hR
    have e3 : ixM (some (.lst (strL (h :: r)))) (intM 0) = some (.str (mkS h)) := strL_ix (i := 0) rfl
    have e4 : bindO (bind2 ((argC (some (D.str k.nm)) arg0).bind gLen) (intM 1) (binD .Add)) intP = some (some (((tl k.nm).length + 1 : Nat) : Int)) := by
      show some (some (((k.nm.length : Nat) : Int) + 1)) = _
      rw [tl_len]
      rfl
    rw [e3, e4, sl_takeS, sl_dropS]
    have e5 : bind2 (some (.str k.nm)) (strM " ") (binD .Add) = some (.str (mkS (tl k.nm ++ [32]))) := by
      have h1 : k.nm.length + (" " : Str).length ≤ sL := by
        have := nm_len k
        rw [tl_len] at this
        have e : (" " : Str).length = 1 := by decide +kernel
        unfold sL
        omega
      have h2 : binD .Add (.str k.nm) (.str " ") = some (.str (k.nm ++ " ")) := if_pos h1
      show binD .Add (.str k.nm) (.str " ") = _
      rw [h2, sl32]
      congr 2
      rw [← mkS_tl k.nm, mkS_app, tl_mkS]
    rw [e5]
    obtain ⟨f1, f2⟩ := head_law (k := k) (h := h)
    refine bindW_of rfl (bindW_of f1 ?_)
    cases q2 : headT k h with
    | none =>
      rw [q2] at hR
      exact ifB_t (bindW_of rfl (hR _))
    | some c =>
      rw [q2] at hR
      have hR : ∀ ms, R0 (dueD (finR k (match scan (placeT k (c : Nat)) 0 r with
        | .inl n => .rz (.int ((n + 2 : Nat)))
        | .inr ds => .ok (.tup [.int (c : Nat), .lst ds])))) ms := hR
      rw [f2 c q2]
      refine ifB_f (bindW_of (most_of k) fun a ha => ?_)
      have e6 : bindO (slM (some (.lst (strL (h :: r)))) (bindO (intM 1) intP) (some none)) enumO = some (((strL r).zipIdx 0).map fun z => D.tup [.int (z.2 : Nat), z.1]) := by
        have : slM (some (.lst (strL (h :: r)))) (bindO (intM 1) intP) (some none) = some (.lst (strL r)) := strL_drop (h :: r) 1
        rw [this]
        rfl
      refine bindW_of e6 ?_
      have hc := headT_le q2
      rw [List.length_cons] at hsp
      have hsum : h.length + sumL (r.map (·.length)) ≤ l.length := hsum
      refine due_loop hc ha r [] none none none (by show 0 + r.length ≤ 90000; omega) (fun x hx => by
        have := hmem x (List.mem_cons_of_mem _ hx)
        unfold sL
        omega) ?_
      show match scan (placeT k (c : Nat)) 0 r with
        | .inl n => ∀ ms', R0 (.tup [.int ((n + 2 : Nat)), .non]) ms'
        | .inr ds => ∀ o7 o8 o9, C__law_due_6 [some (.str (mkS l)), some (.str k.nm), some (.lst (strL (h :: r))), none, some (.str (mkS [48 + c])), some (.int (mostOf k : Nat)), some (.lst ([] ++ ds)), o7, o8, o9] ms (outR (okR R0))
      cases q3 : scan (placeT k (c : Nat)) 0 r with
      | inl n =>
        rw [q3] at hR
        exact hR
      | inr ds =>
        rw [q3] at hR
        have hR : ∀ ms, R0 (dueD (match k.isProg && ds.isEmpty with
          | true => .rz (.int 2)
          | false => .ok ((thingD k (c : Nat) ds).getD .non))) ms := hR
        intro o7 o8 o9
        show C__law_due_6 [some (.str (mkS l)), some (.str k.nm), some (.lst (strL (h :: r))), none, some (.str (mkS [48 + c])), some (.int (mostOf k : Nat)), some (.lst ds), o7, o8, o9] ms (outR (okR R0))
        rw [qC__law_due_6, prog_eq, eq_nil, andO_s]
        refine bindW_of rfl ?_
        cases q4 : k.isProg && ds.isEmpty with
        | true =>
          rw [q4] at hR
          exact ifB_t (bindW_of rfl (hR _))
        | false =>
          rw [q4] at hR
          obtain ⟨th, h1, _⟩ := scan_thing hc q3 (by omega) q4
          have hR : ∀ ms, R0 (.tup [.int 0, (thingD k (c : Nat) ds).getD .non]) ms := hR
          rw [h1] at hR
          refine ifB_f ?_
          have g2 : (argC (some (D.str (mkS [48 + c]))) arg0).bind gInt = some (.int (c : Nat)) := gInt_fig hc
          have g3 : (argC (some (.str k.nm)) (argC (some (.int (c : Nat))) (argC (some (.lst ds)) arg0))).bind g__law_thing = some th := by
            show (match kdOf k.nm with
              | some k => thingD k (c : Nat) ds
              | none => none) = _
            rw [kdOf_nm]
            exact h1
          rw [g2, g3]
          exact bindW_of rfl (hR _)
theorem due_word {l : List Nat} (hl : l.length ≤ 2000) {ms : Ms} {R0 : D → Ms → Prop} (hR : ∀ ms, R0 (dueD (wordR l)) ms) : semN0 pn__law_due 40 40 s__law_due 2 [.str (mkS l), .str "word"] ms R0 := by
  unfold semN0
  rw [mqN__law_due]
  unfold mN__law_due
  have e2 : bind2 (some (.str (mkS l))) (strM "\n") splitD = some (.lst (strL (splitL 10 l))) := split_s 10 l (by decide) _ sl10
  refine bindW_of e2 (bindW_of (d := true) (by kernel_rfl) (ifB_t ?_))
  have hmem : ∀ x ∈ splitL 10 l, x.length ≤ l.length := fun x hx => (splitL_mem hx).1
  unfold wordR at hR
  cases q : splitL 10 l with
  | nil => exact absurd q (splitL_ne 10 l)
  | cons h r =>
    rw [q] at hR hmem
    have hh := hmem h List.mem_cons_self
    have e3 : ixM (some (.lst (strL (h :: r)))) (intM 0) = some (.str (mkS h)) := strL_ix (i := 0) rfl
    have e4 : (argC (intM 1) (argC (ixM (some (.lst (strL (h :: r)))) (intM 0)) arg0)).bind g__law_word_of = some (optW (wordT 1 h)) := by
      rw [e3]
      exact g_word_s 1 (by unfold sL; omega)
    refine bindW_of e4 ?_
    have e5 : (argC (some (.lst (strL (h :: r)))) arg0).bind gLen = some (.int ((r.length + 1 : Nat))) := by
      show some (D.int ((strL (h :: r)).length : Nat)) = _
      rw [strL_len]
      rfl
    rw [e5, isW]
    have e6 : cmpM 1 .Gt (some (.int ((r.length + 1 : Nat)))) (intM 1) = some (!r.isEmpty) := by
      show some (decide ((1 : Int) < ((r.length + 1 : Nat)))) = _
      cases r with
      | nil => rfl
      | cons a t => rw [decide_eq_true (by rw [List.length_cons]; omega)]; rfl
    rw [e6]
    have hR : ∀ ms, R0 (dueD (match wordT 1 h with
      | none => .rz (.int 1)
      | some w => match r.isEmpty with
        | true => .ok (wordD w)
        | false => .rz (.int 2))) ms := hR
    cases q2 : wordT 1 h with
    | none =>
      rw [q2] at hR
      exact bindW_of rfl (hR _)
    | some w =>
      rw [q2] at hR
      cases r with
      | nil => exact bindW_of rfl (hR _)
      | cons a t => exact bindW_of rfl (hR _)
theorem due_g {ds : List D} {d : D} (h : g__law_due ds = some d) : semN0 pn__law_due 40 40 s__law_due 2 ds noMs (fun d' _ => d' = d) := by
  unfold g__law_due at h
  split at h
  · rename_i t w
    split at h
    · rename_i hl
      obtain ⟨l, rfl⟩ : ∃ l, t = mkS l := ⟨tl t, (mkS_tl t).symm⟩
      rw [len_mkS] at hl
      split at h
      · rename_i k hk
        cases h
        obtain rfl := kdOf_inv hk
        exact due_text hl fun _ => rfl
      · split at h
        · rename_i hw
          cases h
          subst hw
          exact due_word hl fun _ => rfl
        · cases h
    · cases h
  · cases h
end Ag
set_option Elab.async false
set_option linter.all false
set_option autoImplicit false
set_option maxRecDepth 100000
set_option maxHeartbeats 1000000
namespace Ag
open PySem PySem.Spec L2 TL
theorem is_integer_g {ds : List D} {d : D} (h : g_is_integer ds = some d) : semD ⟨0, N_is_integer, ftOf fl0, gcB⟩ 40 40 s_is_integer 1 ds = some d := by
  have h' := h
  unfold g_is_integer at h
  split at h
  · rw [semD_K, mq_is_integer]; exact is_integer_plain h'
  · rw [semD_K, mq_is_integer]; exact is_integer_plain h'
  · cases h
theorem is_list_g {ds : List D} {d : D} (h : g_is_list ds = some d) : semD ⟨0, N_is_list, ftOf fl0, gcB⟩ 40 40 s_is_list 1 ds = some d := by
  have h' := h
  unfold g_is_list at h
  split at h
  · rw [semD_K, mq_is_list]; exact is_list_plain h'
  · rw [semD_K, mq_is_list]; exact is_list_plain h'
  · cases h
theorem count_told_g {ds : List D} {d : D} (h : g_count_told ds = some d) : semD ⟨0, N_count_told, ftOf fl0, gcB⟩ 40 40 s_count_told 1 ds = some d := by
  unfold g_count_told at h
  split at h
  · rename_i s
    cases h
    rw [semD_K, mq_count_told]
    have := count_plain (tl s)
    rw [mkS_tl] at this
    exact this
  · cases h
theorem _law_count_g {ds : List D} {d : D} (h : g_count_told ds = some d) : semD ⟨0, N__law_count, ftOf fl0, gcB⟩ 40 40 s__law_count 1 ds = some d := by
  unfold g_count_told at h
  split at h
  · rename_i s
    cases h
    rw [semD_K, mq__law_count]
    have := law_count_plain (tl s)
    rw [mkS_tl] at this
    exact this
  · cases h
theorem divisor_of_g {ds : List D} {d : D} (h : g_divisor_of ds = some d) : semD ⟨0, N_divisor_of, ftOf fl1, gcB⟩ 40 40 s_divisor_of 2 ds = some d := by
  unfold g_divisor_of gGcd at h
  split at h
  · cases h
    rw [semD_K, mq_divisor_of]
    rfl
  · cases h
theorem is_count_g {ds : List D} {d : D} (h : g_is_count ds = some d) : semD ⟨0, N_is_count, ftOf fl1, gcB⟩ 40 40 s_is_count 1 ds = some d := by
  unfold g_is_count at h
  split at h
  · cases h
    rw [semD_K, mq_is_count]
    rfl
  · cases h
theorem integer_told_g {ds : List D} {d : D} (h : g_integer_told ds = some d) : semD ⟨1, N_integer_told, ftOf fl3, gcB⟩ 40 40 s_integer_told 1 ds = some d := by
  unfold g_integer_told at h
  split at h
  · rename_i s
    cases h
    rw [semD_K, mq_integer_told]
    have := integer_plain (tl s)
    rw [mkS_tl] at this
    exact this
  · cases h
theorem number_told_g {ds : List D} {d : D} (h : g_number_told ds = some d) : semD ⟨1, N_number_told, ftOf fl4, gcB⟩ 40 40 s_number_told 1 ds = some d := by
  unfold g_number_told at h
  split at h
  · rename_i s
    cases h
    rw [semD_K, mq_number_told]
    have := number_plain (tl s)
    rw [mkS_tl] at this
    exact this
  · cases h
theorem _law_number_g {ds : List D} {d : D} (h : g_number_told ds = some d) : semD ⟨1, N__law_number, ftOf fl4, gcB⟩ 40 40 s__law_number 1 ds = some d := by
  unfold g_number_told at h
  split at h
  · rename_i s
    cases h
    rw [semD_K, mq__law_number]
    have := law_number_plain (tl s)
    rw [mkS_tl] at this
    exact this
  · cases h
theorem letter_told_g {ds : List D} {d : D} (h : g_letter_told ds = some d) : semD ⟨1, N_letter_told, ftOf fl5, gcB⟩ 40 40 s_letter_told 2 ds = some d := by
  unfold g_letter_told at h
  split at h
  · rename_i c s
    cases h
    rw [semD_K, mq_letter_told]
    have := letter_plain c (tl s)
    rw [mkS_tl] at this
    exact this
  · cases h
theorem _law_letter_of_g {ds : List D} {d : D} (h : g_letter_told ds = some d) : semD ⟨1, N__law_letter_of, ftOf fl5, gcB⟩ 40 40 s__law_letter_of 2 ds = some d := by
  unfold g_letter_told at h
  split at h
  · rename_i c s
    cases h
    rw [semD_K, mq__law_letter_of]
    have := law_letter_plain c (tl s)
    rw [mkS_tl] at this
    exact this
  · cases h
theorem word_told_g {ds : List D} {d : D} (h : g_word_told ds = some d) : semD ⟨1, N_word_told, ftOf fl6, gcB⟩ 40 40 s_word_told 2 ds = some d := by
  unfold g_word_told at h
  split at h
  · rename_i c s
    split at h
    · rename_i hl
      cases h
      rw [semD_K, mq_word_told]
      have := word_plain c (tl s) (by rw [tl_len]; exact hl)
      rw [mkS_tl] at this
      exact this
    · cases h
  · cases h
theorem _law_word_of_g {ds : List D} {d : D} (h : g_word_told ds = some d) : semD ⟨1, N__law_word_of, ftOf fl6, gcB⟩ 40 40 s__law_word_of 2 ds = some d := by
  unfold g_word_told at h
  split at h
  · rename_i c s
    split at h
    · rename_i hl
      cases h
      rw [semD_K, mq__law_word_of]
      have := law_word_plain c (tl s) (by rw [tl_len]; exact hl)
      rw [mkS_tl] at this
      exact this
    · cases h
  · cases h
theorem strL_un {ds : List D} {ss : List Str} (h : D.allStr ds = some ss) : ds = strL (unS ss) := by
  rw [allStr_eq h]
  unfold strL unS
  rw [List.map_map]
  refine List.map_congr_left fun s _ => ?_
  show D.str s = D.str (mkS (tl s))
  rw [mkS_tl]
theorem unN_inv {d : D} {o : Option Nat} (h : unN d = some o) : d = optN o := by
  unfold unN at h
  split at h
  · cases h; rfl
  · split at h
    · rename_i i q
      cases h
      show D.int _ = D.int ((i.toNat : Nat) : Int)
      rw [Int.toNat_of_nonneg q]
    · cases h
  · cases h
theorem unNs_inv : ∀ {ds : List D} {os : List (Option Nat)}, unNs ds = some os → ds = os.map optN
  | [], os, h => by cases h; rfl
  | d :: r, os, h => by
    unfold unNs at h
    split at h
    · rename_i o os' h1 h2
      cases h
      rw [List.map_cons, unN_inv h1, ← unNs_inv h2]
    · cases h
theorem numbers_told_g {ds : List D} {d : D} (h : g_numbers_told ds = some d) : semD ⟨1, N_numbers_told, ftOf fl7, gcB⟩ 40 40 s_numbers_told 2 ds = some d := by
  unfold g_numbers_told at h
  split at h
  · rename_i c es
    obtain ⟨ss, h1, h2⟩ := Option.map_eq_some_iff.mp h
    subst h2
    rw [semD_K, mq_numbers_told, strL_un h1]
    exact numbers_plain c (unS ss)
  · cases h
theorem _law_numbers_g {ds : List D} {d : D} (h : g__law_numbers ds = some d) : semD ⟨1, N__law_numbers, ftOf fl7, gcB⟩ 40 40 s__law_numbers 1 ds = some d := by
  unfold g__law_numbers at h
  split at h
  · rename_i es
    obtain ⟨ss, h1, h2⟩ := Option.map_eq_some_iff.mp h
    subst h2
    rw [semD_K, mq__law_numbers, strL_un h1]
    exact law_numbers_plain (unS ss)
  · cases h
theorem step_of_two_g {ds : List D} {d : D} (h : g_step_of_two ds = some d) : semD ⟨1, N_step_of_two, ftOf fl7, gcB⟩ 40 40 s_step_of_two 3 ds = some d := by
  unfold g_step_of_two at h
  split at h
  · rename_i w es m
    obtain ⟨os, h1, h2⟩ := Option.map_eq_some_iff.mp h
    subst h2
    rw [semD_K, mq_step_of_two, unNs_inv h1]
    have := step_of_two_plain (tl w) m os
    rw [mkS_tl] at this
    exact this
  · cases h
theorem _law_letter_words_g {ds : List D} {d : D} (h : g__law_letter_words ds = some d) : semD ⟨1, N__law_letter_words, ftOf fl0, gcB⟩ 40 40 s__law_letter_words 1 ds = some d := by
  unfold g__law_letter_words at h
  split at h
  · rw [semD_K, mq__law_letter_words]
    exact h
  · cases h
end Ag
set_option Elab.async false
set_option linter.all false
set_option autoImplicit false
set_option maxRecDepth 100000
set_option maxHeartbeats 1000000
namespace Ag
open PySem PySem.Spec L2 TL
/-- InvalidText.__init__ -/
def spT (C : Addr) : Sp := fun vs H Q _ => ∃ a v, vs = [.ref a, v] ∧ H a = some (exo a C none) ∧ ∀ d, H d = none → d ≠ a → Q .non (upd (upd H d (exd d (lnF v))) a (exo a C (some d)))
structure TxF (K : PySem.W.Frag) (mg : Str → Option Value) (C : Addr) : Prop where
  oex : OexC K C
  no : PySem.W.findIn K (.ref C) "line" = some none
  mg : mg "InvalidText" = some (.ref C)
theorem sc_T : FnScope ["self", "line"] ["self", "line"] (defScope s_InvalidText_init) := ⟨rfl, rfl, rfl, by decide +kernel, rfl, by decide +kernel, by decide +kernel⟩
theorem fn_T {c : Ctx} {C : Addr} (T : TxF c.K c.mg C) {x qual : Str} {f : Addr} {fd : FuncData}
    (F : ∃ (oc : Value) (od : Option Addr) (dV kV doc pm : Value) (an : Option Addr) (cdv ct : Value) (osl : Array (Option Value)), fd = PySem.W.fnOf x qual (defArgs s_InvalidText_init) (defBody s_InvalidText_init) (defScope s_InvalidText_init) dV kV doc pm an cdv ct ∧ c.K.lookup f = some ⟨oc, od, .func fd, osl⟩ ∧ PySem.W.codeIn c.K cdv qual = true) :
    FnOk c.P c.w c.K c.mg c.base CX0 1 f fd ["self", "line"] (spT C) := by
  obtain ⟨oc, od, dV, kV, doc, pm, an, cdv, ct, osl, rfl, lk, hcd⟩ := F
  refine fn_of lk hcd sc_T (fun vs H Q E ⟨a, v, e, _⟩ => by rw [e]; rfl) fun A outer s H vs Q E hr ⟨a, v, e, ha, hq⟩ => ?_
  subst e
  refine ⟨_, (pss_one (ps_ost (f := "line") (pv 0) (pv 1))).nox, ?_⟩
  exact ⟨v, rfl, _, rfl, a, C, rfl, T.oex, T.no, .inl ⟨ha, fun d hd hne => hq d hd hne⟩⟩
theorem rz_T {c : Ctx} {C fI : Addr} {fd : FuncData} (T : TxF c.K c.mg C) (iC : PySem.W.findIn c.K (.ref C) "__init__" = some (some (.ref fI))) (tI : PySem.W.typeIn c.K (.ref fI) = some (.type "function"))
    (F : FnOk c.P c.w c.K c.mg c.base CX0 1 fI fd ["self", "line"] (spT C)) (hb : Binds c.K fd ["self", "line"] []) (hk : 2 ≤ c.k) {N : List Str} {X : Cx} (g : Good c N X) (e : Expr) (px pos : Pos) (ta : TA) (hg : glbK X.env.scope "InvalidText" = true) (hst : notStar e = true) (ha : PA X [e] ta) :
    PMk X (.Call (.Name "InvalidText" px) [e] [] pos) (fun σ H Q => ta σ H fun vs H1 => ∃ v, vs = [v] ∧ ∀ d, H1 d = none → Q (.ref C) (some d) (upd H1 d (.xd (lnF v)))) := by
  have F' : FnOk X.prog X.w X.K X.mg X.base CX0 1 fI fd ["self", "line"] (spT C) := by rw [g.prog, g.w, g.K, g.mg, g.base]; exact F
  have m := pmk_oex (C := C) (by rw [g.K]; exact T.oex) (by rw [g.K]; exact iC) (by rw [g.K]; exact tI) F' (g.room.mono hk) (by rw [g.K]; exact hb) .nil pass0 (glb_of hg) (by rw [g.mg]; exact T.mg) (pa_mono ha) (p := px) (pos := pos) (by decide) (starEach_ok hst _ _) rfl
  intro pins s σ H Q I h
  refine m pins s σ H Q I ⟨_, h, fun vs H1 ⟨v, e, hq⟩ => ?_⟩
  subst e
  refine ⟨by show 1 ≤ 1000; decide, fun a ha => ?_⟩
  refine ⟨a, v, rfl, upd_same, fun d hd hne => ⟨rfl, d, lnF v, upd_same, ?_, ?_, ?_⟩⟩
  · rw [upd_ne hne, upd_same]
  · rw [upd_ne hne] at hd
    exact hd
  · rw [upd_ne hne] at hd
    have e : upd (del (upd (upd (upd H1 a (exo a C none)) d (exd d (lnF v))) a (exo a C (some d))) a) d (.xd (lnF v)) = upd H1 d (.xd (lnF v)) := by
      funext b
      by_cases q : b = d
      · subst q
        rw [upd_same, upd_same]
      · rw [upd_ne q, upd_ne q]
        by_cases z : b = a
        · subst z
          rw [del_same, ha]
        · rw [del_ne z, upd_ne z, upd_ne q, upd_ne z]
    rw [e]
    exact hq d hd
end Ag
set_option Elab.async false
set_option linter.all false
set_option autoImplicit false
set_option maxRecDepth 100000
set_option maxHeartbeats 1000000
namespace Ag
open PySem PySem.Spec L2 TL
theorem iteT' {c : Bool} {A B : Prop} (hc : c = true) (h : A) : if c = true then A else B := by
  rw [if_pos hc]
  exact h
theorem iteF' {c : Bool} {A B : Prop} (hc : c = false) (h : B) : if c = true then A else B := by
  rw [hc, if_neg Bool.false_ne_true]
  exact h
theorem sc_draw : FnScope ["_law_pot_here", "_law_size", "_law_digit"] ["_law_pot_here", "_law_size"] (defScope s__law_draw) := ⟨rfl, rfl, rfl, by decide +kernel, rfl, by decide +kernel, by decide +kernel⟩
theorem fn_draw {c : Ctx} (md : c.mg "divmod" = none) (mi : c.mg "int" = none) {x qual : Str} {f : Addr} {fd : FuncData} (F : Fun c.K x qual s__law_draw f fd) : FnOk c.P c.w c.K c.mg c.base CX0 1 f fd ["_law_pot_here", "_law_size"] (spN c.K w__law_draw) := by
  refine F.ok sc_draw (fun vs H Q E ⟨G, ds, ms, R, hs, k, r, hg, hq⟩ => ?_) fun cdv A outer s H vs Q E hr ⟨G, ds, ms, R, hs, k, r, hg, hq⟩ => ?_
  · obtain ⟨x, es, p, q, rfl, h1, h2, ⟨n, rfl, h3, h4⟩, h5⟩ := potFn_inv hg
    rw [r.length]
    rfl
  · obtain ⟨x, es, p, q, rfl, h1, h2, ⟨n, rfl, h3, h4⟩, h5⟩ := potFn_inv hg
    obtain ⟨v, u, rfl, rv, ru⟩ := reps_two r
    obtain rfl := rv.of_obj
    obtain rfl := ru.of_int
    obtain ⟨hG, vs, hH, rp⟩ := k x _ h1
    obtain ⟨v1, v2, rfl, r1, r2⟩ := reps_two rp
    obtain rfl := r1.of_int
    obtain rfl := r2.of_int
    have hN := sc_draw.nd
    refine ⟨_, pss_cons (ps_if (pt_cmpR op_gt (pe_ix ix_list (pv 0) pe_int (fun _ _ => rfl)) pe_int rfl)
        (pss_cons (ps_asg (pe_callB call_divmod (by rfl) md (by decide +kernel) (pa_cons (pe_ix ix_list (pv 0) pe_int (fun _ _ => rfl)) (pa_cons (pv 1) pa_nil)))
          (pg_tup rfl (pgs_cons (pg_sub (pv 0) pe_int set_list) (pgs_cons (pg_name (i := 2) hN rfl (.inl rfl)) pgs_nil))))
        (pss_one (ps_ret (pv 2)))) pss_nil)
      (pss_cons (ps_asg (pe_op op_mod (pe_callTy call_int1 (by rfl) mi (by decide +kernel) (pa_cons (pe_op op_add (pe_op op_mul (pe_ix ix_list (pv 0) pe_int (fun _ _ => rfl)) pe_int) pe_int) pa_nil)) pe_int) (pg_sub (pv 0) pe_int set_list))
      (pss_one (ps_ret (pe_op op_mod (pe_callTy call_int1 (by rfl) mi (by decide +kernel) (pa_cons (pe_op op_fdiv (pe_op op_mod (pe_callTy call_int1 (by rfl) mi (by decide +kernel) (pa_cons (pe_op op_mul (pe_ix ix_list (pv 0) pe_int (fun _ _ => rfl)) (pe_ix ix_list (pv 0) pe_int (fun _ _ => rfl))) pa_nil)) pe_int) pe_int) pa_nil)) (pv 1))))), ?_⟩
    refine ⟨_, rfl, x, _, 0, _, rfl, rfl, SqL.of hH, rfl, p, 0, rfl, rfl, _, rfl, ?_⟩
    by_cases hp : 0 < p
    · refine iteT' (decide_eq_true hp) ?_
      refine ⟨_, rfl, x, _, 0, _, rfl, rfl, SqL.of hH, rfl, _, rfl, p, n, rfl, ⟨h3, by omega⟩, fun t ht => ?_⟩
      have hne : x ≠ t := fun e => by rw [e, ht] at hH; cases hH
      refine ⟨t, _, rfl, SqT.of upd_same, rfl, _, _, rfl, _, rfl, x, _, 0, 0, rfl, rfl, (by rw [upd_ne hne]; exact hH), rfl, _, _, rfl, rfl, _, rfl, ?_⟩
      have w1 : Grow G H G (upd H t (.tup [.int (p / n), .int (p % n)])) := Grow.same hs (Ext.upd ht)
      obtain ⟨k2, w2⟩ := ms_put w1.sub (k.grow w1) h1 (vs := [.int (p / n), .int q]) (ds := potD (p / n) q) (.cons (.int _) (.cons (.int _) .nil))
      exact hq _ _ _ G _ (h5 (.int (p % n)) (p / n) q ⟨n, _, rfl, rfl, Int.emod_nonneg _ (by omega), Int.emod_lt_of_pos _ h3⟩ h2) (GrowM.trans (.of w1) w2) k2 (.int _)
    · refine iteF' (decide_eq_false hp) ?_
      obtain ⟨q0, q1⟩ := h2
      refine ⟨_, rfl, x, _, 1, _, rfl, rfl, SqL.of hH, rfl, q, 39631, rfl, rfl, .inl ⟨by omega, by omega⟩, _, _, rfl, rfl, .inl ⟨_, rfl, _, _, rfl, rfl, (by show (0 : Int) < 2147483423; decide), ?_⟩⟩
      have z0 : 0 ≤ (q * 39631 + 30893) % 2147483423 := Int.emod_nonneg _ (by decide)
      have z1 : (q * 39631 + 30893) % 2147483423 < 2147483423 := Int.emod_lt_of_pos _ (by decide)
      refine ⟨_, rfl, x, _, 1, 1, rfl, rfl, hH, rfl, ?_⟩
      refine ⟨_, rfl, x, _, 1, _, rfl, rfl, SqL.of upd_same, rfl, _, rfl, x, _, 1, _, rfl, rfl, SqL.of upd_same, rfl, _, _, rfl, rfl, .inl ⟨by show -(2 ^ 64) < (q * 39631 + 30893) % 2147483423; omega, by show (q * 39631 + 30893) % 2147483423 < 2 ^ 64; omega⟩, .inl ⟨_, rfl, _, _, rfl, rfl, (by show (0 : Int) < 2147483399; decide), _, _, rfl, rfl, ⟨by decide, by decide⟩, .inl ⟨_, rfl, _, rfl, _, _, rfl, rfl, h3, ?_⟩⟩⟩
      obtain ⟨k2, w2⟩ := ms_put hs k h1 (vs := [.int p, .int ((q * 39631 + 30893) % 2147483423)]) (ds := potD p ((q * 39631 + 30893) % 2147483423)) (.cons (.int _) (.cons (.int _) .nil))
      exact hq _ _ _ G _ (h5 (.int (((q * 39631 + 30893) % 2147483423) * ((q * 39631 + 30893) % 2147483423) % 2147483399 / 31 % n)) p ((q * 39631 + 30893) % 2147483423) ⟨n, _, rfl, rfl, Int.emod_nonneg _ (by omega), Int.emod_lt_of_pos _ h3⟩ ⟨z0, by omega⟩) w2 k2 (.int _)
end Ag
set_option Elab.async false
set_option linter.all false
set_option autoImplicit false
set_option maxRecDepth 100000
set_option maxHeartbeats 1000000
namespace Ag
open PySem PySem.Spec L2 TL
def spPot (K : PySem.W.Frag) : Sp := fun vs H Q _ => ∃ (a : Addr) (ns : List Int), vs = [.ref a, .int 0] ∧ SqL K H a (ns.map V.int) ∧ ∀ x p q, PotOk p q → H x = none → Q (.ref x) (upd H x (.lst [.int p, .int q]))
theorem sc_pot : FnScope ["_law_script", "_law_k", "_law_cell"] ["_law_script", "_law_k"] (defScope s__law_pot) := ⟨rfl, rfl, rfl, by decide +kernel, rfl, by decide +kernel, by decide +kernel⟩
theorem fn_pot {c : Ctx} (ml : c.mg "len" = none) (ma : c.mg "abs" = none) (mm : c.mg "max" = none) (mi : c.mg "int" = none) {x qual : Str} {f : Addr} {fd : FuncData} (F : Fun c.K x qual s__law_pot f fd) : FnOk c.P c.w c.K c.mg c.base CX0 1 f fd ["_law_script", "_law_k"] (spPot c.K) := by
  refine F.ok sc_pot (fun vs H Q E ⟨a, ns, e, _⟩ => by rw [e]; rfl) fun cdv A outer s H vs Q E hr ⟨a, ns, e, ha, hq⟩ => ?_
  subst e
  have hN := sc_pot.nd
  refine ⟨_, pss_cons (ps_set (i := 2) hN rfl (.inl rfl) (pe_ifExp (pt_cmpR op_lt (pv 1) (pe_callB call_len_seq (by rfl) ml PySem.boot_len (pa_cons (pv 0) pa_nil)) rfl)
      (pe_callB call_abs (by rfl) ma (by decide +kernel) (pa_cons (pe_ix ix_list (pv 0) (pv 1) (fun _ _ => rfl)) pa_nil))
      (pe_op op_add (pe_op op_mul pe_int (pv 1)) pe_int)))
    (pss_one (ps_ret (pe_lst (pa_cons (pe_callB (call_max2 rfl) (by rfl) mm (by decide +kernel) (pa_cons pe_int (pa_cons (pe_op op_sub (pv 2) (pe_op op_pow pe_int pe_int)) pa_nil)))
      (pa_cons (pe_op op_add (pe_op op_mod (pe_callTy call_int1 (by rfl) mi (by decide +kernel) (pa_cons (pe_op op_add (pe_op op_add (pe_op op_mul (pe_op op_mod (pe_callTy call_int1 (by rfl) mi (by decide +kernel) (pa_cons (pv 2) pa_nil)) pe_int) pe_int) (pe_op op_mul pe_int (pv 1))) pe_int) pa_nil)) pe_int) pe_int) pa_nil))))), ?_⟩
  refine ⟨_, rfl, _, rfl, a, _, rfl, .inl ha, _, _, rfl, rfl, _, rfl, ?_⟩
  have fin : ∀ cell : Int, 0 ≤ (cell % 2147483399 * 42071 + 6823 * 0 + 523) % 2147483423 + 1 ∧ (cell % 2147483399 * 42071 + 6823 * 0 + 523) % 2147483423 + 1 < 2147483424 := fun cell => by omega
  have m0 : ∀ cell : Int, CMul (cell % 2147483399) 42071 := fun cell => .inl ⟨by omega, by omega⟩
  cases ns with
  | nil =>
    refine iteF' (by decide) ?_
    refine ⟨_, rfl, _, _, rfl, rfl, .inl ⟨by decide, by decide⟩, _, _, rfl, rfl, ?_⟩
    refine ⟨_, rfl, _, _, rfl, rfl, ⟨by decide, by decide, by decide⟩, _, _, rfl, rfl, _, _, rfl, ?_⟩
    refine ⟨_, rfl, .inl ⟨_, rfl, _, _, rfl, rfl, (by show (0 : Int) < 2147483399; decide), _, _, rfl, rfl, m0 _, _, rfl, _, _, rfl, rfl, .inl ⟨by decide, by decide⟩, _, _, rfl, rfl, _, _, rfl, rfl, .inl ⟨_, rfl, _, _, rfl, rfl, (by show (0 : Int) < 2147483423; decide), _, _, rfl, rfl, ?_⟩⟩⟩
    refine ⟨by rw [sizeLine_eq]; show 2 ≤ 16777216; decide, fun l hl => hq l _ _ (fin _) hl⟩
  | cons n ns =>
    refine iteT' (decide_eq_true (by show (0 : Int) < (((n :: ns).map V.int).length : Nat); rw [List.map_cons, List.length_cons]; omega)) ?_
    refine ⟨_, rfl, _, rfl, a, _, 0, .int n, rfl, rfl, ha, atI_nat (j := 0) rfl, n, rfl, ?_⟩
    refine ⟨_, rfl, _, _, rfl, rfl, ⟨by decide, by decide, by decide⟩, _, _, rfl, rfl, _, _, rfl, ?_⟩
    refine ⟨_, rfl, .inl ⟨_, rfl, _, _, rfl, rfl, (by show (0 : Int) < 2147483399; decide), _, _, rfl, rfl, m0 _, _, rfl, _, _, rfl, rfl, .inl ⟨by decide, by decide⟩, _, _, rfl, rfl, _, _, rfl, rfl, .inl ⟨_, rfl, _, _, rfl, rfl, (by show (0 : Int) < 2147483423; decide), _, _, rfl, rfl, ?_⟩⟩⟩
    refine ⟨by rw [sizeLine_eq]; show 2 ≤ 16777216; decide, fun l hl => hq l _ _ (fin _) hl⟩
/-! ### the law -/
def spLaw (K : PySem.W.Frag) : Sp := fun vs H Q _ => ∃ (a : Addr) (ns : List Int), vs = [.ref a] ∧ SqL K H a (ns.map V.int) ∧ ∀ H', Q (.bl true) H'
theorem sc_law : FnScope ["_law_script"] ["_law_script"] (defScope s_law) := ⟨rfl, rfl, rfl, by decide +kernel, rfl, by decide +kernel, by decide +kernel⟩
def g__law_fixed_right : List D → Option D
  | [] => some (.bl true)
  | _ => none
theorem fn_law {c : Ctx} {f1 f2 f3 : Addr} {fd1 fd2 fd3 : FuncData} {k1 k2 k3 : Nat}
    (F1 : FnOk c.P c.w c.K c.mg c.base CX0 k1 f1 fd1 [] (spD c.K g__law_fixed_right)) (h1 : k1 ≤ c.k) (m1 : c.mg "_law_fixed_right" = some (.ref f1)) (p1 : PySem.W.keepIn c.K (.ref f1) = true) (b1 : Binds c.K fd1 [] [])
    (F2 : FnOk c.P c.w c.K c.mg c.base CX0 k2 f2 fd2 ["_law_script", "_law_k"] (spPot c.K)) (h2 : k2 ≤ c.k) (m2 : c.mg "_law_pot" = some (.ref f2)) (p2 : PySem.W.keepIn c.K (.ref f2) = true) (b2 : Binds c.K fd2 ["_law_script", "_law_k"] [])
    (F3 : FnOk c.P c.w c.K c.mg c.base CX0 k3 f3 fd3 ["_law_pot_here"] (spN c.K w__law_right)) (h3 : k3 ≤ c.k) (m3 : c.mg "_law_right" = some (.ref f3)) (p3 : PySem.W.keepIn c.K (.ref f3) = true) (b3 : Binds c.K fd3 ["_law_pot_here"] [])
    {x qual : Str} {f : Addr} {fd : FuncData} (F : Fun c.K x qual s_law f fd) : FnOk c.P c.w c.K c.mg c.base CX0 (c.k + 1) f fd ["_law_script"] (spLaw c.K) := by
  refine F.ok sc_law (fun vs H Q E ⟨a, ns, e, _⟩ => by rw [e]; rfl) fun cdv A outer s H vs Q E hr ⟨a, ns, e, ha, hq⟩ => ?_
  subst e
  refine ⟨_, pss_one (ps_ret (pe_and (pe_call0 (E := E0) (F1.mono h1) hr (by rfl) m1 p1 b1 .nil pass0) (pe_one (pe_call (E := E0) (F3.mono h3) hr (by rfl) m3 p3 b3 .nil pass0 (pa_cons (pe_call (E := E0) (F2.mono h2) hr (by rfl) m2 p2 b2 .nil pass0 (pa_cons (pv 0) (pa_cons pe_int pa_nil))) pa_nil))))), ?_⟩
  have e0 : Ext (fun _ => none) H := fun _ _ h => by cases h
  refine ⟨fun _ => none, [], .bl true, e0, .nil, rfl, fun v G' H' w r => ⟨true, r.of_bl, iteT ?_⟩⟩
  refine ⟨_, rfl, a, ns, rfl, ha.ext w.ext, fun x p q hp hx => ?_⟩
  refine ⟨fun _ => none, [.obj x], putM noMs x (some (potD p q)), fun d _ => d = .bl true, (show Ext (fun _ => none) _ from fun _ _ h => by cases h), ?_, .cons (.obj x) .nil, ?_, fun d ms' v G2 H2 e w2 k2 r2 => ?_⟩
  · intro b ds h
    by_cases z : b = x
    · subst z
      rw [putM_same] at h
      cases h
      exact ⟨rfl, _, upd_same, .cons (.int p) (.cons (.int q) .nil)⟩
    · rw [putM_ne z] at h
      cases h
  · exact ⟨p, q, putM_same, hp, rfl, fun d p' q' hd _ => hd⟩
  · have e : d = .bl true := e
    subst e
    rw [r2.of_bl]
    exact hq _
end Ag
set_option Elab.async false
set_option linter.all false
set_option autoImplicit false
set_option maxRecDepth 100000
set_option maxHeartbeats 1000000
namespace Ag
open PySem PySem.Spec L2 TL
section
variable {X : Cx} {CX : CXT} {k : Nat} {f : Addr} {fd : FuncData} {ps ks : List Str} {sp : Sp} {E : L2.St → XK} {x : Str} {p pos : Pos} {kws : List Keyword} {tk : TA} {g : List Value → List Value → List Value} {gV : List V → List V → List V}
theorem run_fnkS {pins : List (Addr × Obj)} {σ : L2.St} {H : Hp} {s : Shared} {Q : VK} {ws : List Value} {zs : List V} (F : FnOk X.prog X.w X.K X.mg X.base CX k f fd ps sp) (hr : Room k X.A) (hb : KBinds X.K fd ps ks g gV) (hx : PassesAt CX X σ (E σ))
    (I : Inv X pins σ H s) (rz : Vals zs ws) (h : sp (gV [] zs) H Q (E σ)) : wpAny (model X.prog X.w) X.A (call (.ref f) [] (ks.zip ws)) (EP X pins σ Q) X.xe s := by
  have r2 := hb.rel .nil rz
  have hl : (g [] ws).length = ps.length := by rw [← r2.length]; exact F.len _ _ _ _ h
  refine wpAny_call (codeAny_mono (F.run X.A X.stack s H ⟨[], ks.zip ws⟩ (g [] ws) (gV [] zs) Q (E σ) hr I.env0 (hb.to s [] ws I.kIn hl) r2 h) fun r s' hq => ?_)
  cases r with
  | error e => exact hx pins H s e s' I hq
  | ok fl =>
    cases fl with
    | ret u => exact I.after hq
    | next => exact False.elim hq
    | brk => exact False.elim hq
    | cont => exact False.elim hq
/-- f(k = v, ..), f may raise -/
theorem pe_callKX (F : FnOk X.prog X.w X.K X.mg X.base CX k f fd ps sp) (hr : Room k X.A) (hg : Gl X x) (hm : X.mg x = some (.ref f)) (hk : PySem.W.keepIn X.K (.ref f) = true) (hb : KBinds X.K fd ps ks g gV) (hx : ∀ σ, PassesAt CX X σ (E σ))
    (hkw : PK X kws tk) (hdb : (x == ("__debug__" : Str)) = false := by decide) (hall : (backToKw pos (keywordEach kws X.env)).all (·.1.isSome) = true := by rfl) (hks : (backToKw pos (keywordEach kws X.env)).filterMap (·.1) = ks := by rfl)
    (hpl : ((backTo pos (starEach [] X.env)).any (·.1) || (backToKw pos (keywordEach kws X.env)).any (·.1.isNone)) = false := by rfl) :
    PE X (.Call (.Name x p) [] kws pos) (fun σ H Q => tk σ H fun zs H1 => sp (gV [] zs) H1 Q (E σ)) := by
  refine ⟨fun pins s σ H Q I h => ?_⟩
  refine wpAny_Call_Name_kw (ld_glob I hg hm ?_ hdb)
  refine PySem.W.callWith_KW0 (h₀ := X.base) I.ok.mod.kin hk hall (thn (hkw.run pos pins s σ H _ I h) fun ws s2 ⟨zs, H2, I2, rz, q2⟩ => ⟨I2.kIn, ?_⟩) hpl
  rw [hks]
  exact run_fnkS F hr hb (hx σ) I2 rz q2
end
def gOne {α : Type} : List α → List α → List α
  | [], ws => ws
  | _, _ => []
def gTwo {α : Type} : List α → List α → List α
  | [], [a, b] => [b, a]
  | _, _ => []
theorem kb_one {K : PySem.W.Frag} {fd : FuncData} {n : Str} (h : ∀ (s : Shared) (w : Value), K.In s.heap → BindsTo s fd ⟨[], [(n, w)]⟩ [(n, w)]) : KBinds K fd [n] [n] gOne gOne := by
  refine ⟨fun s us ws hK hl => ?_, fun {vs us zs ws} r rz => ?_⟩
  · cases us with
    | nil =>
      match ws, hl with
      | [w], _ => exact h s w hK
    | cons u us => cases hl
  · cases r with
    | nil => exact rz
    | cons _ _ => exact .nil
theorem kb_two {K : PySem.W.Frag} {fd : FuncData} {n m : Str} (h : ∀ (s : Shared) (a b : Value), K.In s.heap → BindsTo s fd ⟨[], [(m, a), (n, b)]⟩ [(n, b), (m, a)]) : KBinds K fd [n, m] [m, n] gTwo gTwo := by
  refine ⟨fun s us ws hK hl => ?_, fun {vs us zs ws} r rz => ?_⟩
  · cases us with
    | nil =>
      match ws, hl with
      | [a, b], _ => exact h s a b hK
      | [], hl => cases hl
      | [a], hl => cases hl
      | a :: b :: c :: r, hl => cases hl
    | cons u us => cases hl
  · cases r with
    | nil =>
      cases rz with
      | nil => exact .nil
      | cons r1 rz =>
        cases rz with
        | nil => exact .nil
        | cons r2 rz =>
          cases rz with
          | nil => exact .cons r2 (.cons r1 .nil)
          | cons _ _ => exact .nil
    | cons _ _ => exact .nil
/-- what is known of a reading -/
structure RdF (c : Ctx) (C : Addr) (x : Str) (ps : List Str) (ks : List Str) (g : List Value → List Value → List Value) (gV : List V → List V → List V) (sp : SpX) (f : Addr) (fd : FuncData) : Prop where
  ok : FnOk c.P c.w c.K c.mg c.base (L2.CX c.P c.w) c.k f fd ps (spX c.K C sp)
  mg : c.mg x = some (.ref f)
  keep : PySem.W.keepIn c.K (.ref f) = true
  kb : KBinds c.K fd ps ks g gV
def x_word : SpX := fun ds ms R => ∃ t : Str, ds = [.int 1, .str t] ∧ t.length ≤ 2000 ∧ R (wordR (tl t)) ms
def x_law_read : SpX := fun ds ms R => ∃ t w : Str, ds = [.str t, .str w] ∧ t.length ≤ 2000 ∧ ((∃ k : Kd, w = k.nm ∧ R (textR k (tl t)) ms) ∨ (w = "word" ∧ R (wordR (tl t)) ms))
theorem sc_read : FnScope ["_law_text_here", "_law_kind"] ["_law_text_here", "_law_kind"] (defScope s__law_read) := ⟨rfl, rfl, rfl, by decide +kernel, rfl, by decide +kernel, by decide +kernel⟩
theorem fn_read {c : Ctx} {C : Addr} {f1 f2 f3 f4 f5 f6 : Addr} {d1 d2 d3 d4 d5 d6 : FuncData}
    (F1 : RdF c C "read_table" ["text"] ["text"] gOne gOne (x_read .tab) f1 d1) (F2 : RdF c C "read_program" ["text"] ["text"] gOne gOne (x_read .prog) f2 d2) (F3 : RdF c C "read_tally" ["text"] ["text"] gOne gOne (x_read .tal) f3 d3)
    (F4 : RdF c C "read_form" ["text"] ["text"] gOne gOne (x_read .frm) f4 d4) (F5 : RdF c C "read_runs" ["text"] ["text"] gOne gOne (x_read .rns) f5 d5) (F6 : RdF c C "read_word" ["columns", "text"] ["text", "columns"] gTwo gTwo x_word f6 d6)
    {x qual : Str} {f : Addr} {fd : FuncData} (F : Fun c.K x qual s__law_read f fd) : FnOk c.P c.w c.K c.mg c.base (L2.CX c.P c.w) (c.k + 1) f fd ["_law_text_here", "_law_kind"] (spX c.K C x_law_read) := by
  refine F.okX sc_read (fun vs H Q E ⟨G, ds, ms, R, hs, k, r, ⟨t, w, e, _⟩, hq⟩ => by rw [r.length, e]; rfl) fun cdv A outer s H vs Q E hr ⟨G, ds, ms, R, hs, k, r, ⟨t, w, e, hl, hd⟩, hq⟩ => ?_
  subst e
  obtain ⟨v, u, rfl, rv, ru⟩ := reps_two r
  obtain ⟨rfl, ot⟩ := rv.of_str
  obtain ⟨rfl, ow⟩ := ru.of_str
  have tk : Takes (cxOf (L2.CX c.P c.w) c.P c.w c.K c.mg c.base ["_law_text_here", "_law_kind"] qual (defScope s__law_read) f cdv A outer s H E) (fun cls d _ H => E cls d H) := takes_of rfl rfl rfl rfl
  refine ⟨_, pss_cons (ps_if (pt_cmpR op_eq (pv 1) pe_str rfl) (pss_one (ps_ret (pe_callKX F1.ok hr (by rfl) F1.mg F1.keep F1.kb (fun σ => passAt tk σ) (pk_cons (pv 0) pk_nil)))) pss_nil)
    (pss_cons (ps_if (pt_cmpR op_eq (pv 1) pe_str rfl) (pss_one (ps_ret (pe_callKX F2.ok hr (by rfl) F2.mg F2.keep F2.kb (fun σ => passAt tk σ) (pk_cons (pv 0) pk_nil)))) pss_nil)
    (pss_cons (ps_if (pt_cmpR op_eq (pv 1) pe_str rfl) (pss_one (ps_ret (pe_callKX F3.ok hr (by rfl) F3.mg F3.keep F3.kb (fun σ => passAt tk σ) (pk_cons (pv 0) pk_nil)))) pss_nil)
    (pss_cons (ps_if (pt_cmpR op_eq (pv 1) pe_str rfl) (pss_one (ps_ret (pe_callKX F4.ok hr (by rfl) F4.mg F4.keep F4.kb (fun σ => passAt tk σ) (pk_cons (pv 0) pk_nil)))) pss_nil)
    (pss_one (ps_ret (pe_ifExp (pt_cmpR op_eq (pv 1) pe_str rfl) (pe_callKX F5.ok hr (by rfl) F5.mg F5.keep F5.kb (fun σ => passAt tk σ) (pk_cons (pv 0) pk_nil)) (pe_callKX F6.ok hr (by rfl) F6.mg F6.keep F6.kb (fun σ => passAt tk σ) (pk_cons (pv 0) (pk_cons pe_int pk_nil))))))))), ?_⟩
  have go : ∀ {sp : SpX} {σ : L2.St}, sp [.str t] ms R → spX c.K C sp [.str t] H Q (WE (fun cls d _ H => E cls d H) σ) := fun {sp σ} h => ⟨G, [.str t], ms, R, hs, k, .cons (.str t ot) .nil, h, hq⟩
  refine ⟨_, rfl, rfl, _, rfl, ?_⟩
  rw [dec_str, Bool.beq_eq_decide_eq]
  have goK : ∀ {kd : Kd}, R (textR kd (tl t)) ms → x_read kd [.str t] ms R := fun h => ⟨t, rfl, hl, h⟩
  rcases hd with ⟨kd, rfl, hR⟩ | ⟨rfl, hR⟩
  · cases kd with
    | tab => exact iteT' (by decide +kernel) ⟨_, rfl, go (goK hR)⟩
    | prog =>
      refine iteF' (by decide +kernel) ⟨_, rfl, rfl, _, rfl, ?_⟩
      rw [dec_str, Bool.beq_eq_decide_eq]
      exact iteT' (by decide +kernel) ⟨_, rfl, go (goK hR)⟩
    | tal =>
      refine iteF' (by decide +kernel) ⟨_, rfl, rfl, _, rfl, ?_⟩
      rw [dec_str, Bool.beq_eq_decide_eq]
      refine iteF' (by decide +kernel) ⟨_, rfl, rfl, _, rfl, ?_⟩
      rw [dec_str, Bool.beq_eq_decide_eq]
      exact iteT' (by decide +kernel) ⟨_, rfl, go (goK hR)⟩
    | frm =>
      refine iteF' (by decide +kernel) ⟨_, rfl, rfl, _, rfl, ?_⟩
      rw [dec_str, Bool.beq_eq_decide_eq]
      refine iteF' (by decide +kernel) ⟨_, rfl, rfl, _, rfl, ?_⟩
      rw [dec_str, Bool.beq_eq_decide_eq]
      refine iteF' (by decide +kernel) ⟨_, rfl, rfl, _, rfl, ?_⟩
      rw [dec_str, Bool.beq_eq_decide_eq]
      exact iteT' (by decide +kernel) ⟨_, rfl, go (goK hR)⟩
    | rns =>
      refine iteF' (by decide +kernel) ⟨_, rfl, rfl, _, rfl, ?_⟩
      rw [dec_str, Bool.beq_eq_decide_eq]
      refine iteF' (by decide +kernel) ⟨_, rfl, rfl, _, rfl, ?_⟩
      rw [dec_str, Bool.beq_eq_decide_eq]
      refine iteF' (by decide +kernel) ⟨_, rfl, rfl, _, rfl, ?_⟩
      rw [dec_str, Bool.beq_eq_decide_eq]
      refine iteF' (by decide +kernel) ⟨_, rfl, rfl, _, rfl, ?_⟩
      rw [dec_str, Bool.beq_eq_decide_eq]
      exact iteT' (by decide +kernel) ⟨_, rfl, go (goK hR)⟩
  · refine iteF' (by decide +kernel) ⟨_, rfl, rfl, _, rfl, ?_⟩
    rw [dec_str, Bool.beq_eq_decide_eq]
    refine iteF' (by decide +kernel) ⟨_, rfl, rfl, _, rfl, ?_⟩
    rw [dec_str, Bool.beq_eq_decide_eq]
    refine iteF' (by decide +kernel) ⟨_, rfl, rfl, _, rfl, ?_⟩
    rw [dec_str, Bool.beq_eq_decide_eq]
    refine iteF' (by decide +kernel) ⟨_, rfl, rfl, _, rfl, ?_⟩
    rw [dec_str, Bool.beq_eq_decide_eq]
    refine iteF' (by decide +kernel) ⟨_, rfl, ?_⟩
    exact ⟨G, [.int 1, .str t], ms, R, hs, k, .cons (.int 1) (.cons (.str t ot) .nil), ⟨t, rfl, hl, hR⟩, hq⟩
end Ag
set_option Elab.async false
set_option linter.all false
set_option autoImplicit false
set_option maxRecDepth 100000
set_option maxHeartbeats 1000000
namespace Ag
open PySem PySem.Spec L2 TL
/-! ### what comes of a text -/
theorem scan_inl {T : Nat → List Nat → Option D} : ∀ {ls : List (List Nat)} {n m : Nat}, scan T n ls = .inl m → m < n + ls.length
  | [], n, m, h => by cases h
  | l :: r, n, m, h => by
    unfold scan at h
    split at h
    · cases h
      rw [List.length_cons]
      omega
    · split at h
      · rename_i q
        cases h
        have := scan_inl q
        rw [List.length_cons]
        omega
      · cases h
theorem textT_rz {k : Kd} {l : List Nat} {d : D} (h : textT k l = .rz d) : ∃ i : Nat, d = .int i ∧ 0 < i ∧ i ≤ l.length + 5 := by
  have hs := splitL_len 10 l
  unfold textT at h
  cases q : splitL 10 l with
  | nil =>
    rw [q] at h
    cases h
    exact ⟨1, rfl, by decide, by omega⟩
  | cons a r =>
    rw [q] at h hs
    rw [List.length_cons] at hs
    have h : (match headT k a with
      | none => OutX.rz (.int 1)
      | some c => match scan (placeT k (c : Nat)) 0 r with
        | .inl n => .rz (.int ((n + 2 : Nat)))
        | .inr ds => .ok (.tup [.int (c : Nat), .lst ds])) = .rz d := h
    cases q2 : headT k a with
    | none =>
      rw [q2] at h
      cases h
      exact ⟨1, rfl, by decide, by omega⟩
    | some c =>
      rw [q2] at h
      have h : (match scan (placeT k (c : Nat)) 0 r with
        | .inl n => OutX.rz (.int ((n + 2 : Nat)))
        | .inr ds => .ok (.tup [.int (c : Nat), .lst ds])) = .rz d := h
      cases q3 : scan (placeT k (c : Nat)) 0 r with
      | inl n =>
        rw [q3] at h
        cases h
        have := scan_inl q3
        exact ⟨n + 2, rfl, by omega, by omega⟩
      | inr ds =>
        rw [q3] at h
        cases h
theorem textR_res {k : Kd} {l : List Nat} (hl : l.length ≤ 2000) : (∃ th, textR k l = .ok th ∧ eqD 2 th th = some true) ∨ ∃ i : Nat, textR k l = .rz (.int i) ∧ 0 < i ∧ i ≤ 5000 := by
  unfold textR
  rcases textT_cases k l with ⟨i, e, h0⟩ | ⟨c, ds, r, e, hc, hs, hsum⟩
  · obtain ⟨j, e2, _, h2⟩ := textT_rz e
    cases e2
    rw [e]
    exact .inr ⟨i, rfl, h0, by omega⟩
  · rw [e]
    show (∃ th, (match k.isProg && ds.isEmpty with
      | true => OutX.rz (.int 2)
      | false => .ok ((thingD k (c : Nat) ds).getD .non)) = .ok th ∧ _) ∨ ∃ i : Nat, (match k.isProg && ds.isEmpty with
      | true => OutX.rz (.int 2)
      | false => .ok ((thingD k (c : Nat) ds).getD .non)) = .rz (.int i) ∧ _
    cases q : k.isProg && ds.isEmpty with
    | true => exact .inr ⟨2, rfl, by decide, by decide⟩
    | false =>
      obtain ⟨th, h1, h2⟩ := scan_thing hc hs (Nat.le_trans hsum hl) q
      refine .inl ⟨th, ?_, h2⟩
      rw [h1]
      rfl
theorem lvlDs_all {dp : Nat} : ∀ {ds : List D}, (∀ x ∈ ds, lvlD dp x = true) → lvlDs dp ds = true
  | [], _ => rfl
  | d :: r, h => by
    show (lvlD dp d && lvlDs dp r) = true
    rw [h d List.mem_cons_self, lvlDs_all fun x hx => h x (List.mem_cons_of_mem _ hx)]
    rfl
theorem word_lvl {dp : Nat} {d : D} (h : isWord d = true) : lvlD dp d = true := by
  obtain ⟨ds, rfl, k⟩ := word_inv h
  refine lvlDs_all fun x hx => ?_
  obtain ⟨es, rfl, k2⟩ := let_inv (k x hx)
  refine lvlDs_all fun y hy => ?_
  obtain ⟨i, rfl⟩ := int_inv (k2 y hy)
  rfl
theorem wordR_res {l : List Nat} : (∃ th, wordR l = .ok th ∧ eqD 2 th th = some true) ∨ ∃ i : Nat, wordR l = .rz (.int i) ∧ 0 < i ∧ i ≤ 5000 := by
  unfold wordR
  cases q : splitL 10 l with
  | nil => exact .inr ⟨1, rfl, by decide, by decide⟩
  | cons h r =>
    cases q2 : wordT 1 h with
    | none => exact .inr ⟨1, by dsimp only; rw [q2]; rfl, by decide, by decide⟩
    | some w =>
      cases r with
      | nil =>
        have hw := word_is (wordT_right q2).1
        exact .inl ⟨wordD w, by dsimp only; rw [q2]; rfl, eqD_refl (by decide) (word_lvl hw) (Nat.le_trans (word_key hw).2.2 (by decide))⟩
      | cons a t => exact .inr ⟨2, by dsimp only; rw [q2]; rfl, by decide, by decide⟩
/-! ### isinstance of a caught exception with a dict -/
def rIsX (K : PySem.W.Frag) (C a : Addr) (cls : Value) (d : Option Addr) : List V → Hp → VK → Prop := fun xs H Q => ∃ (c : V) (cv : Value) (b : Bool) (dd : Addr) (fs : List (Str × V)), xs = [.ref a, c] ∧ cls = .ref C ∧ d = some dd ∧ H dd = some (.xd fs) ∧ (∀ u, RelV c u → u = cv) ∧ PySem.W.kitOne K (.ref C) cv = some b ∧ Q (.bl b) H
theorem call_isX {X : Cx} {a C : Addr} {oe : Obj} {cls : Value} {d : Option Addr} {pn : List (Addr × Obj)} (T : ExcC X.K C) (hz : Zc cls d oe) (hf : ∃ vs, oe.data = .fields vs) : CallR (X.suite a ((a, oe) :: pn)) (.builtin "isinstance") (rIsX X.K C a cls d) := by
  intro pins s σ H xs us Q I r h
  obtain ⟨c, cv, b, dd, fs, rfl, rfl, rfl, ea, hcv, e, q⟩ := h
  cases r with
  | cons rx rr =>
    cases rr with
    | cons rt rr =>
      cases rr
      cases rx
      have ec := hcv _ rt
      subst ec
      obtain ⟨hget, _⟩ := I.pin (a, oe) (List.mem_append.mpr (.inl List.mem_cons_self))
      obtain ⟨vs, hv⟩ := hf
      have hx : ObjOk X.prog X.w H s.heap dd (.xd fs) := I.hok dd _ ea
      obtain ⟨mA, hns, hr⟩ := hx
      obtain ⟨od, ho, hl⟩ := lookIn_ns hns
      have J : PySem.W.InstAt s.heap a oe C (some od) := ⟨hget, hz.1, by unfold PySem.W.notCls; rw [hv] <;> rfl, by rw [hz.2]; exact ho⟩
      exact PySem.W.kia_one (PySem.W.kitx_exc (by obtain ⟨cd, hc, _⟩ := PySem.W.any_some T.hd; rw [hc]; rfl) T.hg T.hk T.hs T.ha T.hn T.ht T.hm) I.kIn J e (fun z => nomatch z) fun tk => ⟨.bl b, H, I.kept (t' := tk) fun _ _ z => z, rfl, q⟩
/-! ### the text's rightness -/
def N_tr : List Str := ["_law_text_here", "_law_kind", "_law_line", "_law_thing_here", "_law_found", "e"]
theorem sc_tr : FnScope N_tr ["_law_text_here", "_law_kind"] (defScope s__law_text_right) := ⟨rfl, rfl, rfl, by decide +kernel, rfl, by decide +kernel, by decide +kernel⟩
noncomputable def p_tr : Par := ⟨2, N_tr, ftOf [("_law_due", g__law_due)], gcB⟩
noncomputable abbrev R_tr : Ev := ev p_tr 30
def last_tr : Expr := match stN (defBody s__law_text_right) 2 with
  | .Return (some e) _ => e
  | _ => .Name "" ⟨0, 0, 0, 0⟩
theorem tr_st0 {t w : Str} {l th : D} (h : g__law_due [.str t, .str w] = some (.tup [l, th])) : evSt p_tr R_tr (defScope s__law_text_right) (evSs p_tr R_tr (defScope s__law_text_right) 30) (stN (defBody s__law_text_right) 0) [some (.str t), some (.str w), none, none, none, none] = some (.nx [some (.str t), some (.str w), some l, some th, none, none]) := by
  have e : evSt p_tr R_tr (defScope s__law_text_right) (evSs p_tr R_tr (defScope s__law_text_right) 30) (stN (defBody s__law_text_right) 0) [some (.str t), some (.str w), none, none, none, none] = bindO (g__law_due [.str t, .str w]) fun d => bindO (tgSet (.inr [2, 3]) d [some (.str t), some (.str w), none, none, none, none]) fun Γ' => some (.nx Γ') := by kernel_rfl
  rw [e, h]
  rfl
theorem tr_last {t w : Str} {i : Int} {th th' : D} {o : Option D} : R_tr.E (defScope s__law_text_right) last_tr [some (.str t), some (.str w), some (.int i), some th, some th', o] = bindO (some (.bl (decide (i = 0)))) (andV1 ((eqD 2 th' th).map D.bl)) := by kernel_rfl
/-- what is known of the two classes of exceptions -/
structure TrF (K : PySem.W.Frag) (mg : Str → Option Value) (C CS : Addr) : Prop where
  xf : XfC K C
  ex : ExcC K C
  no : PySem.W.findIn K (.ref C) "line" = some none
  em : PySem.W.exmOne K (.ref C) (.ref C) = some true
  mC : mg "InvalidText" = some (.ref C)
  mS : mg "SumsError" = some (.ref CS)
  kS : PySem.W.kitOne K (.ref C) (.ref CS) = some true
  mr : mg "repr" = none
  mi : mg "isinstance" = none
def ts_tr (K : PySem.W.Frag) (C CS : Addr) : Addr → Value → Option Addr → TS := fun a cls d => tRet (tAndV (tOp (rI0 fun i j => .bl (decide (j < i))) (tVar 2) (tC (.int 0)))
  (tAndV (tOp rEq (tCB (fun xs H Q => ∃ i : Int, xs = [.int i] ∧ i.natAbs.log2 < 1920 ∧ Q (.str (toString i)) H) (tCons (tXf a cls d C "line" (tVar 5)) tNil)) (tCB (fun xs H Q => ∃ i : Int, xs = [.int i] ∧ i.natAbs.log2 < 1920 ∧ Q (.str (toString i)) H) (tCons (tVar 2) tNil)))
    (tCB (rIsX K C a cls d) (tCons (tVar 5) (tCons (tC (.ref CS)) tNil)))))
def tb_tr (K : PySem.W.Frag) (C : Addr) : WX → TS := fun W => tAsg (fun σ H Q => tCons (tVar 0) (tCons (tVar 1) tNil) σ H fun vs H1 => rX K C x_law_read vs H1 Q (WE W σ)) (gName 4)
theorem kd_word {k : Kd} : k.nm ≠ "word" := by cases k <;> decide +kernel
theorem read_all {t w : Str} (hl : t.length ≤ 2000) (hw : w ∈ sixK) : ∃ o : OutX, g__law_due [.str t, .str w] = some (dueD o) ∧ (∀ R : OutX → Ms → Prop, R o noMs → x_law_read [.str t, .str w] noMs R) ∧ ((∃ th, o = .ok th ∧ eqD 2 th th = some true) ∨ ∃ i : Nat, o = .rz (.int i) ∧ 0 < i ∧ i ≤ 5000) := by
  have hk : ∀ k : Kd, ∃ o : OutX, g__law_due [.str t, .str k.nm] = some (dueD o) ∧ (∀ R : OutX → Ms → Prop, R o noMs → x_law_read [.str t, .str k.nm] noMs R) ∧ ((∃ th, o = .ok th ∧ eqD 2 th th = some true) ∨ ∃ i : Nat, o = .rz (.int i) ∧ 0 < i ∧ i ≤ 5000) := fun k => by
    refine ⟨textR k (tl t), ?_, fun R h => ⟨t, k.nm, rfl, hl, .inl ⟨k, rfl, h⟩⟩, textR_res (by rw [tl_len]; exact hl)⟩
    show (if t.length ≤ 2000 then (match kdOf k.nm with
      | some k => some (dueD (textR k (tl t)))
      | none => if k.nm = "word" then some (dueD (wordR (tl t))) else none) else none) = _
    rw [if_pos hl, kdOf_nm]
  have h6 : w = Kd.tab.nm ∨ w = Kd.prog.nm ∨ w = Kd.tal.nm ∨ w = Kd.frm.nm ∨ w = Kd.rns.nm ∨ w = "word" := by
    unfold sixK at hw
    simp only [List.mem_cons, List.not_mem_nil, or_false] at hw
    exact hw
  rcases h6 with rfl | rfl | rfl | rfl | rfl | rfl
  · exact hk _
  · exact hk _
  · exact hk _
  · exact hk _
  · exact hk _
  · refine ⟨wordR (tl t), ?_, fun R h => ⟨t, "word", rfl, hl, .inr ⟨rfl, h⟩⟩, wordR_res⟩
    show (if t.length ≤ 2000 then (match kdOf "word" with
      | some k => some (dueD (textR k (tl t)))
      | none => if ("word" : Str) = "word" then some (dueD (wordR (tl t))) else none) else none) = _
    have e : kdOf "word" = none := by kernel_rfl
    rw [if_pos hl, e]
    exact if_pos rfl
theorem fn_tr {c : Ctx} {C CS : Addr} (L : Lib 2 c (ftOf [("_law_due", g__law_due)]) gcB) (T : TrF c.K c.mg C CS) {fr : Addr} {fdr : FuncData} {j : Nat}
    (Fr : FnOk c.P c.w c.K c.mg c.base (L2.CX c.P c.w) j fr fdr ["_law_text_here", "_law_kind"] (spX c.K C x_law_read)) (hj : j ≤ c.k) (mr : c.mg "_law_read" = some (.ref fr)) (pr : PySem.W.keepIn c.K (.ref fr) = true) (br : Binds c.K fdr ["_law_text_here", "_law_kind"] [])
    {x qual : Str} {f : Addr} {fd : FuncData} (F : Fun c.K x qual s__law_text_right f fd) : FnOk c.P c.w c.K c.mg c.base CX0 (c.k + 1) f fd ["_law_text_here", "_law_kind"] (spD c.K g__law_text_right) := by
  refine F.ok sc_tr (fun vs H Q E ⟨G, ds, d, hs, r, hg, hq⟩ => ?_) fun cdv A outer s H vs Q E hr ⟨G, ds, d, hs, r, hg, hq⟩ => ?_
  · rw [r.length]
    unfold g__law_text_right at hg
    split at hg
    · rfl
    · cases hg
  obtain ⟨t, w, rfl, rfl, hl, hw⟩ : ∃ t w : Str, ds = [.str t, .str w] ∧ d = .bl true ∧ t.length ≤ 2000 ∧ w ∈ sixK := by
    unfold g__law_text_right at hg
    split at hg
    · rename_i t w
      split at hg
      · rename_i h
        cases hg
        exact ⟨t, w, rfl, rfl, h.1, h.2⟩
      · cases hg
    · cases hg
  have g : GoodS c p_tr.N (cxOf CX0 c.P c.w c.K c.mg c.base N_tr qual (defScope s__law_text_right) f cdv A outer s H E).nox := noxGood hr rfl
  have V0 : Given c p_tr := L.given (by decide)
  have S := sound_ev V0 30
  refine ⟨_, pss_cons (sSt V0 g S (sSs V0 g S 30) (stN (defBody s__law_text_right) 0)) (pss_cons (ps_try_as (i := 5) (c := .ref C) (tb := tb_tr c.K C) (ts := ts_tr c.K C CS) rfl rfl sc_tr.nd rfl rfl ⟨by rfl, by decide, .inl T.mC⟩ takes0
    (fun W pn xe tk po => pss_one (ps_set (i := 4) sc_tr.nd rfl (.inl rfl) (call_X (c := c) (N := N_tr) { prog := rfl, w := rfl, K := rfl, mg := rfl, base := rfl, N := rfl, calm := rfl, room := hr } tk Fr hj mr pr br (by decide) _ _ _ _ _ (by rfl) (by rfl) (pa_cons (pv 0) (pa_cons (pv 1) pa_nil)))))
    (fun a oe cls d pn hz hf => pss_one (ps_ret (pe_and (pe_cmpR op_gt (pv 2) pe_int rfl) (pe_and (pe_cmpR op_eq (pe_callB SkE.call_repr_int (by rfl) T.mr (by decide +kernel) (pa_cons (pe_xf T.xf T.no hz hf (pv 5)) pa_nil)) (pe_callB SkE.call_repr_int (by rfl) T.mr (by decide +kernel) (pa_cons (pv 2) pa_nil)) rfl)
      (pe_one (pe_callB (call_isX T.ex hz hf) (by rfl) T.mi (by decide +kernel) (pa_cons (pv 5) (pa_cons (pe_glob (by rfl) T.mS rfl) pa_nil)))))))))
    (pss_one (ps_ret (S.E _ g.toGood last_tr)))), ?_⟩
  obtain ⟨o, ho, hx, hc⟩ := read_all hl hw
  have hdue : ∃ l th, dueD o = .tup [l, th] := by
    cases o with
    | ok d => exact ⟨_, _, rfl⟩
    | rz d => exact ⟨_, _, rfl⟩
  obtain ⟨l, th, hlth⟩ := hdue
  refine ⟨G, entry N_tr [.str t, .str w], _, hs, entry_ok r, tr_st0 (by rw [ho, hlth]), fun Γ' e σ1 G1 H1 w1 he1 => ?_, fun d e => by cases e⟩
  cases e
  obtain ⟨v0, e0, r0⟩ := he1.get 0 _ rfl
  obtain ⟨v1, e1, r1⟩ := he1.get 1 _ rfl
  obtain ⟨v2, e2, r2⟩ := he1.get 2 _ rfl
  refine ⟨v0, e0, v1, e1, G1, [.str t, .str w], noMs, (fun o' ms' => o' = o ∧ ms' = noMs), w1.sub, .none, .cons r0 (.cons r1 .nil), hx _ ⟨rfl, rfl⟩, fun o' ms' G2 H2 ⟨q1, q2⟩ w2 k2 => ?_⟩
  subst q1 q2
  have w2 := w2.back
  rcases hc with ⟨th2, rfl, heq⟩ | ⟨i, rfl, h0, h1⟩
  · cases hlth
    intro v rv
    refine ⟨G2, [some (.str t), some (.str w), some (.int 0), some th, some th, none], .bl true, w2.sub, (he1.ext w2.g).set 4 rv, tr_last.trans ?_, fun v G3 H3 w3 r3 => hq v G3 H3 ((w1.trans w2).trans w3) r3⟩
    rw [heq]
    rfl
  · cases hlth
    obtain rfl := r2.of_int
    intro v dd rv hd
    obtain rfl := rv.of_int
    refine ⟨true, T.em, fun _ a ha => ?_, fun e => by cases e⟩
    have l6 : 5 < σ1.length := he1.len
    have f2 : (σ1.set 5 (some (.ref a)))[2]? = some (some (.int i)) := by rw [List.getElem?_set_ne (by decide)]; exact e2
    have f5 : (σ1.set 5 (some (.ref a)))[5]? = some (some (.ref a)) := List.getElem?_set_self l6
    have lg : (i : Int).natAbs.log2 < 1920 := by
      have : i < 2 ^ 1920 := Nat.lt_of_le_of_lt h1 (by decide +kernel)
      show i.log2 < 1920
      exact (Nat.log2_lt (by omega)).mpr this
    have fd : upd H2 dd (.xd (lnF (.int i))) dd = some (.xd (lnF (.int i))) := upd_same
    refine ⟨_, f2, _, _, rfl, rfl, true, congrArg V.bl (decide_eq_true (by show (0 : Int) < i; omega)), iteT ?_⟩
    refine ⟨_, f5, rfl, rfl, dd, _, .int i, rfl, fd, rfl, i, rfl, lg, _, f2, i, rfl, lg, rfl, true, congrArg V.bl (decide_eq_true rfl), iteT ?_⟩
    refine ⟨_, f5, .ref CS, .ref CS, true, dd, _, rfl, rfl, rfl, fd, fun u h => h, T.kS, ?_⟩
    exact hq (.bl true) G2 _ ((w1.trans w2).trans (.side w2.sub hd)) (.bl true)
end Ag
set_option Elab.async false
set_option linter.all false
set_option autoImplicit false
set_option maxRecDepth 100000
set_option maxHeartbeats 2000000
namespace Ag
open PySem PySem.Spec L2 TL PyProof.Rows
section
variable {K : PySem.W.Frag}
theorem says_all (S : Says K) : (faL.all fun f => f.ok K) = true ∧ (fn.all fun d => d.ok K) = true ∧ (moreB K).all id = true ∧ fn.map (fun d => He.fnW K d.at_) = fn.map He.DefD.val := by
  have h : ((faL.all fun f => f.ok K) && ((fn.all fun d => d.ok K) && (moreB K).all id), fn.map fun d => He.fnW K d.at_) = (true, fn.map He.DefD.val) := S
  obtain ⟨h1, h2⟩ := Prod.mk.inj h
  rw [Bool.and_eq_true, Bool.and_eq_true] at h1
  exact ⟨h1.1, h1.2.1, h1.2.2, h2⟩
theorem says_fact (S : Says K) (i : Nat) {f : He.Fa} (h : faL[i]? = some f) : f.ok K = true := List.all_eq_true.mp (says_all S).1 f (List.mem_of_getElem? h)
theorem says_more (S : Says K) (i : Nat) {b : Bool} (h : (moreB K)[i]? = some b) : b = true := List.all_eq_true.mp (says_all S).2.2.1 b (List.mem_of_getElem? h)
theorem says_def (S : Says K) (i : Nat) {d : He.DefD} (h : fn[i]? = some d) : ∃ fd, FunD K d.name d.qual d.params d.body d.scope (d.dvs K) (d.kws K) (He.fAd K d.at_) fd := by
  have h2 := congrArg (·[i]?) (says_all S).2.2.2
  simp only [List.getElem?_map, h, Option.map_some, Option.some.injEq] at h2
  exact He.DefD.funD h2 (List.all_eq_true.mp (says_all S).2.1 d (List.mem_of_getElem? h))
end
/-- what the head says, of a context -/
structure B0 (c : Ctx) : Prop where
  S : Says c.K
  ns : ∃ h : Heap, c.K.In h ∧ h.Ns mainGlobals c.mg
def at_ (c : Ctx) (k : Nat) : Ctx := { c with k := k }
section
variable {c : Ctx}
theorem B0.up (b : B0 c) (k : Nat) : B0 (at_ c k) := ⟨b.S, b.ns⟩
theorem B0.glo (b : B0 c) (i : Nat) {x : Str} (h : faL[i]? = some (.glo x)) : c.mg x = some (.ref (He.ga c.K x)) := by
  obtain ⟨hp, X, G⟩ := b.ns
  exact He.glo_ok X G (says_fact b.S i h)
theorem B0.free (b : B0 c) (i : Nat) {x : Str} (h : faL[i]? = some (.free x)) : c.mg x = none := by
  obtain ⟨hp, X, G⟩ := b.ns
  exact He.free_ok X G (says_fact b.S i h)
theorem B0.int (b : B0 c) (i : Nat) {x : Str} {n : Int} (h : faL[i]? = some (.int x n)) : ∃ t, c.mg x = some (.int n t) := by
  obtain ⟨hp, X, G⟩ := b.ns
  exact He.int_ok X G (says_fact b.S i h)
theorem B0.str (b : B0 c) (i : Nat) {x z : Str} (h : faL[i]? = some (.str x z)) : ∃ t, c.mg x = some (.str z t) := by
  obtain ⟨hp, X, G⟩ := b.ns
  exact He.str_ok X G (says_fact b.S i h)
theorem fun_of {K : PySem.W.Frag} {x qual : Str} {st : Stmt} {f : Addr} {fd : FuncData} (F : FunD K x qual (defArgs st) (defBody st) (defScope st) [] [] f fd) : Fun K x qual st f fd := by
  obtain ⟨oc, od, dV, kV, doc, pm, an, cdv, ct, osl, e, lk, hcd, hD, hK⟩ := F.ex
  rcases hD with ⟨_, h⟩ | ⟨h, _⟩
  · subst h
    exact ⟨⟨oc, od, kV, doc, pm, an, cdv, ct, osl, e, lk, hcd⟩, F.kp⟩
  · exact absurd rfl h
theorem ex_of {K : PySem.W.Frag} {x qual : Str} {st : Stmt} {dvs : List V} {kws : List (Str × V)} {f : Addr} {fd : FuncData} (F : FunD K x qual (defArgs st) (defBody st) (defScope st) dvs kws f fd) :
    ∃ (oc : Value) (od : Option Addr) (dV kV doc pm : Value) (an : Option Addr) (cdv ct : Value) (osl : Array (Option Value)), fd = PySem.W.fnOf x qual (defArgs st) (defBody st) (defScope st) dV kV doc pm an cdv ct ∧ K.lookup f = some ⟨oc, od, .func fd, osl⟩ ∧ PySem.W.codeIn K cdv qual = true := by
  obtain ⟨oc, od, dV, kV, doc, pm, an, cdv, ct, osl, e, lk, hcd, hD, hK⟩ := F.ex
  exact ⟨oc, od, dV, kV, doc, pm, an, cdv, ct, osl, e, lk, hcd⟩
theorem B0.df (b : B0 c) (i : Nat) {x : Str} {st : Stmt} (h : fn[i]? = some (dOf x st)) : ∃ fd, Fun c.K x x st (He.ga c.K x) fd := by
  obtain ⟨fd, F⟩ := says_def b.S i h
  exact ⟨fd, fun_of F⟩
theorem B0.meth (b : B0 c) (i : Nat) {cl x q : Str} {st : Stmt} (h : fn[i]? = some (mOf cl x q st [])) : ∃ fd, Fun c.K x q st (He.ma c.K (He.ga c.K cl) x) fd := by
  obtain ⟨fd, F⟩ := says_def b.S i h
  exact ⟨fd, fun_of F⟩
theorem B0.isiF (b : B0 c) {x : Str} (i : Nat) (h : (moreB c.K)[i]? = some (isiB c.K x)) : PySem.W.findIn c.K (.ref (He.ga c.K x)) "__class__" = some (some (.builtin "object.__class__")) ∧ PySem.W.specialIn c.K (.builtin "object.__class__") "__get__" = some (some (.builtin "getset_descriptor.__get__")) ∧
    PySem.W.takesIn c.K (.builtin "object.__class__") = some true ∧ PySem.W.mroIn c.K (He.ga c.K x) (.type "object") = some true := by
  have q := says_more b.S i h
  unfold isiB at q
  simp only [Bool.and_eq_true] at q
  exact ⟨He.eqO_ok q.1, He.eqO_ok q.2.1, of_decide_eq_true q.2.2.1, of_decide_eq_true q.2.2.2⟩
/-! ### the classes -/
theorem B0.cl_Ratio (b : B0 c) : ClF c.K c.mg .ratio := by
  obtain ⟨h1, h2, h3, h4⟩ := b.isiF (x := "Ratio") 0 rfl
  refine ⟨b.glo (x := "Ratio") 76 rfl, He.cls_ok (x := "Ratio") (says_fact b.S 113 rfl), h1, h2, h3, h4, fun f hf => ?_⟩
  have hf : f ∈ (["own_top", "own_bottom"] : List Str) := hf
  simp only [List.mem_cons, List.not_mem_nil, or_false] at hf
  rcases hf with rfl | rfl
  · exact He.noat_ok (x := "Ratio") (says_fact b.S 131 rfl)
  · exact He.noat_ok (x := "Ratio") (says_fact b.S 132 rfl)
theorem B0.cl_Table (b : B0 c) : ClF c.K c.mg .table := by
  obtain ⟨h1, h2, h3, h4⟩ := b.isiF (x := "Table") 1 rfl
  refine ⟨b.glo (x := "Table") 77 rfl, He.cls_ok (x := "Table") (says_fact b.S 116 rfl), h1, h2, h3, h4, fun f hf => ?_⟩
  have hf : f ∈ (["own_columns", "own_rows"] : List Str) := hf
  simp only [List.mem_cons, List.not_mem_nil, or_false] at hf
  rcases hf with rfl | rfl
  · exact He.noat_ok (x := "Table") (says_fact b.S 133 rfl)
  · exact He.noat_ok (x := "Table") (says_fact b.S 134 rfl)
theorem B0.cl_Tally (b : B0 c) : ClF c.K c.mg .tally := by
  obtain ⟨h1, h2, h3, h4⟩ := b.isiF (x := "Tally") 2 rfl
  refine ⟨b.glo (x := "Tally") 78 rfl, He.cls_ok (x := "Tally") (says_fact b.S 119 rfl), h1, h2, h3, h4, fun f hf => ?_⟩
  have hf : f ∈ (["own_columns", "own_parts", "own_kept"] : List Str) := hf
  simp only [List.mem_cons, List.not_mem_nil, or_false] at hf
  rcases hf with rfl | rfl | rfl
  · exact He.noat_ok (x := "Tally") (says_fact b.S 135 rfl)
  · exact He.noat_ok (x := "Tally") (says_fact b.S 136 rfl)
  · exact He.noat_ok (x := "Tally") (says_fact b.S 137 rfl)
theorem B0.cl_Form (b : B0 c) : ClF c.K c.mg .form := by
  obtain ⟨h1, h2, h3, h4⟩ := b.isiF (x := "Form") 3 rfl
  refine ⟨b.glo (x := "Form") 79 rfl, He.cls_ok (x := "Form") (says_fact b.S 122 rfl), h1, h2, h3, h4, fun f hf => ?_⟩
  have hf : f ∈ (["own_columns", "own_parts"] : List Str) := hf
  simp only [List.mem_cons, List.not_mem_nil, or_false] at hf
  rcases hf with rfl | rfl
  · exact He.noat_ok (x := "Form") (says_fact b.S 138 rfl)
  · exact He.noat_ok (x := "Form") (says_fact b.S 139 rfl)
theorem B0.cl_Program (b : B0 c) : ClF c.K c.mg .program := by
  obtain ⟨h1, h2, h3, h4⟩ := b.isiF (x := "Program") 4 rfl
  refine ⟨b.glo (x := "Program") 80 rfl, He.cls_ok (x := "Program") (says_fact b.S 125 rfl), h1, h2, h3, h4, fun f hf => ?_⟩
  have hf : f ∈ (["own_columns", "own_steps"] : List Str) := hf
  simp only [List.mem_cons, List.not_mem_nil, or_false] at hf
  rcases hf with rfl | rfl
  · exact He.noat_ok (x := "Program") (says_fact b.S 140 rfl)
  · exact He.noat_ok (x := "Program") (says_fact b.S 141 rfl)
theorem B0.cl_Runs (b : B0 c) : ClF c.K c.mg .runs := by
  obtain ⟨h1, h2, h3, h4⟩ := b.isiF (x := "Runs") 5 rfl
  refine ⟨b.glo (x := "Runs") 81 rfl, He.cls_ok (x := "Runs") (says_fact b.S 128 rfl), h1, h2, h3, h4, fun f hf => ?_⟩
  have hf : f ∈ (["own_columns", "own_lots"] : List Str) := hf
  simp only [List.mem_cons, List.not_mem_nil, or_false] at hf
  rcases hf with rfl | rfl
  · exact He.noat_ok (x := "Runs") (says_fact b.S 142 rfl)
  · exact He.noat_ok (x := "Runs") (says_fact b.S 143 rfl)
theorem B0.cl (b : B0 c) : ∀ t : Cl, ClF c.K c.mg t
  | .ratio => b.cl_Ratio
  | .table => b.cl_Table
  | .tally => b.cl_Tally
  | .form => b.cl_Form
  | .program => b.cl_Program
  | .runs => b.cl_Runs
theorem B0.isi (b : B0 c) : IsiF c := by
  have q := says_more b.S 10 (b := kitB c.K) rfl
  unfold kitB at q
  rw [Bool.and_eq_true] at q
  refine ⟨b.free 85 rfl, fun t => ?_, b.cl, of_decide_eq_true q.1, of_decide_eq_true q.2⟩
  cases t with
  | int => exact b.free 86 rfl
  | bool => exact b.free 87 rfl
  | str => exact b.free 90 rfl
  | list => exact b.free 88 rfl
  | tuple => exact b.free 89 rfl
theorem B0.it (b : B0 c) : ItF c := ⟨b.free 95 rfl, b.free 94 rfl⟩
theorem lkC_mem : ∀ {l : List (Str × D)} {x : Str} {d : D}, lkC l x = some d → (x, d) ∈ l
  | [], x, d, h => by cases h
  | (n, g) :: r, x, d, h => by
    unfold lkC at h
    split at h
    · rename_i q
      cases h
      have e := of_decide_eq_true q
      subst e
      exact List.mem_cons_self
    · exact List.mem_cons_of_mem _ (lkC_mem h)
def GcOk (c : Ctx) (x : Str) (d : D) : Prop := ∃ v u, c.mg x = some u ∧ RelV v u ∧ ∀ H, Rep c.K H v d
theorem gc_int {x : Str} {n : Int} (h : ∃ t, c.mg x = some (.int n t)) : GcOk c x (.int n) := by
  obtain ⟨t, h⟩ := h
  exact ⟨.int n, _, h, ⟨t, rfl⟩, fun H => .int n⟩
theorem B0.tup (b : B0 c) (i : Nat) {x : Str} {ss : List Str} (h : faL[i]? = some (.glo x)) (ho : ∀ s ∈ ss, OkS s) (q : He.tupB c.K x (ss.map He.Dv.str) = true) : GcOk c x (.tup (ss.map D.str)) := by
  refine ⟨.ref (He.ga c.K x), _, b.glo i h, rfl, fun H => .tup (He.tupB_ok q H) ?_⟩
  clear q
  induction ss with
  | nil => exact .nil
  | cons s r ih => exact .cons (.str s (ho s List.mem_cons_self)) (ih fun x hx => ho x (List.mem_cons_of_mem _ hx))
theorem gcL_ok (b : B0 c) {x : Str} {d : D} (m : (x, d) ∈ gcL) : GcOk c x d := by
  have q := says_more b.S 8 (b := tupsB c.K) rfl
  unfold tupsB at q
  rw [Bool.and_eq_true] at q
  unfold gcL at m
  simp only [List.mem_cons, List.not_mem_nil, or_false, Prod.mk.injEq] at m
  rcases m with ⟨rfl, rfl⟩ | ⟨rfl, rfl⟩ | ⟨rfl, rfl⟩ | ⟨rfl, rfl⟩ | ⟨rfl, rfl⟩ | ⟨rfl, rfl⟩ | ⟨rfl, rfl⟩ | ⟨rfl, rfl⟩ | ⟨rfl, rfl⟩ | ⟨rfl, rfl⟩ | ⟨rfl, rfl⟩ | ⟨rfl, rfl⟩ | ⟨rfl, rfl⟩ | ⟨rfl, rfl⟩
  · obtain ⟨t, h⟩ := b.str (x := "FIGURES") (z := "0123456789") 112 rfl
    exact ⟨.str "0123456789", _, h, ⟨t, rfl⟩, fun H => .str _ (okB_ok (by decide +kernel))⟩
  · exact gc_int (b.int 109 rfl)
  · exact gc_int (b.int 110 rfl)
  · exact gc_int (b.int 111 rfl)
  · exact gc_int (b.int 101 rfl)
  · exact gc_int (b.int 102 rfl)
  · exact gc_int (b.int 106 rfl)
  · exact b.tup (x := "ONE_WAY") (ss := ["ahead", "behind"]) 145 rfl (fun s h => okB_ok (List.all_eq_true.mp (by decide +kernel : (["ahead", "behind"] : List Str).all okB = true) s h)) q.1
  · exact b.tup (x := "TWO_WAY") (ss := ["sum", "less", "times"]) 146 rfl (fun s h => okB_ok (List.all_eq_true.mp (by decide +kernel : (["sum", "less", "times"] : List Str).all okB = true) s h)) q.2
  · exact gc_int (b.int 105 rfl)
  · exact gc_int (b.int 104 rfl)
  · exact gc_int (b.int 103 rfl)
  · exact gc_int (b.int 107 rfl)
  · exact gc_int (b.int 108 rfl)
theorem B0.gc (b : B0 c) (x : Str) (d : D) (h : gcB x = some d) : GcOk c x d := gcL_ok b (lkC_mem (show lkC gcL x = some d from h))
end
end Ag
set_option Elab.async false
set_option linter.all false
set_option autoImplicit false
set_option maxRecDepth 100000
set_option maxHeartbeats 2000000
namespace Ag
open PySem PySem.Spec L2 TL PyProof.Rows
def Kn (c : Ctx) (CX : CXT) (x : Str) (ps : List Str) (sp : Sp) (j : Nat) : Prop := ∃ (f : Addr) (fd : FuncData), FnOk c.P c.w c.K c.mg c.base CX j f fd ps sp ∧ c.mg x = some (.ref f) ∧ PySem.W.keepIn c.K (.ref f) = true ∧ Binds c.K fd ps []
def BindsP (x : Str) (st : Stmt) (ps : List Str) : Prop := ∀ (kV doc pm : Value) (an : Option Addr) (cdv ct : Value) (us : List Value), us.length = ps.length → bindArgs (PySem.W.fnOf x x (defArgs st) (defBody st) (defScope st) .none kV doc pm an cdv ct) ⟨us, []⟩ = pure (ps.zip us)
def CallX (c : Ctx) (x : Str) (g : List D → Option D) : Prop := ∀ N X, Good c N X → ∀ (e : Expr) (es : List Expr) (px pos : Pos) (ta : TA), glbK X.env.scope x = true → (e :: es).all notStar = true → PA X (e :: es) ta →
    PE X (.Call (.Name x px) (e :: es) [] pos) (tCB (rCall X.K g) ta)
def Has (c : Ctx) (fl : FtL) : Prop := ∀ p ∈ fl, CallX c p.1 p.2
theorem ftOf_mem : ∀ {l : FtL} {x : Str} {g : List D → Option D}, ftOf l x = some g → (x, g) ∈ l
  | [], x, d, h => by cases h
  | (n, g') :: r, x, g, h => by
    unfold ftOf at h
    split at h
    · rename_i q
      cases h
      have e := of_decide_eq_true q
      subst e
      exact List.mem_cons_self
    · exact List.mem_cons_of_mem _ (ftOf_mem h)
section
variable {c : Ctx}
theorem kn_of (b : B0 c) {CX : CXT} {x : Str} {st : Stmt} {ps : List Str} {sp : Sp} {j : Nat} {fd : FuncData} (F : Fun c.K x x st (He.ga c.K x) fd) (i : Nat) (h : faL[i]? = some (.glo x)) (hb : BindsP x st ps)
    (O : FnOk c.P c.w c.K c.mg c.base CX j (He.ga c.K x) fd ps sp) : Kn c CX x ps sp j := ⟨_, fd, O, b.glo i h, F.kp, F.binds hb⟩
/-- a def that answers by data -/
theorem mkD (b : B0 c) {dp : Nat} {fl : FtL} (L : Lib dp c (ftOf fl) gcB) (i : Nat) {x : Str} {st : Stmt} {N ps : List Str} (h : fn[i]? = some (dOf x st)) (h2 : faL[i]? = some (.glo x)) (S : FnScope N ps (defScope st)) (hb : BindsP x st ps)
    {g : List D → Option D} (hg : ∀ ds d, g ds = some d → semD ⟨dp, N, ftOf fl, gcB⟩ 40 40 st ps.length ds = some d) : Kn c CX0 x ps (spD c.K g) (c.k + 1) := by
  obtain ⟨fd, F⟩ := b.df i h
  exact kn_of b F i h2 hb (fn_weakD (fn_D L F S 40 40) hg)
theorem Kn.call {x : Str} {ps : List Str} {g : List D → Option D} {j : Nat} (h : Kn c CX0 x ps (spD c.K g) j) (hj : j ≤ c.k) (hd : (x == ("__debug__" : Str)) = false) : CallX c x g := by
  obtain ⟨f, fd, F, m, p, b⟩ := h
  exact fun N X gd => call_D gd F hj m p b hd
theorem CallX.up {x : Str} {g : List D → Option D} {k : Nat} (h : CallX c x g) (hk : c.k ≤ k) : CallX (at_ c k) x g := fun N X gd => h N X (Good.less gd hk)
theorem Has.nil : Has c [] := fun p h => by cases h
theorem Has.cons {x : Str} {g : List D → Option D} {fl : FtL} (h : CallX c x g) (r : Has c fl) : Has c ((x, g) :: fl) := fun p hp => by
  rcases List.mem_cons.mp hp with rfl | hp
  · exact h
  · exact r p hp
theorem Has.up {fl : FtL} {k : Nat} (h : Has c fl) (hk : c.k ≤ k) : Has (at_ c k) fl := fun p hp => (h p hp).up hk
theorem Has.ft {fl : FtL} (h : Has c fl) (N : List Str) : CallOk c N (ftOf fl) := ⟨fun x g e X gd => h (x, g) (ftOf_mem e) N X gd⟩
theorem lib0 (b : B0 c) {fl : FtL} (h : Has c fl) (hk : 1 ≤ c.k) : Lib 0 c (ftOf fl) gcB := ⟨b.gc, h.ft, b.isi, b.it, fun N X gd => deep_zero gd hk⟩
theorem lib1 (b : B0 c) {fl : FtL} {dp n0 : Nat} (O : OwnAll c dp n0) (O2 : NoneAll c dp n0) (h : Has c fl) (hk : n0 + 9 ≤ c.k) : Lib dp c (ftOf fl) gcB := ⟨b.gc, h.ft, b.isi, b.it, fun N X gd => deep_all gd O O2 hk⟩
/-! ### builtins -/
theorem cD_gcd {X : Cx} : CallR X (.builtin "math.gcd") (rCall X.K gGcd) := by
  intro pins s σ H vs us Q I r ⟨G, ds, d, hG, hr, hg, hq⟩
  unfold gGcd at hg
  split at hg
  · rename_i a b
    cases hg
    obtain ⟨v, u, rfl, ra, rb⟩ := reps_two hr
    obtain rfl := ra.of_int
    obtain rfl := rb.of_int
    exact cr_gcd pins s σ H _ us Q I r ⟨a, b, rfl, hq _ _ _ (Grow.rfl' hG) (.int _)⟩
  · cases hg
theorem cD_lcm {X : Cx} : CallR X (.builtin "math.lcm") (rCall X.K gLcm) := by
  intro pins s σ H vs us Q I r ⟨G, ds, d, hG, hr, hg, hq⟩
  unfold gLcm at hg
  split at hg
  · rename_i a b
    split at hg
    · rename_i hl
      cases hg
      obtain ⟨v, u, rfl, ra, rb⟩ := reps_two hr
      obtain rfl := ra.of_int
      obtain rfl := rb.of_int
      obtain ⟨t, u, rfl⟩ := Vals.int2 r
      have lm : ∀ {m n k : Nat}, m.log2 < k → n.log2 < k → (max m n).log2 < k := fun {m n k} h1 h2 => by
        rcases Nat.le_total m n with h | h
        · rw [Nat.max_eq_right h]; exact h2
        · rw [Nat.max_eq_left h]; exact h1
      have k1 : (max 1 a.natAbs).log2 < 9000 := lm (by decide +kernel) hl.1
      have k2 : (max a.natAbs b.natAbs).log2 < 9000 := lm hl.1 hl.2
      have e1 : Nat.lcm 1 a.natAbs = a.natAbs := by unfold Nat.lcm; rw [Nat.gcd_one_left, Nat.one_mul, Nat.div_one]
      have hsz : ((((Nat.lcm 1 a.natAbs).lcm b.natAbs : Nat) : Int)).natAbs.log2 < bitsLine := by
        rw [Int.natAbs_natCast, e1]
        have l1 : a.natAbs < 2 ^ 9000 := by
          by_cases z : a.natAbs = 0
          · rw [z]; exact Nat.two_pow_pos _
          · exact (Nat.log2_lt z).mp hl.1
        have l2 : b.natAbs < 2 ^ 9000 := by
          by_cases z : b.natAbs = 0
          · rw [z]; exact Nat.two_pow_pos _
          · exact (Nat.log2_lt z).mp hl.2
        have l3 : a.natAbs.lcm b.natAbs < 2 ^ 18000 := by
          have : a.natAbs.lcm b.natAbs ≤ a.natAbs * b.natAbs := Nat.div_le_self _ _
          refine Nat.lt_of_le_of_lt this ?_
          rw [show (18000 : Nat) = 9000 + 9000 from rfl, Nat.pow_add]
          exact Nat.mul_lt_mul'' l1 l2
        by_cases z : a.natAbs.lcm b.natAbs = 0
        · rw [z, Nat.log2_zero]; exact Nat.two_pow_pos _
        · exact Nat.lt_trans ((Nat.log2_lt z).mpr l3) (by show 18000 < 2 ^ 27; decide)
      have g := PySem.W.mg_run_lcm a t b u (by omega) (by omega) hsz
      refine PySem.call_function_meets PySem.W.MGF.kind_lcm PySem.W.MGF.plain_lcm PySem.W.MGF.entry_lcm (PySem.W.MGF.args_lcm _ _) g.meets ?_
      rw [e1]
      exact ⟨.int _, H, I.tok _, ⟨_, rfl⟩, hq _ _ _ (Grow.rfl' hG) (.int _)⟩
    · cases hg
  · cases hg
theorem CallX.blt (i : Nat) {x : Str} {id : String} {g : List D → Option D} (b : B0 c) (h : faL[i]? = some (.free x)) (hv : bootBuiltins x = some (.builtin id)) (hn : x ≠ "__name__") (hd : (x == ("__debug__" : Str)) = false) (hc : ∀ X, X.calm = true → CallR X (.builtin id) (rCall X.K g)) : CallX c x g := fun N X gd e es px pos ta hg hst ha => by
  rw [List.all_cons, Bool.and_eq_true] at hst
  exact pe_callB (hc X gd.calm) (glb_of hg) (by rw [gd.mg]; exact b.free i h) hv ha hn hd (starEach_ok hst.1 _ _) (back_ok hst.2)
theorem CallX.ty (i : Nat) {x : Str} {n : String} {g : List D → Option D} (b : B0 c) (h : faL[i]? = some (.free x)) (hv : bootBuiltins x = some (.type n)) (hn : x ≠ "__name__") (hd : (x == ("__debug__" : Str)) = false) (hc : ∀ X, CallR X (.type n) (rCall X.K g)) : CallX c x g := fun N X gd e es px pos ta hg hst ha => by
  rw [List.all_cons, Bool.and_eq_true] at hst
  exact pe_callTy (hc X) (glb_of hg) (by rw [gd.mg]; exact b.free i h) hv ha hn hd (starEach_ok hst.1 _ _) (back_ok hst.2)
theorem B0.math (b : B0 c) : c.mg "gcd" = some (.builtin "math.gcd") ∧ c.mg "lcm" = some (.builtin "math.lcm") := by
  obtain ⟨hp, X, G⟩ := b.ns
  have q := says_more b.S 9 (b := mathB c.K) rfl
  unfold mathB at q
  rw [Bool.and_eq_true] at q
  exact ⟨PySem.W.mg_of X G (He.eqO_ok q.1), PySem.W.mg_of X G (He.eqO_ok q.2)⟩
theorem CallX.gcd (b : B0 c) : CallX c "gcd" gGcd := fun N X gd e es px pos ta hg hst ha => by
  rw [List.all_cons, Bool.and_eq_true] at hst
  exact pe_callBfun cD_gcd (glb_of hg) (by rw [gd.mg]; exact b.math.1) ha (by decide) (starEach_ok hst.1 _ _) (back_ok hst.2)
theorem CallX.lcm (b : B0 c) : CallX c "lcm" gLcm := fun N X gd e es px pos ta hg hst ha => by
  rw [List.all_cons, Bool.and_eq_true] at hst
  exact pe_callBfun cD_lcm (glb_of hg) (by rw [gd.mg]; exact b.math.2) ha (by decide) (starEach_ok hst.1 _ _) (back_ok hst.2)
theorem has0 (b : B0 c) : Has c fl0 :=
  .cons (CallX.blt 84 b rfl (by decide +kernel) (by decide) (by decide) (fun X _ => cD_len)) (.cons (CallX.ty 86 b rfl (by decide +kernel) (by decide) (by decide) (fun X => cD_int)) (.cons (CallX.ty 90 b rfl (by decide +kernel) (by decide) (by decide) (fun X => cD_str)) (.cons (CallX.blt 91 b rfl (by decide +kernel) (by decide) (by decide) (fun X h => cD_all h)) (.cons (CallX.blt 92 b rfl (by decide +kernel) (by decide) (by decide) (fun X h => cD_any h)) (.cons (CallX.ty 89 b rfl (by decide +kernel) (by decide) (by decide) (fun X => cD_tuple)) (.cons (CallX.blt 98 b rfl (by decide +kernel) (by decide) (by decide) (fun X _ => cD_abs)) (.nil)))))))
end
end Ag
set_option Elab.async false
set_option linter.all false
set_option autoImplicit false
set_option maxRecDepth 100000
set_option maxHeartbeats 2000000
namespace Ag
open PySem PySem.Spec L2 TL
/-- an entry of the dict and what stands for it -/
def AcR (K : PySem.W.Frag) (G : Hp) (p : NestedKey × Addr × Int) (z : D × Int) : Prop := isKey z.1 = true ∧ z.1.deep ≤ 8 ∧ nk z.1 = p.1 ∧ Rep K G (.ref p.2.1) z.1 ∧ p.2.2 = z.2
def AccOk (K : PySem.W.Frag) (G : Hp) (ks : Kis) (acc : List (D × Int)) : Prop := Paired (AcR K G) ks acc
theorem AccOk.ext {K : PySem.W.Frag} {G G' : Hp} {ks : Kis} {acc : List (D × Int)} (h : AccOk K G ks acc) (e : Ext G G') : AccOk K G' ks acc := by
  induction h with
  | nil => exact .nil
  | cons h _ ih => exact .cons ⟨h.1, h.2.1, h.2.2.1, h.2.2.2.1.ext e, h.2.2.2.2⟩ ih
theorem AccOk.keys {K : PySem.W.Frag} {G : Hp} {ks : Kis} {acc : List (D × Int)} (h : AccOk K G ks acc) : KeysOk K G ks := by
  induction h with
  | nil => intro p hp; cases hp
  | @cons p z ps zs h _ ih =>
    intro q hq
    rcases List.mem_cons.mp hq with rfl | hq
    · exact ⟨z.1, h.1, h.2.1, h.2.2.1, h.2.2.2.1⟩
    · exact ih q hq
theorem AccOk.reps {K : PySem.W.Frag} {G : Hp} {ks : Kis} {acc : List (D × Int)} (h : AccOk K G ks acc) : Reps K G (ks.map fun x => V.ref x.2.1) (acc.map (·.1)) := by
  induction h with
  | nil => exact .nil
  | cons h _ ih => exact .cons h.2.2.2.1 ih
theorem nk_iff {x y : D} (hx : isKey x = true) (hy : isKey y = true) : nk x = nk y ↔ beqD x y = true := ⟨fun h => by rw [nk_inj hx hy h]; exact beqDP y, fun h => by rw [beqD_eq h]⟩
theorem AccOk.get {K : PySem.W.Frag} {G : Hp} {ks : Kis} {acc : List (D × Int)} (h : AccOk K G ks acc) {x : D} (hx : isKey x = true) : getN ks (nk x) = getA acc x := by
  induction h with
  | nil => rfl
  | @cons p z ps zs h _ ih =>
    unfold getN at ih ⊢
    rw [List.find?_cons]
    have e : getA (z :: zs) x = if beqD z.1 x = true then some z.2 else getA zs x := rfl
    rw [e, ← h.2.2.1]
    by_cases q : beqD z.1 x = true
    · rw [if_pos q, decide_eq_true ((nk_iff h.1 hx).mpr q)]
      exact congrArg some h.2.2.2.2
    · rw [if_neg q, decide_eq_false (fun k => q ((nk_iff h.1 hx).mp k))]
      exact ih
theorem AccOk.same {K : PySem.W.Frag} {G : Hp} {ks : Kis} {acc : List (D × Int)} {x : D} (hx : isKey x = true) (v : Int) (h : AccOk K G ks acc) (hn : x ∉ acc.map (·.1)) : ks.map (fun y => if y.1 = nk x then (y.1, y.2.1, v) else y) = ks := by
  induction h with
  | nil => rfl
  | @cons p z ps zs h _ ih =>
    rw [List.map_cons, ih fun k => hn (List.mem_cons_of_mem _ k), if_neg]
    intro k
    have k : p.1 = nk x := k
    rw [← h.2.2.1] at k
    exact hn (by rw [← nk_inj h.1 hx k]; exact List.mem_cons_self)
theorem AccOk.set {K : PySem.W.Frag} {G : Hp} {x : D} {b : Addr} (hx : isKey x = true) (hd : x.deep ≤ 8) (r : Rep K G (.ref b) x) (v : Int) {ks : Kis} {acc : List (D × Int)} (h : AccOk K G ks acc) (nd : (acc.map (·.1)).Nodup) :
    AccOk K G (putN ks (nk x) b v) (setA acc x v) := by
  have hg := h.get hx
  unfold putN
  rw [hg]
  cases q : getA acc x with
  | none =>
    rw [if_neg (by simp)]
    have : ∀ {ks : Kis} {acc : List (D × Int)}, AccOk K G ks acc → getA acc x = none → AccOk K G (ks ++ [(nk x, b, v)]) (setA acc x v) := by
      intro ks acc h
      induction h with
      | nil => exact fun _ => .cons ⟨hx, hd, rfl, r, rfl⟩ .nil
      | @cons p z ps zs h _ ih =>
        intro q
        have q : (if beqD z.1 x = true then some z.2 else getA zs x) = none := q
        split at q
        · cases q
        · rename_i q1
          have e : setA (z :: zs) x v = z :: setA zs x v := by
            show (if beqD z.1 x = true then (z.1, v) :: zs else (z.1, z.2) :: setA zs x v) = _
            rw [if_neg q1]
          rw [e]
          exact .cons h (ih q)
    exact this h q
  | some w =>
    rw [if_pos (by simp)]
    clear hg
    have : ∀ {ks : Kis} {acc : List (D × Int)}, AccOk K G ks acc → (acc.map (·.1)).Nodup → (getA acc x).isSome = true → AccOk K G (ks.map (fun y => if y.1 = nk x then (y.1, y.2.1, v) else y)) (setA acc x v) := by
      intro ks acc h
      induction h with
      | nil => intro _ h; cases h
      | @cons p z ps zs h ht ih =>
        intro nd q
        have nd := List.nodup_cons.mp nd
        have q : (if beqD z.1 x = true then some z.2 else getA zs x).isSome = true := q
        have e : setA (z :: zs) x v = if beqD z.1 x = true then (z.1, v) :: zs else (z.1, z.2) :: setA zs x v := rfl
        rw [e, List.map_cons]
        by_cases q1 : beqD z.1 x = true
        · rw [if_pos q1]
          have ex := beqD_eq q1
          rw [AccOk.same hx v ht (by rw [← ex]; exact nd.1), if_pos (by rw [← h.2.2.1, ex])]
          exact .cons ⟨h.1, h.2.1, h.2.2.1, h.2.2.2.1, rfl⟩ ht
        · rw [if_neg q1] at q ⊢
          rw [if_neg (fun k => q1 ((nk_iff h.1 hx).mp (by rw [h.2.2.1]; exact k)))]
          exact .cons h (ih nd.2 q)
    exact this h nd (by rw [q]; rfl)
end Ag
set_option Elab.async false
set_option linter.all false
set_option autoImplicit false
set_option maxRecDepth 100000
set_option maxHeartbeats 2000000
namespace Ag
open PySem PySem.Spec L2 TL
section
variable {X : Cx}
/-- d.get(key, z) -/
def tDGetN (P : Program) (w : World) (K : PySem.W.Frag) (td ty tx : TE) : TE := fun σ H Q => td σ H fun x H1 => ∃ s ks G, x = .ref s ∧ H1 s = some (DctO P w s ks) ∧ Ext G H1 ∧ KeysOk K G ks ∧ ty σ H1 fun y H2 => tx σ H2 fun z H3 => ∃ b d n, H3 = H1 ∧ y = .ref b ∧ z = .int n ∧ isKey d = true ∧ d.deep ≤ 8 ∧ Rep K G (.ref b) d ∧ Q (.int ((getN ks (nk d)).getD n)) H3
theorem pe_dgetN {o e f : Expr} {td ty tx : TE} {apos cpos : Pos} (hu : X.A.units + 9 < cLine) (ho : PE X o td) (he : PE X e ty) (hf : PE X f tx) (m : M2 X o "get" apos e f cpos) : PE X (.Call (.Attribute o "get" apos) [e, f] [] cpos) (tDGetN X.prog X.w X.K td ty tx) := by
  refine ⟨fun pins s σ H Q I h => ?_⟩
  refine wpAny_Call_method m.base m.few m.line PySem.F.plainAttrs_dict PySem.F.slot_dict_get PySem.F.type_dict_get (thn (ho.run pins s σ H _ I h) fun u s1 ⟨x, H1, I1, rx, a, ks, G, ex, hd, hs, ko, q1⟩ => ?_)
  subst ex
  obtain rfl : u = Value.ref a := rx
  obtain ⟨h1, h2, xs, h3, dd⟩ := dct_at I1 hs hd ko
  have dd' := dd
  obtain ⟨ob, _, _, z1, z2, _⟩ := dd'
  refine ⟨dd.typeIs, fun b q => (by cases q; exact ⟨ob, z1, z2.2.1⟩), ?_⟩
  rw [m.trees]
  refine Calls.callWith_builtin rfl (Calls.evalArgs_plain (Calls.spliced_cons (thn (he.run pins s1 σ H1 _ I1 q1) fun iv s2 ⟨y, H2, I2, ry, q2⟩ =>
    Calls.spliced_cons (thn (hf.run pins s2 σ H2 _ I2 q2) fun fv s3 ⟨z, H3, I3, rz, b, d, n, eH, ey, ez, k1, k2, rd, q3⟩ => Calls.spliced_nil ?_))))
  subst eH ey ez
  obtain rfl : iv = Value.ref b := ry
  exact dct_get hu I3 hs hd ko k1 k2 rd rz fun w' s4 I4 rw' => ⟨_, _, I4, rw', q3⟩
def rSetN (P : Program) (w : World) (K : PySem.W.Frag) : V → V → V → Hp → (Hp → Prop) → Prop := fun o i v H Q => ∃ s ks G b d n, o = .ref s ∧ i = .ref b ∧ v = .int n ∧ H s = some (DctO P w s ks) ∧ Ext G H ∧ KeysOk K G ks ∧ isKey d = true ∧ d.deep ≤ 8 ∧ Rep K G (.ref b) d ∧ ks.length < sizeLine ∧ Q (upd H s (DctO P w s (putN ks (nk d) b n)))
theorem set_N (hu : X.A.units + 9 < cLine) : PSet X (rSetN X.prog X.w X.K) := by
  intro pins s σ H o i v ov iv u Q I ro ri rv ⟨a, ks, G, b, d, n, e1, e2, e3, hd, hs, ko, k1, k2, rd, hl, q⟩
  subst e1 e2 e3
  obtain rfl : ov = Value.ref a := ro
  obtain rfl : iv = Value.ref b := ri
  exact dct_put hu I hs hd ko k1 k2 rd rv hl fun s' I' => ⟨_, I', q⟩
/-- d[key], there -/
def tDItemN (P : Program) (w : World) (K : PySem.W.Frag) (td ty : TE) : TE := fun σ H Q => td σ H fun x H1 => ty σ H1 fun y H2 => ∃ s ks G b d n, x = .ref s ∧ y = .ref b ∧ H2 s = some (DctO P w s ks) ∧ Ext G H2 ∧ KeysOk K G ks ∧ isKey d = true ∧ d.deep ≤ 8 ∧ Rep K G (.ref b) d ∧ getN ks (nk d) = some n ∧ Q (.int n) H2
theorem pe_dItemN {o i : Expr} {td ty : TE} {pos : Pos} (hu : X.A.units + 9 < cLine) (ho : PE X o td) (hi : PE X i ty) (hs : NoSl i) : PE X (.Subscript o i pos) (tDItemN X.prog X.w X.K td ty) := by
  refine ⟨fun pins s σ H Q I h => ?_⟩
  refine subD_of PySem.F.slot_dict_getitem.lookup hs (thn (ho.run pins s σ H _ I h) fun u s1 ⟨x, H1, I1, rx, q1⟩ => thn (hi.run pins s1 σ H1 _ I1 q1) fun iv s2 ⟨y, H2, I2, ry, a, ks, G, b, d, n, ex, ey, hd, hG, ko, k1, k2, rd, hz, q2⟩ => ?_)
  subst ex ey
  obtain rfl : u = Value.ref a := rx
  obtain rfl : iv = Value.ref b := ry
  obtain ⟨h1, h2, xs, h3, dd⟩ := dct_at I2 hG hd ko
  exact ⟨dd.typeIs, dct_item hu I2 hG hd ko k1 k2 rd hz fun w' s3 I3 rw' => ⟨_, H2, I3, rw', q2⟩⟩
end
/-! ### put_more -/
def spPM (c : Ctx) : Sp := fun vs H Q _ => ∃ s b n G ks acc d, vs = [.ref s, .ref b, .int n] ∧ H s = some (DctO c.P c.w s ks) ∧ Ext G H ∧ AccOk c.K G ks acc ∧ (acc.map (·.1)).Nodup ∧ isKey d = true ∧ d.deep ≤ 8 ∧ Rep c.K G (.ref b) d ∧ ks.length ≤ 1000 ∧
  ∀ ks', AccOk c.K G ks' (addA acc d n) → ks'.length ≤ ks.length + 1 → Q .non (upd H s (DctO c.P c.w s ks'))
theorem sc_pm : FnScope ["sums", "key", "number"] ["sums", "key", "number"] (defScope s_put_more) := ⟨rfl, rfl, rfl, by decide +kernel, rfl, by decide +kernel, by decide +kernel⟩
theorem fn_pm {c : Ctx} {x qual : Str} {f : Addr} {fd : FuncData} (F : Fun c.K x qual s_put_more f fd) : FnOk c.P c.w c.K c.mg c.base CX0 1 f fd ["sums", "key", "number"] (spPM c) := by
  refine F.ok sc_pm (fun vs H Q E ⟨s, b, n, G, ks, acc, d, e, _⟩ => by rw [e]; rfl) fun cdv A outer s0 H vs Q E hr ⟨s, b, n, G, ks, acc, d, e, hd, hs, ha, nd, k1, k2, rd, hl, hq⟩ => ?_
  subst e
  have hu : (A.deeper (PyProof.Rows.envOfC qual (defScope s_put_more) s0.heap.objs.size f cdv)).units + 9 < cLine := by have := hr.units; omega
  refine ⟨_, pss_one (ps_asg (pe_op op_add (pe_dgetN hu (pv 0) (pv 1) pe_int ⟨rfl, rfl, rfl, rfl⟩) (pv 2)) (pg_sub (pv 0) (pv 1) (set_N hu))), ?_⟩
  refine ⟨_, rfl, s, ks, G, rfl, hd, hs, ha.keys, _, rfl, b, d, 0, rfl, rfl, rfl, k1, k2, rd, _, rfl, _, _, rfl, rfl, _, rfl, _, rfl, s, ks, G, b, d, _, rfl, rfl, rfl, hd, hs, ha.keys, k1, k2, rd, ?_, ?_⟩
  · rw [sizeLine_eq]
    omega
  · rw [ha.get k1]
    exact hq _ (ha.set k1 k2 rd _ nd) (putN_len _ _ _ _)
/-! ### sums_told -/
def spST (c : Ctx) : Sp := fun vs H Q _ => ∃ s bt G ks acc, vs = [.int bt, .ref s] ∧ H s = some (DctO c.P c.w s ks) ∧ Ext G H ∧ AccOk c.K G ks acc ∧ SortOk (acc.map (·.1)) ∧ acc.length ≤ 1000 ∧ 0 < bt ∧ bt.natAbs.log2 < 9000 ∧
  ∀ v G' H', Grow G H G' H' → Rep c.K G' v (.lst (toldA bt acc)) → Q v H'
def N_st : List Str := ["bottom", "sums", "key"]
theorem sc_st : FnScope N_st ["bottom", "sums"] (defScope s_sums_told) := ⟨rfl, rfl, rfl, by decide +kernel, rfl, by decide +kernel, by decide +kernel⟩
open Classical in
noncomputable def stF (s : Addr) (bt : Int) (acc : List (D × Int)) (Γ : DEnv) : Option Bool := if Γ.take 2 = [some (.int bt), some (.obj s)] then (match Γ.getD 2 none with
  | some d => (getA acc d).map fun n => !decide (n = 0)
  | none => none) else none
open Classical in
noncomputable def stE (s : Addr) (bt : Int) (acc : List (D × Int)) (Γ : DEnv) : Option D := if Γ.take 2 = [some (.int bt), some (.obj s)] then (match Γ.getD 2 none with
  | some d => (getA acc d).map fun n => .tup [d, ratD n bt]
  | none => none) else none
theorem getA_some {acc : List (D × Int)} {x : D} (h : x ∈ acc.map (·.1)) : ∃ n, getA acc x = some n := by
  cases q : getA acc x with
  | none => exact absurd h (getA_none q)
  | some n => exact ⟨n, rfl⟩
theorem getA_mem {x : D} {n : Int} : ∀ {acc : List (D × Int)}, getA acc x = some n → x ∈ acc.map (·.1)
  | [], h => by cases h
  | (k, v) :: r, h => by
    have h : (if beqD k x = true then some v else getA r x) = some n := h
    split at h
    · rename_i q
      rw [← beqD_eq q]
      exact List.mem_cons_self
    · exact List.mem_cons_of_mem _ (getA_mem h)
theorem st_map {s : Addr} {bt : Int} {acc : List (D × Int)} {o : Option D} : ∀ es : List D, (∀ e ∈ es, e ∈ acc.map (·.1)) → mapLC (.inl 2) [some (.int bt), some (.obj s), o] (stF s bt acc) (stE s bt acc) es = some (es.filterMap fun k => if (getA acc k).getD 0 = 0 then none else some (.tup [k, ratD ((getA acc k).getD 0) bt]))
  | [], _ => rfl
  | e :: es, h => by
    obtain ⟨n, hn⟩ := getA_some (h e List.mem_cons_self)
    have ih := st_map (s := s) (bt := bt) (o := o) es fun x hx => h x (List.mem_cons_of_mem _ hx)
    rw [mapLC_cons]
    have e1 : tgSet (.inl 2) e [some (.int bt), some (.obj s), o] = some [some (.int bt), some (.obj s), some e] := rfl
    rw [e1]
    have e2 : stF s bt acc [some (.int bt), some (.obj s), some e] = some (!decide (n = 0)) := by
      unfold stF
      have ht : List.take 2 [some (D.int bt), some (D.obj s), some e] = [some (D.int bt), some (D.obj s)] := rfl
      rw [if_pos ht]
      show (getA acc e).map _ = _
      rw [hn]
      rfl
    have e3 : stE s bt acc [some (.int bt), some (.obj s), some e] = some (.tup [e, ratD n bt]) := by
      unfold stE
      have ht : List.take 2 [some (D.int bt), some (D.obj s), some e] = [some (D.int bt), some (D.obj s)] := rfl
      rw [if_pos ht]
      show (getA acc e).map _ = _
      rw [hn]
      rfl
    dsimp only
    rw [e2, e3, ih, List.filterMap_cons, hn]
    by_cases z : n = 0
    · subst z
      rfl
    · rw [decide_eq_false z]
      have : ¬ (some n).getD 0 = 0 := z
      rw [if_neg this]
      rfl
theorem take2 {Γ : DEnv} {a b : Option D} (h : Γ.take 2 = [a, b]) : Γ[0]? = some a ∧ Γ[1]? = some b := by
  match Γ, h with
  | x :: y :: r, h =>
    have h : [x, y] = [a, b] := h
    cases h
    exact ⟨rfl, rfl⟩
theorem stF_inv {s : Addr} {bt : Int} {acc : List (D × Int)} {Γ : DEnv} {b : Bool} (h : stF s bt acc Γ = some b) : Γ[0]? = some (some (.int bt)) ∧ Γ[1]? = some (some (.obj s)) ∧ ∃ d n, Γ[2]? = some (some d) ∧ getA acc d = some n ∧ b = !decide (n = 0) := by
  unfold stF at h
  split at h
  · rename_i ht
    obtain ⟨h0, h1⟩ := take2 ht
    refine ⟨h0, h1, ?_⟩
    cases q : Γ.getD 2 none with
    | none => rw [q] at h; cases h
    | some d =>
      rw [q] at h
      have h : (getA acc d).map (fun n => !decide (n = 0)) = some b := h
      cases q2 : getA acc d with
      | none => rw [q2] at h; cases h
      | some n =>
        rw [q2] at h
        cases h
        exact ⟨d, n, getD_some q, q2, rfl⟩
  · cases h
theorem stE_inv {s : Addr} {bt : Int} {acc : List (D × Int)} {Γ : DEnv} {e : D} (h : stE s bt acc Γ = some e) : Γ[0]? = some (some (.int bt)) ∧ Γ[1]? = some (some (.obj s)) ∧ ∃ d n, Γ[2]? = some (some d) ∧ getA acc d = some n ∧ e = .tup [d, ratD n bt] := by
  unfold stE at h
  split at h
  · rename_i ht
    obtain ⟨h0, h1⟩ := take2 ht
    refine ⟨h0, h1, ?_⟩
    cases q : Γ.getD 2 none with
    | none => rw [q] at h; cases h
    | some d =>
      rw [q] at h
      have h : (getA acc d).map (fun n => D.tup [d, ratD n bt]) = some e := h
      cases q2 : getA acc d with
      | none => rw [q2] at h; cases h
      | some n =>
        rw [q2] at h
        cases h
        exact ⟨d, n, getD_some q, q2, rfl⟩
  · cases h
/-- what stands for a key that is a tuple -/
theorem tup_ref {K : PySem.W.Frag} {G : Hp} {v : V} {d : D} (h : isTupD d = true) (r : Rep K G v d) : ∃ b, v = .ref b := by
  cases d with
  | tup ds =>
    obtain ⟨a, vs, rfl, _⟩ := r.of_tup
    exact ⟨a, rfl⟩
  | _ => cases h
def tStT (c : Ctx) : TT := fun σ H Q => tDItemN c.P c.w c.K (tVar 1) (tVar 2) σ H fun v H1 => ∃ n, v = .int n ∧ Q (!decide (n = 0)) H1
def tStE (c : Ctx) : TE := tTup (tCons (tVar 2) (tCons (tCB (rCall c.K g_Ratio) (tCons (tDItemN c.P c.w c.K (tVar 1) (tVar 2)) (tCons (tVar 0) tNil))) tNil))
section
variable {c : Ctx} {X : Cx}
theorem st_var (g : Good c N_st X) {i : Nat} {x : Str} {pos : Pos} (hi : N_st[i]? = some x) (hv : Vis X.env.scope x) (hd : (x == ("__debug__" : Str)) = false) (hc : (x == ("__classdict__" : Str)) = false) : PE X (.Name x pos) (tVar i) := pe_var (by rw [g.N]; exact hi) hv hd hc
theorem st_item (g : Good c N_st X) (h1 : Vis X.env.scope "sums") (h2 : Vis X.env.scope "key") (p1 p2 p3 : Pos) : PE X (.Subscript (.Name "sums" p1) (.Name "key" p2) p3) (tDItemN X.prog X.w X.K (tVar 1) (tVar 2)) :=
  pe_dItemN (by have := g.room.units; omega) (st_var g rfl h1 (by decide) (by decide)) (st_var g rfl h2 (by decide) (by decide)) (by intro _ _; rfl)
theorem st_test (g : Good c N_st X) (h1 : Vis X.env.scope "sums") (h2 : Vis X.env.scope "key") (p1 p2 p3 p4 p5 : Pos) (j : Nat) : PT X (.Compare (.Subscript (.Name "sums" p1) (.Name "key" p2) p3) [.NotEq] [.Constant (.int 0) j p4] p5) (fun σ H Q => tDItemN X.prog X.w X.K (tVar 1) (tVar 2) σ H fun v H1 => ∃ n, v = .int n ∧ Q (!decide (n = 0)) H1) := by
  refine pt_imp (pt_cmpR op_ne (st_item g h1 h2 p1 p2 p3) pe_int rfl) fun σ H Q h => ?_
  obtain ⟨v, hv, u, hu, s, ks, G, b, d, n, e1, e2, hd, hs, ko, k1, k2, rd, hz, m, em, q⟩ := h
  cases em
  refine ⟨v, hv, u, hu, s, ks, G, b, d, n, e1, e2, hd, hs, ko, k1, k2, rd, hz, rfl, _, rfl, ?_⟩
  rw [dec_int, Bool.beq_eq_decide_eq]
  exact q
theorem st_elt {ft : Str → Option (List D → Option D)} {gc : Str → Option D} {dp : Nat} (L : Lib dp c ft gc) (hR : ft "Ratio" = some g_Ratio) (g : Good c N_st X) (h0 : Vis X.env.scope "bottom") (h1 : Vis X.env.scope "sums") (h2 : Vis X.env.scope "key") (hg : glbK X.env.scope "Ratio" = true) (p1 p2 p3 p4 p5 p6 p7 p8 : Pos) (k : Nat) :
    PE X (.Tuple [.Name "key" p1, .Call (.Name "Ratio" p2) [.Subscript (.Name "sums" p3) (.Name "key" p4) p5, .Name "bottom" p6] [] p7] k p8) (tTup (tCons (tVar 2) (tCons (tCB (rCall X.K g_Ratio) (tCons (tDItemN X.prog X.w X.K (tVar 1) (tVar 2)) (tCons (tVar 0) tNil))) tNil))) :=
  pe_tup (pa_cons (st_var g (i := 2) rfl h2 (by decide) (by decide)) (pa_cons ((L.ft N_st).run "Ratio" g_Ratio hR X g _ _ p2 p7 _ hg rfl (pa_cons (st_item g h1 h2 _ _ _) (pa_cons (st_var g (i := 0) rfl h0 (by decide) (by decide)) pa_nil))) pa_nil))
end
theorem fn_st {c : Ctx} {ft : Str → Option (List D → Option D)} {gc : Str → Option D} {dp : Nat} (L : Lib dp c ft gc) (hR : ft "Ratio" = some g_Ratio) (mS : c.mg "sorted" = none) (mL : c.mg "list" = none) {x qual : Str} {f : Addr} {fd : FuncData} (F : Fun c.K x qual s_sums_told f fd) : FnOk c.P c.w c.K c.mg c.base CX0 (c.k + 1) f fd ["bottom", "sums"] (spST c) := by
  refine F.ok sc_st (fun vs H Q E ⟨s, bt, G, ks, acc, e, _⟩ => by rw [e]; rfl) fun cdv A outer s0 H vs Q E hr ⟨s, bt, G, ks, acc, e, hd, hs, ha, ok, hal, b0, b1, hq⟩ => ?_
  subst e
  have hu9 : (A.deeper (PyProof.Rows.envOfC qual (defScope s_sums_told) s0.heap.objs.size f cdv)).units + 9 < cLine := by have := hr.units; omega
  have hu25 : (A.deeper (PyProof.Rows.envOfC qual (defScope s_sums_told) s0.heap.objs.size f cdv)).units + 25 < cLine := by have := hr.units; omega
  have g : Good c N_st (cxOf CX0 c.P c.w c.K c.mg c.base N_st qual (defScope s_sums_told) f cdv A outer s0 H E).nox := (noxGood (CX := CX0) (outer := outer) (E := E) hr sc_st.kind).toGood
  have hN := sc_st.nd
  refine ⟨_, pss_one (ps_ret (pe_lc (own := [("key", 2)]) (g := gTg c.K (.inl 2)) (tt := tStT c) (te := tStE c) rfl hN
    (pi_list (pe_callB (call_sortedD hu25) (by rfl) mS (by decide +kernel) (pa_cons (pe_callTy (dct_list rfl) (by rfl) mL (by decide +kernel) (pa_cons (pv 1) pa_nil)) pa_nil)))
    (blkOk_by (N := N_st) (sc := defScope s_sums_told) (by decide +kernel)) (fun s1 H1 C cl fp => sTg (good_blk (p := ⟨dp, N_st, ft, gc⟩) g s1 H1 _ C cl fp) hN rfl)
    (fun s1 H1 C cl fp => pts_one (st_test (good_blk (p := ⟨dp, N_st, ft, gc⟩) g s1 H1 _ C cl fp) (.inr (.inl rfl)) (.inl rfl) _ _ _ _ _ _))
    (fun s1 H1 C cl fp => st_elt L hR (good_blk (p := ⟨dp, N_st, ft, gc⟩) g s1 H1 _ C cl fp) (.inr (.inl rfl)) (.inr (.inl rfl)) (.inl rfl) rfl _ _ _ _ _ _ _ _ _))), ?_⟩
  refine ⟨_, rfl, s, ks, rfl, hd, fun p hp => ?_⟩
  have e1 : Ext H (upd H p (.lst (ks.map fun x => V.ref x.2.1))) := Ext.upd hp
  have hreps : Reps c.K G (ks.map fun x => V.ref x.2.1) (acc.map (·.1)) := ha.reps
  refine ⟨p, _, G, List.map Prod.fst acc, rfl, upd_same, hs.trans e1, hreps, ok, fun q vs' es hq' hr' hsd => ?_⟩
  refine ⟨q, rfl, ⟨_, SqL.of upd_same⟩, fun D0 hD => ?_⟩
  have w1 : Grow G H (upd G q (.lst vs')) (upd (upd H p (.lst (ks.map fun x => V.ref x.2.1))) q (.lst vs')) := (Grow.same hs e1).trans (Grow.new (hs.trans e1) hq')
  have hmem : ∀ e ∈ es, e ∈ acc.map (·.1) := fun e he => hsd.1.mem_iff.mp he
  have hkey : ∀ d n, getA acc d = some n → isKey d = true ∧ isTupD d = true ∧ d.deep ≤ 8 := fun d n hn => ok.1 d (getA_mem hn)
  have hlen : es.length ≤ sizeLine := by
    rw [hsd.1.length_eq, List.length_map, sizeLine_eq]
    omega
  refine lc_walkE (K := c.K) (G0 := G) (Γ := [some (.int bt), some (.obj s), none]) (ds := es) (t := .inl 2) (ft := stF s bt acc) (fe := stE s bt acc) (vs := [2]) (Eh := fun H => H s = some (DctO c.P c.w s ks) ∧ Ext G H) ⟨?_, w1.g.trans w1.sub⟩ (fun H H' e h => ⟨e _ _ h.1, h.2.trans e⟩) ?_ ?_ rfl (entry_ok (N := N_st) (.cons (.int bt) (.cons (.obj s) .nil))) w1 (walk_list upd_same (hr'.ext (Ext.upd (Ext.back (hs.trans e1) hq'))) hlen) (st_map es hmem) (fun v G' H' w r => ?_) D0 hD
  · exact w1.ext _ _ hd
  · intro σ H3 Q3 ⟨hd3, hG3⟩ ⟨G4, Γ4, b, hs4, he4, hf, hq4⟩
    obtain ⟨g0, g1, d, n, g2, hn, rfl⟩ := stF_inv hf
    obtain ⟨v1, s1, r1⟩ := he4.get 1 _ g1
    obtain rfl := r1.of_obj
    obtain ⟨v2, s2, r2⟩ := he4.get 2 _ g2
    obtain ⟨k1, k2, k3⟩ := hkey d n hn
    obtain ⟨bb, rfl⟩ := tup_ref k2 r2
    refine ⟨_, s1, _, s2, s, ks, H3, bb, d, n, rfl, rfl, hd3, Ext.rfl', ha.keys.ext hG3, k1, k3, r2.ext hs4, (ha.get k1).trans hn, n, rfl, hq4 G4 H3 (Grow.rfl' hs4)⟩
  · intro σ H3 Q3 ⟨hd3, hG3⟩ ⟨G4, Γ4, e, hs4, he4, hf, hq4⟩
    obtain ⟨g0, g1, d, n, g2, hn, rfl⟩ := stE_inv hf
    obtain ⟨v0, s0', r0⟩ := he4.get 0 _ g0
    obtain rfl := r0.of_int
    obtain ⟨v1, s1, r1⟩ := he4.get 1 _ g1
    obtain rfl := r1.of_obj
    obtain ⟨v2, s2, r2⟩ := he4.get 2 _ g2
    obtain ⟨k1, k2, k3⟩ := hkey d n hn
    obtain ⟨bb, rfl⟩ := tup_ref k2 r2
    refine ⟨_, s2, _, s1, _, s2, s, ks, H3, bb, d, n, rfl, rfl, hd3, Ext.rfl', ha.keys.ext hG3, k1, k3, r2.ext hs4, (ha.get k1).trans hn, _, s0', ?_⟩
    refine ⟨G4, [.int n, .int bt], ratD n bt, hs4, .cons (.int n) (.cons (.int bt) .nil), if_pos ⟨b0, b1⟩, fun v G5 H5 w r => ?_⟩
    refine ⟨by rw [sizeLine_eq]; show 2 ≤ 16777216; decide, fun l hl => ?_⟩
    exact hq4 _ _ _ (w.trans (Grow.new w.sub hl)) (.tup (SqT.of upd_same) (.cons ((r2.ext w.g).ext (Ext.upd (Ext.back w.sub hl))) (.cons (r.ext (Ext.upd (Ext.back w.sub hl))) .nil)))
  · refine hq v G' H' w ?_
    unfold toldA
    rw [sortD_is ok hsd]
    exact r
/-! ### parts_joined -/
theorem addA_has (a : List (D × Int)) (x : D) (n : Int) : x ∈ (addA a x n).map (·.1) := by
  unfold addA
  rw [setA_keys]
  split
  · rename_i h
    cases q : getA a x with
    | none => rw [q] at h; cases h
    | some m => exact getA_mem q
  · exact List.mem_append_right _ List.mem_cons_self
theorem addA_keep {a : List (D × Int)} {x y : D} {n : Int} (h : y ∈ a.map (·.1)) : y ∈ (addA a x n).map (·.1) := by
  unfold addA
  rw [setA_keys]
  split
  · exact h
  · exact List.mem_append_left _ h
theorem accOf_keep (bt : Int) : ∀ (kvs : List (D × Int × Int)) (a : List (D × Int)) (y : D), y ∈ a.map (·.1) → y ∈ (accOf bt kvs a).map (·.1)
  | [], a, y, h => h
  | z :: r, a, y, h => accOf_keep bt r _ y (addA_keep h)
theorem accOf_has (bt : Int) : ∀ (kvs : List (D × Int × Int)) (a : List (D × Int)), ∀ z ∈ kvs, z.1 ∈ (accOf bt kvs a).map (·.1)
  | z :: r, a, y, h => by
    rcases List.mem_cons.mp h with rfl | h
    · exact accOf_keep bt r _ _ (addA_has _ _ _)
    · exact accOf_has bt r _ y h
theorem setA_len (x : D) (n : Int) : ∀ a : List (D × Int), (setA a x n).length ≤ a.length + 1 := fun a => by
  have h := congrArg List.length (setA_keys x n a)
  rw [List.length_map] at h
  rw [h]
  split
  · rw [List.length_map]
    omega
  · rw [List.length_append, List.length_map]
    exact Nat.le_refl _
theorem accOf_len (bt : Int) : ∀ (kvs : List (D × Int × Int)) (a : List (D × Int)), (accOf bt kvs a).length ≤ a.length + kvs.length
  | [], a => Nat.le_refl _
  | z :: r, a => by
    have h1 := accOf_len bt r (addA a z.1 (z.2.1 * (bt / z.2.2)))
    have h2 := setA_len z.1 ((getA a z.1).getD 0 + z.2.1 * (bt / z.2.2)) a
    have h3 : (accOf bt (z :: r) a).length ≤ (addA a z.1 (z.2.1 * (bt / z.2.2))).length + r.length := h1
    have h4 : (addA a z.1 (z.2.1 * (bt / z.2.2))).length ≤ a.length + 1 := h2
    rw [List.length_cons]
    omega
end Ag
set_option Elab.async false
set_option linter.all false
set_option autoImplicit false
set_option maxRecDepth 100000
set_option maxHeartbeats 2000000
namespace Ag
open PySem PySem.Spec L2 TL
def ratP : D → Option (Int × Int)
  | .ins .ratio [.int a, .int b] => some (a, b)
  | _ => none
def ratPs : List D → Option (List (Int × Int))
  | [] => some []
  | d :: r => match ratP d, ratPs r with
    | some x, some xs => some (x :: xs)
    | _, _ => none
theorem ratP_inv {d : D} {r : Int × Int} (h : ratP d = some r) : d = rD r := by
  unfold ratP at h
  split at h
  · cases h; rfl
  · cases h
theorem ratPs_inv : ∀ {ds : List D} {rs : List (Int × Int)}, ratPs ds = some rs → ds = rs.map rD
  | [], rs, h => by cases h; rfl
  | d :: r, rs, h => by
    unfold ratPs at h
    split at h
    · rename_i x xs h1 h2
      cases h
      rw [List.map_cons, ratP_inv h1, ← ratPs_inv h2]
    · cases h
theorem ratPs_mk : ∀ rs : List (Int × Int), ratPs (rs.map rD) = some rs
  | [] => rfl
  | r :: rs => by
    show (match ratP (rD r), ratPs (rs.map rD) with
      | some x, some xs => some (x :: xs)
      | _, _ => none) = _
    rw [ratPs_mk rs]
    rfl
def RatsOk (rs : List (Int × Int)) : Prop := (lcmF 1 rs).log2 < 9000 ∧ ∀ r ∈ rs, 0 < r.2 ∧ r.2.natAbs.log2 < 9000 ∧ r.1.natAbs.log2 + (lcmF 1 rs / r.2.natAbs).log2 < 1000000
open Classical in
noncomputable def g_wholes : List D → Option D
  | [.lst ds] => match ratPs ds with
    | some rs => if RatsOk rs then some (.tup [.int (lcmF 1 rs : Nat), .lst (rs.map fun r => .int (r.1 * ((lcmF 1 rs : Nat) / r.2)))]) else none
    | none => none
  | _ => none
theorem wholes_g {ds : List D} {d : D} (h : g_wholes ds = some d) : semD ⟨1, N_wholes, ftOf fl9, gcB⟩ 40 40 s_wholes 1 ds = some d := by
  unfold g_wholes at h
  split at h
  · split at h
    · rename_i rs hrs
      split at h
      · rename_i hok
        cases h
        rw [ratPs_inv hrs, semD_K]
        exact wholes_plain rs hok.1 hok.2
      · cases h
    · cases h
  · cases h
noncomputable def flP : FtL := ("wholes", g_wholes) :: fl10
def N_pj : List Str := ["parts", "key", "number", "bottom", "factors", "sums", "factor"]
theorem sc_pj : FnScope N_pj ["parts"] (defScope s_parts_joined) := ⟨rfl, rfl, rfl, by decide +kernel, rfl, by decide +kernel, by decide +kernel⟩
noncomputable def pP : Par := ⟨1, N_pj, ftOf flP, gcB⟩
theorem pj_first (ds : List D) (B : List Stmt → DEnv → Option Out) : evSt pP (ev pP 40) (defScope s_parts_joined) B (stN (defBody s_parts_joined) 0) [some (.lst ds), none, none, none, none, none, none] =
    bindO ((argC (lcT (.inr [1, 2]) [some (.lst ds), none, none, none, none, none, none] (fun L1 => ((argC (L1.getD 2 none) arg0)).bind g_ratio_of) (inM (some (.lst ds)))) arg0).bind g_wholes) fun d => bindO (tgSet (.inr [3, 4]) d [some (.lst ds), none, none, none, none, none, none]) fun Γ => some (.nx Γ) := by kernel_rfl
theorem partsKV_len : ∀ {ds : List D} {kvs : List (D × Int × Int)}, partsKV ds = some kvs → ds.length = kvs.length
  | [], kvs, h => by cases h; rfl
  | d :: r, kvs, h => by
    unfold partsKV at h
    split at h
    · rename_i x xs h1 h2
      cases h
      rw [List.length_cons, List.length_cons, partsKV_len h2]
    · cases h
def kvD (z : D × Int × Int) : D := .tup [z.1, rD z.2]
theorem partKV_inv {d : D} {z : D × Int × Int} (h : partKV d = some z) : d = kvD z := by
  unfold partKV at h
  split at h
  · cases h; rfl
  · cases h
theorem partsKV_inv : ∀ {ds : List D} {kvs : List (D × Int × Int)}, partsKV ds = some kvs → ds = kvs.map kvD
  | [], kvs, h => by cases h; rfl
  | d :: r, kvs, h => by
    unfold partsKV at h
    split at h
    · rename_i x xs h1 h2
      cases h
      rw [List.map_cons, partKV_inv h1, ← partsKV_inv h2]
    · cases h
/-- the first statement -/
theorem pj_one {kvs : List (D × Int × Int)} (g : GoodKV kvs) (B : List Stmt → DEnv → Option Out) : evSt pP (ev pP 40) (defScope s_parts_joined) B (stN (defBody s_parts_joined) 0) [some (.lst (kvs.map kvD)), none, none, none, none, none, none] =
    some (.nx [some (.lst (kvs.map kvD)), none, none, some (.int (btOf kvs : Nat)), some (.lst (kvs.map fun z => .int (z.2.1 * ((btOf kvs : Nat) / z.2.2)))), none, none]) := by
  rw [pj_first]
  have e1 : lcT (.inr [1, 2]) [some (.lst (kvs.map kvD)), none, none, none, none, none, none] (fun L1 => ((argC (L1.getD 2 none) arg0)).bind g_ratio_of) (inM (some (.lst (kvs.map kvD)))) = some (.lst ((kvs.map (·.2)).map rD)) := by
    show lcT _ _ _ (some (kvs.map kvD)) = _
    rw [List.map_map]
    exact lcT_i fun z hz => ⟨_, rfl, rfl⟩
  have e2 : g_wholes [.lst ((kvs.map (·.2)).map rD)] = some (.tup [.int (btOf kvs : Nat), .lst ((kvs.map (·.2)).map fun r => .int (r.1 * ((btOf kvs : Nat) / r.2)))]) := by
    unfold g_wholes
    dsimp only
    rw [ratPs_mk]
    refine if_pos ⟨g.bt, fun r hr => ?_⟩
    obtain ⟨z, hz, rfl⟩ := List.mem_map.mp hr
    exact g.num z hz
  rw [e1]
  have e3 : (argC (some (D.lst ((kvs.map (·.2)).map rD))) arg0).bind g_wholes = some (.tup [.int (btOf kvs : Nat), .lst ((kvs.map (·.2)).map fun r => .int (r.1 * ((btOf kvs : Nat) / r.2)))]) := e2
  rw [e3, List.map_map]
  rfl
theorem accOf_snoc (bt : Int) {kvs : List (D × Int × Int)} {i : Nat} {z : D × Int × Int} (h : kvs[i]? = some z) : accOf bt (kvs.take (i + 1)) [] = addA (accOf bt (kvs.take i) []) z.1 (z.2.1 * (bt / z.2.2)) := by
  unfold accOf
  rw [List.take_add_one, h, List.foldl_append]
  rfl
theorem fn_pj {c : Ctx} (L : Lib 1 c (ftOf flP) gcB) (mz : c.mg "zip" = none) {f1 f2 : Addr} {fd1 fd2 : FuncData} {k1 k2 : Nat}
    (F1 : FnOk c.P c.w c.K c.mg c.base CX0 k1 f1 fd1 ["sums", "key", "number"] (spPM c)) (h1 : k1 ≤ c.k) (m1 : c.mg "put_more" = some (.ref f1)) (p1 : PySem.W.keepIn c.K (.ref f1) = true) (b1 : Binds c.K fd1 ["sums", "key", "number"] [])
    (F2 : FnOk c.P c.w c.K c.mg c.base CX0 k2 f2 fd2 ["bottom", "sums"] (spST c)) (h2 : k2 ≤ c.k) (m2 : c.mg "sums_told" = some (.ref f2)) (p2 : PySem.W.keepIn c.K (.ref f2) = true) (b2 : Binds c.K fd2 ["bottom", "sums"] [])
    {x qual : Str} {f : Addr} {fd : FuncData} (F : Fun c.K x qual s_parts_joined f fd) : FnOk c.P c.w c.K c.mg c.base CX0 (c.k + 1) f fd ["parts"] (spD c.K g_parts_joined) := by
  have inv : ∀ {ds : List D} {d : D}, g_parts_joined ds = some d → ∃ kvs, ds = [.lst (kvs.map kvD)] ∧ GoodKV kvs ∧ d = .lst (toldA (btOf kvs) (accOf (btOf kvs) kvs [])) := by
    intro ds d h
    unfold g_parts_joined at h
    split at h
    · split at h
      · rename_i kvs hk
        split at h
        · rename_i gk
          cases h
          exact ⟨kvs, by rw [partsKV_inv hk], gk, rfl⟩
        · cases h
      · cases h
    · cases h
  refine F.ok sc_pj (fun vs H Q E ⟨G, ds, d, hs, r, hg, hq⟩ => ?_) fun cdv A outer s0 H vs Q E hr ⟨G, ds, d, hs, r, hg, hq⟩ => ?_
  · obtain ⟨kvs, rfl, _, _⟩ := inv hg
    rw [r.length]
    rfl
  obtain ⟨kvs, rfl, gk, rfl⟩ := inv hg
  have hN := sc_pj.nd
  have V0 := L.given hN
  have g := noxGood (CX := CX0) (c := c) (N := N_pj) (outer := outer) (H := H) (E := E) hr sc_pj.kind
  have F1' := F1.mono h1
  have F2' := F2.mono h2
  refine ⟨_, pss_cons (sSt V0 g (sound_ev V0 40) (sSs V0 g (sound_ev V0 40) 0) (stN (defBody s_parts_joined) 0))
    (pss_cons (ps_set (i := 5) hN rfl (.inl rfl) pe_dctNew)
    (pss_cons (ps_for .never rfl (RZ.pi_zipA (by rfl) mz (pa_cons (pv 0) (pa_cons (pv 4) pa_nil)))
        (pg_tup rfl (pgs_cons (pg_tup rfl (pgs_cons (pg_name (i := 1) hN rfl (.inl rfl)) (pgs_cons (pg_name (i := 2) hN rfl (.inl rfl)) pgs_nil))) (pgs_cons (pg_name (i := 6) hN rfl (.inl rfl)) pgs_nil)))
        (pss_one (ps_expr (pe_call (E := E0) F1' hr (by rfl) m1 p1 b1 .nil pass0 (pa_cons (pv 5) (pa_cons (pv 1) (pa_cons (pv 6) pa_nil)))))))
    (pss_one (ps_ret (pe_call (E := E0) F2' hr (by rfl) m2 p2 b2 .nil pass0 (pa_cons (pv 3) (pa_cons (pv 5) pa_nil))))))), ?_⟩
  refine ⟨G, entry N_pj [.lst (kvs.map kvD)], _, hs, entry_ok r, pj_one gk _, fun Γ' e σ1 G1 H1 w0 he => ?_, fun d e => by cases e⟩
  cases e
  obtain ⟨v0, q0, r0⟩ := he.get 0 _ rfl
  obtain ⟨a0, xs, rfl, hx, rx⟩ := r0.of_lst
  obtain ⟨v3, q3, r3⟩ := he.get 3 _ rfl
  obtain rfl := r3.of_int
  obtain ⟨v4, q4, r4⟩ := he.get 4 _ rfl
  obtain ⟨a4, ys, rfl, hy, ry⟩ := r4.of_lst
  have hlen : 7 ≤ σ1.length := he.len
  refine fun s hs0 => ?_
  have hg0 : G1 s = none := Ext.back w0.sub hs0
  have nes : ∀ {a o}, H1 a = some o → a ≠ s := fun {a o} e z => by rw [z, hs0] at e; cases e
  have e2 : Ext H1 (upd H1 s (DctO c.P c.w s [])) := Ext.upd hs0
  refine ⟨_, (by rw [List.getElem?_set_ne (by decide)]; exact q0), _, (by rw [List.getElem?_set_ne (by decide)]; exact q4), a0, a4, xs, ys, rfl, .inl ⟨SqL.of (e2 _ _ (w0.sub _ _ hx)), SqL.of (e2 _ _ (w0.sub _ _ hy)), ?_⟩⟩
  have lx : xs.length = kvs.length := by rw [rx.length, List.length_map]
  have ly : ys.length = kvs.length := by rw [ry.length, List.length_map]
  have kl := gk.len
  refine RZ.for_zipL (xs := xs) (ys := ys) (by rw [lx, ly]) (fun i σ H' => 7 ≤ σ.length ∧ σ[3]? = some (some (.int (btOf kvs : Nat))) ∧ σ[5]? = some (some (.ref s)) ∧ Ext H1 (fun a => if a = s then none else H' a) ∧ ∃ ks, H' s = some (DctO c.P c.w s ks) ∧ AccOk c.K G1 ks (accOf (btOf kvs) (kvs.take i) []) ∧ ks.length ≤ i) ?_ ?_ ?_ ?_
  · refine ⟨by rw [List.length_set]; exact hlen, by rw [List.getElem?_set_ne (by decide)]; exact q3, List.getElem?_set_self (by omega), fun a o e => ?_, [], upd_same, .nil, Nat.le_refl _⟩
    show (if a = s then none else upd H1 s (DctO c.P c.w s []) a) = some o
    rw [if_neg (nes e), upd_ne (nes e)]
    exact e
  · rintro i σ H' ⟨_, _, _, e, _⟩
    have up : ∀ {a o}, H1 a = some o → H' a = some o := fun {a o} h => by
      have this : (if a = s then none else H' a) = some o := e a o h
      rw [if_neg (nes h)] at this
      exact this
    exact ⟨SqL.of (up (w0.sub _ _ hx)), SqL.of (up (w0.sub _ _ hy))⟩
  · rintro i x y T σ H' hxi hyi ⟨hl, s3, s5, e, ks, hs1, ha, hk⟩ hT
    have up : ∀ {a o}, H1 a = some o → H' a = some o := fun {a o} h => by
      have this : (if a = s then none else H' a) = some o := e a o h
      rw [if_neg (nes h)] at this
      exact this
    have hi : i < kvs.length := by
      rw [← lx]
      exact (List.getElem?_eq_some_iff.mp hxi).1
    have hz : kvs[i]? = some kvs[i] := List.getElem?_eq_getElem hi
    generalize hzz : kvs[i] = z at hz
    obtain ⟨k, t, b⟩ := z
    obtain ⟨dx, hdx, rdx⟩ := rx.getV hxi
    rw [List.getElem?_map, hz] at hdx
    cases hdx
    obtain ⟨dy, hdy, rdy⟩ := ry.getV hyi
    rw [List.getElem?_map, hz] at hdy
    cases hdy
    obtain ⟨pa, pvs, rfl, hp, rp⟩ := rdx.of_tup
    obtain ⟨vk, vr, rfl, rk, rr⟩ := reps_two rp
    obtain rfl := rdy.of_int
    have hm : k ∈ (accOf (btOf kvs) kvs []).map (·.1) := accOf_has _ kvs [] (k, t, b) (List.mem_of_getElem? hz)
    obtain ⟨kk1, kk2, kk3⟩ := gk.sort.1 k hm
    obtain ⟨bb, rfl⟩ := tup_ref kk2 rk
    have hTs : T ≠ s := fun z => by rw [z, hs1] at hT; cases hT
    have eT : Ext H' (upd H' T (.tup [.ref pa, .int (t * ((btOf kvs : Nat) / b))])) := Ext.upd hT
    have e3 : Ext G1 (upd H' T (.tup [.ref pa, .int (t * ((btOf kvs : Nat) / b))])) := fun a o h => eT _ _ (up (w0.sub _ _ h))
    refine ⟨T, _, rfl, SqT.of upd_same, rfl, _, _, rfl, pa, _, rfl, hp.ext e3, rfl, _, _, rfl, _, _, rfl, rfl, _, _, rfl, rfl, ?_⟩
    have g5 : ((((σ.set 1 (some (.ref bb))).set 2 (some vr)).set 6 (some (.int (t * ((btOf kvs : Nat) / b))))))[5]? = some (some (.ref s)) := by
      rw [List.getElem?_set_ne (by decide), List.getElem?_set_ne (by decide), List.getElem?_set_ne (by decide)]
      exact s5
    have g1 : ((((σ.set 1 (some (.ref bb))).set 2 (some vr)).set 6 (some (.int (t * ((btOf kvs : Nat) / b))))))[1]? = some (some (.ref bb)) := by
      rw [List.getElem?_set_ne (by decide), List.getElem?_set_ne (by decide), List.getElem?_set_self (by omega)]
    have g6 : ((((σ.set 1 (some (.ref bb))).set 2 (some vr)).set 6 (some (.int (t * ((btOf kvs : Nat) / b))))))[6]? = some (some (.int (t * ((btOf kvs : Nat) / b)))) := List.getElem?_set_self (by rw [List.length_set, List.length_set]; omega)
    have g3 : ((((σ.set 1 (some (.ref bb))).set 2 (some vr)).set 6 (some (.int (t * ((btOf kvs : Nat) / b))))))[3]? = some (some (.int (btOf kvs : Nat))) := by
      rw [List.getElem?_set_ne (by decide), List.getElem?_set_ne (by decide), List.getElem?_set_ne (by decide)]
      exact s3
    refine ⟨_, g5, _, g1, _, g6, s, bb, _, G1, ks, _, k, rfl, by rw [upd_ne (Ne.symm hTs)]; exact hs1, e3, ha, accOf_nd _ _ [] List.nodup_nil, kk1, kk3, rk, by omega, fun ks' ha' hk' => ?_⟩
    refine ⟨by rw [List.length_set, List.length_set, List.length_set]; exact hl, g3, g5, fun a o h => ?_, ks', upd_same, ?_, by omega⟩
    · show (if a = s then none else upd (upd H' T (.tup [.ref pa, .int (t * ((btOf kvs : Nat) / b))])) s (DctO c.P c.w s ks') a) = some o
      rw [if_neg (nes h), upd_ne (nes h)]
      exact eT _ _ (up h)
    · rw [accOf_snoc _ hz]
      exact ha'
  · rintro σ H' ⟨hl, s3, s5, e, ks, hs1, ha, hk⟩
    have up : ∀ {a o}, H1 a = some o → H' a = some o := fun {a o} h => by
      have this : (if a = s then none else H' a) = some o := e a o h
      rw [if_neg (nes h)] at this
      exact this
    rw [List.take_of_length_le (by rw [lx]; exact Nat.le_refl _)] at ha
    have hpos : 0 < btOf kvs := lcmF_pos (kvs.map Prod.snd) 1 Nat.one_pos fun r hr => by
      obtain ⟨z, hz, rfl⟩ := List.mem_map.mp hr
      exact (gk.num z hz).1
    have hal := accOf_len (btOf kvs) kvs []
    refine ⟨_, s3, _, s5, s, _, G1, ks, _, rfl, hs1, fun a o h => up (w0.sub _ _ h), ha, gk.sort, ?_, by omega, by rw [Int.natAbs_natCast]; exact gk.bt, fun v G' H'' w r => ?_⟩
    · rw [List.length_nil] at hal
      omega
    · have w1 : Grow G1 H1 G1 H' := Grow.same w0.sub fun a o h => up h
      exact hq v G' H'' ((w0.trans w1).trans w) r
end Ag
set_option Elab.async false
set_option linter.all false
set_option autoImplicit false
set_option maxRecDepth 100000
set_option maxHeartbeats 2000000
namespace Ag
open PySem PySem.Spec L2 TL PyProof.Rows
section
variable {c : Ctx}
theorem fs_is_integer : FnScope N_is_integer ["value"] (defScope s_is_integer) := ⟨rfl, rfl, rfl, by decide +kernel, rfl, by decide +kernel, by decide +kernel⟩
theorem bp_is_integer : BindsP "is_integer" s_is_integer ["value"] := fun _ _ _ _ _ _ us hl => match us, hl with | [_], _ => rfl
theorem kn_is_integer (b : B0 c) (L : Lib 0 c (ftOf fl0) gcB) : Kn c CX0 "is_integer" ["value"] (spD c.K g_is_integer) (c.k + 1) := mkD b L 0 rfl rfl fs_is_integer bp_is_integer fun _ _ h => is_integer_g h
theorem fs_is_list : FnScope N_is_list ["value"] (defScope s_is_list) := ⟨rfl, rfl, rfl, by decide +kernel, rfl, by decide +kernel, by decide +kernel⟩
theorem bp_is_list : BindsP "is_list" s_is_list ["value"] := fun _ _ _ _ _ _ us hl => match us, hl with | [_], _ => rfl
theorem kn_is_list (b : B0 c) (L : Lib 0 c (ftOf fl0) gcB) : Kn c CX0 "is_list" ["value"] (spD c.K g_is_list) (c.k + 1) := mkD b L 2 rfl rfl fs_is_list bp_is_list fun _ _ h => is_list_g h
theorem fs_count_told : FnScope N_count_told ["text"] (defScope s_count_told) := ⟨rfl, rfl, rfl, by decide +kernel, rfl, by decide +kernel, by decide +kernel⟩
theorem bp_count_told : BindsP "count_told" s_count_told ["text"] := fun _ _ _ _ _ _ us hl => match us, hl with | [_], _ => rfl
theorem kn_count_told (b : B0 c) (L : Lib 0 c (ftOf fl0) gcB) : Kn c CX0 "count_told" ["text"] (spD c.K g_count_told) (c.k + 1) := mkD b L 23 rfl rfl fs_count_told bp_count_told fun _ _ h => count_told_g h
theorem fs__law_count : FnScope N__law_count ["_law_text_here"] (defScope s__law_count) := ⟨rfl, rfl, rfl, by decide +kernel, rfl, by decide +kernel, by decide +kernel⟩
theorem bp__law_count : BindsP "_law_count" s__law_count ["_law_text_here"] := fun _ _ _ _ _ _ us hl => match us, hl with | [_], _ => rfl
theorem kn__law_count (b : B0 c) (L : Lib 0 c (ftOf fl0) gcB) : Kn c CX0 "_law_count" ["_law_text_here"] (spD c.K g_count_told) (c.k + 1) := mkD b L 52 rfl rfl fs__law_count bp__law_count fun _ _ h => _law_count_g h
theorem fs_divisor_of : FnScope N_divisor_of ["one", "other"] (defScope s_divisor_of) := ⟨rfl, rfl, rfl, by decide +kernel, rfl, by decide +kernel, by decide +kernel⟩
theorem bp_divisor_of : BindsP "divisor_of" s_divisor_of ["one", "other"] := fun _ _ _ _ _ _ us hl => match us, hl with | [_, _], _ => rfl
theorem kn_divisor_of (b : B0 c) (L : Lib 0 c (ftOf fl1) gcB) : Kn c CX0 "divisor_of" ["one", "other"] (spD c.K g_divisor_of) (c.k + 1) := mkD b L 3 rfl rfl fs_divisor_of bp_divisor_of fun _ _ h => divisor_of_g h
theorem fs_is_count : FnScope N_is_count ["value"] (defScope s_is_count) := ⟨rfl, rfl, rfl, by decide +kernel, rfl, by decide +kernel, by decide +kernel⟩
theorem bp_is_count : BindsP "is_count" s_is_count ["value"] := fun _ _ _ _ _ _ us hl => match us, hl with | [_], _ => rfl
theorem kn_is_count (b : B0 c) (L : Lib 0 c (ftOf fl1) gcB) : Kn c CX0 "is_count" ["value"] (spD c.K g_is_count) (c.k + 1) := mkD b L 1 rfl rfl fs_is_count bp_is_count fun _ _ h => is_count_g h
theorem fs_integer_told : FnScope N_integer_told ["text"] (defScope s_integer_told) := ⟨rfl, rfl, rfl, by decide +kernel, rfl, by decide +kernel, by decide +kernel⟩
theorem bp_integer_told : BindsP "integer_told" s_integer_told ["text"] := fun _ _ _ _ _ _ us hl => match us, hl with | [_], _ => rfl
theorem kn_integer_told (b : B0 c) (L : Lib 1 c (ftOf fl3) gcB) : Kn c CX0 "integer_told" ["text"] (spD c.K g_integer_told) (c.k + 1) := mkD b L 24 rfl rfl fs_integer_told bp_integer_told fun _ _ h => integer_told_g h
theorem fs_number_told : FnScope N_number_told ["text"] (defScope s_number_told) := ⟨rfl, rfl, rfl, by decide +kernel, rfl, by decide +kernel, by decide +kernel⟩
theorem bp_number_told : BindsP "number_told" s_number_told ["text"] := fun _ _ _ _ _ _ us hl => match us, hl with | [_], _ => rfl
theorem kn_number_told (b : B0 c) (L : Lib 1 c (ftOf fl4) gcB) : Kn c CX0 "number_told" ["text"] (spD c.K g_number_told) (c.k + 1) := mkD b L 25 rfl rfl fs_number_told bp_number_told fun _ _ h => number_told_g h
theorem fs__law_number : FnScope N__law_number ["_law_text_here"] (defScope s__law_number) := ⟨rfl, rfl, rfl, by decide +kernel, rfl, by decide +kernel, by decide +kernel⟩
theorem bp__law_number : BindsP "_law_number" s__law_number ["_law_text_here"] := fun _ _ _ _ _ _ us hl => match us, hl with | [_], _ => rfl
theorem kn__law_number (b : B0 c) (L : Lib 1 c (ftOf fl4) gcB) : Kn c CX0 "_law_number" ["_law_text_here"] (spD c.K g_number_told) (c.k + 1) := mkD b L 53 rfl rfl fs__law_number bp__law_number fun _ _ h => _law_number_g h
theorem fs_letter_told : FnScope N_letter_told ["columns", "text"] (defScope s_letter_told) := ⟨rfl, rfl, rfl, by decide +kernel, rfl, by decide +kernel, by decide +kernel⟩
theorem bp_letter_told : BindsP "letter_told" s_letter_told ["columns", "text"] := fun _ _ _ _ _ _ us hl => match us, hl with | [_, _], _ => rfl
theorem kn_letter_told (b : B0 c) (L : Lib 1 c (ftOf fl5) gcB) : Kn c CX0 "letter_told" ["columns", "text"] (spD c.K g_letter_told) (c.k + 1) := mkD b L 26 rfl rfl fs_letter_told bp_letter_told fun _ _ h => letter_told_g h
theorem fs__law_letter_of : FnScope N__law_letter_of ["_law_columns", "_law_text_here"] (defScope s__law_letter_of) := ⟨rfl, rfl, rfl, by decide +kernel, rfl, by decide +kernel, by decide +kernel⟩
theorem bp__law_letter_of : BindsP "_law_letter_of" s__law_letter_of ["_law_columns", "_law_text_here"] := fun _ _ _ _ _ _ us hl => match us, hl with | [_, _], _ => rfl
theorem kn__law_letter_of (b : B0 c) (L : Lib 1 c (ftOf fl5) gcB) : Kn c CX0 "_law_letter_of" ["_law_columns", "_law_text_here"] (spD c.K g_letter_told) (c.k + 1) := mkD b L 55 rfl rfl fs__law_letter_of bp__law_letter_of fun _ _ h => _law_letter_of_g h
theorem fs_word_told : FnScope N_word_told ["columns", "text"] (defScope s_word_told) := ⟨rfl, rfl, rfl, by decide +kernel, rfl, by decide +kernel, by decide +kernel⟩
theorem bp_word_told : BindsP "word_told" s_word_told ["columns", "text"] := fun _ _ _ _ _ _ us hl => match us, hl with | [_, _], _ => rfl
theorem kn_word_told (b : B0 c) (L : Lib 1 c (ftOf fl6) gcB) : Kn c CX0 "word_told" ["columns", "text"] (spD c.K g_word_told) (c.k + 1) := mkD b L 27 rfl rfl fs_word_told bp_word_told fun _ _ h => word_told_g h
theorem fs__law_word_of : FnScope N__law_word_of ["_law_columns", "_law_text_here"] (defScope s__law_word_of) := ⟨rfl, rfl, rfl, by decide +kernel, rfl, by decide +kernel, by decide +kernel⟩
theorem bp__law_word_of : BindsP "_law_word_of" s__law_word_of ["_law_columns", "_law_text_here"] := fun _ _ _ _ _ _ us hl => match us, hl with | [_, _], _ => rfl
theorem kn__law_word_of (b : B0 c) (L : Lib 1 c (ftOf fl6) gcB) : Kn c CX0 "_law_word_of" ["_law_columns", "_law_text_here"] (spD c.K g_word_told) (c.k + 1) := mkD b L 56 rfl rfl fs__law_word_of bp__law_word_of fun _ _ h => _law_word_of_g h
theorem fs_numbers_told : FnScope N_numbers_told ["columns", "parts"] (defScope s_numbers_told) := ⟨rfl, rfl, rfl, by decide +kernel, rfl, by decide +kernel, by decide +kernel⟩
theorem bp_numbers_told : BindsP "numbers_told" s_numbers_told ["columns", "parts"] := fun _ _ _ _ _ _ us hl => match us, hl with | [_, _], _ => rfl
theorem kn_numbers_told (b : B0 c) (L : Lib 1 c (ftOf fl7) gcB) : Kn c CX0 "numbers_told" ["columns", "parts"] (spD c.K g_numbers_told) (c.k + 1) := mkD b L 28 rfl rfl fs_numbers_told bp_numbers_told fun _ _ h => numbers_told_g h
theorem fs__law_numbers : FnScope N__law_numbers ["_law_texts"] (defScope s__law_numbers) := ⟨rfl, rfl, rfl, by decide +kernel, rfl, by decide +kernel, by decide +kernel⟩
theorem bp__law_numbers : BindsP "_law_numbers" s__law_numbers ["_law_texts"] := fun _ _ _ _ _ _ us hl => match us, hl with | [_], _ => rfl
theorem kn__law_numbers (b : B0 c) (L : Lib 1 c (ftOf fl7) gcB) : Kn c CX0 "_law_numbers" ["_law_texts"] (spD c.K g__law_numbers) (c.k + 1) := mkD b L 54 rfl rfl fs__law_numbers bp__law_numbers fun _ _ h => _law_numbers_g h
theorem fs_step_of_two : FnScope N_step_of_two ["word", "places", "ahead"] (defScope s_step_of_two) := ⟨rfl, rfl, rfl, by decide +kernel, rfl, by decide +kernel, by decide +kernel⟩
theorem bp_step_of_two : BindsP "step_of_two" s_step_of_two ["word", "places", "ahead"] := fun _ _ _ _ _ _ us hl => match us, hl with | [_, _, _], _ => rfl
theorem kn_step_of_two (b : B0 c) (L : Lib 1 c (ftOf fl7) gcB) : Kn c CX0 "step_of_two" ["word", "places", "ahead"] (spD c.K g_step_of_two) (c.k + 1) := mkD b L 30 rfl rfl fs_step_of_two bp_step_of_two fun _ _ h => step_of_two_g h
theorem fs_row_told : FnScope N_row_told ["columns", "ahead", "line"] (defScope s_row_told) := ⟨rfl, rfl, rfl, by decide +kernel, rfl, by decide +kernel, by decide +kernel⟩
theorem bp_row_told : BindsP "row_told" s_row_told ["columns", "ahead", "line"] := fun _ _ _ _ _ _ us hl => match us, hl with | [_, _, _], _ => rfl
theorem kn_row_told (b : B0 c) (L : Lib 1 c (ftOf fl8) gcB) : Kn c CX0 "row_told" ["columns", "ahead", "line"] (spD c.K (takeG .tab)) (c.k + 1) := mkD b L 29 rfl rfl fs_row_told bp_row_told fun _ _ h => take_tab h
theorem fs_step_told : FnScope N_step_told ["columns", "ahead", "line"] (defScope s_step_told) := ⟨rfl, rfl, rfl, by decide +kernel, rfl, by decide +kernel, by decide +kernel⟩
theorem bp_step_told : BindsP "step_told" s_step_told ["columns", "ahead", "line"] := fun _ _ _ _ _ _ us hl => match us, hl with | [_, _, _], _ => rfl
theorem kn_step_told (b : B0 c) (L : Lib 1 c (ftOf fl8) gcB) : Kn c CX0 "step_told" ["columns", "ahead", "line"] (spD c.K (takeG .prog)) (c.k + 1) := mkD b L 31 rfl rfl fs_step_told bp_step_told fun _ _ h => take_prog h
theorem fs_word_part_told : FnScope N_word_part_told ["columns", "ahead", "line"] (defScope s_word_part_told) := ⟨rfl, rfl, rfl, by decide +kernel, rfl, by decide +kernel, by decide +kernel⟩
theorem bp_word_part_told : BindsP "word_part_told" s_word_part_told ["columns", "ahead", "line"] := fun _ _ _ _ _ _ us hl => match us, hl with | [_, _, _], _ => rfl
theorem kn_word_part_told (b : B0 c) (L : Lib 1 c (ftOf fl8) gcB) : Kn c CX0 "word_part_told" ["columns", "ahead", "line"] (spD c.K (takeG .tal)) (c.k + 1) := mkD b L 32 rfl rfl fs_word_part_told bp_word_part_told fun _ _ h => take_tal h
theorem fs_term_part_told : FnScope N_term_part_told ["columns", "ahead", "line"] (defScope s_term_part_told) := ⟨rfl, rfl, rfl, by decide +kernel, rfl, by decide +kernel, by decide +kernel⟩
theorem bp_term_part_told : BindsP "term_part_told" s_term_part_told ["columns", "ahead", "line"] := fun _ _ _ _ _ _ us hl => match us, hl with | [_, _, _], _ => rfl
theorem kn_term_part_told (b : B0 c) (L : Lib 1 c (ftOf fl8) gcB) : Kn c CX0 "term_part_told" ["columns", "ahead", "line"] (spD c.K (takeG .frm)) (c.k + 1) := mkD b L 33 rfl rfl fs_term_part_told bp_term_part_told fun _ _ h => take_frm h
theorem fs_lot_told : FnScope N_lot_told ["columns", "ahead", "line"] (defScope s_lot_told) := ⟨rfl, rfl, rfl, by decide +kernel, rfl, by decide +kernel, by decide +kernel⟩
theorem bp_lot_told : BindsP "lot_told" s_lot_told ["columns", "ahead", "line"] := fun _ _ _ _ _ _ us hl => match us, hl with | [_, _, _], _ => rfl
theorem kn_lot_told (b : B0 c) (L : Lib 1 c (ftOf fl8) gcB) : Kn c CX0 "lot_told" ["columns", "ahead", "line"] (spD c.K (takeG .rns)) (c.k + 1) := mkD b L 34 rfl rfl fs_lot_told bp_lot_told fun _ _ h => take_rns h
theorem fs_head_told : FnScope N_head_told ["sort", "line"] (defScope s_head_told) := ⟨rfl, rfl, rfl, by decide +kernel, rfl, by decide +kernel, by decide +kernel⟩
theorem bp_head_told : BindsP "head_told" s_head_told ["sort", "line"] := fun _ _ _ _ _ _ us hl => match us, hl with | [_, _], _ => rfl
theorem kn_head_told (b : B0 c) (L : Lib 1 c (ftOf fl8) gcB) : Kn c CX0 "head_told" ["sort", "line"] (spD c.K g_head_told) (c.k + 1) := mkD b L 35 rfl rfl fs_head_told bp_head_told fun _ _ h => head_g h
theorem fs__law_row_of : FnScope N__law_row_of ["_law_columns", "_law_parts"] (defScope s__law_row_of) := ⟨rfl, rfl, rfl, by decide +kernel, rfl, by decide +kernel, by decide +kernel⟩
theorem bp__law_row_of : BindsP "_law_row_of" s__law_row_of ["_law_columns", "_law_parts"] := fun _ _ _ _ _ _ us hl => match us, hl with | [_, _], _ => rfl
theorem kn__law_row_of (b : B0 c) (L : Lib 1 c (ftOf fl8) gcB) : Kn c CX0 "_law_row_of" ["_law_columns", "_law_parts"] (spD c.K g__law_row_of) (c.k + 1) := mkD b L 57 rfl rfl fs__law_row_of bp__law_row_of fun _ _ h => law_row_g h
theorem fs__law_step_of : FnScope N__law_step_of ["_law_columns", "_law_at", "_law_parts"] (defScope s__law_step_of) := ⟨rfl, rfl, rfl, by decide +kernel, rfl, by decide +kernel, by decide +kernel⟩
theorem bp__law_step_of : BindsP "_law_step_of" s__law_step_of ["_law_columns", "_law_at", "_law_parts"] := fun _ _ _ _ _ _ us hl => match us, hl with | [_, _, _], _ => rfl
theorem kn__law_step_of (b : B0 c) (L : Lib 1 c (ftOf fl8) gcB) : Kn c CX0 "_law_step_of" ["_law_columns", "_law_at", "_law_parts"] (spD c.K g__law_step_of) (c.k + 1) := mkD b L 58 rfl rfl fs__law_step_of bp__law_step_of fun _ _ h => law_step_g h
theorem fs__law_part_of : FnScope N__law_part_of ["_law_columns", "_law_parts"] (defScope s__law_part_of) := ⟨rfl, rfl, rfl, by decide +kernel, rfl, by decide +kernel, by decide +kernel⟩
theorem bp__law_part_of : BindsP "_law_part_of" s__law_part_of ["_law_columns", "_law_parts"] := fun _ _ _ _ _ _ us hl => match us, hl with | [_, _], _ => rfl
theorem kn__law_part_of (b : B0 c) (L : Lib 1 c (ftOf fl8) gcB) : Kn c CX0 "_law_part_of" ["_law_columns", "_law_parts"] (spD c.K g__law_part_of) (c.k + 1) := mkD b L 59 rfl rfl fs__law_part_of bp__law_part_of fun _ _ h => law_part_g h
theorem fs__law_term_of : FnScope N__law_term_of ["_law_columns", "_law_parts"] (defScope s__law_term_of) := ⟨rfl, rfl, rfl, by decide +kernel, rfl, by decide +kernel, by decide +kernel⟩
theorem bp__law_term_of : BindsP "_law_term_of" s__law_term_of ["_law_columns", "_law_parts"] := fun _ _ _ _ _ _ us hl => match us, hl with | [_, _], _ => rfl
theorem kn__law_term_of (b : B0 c) (L : Lib 1 c (ftOf fl8) gcB) : Kn c CX0 "_law_term_of" ["_law_columns", "_law_parts"] (spD c.K g__law_term_of) (c.k + 1) := mkD b L 60 rfl rfl fs__law_term_of bp__law_term_of fun _ _ h => law_term_g h
theorem fs__law_lot_of : FnScope N__law_lot_of ["_law_columns", "_law_parts"] (defScope s__law_lot_of) := ⟨rfl, rfl, rfl, by decide +kernel, rfl, by decide +kernel, by decide +kernel⟩
theorem bp__law_lot_of : BindsP "_law_lot_of" s__law_lot_of ["_law_columns", "_law_parts"] := fun _ _ _ _ _ _ us hl => match us, hl with | [_, _], _ => rfl
theorem kn__law_lot_of (b : B0 c) (L : Lib 1 c (ftOf fl8) gcB) : Kn c CX0 "_law_lot_of" ["_law_columns", "_law_parts"] (spD c.K g__law_lot_of) (c.k + 1) := mkD b L 61 rfl rfl fs__law_lot_of bp__law_lot_of fun _ _ h => law_lot_g h
theorem fs_is_number : FnScope N_is_number ["value"] (defScope s_is_number) := ⟨rfl, rfl, rfl, by decide +kernel, rfl, by decide +kernel, by decide +kernel⟩
theorem bp_is_number : BindsP "is_number" s_is_number ["value"] := fun _ _ _ _ _ _ us hl => match us, hl with | [_], _ => rfl
theorem kn_is_number (b : B0 c) (L : Lib 1 c (ftOf fl9) gcB) : Kn c CX0 "is_number" ["value"] (spD c.K g_is_number) (c.k + 1) := mkD b L 4 rfl rfl fs_is_number bp_is_number fun _ _ h => is_number_plain h
theorem fs_ratio_of : FnScope N_ratio_of ["number"] (defScope s_ratio_of) := ⟨rfl, rfl, rfl, by decide +kernel, rfl, by decide +kernel, by decide +kernel⟩
theorem bp_ratio_of : BindsP "ratio_of" s_ratio_of ["number"] := fun _ _ _ _ _ _ us hl => match us, hl with | [_], _ => rfl
theorem kn_ratio_of (b : B0 c) (L : Lib 1 c (ftOf fl9) gcB) : Kn c CX0 "ratio_of" ["number"] (spD c.K g_ratio_of) (c.k + 1) := mkD b L 5 rfl rfl fs_ratio_of bp_ratio_of fun _ _ h => ratio_of_plain h
theorem fs_want_columns : FnScope N_want_columns ["value"] (defScope s_want_columns) := ⟨rfl, rfl, rfl, by decide +kernel, rfl, by decide +kernel, by decide +kernel⟩
theorem bp_want_columns : BindsP "want_columns" s_want_columns ["value"] := fun _ _ _ _ _ _ us hl => match us, hl with | [_], _ => rfl
theorem kn_want_columns (b : B0 c) (L : Lib 1 c (ftOf fl9) gcB) : Kn c CX0 "want_columns" ["value"] (spD c.K g_want_columns) (c.k + 1) := mkD b L 7 rfl rfl fs_want_columns bp_want_columns fun _ _ h => want_columns_plain h
theorem fs_wholes : FnScope N_wholes ["ratios"] (defScope s_wholes) := ⟨rfl, rfl, rfl, by decide +kernel, rfl, by decide +kernel, by decide +kernel⟩
theorem bp_wholes : BindsP "wholes" s_wholes ["ratios"] := fun _ _ _ _ _ _ us hl => match us, hl with | [_], _ => rfl
theorem kn_wholes (b : B0 c) (L : Lib 1 c (ftOf fl9) gcB) : Kn c CX0 "wholes" ["ratios"] (spD c.K g_wholes) (c.k + 1) := mkD b L 6 rfl rfl fs_wholes bp_wholes fun _ _ h => wholes_g h
theorem fs_is_row : FnScope N_is_row ["columns", "value"] (defScope s_is_row) := ⟨rfl, rfl, rfl, by decide +kernel, rfl, by decide +kernel, by decide +kernel⟩
theorem bp_is_row : BindsP "is_row" s_is_row ["columns", "value"] := fun _ _ _ _ _ _ us hl => match us, hl with | [_, _], _ => rfl
theorem kn_is_row (b : B0 c) (L : Lib 1 c (ftOf fl10) gcB) : Kn c CX0 "is_row" ["columns", "value"] (spD c.K g_is_row) (c.k + 1) := mkD b L 8 rfl rfl fs_is_row bp_is_row fun _ _ h => is_row_plain h
theorem fs_told_row : FnScope N_told_row ["row"] (defScope s_told_row) := ⟨rfl, rfl, rfl, by decide +kernel, rfl, by decide +kernel, by decide +kernel⟩
theorem bp_told_row : BindsP "told_row" s_told_row ["row"] := fun _ _ _ _ _ _ us hl => match us, hl with | [_], _ => rfl
theorem kn_told_row (b : B0 c) (L : Lib 1 c (ftOf fl10) gcB) : Kn c CX0 "told_row" ["row"] (spD c.K g_told_row) (c.k + 1) := mkD b L 9 rfl rfl fs_told_row bp_told_row fun _ _ h => told_row_plain h
theorem fs_is_letter_of : FnScope N_is_letter_of ["columns", "value"] (defScope s_is_letter_of) := ⟨rfl, rfl, rfl, by decide +kernel, rfl, by decide +kernel, by decide +kernel⟩
theorem bp_is_letter_of : BindsP "is_letter_of" s_is_letter_of ["columns", "value"] := fun _ _ _ _ _ _ us hl => match us, hl with | [_, _], _ => rfl
theorem kn_is_letter_of (b : B0 c) (L : Lib 1 c (ftOf fl10) gcB) : Kn c CX0 "is_letter_of" ["columns", "value"] (spD c.K g_is_letter_of) (c.k + 1) := mkD b L 10 rfl rfl fs_is_letter_of bp_is_letter_of fun _ _ h => is_letter_of_plain h
theorem fs_term_length : FnScope N_term_length ["term"] (defScope s_term_length) := ⟨rfl, rfl, rfl, by decide +kernel, rfl, by decide +kernel, by decide +kernel⟩
theorem bp_term_length : BindsP "term_length" s_term_length ["term"] := fun _ _ _ _ _ _ us hl => match us, hl with | [_], _ => rfl
theorem kn_term_length (b : B0 c) (L : Lib 1 c (ftOf fl10) gcB) : Kn c CX0 "term_length" ["term"] (spD c.K g_term_length) (c.k + 1) := mkD b L 18 rfl rfl fs_term_length bp_term_length fun _ _ h => term_length_plain h
theorem fs_is_step : FnScope N_is_step ["columns", "position", "value"] (defScope s_is_step) := ⟨rfl, rfl, rfl, by decide +kernel, rfl, by decide +kernel, by decide +kernel⟩
theorem bp_is_step : BindsP "is_step" s_is_step ["columns", "position", "value"] := fun _ _ _ _ _ _ us hl => match us, hl with | [_, _, _], _ => rfl
theorem kn_is_step (b : B0 c) (L : Lib 1 c (ftOf fl10) gcB) : Kn c CX0 "is_step" ["columns", "position", "value"] (spD c.K g_is_step) (c.k + 1) := mkD b L 19 rfl rfl fs_is_step bp_is_step fun _ _ h => is_step_plain h
theorem fs_told_step : FnScope N_told_step ["step"] (defScope s_told_step) := ⟨rfl, rfl, rfl, by decide +kernel, rfl, by decide +kernel, by decide +kernel⟩
theorem bp_told_step : BindsP "told_step" s_told_step ["step"] := fun _ _ _ _ _ _ us hl => match us, hl with | [_], _ => rfl
theorem kn_told_step (b : B0 c) (L : Lib 1 c (ftOf fl10) gcB) : Kn c CX0 "told_step" ["step"] (spD c.K g_told_step) (c.k + 1) := mkD b L 21 rfl rfl fs_told_step bp_told_step fun _ _ h => told_step_plain h
theorem fs_is_word_of : FnScope N_is_word_of ["columns", "value"] (defScope s_is_word_of) := ⟨rfl, rfl, rfl, by decide +kernel, rfl, by decide +kernel, by decide +kernel⟩
theorem bp_is_word_of : BindsP "is_word_of" s_is_word_of ["columns", "value"] := fun _ _ _ _ _ _ us hl => match us, hl with | [_, _], _ => rfl
theorem kn_is_word_of (b : B0 c) (L : Lib 1 c (ftOf fl11) gcB) : Kn c CX0 "is_word_of" ["columns", "value"] (spD c.K g_is_word_of) (c.k + 1) := mkD b L 11 rfl rfl fs_is_word_of bp_is_word_of fun _ _ h => is_word_of_plain h
theorem fs_are_steps : FnScope N_are_steps ["columns", "value"] (defScope s_are_steps) := ⟨rfl, rfl, rfl, by decide +kernel, rfl, by decide +kernel, by decide +kernel⟩
theorem bp_are_steps : BindsP "are_steps" s_are_steps ["columns", "value"] := fun _ _ _ _ _ _ us hl => match us, hl with | [_, _], _ => rfl
theorem kn_are_steps (b : B0 c) (L : Lib 1 c (ftOf fl11) gcB) : Kn c CX0 "are_steps" ["columns", "value"] (spD c.K g_are_steps) (c.k + 1) := mkD b L 20 rfl rfl fs_are_steps bp_are_steps fun _ _ h => are_steps_plain h
theorem fs_is_lot : FnScope N_is_lot ["columns", "value"] (defScope s_is_lot) := ⟨rfl, rfl, rfl, by decide +kernel, rfl, by decide +kernel, by decide +kernel⟩
theorem bp_is_lot : BindsP "is_lot" s_is_lot ["columns", "value"] := fun _ _ _ _ _ _ us hl => match us, hl with | [_, _], _ => rfl
theorem kn_is_lot (b : B0 c) (L : Lib 1 c (ftOf fl11) gcB) : Kn c CX0 "is_lot" ["columns", "value"] (spD c.K g_is_lot) (c.k + 1) := mkD b L 22 rfl rfl fs_is_lot bp_is_lot fun _ _ h => is_lot_plain h
theorem fs_is_word_part : FnScope N_is_word_part ["columns", "value"] (defScope s_is_word_part) := ⟨rfl, rfl, rfl, by decide +kernel, rfl, by decide +kernel, by decide +kernel⟩
theorem bp_is_word_part : BindsP "is_word_part" s_is_word_part ["columns", "value"] := fun _ _ _ _ _ _ us hl => match us, hl with | [_, _], _ => rfl
theorem kn_is_word_part (b : B0 c) (L : Lib 1 c (ftOf fl12) gcB) : Kn c CX0 "is_word_part" ["columns", "value"] (spD c.K g_is_word_part) (c.k + 1) := mkD b L 15 rfl rfl fs_is_word_part bp_is_word_part fun _ _ h => is_word_part_plain h
theorem fs_is_term : FnScope N_is_term ["columns", "value"] (defScope s_is_term) := ⟨rfl, rfl, rfl, by decide +kernel, rfl, by decide +kernel, by decide +kernel⟩
theorem bp_is_term : BindsP "is_term" s_is_term ["columns", "value"] := fun _ _ _ _ _ _ us hl => match us, hl with | [_, _], _ => rfl
theorem kn_is_term (b : B0 c) (L : Lib 1 c (ftOf fl12) gcB) : Kn c CX0 "is_term" ["columns", "value"] (spD c.K g_is_term) (c.k + 1) := mkD b L 16 rfl rfl fs_is_term bp_is_term fun _ _ h => is_term_plain h
theorem fs_is_term_part : FnScope N_is_term_part ["columns", "value"] (defScope s_is_term_part) := ⟨rfl, rfl, rfl, by decide +kernel, rfl, by decide +kernel, by decide +kernel⟩
theorem bp_is_term_part : BindsP "is_term_part" s_is_term_part ["columns", "value"] := fun _ _ _ _ _ _ us hl => match us, hl with | [_, _], _ => rfl
theorem kn_is_term_part (b : B0 c) (L : Lib 1 c (ftOf fl13) gcB) : Kn c CX0 "is_term_part" ["columns", "value"] (spD c.K g_is_term_part) (c.k + 1) := mkD b L 17 rfl rfl fs_is_term_part bp_is_term_part fun _ _ h => is_term_part_plain h
theorem fs__law_line_of : FnScope N__law_line_of ["_law_kind", "_law_columns", "_law_at", "_law_parts"] (defScope s__law_line_of) := ⟨rfl, rfl, rfl, by decide +kernel, rfl, by decide +kernel, by decide +kernel⟩
theorem bp__law_line_of : BindsP "_law_line_of" s__law_line_of ["_law_kind", "_law_columns", "_law_at", "_law_parts"] := fun _ _ _ _ _ _ us hl => match us, hl with | [_, _, _, _], _ => rfl
theorem kn__law_line_of (b : B0 c) (L : Lib 1 c (ftOf fl17) gcB) : Kn c CX0 "_law_line_of" ["_law_kind", "_law_columns", "_law_at", "_law_parts"] (spD c.K g__law_line_of) (c.k + 1) := mkD b L 62 rfl rfl fs__law_line_of bp__law_line_of fun _ _ h => law_line_g h
theorem fs__law_thing : FnScope N__law_thing ["_law_kind", "_law_columns", "_law_found"] (defScope s__law_thing) := ⟨rfl, rfl, rfl, by decide +kernel, rfl, by decide +kernel, by decide +kernel⟩
theorem bp__law_thing : BindsP "_law_thing" s__law_thing ["_law_kind", "_law_columns", "_law_found"] := fun _ _ _ _ _ _ us hl => match us, hl with | [_, _, _], _ => rfl
theorem kn__law_thing (b : B0 c) (L : Lib 1 c (ftOf fl17) gcB) : Kn c CX0 "_law_thing" ["_law_kind", "_law_columns", "_law_found"] (spD c.K g__law_thing) (c.k + 1) := mkD b L 64 rfl rfl fs__law_thing bp__law_thing fun _ _ h => law_thing_g h
theorem fs__law_letter_words : FnScope N__law_letter_words ["_law_letter_here"] (defScope s__law_letter_words) := ⟨rfl, rfl, rfl, by decide +kernel, rfl, by decide +kernel, by decide +kernel⟩
theorem bp__law_letter_words : BindsP "_law_letter_words" s__law_letter_words ["_law_letter_here"] := fun _ _ _ _ _ _ us hl => match us, hl with | [_], _ => rfl
theorem kn__law_letter_words (b : B0 c) (L : Lib 1 c (ftOf fl0) gcB) : Kn c CX0 "_law_letter_words" ["_law_letter_here"] (spD c.K g__law_letter_words) (c.k + 1) := mkD b L 49 rfl rfl fs__law_letter_words bp__law_letter_words fun _ _ h => _law_letter_words_g h
end
end Ag
set_option Elab.async false
set_option linter.all false
set_option autoImplicit false
set_option maxRecDepth 100000
set_option maxHeartbeats 2000000
namespace Ag
open PySem PySem.Spec L2 TL PyProof.Rows
def BindsQ (x qual : Str) (st : Stmt) (ps : List Str) : Prop := ∀ (kV doc pm : Value) (an : Option Addr) (cdv ct : Value) (us : List Value), us.length = ps.length → bindArgs (PySem.W.fnOf x qual (defArgs st) (defBody st) (defScope st) .none kV doc pm an cdv ct) ⟨us, []⟩ = pure (ps.zip us)
section
variable {c : Ctx}
/-- a class, by its __init__ -/
theorem mkI (b : B0 c) {dp : Nat} {fl : FtL} (L : Lib dp c (ftOf fl) gcB) (cl : Cl) (i mi : Nat) {qual : Str} {st : Stmt} {N ps : List Str} {dfl : List He.Dv} {g : List D → Option D} (h : fn[i]? = some (mOf cl.nm "__init__" qual st dfl)) (hm : faL[mi]? = some (.mkr cl.nm))
    (S : FnScope N ps (defScope st)) (h0 : N[0]? = some ("self" : Str)) (hl : locK (defScope st) "self" = true) (hb : ∀ f fd, FunD c.K "__init__" qual (defArgs st) (defBody st) (defScope st) (dfl.map (He.Dv.v c.K)) [] f fd → Binds c.K fd ps [])
    (hg : ∀ ds d, g ds = some d → ∃ out, d = .ins cl out ∧ ∀ x, semI ⟨dp, N, ftOf fl, gcB⟩ 40 40 st ps.length cl x ds = some out) {k : Nat} (hk : c.k + 2 ≤ k) (hd : (cl.nm == ("__debug__" : Str)) = false) : CallX (at_ c k) cl.nm g := by
  obtain ⟨fd, F⟩ := says_def b.S i h
  have O := fn_I L (b.cl cl) (ex_of F) S h0 hl 40 40
  exact fun N X gd => call_I gd (He.mkr_ok (says_fact b.S mi hm)) O (by show c.k + 1 + 1 ≤ k; omega) (b.cl cl).g (hb _ fd F) hd hg
/-- a class's own __eq__ -/
theorem mkQ (b : B0 c) {dp : Nat} {fl : FtL} (L : Lib dp c (ftOf fl) gcB) (cl : Cl) (i mi : Nat) {qual : Str} {st : Stmt} {N ps : List Str} {g : List D → Option D} (h : fn[i]? = some (mOf cl.nm "__eq__" qual st [])) (hm : faL[mi]? = some (.meth cl.nm "__eq__"))
    (S : FnScope N ps (defScope st)) (hb : BindsQ "__eq__" qual st ps) (hg : ∀ ds d, g ds = some d → semD ⟨dp, N, ftOf fl, gcB⟩ 40 40 st ps.length ds = some d) : OwnQ c cl g (c.k + 1) := by
  obtain ⟨fd, F⟩ := b.meth i h
  have M := He.meth_ok (says_fact b.S mi hm)
  exact ⟨_, fd, ps, fn_weakD (fn_D L F S 40 40) hg, M.at_, M.fn, F.binds hb⟩
theorem call_at {x : Str} {ps : List Str} {g : List D → Option D} {j k : Nat} (h : Kn (at_ c j) CX0 x ps (spD (at_ c j).K g) ((at_ c j).k + 1)) (hjk : j + 1 ≤ k := by decide) (hd : (x == ("__debug__" : Str)) = false := by decide) : CallX (at_ c k) x g := by
  have h : Kn (at_ c k) CX0 x ps (spD (at_ c k).K g) (j + 1) := h
  exact h.call hjk hd
theorem has_at {fl : FtL} {j k : Nat} (h : Has (at_ c j) fl) (hjk : j ≤ k := by decide) : Has (at_ c k) fl := Has.up (c := at_ c j) h hjk
theorem fs_Ratio_init : FnScope N_Ratio_init ["self", "top", "bottom"] (defScope s_Ratio_init) := ⟨rfl, rfl, rfl, by decide +kernel, rfl, by decide +kernel, by decide +kernel⟩
theorem fs_Ratio_eq : FnScope N_Ratio_eq ["self", "other"] (defScope s_Ratio_eq) := ⟨rfl, rfl, rfl, by decide +kernel, rfl, by decide +kernel, by decide +kernel⟩
theorem bq_Ratio_eq : BindsQ "__eq__" "Ratio.__eq__" s_Ratio_eq ["self", "other"] := fun _ _ _ _ _ _ us hl => match us, hl with | [_, _], _ => rfl
theorem bi_Ratio {K : PySem.W.Frag} (f : Addr) (fd : FuncData) (F : FunD K "__init__" "Ratio.__init__" (defArgs s_Ratio_init) (defBody s_Ratio_init) (defScope s_Ratio_init) [.int 1] [] f fd) : Binds K fd ["self", "top", "bottom"] [] := by
  obtain ⟨ds, h1, h2⟩ := F.binds1 (ps := ["self", "top", "bottom"]) 3 1 (by decide) rfl fun T kV doc pm an cdv ct us its l1 l2 => match us, its, l1, l2 with
    | [_, _, _], [_], _, _ => ⟨_, rfl, rfl⟩
  cases h1
  exact h2
theorem fs_Table_init : FnScope N_Table_init ["self", "columns", "rows"] (defScope s_Table_init) := ⟨rfl, rfl, rfl, by decide +kernel, rfl, by decide +kernel, by decide +kernel⟩
theorem fs_Table_eq : FnScope N_Table_eq ["self", "other"] (defScope s_Table_eq) := ⟨rfl, rfl, rfl, by decide +kernel, rfl, by decide +kernel, by decide +kernel⟩
theorem bq_Table_eq : BindsQ "__eq__" "Table.__eq__" s_Table_eq ["self", "other"] := fun _ _ _ _ _ _ us hl => match us, hl with | [_, _], _ => rfl
theorem bq_Table_init : BindsQ "__init__" "Table.__init__" s_Table_init ["self", "columns", "rows"] := fun _ _ _ _ _ _ us hl => match us, hl with | [_, _, _], _ => rfl
theorem bi_Table {K : PySem.W.Frag} (f : Addr) (fd : FuncData) (F : FunD K "__init__" "Table.__init__" (defArgs s_Table_init) (defBody s_Table_init) (defScope s_Table_init) [] [] f fd) : Binds K fd ["self", "columns", "rows"] [] := (fun_of F).binds bq_Table_init
theorem fs_Tally_init : FnScope N_Tally_init ["self", "columns", "parts"] (defScope s_Tally_init) := ⟨rfl, rfl, rfl, by decide +kernel, rfl, by decide +kernel, by decide +kernel⟩
theorem fs_Tally_eq : FnScope N_Tally_eq ["self", "other"] (defScope s_Tally_eq) := ⟨rfl, rfl, rfl, by decide +kernel, rfl, by decide +kernel, by decide +kernel⟩
theorem bq_Tally_eq : BindsQ "__eq__" "Tally.__eq__" s_Tally_eq ["self", "other"] := fun _ _ _ _ _ _ us hl => match us, hl with | [_, _], _ => rfl
theorem bq_Tally_init : BindsQ "__init__" "Tally.__init__" s_Tally_init ["self", "columns", "parts"] := fun _ _ _ _ _ _ us hl => match us, hl with | [_, _, _], _ => rfl
theorem bi_Tally {K : PySem.W.Frag} (f : Addr) (fd : FuncData) (F : FunD K "__init__" "Tally.__init__" (defArgs s_Tally_init) (defBody s_Tally_init) (defScope s_Tally_init) [] [] f fd) : Binds K fd ["self", "columns", "parts"] [] := (fun_of F).binds bq_Tally_init
theorem fs_Form_init : FnScope N_Form_init ["self", "columns", "parts"] (defScope s_Form_init) := ⟨rfl, rfl, rfl, by decide +kernel, rfl, by decide +kernel, by decide +kernel⟩
theorem fs_Form_eq : FnScope N_Form_eq ["self", "other"] (defScope s_Form_eq) := ⟨rfl, rfl, rfl, by decide +kernel, rfl, by decide +kernel, by decide +kernel⟩
theorem bq_Form_eq : BindsQ "__eq__" "Form.__eq__" s_Form_eq ["self", "other"] := fun _ _ _ _ _ _ us hl => match us, hl with | [_, _], _ => rfl
theorem bq_Form_init : BindsQ "__init__" "Form.__init__" s_Form_init ["self", "columns", "parts"] := fun _ _ _ _ _ _ us hl => match us, hl with | [_, _, _], _ => rfl
theorem bi_Form {K : PySem.W.Frag} (f : Addr) (fd : FuncData) (F : FunD K "__init__" "Form.__init__" (defArgs s_Form_init) (defBody s_Form_init) (defScope s_Form_init) [] [] f fd) : Binds K fd ["self", "columns", "parts"] [] := (fun_of F).binds bq_Form_init
theorem fs_Program_init : FnScope N_Program_init ["self", "columns", "steps"] (defScope s_Program_init) := ⟨rfl, rfl, rfl, by decide +kernel, rfl, by decide +kernel, by decide +kernel⟩
theorem fs_Program_eq : FnScope N_Program_eq ["self", "other"] (defScope s_Program_eq) := ⟨rfl, rfl, rfl, by decide +kernel, rfl, by decide +kernel, by decide +kernel⟩
theorem bq_Program_eq : BindsQ "__eq__" "Program.__eq__" s_Program_eq ["self", "other"] := fun _ _ _ _ _ _ us hl => match us, hl with | [_, _], _ => rfl
theorem bq_Program_init : BindsQ "__init__" "Program.__init__" s_Program_init ["self", "columns", "steps"] := fun _ _ _ _ _ _ us hl => match us, hl with | [_, _, _], _ => rfl
theorem bi_Program {K : PySem.W.Frag} (f : Addr) (fd : FuncData) (F : FunD K "__init__" "Program.__init__" (defArgs s_Program_init) (defBody s_Program_init) (defScope s_Program_init) [] [] f fd) : Binds K fd ["self", "columns", "steps"] [] := (fun_of F).binds bq_Program_init
theorem fs_Runs_init : FnScope N_Runs_init ["self", "columns", "lots"] (defScope s_Runs_init) := ⟨rfl, rfl, rfl, by decide +kernel, rfl, by decide +kernel, by decide +kernel⟩
theorem fs_Runs_eq : FnScope N_Runs_eq ["self", "other"] (defScope s_Runs_eq) := ⟨rfl, rfl, rfl, by decide +kernel, rfl, by decide +kernel, by decide +kernel⟩
theorem bq_Runs_eq : BindsQ "__eq__" "Runs.__eq__" s_Runs_eq ["self", "other"] := fun _ _ _ _ _ _ us hl => match us, hl with | [_, _], _ => rfl
theorem bq_Runs_init : BindsQ "__init__" "Runs.__init__" s_Runs_init ["self", "columns", "lots"] := fun _ _ _ _ _ _ us hl => match us, hl with | [_, _, _], _ => rfl
theorem bi_Runs {K : PySem.W.Frag} (f : Addr) (fd : FuncData) (F : FunD K "__init__" "Runs.__init__" (defArgs s_Runs_init) (defBody s_Runs_init) (defScope s_Runs_init) [] [] f fd) : Binds K fd ["self", "columns", "lots"] [] := (fun_of F).binds bq_Runs_init
theorem has1 (b : B0 c) : Has (at_ c 3) fl1 := by
  have L := lib0 (b.up 2) (has0 (b.up 2)) (Nat.le_of_ble_eq_true rfl)
  exact .cons (.gcd (b.up 3)) (.cons (call_at (kn_is_integer (b.up 2) L)) (.cons (call_at (kn_is_list (b.up 2) L)) (.cons (call_at (kn_count_told (b.up 2) L)) (has0 (b.up 3)))))
theorem has2 (b : B0 c) : Has (at_ c 4) fl2 := by
  have L := lib0 (b.up 3) (has1 b) (Nat.le_of_ble_eq_true rfl)
  exact .cons (call_at (kn_divisor_of (b.up 3) L)) (.cons (call_at (kn_is_count (b.up 3) L)) (has_at (has1 b)))
theorem q_ratio (b : B0 c) : OwnQ c .ratio g_Ratio_eq 5 := by
  have L := lib0 (b.up 4) (has2 b) (Nat.le_of_ble_eq_true rfl)
  exact mkQ (b.up 4) L .ratio 77 115 (qual := "Ratio.__eq__") (st := s_Ratio_eq) rfl rfl fs_Ratio_eq bq_Ratio_eq (fun _ _ h => ratio_eq_plain h)
theorem g_ratio_refl {dp : Nat} {ds : List D} (h : okFl dp .ratio ds) : g_Ratio_eq [.ins .ratio ds, .ins .ratio ds] = some (.bl true) := by
  obtain ⟨h1, _, _, h2⟩ := h
  obtain ⟨i, j, r, rfl⟩ := h2 rfl
  cases r with
  | nil =>
    show some (D.bl (decide (i = i) && decide (j = j))) = _
    rw [decide_eq_true rfl, decide_eq_true rfl]
    rfl
  | cons a t => cases h1
theorem own1 (b : B0 c) : OwnAll c 1 5 := fun cl h => by
  rcases h with rfl | h
  · exact ⟨_, 5, Nat.le_refl _, q_ratio b, fun ds h => g_ratio_refl h⟩
  · exact absurd h (by decide)
theorem none1 (b : B0 c) {n : Nat} (hn : 5 ≤ n) (dp : Nat) : NoneAll c dp n := fun _ => ⟨_, 5, hn, q_ratio b, fun i j => rfl⟩
theorem libA (b : B0 c) {fl : FtL} {k : Nat} (h : Has (at_ c k) fl) (hk : 14 ≤ k := by decide) : Lib 1 (at_ c k) (ftOf fl) gcB := lib1 (b.up k) (n0 := 5) (own1 (b.up k)) (none1 (b.up k) (Nat.le_refl _) 1) h hk
theorem has3 (b : B0 c) : Has (at_ c 14) fl3 := by
  have L := lib0 (b.up 4) (has2 b) (Nat.le_of_ble_eq_true rfl)
  exact .cons (mkI (g := g_Ratio) (b.up 4) L .ratio 76 114 (qual := "Ratio.__init__") (st := s_Ratio_init) (dfl := [.int 1]) rfl rfl fs_Ratio_init rfl (by decide +kernel) bi_Ratio (fun _ _ h => ratio_make h) (k := 14) (Nat.le_of_ble_eq_true rfl) (by decide)) (has_at (has2 b))
theorem has4 (b : B0 c) : Has (at_ c 15) fl4 := by
  have L := libA b (has3 b)
  exact .cons (call_at (kn_integer_told (b.up 14) L)) (.cons (call_at (kn__law_count (b.up 2) (lib0 (b.up 2) (has0 (b.up 2)) (Nat.le_of_ble_eq_true rfl)))) (has_at (has3 b)))
theorem has5 (b : B0 c) : Has (at_ c 16) fl5 := by
  have L := libA b (has4 b)
  exact .cons (call_at (kn_number_told (b.up 15) L)) (.cons (call_at (kn__law_number (b.up 15) L)) (has_at (has4 b)))
theorem has6 (b : B0 c) : Has (at_ c 17) fl6 := by
  have L := libA b (has5 b)
  exact .cons (call_at (kn_letter_told (b.up 16) L)) (.cons (call_at (kn__law_letter_of (b.up 16) L)) (has_at (has5 b)))
theorem has7 (b : B0 c) : Has (at_ c 18) fl7 := by
  have L := libA b (has6 b)
  exact .cons (call_at (kn_word_told (b.up 17) L)) (.cons (call_at (kn__law_word_of (b.up 17) L)) (has_at (has6 b)))
theorem has8 (b : B0 c) : Has (at_ c 19) fl8 := by
  have L := libA b (has7 b)
  exact .cons (call_at (kn_numbers_told (b.up 18) L)) (.cons (call_at (kn__law_numbers (b.up 18) L)) (.cons (call_at (kn_step_of_two (b.up 18) L)) (has_at (has7 b))))
theorem has9 (b : B0 c) : Has (at_ c 20) fl9 := .cons (.lcm (b.up 20)) (has_at (has8 b))
theorem has10 (b : B0 c) : Has (at_ c 21) fl10 := by
  have L := libA b (has9 b)
  exact .cons (call_at (kn_is_number (b.up 20) L)) (.cons (call_at (kn_ratio_of (b.up 20) L)) (.cons (call_at (kn_want_columns (b.up 20) L)) (has_at (has9 b))))
theorem hasP (b : B0 c) : Has (at_ c 21) flP := by
  have L := libA b (has9 b)
  exact .cons (call_at (kn_wholes (b.up 20) L)) (has_at (has10 b))
theorem has11 (b : B0 c) : Has (at_ c 22) fl11 := by
  have L := libA b (has10 b)
  exact .cons (call_at (kn_is_row (b.up 21) L)) (.cons (call_at (kn_told_row (b.up 21) L)) (.cons (call_at (kn_is_letter_of (b.up 21) L)) (.cons (call_at (kn_term_length (b.up 21) L)) (.cons (call_at (kn_is_step (b.up 21) L)) (.cons (call_at (kn_told_step (b.up 21) L)) (has_at (has10 b)))))))
theorem has12 (b : B0 c) : Has (at_ c 23) fl12 := by
  have L := libA b (has11 b)
  exact .cons (call_at (kn_is_word_of (b.up 22) L)) (.cons (call_at (kn_are_steps (b.up 22) L)) (.cons (call_at (kn_is_lot (b.up 22) L)) (has_at (has11 b))))
theorem has13 (b : B0 c) : Has (at_ c 24) fl13 := by
  have L := libA b (has12 b)
  exact .cons (call_at (kn_is_word_part (b.up 23) L)) (.cons (call_at (kn_is_term (b.up 23) L)) (has_at (has12 b)))
theorem has14 (b : B0 c) : Has (at_ c 25) fl14 := by
  have L := libA b (has13 b)
  exact .cons (call_at (kn_is_term_part (b.up 24) L)) (has_at (has13 b))
theorem bp_put_more : BindsP "put_more" s_put_more ["sums", "key", "number"] := fun _ _ _ _ _ _ us hl => match us, hl with | [_, _, _], _ => rfl
theorem bp_sums_told : BindsP "sums_told" s_sums_told ["bottom", "sums"] := fun _ _ _ _ _ _ us hl => match us, hl with | [_, _], _ => rfl
theorem bp_parts_joined : BindsP "parts_joined" s_parts_joined ["parts"] := fun _ _ _ _ _ _ us hl => match us, hl with | [_], _ => rfl
theorem k_pj (b : B0 c) : Kn c CX0 "parts_joined" ["parts"] (spD c.K g_parts_joined) 22 := by
  obtain ⟨fd1, F1⟩ := b.df (x := "put_more") (st := s_put_more) 12 rfl
  obtain ⟨fd2, F2⟩ := b.df (x := "sums_told") (st := s_sums_told) 13 rfl
  obtain ⟨fd, F⟩ := b.df (x := "parts_joined") (st := s_parts_joined) 14 rfl
  have O1 := fn_pm (c := at_ c 21) F1
  have O2 := fn_st (c := at_ c 20) (libA b (has9 b)) rfl (b.free 96 rfl) (b.free 88 rfl) F2
  exact kn_of b F 14 rfl bp_parts_joined (fn_pj (c := at_ c 21) (libA b (hasP b)) (b.free 93 rfl) O1 (by decide : 1 ≤ 21) (b.glo 12 rfl) F1.kp (F1.binds bp_put_more) O2 (by decide : 21 ≤ 21) (b.glo 13 rfl) F2.kp (F2.binds bp_sums_told) F)
theorem has15 (b : B0 c) : Has (at_ c 25) fl15 := .cons (Kn.call (c := at_ c 25) (k_pj (b.up 25)) (by decide : 22 ≤ 25) (by decide)) (has14 b)
theorem has16 (b : B0 c) : Has (at_ c 27) fl16 :=
  .cons (mkI (g := g_Table) (b.up 22) (libA b (has11 b)) .table 78 117 (qual := "Table.__init__") (st := s_Table_init) (dfl := []) rfl rfl fs_Table_init rfl (by decide +kernel) bi_Table (fun _ _ h => table_make h) (k := 27) (Nat.le_of_ble_eq_true rfl) (by decide))
  (.cons (mkI (g := g_Program) (b.up 23) (libA b (has12 b)) .program 84 126 (qual := "Program.__init__") (st := s_Program_init) (dfl := []) rfl rfl fs_Program_init rfl (by decide +kernel) bi_Program (fun _ _ h => program_make h) (k := 27) (Nat.le_of_ble_eq_true rfl) (by decide))
  (.cons (mkI (g := g_Runs) (b.up 23) (libA b (has12 b)) .runs 86 129 (qual := "Runs.__init__") (st := s_Runs_init) (dfl := []) rfl rfl fs_Runs_init rfl (by decide +kernel) bi_Runs (fun _ _ h => runs_make h) (k := 27) (Nat.le_of_ble_eq_true rfl) (by decide))
  (.cons (mkI (g := g_Form) (b.up 25) (libA b (has15 b)) .form 82 123 (qual := "Form.__init__") (st := s_Form_init) (dfl := []) rfl rfl fs_Form_init rfl (by decide +kernel) bi_Form (fun _ _ h => form_make h) (k := 27) (Nat.le_of_ble_eq_true rfl) (by decide))
  (.cons (mkI (g := g_Tally) (b.up 25) (libA b (has15 b)) .tally 80 120 (qual := "Tally.__init__") (st := s_Tally_init) (dfl := []) rfl rfl fs_Tally_init rfl (by decide +kernel) bi_Tally (fun _ _ h => tally_make h) (k := 27) (Nat.le_of_ble_eq_true rfl) (by decide)) (has_at (has15 b))))))
theorem has17 (b : B0 c) : Has (at_ c 27) fl17 := by
  have L := libA b (has8 b)
  exact .cons (call_at (kn__law_row_of (b.up 19) L)) (.cons (call_at (kn__law_step_of (b.up 19) L)) (.cons (call_at (kn__law_part_of (b.up 19) L)) (.cons (call_at (kn__law_term_of (b.up 19) L)) (.cons (call_at (kn__law_lot_of (b.up 19) L)) (has16 b)))))
theorem has18 (b : B0 c) : Has (at_ c 27) fl18 := by
  have L := libA b (has8 b)
  exact .cons (call_at (kn_head_told (b.up 19) L)) (has17 b)
theorem has19 (b : B0 c) : Has (at_ c 28) fl19 := by
  have L := libA b (has17 b)
  exact .cons (call_at (kn__law_line_of (b.up 27) L)) (.cons (call_at (kn__law_thing (b.up 27) L)) (has_at (has18 b)))
theorem deeps_2of3 {a e f : D} {n : Nat} (h : D.deeps [a, e, f] ≤ n) : D.deeps [a, e] ≤ n := by
  have h : Nat.max a.deep (Nat.max e.deep (Nat.max f.deep 0)) ≤ n := h
  show Nat.max a.deep (Nat.max e.deep 0) ≤ n
  have h1 := Nat.max_le.mp h
  have h2 := Nat.max_le.mp h1.2
  exact Nat.max_le.mpr ⟨h1.1, Nat.max_le.mpr ⟨h2.1, Nat.zero_le _⟩⟩
theorem own_Table (b : B0 c) : ∃ g n, n ≤ 25 ∧ OwnQ c .table g n ∧ ∀ ds, okFl 2 .table ds → g [.ins .table ds, .ins .table ds] = some (.bl true) := by
  have L := libA b (has13 b)
  refine ⟨_, 25, Nat.le_refl _, mkQ (b.up 24) L .table 79 118 (qual := "Table.__eq__") (st := s_Table_eq) rfl rfl fs_Table_eq bq_Table_eq (fun _ _ h => h), fun ds h => ?_⟩
  obtain ⟨h1, h2, h3, _⟩ := h
  match ds, h1 with
  | [a, e], _ => exact table_eq_plain h2 h3
theorem own_Tally (b : B0 c) : ∃ g n, n ≤ 25 ∧ OwnQ c .tally g n ∧ ∀ ds, okFl 2 .tally ds → g [.ins .tally ds, .ins .tally ds] = some (.bl true) := by
  have L := libA b (has13 b)
  refine ⟨_, 25, Nat.le_refl _, mkQ (b.up 24) L .tally 81 121 (qual := "Tally.__eq__") (st := s_Tally_eq) rfl rfl fs_Tally_eq bq_Tally_eq (fun _ _ h => h), fun ds h => ?_⟩
  obtain ⟨h1, h2, h3, _⟩ := h
  match ds, h1 with
  | [a, e, f], _ => exact tally_eq_plain h2 (deeps_2of3 h3)
theorem own_Form (b : B0 c) : ∃ g n, n ≤ 25 ∧ OwnQ c .form g n ∧ ∀ ds, okFl 2 .form ds → g [.ins .form ds, .ins .form ds] = some (.bl true) := by
  have L := libA b (has13 b)
  refine ⟨_, 25, Nat.le_refl _, mkQ (b.up 24) L .form 83 124 (qual := "Form.__eq__") (st := s_Form_eq) rfl rfl fs_Form_eq bq_Form_eq (fun _ _ h => h), fun ds h => ?_⟩
  obtain ⟨h1, h2, h3, _⟩ := h
  match ds, h1 with
  | [a, e], _ => exact form_eq_plain h2 h3
theorem own_Program (b : B0 c) : ∃ g n, n ≤ 25 ∧ OwnQ c .program g n ∧ ∀ ds, okFl 2 .program ds → g [.ins .program ds, .ins .program ds] = some (.bl true) := by
  have L := libA b (has13 b)
  refine ⟨_, 25, Nat.le_refl _, mkQ (b.up 24) L .program 85 127 (qual := "Program.__eq__") (st := s_Program_eq) rfl rfl fs_Program_eq bq_Program_eq (fun _ _ h => h), fun ds h => ?_⟩
  obtain ⟨h1, h2, h3, _⟩ := h
  match ds, h1 with
  | [a, e], _ => exact program_eq_plain h2 h3
theorem own_Runs (b : B0 c) : ∃ g n, n ≤ 25 ∧ OwnQ c .runs g n ∧ ∀ ds, okFl 2 .runs ds → g [.ins .runs ds, .ins .runs ds] = some (.bl true) := by
  have L := libA b (has13 b)
  refine ⟨_, 25, Nat.le_refl _, mkQ (b.up 24) L .runs 87 130 (qual := "Runs.__eq__") (st := s_Runs_eq) rfl rfl fs_Runs_eq bq_Runs_eq (fun _ _ h => h), fun ds h => ?_⟩
  obtain ⟨h1, h2, h3, _⟩ := h
  match ds, h1 with
  | [a, e], _ => exact runs_eq_plain h2 h3
theorem own2 (b : B0 c) : OwnAll c 2 25 := fun cl h => by
  cases cl with
  | ratio => exact ⟨_, 5, by decide, q_ratio b, fun ds h => g_ratio_refl h⟩
  | table => exact own_Table b
  | tally => exact own_Tally b
  | form => exact own_Form b
  | program => exact own_Program b
  | runs => exact own_Runs b
theorem libB (b : B0 c) {fl : FtL} {k : Nat} (h : Has (at_ c k) fl) (hk : 34 ≤ k := by decide) : Lib 2 (at_ c k) (ftOf fl) gcB := lib1 (b.up k) (n0 := 25) (own2 (b.up k)) (none1 (b.up k) (by decide) 2) h hk
end
end Ag
set_option Elab.async false
set_option linter.all false
set_option autoImplicit false
set_option maxRecDepth 100000
set_option maxHeartbeats 2000000
namespace Ag
open PySem PySem.Spec L2 TL PyProof.Rows
def N__law_fixed_right : List Str := ["_law_some", "_law_tables", "_law_programs", "_law_tallies", "_law_forms", "_law_runs", "_law_text_here"]
theorem fs__law_fixed_right : FnScope N__law_fixed_right [] (defScope s__law_fixed_right) := ⟨rfl, rfl, rfl, by decide +kernel, rfl, by decide +kernel, by decide +kernel⟩
theorem bp__law_fixed_right : BindsP "_law_fixed_right" s__law_fixed_right [] := fun _ _ _ _ _ _ us hl => match us, hl with | [], _ => rfl
theorem fixed_sem : semD ⟨1, N__law_fixed_right, ftOf flX, gcB⟩ 40 40 s__law_fixed_right 0 [] = some (.bl true) := by kernel_rfl
end Ag
set_option Elab.async false
set_option linter.all false
set_option autoImplicit false
set_option maxRecDepth 100000
set_option maxHeartbeats 2000000
namespace Ag
open PySem PySem.Spec L2 TL PyProof.Rows
/-! ### the exception -/
theorem oexB_ok {K : PySem.W.Frag} {C : Addr} (h : oexB K C = true) : OexC K C := by
  unfold oexB at h
  rw [Bool.and_eq_true, Bool.and_eq_true, Bool.and_eq_true, Bool.and_eq_true] at h
  obtain ⟨h1, h2, h3, h4, h5⟩ := h
  refine ⟨?_, He.eqO_ok h2, of_decide_eq_true h3, of_decide_eq_true h4, h5⟩
  split at h1
  · rename_i od cd sl e
    obtain ⟨nm, bs, mro, N, q, hd, sn, sub, ab, col, del⟩ := cd
    dsimp only at h1
    split at h1
    · rename_i l2 C' bm a1 a2 a3 a4 n a5 e2
      simp only [Bool.and_eq_true, Bool.not_eq_true', beq_iff_eq] at h1
      obtain ⟨⟨⟨⟨k1, k2⟩, k3⟩, k4⟩, k5⟩ := h1
      obtain ⟨sl⟩ := sl
      dsimp only at e2
      subst e2 k1 k2 k3 k4
      exact ⟨nm, q, N, bs, bm, sn, sub, ab, col, od, a1, a2, a3, a4, a5, e, k5⟩
    · cases h1
  · cases h1
structure ErF (K : PySem.W.Frag) (C : Addr) : Prop where
  no : PySem.W.findIn K (.ref C) "line" = some none
  iC : PySem.W.findIn K (.ref C) "__init__" = some (some (.ref (He.ma K C "__init__")))
  tI : PySem.W.typeIn K (.ref (He.ma K C "__init__")) = some (.type "function")
  hd : PySem.W.hasDictIn K C = true
  ga : PySem.W.findIn K (.ref C) "__getattribute__" = some (some (.builtin "BaseException.__getattribute__"))
  gg : PySem.W.findIn K (.ref C) "__getattr__" = some none
  kS : PySem.W.kitOne K (.ref C) (.ref (He.ga K "SumsError")) = some true
theorem errB_ok {K : PySem.W.Frag} {C : Addr} (h : errB K C = true) : ErF K C := by
  unfold errB at h
  simp only [Bool.and_eq_true] at h
  obtain ⟨h1, h2, h3, h4, h5, h6, h7, h8⟩ := h
  exact ⟨He.eqO_ok h1, He.eqO_ok h2, of_decide_eq_true h3, h4, He.eqO_ok h5, He.eqO_ok h6, of_decide_eq_true h8⟩
def eC (c : Ctx) : Addr := He.ga c.K "InvalidText"
section
variable {c : Ctx}
theorem B0.oex (b : B0 c) : OexC c.K (eC c) := oexB_ok (says_more b.S 6 (b := oexB c.K (He.ga c.K "InvalidText")) rfl)
theorem B0.err (b : B0 c) : ErF c.K (eC c) := errB_ok (says_more b.S 7 (b := errB c.K (He.ga c.K "InvalidText")) rfl)
theorem B0.mE (b : B0 c) : c.mg "InvalidText" = some (.ref (eC c)) := b.glo 82 rfl
theorem B0.txF (b : B0 c) : TxF c.K c.mg (eC c) := ⟨b.oex, b.err.no, b.mE⟩
theorem B0.trF (b : B0 c) : TrF c.K c.mg (eC c) (He.ga c.K "SumsError") := by
  obtain ⟨h1, h2, h3, h4⟩ := b.isiF (x := "InvalidText") 11 rfl
  have e := b.err
  have x := b.oex
  exact ⟨⟨e.ga, e.gg, x.exC, e.hd⟩, ⟨e.ga, e.gg, x.exC, e.hd, h1, h2, h3, h4⟩, e.no, He.exm_ok (says_fact b.S 144 rfl), b.mE, b.glo 83 rfl, e.kS, b.free 97 rfl, b.free 85 rfl⟩
theorem bq_Tx : BindsQ "__init__" "InvalidText.__init__" s_InvalidText_init ["self", "line"] := fun _ _ _ _ _ _ us hl => match us, hl with | [_, _], _ => rfl
theorem B0.rz (b : B0 c) (hk : 2 ≤ c.k) (N : List Str) (X : Cx) (g : Good c N X) (e : Expr) (px pos : Pos) (ta : TA) (hg : glbK X.env.scope "InvalidText" = true) (hst : notStar e = true) (ha : PA X [e] ta) :
    PMk X (.Call (.Name "InvalidText" px) [e] [] pos) (fun σ H Q => ta σ H fun vs H1 => ∃ v, vs = [v] ∧ ∀ d, H1 d = none → Q (.ref (eC c)) (some d) (upd H1 d (.xd (lnF v)))) := by
  obtain ⟨fd, F⟩ := says_def b.S 88 (d := mOf "InvalidText" "__init__" "InvalidText.__init__" s_InvalidText_init []) rfl
  exact rz_T b.txF b.err.iC b.err.tI (fn_T b.txF (ex_of F)) ((fun_of F).binds bq_Tx) hk g e px pos ta hg hst ha
/-! ### wishes -/
def CallN (c : Ctx) (x : Str) (sp : SpN) : Prop := ∀ N X, Good c N X → ∀ (e : Expr) (es : List Expr) (px pos : Pos) (ta : TA), glbK X.env.scope x = true → (e :: es).all notStar = true → PA X (e :: es) ta → PE X (.Call (.Name x px) (e :: es) [] pos) (fun σ H Q => ta σ H fun vs H1 => rN X.K sp vs H1 Q)
def CallE (c : Ctx) (C : Addr) (x : Str) (sp : SpX) : Prop := ∀ N X W, Good c N X → Takes X W → ∀ (e : Expr) (es : List Expr) (px pos : Pos) (ta : TA), glbK X.env.scope x = true → (e :: es).all notStar = true → PA X (e :: es) ta →
    PE X (.Call (.Name x px) (e :: es) [] pos) (fun σ H Q => ta σ H fun vs H1 => rX X.K C sp vs H1 Q (WE W σ))
def HasN (c : Ctx) (nl : List (Str × SpN)) : Prop := ∀ p ∈ nl, CallN c p.1 p.2
def HasX (c : Ctx) (C : Addr) (xl : List (Str × SpX)) : Prop := ∀ p ∈ xl, CallE c C p.1 p.2
theorem nfOf_mem : ∀ {l : List (Str × SpN)} {x : Str} {g : SpN}, nfOf l x = some g → (x, g) ∈ l
  | [], x, d, h => by cases h
  | (n, g') :: r, x, g, h => by
    unfold nfOf at h
    split at h
    · rename_i q
      cases h
      have e := of_decide_eq_true q
      subst e
      exact List.mem_cons_self
    · exact List.mem_cons_of_mem _ (nfOf_mem h)
theorem xfOf_mem : ∀ {l : List (Str × SpX)} {x : Str} {g : SpX}, xfOf l x = some g → (x, g) ∈ l
  | [], x, d, h => by cases h
  | (n, g') :: r, x, g, h => by
    unfold xfOf at h
    split at h
    · rename_i q
      cases h
      have e := of_decide_eq_true q
      subst e
      exact List.mem_cons_self
    · exact List.mem_cons_of_mem _ (xfOf_mem h)
theorem HasN.nil : HasN c [] := fun p h => by cases h
theorem HasN.cons {x : Str} {g : SpN} {l : List (Str × SpN)} (h : CallN c x g) (r : HasN c l) : HasN c ((x, g) :: l) := fun p hp => by
  rcases List.mem_cons.mp hp with rfl | hp
  · exact h
  · exact r p hp
theorem HasX.nil {C : Addr} : HasX c C [] := fun p h => by cases h
theorem HasX.cons {C : Addr} {x : Str} {g : SpX} {l : List (Str × SpX)} (h : CallE c C x g) (r : HasX c C l) : HasX c C ((x, g) :: l) := fun p hp => by
  rcases List.mem_cons.mp hp with rfl | hp
  · exact h
  · exact r p hp
theorem HasN.up {l : List (Str × SpN)} {j k : Nat} (h : HasN (at_ c j) l) (hk : j ≤ k := by decide) : HasN (at_ c k) l := fun p hp N X gd => h p hp N X (Good.less (c := at_ c j) gd hk)
theorem Kn.callN {x : Str} {ps : List Str} {g : SpN} {j : Nat} (h : Kn c CX0 x ps (spN c.K g) j) (hj : j ≤ c.k) (hd : (x == ("__debug__" : Str)) = false) : CallN c x g := by
  obtain ⟨f, fd, F, m, p, b⟩ := h
  exact fun N X gd => call_N gd F hj m p b hd
theorem Kn.callX {C : Addr} {x : Str} {ps : List Str} {g : SpX} {j : Nat} (h : Kn c (L2.CX c.P c.w) x ps (spX c.K C g) j) (hj : j ≤ c.k) (hd : (x == ("__debug__" : Str)) = false) : CallE c C x g := by
  obtain ⟨f, fd, F, m, p, b⟩ := h
  exact fun N X W gd tk => call_X gd tk F hj m p b hd
theorem callN_at {x : Str} {ps : List Str} {g : SpN} {j k : Nat} (h : Kn (at_ c j) CX0 x ps (spN (at_ c j).K g) ((at_ c j).k + 1)) (hjk : j + 1 ≤ k := by decide) (hd : (x == ("__debug__" : Str)) = false := by decide) : CallN (at_ c k) x g := by
  have h : Kn (at_ c k) CX0 x ps (spN (at_ c k).K g) (j + 1) := h
  exact h.callN hjk hd
theorem libN (b : B0 c) {dp : Nat} {ft : Str → Option (List D → Option D)} {gc : Str → Option D} {nl : List (Str × SpN)} {xl : List (Str × SpX)} {lf : Addr → Option (List D → Option D)} (L : Lib dp c ft gc) (hn : HasN c nl) (hx : HasX c (eC c) xl)
    (hl : ∀ f g, lf f = some g → Held c.P c.w c.K c.mg c.base c.k f (spD c.K g)) (hk : 2 ≤ c.k) : LibN dp c ft gc (nfOf nl) (xfOf xl) lf (eC c) :=
  { toLib := L, nf := fun N x sp h X gd => hn (x, sp) (nfOf_mem h) N X gd, lf := hl, len := b.free 84 rfl, range := b.free 95 rfl, rz := b.rz hk, xf := fun N x sp h X W gd tk => hx (x, sp) (xfOf_mem h) N X W gd tk }
theorem libN0 (b : B0 c) {fl : FtL} {nl : List (Str × SpN)} {k : Nat} (h : Has (at_ c k) fl) (hn : HasN (at_ c k) nl) (hk : 14 ≤ k := by decide) : LibN 1 (at_ c k) (ftOf fl) gcB (nfOf nl) (xfOf []) (fun _ => none) (eC c) :=
  libN (b.up k) (libA b h hk) hn .nil (fun f g h => by cases h) (Nat.le_trans (by decide) hk)
theorem mkN (b : B0 c) {dp : Nat} {ft : Str → Option (List D → Option D)} {gc : Str → Option D} {nf : Str → Option SpN} {xf : Str → Option SpX} {lf : Addr → Option (List D → Option D)} {C : Addr} (L : LibN dp c ft gc nf xf lf C) (i : Nat) {x : Str} {st : Stmt} {N ps mu : List Str} (h : fn[i]? = some (dOf x st)) (h2 : faL[i]? = some (.glo x)) (S : FnScope N ps (defScope st)) (hb : BindsP x st ps)
    {sp : SpN} (hg : ∀ ds ms R, sp ds ms R → semN0 ⟨⟨dp, N, ft, gc⟩, nf, xf, lf, mu⟩ 40 40 st ps.length ds ms R) : Kn c CX0 x ps (spN c.K sp) (c.k + 1) := by
  obtain ⟨fd, F⟩ := b.df i h
  exact kn_of b F i h2 hb (fn_weakN (fn_N0 L F S mu 40 40) hg)
theorem mkX (b : B0 c) {dp : Nat} {ft : Str → Option (List D → Option D)} {gc : Str → Option D} {nf : Str → Option SpN} {xf : Str → Option SpX} {lf : Addr → Option (List D → Option D)} {C : Addr} (L : LibN dp c ft gc nf xf lf C) (i : Nat) {x : Str} {st : Stmt} {N ps mu : List Str} (h : fn[i]? = some (dOf x st)) (h2 : faL[i]? = some (.glo x)) (S : FnScope N ps (defScope st)) (hb : BindsP x st ps)
    {sp : SpX} (hg : ∀ ds ms R, sp ds ms R → semN ⟨⟨dp, N, ft, gc⟩, nf, xf, lf, mu⟩ 40 40 st ps.length ds ms R) : Kn c (L2.CX c.P c.w) x ps (spX c.K C sp) (c.k + 1) := by
  obtain ⟨fd, F⟩ := b.df i h
  exact kn_of b F i h2 hb (fn_weakX (fn_N L F S mu 40 40) hg)
theorem bp__law_draw : BindsP "_law_draw" s__law_draw ["_law_pot_here", "_law_size"] := fun _ _ _ _ _ _ us hl => match us, hl with | [_, _], _ => rfl
theorem k_draw (b : B0 c) : Kn c CX0 "_law_draw" ["_law_pot_here", "_law_size"] (spN c.K w__law_draw) 1 := by
  obtain ⟨fd, F⟩ := b.df (x := "_law_draw") (st := s__law_draw) 44 rfl
  exact kn_of b F 44 rfl bp__law_draw (fn_draw (b.free 100 rfl) (b.free 86 rfl) F)
theorem fs__law_pick : FnScope N__law_pick ["_law_pot_here", "_law_some"] (defScope s__law_pick) := ⟨rfl, rfl, rfl, by decide +kernel, rfl, by decide +kernel, by decide +kernel⟩
theorem bp__law_pick : BindsP "_law_pick" s__law_pick ["_law_pot_here", "_law_some"] := fun _ _ _ _ _ _ us hl => match us, hl with | [_, _], _ => rfl
theorem kw__law_pick (b : B0 c) {C : Addr} (L : LibN 1 c (ftOf fl0) gcB (nfOf nl1) (xfOf []) (fun _ => none) C) : Kn c CX0 "_law_pick" ["_law_pot_here", "_law_some"] (spN c.K w__law_pick) (c.k + 1) := mkN b (mu := []) L 45 rfl rfl fs__law_pick bp__law_pick fun _ _ _ h => pick_w h
theorem fs__law_letter : FnScope N__law_letter ["_law_pot_here", "_law_columns", "_law_most"] (defScope s__law_letter) := ⟨rfl, rfl, rfl, by decide +kernel, rfl, by decide +kernel, by decide +kernel⟩
theorem bp__law_letter : BindsP "_law_letter" s__law_letter ["_law_pot_here", "_law_columns", "_law_most"] := fun _ _ _ _ _ _ us hl => match us, hl with | [_, _, _], _ => rfl
theorem kw__law_letter (b : B0 c) {C : Addr} (L : LibN 1 c (ftOf fl0) gcB (nfOf nl1) (xfOf []) (fun _ => none) C) : Kn c CX0 "_law_letter" ["_law_pot_here", "_law_columns", "_law_most"] (spN c.K w__law_letter) (c.k + 1) := mkN b (mu := []) L 46 rfl rfl fs__law_letter bp__law_letter fun _ _ _ h => letter_w h
theorem fs__law_word : FnScope N__law_word ["_law_pot_here", "_law_columns", "_law_letters", "_law_most"] (defScope s__law_word) := ⟨rfl, rfl, rfl, by decide +kernel, rfl, by decide +kernel, by decide +kernel⟩
theorem bp__law_word : BindsP "_law_word" s__law_word ["_law_pot_here", "_law_columns", "_law_letters", "_law_most"] := fun _ _ _ _ _ _ us hl => match us, hl with | [_, _, _, _], _ => rfl
theorem kw__law_word (b : B0 c) {C : Addr} (L : LibN 1 c (ftOf fl0) gcB (nfOf nl2) (xfOf []) (fun _ => none) C) : Kn c CX0 "_law_word" ["_law_pot_here", "_law_columns", "_law_letters", "_law_most"] (spN c.K w__law_word) (c.k + 1) := mkN b (mu := []) L 47 rfl rfl fs__law_word bp__law_word fun _ _ _ h => word_w h
theorem fs__law_term : FnScope N__law_term ["_law_pot_here", "_law_columns", "_law_letters", "_law_most"] (defScope s__law_term) := ⟨rfl, rfl, rfl, by decide +kernel, rfl, by decide +kernel, by decide +kernel⟩
theorem bp__law_term : BindsP "_law_term" s__law_term ["_law_pot_here", "_law_columns", "_law_letters", "_law_most"] := fun _ _ _ _ _ _ us hl => match us, hl with | [_, _, _, _], _ => rfl
theorem kw__law_term (b : B0 c) {C : Addr} (L : LibN 1 c (ftOf fl0) gcB (nfOf nl3) (xfOf []) (fun _ => none) C) : Kn c CX0 "_law_term" ["_law_pot_here", "_law_columns", "_law_letters", "_law_most"] (spN c.K w__law_term) (c.k + 1) := mkN b (mu := []) L 48 rfl rfl fs__law_term bp__law_term fun _ _ _ h => term_w h
theorem fs__law_word_words : FnScope N__law_word_words ["_law_word_here"] (defScope s__law_word_words) := ⟨rfl, rfl, rfl, by decide +kernel, rfl, by decide +kernel, by decide +kernel⟩
theorem bp__law_word_words : BindsP "_law_word_words" s__law_word_words ["_law_word_here"] := fun _ _ _ _ _ _ us hl => match us, hl with | [_], _ => rfl
theorem kw__law_word_words (b : B0 c) {C : Addr} (L : LibN 1 c (ftOf flW) gcB (nfOf nl3) (xfOf []) (fun _ => none) C) : Kn c CX0 "_law_word_words" ["_law_word_here"] (spN c.K w__law_word_words) (c.k + 1) := mkN b (mu := []) L 50 rfl rfl fs__law_word_words bp__law_word_words fun _ _ _ h => word_words_w h
theorem fs__law_term_words : FnScope N__law_term_words ["_law_term_here"] (defScope s__law_term_words) := ⟨rfl, rfl, rfl, by decide +kernel, rfl, by decide +kernel, by decide +kernel⟩
theorem bp__law_term_words : BindsP "_law_term_words" s__law_term_words ["_law_term_here"] := fun _ _ _ _ _ _ us hl => match us, hl with | [_], _ => rfl
theorem kw__law_term_words (b : B0 c) {C : Addr} (L : LibN 1 c (ftOf flW) gcB (nfOf nl4) (xfOf []) (fun _ => none) C) : Kn c CX0 "_law_term_words" ["_law_term_here"] (spN c.K w__law_term_words) (c.k + 1) := mkN b (mu := []) L 51 rfl rfl fs__law_term_words bp__law_term_words fun _ _ _ h => term_words_w h
theorem fs__law_told : FnScope N__law_told ["_law_pot_here"] (defScope s__law_told) := ⟨rfl, rfl, rfl, by decide +kernel, rfl, by decide +kernel, by decide +kernel⟩
theorem bp__law_told : BindsP "_law_told" s__law_told ["_law_pot_here"] := fun _ _ _ _ _ _ us hl => match us, hl with | [_], _ => rfl
theorem kw__law_told (b : B0 c) {C : Addr} (L : LibN 1 c (ftOf flW) gcB (nfOf nl4) (xfOf []) (fun _ => none) C) : Kn c CX0 "_law_told" ["_law_pot_here"] (spN c.K w__law_told) (c.k + 1) := mkN b (mu := []) L 67 rfl rfl fs__law_told bp__law_told fun _ _ _ h => told_w h
theorem fs__law_told_row : FnScope N__law_told_row ["_law_pot_here", "_law_columns"] (defScope s__law_told_row) := ⟨rfl, rfl, rfl, by decide +kernel, rfl, by decide +kernel, by decide +kernel⟩
theorem bp__law_told_row : BindsP "_law_told_row" s__law_told_row ["_law_pot_here", "_law_columns"] := fun _ _ _ _ _ _ us hl => match us, hl with | [_, _], _ => rfl
theorem kw__law_told_row (b : B0 c) {C : Addr} (L : LibN 1 c (ftOf flW) gcB (nfOf nl5) (xfOf []) (fun _ => none) C) : Kn c CX0 "_law_told_row" ["_law_pot_here", "_law_columns"] (spN c.K w__law_told_row) (c.k + 1) := mkN b (mu := ["_law_found"]) L 68 rfl rfl fs__law_told_row bp__law_told_row fun _ _ _ h => told_row_w h
theorem fs__law_told_step : FnScope N__law_told_step ["_law_pot_here", "_law_columns", "_law_at"] (defScope s__law_told_step) := ⟨rfl, rfl, rfl, by decide +kernel, rfl, by decide +kernel, by decide +kernel⟩
theorem bp__law_told_step : BindsP "_law_told_step" s__law_told_step ["_law_pot_here", "_law_columns", "_law_at"] := fun _ _ _ _ _ _ us hl => match us, hl with | [_, _, _], _ => rfl
theorem kw__law_told_step (b : B0 c) {C : Addr} (L : LibN 1 c (ftOf flW) gcB (nfOf nl5) (xfOf []) (fun _ => none) C) : Kn c CX0 "_law_told_step" ["_law_pot_here", "_law_columns", "_law_at"] (spN c.K w__law_told_step) (c.k + 1) := mkN b (mu := []) L 69 rfl rfl fs__law_told_step bp__law_told_step fun _ _ _ h => told_step_w h
theorem fs__law_told_line : FnScope N__law_told_line ["_law_pot_here", "_law_kind", "_law_columns", "_law_at"] (defScope s__law_told_line) := ⟨rfl, rfl, rfl, by decide +kernel, rfl, by decide +kernel, by decide +kernel⟩
theorem bp__law_told_line : BindsP "_law_told_line" s__law_told_line ["_law_pot_here", "_law_kind", "_law_columns", "_law_at"] := fun _ _ _ _ _ _ us hl => match us, hl with | [_, _, _, _], _ => rfl
theorem kw__law_told_line (b : B0 c) {C : Addr} (L : LibN 1 c (ftOf flW) gcB (nfOf nl6) (xfOf []) (fun _ => none) C) : Kn c CX0 "_law_told_line" ["_law_pot_here", "_law_kind", "_law_columns", "_law_at"] (spN c.K w__law_told_line) (c.k + 1) := mkN b (mu := []) L 70 rfl rfl fs__law_told_line bp__law_told_line fun _ _ _ h => told_line_w h
theorem fs__law_text : FnScope N__law_text ["_law_pot_here", "_law_kind"] (defScope s__law_text) := ⟨rfl, rfl, rfl, by decide +kernel, rfl, by decide +kernel, by decide +kernel⟩
theorem bp__law_text : BindsP "_law_text" s__law_text ["_law_pot_here", "_law_kind"] := fun _ _ _ _ _ _ us hl => match us, hl with | [_, _], _ => rfl
theorem kw__law_text (b : B0 c) {C : Addr} (L : LibN 1 c (ftOf flW) gcB (nfOf nl7) (xfOf []) (fun _ => none) C) : Kn c CX0 "_law_text" ["_law_pot_here", "_law_kind"] (spN c.K w__law_text) (c.k + 1) := mkN b (mu := ["_law_lines"]) L 71 rfl rfl fs__law_text bp__law_text fun _ _ _ h => text_w h
theorem fs__law_bent : FnScope N__law_bent ["_law_pot_here", "_law_text_here"] (defScope s__law_bent) := ⟨rfl, rfl, rfl, by decide +kernel, rfl, by decide +kernel, by decide +kernel⟩
theorem bp__law_bent : BindsP "_law_bent" s__law_bent ["_law_pot_here", "_law_text_here"] := fun _ _ _ _ _ _ us hl => match us, hl with | [_, _], _ => rfl
theorem kw__law_bent (b : B0 c) {C : Addr} (L : LibN 1 c (ftOf flW) gcB (nfOf nl7) (xfOf []) (fun _ => none) C) : Kn c CX0 "_law_bent" ["_law_pot_here", "_law_text_here"] (spN c.K w__law_bent) (c.k + 1) := mkN b (mu := []) L 72 rfl rfl fs__law_bent bp__law_bent fun _ _ _ h => bent_w h
theorem fs__law_right : FnScope N__law_right ["_law_pot_here"] (defScope s__law_right) := ⟨rfl, rfl, rfl, by decide +kernel, rfl, by decide +kernel, by decide +kernel⟩
theorem bp__law_right : BindsP "_law_right" s__law_right ["_law_pot_here"] := fun _ _ _ _ _ _ us hl => match us, hl with | [_], _ => rfl
theorem kw__law_right (b : B0 c) {C : Addr} (L : LibN 1 c (ftOf flX) gcB (nfOf nl8) (xfOf []) (fun _ => none) C) : Kn c CX0 "_law_right" ["_law_pot_here"] (spN c.K w__law_right) (c.k + 1) := mkN b (mu := []) L 74 rfl rfl fs__law_right bp__law_right fun _ _ _ h => right_w h
theorem hasW (b : B0 c) {k : Nat} (hk : 15 ≤ k := by decide) : Has (at_ c k) flW := .cons (call_at (kn__law_letter_words (b.up 14) (libA b (has_at (j := 3) (has0 (b.up 3))))) hk) (has0 (b.up k))
theorem hn1 (b : B0 c) : HasN (at_ c 14) nl1 := .cons (Kn.callN (c := at_ c 14) (k_draw (b.up 14)) (by decide : 1 ≤ 14) (by decide)) .nil
theorem hn2 (b : B0 c) : HasN (at_ c 15) nl2 := by
  have L := libN0 b (has0 (b.up 14)) (hn1 b)
  exact .cons (callN_at (kw__law_pick (b.up 14) L)) (.cons (callN_at (kw__law_letter (b.up 14) L)) (HasN.up (hn1 b)))
theorem hn3 (b : B0 c) : HasN (at_ c 16) nl3 := by
  have L := libN0 b (has0 (b.up 15)) (hn2 b)
  exact .cons (callN_at (kw__law_word (b.up 15) L)) (HasN.up (hn2 b))
theorem hn4 (b : B0 c) : HasN (at_ c 17) nl4 := by
  have L1 := libN0 b (hasW b) (hn3 b)
  have L2 := libN0 b (has0 (b.up 16)) (hn3 b)
  exact .cons (callN_at (kw__law_word_words (b.up 16) L1)) (.cons (callN_at (kw__law_term (b.up 16) L2)) (HasN.up (hn3 b)))
theorem hn5 (b : B0 c) : HasN (at_ c 18) nl5 := by
  have L := libN0 b (hasW b) (hn4 b)
  exact .cons (callN_at (kw__law_term_words (b.up 17) L)) (.cons (callN_at (kw__law_told (b.up 17) L)) (HasN.up (hn4 b)))
theorem hn6 (b : B0 c) : HasN (at_ c 19) nl6 := by
  have L := libN0 b (hasW b) (hn5 b)
  exact .cons (callN_at (kw__law_told_row (b.up 18) L)) (.cons (callN_at (kw__law_told_step (b.up 18) L)) (HasN.up (hn5 b)))
theorem hn7 (b : B0 c) : HasN (at_ c 20) nl7 := by
  have L := libN0 b (hasW b) (hn6 b)
  exact .cons (callN_at (kw__law_told_line (b.up 19) L)) (HasN.up (hn6 b))
theorem hn8 (b : B0 c) : HasN (at_ c 21) nl8 := by
  have L := libN0 b (hasW b) (hn7 b)
  exact .cons (callN_at (kw__law_text (b.up 20) L)) (.cons (callN_at (kw__law_bent (b.up 20) L)) (HasN.up (hn7 b)))
end
end Ag
set_option Elab.async false
set_option linter.all false
set_option autoImplicit false
set_option maxRecDepth 100000
set_option maxHeartbeats 2000000
namespace Ag
open PySem PySem.Spec L2 TL PyProof.Rows
section
variable {c : Ctx}
def fkN : Kd → Str
  | .tab => "row_told"
  | .prog => "step_told"
  | .tal => "word_part_told"
  | .frm => "term_part_told"
  | .rns => "lot_told"
def fkA (K : PySem.W.Frag) (k : Kd) : Addr := He.ga K (fkN k)
theorem B0.fk (b : B0 c) : ∀ k : Kd, c.mg (fkN k) = some (.ref (fkA c.K k))
  | .tab => b.glo (x := "row_told") 29 rfl
  | .prog => b.glo (x := "step_told") 31 rfl
  | .tal => b.glo (x := "word_part_told") 32 rfl
  | .frm => b.glo (x := "term_part_told") 33 rfl
  | .rns => b.glo (x := "lot_told") 34 rfl
theorem kn_take (b : B0 c) (L : Lib 1 c (ftOf fl8) gcB) : ∀ k : Kd, ∃ ps, Kn c CX0 (fkN k) ps (spD c.K (takeG k)) (c.k + 1)
  | .tab => ⟨_, kn_row_told b L⟩
  | .prog => ⟨_, kn_step_told b L⟩
  | .tal => ⟨_, kn_word_part_told b L⟩
  | .frm => ⟨_, kn_term_part_told b L⟩
  | .rns => ⟨_, kn_lot_told b L⟩
theorem held_take (b : B0 c) (k : Kd) {m : Nat} (hm : 20 ≤ m) : ∀ f g, lfK (fkA c.K k) k f = some g → Held c.P c.w c.K c.mg c.base m f (spD c.K g) := fun f g h => by
  unfold lfK at h
  split at h
  · rename_i e
    cases h
    obtain ⟨ps, f', fd, O, hg, kp, hb⟩ := kn_take (b.up 19) (libA b (has8 b)) k
    have e2 : f' = f := by
      have := (b.fk k).symm.trans hg
      rw [e]
      exact (Value.ref.inj (Option.some.inj this)).symm
    subst e2
    exact ⟨fd, ps, O.mono hm, kp, hb⟩
  · cases h
theorem gcW_ok (b : B0 c) (x : Str) (d : D) (h : gcW (fkA c.K) x = some d) : GcOk c x d := by
  have m := lkC_mem (show lkC _ x = some d from h)
  have m2 : (x, d) ∈ gcL → GcOk c x d := fun hm => by
    exact gcL_ok b hm
  have go : ∀ k : Kd, GcOk c (fkN k) (.obj (fkA c.K k)) := fun k => ⟨.ref (fkA c.K k), _, b.fk k, rfl, fun H => .obj _⟩
  rcases List.mem_cons.mp m with e | m
  · obtain ⟨rfl, rfl⟩ := Prod.mk.inj e
    exact go .tab
  rcases List.mem_cons.mp m with e | m
  · obtain ⟨rfl, rfl⟩ := Prod.mk.inj e
    exact go .prog
  rcases List.mem_cons.mp m with e | m
  · obtain ⟨rfl, rfl⟩ := Prod.mk.inj e
    exact go .tal
  rcases List.mem_cons.mp m with e | m
  · obtain ⟨rfl, rfl⟩ := Prod.mk.inj e
    exact go .frm
  rcases List.mem_cons.mp m with e | m
  · obtain ⟨rfl, rfl⟩ := Prod.mk.inj e
    exact go .rns
  exact m2 m
theorem fs_want_lines : FnScope N_want_lines ["sort", "take", "text"] (defScope s_want_lines) := ⟨rfl, rfl, rfl, by decide +kernel, rfl, by decide +kernel, by decide +kernel⟩
theorem bp_want_lines : BindsP "want_lines" s_want_lines ["sort", "take", "text"] := fun _ _ _ _ _ _ us hl => match us, hl with | [_, _, _], _ => rfl
theorem fs_read_word : FnScope N_read_word ["columns", "text"] (defScope s_read_word) := ⟨rfl, rfl, rfl, by decide +kernel, rfl, by decide +kernel, by decide +kernel⟩
theorem bp_read_word : BindsP "read_word" s_read_word ["columns", "text"] := fun _ _ _ _ _ _ us hl => match us, hl with | [_, _], _ => rfl
theorem fs__law_due : FnScope N__law_due ["_law_text_here", "_law_kind"] (defScope s__law_due) := ⟨rfl, rfl, rfl, by decide +kernel, rfl, by decide +kernel, by decide +kernel⟩
theorem bp__law_due : BindsP "_law_due" s__law_due ["_law_text_here", "_law_kind"] := fun _ _ _ _ _ _ us hl => match us, hl with | [_, _], _ => rfl
theorem fs_read_table : FnScope N_read_table ["text"] (defScope s_read_table) := ⟨rfl, rfl, rfl, by decide +kernel, rfl, by decide +kernel, by decide +kernel⟩
theorem bp_read_table : BindsP "read_table" s_read_table ["text"] := fun _ _ _ _ _ _ us hl => match us, hl with | [_], _ => rfl
theorem fs_read_program : FnScope N_read_program ["text"] (defScope s_read_program) := ⟨rfl, rfl, rfl, by decide +kernel, rfl, by decide +kernel, by decide +kernel⟩
theorem bp_read_program : BindsP "read_program" s_read_program ["text"] := fun _ _ _ _ _ _ us hl => match us, hl with | [_], _ => rfl
theorem fs_read_tally : FnScope N_read_tally ["text"] (defScope s_read_tally) := ⟨rfl, rfl, rfl, by decide +kernel, rfl, by decide +kernel, by decide +kernel⟩
theorem bp_read_tally : BindsP "read_tally" s_read_tally ["text"] := fun _ _ _ _ _ _ us hl => match us, hl with | [_], _ => rfl
theorem fs_read_form : FnScope N_read_form ["text"] (defScope s_read_form) := ⟨rfl, rfl, rfl, by decide +kernel, rfl, by decide +kernel, by decide +kernel⟩
theorem bp_read_form : BindsP "read_form" s_read_form ["text"] := fun _ _ _ _ _ _ us hl => match us, hl with | [_], _ => rfl
theorem fs_read_runs : FnScope N_read_runs ["text"] (defScope s_read_runs) := ⟨rfl, rfl, rfl, by decide +kernel, rfl, by decide +kernel, by decide +kernel⟩
theorem bp_read_runs : BindsP "read_runs" s_read_runs ["text"] := fun _ _ _ _ _ _ us hl => match us, hl with | [_], _ => rfl
theorem bp__law_read : BindsP "_law_read" s__law_read ["_law_text_here", "_law_kind"] := fun _ _ _ _ _ _ us hl => match us, hl with | [_, _], _ => rfl
theorem bp__law_text_right : BindsP "_law_text_right" s__law_text_right ["_law_text_here", "_law_kind"] := fun _ _ _ _ _ _ us hl => match us, hl with | [_, _], _ => rfl
theorem bp__law_pot : BindsP "_law_pot" s__law_pot ["_law_script", "_law_k"] := fun _ _ _ _ _ _ us hl => match us, hl with | [_, _], _ => rfl
theorem k_want (b : B0 c) : Kn c (L2.CX c.P c.w) "want_lines" ["sort", "take", "text"] (spX c.K (eC c) (x_want_lines (fkA c.K))) 28 := by
  obtain ⟨fd, F⟩ := b.df (x := "want_lines") (st := s_want_lines) 36 rfl
  refine kn_of b F 36 rfl bp_want_lines ?_
  have O : ∀ k : Kd, FnOk c.P c.w c.K c.mg c.base (L2.CX c.P c.w) 28 (He.ga c.K "want_lines") fd ["sort", "take", "text"] (spX c.K (eC c) (fun ds ms R => ∃ t : Str, ds = [.str k.nm, .obj (fkA c.K k), .str t] ∧ t.length ≤ 2000 ∧ R (textT k (tl t)) ms)) := fun k => by
    have L : LibN 1 (at_ c 27) (ftOf fl18) gcB (nfOf []) (xfOf []) (lfK (fkA c.K k) k) (eC c) := libN (b.up 27) (libA b (has18 b)) .nil .nil (held_take b k (Nat.le_of_ble_eq_true rfl)) (Nat.le_of_ble_eq_true rfl)
    exact fn_dropX (fn_N L F fs_want_lines ["found"] 40 40) fun ds ms R h => want_w h
  exact fn_exX (sp := fun k ds ms R => ∃ t : Str, ds = [.str (Kd.nm k), .obj (fkA c.K k), .str t] ∧ t.length ≤ 2000 ∧ R (textT k (tl t)) ms) Kd.tab O
theorem libR (b : B0 c) : LibN 1 (at_ c 28) (ftOf fl18) (gcW (fkA c.K)) (nfOf []) (xfOf (xl1 (fkA c.K))) (fun _ => none) (eC c) := by
  have L0 := libA b (has_at (k := 28) (has18 b))
  have L : Lib 1 (at_ c 28) (ftOf fl18) (gcW (fkA c.K)) := ⟨fun x d h => gcW_ok (b.up 28) x d h, L0.ft, L0.isi, L0.it, L0.nin⟩
  exact libN (b.up 28) L .nil (.cons (Kn.callX (c := at_ c 28) (k_want (b.up 28)) (Nat.le_of_ble_eq_true rfl) (by decide)) .nil) (fun f g h => by cases h) (Nat.le_of_ble_eq_true rfl)
theorem rd_of {x : Str} {st : Stmt} {ps ks : List Str} {g : List Value → List Value → List Value} {gV : List V → List V → List V} {sp : SpX} {fd : FuncData} {k : Nat} (b : B0 c) (i : Nat) (h : faL[i]? = some (.glo x)) (F : Fun c.K x x st (He.ga c.K x) fd) (O : FnOk c.P c.w c.K c.mg c.base (L2.CX c.P c.w) k (He.ga c.K x) fd ps (spX c.K (eC c) sp)) (kb : KBinds c.K fd ps ks g gV) : RdF (at_ c k) (eC c) x ps ks g gV sp (He.ga c.K x) fd :=
  ⟨O, b.glo i h, F.kp, kb⟩
theorem rd_read_table (b : B0 c) : ∃ f fd, RdF (at_ c 29) (eC c) "read_table" ["text"] ["text"] gOne gOne (x_read .tab) f fd := by
  obtain ⟨fd, F⟩ := b.df (x := "read_table") (st := s_read_table) 38 rfl
  refine ⟨_, fd, rd_of b 38 rfl F (fn_weakX (fn_N (libR b) F fs_read_table [] 40 40) fun ds ms R h => read_table_w h) (kb_one fun s w hK => ?_)⟩
  obtain ⟨oc, od, kV, doc, pm, an, cdv, ct, osl, rfl, lk, hcd⟩ := F.ex
  exact BindsTo.of_looks fun M => .of_pure rfl
theorem rd_read_program (b : B0 c) : ∃ f fd, RdF (at_ c 29) (eC c) "read_program" ["text"] ["text"] gOne gOne (x_read .prog) f fd := by
  obtain ⟨fd, F⟩ := b.df (x := "read_program") (st := s_read_program) 39 rfl
  refine ⟨_, fd, rd_of b 39 rfl F (fn_weakX (fn_N (libR b) F fs_read_program [] 40 40) fun ds ms R h => read_program_w h) (kb_one fun s w hK => ?_)⟩
  obtain ⟨oc, od, kV, doc, pm, an, cdv, ct, osl, rfl, lk, hcd⟩ := F.ex
  exact BindsTo.of_looks fun M => .of_pure rfl
theorem rd_read_tally (b : B0 c) : ∃ f fd, RdF (at_ c 29) (eC c) "read_tally" ["text"] ["text"] gOne gOne (x_read .tal) f fd := by
  obtain ⟨fd, F⟩ := b.df (x := "read_tally") (st := s_read_tally) 40 rfl
  refine ⟨_, fd, rd_of b 40 rfl F (fn_weakX (fn_N (libR b) F fs_read_tally [] 40 40) fun ds ms R h => read_tally_w h) (kb_one fun s w hK => ?_)⟩
  obtain ⟨oc, od, kV, doc, pm, an, cdv, ct, osl, rfl, lk, hcd⟩ := F.ex
  exact BindsTo.of_looks fun M => .of_pure rfl
theorem rd_read_form (b : B0 c) : ∃ f fd, RdF (at_ c 29) (eC c) "read_form" ["text"] ["text"] gOne gOne (x_read .frm) f fd := by
  obtain ⟨fd, F⟩ := b.df (x := "read_form") (st := s_read_form) 41 rfl
  refine ⟨_, fd, rd_of b 41 rfl F (fn_weakX (fn_N (libR b) F fs_read_form [] 40 40) fun ds ms R h => read_form_w h) (kb_one fun s w hK => ?_)⟩
  obtain ⟨oc, od, kV, doc, pm, an, cdv, ct, osl, rfl, lk, hcd⟩ := F.ex
  exact BindsTo.of_looks fun M => .of_pure rfl
theorem rd_read_runs (b : B0 c) : ∃ f fd, RdF (at_ c 29) (eC c) "read_runs" ["text"] ["text"] gOne gOne (x_read .rns) f fd := by
  obtain ⟨fd, F⟩ := b.df (x := "read_runs") (st := s_read_runs) 42 rfl
  refine ⟨_, fd, rd_of b 42 rfl F (fn_weakX (fn_N (libR b) F fs_read_runs [] 40 40) fun ds ms R h => read_runs_w h) (kb_one fun s w hK => ?_)⟩
  obtain ⟨oc, od, kV, doc, pm, an, cdv, ct, osl, rfl, lk, hcd⟩ := F.ex
  exact BindsTo.of_looks fun M => .of_pure rfl
theorem rd_word (b : B0 c) : ∃ f fd, RdF (at_ c 29) (eC c) "read_word" ["columns", "text"] ["text", "columns"] gTwo gTwo x_word f fd := by
  obtain ⟨fd, F⟩ := b.df (x := "read_word") (st := s_read_word) 37 rfl
  have L := libN0 b (has_at (k := 28) (has18 b)) .nil
  refine ⟨_, fd, rd_of b 37 rfl F (fn_weakX (fn_N L F fs_read_word [] 40 40) fun ds ms R h => read_word_w h) (kb_two fun s a w hK => ?_)⟩
  obtain ⟨oc, od, kV, doc, pm, an, cdv, ct, osl, rfl, lk, hcd⟩ := F.ex
  exact BindsTo.of_looks fun M => .of_pure rfl
theorem k_read (b : B0 c) : Kn c (L2.CX c.P c.w) "_law_read" ["_law_text_here", "_law_kind"] (spX c.K (eC c) x_law_read) 30 := by
  obtain ⟨fd, F⟩ := b.df (x := "_law_read") (st := s__law_read) 65 rfl
  obtain ⟨_, _, R1⟩ := rd_read_table b
  obtain ⟨_, _, R2⟩ := rd_read_program b
  obtain ⟨_, _, R3⟩ := rd_read_tally b
  obtain ⟨_, _, R4⟩ := rd_read_form b
  obtain ⟨_, _, R5⟩ := rd_read_runs b
  obtain ⟨_, _, R6⟩ := rd_word b
  exact kn_of b F 65 rfl bp__law_read (fn_read (c := at_ c 29) R1 R2 R3 R4 R5 R6 F)
theorem k_due (b : B0 c) : Kn c CX0 "_law_due" ["_law_text_here", "_law_kind"] (spD c.K g__law_due) 29 := by
  obtain ⟨fd, F⟩ := b.df (x := "_law_due") (st := s__law_due) 63 rfl
  have L := libN0 b (has19 b) .nil
  exact kn_of b F 63 rfl bp__law_due (fn_pureD (fn_N0 L F fs__law_due ["_law_found"] 40 40) fun ds d h => due_g h)
theorem k_tr (b : B0 c) : Kn c CX0 "_law_text_right" ["_law_text_here", "_law_kind"] (spD c.K g__law_text_right) 35 := by
  obtain ⟨fd, F⟩ := b.df (x := "_law_text_right") (st := s__law_text_right) 66 rfl
  obtain ⟨fr, fdr, Fr, mr, pr, br⟩ := k_read b
  have H : Has (at_ c 34) [("_law_due", g__law_due)] := .cons (Kn.call (c := at_ c 34) (k_due (b.up 34)) (Nat.le_of_ble_eq_true rfl) (by decide)) .nil
  exact kn_of b F 66 rfl bp__law_text_right (fn_tr (c := at_ c 34) (libB b H) b.trF Fr (Nat.le_of_ble_eq_true rfl) mr pr br F)
theorem hasX (b : B0 c) : Has (at_ c 35) flX := .cons (Kn.call (c := at_ c 35) (k_tr (b.up 35)) (Nat.le_of_ble_eq_true rfl) (by decide)) (hasW b)
theorem k_right (b : B0 c) : Kn c CX0 "_law_right" ["_law_pot_here"] (spN c.K w__law_right) 36 := kw__law_right (b.up 35) (libN0 b (hasX b) (HasN.up (hn8 b)))
theorem fixed_g {ds : List D} {d : D} (h : g__law_fixed_right ds = some d) : semD ⟨1, N__law_fixed_right, ftOf flX, gcB⟩ 40 40 s__law_fixed_right 0 ds = some d := by
  unfold g__law_fixed_right at h
  split at h
  · cases h
    exact fixed_sem
  · cases h
theorem k_fixed (b : B0 c) : Kn c CX0 "_law_fixed_right" [] (spD c.K g__law_fixed_right) 36 := mkD (b.up 35) (libA b (hasX b)) 73 rfl rfl fs__law_fixed_right bp__law_fixed_right fun _ _ h => fixed_g h
theorem k_pot (b : B0 c) : Kn c CX0 "_law_pot" ["_law_script", "_law_k"] (spPot c.K) 1 := by
  obtain ⟨fd, F⟩ := b.df (x := "_law_pot") (st := s__law_pot) 43 rfl
  exact kn_of b F 43 rfl bp__law_pot (fn_pot (b.free 84 rfl) (b.free 98 rfl) (b.free 99 rfl) (b.free 86 rfl) F)
theorem k_law (b : B0 c) {fd : FuncData} (F : Fun c.K "law" "law" s_law (He.ga c.K "law") fd) : FnOk c.P c.w c.K c.mg c.base CX0 60 (He.ga c.K "law") fd ["_law_script"] (spLaw c.K) := by
  obtain ⟨f1, fd1, F1, m1, p1, b1⟩ := k_fixed b
  obtain ⟨f2, fd2, F2, m2, p2, b2⟩ := k_pot b
  obtain ⟨f3, fd3, F3, m3, p3, b3⟩ := k_right b
  exact FnOk.mono (fn_law (c := at_ c 36) F1 (Nat.le_refl _) m1 p1 b1 F2 (Nat.le_of_ble_eq_true rfl) m2 p2 b2 F3 (Nat.le_refl _) m3 p3 b3 F) (by decide : 37 ≤ 60)
end
end Ag
set_option Elab.async false
set_option linter.all false
set_option autoImplicit false
set_option maxRecDepth 100000
set_option maxHeartbeats 2000000
open PySem PySem.Spec L2 Ag PyProof.Rows
theorem PySem.Challenge.cw_aheadsums_k91_whole_wrong_lines_holds : PySem.Challenge.rw_aheadsums_k91_whole_wrong_lines.Holds := by
  refine Ag.fin fun w mg fa h ⟨K, X, S⟩ G hm => ?_
  have b : B0 ⟨PySem.Challenge.rw_aheadsums_k91_whole_wrong_lines.prog, w, K, mg, h, 0⟩ := ⟨S, h, X, G⟩
  have e : fa = He.ga K "law" := Value.ref.inj (Option.some.inj (hm.symm.trans (b.glo (x := "law") 75 rfl)))
  subst e
  obtain ⟨fd, F⟩ := b.df (x := "law") (st := s_law) 75 rfl
  refine ⟨K, fd, spLaw K, X, ?_, fun H a ns hl hO hS => ⟨a, ns, rfl, hS, fun _ => rfl⟩, fun base hb hn => ?_⟩
  · obtain ⟨oc, od, kV, doc, pm, an, cdv, ct, osl, rfl, lk, hcd⟩ := F.ex
    exact fun s u => BindsTo.of_looks fun M => .of_pure rfl
  · exact k_law (c := ⟨PySem.Challenge.rw_aheadsums_k91_whole_wrong_lines.prog, w, K, mg, base, 0⟩) ⟨S, h, X, G⟩ F
