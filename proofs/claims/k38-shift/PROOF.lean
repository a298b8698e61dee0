import PyProof.Rows.All
import Wide.All
import OpenK.AllK
import Wide.FinOn
import KE.KStateDown
import HandS.ForMost
import HandS.WordsExc
import HandS.Defaults
import HandS.Property
import HandS.Head0
import HandS.Head1
import HandS.Head2
import HandS.HeadEnd
import HandS.HeadHook1
import HandS.HeadHook2
import PySem.Challenge.RW_linecents_k38_whole_charges_shift_rows
import HandS.IsInst
import HandS.TupAny
import HandS.TupMul
import HandS.TupLen
import HandS.Star
import HandS.FStr
import HandS.Conv
import HandS.Walk
import HandS.Zip
import HandS.Style
import KE.GoesZip
import KE.GoesMore
import KE.GoesEnum
import KE.KDictWalk
import HandS.DictTup
import HandS.DictComp
import HandS.TryOnly
section
set_option Elab.async false
set_option linter.all false
set_option maxRecDepth 100000
set_option maxHeartbeats 0
namespace LC
open PySem PySem.Spec PyProof.Rows L2
/-! ### the text by places -/
def top (i : Nat) : Stmt := PySem.Challenge.pw_linecents_k38_whole_charges_shift_rows.main.body.getD i (.Pass ⟨0, 0, 0, 0⟩)
def mth (i j : Nat) : Stmt := inClass (top i) j
/-! ### what the head tells: a def by an address of one's own -/
structure DG where
  pl : PySem.W.Frag → Addr
  nm : Str
  ql : Str
  st : Stmt
def DG.want (d : DG) : He.FnW := some (d.nm, d.ql, defArgs d.st, .stmts (defBody d.st), defScope d.st, mainGlobals, [], builtinsNs)
def fnSeen (K : PySem.W.Frag) (a : Addr) : He.FnW := match K.lookup a with
  | some ⟨_, _, .func fd, _⟩ => some (fd.name, fd.qualname, fd.params, fd.body, fd.scope, fd.globals, fd.closure, fd.builtins)
  | _ => none
def DG.good (K : PySem.W.Frag) (d : DG) : Bool := PySem.W.keepIn K (.ref (d.pl K)) && (match K.lookup (d.pl K) with
  | some ⟨_, _, .func fd, _⟩ => PySem.W.codeIn K fd.code d.ql && (He.dflB K fd.defaults [] && He.kwdB K fd.kwdefaults [])
  | _ => false)
abbrev FD (K : PySem.W.Frag) (x q : Str) (st : Stmt) (f : Addr) (fd : FuncData) : Prop := FunD K x q (defArgs st) (defBody st) (defScope st) [] [] f fd
theorem DG.is {K : PySem.W.Frag} {d : DG} (e : fnSeen K (d.pl K) = d.want) (c : d.good K = true) : ∃ fd, FD K d.nm d.ql d.st (d.pl K) fd := by
  obtain ⟨kp, c2⟩ := He.ba c
  unfold fnSeen at e
  cases q : K.lookup (d.pl K) with
  | none => rw [q] at c2; cases c2
  | some o =>
    obtain ⟨oc, od, dt, osl⟩ := o
    rw [q] at c2 e
    cases dt with
    | func fd =>
      obtain ⟨n1, n2, n3, n4, n5, n6, n7, n8, n9, n10, n11, n12, n13, n14, n15⟩ := fd
      have e3 : (some (n1, n2, n3, n4, n5, n6, n7, n15) : He.FnW) = some (d.nm, d.ql, defArgs d.st, .stmts (defBody d.st), defScope d.st, mainGlobals, [], builtinsNs) := e
      simp only [Option.some.injEq, Prod.mk.injEq] at e3
      obtain ⟨h1, h2, h3, h4, h5, h6, h7, h8⟩ := e3
      subst h1 h2 h3 h4 h5 h6 h7 h8
      have c3 : (PySem.W.codeIn K n13 d.ql && (He.dflB K n8 [] && He.kwdB K n9 [])) = true := c2
      obtain ⟨k1, k2⟩ := He.ba c3
      obtain ⟨k3, k4⟩ := He.ba k2
      exact ⟨_, ⟨oc, od, n8, n9, n10, n11, n12, n13, n14, osl, rfl, q, k1, He.dflB_ok k3, He.kwdB_ok k4⟩, kp⟩
    | _ => cases c2
/-- the getter behind a property -/
def getAd (K : PySem.W.Frag) (C f : Str) : Addr := match PySem.W.findIn K (.ref (He.ga K C)) f with
  | some (some (.ref p)) => (match PySem.W.recIn K p "property" with
    | some (.ref g :: _) => g
    | _ => 0)
  | _ => 0
def prB (K : PySem.W.Frag) (C f : Str) : Bool := match PySem.W.findIn K (.ref (He.ga K C)) f with
  | some (some (.ref p)) => He.eqO (PySem.W.specialIn K (.ref p) "__get__") (some (some (.builtin "property.__get__"))) && (decide (PySem.W.takesIn K (.ref p) = some true) && (match PySem.W.recIn K p "property" with
    | some (.ref _ :: _) => true
    | _ => false))
  | _ => false
def isB (K : PySem.W.Frag) (C : Str) : Bool := He.eqO (PySem.W.findIn K (.ref (He.ga K C)) "__class__") (some (some (.builtin "object.__class__"))) && (He.eqO (PySem.W.specialIn K (.builtin "object.__class__") "__get__") (some (some (.builtin "getset_descriptor.__get__"))) &&
  (decide (PySem.W.takesIn K (.builtin "object.__class__") = some true) && decide (PySem.W.mroIn K (He.ga K C) (.type "object") = some true)))
theorem prB_ok {K : PySem.W.Frag} {C f : Str} (h : prB K C f = true) : ∃ p, PropOf K (He.ga K C) f p (getAd K C f) := by
  unfold prB at h
  unfold getAd
  cases e : PySem.W.findIn K (.ref (He.ga K C)) f with
  | none => rw [e] at h; cases h
  | some r =>
    rw [e] at h
    cases r with
    | none => cases h
    | some v =>
      cases v with
      | ref p =>
        obtain ⟨h1, h2⟩ := He.ba h
        obtain ⟨h3, h4⟩ := He.ba h2
        refine ⟨p, e, He.eqO_ok h1, of_decide_eq_true h3, ?_⟩
        cases e2 : PySem.W.recIn K p "property" with
        | none => rw [e2] at h4; cases h4
        | some l =>
          rw [e2] at h4
          cases l with
          | nil => cases h4
          | cons u r =>
            cases u with
            | ref g => exact ⟨r, by dsimp only; rw [e2]⟩
            | _ => cases h4
      | _ => cases h
/-! ### the facts, by lists -/

def dgs0 : List DG := [⟨fun K => He.ga K "is_integer", "is_integer", "is_integer", top 28⟩, ⟨fun K => He.ga K "is_between", "is_between", "is_between", top 29⟩, ⟨fun K => He.ga K "check_number", "check_number", "check_number", top 30⟩, ⟨fun K => He.ga K "is_name", "is_name", "is_name", top 31⟩, ⟨fun K => He.ga K "common_divisor", "common_divisor", "common_divisor", top 33⟩, ⟨fun K => He.ga K "common_multiple", "common_multiple", "common_multiple", top 34⟩, ⟨fun K => He.ga K "fraction", "fraction", "fraction", top 35⟩, ⟨fun K => He.ga K "times", "times", "times", top 36⟩, ⟨fun K => He.ga K "less", "less", "less", top 37⟩, ⟨fun K => He.ga K "is_step", "is_step", "is_step", top 42⟩, ⟨fun K => He.ga K "wrong_step", "wrong_step", "wrong_step", top 43⟩, ⟨fun K => He.ga K "is_row_of_steps", "is_row_of_steps", "is_row_of_steps", top 44⟩, ⟨fun K => He.ga K "rounded", "rounded", "rounded", top 45⟩, ⟨fun K => He.ga K "led", "led", "led", top 46⟩, ⟨fun K => He.ga K "rate_of", "rate_of", "rate_of", top 47⟩, ⟨fun K => He.ga K "period_of", "period_of", "period_of", top 48⟩, ⟨fun K => He.ga K "text_of_step", "text_of_step", "text_of_step", top 49⟩, ⟨fun K => He.ga K "text_of_steps", "text_of_steps", "text_of_steps", top 50⟩, ⟨fun K => He.ga K "is_kind", "is_kind", "is_kind", top 56⟩, ⟨fun K => He.ga K "check_kinds", "check_kinds", "check_kinds", top 57⟩, ⟨fun K => He.ga K "check_groups", "check_groups", "check_groups", top 58⟩, ⟨fun K => He.ga K "check_places", "check_places", "check_places", top 59⟩, ⟨fun K => He.ga K "check_whole", "check_whole", "check_whole", top 60⟩, ⟨fun K => He.ga K "text_of", "text_of", "text_of", top 61⟩, ⟨fun K => He.ga K "is_line", "is_line", "is_line", top 64⟩, ⟨fun K => He.ga K "check_bill", "check_bill", "check_bill", top 65⟩, ⟨fun K => He.ga K "check_book", "check_book", "check_book", top 67⟩, ⟨fun K => He.ga K "check_two", "check_two", "check_two", top 68⟩, ⟨fun K => He.ga K "check_fit", "check_fit", "check_fit", top 69⟩, ⟨fun K => He.ga K "check_integers", "check_integers", "check_integers", top 71⟩]
def dgs1 : List DG := [⟨fun K => He.ga K "goes_on", "goes_on", "goes_on", top 72⟩, ⟨fun K => He.ga K "sides_of", "sides_of", "sides_of", top 75⟩, ⟨fun K => He.ga K "first_greater", "first_greater", "first_greater", top 76⟩, ⟨fun K => He.ga K "check_rates", "check_rates", "check_rates", top 77⟩, ⟨fun K => He.ga K "amounts_of", "amounts_of", "amounts_of", top 78⟩, ⟨fun K => He.ga K "check_size", "check_size", "check_size", top 79⟩, ⟨fun K => He.ga K "one_more", "one_more", "one_more", top 81⟩, ⟨fun K => He.ga K "greatest_gap", "greatest_gap", "greatest_gap", top 82⟩, ⟨fun K => He.ga K "check_greatest", "check_greatest", "check_greatest", top 84⟩, ⟨fun K => He.ga K "row_of", "row_of", "row_of", top 85⟩, ⟨fun K => He.ga K "is_led_on", "is_led_on", "is_led_on", top 86⟩, ⟨fun K => He.ga K "greatest", "greatest", "greatest", top 87⟩, ⟨fun K => He.ga K "turned", "turned", "turned", top 88⟩, ⟨fun K => He.ga K "least", "least", "least", top 89⟩, ⟨fun K => He.ga K "_law_cell", "_law_cell", "_law_cell", top 91⟩, ⟨fun K => He.ga K "_law_jar", "_law_jar", "_law_jar", top 92⟩, ⟨fun K => He.ga K "_law_dig", "_law_dig", "_law_dig", top 93⟩, ⟨fun K => He.ga K "_law_take", "_law_take", "_law_take", top 94⟩, ⟨fun K => He.ga K "_law_common", "_law_common", "_law_common", top 95⟩, ⟨fun K => He.ga K "_law_span", "_law_span", "_law_span", top 96⟩, ⟨fun K => He.ga K "_law_fit", "_law_fit", "_law_fit", top 97⟩, ⟨fun K => He.ga K "_law_many", "_law_many", "_law_many", top 98⟩, ⟨fun K => He.ga K "_law_way", "_law_way", "_law_way", top 99⟩, ⟨fun K => He.ga K "_law_factor", "_law_factor", "_law_factor", top 100⟩, ⟨fun K => He.ga K "_law_step", "_law_step", "_law_step", top 101⟩, ⟨fun K => He.ga K "_law_extra", "_law_extra", "_law_extra", top 102⟩, ⟨fun K => He.ga K "_law_laid", "_law_laid", "_law_laid", top 103⟩, ⟨fun K => He.ga K "_law_pair", "_law_pair", "_law_pair", top 104⟩, ⟨fun K => He.ga K "_law_books", "_law_books", "_law_books", top 105⟩, ⟨fun K => He.ga K "_law_right", "_law_right", "_law_right", top 106⟩]
def dgs2 : List DG := [⟨fun K => He.ga K "law", "law", "law", top 107⟩, ⟨fun K => He.ma K (He.ga K "Book") "__init__", "__init__", "Book.__init__", mth 66 0⟩, ⟨fun K => He.ma K (He.ga K "Book") "kind_at", "kind_at", "Book.kind_at", mth 66 6⟩, ⟨fun K => He.ma K (He.ga K "Book") "rate", "rate", "Book.rate", mth 66 7⟩, ⟨fun K => He.ma K (He.ga K "Book") "share", "share", "Book.share", mth 66 8⟩, ⟨fun K => He.ma K (He.ga K "Book") "period", "period", "Book.period", mth 66 9⟩, ⟨fun K => He.ma K (He.ga K "Book") "periods", "periods", "Book.periods", mth 66 10⟩, ⟨fun K => He.ma K (He.ga K "Book") "size", "size", "Book.size", mth 66 11⟩, ⟨fun K => He.ma K (He.ga K "Book") "value", "value", "Book.value", mth 66 12⟩, ⟨fun K => He.ma K (He.ga K "Book") "sums", "sums", "Book.sums", mth 66 13⟩, ⟨fun K => He.ma K (He.ga K "Book") "ask_of_sums", "ask_of_sums", "Book.ask_of_sums", mth 66 15⟩, ⟨fun K => He.ma K (He.ga K "Row") "__init__", "__init__", "Row.__init__", mth 73 0⟩, ⟨fun K => He.ma K (He.ga K "Row") "at", "at", "Row.at", mth 73 5⟩, ⟨fun K => He.ma K (He.ga K "States") "__init__", "__init__", "States.__init__", mth 80 0⟩, ⟨fun K => He.ma K (He.ga K "States") "empty", "empty", "States.empty", mth 80 1⟩, ⟨fun K => He.ma K (He.ga K "States") "move", "move", "States.move", mth 80 2⟩, ⟨fun K => He.ma K (He.ga K "States") "weight", "weight", "States.weight", mth 80 3⟩, ⟨fun K => He.ma K (He.ga K "States") "reduced", "reduced", "States.reduced", mth 80 4⟩, ⟨fun K => He.ma K (He.ga K "States") "added", "added", "States.added", mth 80 5⟩, ⟨fun K => He.ma K (He.ga K "States") "gap", "gap", "States.gap", mth 80 6⟩, ⟨fun K => He.ma K (He.ga K "States") "base", "base", "States.base", mth 80 7⟩, ⟨fun K => He.ma K (He.ga K "States") "share_of_group", "share_of_group", "States.share_of_group", mth 80 8⟩, ⟨fun K => He.ma K (He.ga K "States") "lines", "lines", "States.lines", mth 80 9⟩, ⟨fun K => He.ma K (He.ga K "States") "best_lines", "best_lines", "States.best_lines", mth 80 10⟩, ⟨fun K => He.ma K (He.ga K "States") "order", "order", "States.order", mth 80 11⟩, ⟨fun K => getAd K "Book" "kinds", "kinds", "Book.kinds", mth 66 2⟩, ⟨fun K => getAd K "Book" "groups", "groups", "Book.groups", mth 66 3⟩, ⟨fun K => getAd K "Book" "names", "names", "Book.names", mth 66 5⟩, ⟨fun K => getAd K "Row" "early", "early", "Row.early", mth 73 1⟩, ⟨fun K => getAd K "Row" "again", "again", "Row.again", mth 73 2⟩]
def dgs3 : List DG := [⟨fun K => getAd K "Row" "rise", "rise", "Row.rise", mth 73 3⟩]
def dgs : List DG := dgs0 ++ (dgs1 ++ (dgs2 ++ (dgs3)))
def fas0 : List He.Fa := [.glo "is_integer", .glo "is_between", .glo "check_number", .glo "is_name", .glo "common_divisor", .glo "common_multiple", .glo "fraction", .glo "times", .glo "less", .glo "is_step", .glo "wrong_step", .glo "is_row_of_steps", .glo "rounded", .glo "led", .glo "rate_of", .glo "period_of", .glo "text_of_step", .glo "text_of_steps", .glo "is_kind", .glo "check_kinds", .glo "check_groups", .glo "check_places", .glo "check_whole", .glo "text_of", .glo "is_line", .glo "check_bill", .glo "check_book", .glo "check_two", .glo "check_fit", .glo "check_integers"]
def fas1 : List He.Fa := [.glo "goes_on", .glo "sides_of", .glo "first_greater", .glo "check_rates", .glo "amounts_of", .glo "check_size", .glo "one_more", .glo "greatest_gap", .glo "check_greatest", .glo "row_of", .glo "is_led_on", .glo "greatest", .glo "turned", .glo "least", .glo "_law_cell", .glo "_law_jar", .glo "_law_dig", .glo "_law_take", .glo "_law_common", .glo "_law_span", .glo "_law_fit", .glo "_law_many", .glo "_law_way", .glo "_law_factor", .glo "_law_step", .glo "_law_extra", .glo "_law_laid", .glo "_law_pair", .glo "_law_books", .glo "_law_right"]
def fas2 : List He.Fa := [.glo "law", .free "len", .free "isinstance", .free "int", .free "bool", .free "str", .free "tuple", .free "all", .free "abs", .free "divmod", .free "enumerate", .free "zip", .free "sum", .free "max", .free "min", .free "range", .free "list", .int "MOST_KINDS" 4, .int "MOST_GROUPS" 3, .int "MOST_STEPS" 2, .int "MOST_FACTOR" 200, .int "MOST_UNIT" 60, .int "MOST_PLUS" 9999, .int "MOST_STATES" 200, .int "MOST_AMOUNTS" 400, .int "LONGEST_NAME" 8, .int "TIMES_SIZE" 5, .int "PLUS_SIZE" 2, .int "KIND_SIZE" 3, .str "DIGITS" "0123456789"]
def fas3 : List He.Fa := [.str "LETTERS" "abcdefghijklmnopqrstuvwxyz", .glo "WAYS", .glo "Book", .cls "Book", .mkr "Book", .noat "Book" "sorts", .noat "Book" "heaps", .noat "Book" "last", .noat "Book" "words", .glo "Row", .cls "Row", .mkr "Row", .noat "Row" "head", .noat "Row" "cycle", .noat "Row" "step", .glo "States", .cls "States", .mkr "States", .noat "States" "sides", .noat "States" "spans", .noat "States" "bottom", .meth "Book" "kind_at", .meth "Book" "rate", .meth "Book" "share", .meth "Book" "period", .meth "Book" "periods", .meth "Book" "size", .meth "Book" "value", .meth "Book" "sums", .meth "Book" "ask_of_sums"]
def fas4 : List He.Fa := [.meth "Row" "at", .meth "States" "empty", .meth "States" "move", .meth "States" "weight", .meth "States" "reduced", .meth "States" "added", .meth "States" "gap", .meth "States" "base", .meth "States" "share_of_group", .meth "States" "lines", .meth "States" "best_lines", .meth "States" "order"]
def fas : List He.Fa := fas0 ++ (fas1 ++ (fas2 ++ (fas3 ++ (fas4))))
def prs : List (Str × Str) := [("Book", "kinds"), ("Book", "groups"), ("Book", "names"), ("Row", "early"), ("Row", "again"), ("Row", "rise")]
def ways : List Str := ["down", "up", "near down", "near up", "near even"]
def asL0 : List Addr := [3, 268, 269, 275, 276, 282, 283, 287, 288, 292, 293, 299, 300, 306, 307, 313, 314, 320, 321, 327, 328, 329, 335, 336, 342, 343, 349, 350, 356, 357, 363, 364, 370, 371, 377, 378, 384, 385, 389, 390, 396, 397, 401, 402, 408, 409, 415, 416, 422, 423, 429, 430, 436, 437, 441, 442, 448, 449, 455, 456]
def asL1 : List Addr := [462, 463, 469, 470, 481, 482, 483, 484, 487, 488, 489, 490, 491, 497, 498, 499, 500, 505, 506, 507, 508, 513, 514, 515, 516, 519, 520, 521, 522, 526, 527, 528, 529, 533, 534, 535, 536, 540, 541, 542, 543, 547, 548, 549, 550, 552, 553, 554, 555, 559, 560, 561, 562, 566, 567, 568, 569, 573, 574, 575]
def asL2 : List Addr := [576, 580, 581, 582, 583, 585, 586, 587, 588, 592, 593, 594, 595, 599, 600, 601, 602, 606, 607, 608, 609, 610, 611, 612, 613, 614, 622, 623, 629, 630, 636, 637, 641, 642, 646, 647, 656, 657, 658, 659, 664, 665, 666, 667, 672, 673, 674, 675, 680, 681, 682, 683, 688, 689, 690, 691, 695, 696, 697, 698]
def asL3 : List Addr := [702, 703, 704, 705, 709, 710, 711, 712, 716, 717, 718, 719, 720, 721, 722, 723, 724, 732, 733, 739, 740, 746, 747, 753, 754, 760, 761, 772, 773, 774, 775, 779, 780, 781, 782, 786, 787, 788, 789, 793, 794, 795, 796, 798, 799, 800, 801, 803, 804, 805, 806, 810, 811, 812, 813, 815, 816, 817, 818, 822]
def asL4 : List Addr := [823, 824, 825, 827, 828, 829, 830, 834, 835, 836, 837, 841, 842, 843, 844, 845, 846, 847, 848, 849, 857, 858, 862, 863, 869, 870, 874, 875, 879, 880, 886, 887, 891, 892, 898, 899, 905, 906, 912, 913, 919, 920, 926, 927, 933, 934, 940, 941, 945, 946, 950, 951, 957, 958, 964, 965, 971, 972, 978, 979]
def asL5 : List Addr := [983, 984, 988, 989, 993, 994, 998, 999, 1003, 1004]
def asL : List Addr := asL0 ++ (asL1 ++ (asL2 ++ (asL3 ++ (asL4 ++ (asL5)))))
abbrev AlG : Type := Bool × List He.FnW
def sees (K : PySem.W.Frag) : AlG := (((fas.all fun f => f.ok K) && (prs.all fun q => prB K q.1 q.2)) && ((He.tupB K "WAYS" (ways.map He.Dv.str) && isB K "Book") && (dgs.all fun d => d.good K)), dgs.map fun d => fnSeen K (d.pl K))
def wants : AlG := (true, dgs.map DG.want)
/-- what the walk leans on -/
def Says (K : PySem.W.Frag) : Prop := sees K = wants
def hk : PySem.W.Hook where
  α := AlG
  obs := fun s => sees (He.frG s.heap.get? asL)
  val := fun _ => wants
  says := fun _ h => ∃ K : PySem.W.Frag, K.In h ∧ Says K
  of := fun _ _ e => ⟨_, He.frG_in, e⟩
  keeps := fun _ _ _ ⟨K, hK, c⟩ k => ⟨K, PySem.W.Frag.In.keeps hK k, c⟩
section
variable {K : PySem.W.Frag}
theorem Says.bits (c : Says K) : ((fas.all fun f => f.ok K) && (prs.all fun q => prB K q.1 q.2)) = true ∧ ((He.tupB K "WAYS" (ways.map He.Dv.str) && isB K "Book") && (dgs.all fun d => d.good K)) = true := He.ba (congrArg (fun z : AlG => z.1) c)
theorem Says.fa (c : Says K) (i : Nat) {f : He.Fa} (h : fas[i]? = some f) : f.ok K = true := List.all_eq_true.mp (He.ba c.bits.1).1 f (List.mem_of_getElem? h)
theorem Says.pr (c : Says K) (i : Nat) {q : Str × Str} (h : prs[i]? = some q) : prB K q.1 q.2 = true := List.all_eq_true.mp (He.ba c.bits.1).2 q (List.mem_of_getElem? h)
theorem Says.ways (c : Says K) : He.tupB K "WAYS" (ways.map He.Dv.str) = true := (He.ba (He.ba c.bits.2).1).1
theorem Says.book (c : Says K) : isB K "Book" = true := (He.ba (He.ba c.bits.2).1).2
theorem Says.dg (c : Says K) (i : Nat) {d : DG} (h : dgs[i]? = some d) : ∃ fd, FD K d.nm d.ql d.st (d.pl K) fd := by
  have e : dgs.map (fun d => fnSeen K (d.pl K)) = dgs.map DG.want := congrArg (fun z : AlG => z.2) c
  have e2 : (dgs.map fun d => fnSeen K (d.pl K))[i]? = (dgs.map DG.want)[i]? := by rw [e]
  rw [List.getElem?_map, List.getElem?_map, h] at e2
  exact DG.is (Option.some.inj e2) (List.all_eq_true.mp (He.ba c.bits.2).2 d (List.mem_of_getElem? h))
end
end LC
end
section
set_option Elab.async false
set_option linter.all false
set_option maxRecDepth 100000
set_option maxHeartbeats 0
namespace LC
open PySem PySem.Spec PyProof.Rows L2
abbrev R : PySem.W.OpenRow := PySem.W.OpenLaw.row PySem.Challenge.rw_linecents_k38_whole_charges_shift_rows
def ob (s : PySem.W.SharedT) : AlG := sees (He.frG (HandSHeadRun.getT s) asL)
theorem ob_eq (s : PySem.W.SharedT) : ob s = hk.obs s.abs := by
  have e : HandSHeadRun.getT s = s.abs.heap.get? := funext (HandSHeadRun.getT_eq s)
  show sees (He.frG (HandSHeadRun.getT s) asL) = sees (He.frG s.abs.heap.get? asL)
  rw [e]
def names0 : List PySem.Str := ["_wall", "WrongValue", "InvalidNumber", "InvalidText", "NotABook", "InvalidKinds", "InvalidGroups", "InvalidWhole", "InvalidBill", "WrongName", "UnknownName", "NoAnswer", "Unlike", "Endless", "TooMany", "MOST_KINDS", "MOST_GROUPS", "MOST_STEPS", "MOST_FACTOR", "MOST_UNIT", "MOST_PLUS", "MOST_STATES", "MOST_AMOUNTS", "DIGITS", "LETTERS", "LONGEST_NAME", "is_integer", "is_between", "check_number", "is_name"]
def names1 : List PySem.Str := ["number_of", "common_divisor", "common_multiple", "fraction", "times", "less", "WAYS", "TIMES_SIZE", "PLUS_SIZE", "is_step", "wrong_step", "is_row_of_steps", "rounded", "led", "rate_of", "period_of", "text_of_step", "text_of_steps", "step_of_text", "steps_of_text", "KIND_SIZE", "KIND_WORDS", "is_kind", "check_kinds", "check_groups", "check_places", "check_whole", "text_of", "parts_of_row", "kind_of_parts"]
def names2 : List PySem.Str := ["is_line", "check_bill", "Book", "check_book", "check_two", "check_fit", "check_integers", "goes_on", "Row", "sides_of", "first_greater", "check_rates", "amounts_of", "check_size", "States", "one_more", "greatest_gap", "check_greatest", "row_of", "is_led_on", "greatest", "turned", "least", "_law_cell", "_law_jar", "_law_dig", "_law_take", "_law_common", "_law_span", "_law_fit"]
def names3 : List PySem.Str := ["_law_many", "_law_way", "_law_factor", "_law_step", "_law_extra", "_law_laid", "_law_pair", "_law_books", "_law_right"]
def names : List PySem.Str := names0 ++ (names1 ++ (names2 ++ (names3)))
theorem run (w : World) : HandSHeadRun.RunEq R (PySem.W.view R.prog [107]) hk ob 9000 names w := by
  intro os
  kernel_rfl
end LC
end
section
set_option Elab.async false
set_option linter.all false
set_option maxRecDepth 100000
set_option maxHeartbeats 0
namespace LC
open PySem PySem.Spec PyProof.Rows L2
/-- the law's promise -/
def spLawM (K : PySem.W.Frag) : Sp := fun vs H Q _ => ∃ (a : Addr) (ns : List Int), vs = [.ref a] ∧ SqL K H a (ns.map V.int) ∧ ns.length ≤ 63 ∧ ∀ H', Q (.bl true) H'
/-- all that is left to the walk -/
def Left (P : Program) : Prop := ∀ (w : World) (K : PySem.W.Frag) (mg : Str → Option Value) (h : Heap), K.In h → h.Ns mainGlobals mg → Says K →
  ∃ (k : Nat) (fd : FuncData), k ≤ 60 ∧ (∀ (s : Shared) (v : Value), BindsTo s fd ⟨[v], []⟩ [("_law_cells", v)]) ∧ ∀ base : Heap, K.In base → base.Ns mainGlobals mg → FnOk P w K mg base CX0 k (He.ga K "law") fd ["_law_cells"] (spLawM K)
end LC
open PySem PySem.W PySem.Calls PyProof.Rows
theorem fin_of (F : LC.Left PySem.Challenge.rw_linecents_k38_whole_charges_shift_rows.prog) : PySem.Challenge.rw_linecents_k38_whole_charges_shift_rows.Holds := by
  w_on; o_law
  refine HandSHeadRun.head_any (r := OpenLaw.row PySem.Challenge.rw_linecents_k38_whole_charges_shift_rows) (q := view (OpenLaw.row PySem.Challenge.rw_linecents_k38_whole_charges_shift_rows).prog [107]) (H := LC.hk) (ob := LC.ob) (M := 9000) (loose := LC.names) (d := HandSHeadRun.topDef (OpenLaw.row PySem.Challenge.rw_linecents_k38_whole_charges_shift_rows).prog 107) (kwd := []) LC.ob_eq
    (by kernel_rfl) (fun s => by kernel_rfl) LC.run (by kernel_rfl) (by kernel_rfl) (by kernel_rfl) (by rfl) (by first | assumption | decide +kernel) (by decide +kernel) ⟨rfl, rfl, rfl, rfl, rfl, by decide +kernel⟩ ?hw ?hc
  case hw => w_witness2
  case hc =>
    refine L2.walk_ofE (l := PySem.Challenge.rw_linecents_k38_whole_charges_shift_rows) (n := 63) (k := 60) (x := "_law_cells") (CX := L2.CX0) rfl (by decide) (by kernel_rfl) ⟨rfl, by decide, by decide⟩ ?F (fun _ _ _ _ z => z)
    intro w mg fa h Y G hmg0
    obtain ⟨K, KX, c⟩ := Y
    have hmg : mg ("law" : PySem.Str) = some (.ref fa) := by
      have e : (HandSHeadRun.topDef (OpenLaw.row PySem.Challenge.rw_linecents_k38_whole_charges_shift_rows).prog 107).name = ("law" : PySem.Str) := by kernel_rfl
      rw [← e]
      exact hmg0
    obtain ⟨k, fd, hk, hb, hF⟩ := F w K mg h KX G c
    have e := hmg.symm.trans (He.glo_ok KX G (c.fa 60 (f := .glo "law") rfl))
    cases e
    exact ⟨K, fd, LC.spLawM K, KX, hb, fun H a ns hl _ hS => ⟨a, ns, rfl, hS, hl, fun _ => rfl⟩, fun base h1 h2 => (hF base h1 h2).mono hk⟩
#print axioms fin_of
end
section
set_option Elab.async false
set_option linter.all false
set_option maxRecDepth 100000
set_option maxHeartbeats 1000000
/-! Data as it stands in the heap, evaluation of readings over data. -/
namespace LC
open PySem PySem.Spec L2
/-! ### data -/
inductive D where
  | non | bl (b : Bool) | int (i : Int) | str (s : Str) | ref (a : Addr) | lst (l : List D) | tup (l : List D)
mutual
def Rep (K : PySem.W.Frag) (H : Hp) : D → V → Prop
  | .non, v => v = .non
  | .bl b, v => v = .bl b
  | .int i, v => v = .int i
  | .str s, v => v = .str s
  | .ref a, v => v = .ref a
  | .lst l, v => ∃ a xs, v = .ref a ∧ SqL K H a xs ∧ RepAll K H l xs
  | .tup l, v => ∃ a xs, v = .ref a ∧ H a = some (.tup xs) ∧ RepAll K H l xs
def RepAll (K : PySem.W.Frag) (H : Hp) : List D → List V → Prop
  | [], vs => vs = []
  | d :: l, vs => ∃ v r, vs = v :: r ∧ Rep K H d v ∧ RepAll K H l r
end
section
variable {K : PySem.W.Frag} {H H' : Hp}
theorem same_rd {a : Addr} {u : HO} (e : Same H H') (h : Rd H a u) : Rd H' a u := by
  rcases h with h | ⟨o, h⟩
  · exact .inl (e _ _ h)
  · exact .inr ⟨o, e _ _ h⟩
theorem same_sqL {a : Addr} {xs : List V} (e : Same H H') (h : SqL K H a xs) : SqL K H' a xs := by
  rcases h with h | h
  · exact .inl (same_rd e h)
  · exact .inr h
theorem same_sqT {a : Addr} {xs : List V} (e : Same H H') (h : SqT K H a xs) : SqT K H' a xs := by
  rcases h with h | h
  · exact .inl (same_rd e h)
  · exact .inr h
mutual
theorem Rep.same (e : Same H H') : ∀ {d : D} {v : V}, Rep K H d v → Rep K H' d v
  | .non, _, h => h
  | .bl _, _, h => h
  | .int _, _, h => h
  | .str _, _, h => h
  | .ref _, _, h => h
  | .lst _, _, ⟨a, xs, h1, h2, h3⟩ => ⟨a, xs, h1, same_sqL e h2, RepAll.same e h3⟩
  | .tup _, _, ⟨a, xs, h1, h2, h3⟩ => ⟨a, xs, h1, e _ _ h2, RepAll.same e h3⟩
theorem RepAll.same (e : Same H H') : ∀ {l : List D} {vs : List V}, RepAll K H l vs → RepAll K H' l vs
  | [], _, h => h
  | _ :: _, _, ⟨v, r, h1, h2, h3⟩ => ⟨v, r, h1, Rep.same e h2, RepAll.same e h3⟩
end
theorem RepAll.length : ∀ {l : List D} {vs : List V}, RepAll K H l vs → vs.length = l.length
  | [], _, h => by rw [show _ = [] from h]; rfl
  | _ :: _, _, ⟨v, r, h1, _, h3⟩ => by rw [h1, List.length_cons, List.length_cons, RepAll.length h3]
theorem RepAll.get : ∀ {l : List D} {vs : List V} {i : Nat} {d : D}, RepAll K H l vs → l[i]? = some d → ∃ v, vs[i]? = some v ∧ Rep K H d v
  | [], _, _, _, _, e => by simp at e
  | _ :: _, _, 0, _, ⟨v, r, h1, h2, _⟩, e => by
    simp at e; subst e; exact ⟨v, by rw [h1]; rfl, h2⟩
  | _ :: _, _, i + 1, d, ⟨v, r, h1, _, h3⟩, e => by
    obtain ⟨u, g1, g2⟩ := RepAll.get (i := i) (d := d) h3 (by simpa using e)
    exact ⟨u, by rw [h1]; simpa using g1, g2⟩
theorem RepAll.getV : ∀ {l : List D} {vs : List V} {i : Nat} {v : V}, RepAll K H l vs → vs[i]? = some v → ∃ d, l[i]? = some d ∧ Rep K H d v
  | [], vs, _, _, h, e => by
    have h : vs = [] := h
    rw [h] at e; simp at e
  | d :: _, _, 0, _, ⟨v, r, h1, h2, _⟩, e => by
    rw [h1] at e; simp at e; subst e; exact ⟨d, rfl, h2⟩
  | _ :: _, _, i + 1, _, ⟨v, r, h1, _, h3⟩, e => by
    rw [h1] at e
    obtain ⟨u, g1, g2⟩ := RepAll.getV (i := i) h3 (by simpa using e)
    exact ⟨u, by simpa using g1, g2⟩
theorem RepAll.append : ∀ {l m : List D} {vs ws : List V}, RepAll K H l vs → RepAll K H m ws → RepAll K H (l ++ m) (vs ++ ws)
  | [], _, vs, _, h, g => by
    have h : vs = [] := h
    rw [h]; exact g
  | _ :: _, _, _, _, ⟨v, r, h1, h2, h3⟩, g => ⟨v, r ++ _, by rw [h1]; rfl, h2, RepAll.append h3 g⟩
theorem RepAll.take : ∀ (n : Nat) {l : List D} {vs : List V}, RepAll K H l vs → RepAll K H (l.take n) (vs.take n)
  | 0, l, vs, _ => by show RepAll K H (l.take 0) _; rw [List.take_zero, List.take_zero]; exact rfl
  | n + 1, [], vs, h => by
    have h : vs = [] := h
    rw [h]; exact rfl
  | n + 1, _ :: _, _, ⟨v, r, h1, h2, h3⟩ => ⟨v, r.take n, by rw [h1]; rfl, h2, RepAll.take n h3⟩
theorem RepAll.drop : ∀ (n : Nat) {l : List D} {vs : List V}, RepAll K H l vs → RepAll K H (l.drop n) (vs.drop n)
  | 0, _, _, h => h
  | n + 1, [], vs, h => by
    have h : vs = [] := h
    rw [h]; exact rfl
  | n + 1, _ :: _, _, ⟨v, r, h1, _, h3⟩ => by rw [h1]; exact RepAll.drop n h3
theorem RepAll.one {d : D} {v : V} (h : Rep K H d v) : RepAll K H [d] [v] := ⟨v, [], rfl, h, rfl⟩
theorem RepAll.ints : ∀ (ns : List Int), RepAll K H (ns.map D.int) (ns.map V.int)
  | [] => rfl
  | n :: ns => ⟨.int n, ns.map V.int, rfl, rfl, RepAll.ints ns⟩
theorem RepAll.ints_eq : ∀ {ns : List Int} {vs : List V}, RepAll K H (ns.map D.int) vs → vs = ns.map V.int
  | [], _, h => h
  | n :: ns, _, ⟨v, r, h1, h2, h3⟩ => by
    have h2 : v = .int n := h2
    rw [h1, h2, RepAll.ints_eq h3]; rfl
theorem RepAll.bls_eq : ∀ {ns : List Bool} {vs : List V}, RepAll K H (ns.map D.bl) vs → vs = ns.map V.bl
  | [], _, h => h
  | n :: ns, _, ⟨v, r, h1, h2, h3⟩ => by
    have h2 : v = .bl n := h2
    rw [h1, h2, RepAll.bls_eq h3]; rfl
theorem RepAll.strs_eq : ∀ {ns : List Str} {vs : List V}, RepAll K H (ns.map D.str) vs → vs = ns.map V.str
  | [], _, h => h
  | n :: ns, _, ⟨v, r, h1, h2, h3⟩ => by
    have h2 : v = .str n := h2
    rw [h1, h2, RepAll.strs_eq h3]; rfl
theorem Rep.tupOf {a : Addr} {xs : List V} {l : List D} (h : H a = some (.tup xs)) (g : RepAll K H l xs) : Rep K H (.tup l) (.ref a) := ⟨a, xs, rfl, h, g⟩
theorem Rep.lstOf {a : Addr} {xs : List V} {l : List D} (h : SqL K H a xs) (g : RepAll K H l xs) : Rep K H (.lst l) (.ref a) := ⟨a, xs, rfl, h, g⟩
end
/-! ### as the layer's own data (no references) -/
mutual
def D.py : D → PyData
  | .non => .none
  | .bl b => .bool b
  | .int i => .int i
  | .str s => .str s
  | .ref _ => .none
  | .lst l => .list (D.pys l)
  | .tup l => .tuple (D.pys l)
def D.pys : List D → List PyData
  | [] => []
  | d :: l => d.py :: D.pys l
end
mutual
def D.plain : D → Bool
  | .ref _ => false
  | .lst l => D.plains l
  | .tup l => D.plains l
  | _ => true
def D.plains : List D → Bool
  | [] => true
  | d :: l => d.plain && D.plains l
end
section
variable {K : PySem.W.Frag} {H : Hp}
mutual
theorem Rep.dp : ∀ {d : D} {v : V}, d.plain = true → Rep K H d v → Dp K H v d.py
  | .non, v, _, h => by have h : v = .non := h; rw [h]; exact .non
  | .bl b, v, _, h => by have h : v = .bl b := h; rw [h]; exact .bl b
  | .int i, v, _, h => by have h : v = .int i := h; rw [h]; exact .int i
  | .str i, v, _, h => by have h : v = .str i := h; rw [h]; exact .str i
  | .ref _, _, z, _ => by cases z
  | .lst l, _, z, ⟨a, xs, h1, h2, h3⟩ => by rw [h1]; exact .lst h2 (RepAll.dp z h3)
  | .tup l, _, z, ⟨a, xs, h1, h2, h3⟩ => by rw [h1]; exact .tup (SqT.of h2) (RepAll.dp z h3)
theorem RepAll.dp : ∀ {l : List D} {vs : List V}, D.plains l = true → RepAll K H l vs → DpAll K H vs (D.pys l)
  | [], vs, _, h => by have h : vs = [] := h; rw [h]; exact .nil
  | d :: l, _, z, ⟨v, r, h1, h2, h3⟩ => by
    rw [h1]
    obtain ⟨z1, z2⟩ := Bool.and_eq_true_iff.mp (show (d.plain && D.plains l) = true from z)
    exact .cons (Rep.dp z1 h2) (RepAll.dp z2 h3)
end
end
end LC
end
section
set_option Elab.async false
set_option linter.all false
set_option maxRecDepth 100000
set_option maxHeartbeats 1000000
/-! Evaluation: a reading, asked at any heap behind H, comes to a value of which P holds, and only adds to the heap. -/
namespace LC
open PySem PySem.Spec L2
abbrev PV := V → Hp → Prop
def Ev (t : TE) (σ : St) (H : Hp) (P : PV) : Prop := ∀ H1, Same H H1 → ∀ Q : VK, (∀ v H2, Same H1 H2 → P v H2 → Q v H2) → t σ H1 Q
def ET (t : TT) (σ : St) (H : Hp) (b : Bool) : Prop := ∀ H1, Same H H1 → ∀ Q : Bool → Hp → Prop, (∀ H2, Same H1 H2 → Q b H2) → t σ H1 Q
def EA (t : TA) (σ : St) (H : Hp) (R : List V → Hp → Prop) : Prop := ∀ H1, Same H H1 → ∀ Q : List V → Hp → Prop, (∀ vs H2, Same H1 H2 → R vs H2 → Q vs H2) → t σ H1 Q
/-- a value | data | a new list of data, younger than H -/
abbrev Is (v : V) : PV := fun u _ => u = v
abbrev Dt (K : PySem.W.Frag) (d : D) : PV := fun u H => Rep K H d u
abbrev NewL (K : PySem.W.Frag) (H : Hp) (l : List D) : PV := fun u H2 => ∃ p xs, u = .ref p ∧ H p = none ∧ H2 p = some (.lst xs) ∧ RepAll K H2 l xs
def Mono (P : PV) : Prop := ∀ v H H', Same H H' → P v H → P v H'
theorem mono_is {v : V} : Mono (Is v) := fun _ _ _ _ h => h
theorem mono_dt {K : PySem.W.Frag} {d : D} : Mono (Dt K d) := fun _ _ _ e h => Rep.same e h
theorem mono_new {K : PySem.W.Frag} {H : Hp} {l : List D} : Mono (NewL K H l) := fun _ _ _ e ⟨p, xs, h1, h2, h3, h4⟩ => ⟨p, xs, h1, h2, e _ _ h3, RepAll.same e h4⟩
theorem fresh_back {H H' : Hp} {p : Addr} (e : Same H H') (h : H' p = none) : H p = none := e.free h
theorem same_new {H : Hp} {p : Addr} {o : HO} (h : H p = none) : Same H (upd H p o) := fun b u e => by
  rw [upd_ne (ne_of_none e h)]; exact e
theorem same_mut {H H' : Hp} {p : Addr} {o : HO} (e : Same H H') (h : H p = none) : Same H (upd H' p o) := fun b u hb => by
  rw [upd_ne (ne_of_none hb h)]; exact e b u hb
theorem sz {n : Nat} (h : n ≤ 100000) : n ≤ sizeLine := Nat.le_trans h (by decide)
theorem szl {n : Nat} (h : n < 100000) : n < sizeLine := Nat.lt_of_lt_of_le h (by decide)
section
variable {K : PySem.W.Frag} {σ : St} {H H' : Hp} {ta tb te tc : TE} {t u : TT} {P P1 P2 : PV} {x y v : V} {i j : Int} {b c : Bool}
theorem Ev.at (e : Same H H') (h : Ev te σ H P) : Ev te σ H' P := fun H1 a Q q => h H1 (e.trans a) Q q
theorem ET.at (e : Same H H') (h : ET t σ H b) : ET t σ H' b := fun H1 a Q q => h H1 (e.trans a) Q q
theorem Ev.imp (h : Ev te σ H P) (k : ∀ v H', Same H H' → P v H' → P1 v H') : Ev te σ H P1 := fun H1 e Q q => h H1 e Q fun v H2 e2 p => q v H2 e2 (k v H2 (e.trans e2) p)
theorem Ev.is {w : V} (h : Ev te σ H (Is v)) (e : v = w) : Ev te σ H (Is w) := e ▸ h
theorem ET.is (h : ET t σ H b) (e : b = c) : ET t σ H c := e ▸ h
theorem Ev.dt {d : D} (h : Ev te σ H (Is v)) (r : Rep K H d v) : Ev te σ H (Dt K d) := h.imp fun _ _ e p => by rw [p]; exact Rep.same e r
theorem Ev.dtI (h : Ev te σ H (Is (.int i))) : Ev te σ H (Dt K (.int i)) := h
theorem ev_v {n : Nat} (h : σ[n]? = some (some v)) : Ev (tVar n) σ H (Is v) := fun H1 _ _ q => ⟨v, h, q v H1 (Same.refl H1) rfl⟩
theorem ev_d {n : Nat} {d : D} (h : σ[n]? = some (some v)) (r : Rep K H d v) : Ev (tVar n) σ H (Dt K d) := (ev_v h).dt r
theorem ev_c : Ev (tC v) σ H (Is v) := fun H1 _ _ q => q v H1 (Same.refl H1) rfl
/-- two parts, an operation by its asking -/
theorem ev_op {r : R2} (ha : Ev ta σ H P1) (hb : Ev tb σ H P2) (m : Mono P1)
    (hr : ∀ x y H1, Same H H1 → P1 x H1 → P2 y H1 → ∀ Q : VK, (∀ v H2, Same H1 H2 → P v H2 → Q v H2) → r x y H1 Q) : Ev (tOp r ta tb) σ H P := fun H1 e Q q =>
  ha H1 e _ fun x H2 e2 p1 => hb H2 (e.trans e2) _ fun y H3 e3 p2 => hr x y H3 ((e.trans e2).trans e3) (m _ _ _ e3 p1) p2 Q fun v H4 e4 p => q v H4 ((e2.trans e3).trans e4) p
theorem ev_un {r : V → Hp → VK → Prop} (ha : Ev ta σ H P1) (hr : ∀ x H1, Same H H1 → P1 x H1 → ∀ Q : VK, (∀ v H2, Same H1 H2 → P v H2 → Q v H2) → r x H1 Q) : Ev (tUn r ta) σ H P := fun H1 e Q q =>
  ha H1 e _ fun x H2 e2 p1 => hr x H2 (e.trans e2) p1 Q fun v H3 e3 p => q v H3 (e2.trans e3) p
theorem ev_I0 {g : Int → Int → V} (ha : Ev ta σ H (Is (.int i))) (hb : Ev tb σ H (Is (.int j))) : Ev (tOp (rI0 g) ta tb) σ H (Is (g i j)) :=
  ev_op ha hb mono_is fun x y H1 _ e1 e2 Q q => ⟨i, j, e1, e2, q _ H1 (Same.refl H1) rfl⟩
theorem ev_I {C : Int → Int → Prop} {g : Int → Int → V} (ha : Ev ta σ H (Is (.int i))) (hb : Ev tb σ H (Is (.int j))) (hc : C i j) : Ev (tOp (rI C g) ta tb) σ H (Is (g i j)) :=
  ev_op ha hb mono_is fun x y H1 _ e1 e2 Q q => ⟨i, j, e1, e2, hc, q _ H1 (Same.refl H1) rfl⟩
/-- a product, one factor small -/
theorem ev_mulL (ha : Ev ta σ H (Is (.int i))) (hb : Ev tb σ H (Is (.int j))) (h1 : -(2 ^ 64) < i) (h2 : i < 2 ^ 64) : Ev (tOp (rI CMul fun i j => .int (i * j)) ta tb) σ H (Is (.int (i * j))) := ev_I ha hb (.inl ⟨h1, h2⟩)
theorem ev_mulR (ha : Ev ta σ H (Is (.int i))) (hb : Ev tb σ H (Is (.int j))) (h1 : -(2 ^ 64) < j) (h2 : j < 2 ^ 64) : Ev (tOp (rI CMul fun i j => .int (i * j)) ta tb) σ H (Is (.int (i * j))) := ev_I ha hb (.inr ⟨h1, h2⟩)
theorem ev_neg (ha : Ev ta σ H (Is (.int i))) : Ev (tUn (rU fun i => .int (-i)) ta) σ H (Is (.int (-i))) := ev_un ha fun x H1 _ e Q q => ⟨i, e, q _ H1 (Same.refl H1) rfl⟩
theorem ev_eq (ha : Ev ta σ H (Is x)) (hb : Ev tb σ H (Is y)) (h : scal x y = true) : Ev (tOp rEq ta tb) σ H (Is (.bl (decide (x = y)))) :=
  ev_op ha hb mono_is fun _ _ H1 _ e1 e2 Q q => by rw [e1, e2]; exact ⟨h, q _ H1 (Same.refl H1) rfl⟩
theorem ev_ne (ha : Ev ta σ H (Is x)) (hb : Ev tb σ H (Is y)) (h : scal x y = true) : Ev (tOp rNe ta tb) σ H (Is (.bl (!decide (x = y)))) :=
  ev_op ha hb mono_is fun _ _ H1 _ e1 e2 Q q => by rw [e1, e2]; exact ⟨h, q _ H1 (Same.refl H1) rfl⟩
/-- a subscript of data -/
theorem at_nat {α : Type} {xs : List α} {z : Int} {n : Nat} {a : α} (e : z = (n : Int)) (h : xs[n]? = some a) : atI xs z = some a := at_any e h
  where at_any {α : Type} {xs : List α} {z : Int} {n : Nat} {a : α} (e : z = (n : Int)) (h : xs[n]? = some a) : atI xs z = some a := by rw [e]; exact atI_nat h
theorem ev_ixT {l : List D} {n : Nat} {d : D} (ha : Ev ta σ H (Dt K (.tup l))) (hb : Ev tb σ H (Is (.int (n : Int)))) (h : l[n]? = some d) : Ev (tOp (rIxT K) ta tb) σ H (Dt K d) :=
  ev_op ha hb mono_dt fun x y H1 _ ⟨a, xs, e1, hs, hr⟩ e2 Q q => by
    obtain ⟨v, g1, g2⟩ := hr.get h
    exact ⟨a, xs, _, v, e1, e2, SqT.of hs, atI_nat g1, q v H1 (Same.refl H1) g2⟩
theorem ev_ixL {l : List D} {n : Nat} {d : D} (ha : Ev ta σ H (Dt K (.lst l))) (hb : Ev tb σ H (Is (.int (n : Int)))) (h : l[n]? = some d) : Ev (tOp (rIxL K) ta tb) σ H (Dt K d) :=
  ev_op ha hb mono_dt fun x y H1 _ ⟨a, xs, e1, hs, hr⟩ e2 Q q => by
    obtain ⟨v, g1, g2⟩ := hr.get h
    exact ⟨a, xs, _, v, e1, e2, hs, atI_nat g1, q v H1 (Same.refl H1) g2⟩
theorem ev_lastT {l : List D} {d : D} (ha : Ev ta σ H (Dt K (.tup l))) (hb : Ev tb σ H (Is (.int (-1)))) (h : l[l.length - 1]? = some d) (h0 : 0 < l.length) : Ev (tOp (rIxT K) ta tb) σ H (Dt K d) :=
  ev_op ha hb mono_dt fun x y H1 _ ⟨a, xs, e1, hs, hr⟩ e2 Q q => by
    obtain ⟨v, g1, g2⟩ := hr.get h
    refine ⟨a, xs, _, v, e1, e2, SqT.of hs, ?_, q v H1 (Same.refl H1) g2⟩
    have hl := hr.length
    unfold atI ixN
    rw [if_neg (by decide), if_pos (by omega)]
    show xs[(-1 + (xs.length : Int)).toNat]? = _
    rw [show (-1 + (xs.length : Int)).toNat = l.length - 1 by omega]
    exact g1
theorem ev_lastL {l : List D} {d : D} (ha : Ev ta σ H (Dt K (.lst l))) (hb : Ev tb σ H (Is (.int (-1)))) (h : l[l.length - 1]? = some d) (h0 : 0 < l.length) : Ev (tOp (rIxL K) ta tb) σ H (Dt K d) :=
  ev_op ha hb mono_dt fun x y H1 _ ⟨a, xs, e1, hs, hr⟩ e2 Q q => by
    obtain ⟨v, g1, g2⟩ := hr.get h
    refine ⟨a, xs, _, v, e1, e2, hs, ?_, q v H1 (Same.refl H1) g2⟩
    have hl := hr.length
    unfold atI ixN
    rw [if_neg (by decide), if_pos (by omega)]
    show xs[(-1 + (xs.length : Int)).toNat]? = _
    rw [show (-1 + (xs.length : Int)).toNat = l.length - 1 by omega]
    exact g1
/-! ### tests -/
theorem et_t (h : Ev te σ H (Is (.bl b))) : ET (tTest te) σ H b := fun H1 e _ q => h H1 e _ fun v H2 e2 p => ⟨b, p, q H2 e2⟩
theorem et_B (h : Ev te σ H (Is (.bl b))) : ET (tB te) σ H b := fun H1 e _ q => h H1 e _ fun v H2 e2 p => ⟨b, p, q H2 e2⟩
theorem et_not (h : ET t σ H b) : ET (tNot t) σ H (!b) := fun H1 e _ q => h H1 e _ fun H2 e2 => q H2 e2
theorem et_and (h1 : ET t σ H b) (h2 : b = true → ET u σ H c) : ET (tAnd t u) σ H (b && c) := fun H1 e Q q => h1 H1 e _ fun H2 e2 => by
  cases b with
  | true => exact h2 rfl H2 (e.trans e2) Q fun H3 e3 => q H3 (e2.trans e3)
  | false => exact q H2 e2
theorem et_or (h1 : ET t σ H b) (h2 : b = false → ET u σ H c) : ET (tOr t u) σ H (b || c) := fun H1 e Q q => h1 H1 e _ fun H2 e2 => by
  cases b with
  | true => exact q H2 e2
  | false => exact h2 rfl H2 (e.trans e2) Q fun H3 e3 => q H3 (e2.trans e3)
theorem ev_andV (h1 : Ev ta σ H (Is (.bl b))) (h2 : b = true → Ev tb σ H (Is (.bl c))) : Ev (tAndV ta tb) σ H (Is (.bl (b && c))) := fun H1 e Q q => h1 H1 e _ fun v H2 e2 p => ⟨b, p, by
  cases b with
  | true => exact h2 rfl H2 (e.trans e2) Q fun v H3 e3 p => q v H3 (e2.trans e3) p
  | false => exact q _ H2 e2 rfl⟩
theorem ev_orV (h1 : Ev ta σ H (Is (.bl b))) (h2 : b = false → Ev tb σ H (Is (.bl c))) : Ev (tOrV ta tb) σ H (Is (.bl (b || c))) := fun H1 e Q q => h1 H1 e _ fun v H2 e2 p => ⟨b, p, by
  cases b with
  | true => exact q _ H2 e2 rfl
  | false => exact h2 rfl H2 (e.trans e2) Q fun v H3 e3 p => q v H3 (e2.trans e3) p⟩
theorem ev_notV (h1 : Ev ta σ H (Is (.bl b))) : Ev (tNotV ta) σ H (Is (.bl (!b))) := fun H1 e _ q => h1 H1 e _ fun v H2 e2 p => ⟨b, p, q _ H2 e2 rfl⟩
theorem ev_if (h : ET t σ H b) (h1 : b = true → Ev ta σ H P) (h2 : b = false → Ev tb σ H P) : Ev (tIf t ta tb) σ H P := fun H1 e Q q => h H1 e _ fun H2 e2 => by
  cases b with
  | true => exact h1 rfl H2 (e.trans e2) Q fun v H3 e3 p => q v H3 (e2.trans e3) p
  | false => exact h2 rfl H2 (e.trans e2) Q fun v H3 e3 p => q v H3 (e2.trans e3) p
/-- a < b < c -/
theorem ev_chain {r r' : R2} (h1 : Ev ta σ H (Is x)) (h2 : Ev tb σ H (Is y)) (h3 : Ev tc σ H (Is v)) (hr : ∀ H1 (Q : VK), Q (.bl b) H1 → r x y H1 Q) (hr' : ∀ H1 (Q : VK), Q (.bl c) H1 → r' y v H1 Q) : Ev (tChain r r' ta tb tc) σ H (Is (.bl (b && c))) := fun H1 e Q q =>
  h1 H1 e _ fun _ H2 e2 p1 => h2 H2 (e.trans e2) _ fun _ H3 e3 p2 => by
    rw [p1, p2]
    refine hr H3 _ ⟨b, rfl, ?_⟩
    cases b with
    | true =>
      refine h3 H3 ((e.trans e2).trans e3) _ fun _ H4 e4 p3 => ?_
      rw [p3]
      exact hr' H4 _ (q _ H4 ((e2.trans e3).trans e4) rfl)
    | false => exact q _ H3 (e2.trans e3) rfl
/-! ### arguments, displays -/
theorem ea_nil : EA tNil σ H (fun vs _ => vs = []) := fun H1 _ _ q => q [] H1 (Same.refl H1) rfl
theorem ea_cons {tr : TA} {R : List V → Hp → Prop} (h : Ev ta σ H P) (m : Mono P) (hr : EA tr σ H R) : EA (tCons ta tr) σ H (fun vs H2 => ∃ v r, vs = v :: r ∧ P v H2 ∧ R r H2) := fun H1 e _ q =>
  h H1 e _ fun v H2 e2 p => hr H2 (e.trans e2) _ fun r H3 e3 pr => q _ H3 (e2.trans e3) ⟨v, r, rfl, m _ _ _ e3 p, pr⟩
/-- arguments that are data -/
abbrev Da (K : PySem.W.Frag) (l : List D) : List V → Hp → Prop := fun vs H => RepAll K H l vs
theorem da_nil : EA tNil σ H (Da K []) := fun H1 _ _ q => q [] H1 (Same.refl H1) rfl
theorem da_cons {tr : TA} {d : D} {l : List D} (h : Ev ta σ H (Dt K d)) (hr : EA tr σ H (Da K l)) : EA (tCons ta tr) σ H (Da K (d :: l)) := ea_cons h mono_dt hr
theorem da_star {tr : TA} {l m : List D} (h : Ev ta σ H (Dt K (.tup l))) (hr : EA tr σ H (Da K m)) : EA (StX.tStar K ta tr) σ H (Da K (l ++ m)) := fun H1 e _ q =>
  h H1 e _ fun v H2 e2 ⟨a, xs, e1, hs, p⟩ => ⟨a, xs, e1, .inl (SqT.of hs), hr H2 (e.trans e2) _ fun r H3 e3 pr => q _ H3 (e2.trans e3) (RepAll.append (RepAll.same e3 p) pr)⟩
theorem da_starL {tr : TA} {l m : List D} (h : Ev ta σ H (Dt K (.lst l))) (hr : EA tr σ H (Da K m)) : EA (StX.tStar K ta tr) σ H (Da K (l ++ m)) := fun H1 e _ q =>
  h H1 e _ fun v H2 e2 ⟨a, xs, e1, hs, p⟩ => ⟨a, xs, e1, .inr hs, hr H2 (e.trans e2) _ fun r H3 e3 pr => q _ H3 (e2.trans e3) (RepAll.append (RepAll.same e3 p) pr)⟩
theorem ev_tup {tr : TA} {l : List D} (h : EA tr σ H (Da K l)) (hl : l.length ≤ 100000) : Ev (tTup tr) σ H (Dt K (.tup l)) := fun H1 e _ q =>
  h H1 e _ fun vs H2 e2 p => ⟨sz (by rw [p.length]; exact hl), fun a ha => q _ _ (e2.trans (same_new ha)) ⟨a, vs, rfl, upd_same, RepAll.same (same_new ha) p⟩⟩
theorem ev_lst {tr : TA} {l : List D} (h : EA tr σ H (Da K l)) (hl : l.length ≤ 100000) : Ev (tLst tr) σ H (NewL K H l) := fun H1 e _ q =>
  h H1 e _ fun vs H2 e2 p => ⟨sz (by rw [p.length]; exact hl), fun a ha => q _ _ (e2.trans (same_new ha)) ⟨a, vs, rfl, fresh_back (e.trans e2) ha, upd_same, RepAll.same (same_new ha) p⟩⟩
theorem NewL.dt {l : List D} (h : Ev te σ H (NewL K H l)) : Ev te σ H (Dt K (.lst l)) := h.imp fun v H' _ ⟨p, xs, h1, _, h3, h4⟩ => ⟨p, xs, h1, SqL.of h3, h4⟩
/-! ### calls of built-ins -/
theorem ev_cb {r : List V → Hp → VK → Prop} {ta : TA} {R : List V → Hp → Prop} (h : EA ta σ H R) (hr : ∀ vs H1, Same H H1 → R vs H1 → ∀ Q : VK, (∀ v H2, Same H1 H2 → P v H2 → Q v H2) → r vs H1 Q) : Ev (tCB r ta) σ H P := fun H1 e Q q =>
  h H1 e _ fun vs H2 e2 p => hr vs H2 (e.trans e2) p Q fun v H3 e3 p3 => q v H3 (e2.trans e3) p3
/-! ### calls of defs -/
theorem ev_call {sp : Sp} {ta : TA} {R : List V → Hp → Prop} (h : EA ta σ H R) (hr : ∀ vs H1, Same H H1 → R vs H1 → ∀ Q : VK, (∀ v H2, Same H1 H2 → P v H2 → Q v H2) → sp vs H1 Q E0) : Ev (tCall sp [] E0 ta) σ H P := fun H1 e Q q =>
  h H1 e _ fun vs H2 e2 p => by
    show sp (vs ++ []) H2 Q E0
    rw [List.append_nil]
    exact hr vs H2 (e.trans e2) p Q fun v H3 e3 p3 => q v H3 (e2.trans e3) p3
end
/-- the promise of a def over data: e the arguments of a, ok what is asked of a, P what is handed back -/
def spF {α : Type} (K : PySem.W.Frag) (e : α → List D) (ok : α → Prop) (P : α → PV) : Sp := fun vs H Q _ => ∃ a, RepAll K H (e a) vs ∧ ok a ∧ ∀ v H2, Same H H2 → P a v H2 → Q v H2
section
variable {K : PySem.W.Frag} {σ : St} {H : Hp} {α : Type} {e : α → List D} {ok : α → Prop} {P : α → PV}
theorem ev_fn {ta : TA} (a : α) (h : EA ta σ H (Da K (e a))) (ha : ok a) : Ev (tCall (spF K e ok P) [] E0 ta) σ H (P a) :=
  ev_call h fun vs H1 _ p Q q => ⟨a, p, ha, fun v H2 e2 p2 => q v H2 e2 p2⟩
theorem spF_len {n : Nat} (hl : ∀ a, (e a).length = n) : ∀ vs H Q E, spF K e ok P vs H Q E → vs.length = n := fun vs H Q E ⟨a, p, _⟩ => by rw [p.length, hl a]
end
end LC
end
section
set_option Elab.async false
set_option linter.all false
set_option maxRecDepth 100000
set_option maxHeartbeats 1000000
/-! Statements, loops, comprehensions over data. -/
namespace LC
open PySem PySem.Spec L2
section
variable {K : PySem.W.Frag} {σ : St} {H H' : Hp} {ta tb te : TE} {c : TT} {P P1 P2 : PV} {D : Ends} {t u z : TS} {b : Bool} {i j : Nat}
/-! ### small statements -/
theorem s_asg (h : Ev te σ H P) (k : ∀ v H1, Same H H1 → P v H1 → D.nx (σ.set i (some v)) H1) : tAsg te (gName i) D σ H := h H (Same.refl H) _ fun v H1 e p => k v H1 e p
theorem q_asg (h : Ev te σ H P) (k : ∀ v H1, Same H H1 → P v H1 → z D (σ.set i (some v)) H1) : tSeq (tAsg te (gName i)) z D σ H := s_asg (D := { D with nx := z D }) h k
/-- a value that is known -/
theorem s_let {v : V} (h : Ev te σ H (Is v)) (k : ∀ H1, Same H H1 → D.nx (σ.set i (some v)) H1) : tAsg te (gName i) D σ H := s_asg h fun w H1 e p => by rw [p]; exact k H1 e
theorem q_let {v : V} (h : Ev te σ H (Is v)) (k : ∀ H1, Same H H1 → z D (σ.set i (some v)) H1) : tSeq (tAsg te (gName i)) z D σ H := s_let (D := { D with nx := z D }) h k
theorem s_ret (h : Ev te σ H P) (k : ∀ v H1, Same H H1 → P v H1 → D.rt v H1) : tRet te D σ H := h H (Same.refl H) _ fun v H1 e p => k v H1 e p
theorem s_retv {v : V} (h : Ev te σ H (Is v)) (k : ∀ H1, Same H H1 → D.rt v H1) : tRet te D σ H := s_ret h fun w H1 e p => by rw [p]; exact k H1 e
theorem s_drop (h : Ev te σ H P) (k : ∀ v H1, Same H H1 → P v H1 → D.nx σ H1) : tDrop te D σ H := h H (Same.refl H) _ fun v H1 e p => k v H1 e p
theorem q_drop (h : Ev te σ H P) (k : ∀ v H1, Same H H1 → P v H1 → z D σ H1) : tSeq (tDrop te) z D σ H := s_drop (D := { D with nx := z D }) h k
theorem s_if (h : ET c σ H b) (h1 : b = true → ∀ H1, Same H H1 → t D σ H1) (h2 : b = false → ∀ H1, Same H H1 → u D σ H1) : tIfS c t u D σ H := h H (Same.refl H) _ fun H1 e => by
  cases b with
  | true => exact h1 rfl H1 e
  | false => exact h2 rfl H1 e
theorem q_if (h : ET c σ H b) (h1 : b = true → ∀ H1, Same H H1 → t { D with nx := z D } σ H1) (h2 : b = false → ∀ H1, Same H H1 → u { D with nx := z D } σ H1) : tSeq (tIfS c t u) z D σ H := s_if (D := { D with nx := z D }) h h1 h2
/-- if c: .. that is known not to be taken -/
theorem q_skip (h : ET c σ H false) (k : ∀ H1, Same H H1 → z D σ H1) : tSeq (tIfS c t tNext) z D σ H := q_if h (fun z => nomatch z) fun _ H1 e => k H1 e
theorem s_skip (h : ET c σ H false) (k : ∀ H1, Same H H1 → D.nx σ H1) : tIfS c t tNext D σ H := s_if h (fun z => nomatch z) fun _ H1 e => k H1 e
theorem s_par (ha : Ev ta σ H P1) (hb : Ev tb σ H P2) (m : Mono P1) (k : ∀ v w H1, Same H H1 → P1 v H1 → P2 w H1 → D.nx ((σ.set i (some v)).set j (some w)) H1) : tPar i j (tCons ta (tCons tb tNil)) D σ H :=
  ha H (Same.refl H) _ fun v H1 e1 p1 => hb H1 e1 _ fun w H2 e2 p2 => ⟨v, w, rfl, k v w H2 (e1.trans e2) (m _ _ _ e2 p1) p2⟩
theorem q_par (ha : Ev ta σ H P1) (hb : Ev tb σ H P2) (m : Mono P1) (k : ∀ v w H1, Same H H1 → P1 v H1 → P2 w H1 → z D ((σ.set i (some v)).set j (some w)) H1) : tSeq (tPar i j (tCons ta (tCons tb tNil))) z D σ H := s_par (D := { D with nx := z D }) ha hb m k
theorem s_par3 {l : Nat} {tc : TE} {P3 : PV} (ha : Ev ta σ H P1) (hb : Ev tb σ H P2) (hc : Ev tc σ H P3) (m : Mono P1) (m2 : Mono P2) (k : ∀ v w x H1, Same H H1 → P1 v H1 → P2 w H1 → P3 x H1 → D.nx (((σ.set i (some v)).set j (some w)).set l (some x)) H1) : tPar3 i j l (tCons ta (tCons tb (tCons tc tNil))) D σ H :=
  ha H (Same.refl H) _ fun v H1 e1 p1 => hb H1 e1 _ fun w H2 e2 p2 => hc H2 (e1.trans e2) _ fun x H3 e3 p3 => ⟨v, w, x, rfl, k v w x H3 ((e1.trans e2).trans e3) (m _ _ _ (e2.trans e3) p1) (m2 _ _ _ e3 p2) p3⟩
theorem q_par3 {l : Nat} {tc : TE} {P3 : PV} (ha : Ev ta σ H P1) (hb : Ev tb σ H P2) (hc : Ev tc σ H P3) (m : Mono P1) (m2 : Mono P2) (k : ∀ v w x H1, Same H H1 → P1 v H1 → P2 w H1 → P3 x H1 → z D (((σ.set i (some v)).set j (some w)).set l (some x)) H1) : tSeq (tPar3 i j l (tCons ta (tCons tb (tCons tc tNil)))) z D σ H := s_par3 (D := { D with nx := z D }) ha hb hc m m2 k
/-- while: W holds with its measure -/
theorem s_while (W : Nat → St → Hp → Prop) (m0 : Nat) (h0 : W m0 σ H)
    (hs : ∀ m σ' H', W m σ' H' → ∃ b, ET c σ' H' b ∧ (b = true → ∀ H1, Same H' H1 → t { D with nx := fun σ2 H2 => ∃ m', m' < m ∧ W m' σ2 H2, ct := fun σ2 H2 => ∃ m', m' < m ∧ W m' σ2 H2, bk := D.nx } σ' H1) ∧ (b = false → ∀ H1, Same H' H1 → D.nx σ' H1)) : tWhile c t D σ H :=
  ⟨W, ⟨m0, h0⟩, fun m σ' H' w => by
    obtain ⟨b, h1, h2, h3⟩ := hs m σ' H' w
    refine h1 H' (Same.refl H') _ fun H1 e1 => ?_
    cases b with
    | true => exact ⟨_, fun _ _ n => n, h2 rfl H1 e1⟩
    | false => exact h3 rfl H1 e1⟩
theorem q_while (W : Nat → St → Hp → Prop) (m0 : Nat) (h0 : W m0 σ H)
    (hs : ∀ m σ' H', W m σ' H' → ∃ b, ET c σ' H' b ∧ (b = true → ∀ H1, Same H' H1 → t { D with nx := fun σ2 H2 => ∃ m', m' < m ∧ W m' σ2 H2, ct := fun σ2 H2 => ∃ m', m' < m ∧ W m' σ2 H2, bk := z D } σ' H1) ∧ (b = false → ∀ H1, Same H' H1 → z D σ' H1)) : tSeq (tWhile c t) z D σ H :=
  s_while (D := { D with nx := z D }) W m0 h0 hs
/-! ### targets that are tuples of names -/
theorem g_tup2 {x : V} {d e : LC.D} {Q : St → Hp → Prop} (h : Rep K H (.tup [d, e]) x) (k : ∀ v w, Rep K H d v → Rep K H e w → Q ((σ.set i (some v)).set j (some w)) H) : gTup K 2 (gCons (gName i) (gCons (gName j) gNil)) x σ H Q := by
  obtain ⟨a, xs, h1, h2, v, r, h3, h4, w, r2, h5, h6, h7⟩ := h
  have h7 : r2 = [] := h7
  subst h7 h5 h3
  exact ⟨a, _, h1, SqT.of h2, rfl, v, _, rfl, w, _, rfl, rfl, k v w h4 h6⟩
theorem g_tup3 {l : Nat} {x : V} {d e f : LC.D} {Q : St → Hp → Prop} (h : Rep K H (.tup [d, e, f]) x) (k : ∀ v w y, Rep K H d v → Rep K H e w → Rep K H f y → Q (((σ.set i (some v)).set j (some w)).set l (some y)) H) : gTup K 3 (gCons (gName i) (gCons (gName j) (gCons (gName l) gNil))) x σ H Q := by
  obtain ⟨a, xs, h1, h2, v, r, h3, h4, w, r2, h5, h6, y, r3, h7, h8, h9⟩ := h
  have h9 : r3 = [] := h9
  subst h9 h7 h5 h3
  exact ⟨a, _, h1, SqT.of h2, rfl, v, _, rfl, w, _, rfl, y, _, rfl, rfl, k v w y h4 h6 h8⟩
theorem g_tup4 {l m : Nat} {x : V} {d e f g : LC.D} {Q : St → Hp → Prop} (h : Rep K H (.tup [d, e, f, g]) x) (k : ∀ v w y u, Rep K H d v → Rep K H e w → Rep K H f y → Rep K H g u → Q ((((σ.set i (some v)).set j (some w)).set l (some y)).set m (some u)) H) : gTup K 4 (gCons (gName i) (gCons (gName j) (gCons (gName l) (gCons (gName m) gNil)))) x σ H Q := by
  obtain ⟨a, xs, h1, h2, v, r, h3, h4, w, r2, h5, h6, y, r3, h7, h8, u, r4, h9, h10, h11⟩ := h
  have h11 : r4 = [] := h11
  subst h11 h9 h7 h5 h3
  exact ⟨a, _, h1, SqT.of h2, rfl, v, _, rfl, w, _, rfl, y, _, rfl, u, _, rfl, rfl, k v w y u h4 h6 h8 h10⟩
end
/-! ### what a for walks: data -/
/-- a new item, the heap perhaps with something new -/
def Yd (K : PySem.W.Frag) (ds : List D) : Nat → Hp → V → Hp → Prop := fun i H x H' => Same H H' ∧ ∃ d, ds[i]? = some d ∧ Rep K H' d x
/-- walked: ds, while what B says of the heap at the start stays -/
def IT (K : PySem.W.Frag) (wi : TI) (σ : St) (H : Hp) (ds : List D) (B : Hp → (Hp → Prop) → Prop) : Prop :=
  ∀ H1, Same H H1 → ∀ R : It → Hp → Prop, (∀ J H2 G, Same H1 H2 → (∀ H', Same H2 H' → G H') → B H2 G → Walk J ds.length G (Yd K ds) → R J H2) → wi σ H1 R
/-- tuples stay -/
def KeepT (H H' : Hp) : Prop := ∀ b xs, H b = some (.tup xs) → H' b = some (.tup xs)
theorem KeepT.refl (H : Hp) : KeepT H H := fun _ _ h => h
theorem KeepT.trans {H H1 H2 : Hp} (a : KeepT H H1) (b : KeepT H1 H2) : KeepT H H2 := fun c xs h => b c xs (a c xs h)
theorem Same.keepT {H H' : Hp} (e : Same H H') : KeepT H H' := fun _ _ h => e _ _ h
theorem keepT_upd {H : Hp} {p : Addr} {o u : HO} (h : H p = some u) (n : ∀ xs, u ≠ .tup xs) : KeepT H (upd H p o) := fun b xs hb => by
  have ne : b ≠ p := fun e => by subst e; rw [h] at hb; exact n xs (Option.some.inj hb)
  rw [upd_ne ne]; exact hb
theorem keepT_new {H : Hp} {p : Addr} {o : HO} (h : H p = none) : KeepT H (upd H p o) := fun b xs hb => by
  rw [upd_ne (fun e => by subst e; rw [h] at hb; cases hb)]; exact hb
theorem keepT_updL {H : Hp} {p : Addr} {o : HO} {xs : List V} (h : H p = some (.lst xs)) : KeepT H (upd H p o) := keepT_upd h fun ys z => nomatch z
theorem keepT_updT {H : Hp} {p : Addr} {o : HO} {xs : List (List Key × V)} (h : H p = some (.dT xs)) : KeepT H (upd H p o) := keepT_upd h fun ys z => nomatch z
theorem keepT_updF {H : Hp} {p : Addr} {o u : HO} {ob : Obj} (h : H p = some (.frz ob u)) : KeepT H (upd H p o) := keepT_upd h fun ys z => nomatch z
theorem keepT_updI {H : Hp} {p : Addr} {o : HO} {C dx : Addr} {fs : List (Str × V)} (h : H p = some (.ins C dx fs)) : KeepT H (upd H p o) := keepT_upd h fun ys z => nomatch z
/-! data of tuples alone -/
mutual
def D.tupsOnly : D → Bool
  | .lst _ => false
  | .tup l => D.tupsOnlys l
  | _ => true
def D.tupsOnlys : List D → Bool
  | [] => true
  | d :: l => d.tupsOnly && D.tupsOnlys l
end
section
variable {K : PySem.W.Frag} {H H' : Hp}
mutual
theorem Rep.keepT (e : KeepT H H') : ∀ {d : D} {v : V}, d.tupsOnly = true → Rep K H d v → Rep K H' d v
  | .non, _, _, h => h
  | .bl _, _, _, h => h
  | .int _, _, _, h => h
  | .str _, _, _, h => h
  | .ref _, _, _, h => h
  | .lst _, _, z, _ => by cases z
  | .tup _, _, z, ⟨a, xs, h1, h2, h3⟩ => ⟨a, xs, h1, e a xs h2, RepAll.keepT e z h3⟩
theorem RepAll.keepT (e : KeepT H H') : ∀ {l : List D} {vs : List V}, D.tupsOnlys l = true → RepAll K H l vs → RepAll K H' l vs
  | [], _, _, h => h
  | d :: l, _, z, ⟨v, r, h1, h2, h3⟩ => by
    obtain ⟨z1, z2⟩ := Bool.and_eq_true_iff.mp (show (d.tupsOnly && D.tupsOnlys l) = true from z)
    exact ⟨v, r, h1, Rep.keepT e z1 h2, RepAll.keepT e z2 h3⟩
end
end
theorem tupsOnlys_append : ∀ {l m : List D}, D.tupsOnlys l = true → D.tupsOnlys m = true → D.tupsOnlys (l ++ m) = true
  | [], _, _, h => h
  | d :: l, m, h, g => by
    obtain ⟨z1, z2⟩ := Bool.and_eq_true_iff.mp (show (d.tupsOnly && D.tupsOnlys l) = true from h)
    show (d.tupsOnly && D.tupsOnlys (l ++ m)) = true
    rw [z1, tupsOnlys_append z2 g]; rfl
/-- at a tuple -/
abbrev BT : Hp → (Hp → Prop) → Prop := fun H2 G => ∀ H', KeepT H2 H' → G H'
/-- at something that stands in H0 -/
abbrev BV (H0 : Hp) : Hp → (Hp → Prop) → Prop := fun _ G => ∀ H', Same H0 H' → G H'
abbrev BN (K : PySem.W.Frag) (H : Hp) (ds : List D) : Hp → (Hp → Prop) → Prop := fun H2 G => ∃ p xs, H p = none ∧ H2 p = some (.lst xs) ∧ RepAll K H2 ds xs ∧ ∀ H', H' p = some (.lst xs) → RepAll K H' ds xs → G H'
section
variable {K : PySem.W.Frag} {σ : St} {H H' : Hp} {ta tb te : TE} {c : TT} {P : PV} {E : Ends} {t u z : TS} {ds : List D} {B : Hp → (Hp → Prop) → Prop} {wi : TI} {g : TG}
theorem Walk.dt {J : It} {G G' : Hp → Prop} {xs : List V} (w : Walk J xs.length G (YAt xs)) (hl : xs.length = ds.length) (hg : ∀ H, G' H → G H ∧ RepAll K H ds xs) : Walk J ds.length G' (Yd K ds) := by
  rw [← hl]
  refine w.mono (fun H h => (hg H h).1) fun i H x H' hi h y => ?_
  obtain ⟨e, hx⟩ := y
  subst e
  obtain ⟨d, h1, h2⟩ := (hg _ h).2.getV hx
  exact ⟨Same.refl _, d, h1, h2⟩
theorem it_tup (h : Ev te σ H (Dt K (.tup ds))) (ht : D.tupsOnlys ds = true) : IT K (iTup K te) σ H ds BT := fun H1 e R q =>
  h H1 e _ fun v H2 e2 ⟨a, xs, h1, h2, h3⟩ => ⟨a, h1, ⟨xs, SqT.of h2⟩, q _ H2 (KeepT H2) e2 (fun H' e => Same.keepT e) (fun H' k => k)
    (Walk.dt (walk_tup (K := K) (a := a) (xs := xs)) h3.length fun H' k => ⟨SqT.of (k a xs h2), RepAll.keepT k ht h3⟩)⟩
/-- a tuple, a list, whose value is known -/
theorem it_tupV {v : V} {H0 : Hp} (h : Ev te σ H (Is v)) (e0 : Same H0 H) (hv : Rep K H0 (.tup ds) v) : IT K (iTup K te) σ H ds (BV H0) := fun H1 e R q =>
  h H1 e _ fun w H2 e2 p => by
    obtain ⟨a, xs, h1, h2, h3⟩ := id hv
    exact ⟨a, p.trans h1, ⟨xs, SqT.of (((e0.trans e).trans e2) _ _ h2)⟩, q _ H2 (fun H' => SqT K H' a xs ∧ RepAll K H' ds xs) e2 (fun H' k => ⟨SqT.of ((((e0.trans e).trans e2).trans k) _ _ h2), RepAll.same (((e0.trans e).trans e2).trans k) h3⟩) (fun H' k => ⟨SqT.of (k _ _ h2), RepAll.same k h3⟩)
      (Walk.dt (walk_tup (K := K) (a := a) (xs := xs)) h3.length fun H' k => k)⟩
theorem it_lstV {v : V} {H0 : Hp} (h : Ev te σ H (Is v)) (e0 : Same H0 H) (hv : Rep K H0 (.lst ds) v) : IT K (iList K te) σ H ds (BV H0) := fun H1 e R q =>
  h H1 e _ fun w H2 e2 p => by
    obtain ⟨a, xs, h1, h2, h3⟩ := id hv
    exact ⟨a, p.trans h1, ⟨xs, same_sqL ((e0.trans e).trans e2) h2⟩, q _ H2 (fun H' => SqL K H' a xs ∧ RepAll K H' ds xs) e2 (fun H' k => ⟨same_sqL (((e0.trans e).trans e2).trans k) h2, RepAll.same (((e0.trans e).trans e2).trans k) h3⟩) (fun H' k => ⟨same_sqL k h2, RepAll.same k h3⟩)
      (Walk.dt (walk_list (K := K) (a := a) (xs := xs)) h3.length fun H' k => k)⟩
theorem it_lst (h : Ev te σ H (Dt K (.lst ds))) : IT K (iList K te) σ H ds (fun H2 G => ∀ H', Same H2 H' → G H') := fun H1 e R q =>
  h H1 e _ fun v H2 e2 ⟨a, xs, h1, h2, h3⟩ => ⟨a, h1, ⟨xs, h2⟩, q _ H2 (Same H2) e2 (fun H' e => e) (fun H' k => k)
    (Walk.dt (walk_list (K := K) (a := a) (xs := xs)) h3.length fun H' k => ⟨same_sqL k h2, RepAll.same k h3⟩)⟩
theorem it_new {H0 : Hp} (e0 : Same H0 H) (h : Ev te σ H (NewL K H0 ds)) : IT K (iList K te) σ H ds (BN K H0 ds) := fun H1 e R q =>
  h H1 e _ fun v H2 e2 ⟨a, xs, h1, h0, h2, h3⟩ => ⟨a, h1, ⟨xs, SqL.of h2⟩, q _ H2 (fun H' => H' a = some (.lst xs) ∧ RepAll K H' ds xs) e2 (fun H' k => ⟨k _ _ h2, RepAll.same k h3⟩) ⟨a, xs, h0, h2, h3, fun H' k1 k2 => ⟨k1, k2⟩⟩
    (Walk.dt (walk_list (K := K) (a := a) (xs := xs)) h3.length fun H' k => ⟨SqL.of k.1, k.2⟩)⟩
abbrev BX : Hp → (Hp → Prop) → Prop := fun _ G => ∀ H', G H'
theorem it_range1 {ta : TA} {n : Int} (h : EA ta σ H (Da K [.int n])) (h0 : -(2 ^ 62) ≤ n) (h1 : n < 2 ^ 62) : IT K (iRng1 ta) σ H ((List.range n.toNat).map fun (i : Nat) => D.int i) BX := fun H1 e R q =>
  h H1 e _ fun vs H2 e2 ⟨v, r, e3, e4, e5⟩ => by
    have e5 : r = [] := e5
    have e4 : v = .int n := e4
    subst e5 e4 e3
    refine ⟨n, rfl, h0, h1, q _ H2 (fun _ => True) e2 (fun _ _ => trivial) (fun _ => trivial) ?_⟩
    have w := walk_range (lo := 0) (n := n.toNat)
    rw [List.length_map, List.length_range]
    refine w.mono (fun _ h => h) fun i H x H' hi _ y => ?_
    obtain ⟨e6, e7⟩ := y
    subst e6 e7
    exact ⟨Same.refl _, .int i, by simp [hi], by show V.int (0 + (i : Int)) = V.int i; rw [Int.zero_add]⟩
theorem it_range2 {ta : TA} {m n : Int} (h : EA ta σ H (Da K [.int m, .int n])) (h0 : -(2 ^ 62) ≤ n) (h1 : n < 2 ^ 62) (h2 : -(2 ^ 62) ≤ m) (h3 : m < 2 ^ 62) : IT K (iRng2 ta) σ H ((List.range (n - m).toNat).map fun (i : Nat) => D.int (m + i)) BX := fun H1 e R q =>
  h H1 e _ fun vs H2 e2 ⟨v, r, e3, e4, w, r2, e5, e6, e7⟩ => by
    have e7 : r2 = [] := e7
    have e6 : w = .int n := e6
    have e4 : v = .int m := e4
    subst e7 e6 e5 e4 e3
    refine ⟨m, n, rfl, ⟨h2, h3, h0, h1⟩, q _ H2 (fun _ => True) e2 (fun _ _ => trivial) (fun _ => trivial) ?_⟩
    have w := walk_range (lo := m) (n := (n - m).toNat)
    rw [List.length_map, List.length_range]
    refine w.mono (fun _ h => h) fun i H x H' hi _ y => ?_
    obtain ⟨e8, e9⟩ := y
    subst e8 e9
    exact ⟨Same.refl _, .int (m + i), by simp [hi], rfl⟩
/-! ### for -/
theorem s_for (h : IT K wi σ H ds B) (k : ∀ H2 G, Same H H2 → (∀ H', Same H2 H' → G H') → B H2 G → ∃ Pv : Nat → St → Hp → Prop, Pv 0 σ H2 ∧ (∀ i σ' H', Pv i σ' H' → G H') ∧
    (∀ i d x σ' H' H'', ds[i]? = some d → Pv i σ' H' → Same H' H'' → Rep K H'' d x → g x σ' H'' fun σ2 H3 => t { E with nx := Pv (i + 1), ct := Pv (i + 1), bk := E.nx } σ2 H3) ∧ ∀ σ' H', Pv ds.length σ' H' → E.nx σ' H') : tFor wi g t E σ H :=
  h H (Same.refl H) _ fun J H2 G e1 e2 hB w => by
    obtain ⟨Pv, p0, pG, ps, pd⟩ := k H2 G e1 e2 hB
    exact for_it w Pv p0 (fun i σ' H' _ p => pG i σ' H' p) (fun i x σ' H' H'' hi p y => by
      obtain ⟨y1, d, y2, y3⟩ := y
      exact ps i d x σ' H' H'' y2 p y1 y3) pd
theorem q_for (h : IT K wi σ H ds B) (k : ∀ H2 G, Same H H2 → (∀ H', Same H2 H' → G H') → B H2 G → ∃ Pv : Nat → St → Hp → Prop, Pv 0 σ H2 ∧ (∀ i σ' H', Pv i σ' H' → G H') ∧
    (∀ i d x σ' H' H'', ds[i]? = some d → Pv i σ' H' → Same H' H'' → Rep K H'' d x → g x σ' H'' fun σ2 H3 => t { E with nx := Pv (i + 1), ct := Pv (i + 1), bk := z E } σ2 H3) ∧ ∀ σ' H', Pv ds.length σ' H' → z E σ' H') : tSeq (tFor wi g t) z E σ H :=
  s_for (E := { E with nx := z E }) h k
/-! ### comprehensions -/
theorem filterMap_snoc {α β : Type} (f : α → Option β) {l : List α} {i : Nat} {a : α} (h : l[i]? = some a) : (l.take (i + 1)).filterMap f = (l.take i).filterMap f ++ (match f a with
    | some b => [b]
    | none => []) := by
  rw [List.take_add_one, h, List.filterMap_append]
  congr 1
  show List.filterMap f [a] = _
  rw [List.filterMap_cons]
  cases f a <;> rfl
theorem ev_lcF {tt : TT} {vs : List Nat} (h : IT K wi σ H ds B) (F : D → Option D) (hl : ds.length ≤ 50000)
    (hb : ∀ (i : Nat) d x H1, ds[i]? = some d → Same H H1 → Rep K H1 d x → g x (wipe σ vs) H1 fun σ2 H2 => Same H1 H2 ∧ wipe σ2 vs = wipe σ vs ∧ ∃ b, ET tt σ2 H2 b ∧ (b = false → F d = none) ∧ (b = true → ∃ e, F d = some e ∧ e.tupsOnly = true ∧ Ev te σ2 H2 (Dt K e)))
    (gm : ∀ x σ H (Q Q' : St → Hp → Prop), (∀ σ2 H2, Q σ2 H2 → Q' σ2 H2) → g x σ H Q → g x σ H Q') : Ev (tLc wi g tt te vs) σ H (NewL K H (ds.filterMap F)) := fun H0 e Q q =>
  h H0 e _ fun J H2 G e1 e2 hB w Dl hD => by
    have fr : H Dl = none := fresh_back (e.trans e1) hD
    refine lc_it w (fun i H' => Same H2 H' ∧ ∃ xs, H' Dl = some (.lst xs) ∧ RepAll K H' ((ds.take i).filterMap F) xs ∧ xs.length ≤ i ∧ D.tupsOnlys ((ds.take i).filterMap F) = true) ⟨same_new hD, [], upd_same, by rw [List.take_zero]; exact rfl, Nat.le_refl _, by rw [List.take_zero]; rfl⟩ (fun i H' _ p => e2 H' p.1) (fun i x H' H'' hi p y => ?_) (fun H' p => ?_)
    · obtain ⟨s2, xs, hx, hr, hn, ht⟩ := p
      obtain ⟨y1, d, y2, y3⟩ := y
      refine gm _ _ _ _ _ (fun σ2 H3 hh => ?_) (hb i d x H'' y2 (((e.trans e1).trans s2).trans y1) y3)
      obtain ⟨s3, hw, b, h1, h2, h3⟩ := hh
      refine ⟨hw, h1 H3 (Same.refl H3) _ fun H4 s4 => ?_⟩
      have s24 : Same H2 H4 := ((s2.trans y1).trans s3).trans s4
      have hx4 : H4 Dl = some (.lst xs) := s4 _ _ (s3 _ _ (y1 _ _ hx))
      have hr4 := RepAll.same ((y1.trans s3).trans s4) hr
      cases b with
      | false =>
        show Same H2 H4 ∧ _
        have e0 : (ds.take (i + 1)).filterMap F = (ds.take i).filterMap F := by rw [filterMap_snoc F y2, h2 rfl]; exact List.append_nil _
        rw [e0]
        exact ⟨s24, xs, hx4, hr4, Nat.le_succ_of_le hn, ht⟩
      | true =>
        obtain ⟨e', h4, ht', h5⟩ := h3 rfl
        refine h5 H4 s4 _ fun y H5 s5 ry => ⟨xs, s5 _ _ hx4, szl (by omega), same_mut (s24.trans s5) hD, xs ++ [y], upd_same, ?_, ?_, ?_⟩
        · have kt : KeepT H5 (upd H5 Dl (.lst (xs ++ [y]))) := keepT_updL (s5 _ _ hx4)
          rw [filterMap_snoc F y2, h4]
          exact RepAll.append (RepAll.keepT kt ht (RepAll.same s5 hr4)) (RepAll.one (Rep.keepT kt ht' ry))
        · rw [List.length_append]; show xs.length + 1 ≤ i + 1; omega
        · rw [filterMap_snoc F y2, h4]
          exact tupsOnlys_append ht (by show (e'.tupsOnly && true) = true; rw [ht']; rfl)
    · obtain ⟨s2, xs, hx, hr, _, _⟩ := p
      rw [List.take_length] at hr
      exact q _ _ (e1.trans s2) ⟨Dl, xs, rfl, fr, hx, hr⟩
end
end LC
end
section
set_option Elab.async false
set_option linter.all false
set_option maxRecDepth 100000
set_option maxHeartbeats 1000000
/-! Walks that the layer lacks: zip of two and three over lists and tuples, enumerate over both. -/
namespace LC
open PySem PySem.Spec L2
/-! ### one turn of an iterator of tuples, to the layer's turn -/
section
variable {X : Cx} {pins : List (Addr × Obj)} {σ : L2.St} {H : Hp} {s : Shared} {E : Value → Shared → Prop} {it : Addr} {fp wr : List Addr} {n i : Nat} {Pt : Nat → Array Value → Prop} {Z : Nat → Heap → Prop} {Mid : Nat → Addr → Heap → Prop} {elts : List Expr} {kk : Nat} {tpos : Pos}
theorem item_tup {C : List V → Prop} (W : WalksT X.prog X.w X.A it fp wr n Pt Z Mid) (I : Inv X pins σ H s) (hf : ∀ b ∈ wr, FpOk X pins H b) (st : Z i s.heap) (hi : i < n)
    (rel : ∀ vals, Pt i vals → ∃ xs, Vals xs vals.toList ∧ xs.length ≤ sizeLine ∧ C xs) :
    wpAny (model X.prog X.w) X.A (pyNext (.ref it)) (fun r s1 => ∃ u, r = some u ∧ wpAny (model X.prog X.w) X.A (letOwnedTupleGo (.Tuple elts kk tpos) (.ref it) u) (fun _ s2 => ∃ T xs, u = .ref T ∧ H T = none ∧ s.heap.objs.size ≤ T ∧ Inv X pins σ (upd H T (.tup xs)) s2 ∧ C xs ∧ Z (i + 1) s2.heap) E s1) E s := by
  refine W.item i s _ _ hi st fun T vals h1 tk hP hT hTup hm hk => ?_
  obtain ⟨xs, hv, hz, hC⟩ := rel vals hP
  refine ⟨_, rfl, W.go elts kk tpos i T { s with heap := h1, toks := tk } _ _ hm fun h2 st2 hk2 => ?_⟩
  have hTw := W.apart i T h1 hm
  have hn : H T = none := I.hok.fresh hT
  have new : ObjOk X.prog X.w (upd H T (.tup xs)) h2 T (.tup xs) := by
    obtain ⟨o, e1, e2, m, e3⟩ := hTup
    exact ⟨hz, vals.toList, hv, o, hk2 T o hTw e1, e2, m, by rw [Array.toArray_toList]; exact e3⟩
  exact ⟨T, xs, rfl, hn, hT, I.turnedNew (t' := tk) (fun b o hb e => hk2 b o hb (hk b o hb e)) hf hT new, hC, st2⟩
theorem done_tup (W : WalksT X.prog X.w X.A it fp wr n Pt Z Mid) (I : Inv X pins σ H s) (hf : ∀ b ∈ wr, FpOk X pins H b) (st : Z n s.heap) :
    wpAny (model X.prog X.w) X.A (pyNext (.ref it)) (fun r s1 => r = none ∧ Inv X pins σ H s1) E s :=
  W.done s _ _ st fun h1 tk hk => ⟨rfl, I.turnedL (t' := tk) hk hf⟩
end
/-! ### a list or a tuple that is read -/
def Sq (b : Bool) (K : PySem.W.Frag) (H : Hp) (a : Addr) (xs : List V) : Prop := if b then SqT K H a xs else SqL K H a xs
def SqI (b : Bool) (h : Heap) (it a : Addr) (i : Nat) : Prop := if b then h.IsTupleIter it a i else h.IsListIter it a i
def SqO (b : Bool) (h : Heap) (a : Addr) (items : Array Value) : Prop := if b then h.IsTuple a items else h.IsList a items
def itO (b : Bool) (a : Addr) : Obj := { cls := .type (if b then "tuple_iterator" else "list_iterator"), data := .fields #[.ref a, .int 0 0] }
theorem sq_begins (b : Bool) (a : Addr) (items : Array Value) : Begins (.ref a) (itO b a) (fun h => SqO b h a items) := by
  cases b with
  | true => exact begins_tuple a items
  | false => exact begins_list a items
theorem sq_draws {P : Program} {w : World} {A : Around} (b : Bool) (hh : A.handled = none) (it a : Addr) (hne : a ≠ it) (items : Array Value) :
    Draws P w A it [it, a] items.size (fun i v => items[i]? = some v) (fun i h => SqI b h it a i ∧ SqO b h a items) := by
  cases b with
  | true => exact Draws.tuple hh it a hne items
  | false => exact Draws.list hh it a hne items
theorem SqI.obj {b : Bool} {h : Heap} {it a : Addr} {i : Nat} (x : SqI b h it a i) : ∃ o, h.get? it = some o ∧ ∀ v, o.data ≠ .cell v := by
  cases b with
  | true => obtain ⟨o, e, _, d⟩ := x; exact ⟨o, e, fun v q => by rw [d] at q; cases q⟩
  | false => obtain ⟨o, e, _, d⟩ := x; exact ⟨o, e, fun v q => by rw [d] at q; cases q⟩
theorem SqI.keep {b : Bool} {h h' : Heap} {it a : Addr} {i : Nat} (x : SqI b h it a i) (k : ∀ o, h.get? it = some o → h'.get? it = some o) : SqI b h' it a i := by
  cases b with
  | true => exact Heap.IsTupleIter.at x k
  | false => exact Heap.IsListIter.at x k
theorem SqI.made {b : Bool} {h : Heap} {it a : Addr} (e : h.get? it = some (itO b a)) : SqI b h it a 0 := by
  cases b with
  | true => exact ⟨_, e, rfl, rfl⟩
  | false => exact ⟨_, e, rfl, rfl⟩
theorem Sq.at {X : Cx} {pins : List (Addr × Obj)} {σ : L2.St} {H : Hp} {s : Shared} {b : Bool} {a : Addr} {xs : List V} (I : Inv X pins σ H s) (h : Sq b X.K H a xs) : ∃ its : List Value, Vals xs its ∧ SqO b s.heap a its.toArray ∧ a < s.heap.objs.size := by
  cases b with
  | true =>
    obtain ⟨its, r, p, _⟩ := I.tuple h
    obtain ⟨o, e, q⟩ := id p
    exact ⟨its, r, ⟨o, e, q⟩, Heap.lt_size e⟩
  | false =>
    obtain ⟨its, r, p, _⟩ := I.list h
    exact ⟨its, r, p.isList, p.lt⟩
theorem Sq.inj {X : Cx} {pins : List (Addr × Obj)} {σ : L2.St} {H : Hp} {s : Shared} {b : Bool} {a : Addr} {xs ys : List V} (I : Inv X pins σ H s) (h : Sq b X.K H a xs) (g : Sq b X.K H a ys) : xs = ys := by
  cases b with
  | true => exact I.tuple_inj h g
  | false => exact I.list_inj h g
theorem Sq.same {K : PySem.W.Frag} {H H' : Hp} {b : Bool} {a : Addr} {xs : List V} (e : Same H H') (h : Sq b K H a xs) : Sq b K H' a xs := by
  cases b with
  | true => exact same_sqT e h
  | false => exact same_sqL e h
/-! ### zip of two -/
def ItZ2 (b1 b2 : Bool) (K : PySem.W.Frag) (a c : Addr) : It :=
  ⟨fun i H => ∃ (xs ys : List V), Sq b1 K H a xs ∧ Sq b2 K H c ys ∧ i < xs.length ∧ i < ys.length,
    fun i H v H' => ∃ T x y, v = .ref T ∧ H T = none ∧ H' = upd H T (.tup [x, y]) ∧ (∀ xs, Sq b1 K H a xs → xs[i]? = some x) ∧ ∀ ys, Sq b2 K H c ys → ys[i]? = some y,
    fun i H => ∃ xs ys : List V, Sq b1 K H a xs ∧ Sq b2 K H c ys ∧ i = min xs.length ys.length⟩
theorem sep2 {N a c : Nat} (ha : a < N) (hc : c < N) : ZipSep2 (N + 4) (N + 2) (N + 3) N (N + 1) [N, a] [N + 1, c] :=
  zip_sep2 (fp1 := [a]) (fp2 := [c]) (fun b hb => by rw [List.mem_singleton.mp hb]; exact ha) (fun b hb => by rw [List.mem_singleton.mp hb]; exact hc)
theorem turn_z2 {P : Program} {w : World} {K : PySem.W.Frag} {elts : List Expr} {kk : Nat} {tpos : Pos} {b1 b2 : Bool} {a c z TI TO i1 i2 : Addr} (S : ZipSep2 z TI TO i1 i2 [i1, a] [i2, c]) (na : a ≠ i1) (nc : c ≠ i2) :
    Turn P w K (.Tuple elts kk tpos) (ItZ2 b1 b2 K a c) [z, TI, TO, i1, i2] z (fun i h => IsZip h z TI TO .none ∧ IsTupOf2 h TI (.ref i1) (.ref i2) ∧ (∃ x y, IsTupOf2 h TO x y) ∧ SqI b1 h i1 a i ∧ SqI b2 h i2 c i) where
  mem := List.mem_cons_self ..
  obj := fun i h st p hp => by
    obtain ⟨hz, h1, ⟨x, y, h2⟩, h3, h4⟩ := st
    have q : p = z ∨ p = TI ∨ p = TO ∨ p = i1 ∨ p = i2 := by simpa using hp
    rcases q with q | q | q | q | q <;> rw [q]
    · exact ⟨_, hz, fun _ e => nomatch e⟩
    · exact ⟨_, h1, fun _ e => nomatch e⟩
    · exact ⟨_, h2, fun _ e => nomatch e⟩
    · exact h3.obj
    · exact h4.obj
  keep := fun i h h' st k => by
    obtain ⟨hz, h1, ⟨x, y, h2⟩, h3, h4⟩ := st
    exact ⟨k z (by simp) _ hz, k TI (by simp) _ h1, ⟨x, y, k TO (by simp) _ h2⟩, h3.keep (k i1 (by simp)), h4.keep (k i2 (by simp))⟩
  item := by
    intro X hP hw hK hc i pins s σ H E I hf st hg
    subst hP hw hK
    have obj_lt : ∀ b ∈ [z, TI, TO, i1, i2], ∃ o, s.heap.get? b = some o ∧ ∀ v, o.data ≠ .cell v := fun p hp => by
      obtain ⟨hz, h1, ⟨x, y, h2⟩, h3, h4⟩ := st
      have q : p = z ∨ p = TI ∨ p = TO ∨ p = i1 ∨ p = i2 := by simpa using hp
      rcases q with q | q | q | q | q <;> rw [q]
      · exact ⟨_, hz, fun _ e => nomatch e⟩
      · exact ⟨_, h1, fun _ e => nomatch e⟩
      · exact ⟨_, h2, fun _ e => nomatch e⟩
      · exact h3.obj
      · exact h4.obj
    obtain ⟨hz, h1, h2, h3, h4⟩ := st
    obtain ⟨xs, ys, q1, q2, l1, l2⟩ := hg
    obtain ⟨its, r1, o1, _⟩ := q1.at I
    obtain ⟨jts, r2, o2, _⟩ := q2.at I
    have W := WalksT.zipD2 S (sq_draws (P := X.prog) (w := X.w) (A := X.A.in1) b1 (I.ok.hd hc) i1 a na its.toArray) (sq_draws (P := X.prog) (w := X.w) (A := X.A.in1) b2 (I.ok.hd hc) i2 c nc jts.toArray)
    have L1 := r1.length
    have L2 := r2.length
    have hw : ∀ b ∈ [z, TO, i1, i2], FpOk X pins H b := fun b hb => hf b (by
      have q : b = z ∨ b = TO ∨ b = i1 ∨ b = i2 := by simpa using hb
      rcases q with q | q | q | q <;> (rw [q]; simp))
    refine thn (item_tup (elts := elts) (kk := kk) (tpos := tpos) (C := fun l => ∃ x y, l = [x, y] ∧ xs[i]? = some x ∧ ys[i]? = some y) W I hw ⟨hz, h1, h2, ⟨h3, o1⟩, ⟨h4, o2⟩⟩ (by simp; omega) fun vals hv => ?_) fun r s1 hr => ?_
    · obtain ⟨x, y, e1, e2, e3⟩ := hv
      obtain ⟨x', hx⟩ : ∃ x', xs[i]? = some x' := ⟨_, List.getElem?_eq_getElem l1⟩
      obtain ⟨y', hy⟩ : ∃ y', ys[i]? = some y' := ⟨_, List.getElem?_eq_getElem l2⟩
      obtain ⟨u, g1, g2⟩ := r1.get hx
      obtain ⟨v, g3, g4⟩ := r2.get hy
      have e1' : its[i]? = some x := by simpa using e1
      have e2' : jts[i]? = some y := by simpa using e2
      rw [g1] at e1'
      rw [g3] at e2'
      cases e1'
      cases e2'
      refine ⟨[x', y'], ?_, sz (by show 2 ≤ 100000; decide), x', y', rfl, hx, hy⟩
      rw [e3]
      exact .cons g2 (.cons g4 .nil)
    · obtain ⟨u, hr, hs⟩ := hr
      refine ⟨u, hr, thn hs fun _ s2 hq => ?_⟩
      obtain ⟨T, l, hu, hT, hsz, I2, ⟨x, y, el, hx, hy⟩, st⟩ := hq
      subst el hu
      refine ⟨.ref T, _, I2, rfl, ⟨T, x, y, rfl, hT, rfl, fun l hl => by rw [hl.inj I q1]; exact hx, fun l hl => by rw [hl.inj I q2]; exact hy⟩, ⟨st.1, st.2.1, st.2.2.1, st.2.2.2.1.1, st.2.2.2.2.1⟩, fun b hb => ?_⟩
      have hlt : b ≠ T := fun e => by
        obtain ⟨o, ho, _⟩ := obj_lt b hb
        rw [e] at ho
        exact absurd (Nat.lt_of_lt_of_le (Heap.lt_size ho) hsz) (Nat.lt_irrefl _)
      rw [upd_ne hlt]
      exact (hf b hb).1
  done := by
    intro X hP hw hK hc i pins s σ H E I hf st hg
    subst hP hw hK
    obtain ⟨hz, h1, h2, h3, h4⟩ := st
    obtain ⟨xs, ys, q1, q2, l1⟩ := hg
    obtain ⟨its, r1, o1, _⟩ := q1.at I
    obtain ⟨jts, r2, o2, _⟩ := q2.at I
    have W := WalksT.zipD2 S (sq_draws (P := X.prog) (w := X.w) (A := X.A.in1) b1 (I.ok.hd hc) i1 a na its.toArray) (sq_draws (P := X.prog) (w := X.w) (A := X.A.in1) b2 (I.ok.hd hc) i2 c nc jts.toArray)
    have L1 := r1.length
    have L2 := r2.length
    have en : min its.toArray.size jts.toArray.size = i := by rw [List.size_toArray, List.size_toArray, l1, L1, L2]
    rw [← en] at h3 h4
    exact done_tup W I (fun b hb => hf b (by
      have q : b = z ∨ b = TO ∨ b = i1 ∨ b = i2 := by simpa using hb
      rcases q with q | q | q | q <;> (rw [q]; simp))) ⟨hz, h1, h2, ⟨h3, o1⟩, ⟨h4, o2⟩⟩
  self := fun A i s Q E st h => wpAny_pyIter_zip st.1 h
def iZ2 (b1 b2 : Bool) (K : PySem.W.Frag) (ta : TA) : TI := fun σ H R => ta σ H fun vs H1 => ∃ a c xs ys, vs = [.ref a, .ref c] ∧ Sq b1 K H1 a xs ∧ Sq b2 K H1 c ys ∧ R (ItZ2 b1 b2 K a c) H1
theorem pi_z2 {X : Cx} (b1 b2 : Bool) {e e2 : Expr} {ta : TA} {p pos tpos : Pos} {elts : List Expr} {kk : Nat} (hg : Gl X "zip") (hm : X.mg "zip" = none) (ha : PA X [e, e2] ta)
    (hs : starEach [e, e2] X.env = (false, eval e X.env) :: starEach [e2] X.env := by rfl) (hpl : (backTo pos (starEach [e2] X.env)).any (·.1) = false := by rfl) :
    PI X (.Tuple elts kk tpos) (.Call (.Name "zip" p) [e, e2] [] pos) (iZ2 b1 b2 X.K ta) := by
  refine ⟨fun pins s σ H R I h => ?_⟩
  refine PyProof.Rows.Call_ (ld_blt I hg hm PyProof.Rows.boot_zip (PyProof.Rows.callWith_type1 (thn (ha.run pos pins s σ H _ I h) fun us s1 ⟨vs, H1, I1, r1, q1⟩ => ?_) hs hpl))
  obtain ⟨a, c, xs, ys, ex, h1, h2, q⟩ := q1
  subst ex
  obtain ⟨u1, u2, rfl, ra, rc⟩ := vals2 r1
  cases ra
  cases rc
  obtain ⟨its, _, o1, la⟩ := h1.at I1
  obtain ⟨jts, _, o2, lc⟩ := h2.at I1
  refine zip_begins2 (sq_begins b1 a its.toArray) (sq_begins b2 c jts.toArray) o1 o2 fun h' hz hTI hTO g1 g2 hsz hk => wpAny_pyIter_zip hz ?_
  refine ⟨s1.heap.objs.size + 4, [s1.heap.objs.size + 4, s1.heap.objs.size + 2, s1.heap.objs.size + 3, s1.heap.objs.size, s1.heap.objs.size + 1], _, _, H1, rfl, I1.kept (t' := s1.toks) hk,
    turn_z2 (sep2 la lc) (Nat.ne_of_lt la) (Nat.ne_of_lt (Nat.lt_succ_of_lt lc)), ⟨hz, hTI, ⟨_, _, hTO⟩, SqI.made g1, SqI.made g2⟩, fun b hb => ?_, q⟩
  have hle : s1.heap.objs.size ≤ b := by
    have q : b = s1.heap.objs.size + 4 ∨ b = s1.heap.objs.size + 2 ∨ b = s1.heap.objs.size + 3 ∨ b = s1.heap.objs.size ∨ b = s1.heap.objs.size + 1 := by simpa using hb
    have : ∀ k : Nat, s1.heap.objs.size ≤ s1.heap.objs.size + k := fun k => Nat.le_add_right _ _
    rcases q with q | q | q | q | q <;> rw [q] <;> first | exact this _ | exact Nat.le_refl _
  exact I1.fpOk hle (I1.hok.fresh hle)
theorem walk_z2 {K : PySem.W.Frag} {b1 b2 : Bool} {a c : Addr} {xs ys : List V} : Walk (ItZ2 b1 b2 K a c) (min xs.length ys.length) (fun H => Sq b1 K H a xs ∧ Sq b2 K H c ys) (YPair (fun i => xs[i]?) (fun i => ys[i]?)) :=
  ⟨fun i H hi g => ⟨xs, ys, g.1, g.2, by omega, by omega⟩, fun H g => ⟨xs, ys, g.1, g.2, rfl⟩, fun i H v H' _ g ⟨T, x, y, h1, h2, h3, h4, h5⟩ => ⟨T, x, y, h1, h2, h3, h4 xs g.1, h5 ys g.2⟩⟩
/-! ### zip of three -/
def ItZ3 (b1 b2 b3 : Bool) (K : PySem.W.Frag) (a c d : Addr) : It :=
  ⟨fun i H => ∃ (xs ys zs : List V), Sq b1 K H a xs ∧ Sq b2 K H c ys ∧ Sq b3 K H d zs ∧ i < xs.length ∧ i < ys.length ∧ i < zs.length,
    fun i H v H' => ∃ T x y z, v = .ref T ∧ H T = none ∧ H' = upd H T (.tup [x, y, z]) ∧ (∀ xs, Sq b1 K H a xs → xs[i]? = some x) ∧ (∀ ys, Sq b2 K H c ys → ys[i]? = some y) ∧ ∀ zs, Sq b3 K H d zs → zs[i]? = some z,
    fun i H => ∃ xs ys zs : List V, Sq b1 K H a xs ∧ Sq b2 K H c ys ∧ Sq b3 K H d zs ∧ i = min (min xs.length ys.length) zs.length⟩
theorem sep3 {N a c d : Nat} (ha : a < N) (hc : c < N) (hd : d < N) : ZipSep3 (N + 5) (N + 3) (N + 4) N (N + 1) (N + 2) [N, a] [N + 1, c] [N + 2, d] :=
  zip_sep3 (fp1 := [a]) (fp2 := [c]) (fp3 := [d]) (fun b hb => by rw [List.mem_singleton.mp hb]; exact ha) (fun b hb => by rw [List.mem_singleton.mp hb]; exact hc) (fun b hb => by rw [List.mem_singleton.mp hb]; exact hd)
theorem z3_obj {h : Heap} {b1 b2 b3 : Bool} {a c d z TI TO i1 i2 i3 : Addr} {i : Nat} (st : IsZip h z TI TO .none ∧ IsTupOf3 h TI (.ref i1) (.ref i2) (.ref i3) ∧ (∃ x y u, IsTupOf3 h TO x y u) ∧ SqI b1 h i1 a i ∧ SqI b2 h i2 c i ∧ SqI b3 h i3 d i) :
    ∀ b ∈ [z, TI, TO, i1, i2, i3], ∃ o, h.get? b = some o ∧ ∀ v, o.data ≠ .cell v := fun p hp => by
  obtain ⟨hz, h1, ⟨x, y, u, h2⟩, h3, h4, h5⟩ := st
  have q : p = z ∨ p = TI ∨ p = TO ∨ p = i1 ∨ p = i2 ∨ p = i3 := by simpa using hp
  rcases q with q | q | q | q | q | q <;> rw [q]
  · exact ⟨_, hz, fun _ e => nomatch e⟩
  · exact ⟨_, h1, fun _ e => nomatch e⟩
  · exact ⟨_, h2, fun _ e => nomatch e⟩
  · exact h3.obj
  · exact h4.obj
  · exact h5.obj
theorem turn_z3 {P : Program} {w : World} {K : PySem.W.Frag} {elts : List Expr} {kk : Nat} {tpos : Pos} {b1 b2 b3 : Bool} {a c d z TI TO i1 i2 i3 : Addr} (S : ZipSep3 z TI TO i1 i2 i3 [i1, a] [i2, c] [i3, d]) (na : a ≠ i1) (nc : c ≠ i2) (nd : d ≠ i3) :
    Turn P w K (.Tuple elts kk tpos) (ItZ3 b1 b2 b3 K a c d) [z, TI, TO, i1, i2, i3] z (fun i h => IsZip h z TI TO .none ∧ IsTupOf3 h TI (.ref i1) (.ref i2) (.ref i3) ∧ (∃ x y u, IsTupOf3 h TO x y u) ∧ SqI b1 h i1 a i ∧ SqI b2 h i2 c i ∧ SqI b3 h i3 d i) where
  mem := List.mem_cons_self ..
  obj := fun i h st => z3_obj st
  keep := fun i h h' st k => by
    obtain ⟨hz, h1, ⟨x, y, u, h2⟩, h3, h4, h5⟩ := st
    exact ⟨k z (by simp) _ hz, k TI (by simp) _ h1, ⟨x, y, u, k TO (by simp) _ h2⟩, h3.keep (k i1 (by simp)), h4.keep (k i2 (by simp)), h5.keep (k i3 (by simp))⟩
  item := by
    intro X hP hw hK hc i pins s σ H E I hf st hg
    subst hP hw hK
    have obj_lt := z3_obj st
    obtain ⟨hz, h1, h2, h3, h4, h5⟩ := st
    obtain ⟨xs, ys, zs, q1, q2, q3, l1, l2, l3⟩ := hg
    obtain ⟨its, r1, o1, _⟩ := q1.at I
    obtain ⟨jts, r2, o2, _⟩ := q2.at I
    obtain ⟨kts, r3, o3, _⟩ := q3.at I
    have W := WalksT.zipD3 S (sq_draws (P := X.prog) (w := X.w) (A := X.A.in1) b1 (I.ok.hd hc) i1 a na its.toArray) (sq_draws (P := X.prog) (w := X.w) (A := X.A.in1) b2 (I.ok.hd hc) i2 c nc jts.toArray) (sq_draws (P := X.prog) (w := X.w) (A := X.A.in1) b3 (I.ok.hd hc) i3 d nd kts.toArray)
    have L1 := r1.length
    have L2 := r2.length
    have L3 := r3.length
    have hw : ∀ b ∈ [z, TO, i1, i2, i3], FpOk X pins H b := fun b hb => hf b (by
      have q : b = z ∨ b = TO ∨ b = i1 ∨ b = i2 ∨ b = i3 := by simpa using hb
      rcases q with q | q | q | q | q <;> (rw [q]; simp))
    refine thn (item_tup (elts := elts) (kk := kk) (tpos := tpos) (C := fun l => ∃ x y u, l = [x, y, u] ∧ xs[i]? = some x ∧ ys[i]? = some y ∧ zs[i]? = some u) W I hw ⟨hz, h1, h2, ⟨h3, o1⟩, ⟨h4, o2⟩, ⟨h5, o3⟩⟩ (by simp; omega) fun vals hv => ?_) fun r s1 hr => ?_
    · obtain ⟨x, y, t, e1, e2, e3, e4⟩ := hv
      obtain ⟨x', hx⟩ : ∃ x', xs[i]? = some x' := ⟨_, List.getElem?_eq_getElem l1⟩
      obtain ⟨y', hy⟩ : ∃ y', ys[i]? = some y' := ⟨_, List.getElem?_eq_getElem l2⟩
      obtain ⟨z', hz'⟩ : ∃ z', zs[i]? = some z' := ⟨_, List.getElem?_eq_getElem l3⟩
      obtain ⟨u, g1, g2⟩ := r1.get hx
      obtain ⟨v, g3, g4⟩ := r2.get hy
      obtain ⟨k, g5, g6⟩ := r3.get hz'
      have e1' : its[i]? = some x := by simpa using e1
      have e2' : jts[i]? = some y := by simpa using e2
      have e3' : kts[i]? = some t := by simpa using e3
      rw [g1] at e1'
      rw [g3] at e2'
      rw [g5] at e3'
      cases e1'
      cases e2'
      cases e3'
      refine ⟨[x', y', z'], ?_, sz (by show 3 ≤ 100000; decide), x', y', z', rfl, hx, hy, hz'⟩
      rw [e4]
      exact .cons g2 (.cons g4 (.cons g6 .nil))
    · obtain ⟨u, hr, hs⟩ := hr
      refine ⟨u, hr, thn hs fun _ s2 hq => ?_⟩
      obtain ⟨T, l, hu, hT, hsz, I2, ⟨x, y, t, el, hx, hy, ht⟩, st⟩ := hq
      subst el hu
      refine ⟨.ref T, _, I2, rfl, ⟨T, x, y, t, rfl, hT, rfl, fun l hl => by rw [hl.inj I q1]; exact hx, fun l hl => by rw [hl.inj I q2]; exact hy, fun l hl => by rw [hl.inj I q3]; exact ht⟩, ⟨st.1, st.2.1, st.2.2.1, st.2.2.2.1.1, st.2.2.2.2.1.1, st.2.2.2.2.2.1⟩, fun b hb => ?_⟩
      have hlt : b ≠ T := fun e => by
        obtain ⟨o, ho, _⟩ := obj_lt b hb
        rw [e] at ho
        exact absurd (Nat.lt_of_lt_of_le (Heap.lt_size ho) hsz) (Nat.lt_irrefl _)
      rw [upd_ne hlt]
      exact (hf b hb).1
  done := by
    intro X hP hw hK hc i pins s σ H E I hf st hg
    subst hP hw hK
    obtain ⟨hz, h1, h2, h3, h4, h5⟩ := st
    obtain ⟨xs, ys, zs, q1, q2, q3, l1⟩ := hg
    obtain ⟨its, r1, o1, _⟩ := q1.at I
    obtain ⟨jts, r2, o2, _⟩ := q2.at I
    obtain ⟨kts, r3, o3, _⟩ := q3.at I
    have W := WalksT.zipD3 S (sq_draws (P := X.prog) (w := X.w) (A := X.A.in1) b1 (I.ok.hd hc) i1 a na its.toArray) (sq_draws (P := X.prog) (w := X.w) (A := X.A.in1) b2 (I.ok.hd hc) i2 c nc jts.toArray) (sq_draws (P := X.prog) (w := X.w) (A := X.A.in1) b3 (I.ok.hd hc) i3 d nd kts.toArray)
    have en : min (min its.toArray.size jts.toArray.size) kts.toArray.size = i := by rw [List.size_toArray, List.size_toArray, List.size_toArray, l1, r1.length, r2.length, r3.length]
    rw [← en] at h3 h4 h5
    exact done_tup W I (fun b hb => hf b (by
      have q : b = z ∨ b = TO ∨ b = i1 ∨ b = i2 ∨ b = i3 := by simpa using hb
      rcases q with q | q | q | q | q <;> (rw [q]; simp))) ⟨hz, h1, h2, ⟨h3, o1⟩, ⟨h4, o2⟩, ⟨h5, o3⟩⟩
  self := fun A i s Q E st h => wpAny_pyIter_zip st.1 h
def iZ3 (b1 b2 b3 : Bool) (K : PySem.W.Frag) (ta : TA) : TI := fun σ H R => ta σ H fun vs H1 => ∃ a c d xs ys zs, vs = [.ref a, .ref c, .ref d] ∧ Sq b1 K H1 a xs ∧ Sq b2 K H1 c ys ∧ Sq b3 K H1 d zs ∧ R (ItZ3 b1 b2 b3 K a c d) H1
theorem vals3 {x y z : V} {us : List Value} (r : Vals [x, y, z] us) : ∃ u v w, us = [u, v, w] ∧ RelV x u ∧ RelV y v ∧ RelV z w := by
  cases r with
  | cons a r =>
    obtain ⟨u, v, e, h1, h2⟩ := vals2 r
    exact ⟨_, u, v, by rw [e], a, h1, h2⟩
theorem pi_z3 {X : Cx} (b1 b2 b3 : Bool) {e e2 e3 : Expr} {ta : TA} {p pos tpos : Pos} {elts : List Expr} {kk : Nat} (hg : Gl X "zip") (hm : X.mg "zip" = none) (ha : PA X [e, e2, e3] ta)
    (hs : starEach [e, e2, e3] X.env = (false, eval e X.env) :: starEach [e2, e3] X.env := by rfl) (hpl : (backTo pos (starEach [e2, e3] X.env)).any (·.1) = false := by rfl) :
    PI X (.Tuple elts kk tpos) (.Call (.Name "zip" p) [e, e2, e3] [] pos) (iZ3 b1 b2 b3 X.K ta) := by
  refine ⟨fun pins s σ H R I h => ?_⟩
  refine PyProof.Rows.Call_ (ld_blt I hg hm PyProof.Rows.boot_zip (PyProof.Rows.callWith_type1 (thn (ha.run pos pins s σ H _ I h) fun us s1 ⟨vs, H1, I1, r1, q1⟩ => ?_) hs hpl))
  obtain ⟨a, c, d, xs, ys, zs, ex, h1, h2, h3, q⟩ := q1
  subst ex
  obtain ⟨u1, u2, u3, rfl, ra, rc, rd⟩ := vals3 r1
  cases ra
  cases rc
  cases rd
  obtain ⟨its, _, o1, la⟩ := h1.at I1
  obtain ⟨jts, _, o2, lc⟩ := h2.at I1
  obtain ⟨kts, _, o3, ld⟩ := h3.at I1
  refine zip_begins3 (sq_begins b1 a its.toArray) (sq_begins b2 c jts.toArray) (sq_begins b3 d kts.toArray) o1 o2 o3 fun h' hz hTI hTO g1 g2 g3 hsz hk => wpAny_pyIter_zip hz ?_
  refine ⟨s1.heap.objs.size + 5, [s1.heap.objs.size + 5, s1.heap.objs.size + 3, s1.heap.objs.size + 4, s1.heap.objs.size, s1.heap.objs.size + 1, s1.heap.objs.size + 2], _, _, H1, rfl, I1.kept (t' := s1.toks) hk,
    turn_z3 (sep3 la lc ld) (Nat.ne_of_lt la) (Nat.ne_of_lt (Nat.lt_succ_of_lt lc)) (Nat.ne_of_lt (Nat.lt_succ_of_lt (Nat.lt_succ_of_lt ld))), ⟨hz, hTI, ⟨_, _, _, hTO⟩, SqI.made g1, SqI.made g2, SqI.made g3⟩, fun b hb => ?_, q⟩
  have hle : s1.heap.objs.size ≤ b := by
    have q : b = s1.heap.objs.size + 5 ∨ b = s1.heap.objs.size + 3 ∨ b = s1.heap.objs.size + 4 ∨ b = s1.heap.objs.size ∨ b = s1.heap.objs.size + 1 ∨ b = s1.heap.objs.size + 2 := by simpa using hb
    have : ∀ k : Nat, s1.heap.objs.size ≤ s1.heap.objs.size + k := fun k => Nat.le_add_right _ _
    rcases q with q | q | q | q | q | q <;> rw [q] <;> first | exact this _ | exact Nat.le_refl _
  exact I1.fpOk hle (I1.hok.fresh hle)
/-- new triples -/
def YTri (xs ys zs : Nat → Option V) : Nat → Hp → V → Hp → Prop := fun i H v H' => ∃ T x y z, v = .ref T ∧ H T = none ∧ H' = upd H T (.tup [x, y, z]) ∧ xs i = some x ∧ ys i = some y ∧ zs i = some z
theorem walk_z3 {K : PySem.W.Frag} {b1 b2 b3 : Bool} {a c d : Addr} {xs ys zs : List V} : Walk (ItZ3 b1 b2 b3 K a c d) (min (min xs.length ys.length) zs.length) (fun H => Sq b1 K H a xs ∧ Sq b2 K H c ys ∧ Sq b3 K H d zs) (YTri (fun i => xs[i]?) (fun i => ys[i]?) (fun i => zs[i]?)) :=
  ⟨fun i H hi g => ⟨xs, ys, zs, g.1, g.2.1, g.2.2, by omega, by omega, by omega⟩, fun H g => ⟨xs, ys, zs, g.1, g.2.1, g.2.2, rfl⟩, fun i H v H' _ g ⟨T, x, y, z, h1, h2, h3, h4, h5, h6⟩ => ⟨T, x, y, z, h1, h2, h3, h4 xs g.1, h5 ys g.2.1, h6 zs g.2.2⟩⟩
/-! ### enumerate of a tuple -/
theorem enum_new1 {v : Value} {ob : Obj} {Hh : Heap → Prop} (B : Begins v ob Hh) :
    Meets (Builtin.«enumerate.__new__» ⟨[.type "enumerate", v], []⟩) (fun _ R s => Hh s.heap ∧
      R (.ok (.ret (.ref (s.heap.push ob).objs.size))) { s with heap := (s.heap.push ob).push { cls := .type "enumerate", data := .fields #[.none, .bool false, .ref s.heap.objs.size, rawInt 0, .none, .none] } }) :=
  .of_wp fun P w A R s hh => by
    obtain ⟨hp, gs, dr, tk, os⟩ := s
    obtain ⟨h1, hh⟩ := hh
    have sub := sub_enumerate
    have step : ∀ {A' : Around} {E : Value → Shared → Prop} {Q : Value → Shared → Prop}, Q (.ref hp.objs.size) ⟨hp.push ob, gs, dr, tk, os⟩ → wpAny (model P w) A' (pyIter v) Q E ⟨hp, gs, dr, tk, os⟩ :=
      fun q => B.iter P w _ _ ⟨hp, gs, dr, tk, os⟩ _ h1 q
    wp_walk using step
    refine wpAny_stack_any fun st => wpAny_pure ?_
    split
    · rename_i c _ _ _ _ _
      cases (c == Value.type "enumerate") <;> (wp_walk using step; exact ⟨_, rfl, hh⟩)
    · wp_walk using step
      exact ⟨_, rfl, hh⟩
theorem call_enum1 {P : Program} {w : World} {A : Around} {E : Value → Shared → Prop} {s : Shared} {v : Value} {ob : Obj} {Hh : Heap → Prop} {Q : Value → Shared → Prop} (B : Begins v ob Hh) (h1 : Hh s.heap)
    (h : ∀ h', IsEnum h' (s.heap.objs.size + 1) s.heap.objs.size 0 .none → h'.get? s.heap.objs.size = some ob → h'.objs.size = s.heap.objs.size + 2 → (∀ b o, s.heap.get? b = some o → h'.get? b = some o) → Q (.ref (s.heap.objs.size + 1)) { s with heap := h' }) :
    wpAny (model P w) A (call (.type "enumerate") [v]) Q E s := by
  refine callType_new F.called_enumerate (by decide) (F.typeCall_enumerate_1 _) (F.newCall_enumerate_1 _) (fun obj => F.args_object_init_2 obj _) F.entry_enumerate_new (enum_new1 B) ⟨h1, ?_⟩
  have hz : (s.heap.push ob).objs.size = s.heap.objs.size + 1 := Heap.size_push ..
  show _ ∧ _
  rw [hz]
  have he : IsEnum ((s.heap.push ob).push { cls := .type "enumerate", data := .fields #[.none, .bool false, .ref s.heap.objs.size, rawInt 0, .none, .none] }) (s.heap.objs.size + 1) s.heap.objs.size 0 .none := by
    have q := Heap.get?_push_size (s.heap.push ob) (o := { cls := .type "enumerate", data := .fields #[.none, .bool false, .ref s.heap.objs.size, rawInt 0, .none, .none] }) rfl
    rw [hz] at q
    exact q
  exact ⟨⟨_, he, rfl⟩, h _ he (Heap.get?_push_of_some _ (Heap.get?_push_size _ B.free)) (by rw [Heap.size_push, hz]) fun b o x => Heap.get?_push_of_some _ (Heap.get?_push_of_some _ x)⟩
def ItE (b1 : Bool) (K : PySem.W.Frag) (a : Addr) : It :=
  ⟨fun i H => ∃ xs : List V, Sq b1 K H a xs ∧ i < xs.length,
    fun i H v H' => ∃ T x, v = .ref T ∧ H T = none ∧ H' = upd H T (.tup [.int (i : Int), x]) ∧ ∀ xs, Sq b1 K H a xs → xs[i]? = some x,
    fun i H => ∃ xs : List V, Sq b1 K H a xs ∧ i = xs.length⟩
theorem turn_e {P : Program} {w : World} {K : PySem.W.Frag} {elts : List Expr} {kk : Nat} {tpos : Pos} {b1 : Bool} {a e it : Addr} (hei : e ≠ it) (hea : e ≠ a) (na : a ≠ it) :
    Turn P w K (.Tuple elts kk tpos) (ItE b1 K a) [e, it] e (fun i h => (∃ old, IsEnum h e it (0 + (i : Int)) old) ∧ SqI b1 h it a i) where
  mem := List.mem_cons_self ..
  obj := fun i h st p hp => by
    obtain ⟨⟨old, he⟩, h3⟩ := st
    have q : p = e ∨ p = it := by simpa using hp
    rcases q with q | q <;> rw [q]
    · exact ⟨_, he, fun _ e => nomatch e⟩
    · exact h3.obj
  keep := fun i h h' st k => by
    obtain ⟨⟨old, he⟩, h3⟩ := st
    exact ⟨⟨old, k e (by simp) _ he⟩, h3.keep (k it (by simp))⟩
  item := by
    intro X hP hw hK hc i pins s σ H E I hf st hg
    subst hP hw hK
    obtain ⟨⟨old, he⟩, h3⟩ := st
    obtain ⟨xs, q1, l1⟩ := hg
    obtain ⟨its, r1, o1, _⟩ := q1.at I
    have W := WalksT.enumFrom (A := X.A) 0 (sq_draws (P := X.prog) (w := X.w) (A := X.A.in1) b1 (I.ok.hd hc) it a na its.toArray) e hei (by
      intro q
      have q : e = it ∨ e = a := by simpa using q
      rcases q with q | q
      · exact hei q
      · exact hea q) (List.mem_cons_self ..)
    have L1 := r1.length
    refine thn (item_tup (elts := elts) (kk := kk) (tpos := tpos) (C := fun l => ∃ x, l = [.int (i : Int), x] ∧ xs[i]? = some x) W I hf ⟨⟨old, he⟩, h3, o1⟩ (by simp; omega) fun vals hv => ?_) fun r s1 hr => ?_
    · obtain ⟨t, x, e1, e2⟩ := hv
      obtain ⟨x', hx⟩ : ∃ x', xs[i]? = some x' := ⟨_, List.getElem?_eq_getElem l1⟩
      obtain ⟨u, g1, g2⟩ := r1.get hx
      have e1' : its[i]? = some x := by simpa using e1
      rw [g1] at e1'
      cases e1'
      refine ⟨[.int (i : Int), x'], ?_, sz (by show 2 ≤ 100000; decide), x', rfl, hx⟩
      rw [e2, Int.zero_add]
      exact .cons ⟨t, rfl⟩ (.cons g2 .nil)
    · obtain ⟨u, hr, hs⟩ := hr
      refine ⟨u, hr, thn hs fun _ s2 hq => ?_⟩
      obtain ⟨T, l, hu, hT, hsz, I2, ⟨x, el, hx⟩, st⟩ := hq
      subst el hu
      refine ⟨.ref T, _, I2, rfl, ⟨T, x, rfl, hT, rfl, fun l hl => by rw [hl.inj I q1]; exact hx⟩, ⟨st.1, st.2.1⟩, fun b hb => ?_⟩
      have hlt : b ≠ T := fun q => by
        have q2 : b = e ∨ b = it := by simpa using hb
        rw [← q] at hsz
        rcases q2 with q2 | q2
        · rw [q2] at hsz
          exact absurd (Nat.lt_of_lt_of_le (Heap.lt_size he) hsz) (Nat.lt_irrefl _)
        · obtain ⟨o, ho, _⟩ := h3.obj
          rw [q2] at hsz
          exact absurd (Nat.lt_of_lt_of_le (Heap.lt_size ho) hsz) (Nat.lt_irrefl _)
      rw [upd_ne hlt]
      exact (hf b hb).1
  done := by
    intro X hP hw hK hc i pins s σ H E I hf st hg
    subst hP hw hK
    obtain ⟨⟨old, he⟩, h3⟩ := st
    obtain ⟨xs, q1, l1⟩ := hg
    obtain ⟨its, r1, o1, _⟩ := q1.at I
    have W := WalksT.enumFrom (A := X.A) 0 (sq_draws (P := X.prog) (w := X.w) (A := X.A.in1) b1 (I.ok.hd hc) it a na its.toArray) e hei (by
      intro q
      have q : e = it ∨ e = a := by simpa using q
      rcases q with q | q
      · exact hei q
      · exact hea q) (List.mem_cons_self ..)
    have en : its.toArray.size = i := by rw [List.size_toArray, l1, r1.length]
    refine done_tup W I hf ?_
    rw [en]
    exact ⟨⟨old, he⟩, h3, o1⟩
  self := fun A i s Q E st h => let ⟨⟨_, he⟩, _⟩ := st; wpAny_pyIter_enum he h
def iE (b1 : Bool) (K : PySem.W.Frag) (ta : TA) : TI := fun σ H R => ta σ H fun vs H1 => ∃ a xs, vs = [.ref a] ∧ Sq b1 K H1 a xs ∧ R (ItE b1 K a) H1
theorem pi_e {X : Cx} (b1 : Bool) {e : Expr} {ta : TA} {p pos tpos : Pos} {elts : List Expr} {kk : Nat} (hg : Gl X "enumerate") (hm : X.mg "enumerate" = none) (ha : PA X [e] ta)
    (hs : starEach [e] X.env = [(false, eval e X.env)] := by rfl) : PI X (.Tuple elts kk tpos) (.Call (.Name "enumerate" p) [e] [] pos) (iE b1 X.K ta) := by
  refine ⟨fun pins s σ H R I h => ?_⟩
  refine PyProof.Rows.Call_ (ld_blt I hg hm PyProof.Rows.boot_enumerate (PyProof.Rows.callWith_type1 (thn (ha.run pos pins s σ H _ I h) fun us s1 ⟨vs, H1, I1, r1, q1⟩ => ?_) hs rfl))
  obtain ⟨a, xs, ex, h1, q⟩ := q1
  subst ex
  obtain ⟨u1, rfl, ra⟩ := vals1 r1
  cases ra
  obtain ⟨its, _, o1, la⟩ := h1.at I1
  refine call_enum1 (sq_begins b1 a its.toArray) o1 fun h' he g1 hsz hk => wpAny_pyIter_enum he ?_
  refine ⟨s1.heap.objs.size + 1, [s1.heap.objs.size + 1, s1.heap.objs.size], _, _, H1, rfl, I1.kept (t' := s1.toks) hk, turn_e (b1 := b1) (Nat.succ_ne_self _) (Nat.ne_of_gt (Nat.lt_succ_of_lt la)) (Nat.ne_of_lt la), ⟨⟨.none, he⟩, SqI.made g1⟩, fun b hb => ?_, q⟩
  have hle : s1.heap.objs.size ≤ b := by
    have q : b = s1.heap.objs.size + 1 ∨ b = s1.heap.objs.size := by simpa using hb
    rcases q with q | q <;> rw [q]
    · exact Nat.le_succ _
    · exact Nat.le_refl _
  exact I1.fpOk hle (I1.hok.fresh hle)
theorem walk_e {K : PySem.W.Frag} {b1 : Bool} {a : Addr} {xs : List V} : Walk (ItE b1 K a) xs.length (fun H => Sq b1 K H a xs) (YPair (fun i => some (.int (i : Int))) (fun i => xs[i]?)) :=
  ⟨fun i H hi g => ⟨xs, g, hi⟩, fun H g => ⟨xs, g, rfl⟩, fun i H v H' _ g ⟨T, x, h1, h2, h3, h4⟩ => ⟨T, .int (i : Int), x, h1, h2, h3, rfl, h4 xs g⟩⟩
end LC
end
section
set_option Elab.async false
set_option linter.all false
set_option maxRecDepth 100000
set_option maxHeartbeats 1000000
/-! Dicts with tuple keys: walked by items and values, made by a comprehension, by a display of one pair. -/
namespace LC
open PySem PySem.Spec L2
section
variable {X : Cx} {pins : List (Addr × Obj)} {σ : L2.St} {H : Hp} {s : Shared} {d : Addr} {o : Obj}
theorem frzTv {kvs : List (List Key × V)} (I : Inv X pins σ H s) (h : H d = some (.frz o (.dT kvs))) :
    (d == sysModules) = false ∧ s.heap.get? d = some o ∧ o.ExactDict ∧ ∃ (es : Array DictEntry) (ep : Nat), o.data = .dict es ep ∧ es.size = kvs.length ∧
      ∀ (i : Nat) (hi : i < es.size) (k : List Key) (v : V), kvs[i]? = some (k, v) → ∃ q : Addr, es[i].key = .ref q ∧ H q = some (.tup (k.map kV)) ∧ RelV v es[i].val := by
  obtain ⟨hd, z, hs, xs, pr, o', es, ep, ho, hx, hdt, he, _⟩ := I.hok d _ h
  rw [hd] at ho
  cases ho
  refine ⟨hs, hd, hx, es, ep, hdt, ?_, fun i hi k v e => ?_⟩
  · have l1 : es.size = xs.length := size_of_entries he
    have l2 : kvs.length = xs.length := Paired.length pr
    omega
  · obtain ⟨b, hb, e1, e2, e3⟩ := paired_get pr e
    have q := entry_at he i
    rw [hb, Array.getElem?_eq_getElem hi, Option.map_some] at q
    have q' := Option.some.inj q
    refine ⟨b.2.1, ?_, e2, ?_⟩
    · rw [q']; rfl
    · rw [q']; exact e3
/-- the values of a dict with tuple keys | its pairs, each a new tuple -/
def ItdT (d : Addr) (o : Obj) (kvs : List (List Key × V)) : It :=
  ⟨fun i H => H d = some (.frz o (.dT kvs)) ∧ i < kvs.length, fun i H x H' => H' = H ∧ ∃ k, kvs[i]? = some (k, x), fun i H => H d = some (.frz o (.dT kvs)) ∧ i = kvs.length⟩
def ItiT (d : Addr) (o : Obj) (kvs : List (List Key × V)) : It :=
  ⟨fun i H => H d = some (.frz o (.dT kvs)) ∧ i < kvs.length, fun i H x H' => ∃ T q k v, kvs[i]? = some (k, v) ∧ H q = some (.tup (k.map kV)) ∧ x = .ref T ∧ H T = none ∧ H' = upd H T (.tup [.ref q, v]), fun i H => H d = some (.frz o (.dT kvs)) ∧ i = kvs.length⟩
end
section
variable {P : Program} {w : World} {K : PySem.W.Frag} {tg : Expr} {d : Addr} {o : Obj} {es : Array DictEntry} {ep : Nat}
theorem turn_valsT {kvs : List (List Key × V)} (it : Addr) (hod : o.data = .dict es ep) : Turn P w K tg (ItdT d o kvs) [it] it (fun i h => h.IsValIter it d i es.size ep) where
  mem := by simp
  obj := fun i h st b hb => by
    have e : b = it := by simpa using hb
    subst e
    obtain ⟨oi, e, c, dd⟩ := st
    exact ⟨oi, e, fun v z => by rw [dd] at z; cases z⟩
  keep := fun i h h' st k => st.at fun oi e => k it (by simp) oi e
  item := by
    intro X hP hw hK hc i pins s σ H E I hf st hg
    subst hP hw hK
    obtain ⟨hd, hi⟩ := hg
    obtain ⟨f0, f1, f2, f3, f4, f5⟩ := hf it (by simp)
    obtain ⟨hs, hgd, hx, es', ep', hdt, hsz, ent⟩ := frzTv I hd
    obtain ⟨rfl, rfl⟩ := dict_ep hod hdt
    obtain ⟨⟨k, v⟩, hkv⟩ : ∃ p, kvs[i]? = some p := ⟨kvs[i], List.getElem?_eq_getElem hi⟩
    have hi' : i < es'.size := by omega
    obtain ⟨q, _, _, ru⟩ := ent i hi' k v hkv
    refine wpAny_pyNext_values_item_raw st ⟨o, hgd, hx, hdt⟩ hi' fun h' st' sb => ?_
    have I1 : Inv X pins σ H { s with heap := h' } := I.turned (t' := s.toks) (fun b ob hb e => (sb.2 b hb).trans e) f0 f1 f3 f4 f5
    obtain ⟨oi, e, c, dd⟩ := id st'
    exact ⟨_, rfl, go_of (s := { s with heap := h' }) e c dd (by decide) ⟨v, H, I1, ru, ⟨rfl, k, hkv⟩, st', fun b hb => (hf b hb).1⟩⟩
  done := by
    intro X hP hw hK hc i pins s σ H E I hf st hg
    subst hP hw hK
    obtain ⟨hd, hi⟩ := hg
    obtain ⟨f0, f1, f2, f3, f4, f5⟩ := hf it (by simp)
    obtain ⟨hs, hgd, hx, es', ep', hdt, hsz, ent⟩ := frzTv I hd
    obtain ⟨rfl, rfl⟩ := dict_ep hod hdt
    exact wpAny_pyNext_values_end_raw (I.ok.hd hc) st ⟨o, hgd, hx, hdt⟩ (by omega) fun h' eb => ⟨rfl, I.turned (t' := s.toks) (fun b ob hb e => eb b ob hb e) f0 f1 f3 f4 f5⟩
  self := fun A i s Q E st h => wpAny_pyIter_valiter st h
theorem turn_itemsT {kvs : List (List Key × V)} {elts : List Expr} {kk : Nat} {tpos : Pos} (it : Addr) (ne : d ≠ it) (hod : o.data = .dict es ep) :
    Turn P w K (.Tuple elts kk tpos) (ItiT d o kvs) [it] it (fun i h => ∃ ok ov, IsItemIter h it d i es.size ep ok ov) where
  mem := by simp
  obj := fun i h st b hb => by
    have e : b = it := by simpa using hb
    subst e
    obtain ⟨ok, ov, e⟩ := st
    exact ⟨_, e, fun v z => nomatch z⟩
  keep := fun i h h' st k => let ⟨ok, ov, e⟩ := st; ⟨ok, ov, k it (by simp) _ e⟩
  item := by
    intro X hP hw hK hc i pins s σ H E I hf st hg
    subst hP hw hK
    obtain ⟨hd, hi⟩ := hg
    obtain ⟨hs, hgd, hx, es', ep', hdt, hsz, ent⟩ := frzTv I hd
    obtain ⟨rfl, rfl⟩ := dict_ep hod hdt
    have hlt : it < s.heap.objs.size := by obtain ⟨ok, ov, e⟩ := st; exact Heap.lt_size e
    have hi' : i < es'.size := by omega
    have W := WalksT.rawItems (prog := X.prog) (w := X.w) (A := X.A) (I.ok.hd hc) it d ne es' ep'
    refine thn (item_tup (elts := elts) (kk := kk) (tpos := tpos) (C := fun l => ∃ q k v, l = [.ref q, v] ∧ kvs[i]? = some (k, v) ∧ H q = some (.tup (k.map kV))) W I (fun b hb => hf b (by simpa using hb)) ⟨st, o, hgd, hx, hdt⟩ hi' fun vals hv => ?_) fun r s1 hr => ?_
    · obtain ⟨h1, e1⟩ := hv
      obtain ⟨⟨k, v⟩, hkv⟩ : ∃ p, kvs[i]? = some p := ⟨kvs[i], List.getElem?_eq_getElem hi⟩
      obtain ⟨q, g1, g2, g3⟩ := ent i hi' k v hkv
      refine ⟨[.ref q, v], ?_, sz (by show 2 ≤ 100000; decide), q, k, v, rfl, hkv, g2⟩
      rw [e1]
      exact .cons g1 (.cons g3 .nil)
    · obtain ⟨u, hr, hs⟩ := hr
      refine ⟨u, hr, thn hs fun _ s2 hq => ?_⟩
      obtain ⟨T, l, hu, hT, hsz2, I2, ⟨q, k, v, el, hkv, hq⟩, st2⟩ := hq
      subst el hu
      refine ⟨.ref T, _, I2, rfl, ⟨T, q, k, v, hkv, hq, rfl, hT, rfl⟩, st2.1, fun b hb => ?_⟩
      have e : b = it := by simpa using hb
      rw [upd_ne (by rw [e]; exact Nat.ne_of_lt (Nat.lt_of_lt_of_le hlt hsz2))]
      exact (hf b hb).1
  done := by
    intro X hP hw hK hc i pins s σ H E I hf st hg
    subst hP hw hK
    obtain ⟨hd, hi⟩ := hg
    obtain ⟨hs, hgd, hx, es', ep', hdt, hsz, ent⟩ := frzTv I hd
    obtain ⟨rfl, rfl⟩ := dict_ep hod hdt
    have W := WalksT.rawItems (prog := X.prog) (w := X.w) (A := X.A) (I.ok.hd hc) it d ne es' ep'
    refine done_tup W I (fun b hb => hf b (by simpa using hb)) ?_
    rw [hsz, ← hi]
    rw [← hi] at hsz
    rw [hsz] at st
    exact ⟨st, o, hgd, hx, hdt⟩
  self := fun A i s Q E st h => let ⟨_, _, e⟩ := st; PySem.W.kcp_self e h
end
def iValsT (td : TE) : TI := fun σ H R => td σ H fun x H1 => ∃ d o kvs, x = .ref d ∧ H1 d = some (.frz o (.dT kvs)) ∧ R (ItdT d o kvs) H1
def iItemsT (td : TE) : TI := fun σ H R => td σ H fun x H1 => ∃ d o kvs, x = .ref d ∧ H1 d = some (.frz o (.dT kvs)) ∧ R (ItiT d o kvs) H1
section
variable {X : Cx} {tg e : Expr} {td : TE} {apos cpos : Pos}
theorem pi_valuesT (he : PE X e td) (hbase : attributeBase e "values" X.env (eval e X.env) = eval e X.env := by rfl) (hline : (apos.endLine == cpos.line) = true := by rfl) : PI X tg (.Call (.Attribute e "values" apos) [] [] cpos) (iValsT td) := by
  refine ⟨fun pins s σ H R I h => ?_⟩
  refine wpAny_Call_method (T := "dict") (id := "dict.values") hbase rfl hline F.plainAttrs_dict F.slot_dict_values F.type_dict_values (thn (he.run pins s σ H _ I h) fun u s1 ⟨x, H1, I1, rx, d, o, kvs, ex, hd, q⟩ => ?_)
  subst ex
  obtain rfl : u = Value.ref d := rx
  obtain ⟨hs, hgd, hx, es, ep, hdt, hsz, ent⟩ := frzTv I1 hd
  have raw : s1.heap.DictRaw d es ep := ⟨o, hgd, hx, hdt⟩
  refine ⟨raw.typeIs, fun b q => by cases q; exact ⟨o, hgd, hx.2.1⟩, ?_⟩
  have I2 : Inv X pins σ H1 { s1 with heap := s1.heap.push { cls := .type "dict_values", data := .fields #[.ref d] } } := I1.kept (t' := s1.toks) fun b ob q => Heap.get?_push_of_some _ q
  have fin : wpAny (model X.prog X.w) X.A (pyIter (.ref s1.heap.objs.size)) (PIE X pins σ tg R) X.xe { s1 with heap := s1.heap.push { cls := .type "dict_values", data := .fields #[.ref d] } } :=
    wpAny_pyIter_values_raw (d := d) ⟨_, Heap.get?_push_size _ rfl, rfl, rfl⟩ (raw.at fun _ e => Heap.get?_push_of_some _ e) (pi_one (tk := s1.toks) I2 _ (turn_valsT _ hdt) ⟨_, Heap.get?_push_size _ rfl, rfl, rfl⟩ q)
  show wpAny _ _ (callWith cpos (.builtin "dict.values") [.ref d] [] []) _ X.xe s1
  exact method_meetsIn F.slot_dict_values F.entry_dict_values rfl (PySem.evalArgs_none ⟨rfl, raw.typeIs, F.args_dict_values_1 _, _, meets_dict_values_raw d hs, ⟨es, ep, raw⟩, fin⟩)
theorem pi_itemsT {elts : List Expr} {kk : Nat} {tpos : Pos} (he : PE X e td) (hbase : attributeBase e "items" X.env (eval e X.env) = eval e X.env := by rfl) (hline : (apos.endLine == cpos.line) = true := by rfl) :
    PI X (.Tuple elts kk tpos) (.Call (.Attribute e "items" apos) [] [] cpos) (iItemsT td) := by
  refine ⟨fun pins s σ H R I h => ?_⟩
  refine wpAny_Call_method (T := "dict") (id := "dict.items") hbase rfl hline F.plainAttrs_dict F.slot_dict_items F.type_dict_items (thn (he.run pins s σ H _ I h) fun u s1 ⟨x, H1, I1, rx, d, o, kvs, ex, hd, q⟩ => ?_)
  subst ex
  obtain rfl : u = Value.ref d := rx
  obtain ⟨hs, hgd, hx, es, ep, hdt, hsz, ent⟩ := frzTv I1 hd
  have raw : s1.heap.DictRaw d es ep := ⟨o, hgd, hx, hdt⟩
  refine ⟨raw.typeIs, fun b q => by cases q; exact ⟨o, hgd, hx.2.1⟩, ?_⟩
  have I2 : Inv X pins σ H1 { s1 with heap := s1.heap.push { cls := .type "dict_items", data := .fields #[.ref d] } } := I1.kept (t' := s1.toks) fun b ob q => Heap.get?_push_of_some _ q
  have fin : wpAny (model X.prog X.w) X.A (pyIter (.ref s1.heap.objs.size)) (PIE X pins σ (.Tuple elts kk tpos) R) X.xe { s1 with heap := s1.heap.push { cls := .type "dict_items", data := .fields #[.ref d] } } := by
    refine wpAny_pyIter_items_raw (d := d) ⟨_, Heap.get?_push_size _ rfl, rfl, rfl⟩ (raw.at fun _ e => Heap.get?_push_of_some _ e) (pi_one (tk := s1.toks) I2 _ (turn_itemsT _ (Nat.ne_of_lt ?_) hdt) ⟨.none, .none, Heap.get?_push_size _ rfl⟩ q)
    exact Heap.lt_size (Heap.get?_push_of_some _ hgd)
  show wpAny _ _ (callWith cpos (.builtin "dict.items") [.ref d] [] []) _ X.xe s1
  exact method_meetsIn F.slot_dict_items F.entry_dict_items rfl (PySem.evalArgs_none ⟨rfl, raw.typeIs, F.args_dict_items_1 _, _, meets_dict_items_raw d hs, ⟨es, ep, raw⟩, fin⟩)
end
theorem walk_valsT {d : Addr} {o : Obj} {kvs : List (List Key × V)} : Walk (ItdT d o kvs) kvs.length (fun H => H d = some (.frz o (.dT kvs))) (fun i H x H' => H' = H ∧ ∃ k, kvs[i]? = some (k, x)) :=
  ⟨fun i H hi g => ⟨g, hi⟩, fun H g => ⟨g, rfl⟩, fun i H v H' _ g y => y⟩
theorem walk_itemsT {d : Addr} {o : Obj} {kvs : List (List Key × V)} : Walk (ItiT d o kvs) kvs.length (fun H => H d = some (.frz o (.dT kvs)))
    (fun i H x H' => ∃ T q k v, kvs[i]? = some (k, v) ∧ H q = some (.tup (k.map kV)) ∧ x = .ref T ∧ H T = none ∧ H' = upd H T (.tup [.ref q, v])) :=
  ⟨fun i H hi g => ⟨g, hi⟩, fun H g => ⟨g, rfl⟩, fun i H v H' _ g y => y⟩
end LC
end
section
set_option Elab.async false
set_option linter.all false
set_option maxRecDepth 100000
set_option maxHeartbeats 1000000
/-! A dict with tuple keys: comprehension, display of one pair. -/
namespace LC
open PySem PySem.Spec L2
/-- d[k] = v by a comprehension, k a tracked tuple -/
theorem dT_dictSet {X : Cx} {pins : List (Addr × Obj)} {σ : L2.St} {H : Hp} {s : Shared} {E : Value → Shared → Prop} {D b : Addr} {kvs : List (List Key × V)} {k : List Key} {v : V} {r : Value} {Q : Unit → Shared → Prop} (hu : X.A.units < cLine) (I : Inv X pins σ H s) (hD : H D = some (.dT kvs))
    (hb : H b = some (.tup (k.map kV))) (hz : kvs.length < sizeLine) (rv : RelV v r) (h : ∀ s', Inv X pins σ (upd H D (.dT (putK kvs k v))) s' → Q () s') : wpAny (model X.prog X.w) X.A (dictSet D (.ref b) r) Q E s := by
  obtain ⟨z, hd, xs, rel, dd⟩ := dt_of I.hok hD
  have hl : (putK kvs k v).length ≤ sizeLine := by have := length_putK kvs k v; omega
  refine wpAny_dictSet_heap (hsz := by rw [← Paired.length rel]; exact z) (knd := tupleKind (mixKind X.prog X.w)) (show (tupleKind (mixKind X.prog X.w)).room X.A from hu) (key_of I.hok hb) dd (fun h' dd' hs => h _ ?_)
  obtain ⟨q, es, ep, hq, h2, h3, h4, _, h5⟩ := dd'
  refine d_write I (by rw [hD]; exact True.intro) hs ⟨q, hq⟩ ⟨hl, hd, _, (rel.put k hb rv).keeps fun c ys ec => ?_, q, es, ep, hq, h2, h3, h4, h5⟩
  rw [upd_ne (ne_of ec hD (fun z => nomatch z))]
  exact ec
/-- {k: v for target in iter if ..}, keys tuples -/
def tDcT (wi : TI) (g : TG) (tt : TT) (tk tv : TE) (vs : List Nat) : TE := fun σ H Q => wi σ H fun J H1 => ∀ D, H1 D = none → ∃ W : Nat → Nat → Hp → Prop, (∃ m, W 0 m (upd H1 D (.dT []))) ∧ ∀ i m H, W i m H →
  (J.stop i H ∧ Q (.ref D) H) ∨ (J.go i H ∧ ∃ Nx : Hp → Prop, (∀ H', Nx H' → ∃ m', m' < m ∧ W (i + 1) m' H') ∧ ∀ x H', J.yld i H x H' → g x (wipe σ vs) H' fun σ2 H2 => wipe σ2 vs = wipe σ vs ∧ tt σ2 H2 fun b H3 =>
    if b = true then tk σ2 H3 fun y H4 => tv σ2 H4 fun z H5 => ∃ kvs k b, y = .ref b ∧ H5 b = some (.tup (k.map kV)) ∧ H5 D = some (.dT kvs) ∧ kvs.length < sizeLine ∧ Nx (upd H5 D (.dT (putK kvs k z))) else Nx H3)
section
variable {X : Cx}
theorem dcT_core {pins : List (Addr × Obj)} {s : Shared} {σ : L2.St} {H : Hp} {Q : VK} {kx vx tg iter : Expr} {ifs : List Expr} {scope : Scope} {own : List (Str × Nat)} {pos pos' : Pos} {wi : TI} {g : TG} {tt : TT} {tk tv : TE} {use : Option (Value → Sem Unit)} {Qf : Value → Shared → Prop} (I : Inv X pins σ H s)
    (hu : X.A.units < cLine) (hc : X.calm = true) (hN : X.N.Nodup) (hi : PI X tg iter wi) (ok : BlkOk X.N X.env.scope scope own)
    (hg : ∀ (s : Shared) (H : Hp) (C : Addr) (cl : List (Str × Addr)) (fp : List Addr), PG (X.blk s H scope (compEnvC scope cl C X.env) fp) tg g) (ht : ∀ (s : Shared) (H : Hp) (C : Addr) (cl : List (Str × Addr)) (fp : List Addr), PTs (X.blk s H scope (compEnvC scope cl C X.env) fp) ifs tt)
    (hk : ∀ (s : Shared) (H : Hp) (C : Addr) (cl : List (Str × Addr)) (fp : List Addr), PE (X.blk s H scope (compEnvC scope cl C X.env) fp) kx tk)
    (he : ∀ (s : Shared) (H : Hp) (C : Addr) (cl : List (Str × Addr)) (fp : List Addr), PE (X.blk s H scope (compEnvC scope cl C X.env) fp) vx tv)
    (hs : ∀ x, foldedSetIterable iter X.env x = pure x) (h : tDcT wi g tt tk tv (own.map (·.2)) σ H Q)
    (hRR : ∀ D C s' m H', Inv X pins σ H' s' → Q (.ref D) H' → s'.heap.Ns C m → FpOk X pins H' C → compPost (model X.prog X.w) X.A X.xe use Qf (.ref D) C (.ok .next) s') :
    wpAny (model X.prog X.w) X.A (comprehension (.DictComp kx vx [⟨tg, iter, ifs, 0⟩] scope pos) scope X.env pos' newDict false (eval iter X.env) use) Qf X.xe s := by
  have hfree : ∀ y ∈ scope.names, y.2 = .free → ∃ c, X.env.cells.lookup y.1 = some c := fun y hy e => (ok.free y hy e).elim (fun k => I.ok.has _ (.inl k)) fun k => I.ok.has _ (.inr k)
  refine wpAny_comprehension_free (use := use) rfl hs (closure_ok hfree) ok.kind (fun y hy e => by rw [ok.uniq y hy, e])
    (thn (hi.run pins s σ H _ I h) fun xv s1 hx => thn hx fun itv s2 h2 => ?_)
  obtain ⟨it, fp, tn, J, H2, e, I2, T, st2, f2, q⟩ := h2
  subst e
  refine wpAny_newObj_type (newEnv_comp ?_)
  generalize hD : s2.heap.objs.size = D
  have hDn : H2 D = none := I2.hok.fresh (Nat.le_of_eq hD)
  obtain ⟨W, ⟨m0, w0⟩, turn⟩ := q D hDn
  generalize hs3 : ({ s2 with heap := s2.heap.push { cls := .type "dict", data := .dict #[] } } : Shared) = s3
  have I3 : Inv X pins σ (upd H2 D (.dT [])) s3 := by
    rw [← hs3]
    refine I2.laid (t' := s2.toks) (fun b o e => Heap.get?_push_of_some _ e) (Nat.le_of_eq hD) ?_
    rw [← hD]
    exact dt_empty s2.heap I2.big
  have h3 : s3.heap = s2.heap.push { cls := .type "dict", data := .dict #[] } := by rw [← hs3]
  have f3 : ∀ b ∈ fp, FpOk X pins (upd H2 D (.dT [])) b ∧ b < s3.heap.objs.size := fun b hb => by
    obtain ⟨o, e, _⟩ := T.obj _ _ st2 b hb
    have hlt := Heap.lt_size e
    refine ⟨⟨?_, (f2 b hb).2⟩, by rw [h3, Heap.size_push]; exact Nat.lt_succ_of_lt hlt⟩
    rw [upd_ne (by rw [← hD]; exact Nat.ne_of_lt hlt)]
    exact (f2 b hb).1
  have st3 : tn 0 s3.heap := T.keep _ _ _ st2 fun b _ o e => by rw [h3]; exact Heap.get?_push_of_some _ e
  have I4 := block_start I3 ok hN f3
  generalize hH3 : upd H2 D (.dT []) = H3 at I3 I4 w0 f3
  have pg := hg s3 H3 s3.heap.objs.size (cellsFrom (s3.heap.objs.size + 1) scope.names (cloFrom X.env.cells scope.names [])) fp
  have pt := ht s3 H3 s3.heap.objs.size (cellsFrom (s3.heap.objs.size + 1) scope.names (cloFrom X.env.cells scope.names [])) fp
  have pk := hk s3 H3 s3.heap.objs.size (cellsFrom (s3.heap.objs.size + 1) scope.names (cloFrom X.env.cells scope.names [])) fp
  have pe := he s3 H3 s3.heap.objs.size (cellsFrom (s3.heap.objs.size + 1) scope.names (cloFrom X.env.cells scope.names [])) fp
  show codeAny _ _ (.compStart (.DictComp kx vx [⟨tg, iter, ifs, 0⟩] scope pos) 0 (.ref it) (.ref D) (compEnvC scope (cellsFrom (s3.heap.objs.size + 1) scope.names (cloFrom X.env.cells scope.names [])) s3.heap.objs.size X.env)) (compPost (model X.prog X.w) X.A X.xe use Qf (.ref D) s3.heap.objs.size) { s3 with heap := pushCells (s3.heap.push { cls := .type "dict", data := .dict #[] }) scope.names }
  have nfp : ∀ b ∈ fp, H3 b = none := fun b hb => (f3 b hb).1.1
  generalize hce : compEnvC scope (cellsFrom (s3.heap.objs.size + 1) scope.names (cloFrom X.env.cells scope.names [])) s3.heap.objs.size X.env = ce at I4 pg pt pk pe ⊢
  have cL : ce.locals = s3.heap.objs.size := by subst hce; rfl
  generalize hs4 : ({ s3 with heap := pushCells (s3.heap.push { cls := .type "dict", data := .dict #[] }) scope.names } : Shared) = s4 at I4 ⊢
  have st4 : tn 0 s4.heap := T.keep _ _ _ st3 fun b _ o e => by rw [← hs4]; exact pushCells_keeps _ _ _ _ (Heap.get?_push_of_some _ e)
  have stat : ∀ {σ' : L2.St} {H' : Hp} {s' : Shared}, Inv (X.blk s3 H3 scope ce fp) [] σ' H' s' → (∀ b ∈ fp, H' b = none) → ∀ b ∈ fp, FpOk (X.blk s3 H3 scope ce fp) [] H' b := fun {σ' H' s'} I' hn b hb =>
    ⟨hn b hb, (I'.ok.exf b hb).1, I'.ok.exfs b hb, .inl hb, fun x c e => (I'.ok.exf b hb).2 x c e, fun p hp => absurd (show p ∈ ([] : List (Addr × Obj)) ++ [] from hp) (by simp)⟩
  refine codeAny_compStart_dict ?_ (T.self X.A 0 _ _ _ st4 ?_)
  all_goals
    refine compLoop_anyD (fun n s' => ∃ i H', Inv (X.blk s3 H3 scope ce fp) [] (wipe σ (own.map (·.2))) H' s' ∧ tn i s'.heap ∧ (∀ b ∈ fp, H' b = none) ∧ W i n H') ?_ m0 ⟨0, H3, I4, st4, nfp, w0⟩
    rintro n s5 ⟨i, H5, I5, st5, n5, w5⟩
    rcases turn i n H5 w5 with ⟨stop, qq⟩ | ⟨go, Nx, hNx, step⟩
    · refine thnF (T.done (X.blk s3 H3 scope ce fp) rfl rfl rfl hc i [] s5 _ H5 (fun _ _ => False) I5 (stat I5 n5) st5 stop) fun r s6 ⟨hr, I6⟩ => ?_
      subst hr
      have I7 : Inv X pins σ H5 s6 := I3.call' (ch := fp) I6.os I6.base I6.hok I6.bare fun b hb => ⟨(f3 b hb).1.2.2.2.1, (f3 b hb).1.2.1, (f3 b hb).1.2.2.2.2.1, (f3 b hb).1.2.2.2.2.2⟩
      have nC : H5 s3.heap.objs.size = none := by
        have z : H5 ce.locals = none := I6.free
        rwa [cL] at z
      obtain ⟨m, hn, _⟩ := I6.loc
      have hn : s6.heap.Ns ce.locals m := hn
      rw [cL] at hn
      exact hRR D s3.heap.objs.size s6 m H5 I7 qq hn (I3.fpOk (Nat.le_refl _) nC)
    · refine thnF (T.item (X.blk s3 H3 scope ce fp) rfl rfl rfl hc i [] s5 _ H5 (fun _ _ => False) I5 (stat I5 n5) st5 go) fun r s6 ⟨u, hr, h6⟩ => ?_
      subst hr
      refine thnF h6 fun _ s7 ⟨x, H7, I7, r7, y7, st7, n7⟩ => ?_
      refine thnF (pg.run _ s7 _ H7 x u _ (I7.pinned (stat I7 n7) (T.obj _ _ st7)) r7 (step x H7 y7)) fun _ s8 ⟨σ8, H8, I8, hw8, q8⟩ => ?_
      refine thnF (pt.run _ s8 σ8 H8 _ I8 q8) fun b s9 ⟨H9, I9, q9⟩ => ?_
      have fin : ∀ {s' : Shared} {H' : Hp}, Inv (X.blk s3 H3 scope ce fp) ([] ++ pinsAt fp s7.heap) σ8 H' s' → Nx H' → ∃ m, m < n ∧ ∃ i H', Inv (X.blk s3 H3 scope ce fp) [] (wipe σ (own.map (·.2))) H' s' ∧ tn i s'.heap ∧ (∀ b ∈ fp, H' b = none) ∧ W i m H' := fun {s' H'} I' nx => by
        obtain ⟨m', hm, w'⟩ := hNx H' nx
        have pin' : ∀ b ∈ fp, ∀ o, s7.heap.get? b = some o → s'.heap.get? b = some o ∧ H' b = none := fun b hb o e =>
          let z := I'.pin (b, o) (List.mem_append_right _ (List.mem_append_right _ (mem_pinsAt hb e)))
          ⟨z.1, z.2.1⟩
        refine ⟨m', hm, i + 1, H', (I'.unpinned (pins := [])).weak (by rw [← hw8, wipe_length]) (fun j v e => ?_), T.keep _ _ _ st7 fun b hb o e => (pin' b hb o e).1, fun b hb => ?_, w'⟩
        · rw [← hw8] at e
          exact (wipe_some e).1
        · obtain ⟨o, e, _⟩ := T.obj _ _ st7 b hb
          exact (pin' b hb o e).2
      cases b with
      | false =>
        simp only [Bool.false_eq_true, if_false] at q9 ⊢
        exact fin I9 q9
      | true =>
        simp only [if_true] at q9 ⊢
        refine thnF (pk.run _ s9 σ8 H9 _ I9 q9) fun z s10 ⟨yk, H10, I10, r10, q10⟩ => ?_
        refine thnF (pe.run _ s10 σ8 H10 _ I10 q10) fun z2 s11 ⟨yv, H11, I11, r11, kvs, k, b, ek, hb11, hD11, hz11, nx⟩ => ?_
        subst ek
        obtain rfl : z = Value.ref b := r10
        exact dT_dictSet (X := X.blk s3 H3 scope ce fp) hu I11 hD11 hb11 hz11 r11 fun s12 I12 => fin I12 nx
theorem pe_dcT {kx vx tg iter : Expr} {ifs : List Expr} {scope : Scope} {own : List (Str × Nat)} {pos : Pos} {wi : TI} {g : TG} {tt : TT} {tk tv : TE} (hu : X.A.units < cLine) (hc : X.calm = true) (hN : X.N.Nodup) (hi : PI X tg iter wi) (ok : BlkOk X.N X.env.scope scope own)
    (hg : ∀ (s : Shared) (H : Hp) (C : Addr) (cl : List (Str × Addr)) (fp : List Addr), PG (X.blk s H scope (compEnvC scope cl C X.env) fp) tg g) (ht : ∀ (s : Shared) (H : Hp) (C : Addr) (cl : List (Str × Addr)) (fp : List Addr), PTs (X.blk s H scope (compEnvC scope cl C X.env) fp) ifs tt)
    (hk : ∀ (s : Shared) (H : Hp) (C : Addr) (cl : List (Str × Addr)) (fp : List Addr), PE (X.blk s H scope (compEnvC scope cl C X.env) fp) kx tk)
    (he : ∀ (s : Shared) (H : Hp) (C : Addr) (cl : List (Str × Addr)) (fp : List Addr), PE (X.blk s H scope (compEnvC scope cl C X.env) fp) vx tv) (hs : ∀ x, foldedSetIterable iter X.env x = pure x := by intro _; rfl) :
    PE X (.DictComp kx vx [⟨tg, iter, ifs, 0⟩] scope pos) (tDcT wi g tt tk tv (own.map (·.2))) := by
  refine ⟨fun pins s σ H Q I h => ?_⟩
  rw [arm_eval_DictComp]
  refine dcT_core I hu hc hN hi ok hg ht hk he hs h fun D C s' m H' I' q hn f => ⟨m, hn, fun h'' sb => ?_⟩
  obtain ⟨f0, f1, f2, f3, f4, f5⟩ := f
  exact ⟨.ref D, H', I'.turned (t' := s'.toks) (fun b o hb e => (sb.2 b hb).trans e) f0 f1 f3 f4 f5, rfl, q⟩
/-- name = {k: v for ..} on one line, the name a local -/
theorem ps_setDcT {i : Nat} {y : Str} {py spos : Pos} {kx vx tg iter : Expr} {ifs : List Expr} {scope : Scope} {own : List (Str × Nat)} {pos : Pos} {wi : TI} {g : TG} {tt : TT} {tk tv : TE} (hu : X.A.units < cLine) (hc : X.calm = true) (hN : X.N.Nodup) (hy : X.N[i]? = some y) (hyl : X.env.scope.names.lookup y = some .local)
    (hsw : swapsWith (.DictComp kx vx [⟨tg, iter, ifs, 0⟩] scope pos) (some (.Name y py)) spos.line X.env = pure true) (hi : PI X tg iter wi) (ok : BlkOk X.N X.env.scope scope own)
    (hg : ∀ (s : Shared) (H : Hp) (C : Addr) (cl : List (Str × Addr)) (fp : List Addr), PG (X.blk s H scope (compEnvC scope cl C X.env) fp) tg g) (ht : ∀ (s : Shared) (H : Hp) (C : Addr) (cl : List (Str × Addr)) (fp : List Addr), PTs (X.blk s H scope (compEnvC scope cl C X.env) fp) ifs tt)
    (hk : ∀ (s : Shared) (H : Hp) (C : Addr) (cl : List (Str × Addr)) (fp : List Addr), PE (X.blk s H scope (compEnvC scope cl C X.env) fp) kx tk)
    (he : ∀ (s : Shared) (H : Hp) (C : Addr) (cl : List (Str × Addr)) (fp : List Addr), PE (X.blk s H scope (compEnvC scope cl C X.env) fp) vx tv) (hs : ∀ x, foldedSetIterable iter X.env x = pure x := by intro _; rfl) :
    PS X (.Assign [.Name y py] (.DictComp kx vx [⟨tg, iter, ifs, 0⟩] scope pos) spos) (tAsg (tDcT wi g tt tk tv (own.map (·.2))) (gName i)) := by
  refine ⟨fun pins s σ H D I h => ?_⟩
  rw [exec_Assign_Name_used _ _ _ _ hsw]
  refine wpAny_bind (wpAny_standAt (wpAny_bind ?_))
  show wpAny _ X.A (do let _ ← comprehension (.DictComp kx vx [⟨tg, iter, ifs, 0⟩] scope pos) scope X.env (firstIterPos [⟨tg, iter, ifs, 0⟩] pos) newDict false (eval iter X.env) (some (assign (.Name y py) X.env))) _ _ s
  have h : tDcT wi g tt tk tv (own.map (·.2)) σ H (fun x H1 => gName i x σ H1 D.nx) := h
  refine wpAny_bind (thn (dcT_core (Qf := fun _ s' => SP X pins D .next s') I hu hc hN hi ok hg ht hk he hs h fun L C s' m H' I' q hn f => ?_) fun _ s' hq => wpAny_pure (wpAny_pure hq))
  show wpAny _ _ (assign (.Name y py) X.env (.ref L)) _ _ _
  refine wpAny_assign_Name (store_ok2 (v := V.ref L) I' hN hy (.inl hyl) rfl (fun s2 I2 ⟨a, sb, ha⟩ => ?_) (.inr hyl))
  obtain ⟨f0, f1, f2, f3, f4, f5⟩ := f
  have haC : C ≠ a := by
    rcases ha with z | z
    · rw [z]; exact f1
    · exact fun e => f4 y a z e.symm
  exact ⟨m, hn.sameBut sb haC, fun h3 sb3 => ⟨_, H', I2.turned (t' := s2.toks) (fun b o hb e => (sb3.2 b hb).trans e) f0 f1 f3 f4 f5, q⟩⟩
theorem swD_true {kx vx : Expr} {gs : List Comprehension} {scope : Scope} {pos py : Pos} {y : Str} {l : Nat} {env : PySem.Env} (hk : env.scope.kind = .function) (hy : env.scope.names.lookup y = some .local) (hl : (py.line == pos.line) = true)
    (ha : (scope.names.any fun (n, k) => n == y && (k == .local || k == .cell)) = false) : swapsWith (.DictComp kx vx gs scope pos) (some (.Name y py)) l env = pure true := by
  have ky : env.kindOf y = some .local := hy
  have hb : env.blockKind = .function := by unfold Env.blockKind; rw [hk]; rfl
  unfold swapsWith
  simp only [hb, ky, ha, Expr.pos, hl]
  rfl
end
/-- {k: v}, k a tuple; the new dict stands empty while the two are made -/
def tDisp1T (tk tv : TE) : TE := fun σ H Q => ∀ p, H p = none → tk σ (upd H p (.dT [])) fun x H1 => tv σ H1 fun y H2 => ∃ b k, x = .ref b ∧ H2 b = some (.tup (k.map kV)) ∧ H2 p = some (.dT []) ∧ Q (.ref p) (upd H2 p (.dT [(k, y)]))
theorem pe_disp1T {X : Cx} {pos : Pos} {k v : Expr} {tk tv : TE} (hu : X.A.units < cLine) (hk : PE X k tk) (hv : PE X v tv) : PE X (.Dict [some k] [v] pos) (tDisp1T tk tv) := by
  refine ⟨fun pins s σ H Q I q => ?_⟩
  have hn := I.hok.fresh (Nat.le_refl s.heap.objs.size)
  have I1 := I.laid (a := s.heap.objs.size) (o := .dT []) (h' := s.heap.push { cls := .type "dict", data := .dict #[] }) (t' := s.toks) (fun _ _ q => Heap.get?_push_of_some _ q) (Nat.le_refl _) (dt_empty s.heap I.big)
  rw [arm_eval_Dict, zip_pairTrees [some k] [v] X.env pos rfl rfl, dictDisplay_pairs (pairTrees [some k] [v] X.env pos) (by simp [pairTrees]) (by show 1 < 17; decide)]
  refine wpAny_bind (wpAny_standAt (wpAny_bind ?_))
  unfold subDict
  refine wpAny_bind (wpAny_alloc (wpAny_bind (wpAny_holding ?_)))
  rw [if_pos (by show 1 ≤ 15; decide)]
  refine wpAny_bind (thn (pairTrees_cons_walk (Q := fun vs s1 => ∃ u r x y H2, vs = [(u, r)] ∧ Inv X pins σ H2 s1 ∧ RelV x u ∧ RelV y r ∧ ∃ b k, x = .ref b ∧ H2 b = some (.tup (k.map kV)) ∧ H2 s.heap.objs.size = some (.dT []) ∧ Q (.ref s.heap.objs.size) (upd H2 s.heap.objs.size (.dT [(k, y)])))
    (thn (hk.run pins _ σ _ _ I1 (q _ hn)) fun u s1 ⟨x, H1, I1, rx, q1⟩ => thn (hv.run pins s1 σ H1 _ I1 q1) fun r s2 ⟨y, H2, I2, ry, q2⟩ => pairTrees_nil_walk ⟨u, r, x, y, H2, rfl, I2, rx, ry, q2⟩)) fun vs s2 hh => ?_)
  obtain ⟨u, r, x, y, H2, rfl, I2, rx, ry, b, kk, rfl, hb, hp, q2⟩ := hh
  obtain rfl : u = Value.ref b := rx
  refine wpAny_holding (wpAny_bind ?_)
  rw [List.forIn_cons]
  refine wpAny_bind (wpAny_bind (dT_dictSet hu I2 hp hb (by show 0 < sizeLine; decide) ry fun s3 I3 => ?_))
  refine wpAny_pure ?_
  dsimp only
  rw [List.forIn_nil]
  exact wpAny_pure (wpAny_pure (wpAny_pure (wpAny_pure ⟨.ref s.heap.objs.size, _, I3, rfl, q2⟩)))
end LC
end
section
set_option Elab.async false
set_option linter.all false
set_option maxRecDepth 100000
set_option maxHeartbeats 1000000
namespace LC
open PySem PySem.Spec L2
section
variable {prog : Program} {w : World} {A : Around} {s : Shared} {R : Result → Shared → Prop}
/-- l.extend(t), t a tuple -/
theorem ext_tup (l t : Addr) {o : Obj} {mine items : Array Value} {c n : Nat} (hS : s.heap.get? l = some { cls := .type "list", data := .seq mine c }) (ho : s.heap.get? t = some o) (hc : o.cls = .type "tuple") (hd : o.data = .seq items n)
    (hl : Builtin.List.listTooLong (mine.size + items.size) = false) (hm : mine.size ≤ sizeLine) (hz : mine.size + items.size ≤ sizeLine) (hR : R (.ok (.ret .none)) { s with heap := s.heap.update l (Obj.mapSeq (· ++ items)) }) :
    wpAny (model prog w) A.in1 (Builtin.«list.extend» ⟨[.ref l, .ref t], []⟩)
      (fun fin s' => ∃ v, fin = Fin.done (Flow.ret v) ∧ R (.ok (.ret v)) s') (fun e s' => R (.error e) s') s := by
  show wpAny _ A.in1 (Builtin.List.listExtendWith (.ref l) (.ref t) .none) _ _ s
  unfold Builtin.List.listExtendWith
  refine wpAny_bind (wpAny_typeOf ⟨o, ho, hc⟩ ?_)
  have h1 : (Builtin.List.listSameRef (.ref l) (.ref t) || Value.type "tuple" == Value.type "list" || Value.type "tuple" == Value.type "tuple") = true := by simp
  simp only [h1, if_true]
  refine wpAny_bind ?_
  unfold Builtin.List.listItems
  refine wpAny_bind (wpAny_seqItems ho hd (wpAny_pure ?_))
  refine wpAny_bind ?_
  refine wpAny_bind (wpAny_seqItems hS rfl (wpAny_pure ?_))
  have h2 : (!mine.isEmpty && Builtin.List.listTooLong (mine.size + items.size)) = false := by rw [hl, Bool.and_false]
  simp only [h2, Bool.false_eq_true, if_false]
  show wpAny _ A.in1 (updateSeq l (· ++ items) >>= fun _ => ret .none) _ _ s
  refine wpAny_bind (wpAny_updateSeq hS rfl (hz := hm) (_hz' := by rw [Array.size_append]; omega) ?_)
  exact wpAny_pure ⟨_, rfl, hR⟩
end
section
variable {X : Cx}
def rExtT (K : PySem.W.Frag) : V → List V → Hp → VK → Prop := fun x vs H Q => ∃ l b xs zs, x = .ref l ∧ vs = [.ref b] ∧ H l = some (.lst xs) ∧ SqT K H b zs ∧ xs.length + zs.length ≤ sizeLine ∧ Q .non (upd H l (.lst (xs ++ zs)))
theorem mt_extT : MtM X "list.extend" (rExtT X.K) := by
  intro pins s σ H x vs v us Q I rx rv h
  obtain ⟨l, b, xs, zs, rfl, rfl, hH, hB, hz, q⟩ := h
  cases rx
  obtain ⟨u, rfl, ru⟩ := rv.one
  cases ru
  obtain ⟨z, its, n, r, hl, e⟩ := I.lstM hH
  obtain ⟨its2, r2, ⟨o, ho, hc, n2, hd⟩, z2⟩ := I.tuple hB
  have hl2 := r2.length
  have hsz : its.toArray.size + its2.toArray.size ≤ sizeLine := by rw [List.size_toArray, List.size_toArray]; omega
  refine call_meets (S := fun A R s => s.heap.get? l = some { cls := .type "list", data := .seq its.toArray n } ∧ s.heap.get? b = some o ∧ R (.ok (.ret .none)) { s with heap := s.heap.update l (Obj.mapSeq (· ++ its2.toArray)) }) F.slot_list_extend ⟨_, e, rfl⟩ F.entry_list_extend (F.args_list_extend_2 _ _)
    (.of_wp fun prog w A R s ⟨h1, h2, h3⟩ => ext_tup l b h1 h2 hc hd (notLongL hsz) (by rw [List.size_toArray]; omega) hsz h3) ⟨e, ho, ?_⟩
  refine ⟨.non, _, I.lset (its' := its ++ its2) hH e (by simp) (r.append r2) ?_, rfl, q⟩
  rw [List.length_append]
  omega
/-- xs[i], by values -/
def rGetL (K : PySem.W.Frag) : V → V → Hp → VK → Prop := fun x y H Q => ∃ p xs i v, x = .ref p ∧ y = .int i ∧ SqL K H p xs ∧ 0 ≤ i ∧ xs[i.toNat]? = some v ∧ Q v H
theorem get_list : PGet X (rGetL X.K) := by
  intro pins s σ H x y v u Q I rx ry h
  obtain ⟨p, xs, i, z, rfl, rfl, hq, h0, he, q⟩ := h
  cases rx
  obtain ⟨t, rfl⟩ := ry
  obtain ⟨its, r, pl, hz⟩ := I.list hq
  obtain ⟨w, ew, rw'⟩ := r.get he
  have hl := r.length
  have hn := line63
  have hi : i.toNat < xs.length := (List.getElem?_eq_some_iff.mp he).1
  refine wpAny_getItem_list pl.isList h0 (by omega) (x := w) (by simpa using ew) ⟨z, H, I, rw', q⟩
end
end LC
end
section
set_option Elab.async false
set_option linter.all false
set_option maxRecDepth 100000
set_option maxHeartbeats 1000000
/-! Walks over data: zip, enumerate, dicts; comprehensions in short. -/
namespace LC
open PySem PySem.Spec L2
/-- a list or a tuple as data -/
def sqD (b : Bool) (l : List D) : D := if b then .tup l else .lst l
abbrev BF : Hp → (Hp → Prop) → Prop := fun _ _ => True
section
variable {K : PySem.W.Frag} {σ : St} {H H' : Hp} {te : TE} {ta : TA} {ds l1 l2 l3 : List D} {v : V}
theorem sqD_at {b : Bool} (h : Rep K H (sqD b ds) v) : ∃ a xs, v = .ref a ∧ Sq b K H a xs ∧ RepAll K H ds xs := by
  cases b with
  | true => obtain ⟨a, xs, h1, h2, h3⟩ := (show Rep K H (.tup ds) v from h); exact ⟨a, xs, h1, SqT.of h2, h3⟩
  | false => exact (show Rep K H (.lst ds) v from h)
theorem yd_pair {T : Addr} {x y : V} {d e : D} (hT : H T = none) (hx : Rep K H d x) (hy : Rep K H e y) : Same H (upd H T (.tup [x, y])) ∧ Rep K (upd H T (.tup [x, y])) (.tup [d, e]) (.ref T) :=
  ⟨same_new hT, T, _, rfl, upd_same, x, _, rfl, Rep.same (same_new hT) hx, y, _, rfl, Rep.same (same_new hT) hy, rfl⟩
theorem it_z2 (b1 b2 : Bool) (h : EA ta σ H (Da K [sqD b1 l1, sqD b2 l2])) : IT K (iZ2 b1 b2 K ta) σ H (List.zipWith (fun a b => .tup [a, b]) l1 l2) BF := fun H1 e R q =>
  h H1 e _ fun vs H2 e2 ⟨v, r, e3, e4, w, r2, e5, e6, e7⟩ => by
    have e7 : r2 = [] := e7
    subst e7 e5 e3
    obtain ⟨a, xs, rfl, h1, h2⟩ := sqD_at e4
    obtain ⟨c, ys, rfl, h3, h4⟩ := sqD_at e6
    refine ⟨a, c, xs, ys, rfl, h1, h3, q _ H2 (Same H2) e2 (fun _ e => e) trivial ?_⟩
    have w := walk_z2 (K := K) (b1 := b1) (b2 := b2) (a := a) (c := c) (xs := xs) (ys := ys)
    rw [List.length_zipWith, ← h2.length, ← h4.length]
    refine w.mono (fun H' k => ⟨h1.same k, h3.same k⟩) fun i H x H' hi k y => ?_
    obtain ⟨T, x, y, rfl, hT, rfl, hx, hy⟩ := y
    obtain ⟨d, g1, g2⟩ := h2.getV hx
    obtain ⟨e, g3, g4⟩ := h4.getV hy
    obtain ⟨p1, p2⟩ := yd_pair hT (Rep.same k g2) (Rep.same k g4)
    exact ⟨p1, _, by rw [List.getElem?_zipWith, g1, g3], p2⟩
theorem it_z3 (b1 b2 b3 : Bool) (h : EA ta σ H (Da K [sqD b1 l1, sqD b2 l2, sqD b3 l3])) : IT K (iZ3 b1 b2 b3 K ta) σ H (List.zipWith (fun (f : D → D) c => f c) (List.zipWith (fun a b c => .tup [a, b, c]) l1 l2) l3) BF := fun H1 e R q =>
  h H1 e _ fun vs H2 e2 ⟨v, r, e3, e4, w, r2, e5, e6, u, r3, e8, e9, e7⟩ => by
    have e7 : r3 = [] := e7
    subst e7 e8 e5 e3
    obtain ⟨a, xs, rfl, h1, h2⟩ := sqD_at e4
    obtain ⟨c, ys, rfl, h3, h4⟩ := sqD_at e6
    obtain ⟨d, zs, rfl, h5, h6⟩ := sqD_at e9
    refine ⟨a, c, d, xs, ys, zs, rfl, h1, h3, h5, q _ H2 (Same H2) e2 (fun _ e => e) trivial ?_⟩
    have w := walk_z3 (K := K) (b1 := b1) (b2 := b2) (b3 := b3) (a := a) (c := c) (d := d) (xs := xs) (ys := ys) (zs := zs)
    rw [List.length_zipWith, List.length_zipWith, ← h2.length, ← h4.length, ← h6.length]
    refine w.mono (fun H' k => ⟨h1.same k, h3.same k, h5.same k⟩) fun i H x H' hi k y => ?_
    obtain ⟨T, x, y, z, rfl, hT, rfl, hx, hy, hz⟩ := y
    obtain ⟨d1, g1, g2⟩ := h2.getV hx
    obtain ⟨d2, g3, g4⟩ := h4.getV hy
    obtain ⟨d3, g5, g6⟩ := h6.getV hz
    have sn := same_new (o := .tup [x, y, z]) hT
    refine ⟨sn, D.tup [d1, d2, d3], by rw [List.getElem?_zipWith, List.getElem?_zipWith, g1, g3, g5], ?_⟩
    exact ⟨T, _, rfl, upd_same, x, _, rfl, Rep.same sn (Rep.same k g2), y, _, rfl, Rep.same sn (Rep.same k g4), z, _, rfl, Rep.same sn (Rep.same k g6), rfl⟩
theorem walk_eD {b : Bool} {a : Addr} {xs : List V} {G : Hp → Prop} (hg : ∀ H, G H → Sq b K H a xs ∧ RepAll K H ds xs) (hl : xs.length = ds.length) : Walk (ItE b K a) ((List.range ds.length).map fun (i : Nat) => D.tup [.int i, ds.getD i .non]).length G (Yd K ((List.range ds.length).map fun (i : Nat) => D.tup [.int i, ds.getD i .non])) := by
  have w := walk_e (K := K) (b1 := b) (a := a) (xs := xs)
  rw [List.length_map, List.length_range, ← hl]
  refine w.mono (fun H' k => (hg H' k).1) fun i H x H' hi k y => ?_
  obtain ⟨T, x, y, rfl, hT, rfl, hx, hy⟩ := y
  obtain ⟨d, g1, g2⟩ := (hg H k).2.getV hy
  have hx : x = V.int (i : Int) := (Option.some.inj hx).symm
  obtain ⟨p1, p2⟩ := yd_pair (d := .int i) hT (show Rep K H (.int (i : Int)) x from hx) g2
  refine ⟨p1, _, ?_, p2⟩
  rw [List.getElem?_map, List.getElem?_range hi]
  show some (D.tup [.int i, ds.getD i .non]) = _
  rw [List.getD_eq_getElem?_getD, g1]
  rfl
theorem it_e (b : Bool) (h : EA ta σ H (Da K [sqD b ds])) : IT K (iE b K ta) σ H ((List.range ds.length).map fun (i : Nat) => .tup [.int i, ds.getD i .non]) BF := fun H1 e R q =>
  h H1 e _ fun vs H2 e2 ⟨v, r, e3, e4, e7⟩ => by
    have e7 : r = [] := e7
    subst e7 e3
    obtain ⟨a, xs, rfl, h1, h2⟩ := sqD_at e4
    exact ⟨a, xs, rfl, h1, q _ H2 (Same H2) e2 (fun _ e => e) trivial (walk_eD (fun H' k => ⟨h1.same k, h2.same k⟩) h2.length)⟩
theorem it_eT (h : EA ta σ H (Da K [.tup ds])) (ht : D.tupsOnlys ds = true) : IT K (iE true K ta) σ H ((List.range ds.length).map fun (i : Nat) => .tup [.int i, ds.getD i .non]) BT := fun H1 e R q =>
  h H1 e _ fun vs H2 e2 ⟨v, r, e3, e4, e7⟩ => by
    have e7 : r = [] := e7
    subst e7 e3
    obtain ⟨a, xs, rfl, h1, h2⟩ := e4
    exact ⟨a, xs, rfl, SqT.of h1, q _ H2 (KeepT H2) e2 (fun _ e => Same.keepT e) (fun _ e => e) (walk_eD (fun H' k => ⟨SqT.of (k _ _ h1), RepAll.keepT k ht h2⟩) h2.length)⟩
end
/-! ### dicts with tuple keys -/
abbrev Es := List (List Int × D)
def keyD (k : List Int) : List Key := k.map Sum.inl
theorem keyD_V (k : List Int) : (keyD k).map kV = k.map V.int := by
  induction k with
  | nil => rfl
  | cons a l ih => show V.int a :: (keyD l).map kV = _; rw [ih]; rfl
theorem keyD_inj {k l : List Int} (h : keyD k = keyD l) : k = l := by
  induction k generalizing l with
  | nil => cases l with
    | nil => rfl
    | cons b m => cases h
  | cons a k ih => cases l with
    | nil => cases h
    | cons b m =>
      obtain ⟨h1, h2⟩ := List.cons_eq_cons.mp (show Sum.inl a :: keyD k = Sum.inl b :: keyD m from h)
      rw [Sum.inl.inj h1, ih h2]
def DictR (K : PySem.W.Frag) (H : Hp) : Es → List (List Key × V) → Prop
  | [], kvs => kvs = []
  | e :: es, kvs => ∃ v r, kvs = (keyD e.1, v) :: r ∧ Rep K H e.2 v ∧ DictR K H es r
/-- what stands at a key | a key's value put, in its place or at the end -/
def getE (es : Es) (k : List Int) : Option D := (es.find? fun e => decide (e.1 = k)).map (·.2)
def putE (es : Es) (k : List Int) (d : D) : Es := if (getE es k).isSome then es.map (fun e => if e.1 = k then (e.1, d) else e) else es ++ [(k, d)]
section
variable {K : PySem.W.Frag} {H H' : Hp}
theorem DictR.same (e : Same H H') : ∀ {es : Es} {kvs}, DictR K H es kvs → DictR K H' es kvs
  | [], _, h => h
  | _ :: _, _, ⟨v, r, h1, h2, h3⟩ => ⟨v, r, h1, Rep.same e h2, DictR.same e h3⟩
def tupsE (es : Es) : Bool := es.all fun e => e.2.tupsOnly
theorem DictR.keepT (e : KeepT H H') : ∀ {es : Es} {kvs}, tupsE es = true → DictR K H es kvs → DictR K H' es kvs
  | [], _, _, h => h
  | x :: _, _, z, ⟨v, r, h1, h2, h3⟩ => by
    obtain ⟨z1, z2⟩ := Bool.and_eq_true_iff.mp (show (x.2.tupsOnly && tupsE _) = true from z)
    exact ⟨v, r, h1, Rep.keepT e z1 h2, DictR.keepT e z2 h3⟩
theorem DictR.length : ∀ {es : Es} {kvs}, DictR K H es kvs → kvs.length = es.length
  | [], _, h => by rw [show _ = [] from h]; rfl
  | _ :: _, _, ⟨v, r, h1, _, h3⟩ => by rw [h1, List.length_cons, List.length_cons, DictR.length h3]
theorem DictR.at : ∀ {es : Es} {kvs} {i : Nat} {k : List Key} {v : V}, DictR K H es kvs → kvs[i]? = some (k, v) → ∃ e, es[i]? = some e ∧ k = keyD e.1 ∧ Rep K H e.2 v
  | [], kvs, _, _, _, h, e => by
    have h : kvs = [] := h
    rw [h] at e; simp at e
  | x :: _, _, 0, k, v, ⟨u, r, h1, h2, _⟩, e => by
    rw [h1] at e; simp at e
    exact ⟨x, rfl, e.1.symm, e.2 ▸ h2⟩
  | _ :: _, _, i + 1, _, _, ⟨v, r, h1, _, h3⟩, e => by
    rw [h1] at e
    obtain ⟨u, g1, g2⟩ := DictR.at (i := i) h3 (by simpa using e)
    exact ⟨u, by simpa using g1, g2⟩
theorem DictR.get : ∀ {es : Es} {kvs} (k : List Int), DictR K H es kvs → match getE es k with
    | some d => ∃ v, valV kvs (keyD k) = some v ∧ Rep K H d v
    | none => valV kvs (keyD k) = none
  | [], kvs, k, h => by
    have h : kvs = [] := h
    rw [h]; exact rfl
  | e :: es, _, k, ⟨v, r, h1, h2, h3⟩ => by
    rw [h1]
    by_cases c : e.1 = k
    · have q : getE (e :: es) k = some e.2 := by unfold getE; rw [List.find?_cons, decide_eq_true c]; rfl
      rw [q]
      exact ⟨v, valV_pos (by rw [c]), h2⟩
    · have q : getE (e :: es) k = getE es k := by unfold getE; rw [List.find?_cons, decide_eq_false c]
      rw [q, valV_neg (p := (keyD e.1, v)) (fun z => c (keyD_inj z))]
      exact DictR.get k h3
theorem DictR.get_some {es : Es} {kvs} {k : List Int} {d : D} (h : DictR K H es kvs) (e : getE es k = some d) : ∃ v, valV kvs (keyD k) = some v ∧ Rep K H d v := by
  have q := h.get k
  rw [e] at q; exact q
theorem DictR.get_none {es : Es} {kvs} {k : List Int} (h : DictR K H es kvs) (e : getE es k = none) : valV kvs (keyD k) = none := by
  have q := h.get k
  rw [e] at q; exact q
theorem DictR.isSome {es : Es} {kvs} (k : List Int) (h : DictR K H es kvs) : (valV kvs (keyD k)).isSome = (getE es k).isSome := by
  cases e : getE es k with
  | some d => obtain ⟨v, g, _⟩ := h.get_some e; rw [g]; rfl
  | none => rw [h.get_none e]; rfl
theorem DictR.snoc : ∀ {es : Es} {kvs} {k : List Int} {d : D} {v : V}, DictR K H es kvs → Rep K H d v → DictR K H (es ++ [(k, d)]) (kvs ++ [(keyD k, v)])
  | [], kvs, k, d, v, h, g => by
    have h : kvs = [] := h
    rw [h]; exact ⟨v, [], rfl, g, rfl⟩
  | _ :: _, _, _, _, _, ⟨u, r, h1, h2, h3⟩, g => ⟨u, r ++ _, by rw [h1]; rfl, h2, DictR.snoc h3 g⟩
theorem DictR.repl : ∀ {es : Es} {kvs} {k : List Int} {d : D} {v : V}, DictR K H es kvs → Rep K H d v → DictR K H (es.map fun e => if e.1 = k then (e.1, d) else e) (kvs.map fun kv => if kv.1 = keyD k then (kv.1, v) else kv)
  | [], kvs, k, d, v, h, g => by
    have h : kvs = [] := h
    rw [h]; exact rfl
  | e :: es, _, k, d, v, ⟨u, r, h1, h2, h3⟩, g => by
    rw [h1, List.map_cons, List.map_cons]
    by_cases c : e.1 = k
    · rw [if_pos c, if_pos (by rw [c])]
      exact ⟨v, _, rfl, g, DictR.repl h3 g⟩
    · rw [if_neg c, if_neg (fun z => c (keyD_inj z))]
      exact ⟨u, _, rfl, h2, DictR.repl h3 g⟩
theorem DictR.put {es : Es} {kvs} {k : List Int} {d : D} {v : V} (h : DictR K H es kvs) (g : Rep K H d v) : DictR K H (putE es k d) (putK kvs (keyD k) v) := by
  unfold putE putK
  rw [valV_any, h.isSome k]
  by_cases c : (getE es k).isSome = true
  · rw [if_pos c, if_pos c]; exact h.repl g
  · rw [if_neg c, if_neg c]; exact h.snoc g
theorem putE_length (es : Es) (k : List Int) (d : D) : (putE es k d).length ≤ es.length + 1 := by
  unfold putE
  split
  · rw [List.length_map]; omega
  · rw [List.length_append]; exact Nat.le_refl _
theorem putE_tups {es : Es} {k : List Int} {d : D} (h : tupsE es = true) (hd : d.tupsOnly = true) : tupsE (putE es k d) = true := by
  unfold putE
  split
  · unfold tupsE at h ⊢
    rw [List.all_map, List.all_eq_true] at *
    intro x hx
    show ((if x.1 = k then (x.1, d) else x).2).tupsOnly = true
    by_cases c : x.1 = k
    · rw [if_pos c]; exact hd
    · rw [if_neg c]; exact h x hx
  · unfold tupsE at h ⊢
    rw [List.all_append, h]
    show (true && (d.tupsOnly && true)) = true
    rw [hd]; rfl
end
def itemD (e : List Int × D) : D := .tup [.tup (e.1.map D.int), e.2]
abbrev BD (K : PySem.W.Frag) (d : Addr) (es : Es) : Hp → (Hp → Prop) → Prop := fun H G => ∃ o kvs, H d = some (.frz o (.dT kvs)) ∧ DictR K H es kvs ∧ ∀ H', H' d = some (.frz o (.dT kvs)) → DictR K H' es kvs → G H'
section
variable {K : PySem.W.Frag} {σ : St} {H H' : Hp} {td : TE} {es : Es} {d : Addr} {o : Obj} {kvs : List (List Key × V)}
theorem it_itemsT (h : Ev td σ H (Is (.ref d))) (hd : H d = some (.frz o (.dT kvs))) (hr : DictR K H es kvs) : IT K (iItemsT td) σ H (es.map itemD) (BD K d es) := fun H1 e R q =>
  h H1 e _ fun v H2 e2 hv => by
    have e02 := e.trans e2
    refine ⟨d, o, kvs, hv, e02 _ _ hd, q _ H2 (fun H' => H' d = some (.frz o (.dT kvs)) ∧ DictR K H' es kvs) e2 (fun _ k => ⟨k _ _ (e02 _ _ hd), DictR.same (e02.trans k) hr⟩) ⟨o, kvs, e02 _ _ hd, DictR.same e02 hr, fun _ h1 h2 => ⟨h1, h2⟩⟩ ?_⟩
    rw [List.length_map, ← hr.length]
    refine (walk_itemsT (d := d) (o := o) (kvs := kvs)).mono (fun H' k => k.1) fun i H x H' hi k y => ?_
    obtain ⟨T, q, k', v, h1, h2, rfl, hT, rfl⟩ := y
    obtain ⟨e, g1, g2, g3⟩ := k.2.at h1
    rw [g2, keyD_V] at h2
    obtain ⟨p1, p2⟩ := yd_pair hT (show Rep K H (.tup (e.1.map D.int)) (.ref q) from ⟨q, _, rfl, h2, RepAll.ints _⟩) g3
    exact ⟨p1, _, by rw [List.getElem?_map, g1]; rfl, p2⟩
theorem it_valsT (h : Ev td σ H (Is (.ref d))) (hd : H d = some (.frz o (.dT kvs))) (hr : DictR K H es kvs) : IT K (iValsT td) σ H (es.map (·.2)) (BD K d es) := fun H1 e R q =>
  h H1 e _ fun v H2 e2 hv => by
    have e02 := e.trans e2
    refine ⟨d, o, kvs, hv, e02 _ _ hd, q _ H2 (fun H' => H' d = some (.frz o (.dT kvs)) ∧ DictR K H' es kvs) e2 (fun _ k => ⟨k _ _ (e02 _ _ hd), DictR.same (e02.trans k) hr⟩) ⟨o, kvs, e02 _ _ hd, DictR.same e02 hr, fun _ h1 h2 => ⟨h1, h2⟩⟩ ?_⟩
    rw [List.length_map, ← hr.length]
    refine (walk_valsT (d := d) (o := o) (kvs := kvs)).mono (fun H' k => k.1) fun i H x H' hi k y => ?_
    obtain ⟨rfl, k', h1⟩ := y
    obtain ⟨e, g1, g2, g3⟩ := k.2.at h1
    exact ⟨Same.refl _, _, by rw [List.getElem?_map, g1]; rfl, g3⟩
end
end LC
end
section
set_option Elab.async false
set_option linter.all false
set_option maxRecDepth 100000
set_option maxHeartbeats 1000000
/-! A def that is proved, as one fact; calls of it; evaluation of built-ins over data. -/
namespace LC
open PySem PySem.Spec L2
/-! ### what all walks lean on -/
structure Env (P : Program) (w : World) (K : PySem.W.Frag) (mg : Str → Option Value) (base : Heap) : Prop where
  says : Says K
  ns : ∃ h, K.In h ∧ h.Ns mainGlobals mg
section
variable {P : Program} {w : World} {K : PySem.W.Frag} {mg : Str → Option Value} {base : Heap}
theorem Env.glo (E : Env P w K mg base) (i : Nat) {x : Str} (h : fas[i]? = some (.glo x) := by rfl) : mg x = some (.ref (He.ga K x)) := let ⟨_, X, G⟩ := E.ns; He.glo_ok X G (E.says.fa i h)
theorem Env.free (E : Env P w K mg base) (i : Nat) {x : Str} (h : fas[i]? = some (.free x) := by rfl) : mg x = none := let ⟨_, X, G⟩ := E.ns; He.free_ok X G (E.says.fa i h)
theorem Env.int (E : Env P w K mg base) (i : Nat) {x : Str} {n : Int} (h : fas[i]? = some (.int x n) := by rfl) : ∃ t, mg x = some (.int n t) := let ⟨_, X, G⟩ := E.ns; He.int_ok X G (E.says.fa i h)
theorem Env.str (E : Env P w K mg base) (i : Nat) {x z : Str} (h : fas[i]? = some (.str x z) := by rfl) : ∃ t, mg x = some (.str z t) := let ⟨_, X, G⟩ := E.ns; He.str_ok X G (E.says.fa i h)
theorem Env.cls (E : Env P w K mg base) (i : Nat) {x : Str} (h : fas[i]? = some (.cls x) := by rfl) : Cls K (He.ga K x) := He.cls_ok (E.says.fa i h)
theorem Env.mkr (E : Env P w K mg base) (i : Nat) {x : Str} (h : fas[i]? = some (.mkr x) := by rfl) : Mk K (He.ga K x) (He.ma K (He.ga K x) "__init__") := He.mkr_ok (E.says.fa i h)
theorem Env.noat (E : Env P w K mg base) (i : Nat) {x f : Str} (h : fas[i]? = some (.noat x f) := by rfl) : NoAttr K (He.ga K x) f := He.noat_ok (E.says.fa i h)
theorem Env.meth (E : Env P w K mg base) (i : Nat) {x m : Str} (h : fas[i]? = some (.meth x m) := by rfl) : Meth K (He.ga K x) m (He.ma K (He.ga K x) m) := He.meth_ok (E.says.fa i h)
theorem Env.prop (E : Env P w K mg base) (i : Nat) {x f : Str} (h : prs[i]? = some (x, f) := by rfl) : ∃ p, PropOf K (He.ga K x) f p (getAd K x f) := prB_ok (E.says.pr i h)
end
/-! ### proved defs -/
def Okf (P : Program) (w : World) (K : PySem.W.Frag) (mg : Str → Option Value) (base : Heap) (k : Nat) (x : Str) (ps : List Str) (sp : Sp) : Prop :=
  ∃ f fd, mg x = some (.ref f) ∧ PySem.W.keepIn K (.ref f) = true ∧ Binds K fd ps [] ∧ FnOk P w K mg base CX0 k f fd ps sp
def Okm (P : Program) (w : World) (K : PySem.W.Frag) (mg : Str → Option Value) (base : Heap) (k : Nat) (C m : Str) (ps : List Str) (sp : Sp) : Prop :=
  ∃ f fd, Cls K (He.ga K C) ∧ Meth K (He.ga K C) m f ∧ Binds K fd ps [] ∧ FnOk P w K mg base CX0 k f fd ps sp
def Okp (P : Program) (w : World) (K : PySem.W.Frag) (mg : Str → Option Value) (base : Heap) (k : Nat) (C f : Str) (sp : Sp) : Prop :=
  ∃ p g fd, Cls K (He.ga K C) ∧ PropOf K (He.ga K C) f p g ∧ Binds K fd ["self"] [] ∧ FnOk P w K mg base CX0 k g fd ["self"] sp
def Okc (P : Program) (w : World) (K : PySem.W.Frag) (mg : Str → Option Value) (base : Heap) (k : Nat) (C : Str) (ps : List Str) (sp : Sp) : Prop :=
  ∃ f fd, mg C = some (.ref (He.ga K C)) ∧ Mk K (He.ga K C) f ∧ Binds K fd ps [] ∧ FnOk P w K mg base CX0 k f fd ps sp
section
variable {P : Program} {w : World} {K : PySem.W.Frag} {mg : Str → Option Value} {base : Heap} {N ps : List Str} {k : Nat} {sp : Sp} {x q C m : Str} {st : Stmt} {f : Addr} {fd : FuncData}
/-- the body walked, the def's promise kept -/
theorem fd_ok (F : FD K x q st f fd) (S : FnScope N ps (defScope st)) (len : ∀ vs H Q E, sp vs H Q E → vs.length = ps.length)
    (hbody : ∀ (cdv : Value) (A : Around) (outer : List PySem.Env) (s : Shared) (H : Hp) (vs : List V) (Q : VK) (E : XK), Room k (A.deeper (PyProof.Rows.envOfC q (defScope st) s.heap.objs.size f cdv)) → sp vs H Q E →
      ∃ t, PSs (cxOf CX0 P w K mg base N q (defScope st) f cdv A outer s H E).nox (defBody st) t ∧ t { nx := fun _ H' => Q .non H', rt := Q } (start N vs) H) : FnOk P w K mg base CX0 (k + 1) f fd ps sp :=
  FunD.ok F S len fun cdv A outer s H vs Q E hr h => let ⟨t, h1, h2⟩ := hbody cdv A outer s H vs Q E hr h; ⟨t, h1.nox, h2⟩
end
section
variable {X : Cx} {k : Nat} {x C m f : Str} {ps : List Str} {sp : Sp} {e o : Expr} {es : List Expr} {t : TA} {ta : TE} {p pos apos : Pos}
theorem pe_okf (O : Okf X.prog X.w X.K X.mg X.base k x ps sp) (hr : Room k X.A) (ha : PA X (e :: es) t) (hg : Gl X x := by rfl)
    (hdb : (x == ("__debug__" : Str)) = false := by decide) (he : starEach (e :: es) X.env = (false, eval e X.env) :: starEach es X.env := by rfl) (hpl : (backTo pos (starEach es X.env)).any (·.1) = false := by rfl) :
    PE X (.Call (.Name x p) (e :: es) [] pos) (tCall sp [] E0 t) := let ⟨_, _, h1, h2, h3, h4⟩ := O; pe_call h4 hr hg h1 h2 h3 .nil pass0 ha hdb he hpl
theorem pe_okm {pl : Sem Bool} (O : Okm X.prog X.w X.K X.mg X.base k C m ps sp) (hr : Room k X.A) (ho : PE X o ta) (ha : PA X (e :: es) t)
    (hst : starEach (e :: es) X.env = (false, eval e X.env) :: starEach es X.env := by rfl) (hpl : (backTo pos (starEach es X.env)).any (·.1) = false := by rfl)
    (ht : eval (.Call (.Attribute o m apos) (e :: es) [] pos) X.env = (do
      let ov ← eval o X.env
      standAt apos.atName
      let (f, first) ← holding [ov] (getMethod ov m pl)
      callWith pos f first (backTo pos (starEach (e :: es) X.env)) (backToKw pos (keywordEach [] X.env))) := by rfl) :
    PE X (.Call (.Attribute o m apos) (e :: es) [] pos) (tMeth (He.ga X.K C) m sp [] E0 ta t) := let ⟨_, _, h1, h2, h3, h4⟩ := O; pe_meth ho h1 h2 h4 hr h3 .nil pass0 ha hst hpl ht
theorem pe_okm0 {pl : Sem Bool} (O : Okm X.prog X.w X.K X.mg X.base k C m ps sp) (hr : Room k X.A) (ho : PE X o ta)
    (ht : eval (.Call (.Attribute o m apos) [] [] pos) X.env = (do
      let ov ← eval o X.env
      standAt apos.atName
      let (f, first) ← holding [ov] (getMethod ov m pl)
      callWith pos f first (backTo pos (starEach [] X.env)) (backToKw pos (keywordEach [] X.env))) := by rfl) :
    PE X (.Call (.Attribute o m apos) [] [] pos) (tMeth (He.ga X.K C) m sp [] E0 ta tNil) := let ⟨_, _, h1, h2, h3, h4⟩ := O; pe_meth0 ho h1 h2 h4 hr h3 .nil pass0 ht
theorem pe_okp (O : Okp X.prog X.w X.K X.mg X.base k C f sp) (hr : Room (k + 1) X.A) (ho : PE X o ta) (hab : attributeBase o f X.env (eval o X.env) = eval o X.env := by rfl) :
    PE X (.Attribute o f pos) (tProp (He.ga X.K C) sp [] E0 ta) := let ⟨_, _, _, h1, h2, h3, h4⟩ := O; pe_prop ho h1 h2 h4 hr h3 .nil pass0 hab
theorem pe_okc (O : Okc X.prog X.w X.K X.mg X.base k C ps sp) (hr : Room (k + 1) X.A) (ha : PA X (e :: es) t) (hg : Gl X C := by rfl)
    (hdb : (C == ("__debug__" : Str)) = false := by decide) (he : starEach (e :: es) X.env = (false, eval e X.env) :: starEach es X.env := by rfl) (hpl : (backTo pos (starEach es X.env)).any (·.1) = false := by rfl) :
    PE X (.Call (.Name C p) (e :: es) [] pos) (tMake (He.ga X.K C) sp [] E0 t) := let ⟨_, _, h1, h2, h3, h4⟩ := O; pe_make h2 h4 hr hg h1 h3 .nil pass0 ha hdb he hpl
/-- o.f as a target -/
def gFld (K : PySem.W.Frag) (to : TE) (f : Str) : TG := fun v σ H Q => to σ H fun x H1 => ∃ a C dx fs, x = .ref a ∧ H1 a = some (.ins C dx fs) ∧ Cls K C ∧ NoAttr K C f ∧ fs.length < 1000 ∧ Q σ (upd H1 a (.ins C dx (putF f v fs)))
theorem pg_fld (ho : PE X o ta) : PG X (.Attribute o f pos) (gFld X.K ta f) := by
  refine ⟨fun pins s σ H v u Q I r h => ?_⟩
  rw [arm_assign_Attribute]
  refine wpAny_bind (wpAny_holding (thn (ho.run pins s σ H _ I h) fun ov s1 ⟨x, H1, I1, rx, a, C, dx, fs, ex, ea, c, n, l, q⟩ => ?_))
  subst ex
  obtain rfl : ov = Value.ref a := rx
  refine wpAny_bind (wpAny_standAt (wpAny_bind (wpAny_holding (setattr_ok I1 ea c n l r fun s3 I3 => ?_))))
  exact wpAny_release ⟨σ, _, I3, q⟩
end
/-! ### evaluation: fields, methods, properties, new instances -/
section
variable {K : PySem.W.Frag} {σ : St} {H : Hp} {te : TE} {ta : TA} {tr : TA} {P : PV} {a C dx : Addr} {fs : List (Str × V)} {f m : Str} {v : V} {sp : Sp} {R : List V → Hp → Prop} {l ds : List D} {i j : Int} {b c : Bool}
theorem ev_fld (h : Ev te σ H (Is (.ref a))) (ea : H a = some (.ins C dx fs)) (c : Cls K C) (n : NoAttr K C f) (e : fs.lookup f = some v) : Ev (tFld K te f) σ H (Is v) := fun H1 s _ q =>
  h H1 s _ fun w H2 s2 p => ⟨a, C, dx, fs, v, p, (s.trans s2) _ _ ea, c, n, e, q v H2 s2 rfl⟩
theorem ev_meth (h : Ev te σ H (Is (.ref a))) (ea : H a = some (.ins C dx fs)) (n : fs.lookup m = none) (ha : EA ta σ H R)
    (hr : ∀ vs H1, Same H H1 → R vs H1 → ∀ Q : VK, (∀ v H2, Same H1 H2 → P v H2 → Q v H2) → sp (.ref a :: vs) H1 Q E0) : Ev (tMeth C m sp [] E0 te ta) σ H P := fun H1 s Q q =>
  h H1 s _ fun w H2 s2 p => ⟨a, dx, fs, p, (s.trans s2) _ _ ea, n, ha H2 (s.trans s2) _ fun vs H3 s3 p3 => by
    rw [p, List.append_nil]
    exact hr vs H3 ((s.trans s2).trans s3) p3 Q fun v H4 s4 p4 => q v H4 ((s2.trans s3).trans s4) p4⟩
theorem ev_prop (h : Ev te σ H (Is (.ref a))) (ea : H a = some (.ins C dx fs))
    (hr : ∀ H1, Same H H1 → ∀ Q : VK, (∀ v H2, Same H1 H2 → P v H2 → Q v H2) → sp [.ref a] H1 Q E0) : Ev (tProp C sp [] E0 te) σ H P := fun H1 s Q q =>
  h H1 s _ fun w H2 s2 p => ⟨a, dx, fs, p, (s.trans s2) _ _ ea, hr H2 (s.trans s2) Q fun v H3 s3 p3 => q v H3 (s2.trans s3) p3⟩
/-- a method by a promise over data, the instance first -/
theorem ev_mfn {α : Type} {e : α → List D} {ok : α → Prop} {PP : α → PV} (x : α) (h : Ev te σ H (Is (.ref a))) (ea : H a = some (.ins C dx fs)) (n : fs.lookup m = none) (ha : EA ta σ H (Da K l)) (he : e x = .ref a :: l) (hk : ok x) :
    Ev (tMeth C m (spF K e ok PP) [] E0 te ta) σ H (PP x) :=
  ev_meth h ea n ha fun vs H1 s p Q q => ⟨x, by rw [he]; exact ⟨_, _, rfl, rfl, p⟩, hk, fun v H2 s2 p2 => q v H2 s2 p2⟩
theorem ev_pfn {α : Type} {e : α → List D} {ok : α → Prop} {PP : α → PV} (x : α) (h : Ev te σ H (Is (.ref a))) (ea : H a = some (.ins C dx fs)) (he : e x = [.ref a]) (hk : ok x) :
    Ev (tProp C (spF K e ok PP) [] E0 te) σ H (PP x) :=
  ev_prop h ea fun H1 s Q q => ⟨x, by rw [he]; exact ⟨_, _, rfl, rfl, rfl⟩, hk, fun v H2 s2 p2 => q v H2 s2 p2⟩
theorem ev_make (ha : EA ta σ H R) (hr : ∀ vs H1, Same H H1 → R vs H1 → ∀ x dx, H1 x = none → H1 dx = none → dx ≠ x → ∀ Q : VK, (∀ H2, Same H1 H2 → P (.ref x) H2 → Q .non H2) →
    sp (.ref x :: vs) (upd (upd H1 dx (.own x)) x (.ins C dx [])) Q E0) : Ev (tMake C sp [] E0 ta) σ H P := fun H1 s Q q =>
  ha H1 s _ fun vs H2 s2 p x dx h1 h2 h3 => by
    rw [List.append_nil]
    exact hr vs H2 (s.trans s2) p x dx h1 h2 h3 _ fun H3 s3 p3 => ⟨rfl, q _ H3 (s2.trans s3) p3⟩
/-! ### built-ins -/
theorem one_of {d : D} {vs : List V} (h : RepAll K H [d] vs) : ∃ v, vs = [v] ∧ Rep K H d v := by
  obtain ⟨v, r, h1, h2, h3⟩ := h
  have h3 : r = [] := h3
  subst h3
  exact ⟨v, h1, h2⟩
theorem two_of {d e : D} {vs : List V} (h : RepAll K H [d, e] vs) : ∃ v w, vs = [v, w] ∧ Rep K H d v ∧ Rep K H e w := by
  obtain ⟨v, r, h1, h2, h3⟩ := h
  obtain ⟨w, h4, h5⟩ := one_of h3
  subst h4
  exact ⟨v, w, h1, h2, h5⟩
theorem ev_len (b : Bool) (h : EA ta σ H (Da K [sqD b l])) : Ev (tCB (fun xs H Q => ∃ x n, xs = [x] ∧ LenV K x H n ∧ Q (.int n) H) ta) σ H (Is (.int l.length)) :=
  ev_cb h fun vs H1 _ p Q q => by
    obtain ⟨v, rfl, pr⟩ := one_of p
    obtain ⟨a, xs, rfl, h1, h2⟩ := sqD_at pr
    refine ⟨_, xs.length, rfl, ?_, q _ H1 (Same.refl _) (by rw [h2.length])⟩
    cases b with
    | true => exact .inr ⟨xs, h1, rfl⟩
    | false => exact .inl ⟨xs, h1, rfl⟩
theorem ev_lenS {z : Str} (h : EA ta σ H (Da K [.str z])) (hz : z.length ≤ 100000) : Ev (tCB (fun xs H Q => ∃ x n, xs = [x] ∧ LenV K x H n ∧ Q (.int n) H) ta) σ H (Is (.int z.length)) :=
  ev_cb h fun vs H1 _ p Q q => by
    obtain ⟨v, rfl, pr⟩ := one_of p
    have pr : v = .str z := pr
    subst pr
    exact ⟨_, _, rfl, ⟨sz hz, rfl⟩, q _ H1 (Same.refl _) rfl⟩
theorem ev_sum {ns : List Int} (h : EA ta σ H (Da K [.lst (ns.map D.int)])) : Ev (tCB (rSum K) ta) σ H (Is (.int ns.sum)) :=
  ev_cb h fun vs H1 _ p Q q => by
    obtain ⟨v, rfl, a, xs, rfl, h1, h2⟩ := one_of p
    exact ⟨a, ns, rfl, h2.ints_eq ▸ h1, q _ H1 (Same.refl _) rfl⟩
theorem ev_max {ns : List Int} {m : Int} (h : EA ta σ H (Da K [.lst (ns.map D.int)])) (hm : m ∈ ns) (hx : ∀ y, y ∈ ns → y ≤ m) : Ev (tCB (rMax K) ta) σ H (Is (.int m)) :=
  ev_cb h fun vs H1 _ p Q q => by
    obtain ⟨v, rfl, a, xs, rfl, h1, h2⟩ := one_of p
    refine ⟨a, ns, rfl, h2.ints_eq ▸ h1, List.length_pos_of_mem hm, fun m' g1 g2 => ?_⟩
    rw [Int.le_antisymm (hx _ g1) (g2 _ hm)]
    exact q _ H1 (Same.refl _) rfl
theorem ev_all {bs : List Bool} (h : EA ta σ H (Da K [.lst (bs.map D.bl)])) : Ev (tCB (rAll K) ta) σ H (Is (.bl (bs.all id))) :=
  ev_cb h fun vs H1 _ p Q q => by
    obtain ⟨v, rfl, a, xs, rfl, h1, h2⟩ := one_of p
    exact ⟨a, bs, rfl, h2.bls_eq ▸ h1, q _ H1 (Same.refl _) rfl⟩
theorem ev_abs (h : EA ta σ H (Da K [.int i])) : Ev (tCB (fun xs H Q => ∃ i, xs = [.int i] ∧ Q (.int (if i < 0 then -i else i)) H) ta) σ H (Is (.int (if i < 0 then -i else i))) :=
  ev_cb h fun vs H1 _ p Q q => by
    obtain ⟨v, rfl, rfl⟩ := one_of p
    exact ⟨i, rfl, q _ H1 (Same.refl _) rfl⟩
theorem ev_int (h : EA ta σ H (Da K [.int i])) : Ev (tCB (fun xs H Q => (∃ i, xs = [.int i] ∧ Q (.int i) H) ∨ ∃ k, xs = [.bl k] ∧ Q (.int (if k then 1 else 0)) H) ta) σ H (Is (.int i)) :=
  ev_cb h fun vs H1 _ p Q q => by
    obtain ⟨v, rfl, rfl⟩ := one_of p
    exact .inl ⟨i, rfl, q _ H1 (Same.refl _) rfl⟩
theorem ev_intB (h : EA ta σ H (Da K [.bl b])) : Ev (tCB (fun xs H Q => (∃ i, xs = [.int i] ∧ Q (.int i) H) ∨ ∃ k, xs = [.bl k] ∧ Q (.int (if k then 1 else 0)) H) ta) σ H (Is (.int (if b then 1 else 0))) :=
  ev_cb h fun vs H1 _ p Q q => by
    obtain ⟨v, rfl, rfl⟩ := one_of p
    exact .inr ⟨b, rfl, q _ H1 (Same.refl _) rfl⟩
theorem ev_max2 (h : EA ta σ H (Da K [.int i, .int j])) : Ev (tCB (fun xs H Q => ∃ i j, xs = [.int i, .int j] ∧ Q (.int (if j > i then j else i)) H) ta) σ H (Is (.int (if j > i then j else i))) :=
  ev_cb h fun vs H1 _ p Q q => by
    obtain ⟨v, w, rfl, rfl, rfl⟩ := two_of p
    exact ⟨i, j, rfl, q _ H1 (Same.refl _) rfl⟩
theorem ev_min2 (h : EA ta σ H (Da K [.int i, .int j])) : Ev (tCB (fun xs H Q => ∃ i j, xs = [.int i, .int j] ∧ Q (.int (if j < i then j else i)) H) ta) σ H (Is (.int (if j < i then j else i))) :=
  ev_cb h fun vs H1 _ p Q q => by
    obtain ⟨v, w, rfl, rfl, rfl⟩ := two_of p
    exact ⟨i, j, rfl, q _ H1 (Same.refl _) rfl⟩
theorem ev_divmod (h : EA ta σ H (Da K [.int i, .int j])) (hc : CDiv i j) : Ev (tCB (fun xs H Q => ∃ i j, xs = [.int i, .int j] ∧ CDiv i j ∧ ∀ p, H p = none → Q (.ref p) (upd H p (.tup [.int (i / j), .int (i % j)]))) ta) σ H (Dt K (.tup [.int (i / j), .int (i % j)])) :=
  ev_cb h fun vs H1 _ p Q q => by
    obtain ⟨v, w, rfl, rfl, rfl⟩ := two_of p
    exact ⟨i, j, rfl, hc, fun p hp => q _ _ (same_new hp) ⟨p, _, rfl, upd_same, _, _, rfl, rfl, _, _, rfl, rfl, rfl⟩⟩
theorem ev_tupOf (h : EA ta σ H (Da K [.lst l])) : Ev (tCB (fun xs H Q => ∃ p ys, xs = [.ref p] ∧ ((SqL K H p ys ∧ ∀ l, H l = none → Q (.ref l) (upd H l (.tup ys))) ∨ (SqT K H p ys ∧ Q (.ref p) H))) ta) σ H (Dt K (.tup l)) :=
  ev_cb h fun vs H1 _ p Q q => by
    obtain ⟨v, rfl, a, xs, rfl, h1, h2⟩ := one_of p
    exact ⟨a, xs, rfl, .inl ⟨h1, fun p hp => q _ _ (same_new hp) ⟨p, xs, rfl, upd_same, RepAll.same (same_new hp) h2⟩⟩⟩
theorem ev_lstOf (h : EA ta σ H (Da K [.tup l])) : Ev (tCB (fun xs H Q => ∃ p ys, xs = [.ref p] ∧ (SqL K H p ys ∨ SqT K H p ys) ∧ ∀ l, H l = none → Q (.ref l) (upd H l (.lst ys))) ta) σ H (NewL K H l) := fun H0 s Q q =>
  h H0 s _ fun vs H1 s1 p => by
    obtain ⟨v, rfl, a, xs, rfl, h1, h2⟩ := one_of p
    exact ⟨a, xs, rfl, .inr (SqT.of h1), fun p hp => q _ _ (s1.trans (same_new hp)) ⟨p, xs, rfl, fresh_back (s.trans s1) hp, upd_same, RepAll.same (same_new hp) h2⟩⟩
theorem ev_isi {d : D} {t n : String} (h : EA ta σ H (fun vs H1 => ∃ v, vs = [v, .ty n] ∧ TyX K H1 v (.type t))) (hb : kitB t n = some b) : Ev (tCB (rIsi K) ta) σ H (Is (.bl b)) :=
  ev_cb h fun vs H1 _ ⟨v, e, ty⟩ Q q => ⟨v, .ty n, _, .type n, b, e, .ty n, ty, kit_ty hb, q _ H1 (Same.refl _) rfl⟩
/-! ### tuples: +, slices, * -/
theorem ev_catT {t1 t2 : TE} {m : List D} (h1 : Ev t1 σ H (Dt K (.tup l))) (h2 : Ev t2 σ H (Dt K (.tup m))) (hl : l.length + m.length ≤ 100000) : Ev (tOp (rCatA K) t1 t2) σ H (Dt K (.tup (l ++ m))) :=
  ev_op h1 h2 mono_dt fun x y H1 _ ⟨a, xs, e1, g1, r1⟩ ⟨c, ys, e2, g2, r2⟩ Q q => by
    refine ⟨a, c, xs, ys, e1, e2, SqT.of g1, SqT.of g2, sz (by rw [r1.length, r2.length]; exact hl), fun z => ?_, fun z z2 => ?_, fun _ _ p hp => ?_⟩
    · have : l = [] := List.length_eq_zero_iff.mp (by rw [← r1.length, z]; rfl)
      exact q _ H1 (Same.refl _) (by rw [this]; exact ⟨c, ys, rfl, g2, r2⟩)
    · have : m = [] := List.length_eq_zero_iff.mp (by rw [← r2.length, z2]; rfl)
      exact q _ H1 (Same.refl _) (by rw [this, List.append_nil]; exact ⟨a, xs, rfl, g1, r1⟩)
    · exact q _ _ (same_new hp) ⟨p, _, rfl, upd_same, RepAll.same (same_new hp) (RepAll.append r1 r2)⟩
theorem sIx_le {n d : Nat} {o : Option Int} (hd : d ≤ n) (ho : ∀ i, o = some i → 0 ≤ i) : HT.sIx n d o ≤ n := by
  cases o with
  | none => exact hd
  | some i =>
    show (if i < 0 then _ else min i.toNat n) ≤ n
    rw [if_neg (by have := ho i rfl; omega)]
    exact Nat.min_le_right _ _
/-- a slice of a tuple: m items behind n -/
theorem ev_slT {lo hi : Option Int} {tl th : TO} {n z : Nat} (h : Ev te σ H (Dt K (.tup l))) (hlo : ∀ H1, Same H H1 → ∀ Q : Option Int → Hp → Prop, (∀ H2, Same H1 H2 → Q lo H2) → tl σ H1 Q) (hhi : ∀ H1, Same H H1 → ∀ Q : Option Int → Hp → Prop, (∀ H2, Same H1 H2 → Q hi H2) → th σ H1 Q)
    (e1 : HT.sIx l.length 0 lo = n) (e2 : HT.sIx l.length l.length hi = z) : Ev (tSl (rSlA K) te tl th) σ H (Dt K (.tup ((l.drop n).take (z - n)))) := fun H1 s Q q =>
  h H1 s _ fun v H2 s2 ⟨a, xs, ev, hx, hr⟩ => hlo H2 (s.trans s2) _ fun H3 s3 => hhi H3 ((s.trans s2).trans s3) _ fun H4 s4 => by
    have hl := hr.length
    have s24 := s3.trans s4
    refine ⟨a, xs, ev, SqT.of (s24 _ _ hx), fun w => ?_, fun _ p hp => ?_⟩
    · rw [hl, e1, e2] at w
      refine q _ H4 (s2.trans s24) ⟨a, xs, rfl, s24 _ _ hx, ?_⟩
      rw [w.1, w.2, List.drop_zero, Nat.sub_zero, List.take_length]
      exact RepAll.same s24 hr
    · refine q _ _ ((s2.trans s24).trans (same_new hp)) ⟨p, _, rfl, upd_same, ?_⟩
      unfold cutV
      rw [hl, e1, e2]
      exact RepAll.same (same_new hp) (RepAll.take _ (RepAll.drop _ (RepAll.same s24 hr)))
theorem to_none {H : Hp} : ∀ H1, Same H H1 → ∀ Q : Option Int → Hp → Prop, (∀ H2, Same H1 H2 → Q none H2) → tNoPart σ H1 Q := fun H1 _ Q q => q H1 (Same.refl _)
theorem to_some {H : Hp} (h : Ev te σ H (Is (.int i))) : ∀ H1, Same H H1 → ∀ Q : Option Int → Hp → Prop, (∀ H2, Same H1 H2 → Q (some i) H2) → tPart te σ H1 Q := fun H1 s Q q => h H1 s _ fun v H2 s2 e => ⟨i, e, q H2 s2⟩
end
end LC
end
section
set_option Elab.async false
set_option linter.all false
set_option maxRecDepth 100000
set_option maxHeartbeats 1000000
/-! Comprehensions in short; dicts with tuple keys: read, stored, locked. -/
namespace LC
open PySem PySem.Spec L2
section
variable {K : PySem.W.Frag} {σ : St} {H : Hp} {te : TE} {tt : TT} {P : PV} {B : Hp → (Hp → Prop) → Prop} {wi : TI} {g : TG} {α : Type} {vs : List Nat} {l : List α} {p : α → Bool} {f : α → D}
theorem ev_lcA (e : α → D) (F : α → Option D) (h : IT K wi σ H (l.map e) B) (hl : l.length ≤ 50000)
    (hb : ∀ a x H1, a ∈ l → Same H H1 → Rep K H1 (e a) x → g x (wipe σ vs) H1 fun σ2 H2 => Same H1 H2 ∧ wipe σ2 vs = wipe σ vs ∧ ∃ b, ET tt σ2 H2 b ∧ (b = false → F a = none) ∧ (b = true → ∃ d, F a = some d ∧ d.tupsOnly = true ∧ Ev te σ2 H2 (Dt K d)))
    (gm : ∀ x σ H (Q Q' : St → Hp → Prop), (∀ σ2 H2, Q σ2 H2 → Q' σ2 H2) → g x σ H Q → g x σ H Q') : Ev (tLc wi g tt te vs) σ H (NewL K H (l.filterMap F)) := fun H0 e0 Q q =>
  h H0 e0 _ fun J H2 G e1 e2 hB w Dl hD => by
    have fr : H Dl = none := fresh_back (e0.trans e1) hD
    rw [List.length_map] at w
    refine lc_it w (fun i H' => Same H2 H' ∧ ∃ xs, H' Dl = some (.lst xs) ∧ RepAll K H' ((l.take i).filterMap F) xs ∧ xs.length ≤ i ∧ D.tupsOnlys ((l.take i).filterMap F) = true) ⟨same_new hD, [], upd_same, by rw [List.take_zero]; exact rfl, Nat.le_refl _, by rw [List.take_zero]; rfl⟩ (fun i H' _ p => e2 H' p.1) (fun i x H' H'' hi p y => ?_) (fun H' p => ?_)
    · obtain ⟨s2, xs, hx, hr, hn, ht⟩ := p
      obtain ⟨y1, d, y2, y3⟩ := y
      rw [List.getElem?_map] at y2
      obtain ⟨a, ya, rfl⟩ := Option.map_eq_some_iff.mp y2
      refine gm _ _ _ _ _ (fun σ2 H3 hh => ?_) (hb a x H'' (List.mem_of_getElem? ya) (((e0.trans e1).trans s2).trans y1) y3)
      obtain ⟨s3, hw, b, h1, h2, h3⟩ := hh
      refine ⟨hw, h1 H3 (Same.refl H3) _ fun H4 s4 => ?_⟩
      have s24 : Same H2 H4 := ((s2.trans y1).trans s3).trans s4
      have hx4 : H4 Dl = some (.lst xs) := s4 _ _ (s3 _ _ (y1 _ _ hx))
      have hr4 := RepAll.same ((y1.trans s3).trans s4) hr
      cases b with
      | false =>
        show Same H2 H4 ∧ _
        have e0 : (l.take (i + 1)).filterMap F = (l.take i).filterMap F := by rw [filterMap_snoc F ya, h2 rfl]; exact List.append_nil _
        rw [e0]
        exact ⟨s24, xs, hx4, hr4, Nat.le_succ_of_le hn, ht⟩
      | true =>
        obtain ⟨e', h4, ht', h5⟩ := h3 rfl
        refine h5 H4 s4 _ fun y H5 s5 ry => ⟨xs, s5 _ _ hx4, szl (by omega), same_mut (s24.trans s5) hD, xs ++ [y], upd_same, ?_, ?_, ?_⟩
        · have kt : KeepT H5 (upd H5 Dl (.lst (xs ++ [y]))) := keepT_updL (s5 _ _ hx4)
          rw [filterMap_snoc F ya, h4]
          exact RepAll.append (RepAll.keepT kt ht (RepAll.same s5 hr4)) (RepAll.one (Rep.keepT kt ht' ry))
        · rw [List.length_append]; show xs.length + 1 ≤ i + 1; omega
        · rw [filterMap_snoc F ya, h4]
          exact tupsOnlys_append ht (by show (e'.tupsOnly && true) = true; rw [ht']; rfl)
    · obtain ⟨s2, xs, hx, hr, _, _⟩ := p
      rw [List.take_length] at hr
      exact q _ _ (e1.trans s2) ⟨Dl, xs, rfl, fr, hx, hr⟩
theorem fm_eq (l : List α) (p : α → Bool) (f : α → D) : l.filterMap (fun a => if p a then some (f a) else none) = (l.filter p).map f := by
  induction l with
  | nil => rfl
  | cons a l ih =>
    rw [List.filterMap_cons, List.filter_cons]
    cases e : p a with
    | true => simp only [if_true]; rw [List.map_cons, ih]
    | false => simp only [Bool.false_eq_true, if_false]; exact ih
theorem f_all (l : List α) : l.filter (fun _ => true) = l := by induction l with
  | nil => rfl
  | cons a l ih => rw [List.filter_cons]; simp only [if_true]; rw [ih]
/-- one name; with a test -/
theorem ev_lc1F {j : Nat} (e : α → D) (p : α → Bool) (f : α → D) (h : IT K wi σ H (l.map e) B) (hl : l.length ≤ 50000) (hw : ∀ x, wipe ((wipe σ vs).set j (some x)) vs = wipe σ vs)
    (hb : ∀ a x H1, a ∈ l → Same H H1 → Rep K H1 (e a) x → ET tt ((wipe σ vs).set j (some x)) H1 (p a) ∧ (p a = true → (f a).tupsOnly = true ∧ Ev te ((wipe σ vs).set j (some x)) H1 (Dt K (f a)))) : Ev (tLc wi (gName j) tt te vs) σ H (NewL K H ((l.filter p).map f)) := by
  rw [← fm_eq]
  refine ev_lcA e _ h hl (fun a x H1 ha s r => ⟨Same.refl _, hw x, p a, (hb a x H1 ha s r).1, fun z => by simp [z], fun z => ⟨f a, by simp [z], ((hb a x H1 ha s r).2 z).1, ((hb a x H1 ha s r).2 z).2⟩⟩) (fun _ _ _ _ _ k z => k _ _ z)
theorem ev_lc2F {i j : Nat} (e1 e2 : α → D) (p : α → Bool) (f : α → D) (h : IT K wi σ H (l.map fun a => .tup [e1 a, e2 a]) B) (hl : l.length ≤ 50000) (hw : ∀ x y, wipe (((wipe σ vs).set i (some x)).set j (some y)) vs = wipe σ vs)
    (hb : ∀ a x y H1, a ∈ l → Same H H1 → Rep K H1 (e1 a) x → Rep K H1 (e2 a) y → ET tt (((wipe σ vs).set i (some x)).set j (some y)) H1 (p a) ∧ (p a = true → (f a).tupsOnly = true ∧ Ev te (((wipe σ vs).set i (some x)).set j (some y)) H1 (Dt K (f a)))) :
    Ev (tLc wi (gTup K 2 (gCons (gName i) (gCons (gName j) gNil))) tt te vs) σ H (NewL K H ((l.filter p).map f)) := by
  rw [← fm_eq]
  refine ev_lcA _ _ h hl (fun a z H1 ha s r => g_tup2 r fun x y rx ry => ⟨Same.refl _, hw x y, p a, (hb a x y H1 ha s rx ry).1, fun z => by simp [z], fun z => ⟨f a, by simp [z], ((hb a x y H1 ha s rx ry).2 z).1, ((hb a x y H1 ha s rx ry).2 z).2⟩⟩) (fun _ _ _ _ _ k z => ?_)
  obtain ⟨a, xs, h1, h2, h3, z⟩ := z
  refine ⟨a, xs, h1, h2, h3, ?_⟩
  obtain ⟨v, r, e1, w, r2, e2, e3, z⟩ := z
  exact ⟨v, r, e1, w, r2, e2, e3, k _ _ z⟩
theorem ev_lc3F {i j m : Nat} (e1 e2 e3 : α → D) (p : α → Bool) (f : α → D) (h : IT K wi σ H (l.map fun a => .tup [e1 a, e2 a, e3 a]) B) (hl : l.length ≤ 50000) (hw : ∀ x y z, wipe ((((wipe σ vs).set i (some x)).set j (some y)).set m (some z)) vs = wipe σ vs)
    (hb : ∀ a x y z H1, a ∈ l → Same H H1 → Rep K H1 (e1 a) x → Rep K H1 (e2 a) y → Rep K H1 (e3 a) z → ET tt ((((wipe σ vs).set i (some x)).set j (some y)).set m (some z)) H1 (p a) ∧ (p a = true → (f a).tupsOnly = true ∧ Ev te ((((wipe σ vs).set i (some x)).set j (some y)).set m (some z)) H1 (Dt K (f a)))) :
    Ev (tLc wi (gTup K 3 (gCons (gName i) (gCons (gName j) (gCons (gName m) gNil)))) tt te vs) σ H (NewL K H ((l.filter p).map f)) := by
  rw [← fm_eq]
  refine ev_lcA _ _ h hl (fun a z H1 ha s r => g_tup3 r fun x y z rx ry rz => ⟨Same.refl _, hw x y z, p a, (hb a x y z H1 ha s rx ry rz).1, fun z => by simp [z], fun w => ⟨f a, by simp [w], ((hb a x y z H1 ha s rx ry rz).2 w).1, ((hb a x y z H1 ha s rx ry rz).2 w).2⟩⟩) (fun _ _ _ _ _ k z => ?_)
  obtain ⟨a, xs, h1, h2, h3, z⟩ := z
  refine ⟨a, xs, h1, h2, h3, ?_⟩
  obtain ⟨v, r, e1, w, r2, e2, u, r3, e4, e3, z⟩ := z
  exact ⟨v, r, e1, w, r2, e2, u, r3, e4, e3, k _ _ z⟩
theorem et_yes : ET tYes σ H true := fun H1 _ _ q => q H1 (Same.refl _)
theorem ev_lc1 {j : Nat} (e : α → D) (f : α → D) (h : IT K wi σ H (l.map e) B) (hl : l.length ≤ 50000) (hw : ∀ x, wipe ((wipe σ vs).set j (some x)) vs = wipe σ vs) (ht : ∀ a, a ∈ l → (f a).tupsOnly = true)
    (hb : ∀ a x H1, a ∈ l → Same H H1 → Rep K H1 (e a) x → Ev te ((wipe σ vs).set j (some x)) H1 (Dt K (f a))) : Ev (tLc wi (gName j) tYes te vs) σ H (NewL K H (l.map f)) := by
  have q := ev_lc1F (tt := tYes) (te := te) e (fun _ => true) f h hl hw fun a x H1 ha s r => ⟨et_yes, fun _ => ⟨ht a ha, hb a x H1 ha s r⟩⟩
  rwa [f_all] at q
theorem ev_lc2 {i j : Nat} (e1 e2 : α → D) (f : α → D) (h : IT K wi σ H (l.map fun a => .tup [e1 a, e2 a]) B) (hl : l.length ≤ 50000) (hw : ∀ x y, wipe (((wipe σ vs).set i (some x)).set j (some y)) vs = wipe σ vs) (ht : ∀ a, a ∈ l → (f a).tupsOnly = true)
    (hb : ∀ a x y H1, a ∈ l → Same H H1 → Rep K H1 (e1 a) x → Rep K H1 (e2 a) y → Ev te (((wipe σ vs).set i (some x)).set j (some y)) H1 (Dt K (f a))) :
    Ev (tLc wi (gTup K 2 (gCons (gName i) (gCons (gName j) gNil))) tYes te vs) σ H (NewL K H (l.map f)) := by
  have q := ev_lc2F (tt := tYes) (te := te) e1 e2 (fun _ => true) f h hl hw fun a x y H1 ha s r r2 => ⟨et_yes, fun _ => ⟨ht a ha, hb a x y H1 ha s r r2⟩⟩
  rwa [f_all] at q
theorem ev_lc3 {i j m : Nat} (e1 e2 e3 : α → D) (f : α → D) (h : IT K wi σ H (l.map fun a => .tup [e1 a, e2 a, e3 a]) B) (hl : l.length ≤ 50000) (hw : ∀ x y z, wipe ((((wipe σ vs).set i (some x)).set j (some y)).set m (some z)) vs = wipe σ vs) (ht : ∀ a, a ∈ l → (f a).tupsOnly = true)
    (hb : ∀ a x y z H1, a ∈ l → Same H H1 → Rep K H1 (e1 a) x → Rep K H1 (e2 a) y → Rep K H1 (e3 a) z → Ev te ((((wipe σ vs).set i (some x)).set j (some y)).set m (some z)) H1 (Dt K (f a))) :
    Ev (tLc wi (gTup K 3 (gCons (gName i) (gCons (gName j) (gCons (gName m) gNil)))) tYes te vs) σ H (NewL K H (l.map f)) := by
  have q := ev_lc3F (tt := tYes) (te := te) e1 e2 e3 (fun _ => true) f h hl hw fun a x y z H1 ha s r r2 r3 => ⟨et_yes, fun _ => ⟨ht a ha, hb a x y z H1 ha s r r2 r3⟩⟩
  rwa [f_all] at q
end
/-! ### a dict with tuple keys that stands at d -/
/-- a tracked tuple of ints, a key -/
abbrev Ki (k : List Int) : PV := fun v H => ∃ b, v = .ref b ∧ H b = some (.tup (k.map V.int))
section
variable {K : PySem.W.Frag} {σ : St} {H : Hp} {td ty te : TE} {tt : TT} {P : PV} {d : Addr} {es : Es} {kvs : List (List Key × V)} {o : Obj} {k : List Int} {dv : D} {v : V} {E : Ends} {t z : TS}
theorem dt_ki (h : Ev te σ H (Dt K (.tup (k.map D.int)))) : Ev te σ H (Ki k) := h.imp fun v H' _ ⟨a, xs, e, h1, h2⟩ => ⟨a, e, by rw [h1, h2.ints_eq]⟩
theorem ki_dt {v : V} (h : Ki k v H) : Rep K H (.tup (k.map D.int)) v := let ⟨b, e, h1⟩ := h; ⟨b, _, e, h1, RepAll.ints k⟩
theorem rep_ki {v : V} (h : Rep K H (.tup (k.map D.int)) v) : Ki k v H := let ⟨a, xs, e, h1, h2⟩ := h; ⟨a, e, by rw [h1, h2.ints_eq]⟩
theorem mono_ki : Mono (Ki k) := fun _ _ _ e ⟨b, h1, h2⟩ => ⟨b, h1, e _ _ h2⟩
/-- as it is, or under a lock -/
abbrev RdT (H : Hp) (d : Addr) (kvs : List (List Key × V)) : Prop := Rd H d (.dT kvs)
theorem get_key {H : Hp} {b : Addr} (hd : RdT H d kvs) (hb : H b = some (.tup (k.map V.int))) : DGet H d (.ref b) (valV kvs (keyD k)) := .inr ⟨kvs, keyD k, b, hd, rfl, by rw [keyD_V]; exact hb, rfl⟩
theorem ev_dget (h : Ev td σ H (Is (.ref d))) (hk : Ev ty σ H (Ki k)) (hd : RdT H d kvs) (hr : DictR K H es kvs) (e : getE es k = some dv) : Ev (tDGet td ty) σ H (Dt K dv) := fun H1 s Q q =>
  h H1 s _ fun w H2 s2 p => hk H2 (s.trans s2) _ fun y H3 s3 ⟨b, e1, e2⟩ => by
    have s03 := (s.trans s2).trans s3
    obtain ⟨v, g1, g2⟩ := (DictR.same s03 hr).get_some e
    exact ⟨d, v, p, by rw [e1, ← g1]; exact get_key (same_rd s03 hd) e2, q v H3 (s2.trans s3) g2⟩
theorem ev_dnotin (hk : Ev ty σ H (Ki k)) (h : Ev td σ H (Is (.ref d))) (hd : RdT H d kvs) (hr : DictR K H es kvs) : Ev (tDNotIn ty td) σ H (Is (.bl (!(getE es k).isSome))) := fun H1 s Q q =>
  hk H1 s _ fun y H2 s2 p => h H2 (s.trans s2) _ fun w H3 s3 e => by
    obtain ⟨b, e1, e2⟩ := mono_ki _ _ _ s3 p
    have s03 := (s.trans s2).trans s3
    exact ⟨d, _, e, by rw [e1]; exact get_key (same_rd s03 hd) e2, q _ H3 (s2.trans s3) (by rw [(DictR.same s03 hr).isSome k])⟩
/-- d.get(k): the int there, or None -/
theorem ev_dgetI {o : Option Int} (h : Ev td σ H (Is (.ref d))) (hk : Ev ty σ H (Ki k)) (hd : RdT H d kvs) (hr : DictR K H es kvs) (e : getE es k = o.map D.int) : Ev (tDGet1 td ty) σ H (Is (match o with
    | some i => .int i
    | none => .non)) := fun H1 s Q q =>
  h H1 s _ fun w H2 s2 p => by
    refine ⟨d, p, ?_, hk H2 (s.trans s2) _ fun y H3 s3 ⟨b, e1, e2⟩ => ?_⟩
    · exact .inr ⟨kvs, same_rd (s.trans s2) hd⟩
    · have s03 := (s.trans s2).trans s3
      refine ⟨valV kvs (keyD k), by rw [e1]; exact get_key (same_rd s03 hd) e2, ?_⟩
      cases o with
      | some i =>
        obtain ⟨v, g1, g2⟩ := (DictR.same s03 hr).get_some e
        rw [g1]
        exact q _ H3 (s2.trans s3) g2
      | none =>
        rw [(DictR.same s03 hr).get_none e]
        exact q _ H3 (s2.trans s3) rfl
end
end LC
end
section
set_option Elab.async false
set_option linter.all false
set_option maxRecDepth 100000
set_option maxHeartbeats 1000000
/-! The rules with the written part told, for terms that a program prints. -/
namespace LC
open PySem PySem.Spec L2
abbrev rTupOf (K : PySem.W.Frag) : List V → Hp → VK → Prop := fun xs H Q => ∃ p ys, xs = [.ref p] ∧ ((SqL K H p ys ∧ ∀ l, H l = none → Q (.ref l) (upd H l (.tup ys))) ∨ (SqT K H p ys ∧ Q (.ref p) H))
abbrev rLstOf (K : PySem.W.Frag) : List V → Hp → VK → Prop := fun xs H Q => ∃ p ys, xs = [.ref p] ∧ (SqL K H p ys ∨ SqT K H p ys) ∧ ∀ l, H l = none → Q (.ref l) (upd H l (.lst ys))
abbrev rJoinS (K : PySem.W.Frag) : V → List V → Hp → VK → Prop := fun x xs H Q => ∃ a p, ∃ ys : List Str, x = .str a ∧ xs = [.ref p] ∧ (SqL K H p (ys.map V.str) ∨ SqT K H p (ys.map V.str)) ∧
    (ys.map (·.length)).sum + ys.length * a.length ≤ 16777216 ∧ Q (.str (Txt.join a ys)) H
section
variable {X : Cx} {K : PySem.W.Frag} {a b c e o l : Expr} {es : List Expr} {ta tb te tl : TE} {t : TA} {p pos apos : Pos} {tg : Expr} {x : Str} {k : Nat} {C m f : Str} {ps : List Str} {sp : Sp}
theorem kIxT (hK : X.K = K) (ha : PE X a ta) (hb : PE X b tb) (hs : PlainIx b := by exact fun _ _ => rfl) : PE X (.Subscript a b pos) (tOp (rIxT K) ta tb) := hK ▸ pe_ix ix_tup ha hb hs
theorem kIxL (hK : X.K = K) (ha : PE X a ta) (hb : PE X b tb) (hs : PlainIx b := by exact fun _ _ => rfl) : PE X (.Subscript a b pos) (tOp (rIxL K) ta tb) := hK ▸ pe_ix ix_list ha hb hs
theorem kIxS (ha : PE X a ta) (hb : PE X b tb) (hs : PlainIx b := by exact fun _ _ => rfl) : PE X (.Subscript a b pos) (tOp rIxS ta tb) := pe_ix ix_str ha hb hs
theorem kSlT {lo hi : Option Expr} {tl th : TO} {p2 : Pos} (hK : X.K = K) (he : PE X e te) (hl : PO X lo tl) (hu : PO X hi th) : PE X (.Subscript e (.Slice lo hi none p2) pos) (tSl (rSlA K) te tl th) := hK ▸ pe_slice sl_tupA he hl hu
theorem kSlL {lo hi : Option Expr} {tl th : TO} {p2 : Pos} (hK : X.K = K) (he : PE X e te) (hl : PO X lo tl) (hu : PO X hi th) : PE X (.Subscript e (.Slice lo hi none p2) pos) (tSl (rSlL K) te tl th) := hK ▸ pe_slice sl_list he hl hu
theorem kCatT (hK : X.K = K) (ha : PE X a ta) (hb : PE X b tb) : PE X (.BinOp a .Add b pos) (tOp (rCatA K) ta tb) := hK ▸ pe_op op_catA ha hb
theorem kRepT (hK : X.K = K) (ha : PE X a ta) (hb : PE X b tb) : PE X (.BinOp a .Mult b pos) (tOp (rRepT K) ta tb) := hK ▸ pe_op op_repT ha hb
theorem kFld (hK : X.K = K) (he : PE X e te) (hb : attributeBase e f X.env (eval e X.env) = eval e X.env := by rfl) : PE X (.Attribute e f pos) (tFld K te f) := hK ▸ pe_fld he hb
theorem kSFld {value : Expr} {tv : TE} {pos' : Pos} (hK : X.K = K) (ho : PE X o te) (hv : PE X value tv) (hs : swapsWith value (some (.Attribute o f pos')) pos.line X.env = pure false := by rfl) : PS X (.Assign [.Attribute o f pos'] value pos) (sFld K te tv f) := hK ▸ ps_fld ho hv hs
theorem kGFld (hK : X.K = K) (ho : PE X o te) : PG X (.Attribute o f pos) (gFld K te f) := hK ▸ pg_fld ho
theorem kIStr (hl : PE X l tl) : PI X tg l (iStr tl) := pi_str hl
theorem kITup (hK : X.K = K) (hl : PE X l tl) : PI X tg l (iTup K tl) := hK ▸ pi_tup hl
theorem kIList (hK : X.K = K) (hl : PE X l tl) : PI X tg l (iList K tl) := hK ▸ pi_list hl
theorem kStar (hK : X.K = K) (he : PE X e te) (hr : PA X es t) (hs : starEach (.Starred e p :: es) X.env = (true, eval e X.env) :: starEach es X.env := by rfl) : PA X (.Starred e p :: es) (StX.tStar K te t) := hK ▸ StX.pa_star he hr hs
theorem kGTup {n : Nat} {ts : TGs} {kk : Nat} (hK : X.K = K) (hc : X.calm = true) (h : PGs X es ts) (hn : (assignEach es X.env).length = n := by rfl) (hst : (assignEach es X.env).findIdx? (·.1) = none := by rfl) : PG X (.Tuple es kk pos) (gTup K n ts) := hK ▸ pg_tup hc h (hn := hn) (hst := hst)
theorem kLen (hK : X.K = K) (hm : X.mg "len" = none) (ha : PA X (e :: es) t) (hg : Gl X "len" := by rfl) (he : starEach (e :: es) X.env = (false, eval e X.env) :: starEach es X.env := by rfl) (hpl : (backTo pos (starEach es X.env)).any (·.1) = false := by rfl) :
    PE X (.Call (.Name "len" p) (e :: es) [] pos) (tCB (fun xs H Q => ∃ x n, xs = [x] ∧ LenV K x H n ∧ Q (.int n) H) t) := hK ▸ pe_callB call_len hg hm PySem.boot_len ha (he := he) (hpl := hpl)
theorem kB {r : List V → Hp → VK → Prop} {r' : PySem.W.Frag → List V → Hp → VK → Prop} {id : String} (hK : X.K = K) (hc : CallR X (.builtin id) (r' X.K)) (hm : X.mg x = none) (hv : bootBuiltins x = some (.builtin id)) (ha : PA X (e :: es) t) (hg : Gl X x := by rfl) (hn : x ≠ "__name__" := by decide) (hdb : (x == ("__debug__" : Str)) = false := by decide)
    (he : starEach (e :: es) X.env = (false, eval e X.env) :: starEach es X.env := by rfl) (hpl : (backTo pos (starEach es X.env)).any (·.1) = false := by rfl) : PE X (.Call (.Name x p) (e :: es) [] pos) (tCB (r' K) t) := hK ▸ pe_callB hc hg hm hv ha hn hdb he hpl
theorem kTy {r' : PySem.W.Frag → List V → Hp → VK → Prop} {T : String} (hK : X.K = K) (hc : CallR X (.type T) (r' X.K)) (hm : X.mg x = none) (hv : bootBuiltins x = some (.type T)) (ha : PA X (e :: es) t) (hg : Gl X x := by rfl) (hn : x ≠ "__name__" := by decide) (hdb : (x == ("__debug__" : Str)) = false := by decide)
    (he : starEach (e :: es) X.env = (false, eval e X.env) :: starEach es X.env := by rfl) (hpl : (backTo pos (starEach es X.env)).any (·.1) = false := by rfl) : PE X (.Call (.Name x p) (e :: es) [] pos) (tCB (r' K) t) := hK ▸ pe_callTy hc hg hm hv ha hn hdb he hpl
theorem kMeth {pl : Sem Bool} (hK : X.K = K) (O : Okm X.prog X.w X.K X.mg X.base k C m ps sp) (hr : Room k X.A) (ho : PE X o ta) (ha : PA X (e :: es) t)
    (hst : starEach (e :: es) X.env = (false, eval e X.env) :: starEach es X.env := by rfl) (hpl : (backTo pos (starEach es X.env)).any (·.1) = false := by rfl)
    (ht : eval (.Call (.Attribute o m apos) (e :: es) [] pos) X.env = (do
      let ov ← eval o X.env
      standAt apos.atName
      let (f, first) ← holding [ov] (getMethod ov m pl)
      callWith pos f first (backTo pos (starEach (e :: es) X.env)) (backToKw pos (keywordEach [] X.env))) := by rfl) :
    PE X (.Call (.Attribute o m apos) (e :: es) [] pos) (tMeth (He.ga K C) m sp [] E0 ta t) := hK ▸ pe_okm O hr ho ha hst hpl ht
theorem kMeth0 {pl : Sem Bool} (hK : X.K = K) (O : Okm X.prog X.w X.K X.mg X.base k C m ps sp) (hr : Room k X.A) (ho : PE X o ta)
    (ht : eval (.Call (.Attribute o m apos) [] [] pos) X.env = (do
      let ov ← eval o X.env
      standAt apos.atName
      let (f, first) ← holding [ov] (getMethod ov m pl)
      callWith pos f first (backTo pos (starEach [] X.env)) (backToKw pos (keywordEach [] X.env))) := by rfl) :
    PE X (.Call (.Attribute o m apos) [] [] pos) (tMeth (He.ga K C) m sp [] E0 ta tNil) := hK ▸ pe_okm0 O hr ho ht
theorem kProp (hK : X.K = K) (O : Okp X.prog X.w X.K X.mg X.base k C f sp) (hr : Room (k + 1) X.A) (ho : PE X o ta) (hab : attributeBase o f X.env (eval o X.env) = eval o X.env := by rfl) :
    PE X (.Attribute o f pos) (tProp (He.ga K C) sp [] E0 ta) := hK ▸ pe_okp O hr ho hab
theorem kMake (hK : X.K = K) (O : Okc X.prog X.w X.K X.mg X.base k C ps sp) (hr : Room (k + 1) X.A) (ha : PA X (e :: es) t) (hg : Gl X C := by rfl)
    (hdb : (C == ("__debug__" : Str)) = false := by decide) (he : starEach (e :: es) X.env = (false, eval e X.env) :: starEach es X.env := by rfl) (hpl : (backTo pos (starEach es X.env)).any (·.1) = false := by rfl) :
    PE X (.Call (.Name C p) (e :: es) [] pos) (tMake (He.ga K C) sp [] E0 t) := hK ▸ pe_okc O hr ha hg hdb he hpl
theorem kGInt {n : Int} (h : ∃ u, X.mg x = some (.int n u)) (hg : Gl X x := by rfl) (hd : (x == ("__debug__" : Str)) = false := by decide) : PE X (.Name x pos) (tC (.int n)) := let ⟨u, h⟩ := h; pe_glob hg h ⟨u, rfl⟩ hd
theorem kGStr {z : Str} (h : ∃ u, X.mg x = some (.str z u)) (hg : Gl X x := by rfl) (hd : (x == ("__debug__" : Str)) = false := by decide) : PE X (.Name x pos) (tC (.str z)) := let ⟨u, h⟩ := h; pe_glob hg h ⟨u, rfl⟩ hd
theorem kGRef {q : Addr} (h : X.mg x = some (.ref q)) (hg : Gl X x := by rfl) (hd : (x == ("__debug__" : Str)) = false := by decide) : PE X (.Name x pos) (tC (.ref q)) := pe_glob hg h rfl hd
theorem kBTy {n : String} (hm : X.mg x = none) (hv : bootBuiltins x = some (.type n)) (hg : Gl X x := by rfl) (hn : x ≠ "__name__" := by decide) (hd : (x == ("__debug__" : Str)) = false := by decide) : PE X (.Name x pos) (tC (.ty n)) := pe_bltn hg hm hv rfl hn hd
theorem kInSeq (hK : X.K = K) (ha : PE X a ta) (hb : PE X b tb) (hm : behindInMarks .In b = false := by rfl) : PE X (.Compare a [.In] [b] pos) (tOp (rIn K false) ta tb) := hK ▸ pe_cmpR op_in_seq ha hb hm
theorem kNotInSeq (hK : X.K = K) (ha : PE X a ta) (hb : PE X b tb) (hm : behindInMarks .NotIn b = false := by rfl) : PE X (.Compare a [.NotIn] [b] pos) (tOp (rIn K true) ta tb) := hK ▸ pe_cmpR op_notIn_seq ha hb hm
theorem kEqD (hK : X.K = K) (hu : X.A.units + 64 < cLine) (ha : PE X a ta) (hb : PE X b tb) : PE X (.Compare a [.Eq] [b] pos) (tOp (rEqD K) ta tb) := hK ▸ pe_cmpR (op_eqD hu) ha hb (nomark _)
theorem kNeD (hK : X.K = K) (hu : X.A.units + 64 < cLine) (ha : PE X a ta) (hb : PE X b tb) : PE X (.Compare a [.NotEq] [b] pos) (tOp (rNeD K) ta tb) := hK ▸ pe_cmpR (op_neD hu) ha hb (nomark _)
theorem kInSeqT (hK : X.K = K) (ha : PE X a ta) (hb : PE X b tb) (hm : behindInMarks .In b = false := by rfl) : PT X (.Compare a [.In] [b] pos) (tTest (tOp (rIn K false) ta tb)) := hK ▸ pt_cmpR op_in_seq ha hb hm
theorem kNotInSeqT (hK : X.K = K) (ha : PE X a ta) (hb : PE X b tb) (hm : behindInMarks .NotIn b = false := by rfl) : PT X (.Compare a [.NotIn] [b] pos) (tTest (tOp (rIn K true) ta tb)) := hK ▸ pt_cmpR op_notIn_seq ha hb hm
theorem kEqDT (hK : X.K = K) (hu : X.A.units + 64 < cLine) (ha : PE X a ta) (hb : PE X b tb) : PT X (.Compare a [.Eq] [b] pos) (tTest (tOp (rEqD K) ta tb)) := hK ▸ pt_cmpR (op_eqD hu) ha hb (nomark _)
theorem kNeDT (hK : X.K = K) (hu : X.A.units + 64 < cLine) (ha : PE X a ta) (hb : PE X b tb) : PT X (.Compare a [.NotEq] [b] pos) (tTest (tOp (rNeD K) ta tb)) := hK ▸ pt_cmpR (op_neD hu) ha hb (nomark _)
theorem kAppend (hK : X.K = K) (ho : PE X o te) (ha : PA X (e :: es) t) (hbase : attributeBase o "append" X.env (eval o X.env) = eval o X.env := by rfl)
    (hfew : ((backTo pos (starEach (e :: es) X.env)).all (fun x => !x.1) && (backToKw pos (keywordEach [] X.env)).all (fun x => x.1.isSome)
      && decide ((e :: es).length + ([] : List Keyword).length + (if ([] : List Keyword).isEmpty then 0 else 1) < 30)) = true := by rfl)
    (hline : (apos.endLine == pos.line) = true := by rfl) (hs : starEach (e :: es) X.env = (false, eval e X.env) :: starEach es X.env := by rfl) (hplain : (backTo pos (starEach es X.env)).any (·.1) = false := by rfl) :
    PE X (.Call (.Attribute o "append" apos) (e :: es) [] pos) (tBM K "list" rAppend te t) := hK ▸ pe_bm PySem.F.plainAttrs_list PySem.F.slot_list_append PySem.F.type_list_append mt_append ho ha hbase hfew hline hs hplain
theorem kExtL (hK : X.K = K) (ho : PE X o te) (ha : PA X (e :: es) t) (hbase : attributeBase o "extend" X.env (eval o X.env) = eval o X.env := by rfl)
    (hfew : ((backTo pos (starEach (e :: es) X.env)).all (fun x => !x.1) && (backToKw pos (keywordEach [] X.env)).all (fun x => x.1.isSome)
      && decide ((e :: es).length + ([] : List Keyword).length + (if ([] : List Keyword).isEmpty then 0 else 1) < 30)) = true := by rfl)
    (hline : (apos.endLine == pos.line) = true := by rfl) (hs : starEach (e :: es) X.env = (false, eval e X.env) :: starEach es X.env := by rfl) (hplain : (backTo pos (starEach es X.env)).any (·.1) = false := by rfl) :
    PE X (.Call (.Attribute o "extend" apos) (e :: es) [] pos) (tBM K "list" rExtend te t) := hK ▸ pe_bm PySem.F.plainAttrs_list PySem.F.slot_list_extend PySem.F.type_list_extend mt_extend ho ha hbase hfew hline hs hplain
theorem kExtT (hK : X.K = K) (ho : PE X o te) (ha : PA X (e :: es) t) (hbase : attributeBase o "extend" X.env (eval o X.env) = eval o X.env := by rfl)
    (hfew : ((backTo pos (starEach (e :: es) X.env)).all (fun x => !x.1) && (backToKw pos (keywordEach [] X.env)).all (fun x => x.1.isSome)
      && decide ((e :: es).length + ([] : List Keyword).length + (if ([] : List Keyword).isEmpty then 0 else 1) < 30)) = true := by rfl)
    (hline : (apos.endLine == pos.line) = true := by rfl) (hs : starEach (e :: es) X.env = (false, eval e X.env) :: starEach es X.env := by rfl) (hplain : (backTo pos (starEach es X.env)).any (·.1) = false := by rfl) :
    PE X (.Call (.Attribute o "extend" apos) (e :: es) [] pos) (tBM K "list" (rExtT K) te t) := hK ▸ pe_bm PySem.F.plainAttrs_list PySem.F.slot_list_extend PySem.F.type_list_extend mt_extT ho ha hbase hfew hline hs hplain
theorem kJoin (hK : X.K = K) (ho : PE X o te) (ha : PA X (e :: es) t) (hbase : attributeBase o "join" X.env (eval o X.env) = eval o X.env := by rfl)
    (hfew : ((backTo pos (starEach (e :: es) X.env)).all (fun x => !x.1) && (backToKw pos (keywordEach [] X.env)).all (fun x => x.1.isSome)
      && decide ((e :: es).length + ([] : List Keyword).length + (if ([] : List Keyword).isEmpty then 0 else 1) < 30)) = true := by rfl)
    (hline : (apos.endLine == pos.line) = true := by rfl) (hs : starEach (e :: es) X.env = (false, eval e X.env) :: starEach es X.env := by rfl) (hplain : (backTo pos (starEach es X.env)).any (·.1) = false := by rfl) :
    PE X (.Call (.Attribute o "join" apos) (e :: es) [] pos) (tBM K "str" (rJoinS K) te t) := hK ▸ pe_bm PySem.F.plainAttrs_str PySem.F.slot_str_join PySem.F.type_str_join mt_join ho ha hbase hfew hline hs hplain
theorem kZ2 {kk : Nat} {tpos : Pos} {elts : List Expr} (b1 b2 : Bool) {e2 : Expr} (hK : X.K = K) (hm : X.mg "zip" = none) (ha : PA X [e, e2] t) (hg : Gl X "zip" := by rfl) (hs : starEach [e, e2] X.env = (false, eval e X.env) :: starEach [e2] X.env := by rfl) (hpl : (backTo pos (starEach [e2] X.env)).any (·.1) = false := by rfl) :
    PI X (.Tuple elts kk tpos) (.Call (.Name "zip" p) [e, e2] [] pos) (iZ2 b1 b2 K t) := hK ▸ pi_z2 b1 b2 hg hm ha hs hpl
theorem kZ3 {kk : Nat} {tpos : Pos} {elts : List Expr} (b1 b2 b3 : Bool) {e2 e3 : Expr} (hK : X.K = K) (hm : X.mg "zip" = none) (ha : PA X [e, e2, e3] t) (hg : Gl X "zip" := by rfl) (hs : starEach [e, e2, e3] X.env = (false, eval e X.env) :: starEach [e2, e3] X.env := by rfl) (hpl : (backTo pos (starEach [e2, e3] X.env)).any (·.1) = false := by rfl) :
    PI X (.Tuple elts kk tpos) (.Call (.Name "zip" p) [e, e2, e3] [] pos) (iZ3 b1 b2 b3 K t) := hK ▸ pi_z3 b1 b2 b3 hg hm ha hs hpl
theorem kEn {kk : Nat} {tpos : Pos} {elts : List Expr} (b1 : Bool) (hK : X.K = K) (hm : X.mg "enumerate" = none) (ha : PA X [e] t) (hg : Gl X "enumerate" := by rfl) (hs : starEach [e] X.env = [(false, eval e X.env)] := by rfl) :
    PI X (.Tuple elts kk tpos) (.Call (.Name "enumerate" p) [e] [] pos) (iE b1 K t) := hK ▸ pi_e b1 hg hm ha hs
theorem kAugL {i : Expr} {op : Operator} {ti : TE} {tip : TIp} {tpos : Pos} (hK : X.K = K) (ho : PE X o te) (hi : PE X i ti) (he : PE X e ta) (hp : PIp X op tip)
    (ha : ∀ ov iv new, augStore i ov iv new = (do holding [new, ov, iv] (setItem ov iv new); release [new, ov, iv] []; pure .next) := by intros; rfl) : PS X (.AugAssign (.Subscript o i tpos) op e pos) (tAugS te ti ta (rGetL K) tip rSetL) := hK ▸ ps_augS ho hi get_list he hp set_list ha
end
section
variable {P : Program} {w : World} {K : PySem.W.Frag} {mg : Str → Option Value} {base : Heap} {N ps : List Str} {k : Nat} {sp : Sp} {x q C m f : Str} {st : Stmt}
abbrev BindsBy (x q : Str) (st : Stmt) (ps : List Str) : Prop := ∀ (kV doc pm : Value) (an : Option Addr) (cdv ct : Value) (us : List Value), us.length = ps.length → bindArgs (PySem.W.fnOf x q (defArgs st) (defBody st) (defScope st) .none kV doc pm an cdv ct) ⟨us, []⟩ = pure (ps.zip us)
abbrev BodyBy (P : Program) (w : World) (K : PySem.W.Frag) (mg : Str → Option Value) (base : Heap) (N : List Str) (k : Nat) (sp : Sp) (q : Str) (st : Stmt) (f : Addr) : Prop :=
  ∀ (cdv : Value) (A : Around) (outer : List PySem.Env) (s : Shared) (H : Hp) (vs : List V) (Q : VK) (E : XK), Room k (A.deeper (PyProof.Rows.envOfC q (defScope st) s.heap.objs.size f cdv)) → sp vs H Q E →
      ∃ t, PSs (cxOf CX0 P w K mg base N q (defScope st) f cdv A outer s H E).nox (defBody st) t ∧ t { nx := fun _ H' => Q .non H', rt := Q } (start N vs) H
theorem okf_mk (E : Env P w K mg base) (i j : Nat) (hi : dgs[i]? = some ⟨fun K => He.ga K x, x, x, st⟩) (hj : fas[j]? = some (.glo x)) (S : FnScope N ps (defScope st)) (hb : BindsBy x x st ps) (len : ∀ vs H Q E, sp vs H Q E → vs.length = ps.length)
    (hbody : BodyBy P w K mg base N k sp x st (He.ga K x)) : Okf P w K mg base (k + 1) x ps sp := by
  obtain ⟨fd, F⟩ := E.says.dg i hi
  exact ⟨_, fd, E.glo j hj, F.kp, F.bindsN hb, fd_ok F S len hbody⟩
theorem okm_mk (E : Env P w K mg base) (i j c : Nat) (hi : dgs[i]? = some ⟨fun K => He.ma K (He.ga K C) m, m, q, st⟩) (hj : fas[j]? = some (.meth C m)) (hc : fas[c]? = some (.cls C)) (S : FnScope N ps (defScope st)) (hb : BindsBy m q st ps) (len : ∀ vs H Q E, sp vs H Q E → vs.length = ps.length)
    (hbody : BodyBy P w K mg base N k sp q st (He.ma K (He.ga K C) m)) : Okm P w K mg base (k + 1) C m ps sp := by
  obtain ⟨fd, F⟩ := E.says.dg i hi
  exact ⟨_, fd, E.cls c hc, E.meth j hj, F.bindsN hb, fd_ok F S len hbody⟩
theorem okp_mk (E : Env P w K mg base) (i j c : Nat) (hi : dgs[i]? = some ⟨fun K => getAd K C f, f, q, st⟩) (hj : prs[j]? = some (C, f)) (hc : fas[c]? = some (.cls C)) (S : FnScope N ["self"] (defScope st)) (hb : BindsBy f q st ["self"]) (len : ∀ vs H Q E, sp vs H Q E → vs.length = 1)
    (hbody : BodyBy P w K mg base N k sp q st (getAd K C f)) : Okp P w K mg base (k + 1) C f sp := by
  obtain ⟨fd, F⟩ := E.says.dg i hi
  obtain ⟨p, hp⟩ := E.prop j hj
  exact ⟨p, _, fd, E.cls c hc, hp, F.bindsN hb, fd_ok F S len hbody⟩
theorem okc_mk (E : Env P w K mg base) (i j c : Nat) (hi : dgs[i]? = some ⟨fun K => He.ma K (He.ga K C) "__init__", "__init__", q, st⟩) (hj : fas[j]? = some (.mkr C)) (hc : fas[c]? = some (.glo C)) (S : FnScope N ps (defScope st)) (hb : BindsBy "__init__" q st ps) (len : ∀ vs H Q E, sp vs H Q E → vs.length = ps.length)
    (hbody : BodyBy P w K mg base N k sp q st (He.ma K (He.ga K C) "__init__")) : Okc P w K mg base (k + 1) C ps sp := by
  obtain ⟨fd, F⟩ := E.says.dg i hi
  exact ⟨_, fd, E.glo c hc, E.mkr j hj, F.bindsN hb, fd_ok F S len hbody⟩
end
end LC
end
section
set_option Elab.async false
set_option linter.all false
set_option maxRecDepth 100000
set_option maxHeartbeats 1000000
/-! The mirror: steps and books in plain Lean. -/
namespace LC
open PySem
inductive Stp where
  | plus (c : Int) | times (a b : Nat) (w : Str) (u : Nat)
def wayNames : List Str := ["down", "up", "near down", "near up", "near even"]
def Stp.ok : Stp → Prop
  | .plus c => -1000 ≤ c ∧ c ≤ 1000
  | .times a b w u => 1 ≤ a ∧ a ≤ 5 ∧ 1 ≤ b ∧ b ≤ 5 ∧ w ∈ wayNames ∧ 1 ≤ u ∧ u ≤ 3
def Stp.d : Stp → D
  | .plus c => .tup [.str "plus", .int c]
  | .times a b w u => .tup [.str "times", .int (a : Int), .int (b : Int), .str w, .int (u : Int)]
def stD (l : List Stp) : D := .tup (l.map Stp.d)
def OkS (n : Nat) (l : List Stp) : Prop := l.length ≤ n ∧ ∀ s, s ∈ l → s.ok
/-! numbers -/
def rnd (t : Int) (b : Nat) (w : Str) : Int :=
  if w = "down" ∨ t % (b : Int) = 0 then t / (b : Int) else if w = "up" then t / (b : Int) + 1 else
    if 2 * (t % (b : Int)) ≠ (b : Int) then (if 2 * (t % (b : Int)) < (b : Int) then t / (b : Int) else t / (b : Int) + 1)
    else if w = "near even" then t / (b : Int) + (t / (b : Int)) % 2 else if w = "near down" then t / (b : Int) else t / (b : Int) + 1
def led1 (v : Int) : Stp → Int
  | .plus c => v + c
  | .times a b w u => rnd (v * (a : Int)) (b * u) w * (u : Int)
def ledS (l : List Stp) (v : Int) : Int := l.foldl led1 v
/-- a rate: top and bottom, both without sign -/
def frac (t b : Nat) : Nat × Nat := (t / Nat.gcd t b, b / Nat.gcd t b)
def mulF (p q : Nat × Nat) : Nat × Nat := frac (p.1 * q.1) (p.2 * q.2)
def rate1 (f : Nat × Nat) : Stp → Nat × Nat
  | .plus _ => f
  | .times a b _ _ => mulF f (frac a b)
def rateS (l : List Stp) : Nat × Nat := l.foldl rate1 (1, 1)
def per1 (s : Nat × Nat) : Stp → Nat × Nat
  | .plus _ => s
  | .times a b w u =>
    let whole := b * u * (if w = "near even" then 2 else 1)
    let own := whole / Nat.gcd a whole
    let turns := own / Nat.gcd s.2 own
    (s.1 * turns, s.2 * turns * a / b)
def perS (l : List Stp) : Nat := (l.foldl per1 (1, 1)).1
/-! bounds -/
theorem frac_le (t b : Nat) : (frac t b).1 ≤ t ∧ (frac t b).2 ≤ b := ⟨Nat.div_le_self _ _, Nat.div_le_self _ _⟩
theorem gcd_pos_r {t b : Nat} (h : 0 < b) : 0 < Nat.gcd t b := Nat.gcd_pos_of_pos_right _ h
theorem frac_pos {t b : Nat} (h : 0 < b) : 0 < (frac t b).2 := Nat.div_pos (Nat.le_of_dvd h (Nat.gcd_dvd_right t b)) (gcd_pos_r h)
def FOk (n : Nat) (f : Nat × Nat) : Prop := f.1 ≤ 5 ^ n ∧ f.2 ≤ 5 ^ n ∧ 0 < f.2
theorem FOk.mul {n m : Nat} {f g : Nat × Nat} (h : FOk n f) (k : FOk m g) : FOk (n + m) (mulF f g) := by
  obtain ⟨h1, h2, h3⟩ := h
  obtain ⟨k1, k2, k3⟩ := k
  have l := frac_le (f.1 * g.1) (f.2 * g.2)
  refine ⟨Nat.le_trans l.1 ?_, Nat.le_trans l.2 ?_, frac_pos (Nat.mul_pos h3 k3)⟩
  · rw [Nat.pow_add]; exact Nat.mul_le_mul h1 k1
  · rw [Nat.pow_add]; exact Nat.mul_le_mul h2 k2
theorem FOk.step {n : Nat} {f : Nat × Nat} {s : Stp} (h : FOk n f) (k : s.ok) : FOk (n + 1) (rate1 f s) := by
  cases s with
  | plus c => exact ⟨Nat.le_trans h.1 (Nat.pow_le_pow_right (by decide) (Nat.le_succ n)), Nat.le_trans h.2.1 (Nat.pow_le_pow_right (by decide) (Nat.le_succ n)), h.2.2⟩
  | times a b w u =>
    obtain ⟨k1, k2, k3, k4, k5, k6, k7⟩ := k
    have l := frac_le a b
    exact h.mul ⟨Nat.le_trans l.1 k2, Nat.le_trans l.2 k4, frac_pos k3⟩
theorem FOk.fold : ∀ {l : List Stp} {n : Nat} {f : Nat × Nat}, (∀ s, s ∈ l → s.ok) → FOk n f → FOk (n + l.length) (l.foldl rate1 f)
  | [], n, f, _, h => h
  | s :: l, n, f, hs, h => by
    rw [List.foldl_cons, List.length_cons, Nat.add_comm l.length 1, ← Nat.add_assoc]
    exact FOk.fold (fun x hx => hs x (List.mem_cons_of_mem _ hx)) (h.step (hs s (List.mem_cons_self ..)))
theorem FOk.one : FOk 0 (1, 1) := ⟨by decide, by decide, by decide⟩
theorem rateS_ok {l : List Stp} {n : Nat} (h : OkS n l) : FOk n (rateS l) := by
  have q := FOk.fold h.2 FOk.one
  rw [Nat.zero_add] at q
  exact ⟨Nat.le_trans q.1 (Nat.pow_le_pow_right (by decide) h.1), Nat.le_trans q.2.1 (Nat.pow_le_pow_right (by decide) h.1), q.2.2⟩
def POk (n : Nat) (s : Nat × Nat) : Prop := s.1 ≤ 30 ^ n ∧ s.2 ≤ 150 ^ n ∧ 0 < s.1
/-- the parts of a step's period -/
def whole1 (b u : Nat) (w : Str) : Nat := b * u * (if w = "near even" then 2 else 1)
def own1 (a b u : Nat) (w : Str) : Nat := whole1 b u w / Nat.gcd a (whole1 b u w)
theorem whole1_ok {a b u : Nat} {w : Str} (k : (Stp.times a b w u).ok) : 0 < whole1 b u w ∧ whole1 b u w ≤ 30 := by
  obtain ⟨k1, k2, k3, k4, k5, k6, k7⟩ := k
  unfold whole1
  have h1 : 1 ≤ b * u := Nat.mul_pos k3 k6
  have h2 : b * u ≤ 15 := Nat.mul_le_mul k4 k7
  split <;> omega
theorem own1_ok {a b u : Nat} {w : Str} (k : (Stp.times a b w u).ok) : 0 < own1 a b u w ∧ own1 a b u w ≤ 30 := by
  obtain ⟨h1, h2⟩ := whole1_ok k
  unfold own1
  exact ⟨Nat.div_pos (Nat.le_of_dvd h1 (Nat.gcd_dvd_right _ _)) (gcd_pos_r h1), Nat.le_trans (Nat.div_le_self _ _) h2⟩
theorem turns_ok {o r : Nat} (h : 0 < o) : 0 < o / Nat.gcd r o ∧ o / Nat.gcd r o ≤ o := ⟨Nat.div_pos (Nat.le_of_dvd h (Nat.gcd_dvd_right _ _)) (gcd_pos_r h), Nat.div_le_self _ _⟩
theorem per1_eq (s : Nat × Nat) (a b : Nat) (w : Str) (u : Nat) : per1 s (.times a b w u) = (s.1 * (own1 a b u w / Nat.gcd s.2 (own1 a b u w)), s.2 * (own1 a b u w / Nat.gcd s.2 (own1 a b u w)) * a / b) := rfl
theorem POk.step {n : Nat} {f : Nat × Nat} {s : Stp} (h : POk n f) (k : s.ok) : POk (n + 1) (per1 f s) := by
  obtain ⟨h1, h2, h3⟩ := h
  cases s with
  | plus c => exact ⟨Nat.le_trans h1 (Nat.pow_le_pow_right (by decide) (Nat.le_succ n)), Nat.le_trans h2 (Nat.pow_le_pow_right (by decide) (Nat.le_succ n)), h3⟩
  | times a b w u =>
    obtain ⟨o1, o2⟩ := own1_ok k
    obtain ⟨t1, t2⟩ := turns_ok (r := f.2) o1
    rw [per1_eq]
    refine ⟨?_, ?_, Nat.mul_pos h3 t1⟩
    · rw [Nat.pow_succ]; exact Nat.mul_le_mul h1 (Nat.le_trans t2 o2)
    · refine Nat.le_trans (Nat.div_le_self _ _) ?_
      rw [Nat.pow_succ, Nat.mul_assoc]
      refine Nat.mul_le_mul h2 ?_
      exact Nat.mul_le_mul (Nat.le_trans t2 o2) k.2.1
theorem POk.fold : ∀ {l : List Stp} {n : Nat} {f : Nat × Nat}, (∀ s, s ∈ l → s.ok) → POk n f → POk (n + l.length) (l.foldl per1 f)
  | [], n, f, _, h => h
  | s :: l, n, f, hs, h => by
    rw [List.foldl_cons, List.length_cons, Nat.add_comm l.length 1, ← Nat.add_assoc]
    exact POk.fold (fun x hx => hs x (List.mem_cons_of_mem _ hx)) (h.step (hs s (List.mem_cons_self ..)))
theorem POk.one : POk 0 (1, 1) := ⟨by decide, by decide, by decide⟩
theorem perS_ok {l : List Stp} {n : Nat} (h : OkS n l) : perS l ≤ 30 ^ n ∧ 0 < perS l := by
  have q := POk.fold h.2 POk.one
  rw [Nat.zero_add] at q
  exact ⟨Nat.le_trans q.1 (Nat.pow_le_pow_right (by decide) h.1), q.2.2⟩
/-! how far a value goes -/
theorem rnd_le (t : Int) {b : Nat} (w : Str) (hb : 0 < b) : (rnd t b w).natAbs ≤ t.natAbs + 2 := by
  have h1 : (0 : Int) < (b : Int) := by omega
  have h2 := Int.mul_ediv_add_emod t (b : Int)
  have h3 := Int.emod_nonneg t (Int.ne_of_gt h1)
  have h4 := Int.emod_lt_of_pos t h1
  have h5 : (t / (b : Int)).natAbs ≤ t.natAbs + 1 := by
    by_cases c : 0 ≤ t
    · have e1 : 0 ≤ t / (b : Int) := Int.ediv_nonneg c (Int.le_of_lt h1)
      have e2 : t / (b : Int) ≤ t := Int.ediv_le_self _ c
      omega
    · have e1 : t / (b : Int) < 0 := Int.ediv_neg_of_neg_of_pos (by omega) h1
      have e2 : t - (b : Int) < (b : Int) * (t / (b : Int)) := by omega
      have e3 : (b : Int) * (t / (b : Int)) ≤ 1 * (t / (b : Int)) := Int.mul_le_mul_of_nonpos_right (by omega) (Int.le_of_lt e1)
      by_cases c1 : (b : Int) = 1
      · rw [c1, Int.ediv_one]; omega
      · by_cases c2 : t / (b : Int) = -1
        · rw [c2]; omega
        · have e4 : (b : Int) * (t / (b : Int)) ≤ (b : Int) * (-1) + (t / (b : Int) + 1) := by
            have : ((b : Int) - 1) * (t / (b : Int) + 1) ≤ 0 := Int.mul_nonpos_of_nonneg_of_nonpos (by omega) (by omega)
            rw [Int.sub_mul, Int.mul_add, Int.mul_one, Int.one_mul] at this
            omega
          omega
  have h6 := Int.emod_nonneg (t / (b : Int)) (b := 2) (by decide)
  have h7 := Int.emod_lt_of_pos (t / (b : Int)) (b := 2) (by decide)
  unfold rnd
  split
  · omega
  · split
    · omega
    · split
      · split <;> omega
      · split
        · omega
        · split <;> omega
theorem led1_le {v : Int} {s : Stp} (k : s.ok) : (led1 v s).natAbs ≤ 15 * v.natAbs + 1000 := by
  cases s with
  | plus c => have : -1000 ≤ c ∧ c ≤ 1000 := k; show (v + c).natAbs ≤ _; omega
  | times a b w u =>
    obtain ⟨k1, k2, k3, k4, k5, k6, k7⟩ := k
    show (rnd (v * (a : Int)) (b * u) w * (u : Int)).natAbs ≤ _
    have h := rnd_le (v * (a : Int)) w (Nat.mul_pos k3 k6)
    rw [Int.natAbs_mul] at h ⊢
    have e1 : (a : Int).natAbs = a := rfl
    have e2 : (u : Int).natAbs = u := rfl
    rw [e1] at h
    rw [e2]
    have h2 : v.natAbs * a ≤ v.natAbs * 5 := Nat.mul_le_mul_left _ k2
    have h3 : (rnd (v * (a : Int)) (b * u) w).natAbs * u ≤ (v.natAbs * 5 + 2) * 3 := Nat.mul_le_mul (by omega) k7
    omega
end LC
end
section
set_option Elab.async false
set_option linter.all false
set_option maxRecDepth 100000
set_option maxHeartbeats 1000000
/-! values -/
namespace LC
open PySem PySem.Spec L2
section
variable {K : PySem.W.Frag} {σ : St} {H : Hp} {ta tb : TE} {x : V}
theorem ev_isN (h : Ev ta σ H (Is x)) : Ev (tOp (fun x y H Q => y = .non ∧ Q (.bl (decide (x = .non))) H) ta (tC .non)) σ H (Is (.bl (decide (x = .non)))) :=
  ev_op h ev_c mono_is fun _ _ H1 _ e1 e2 Q q => ⟨e2, by rw [e1]; exact q _ H1 (Same.refl _) rfl⟩
theorem ev_notN (h : Ev ta σ H (Is x)) : Ev (tOp (fun x y H Q => y = .non ∧ Q (.bl (!decide (x = .non))) H) ta (tC .non)) σ H (Is (.bl (!decide (x = .non)))) :=
  ev_op h ev_c mono_is fun _ _ H1 _ e1 e2 Q q => ⟨e2, by rw [e1]; exact q _ H1 (Same.refl _) rfl⟩
theorem ev_isiV {t n : String} {b : Bool} {v : V} (h : Ev ta σ H (Is v)) (ty : ∀ H1, Same H H1 → TyX K H1 v (.type t)) (hb : kitB t n = some b) : Ev (tCB (rIsi K) (tCons ta (tCons (tC (.ty n)) tNil))) σ H (Is (.bl b)) :=
  ev_isi (d := .non) (t := t) (n := n) (fun H1 s Q q => h H1 s _ fun w H2 s2 e => q _ H2 s2 ⟨v, by rw [e], ty H2 (s.trans s2)⟩) hb
end
section
variable {P : Program} {w : World} {K : PySem.W.Frag} {mg : Str → Option Value} {base : Heap}
/-! ### is_integer -/
abbrev spIsInteger (K : PySem.W.Frag) : Sp := spF K (fun i : Int => [.int i]) (fun _ => True) fun _ => Is (.bl true)
-- value 0
theorem sc_is_integer : FnScope ["value"] ["value"] (defScope (top 28)) := ⟨rfl, rfl, rfl, by decide +kernel, rfl, by decide +kernel, by decide +kernel⟩
theorem ok_is_integer (E : Env P w K mg base)  : Okf P w K mg base 1 "is_integer" ["value"] (spIsInteger K) :=
  okf_mk E 0 0 rfl rfl sc_is_integer (fun _ _ _ _ _ _ us hl => match us, hl with | [_], _ => rfl) (spF_len fun _ => rfl) fun cdv A outer s H vs Q E0 hr h => by
  obtain ⟨i, h1, _, h2⟩ := h
  obtain ⟨v, rfl, rfl⟩ := one_of h1
  have nd := sc_is_integer.nd
  refine ⟨_, (pss_one (ps_ret (pe_and (kB (K := K) (r := fun _ _ _ => True) (r' := rIsi) rfl call_isi (E.free 62) (by decide +kernel) (pa_cons (pv 0) (pa_cons (kBTy (n := "int") (E.free 63) (by decide +kernel)) pa_nil))) (pe_one (pe_not (kB (K := K) (r := fun _ _ _ => True) (r' := rIsi) rfl call_isi (E.free 62) (by decide +kernel) (pa_cons (pv 0) (pa_cons (kBTy (n := "bool") (E.free 64) (by decide +kernel)) pa_nil)))))))), ?_⟩
  refine s_ret ?_ h2
  exact ev_andV (b := true) (c := true) (ev_isiV (t := "int") (ev_v rfl) (fun _ _ => .base (.int i)) (by decide +kernel)) fun _ => ev_notV (b := false) (ev_isiV (t := "int") (ev_v rfl) (fun _ _ => .base (.int i)) (by decide +kernel))
/-! ### is_between -/
def hiD : Option Int → D
  | none => .non
  | some h => .int h
def betw (a : Int × Int × Option Int) : Bool := decide (a.1 ≥ a.2.1) && (match a.2.2 with
  | none => true
  | some h => decide (a.1 ≤ h))
abbrev spIsBetween (K : PySem.W.Frag) : Sp := spF K (fun a : Int × Int × Option Int => [.int a.1, .int a.2.1, hiD a.2.2]) (fun _ => True) fun a => Is (.bl (betw a))
-- value 0 low 1 high 2
theorem sc_is_between : FnScope ["value", "low", "high"] ["value", "low", "high"] (defScope (top 29)) := ⟨rfl, rfl, rfl, by decide +kernel, rfl, by decide +kernel, by decide +kernel⟩
theorem ok_is_between (E : Env P w K mg base) (o_is_integer : Okf P w K mg base 1 "is_integer" ["value"] (spIsInteger K)) : Okf P w K mg base 2 "is_between" ["value", "low", "high"] (spIsBetween K) :=
  okf_mk E 1 1 rfl rfl sc_is_between (fun _ _ _ _ _ _ us hl => match us, hl with | [_, _, _], _ => rfl) (spF_len fun _ => rfl) fun cdv A outer s H vs Q E0 hr h => by
  obtain ⟨⟨v, lo, hi⟩, h1, _, h2⟩ := h
  obtain ⟨_, _, rfl, rfl, _, _, rfl, rfl, h1⟩ := h1
  obtain ⟨x, rfl, h3⟩ := one_of h1
  have nd := sc_is_between.nd
  refine ⟨_, (pss_one (ps_ret (pe_and (pe_okf o_is_integer (hr.mono (by decide)) (pa_cons (pv 0) pa_nil)) (pe_and (pe_cmpR op_ge (pv 0) (pv 1) (nomark _)) (pe_one (pe_or (pe_cmpR op_isN (pv 2) pe_non (nomark _)) (pe_one (pe_cmpR op_le (pv 0) (pv 2) (nomark _))))))))), ?_⟩
  refine s_ret ?_ h2
  have e1 : Ev (tCall (spIsInteger K) [] E0 (tCons (tVar 0) tNil)) [some (.int v), some (.int lo), some x] H (Is (.bl true)) := ev_fn v (da_cons (ev_v rfl) da_nil) trivial
  cases hi with
  | none =>
    have h3 : x = .non := h3
    subst h3
    refine (ev_andV e1 fun _ => ev_andV (ev_I0 (ev_v rfl) (ev_v rfl)) fun _ => ev_orV (b := true) (c := true) ((ev_isN (ev_v rfl)).is rfl) fun z => nomatch z).is ?_
    show V.bl (true && (decide (v ≥ lo) && (true || true))) = V.bl (decide (v ≥ lo) && true)
    simp
  | some n =>
    have h3 : x = .int n := h3
    subst h3
    refine (ev_andV e1 fun _ => ev_andV (ev_I0 (ev_v rfl) (ev_v rfl)) fun _ => ev_orV (b := false) ((ev_isN (ev_v rfl)).is rfl) fun _ => ev_I0 (ev_v rfl) (ev_v rfl)).is ?_
    show V.bl (true && (decide (v ≥ lo) && (false || decide (v ≤ n)))) = V.bl (decide (v ≥ lo) && decide (v ≤ n))
    simp
/-! ### check_number: no number below low -/
abbrev spCheckNumber (K : PySem.W.Frag) : Sp := spF K (fun a : Int × Int × Option Int => [.int a.1, .int a.2.1, hiD a.2.2]) (fun a => betw a = true) fun _ => Is .non
-- value 0 low 1 high 2
theorem sc_check_number : FnScope ["value", "low", "high"] ["value", "low", "high"] (defScope (top 30)) := ⟨rfl, rfl, rfl, by decide +kernel, rfl, by decide +kernel, by decide +kernel⟩
theorem ok_check_number (E : Env P w K mg base) (o_is_between : Okf P w K mg base 2 "is_between" ["value", "low", "high"] (spIsBetween K)) : Okf P w K mg base 3 "check_number" ["value", "low", "high"] (spCheckNumber K) :=
  okf_mk E 2 2 rfl rfl sc_check_number (fun _ _ _ _ _ _ us hl => match us, hl with | [_, _, _], _ => rfl) (spF_len fun _ => rfl) fun cdv A outer s H vs Q E0 hr h => by
  obtain ⟨⟨v, lo, hi⟩, h1, hk, h2⟩ := h
  obtain ⟨_, _, rfl, rfl, _, _, rfl, rfl, h1⟩ := h1
  obtain ⟨x, rfl, h3⟩ := one_of h1
  have nd := sc_check_number.nd
  refine ⟨_, (pss_one (ps_if (pt_not (pt_val (pe_okf o_is_between (hr.mono (by decide)) (pa_cons (pv 0) (pa_cons (pv 1) (pa_cons (pv 2) pa_nil)))))) (pss_one ps_never) pss_nil)), ?_⟩
  have e1 : Ev (tCall (spIsBetween K) [] E0 (tCons (tVar 0) (tCons (tVar 1) (tCons (tVar 2) tNil)))) [some (.int v), some (.int lo), some x] H (Is (.bl (betw (v, lo, hi)))) := ev_fn (v, lo, hi) (da_cons (ev_v rfl) (da_cons (ev_v rfl) (da_cons (ev_d rfl h3) da_nil))) trivial
  refine s_skip ((et_not (et_B e1)).is (by rw [hk]; rfl)) fun H1 s1 => h2 _ H1 s1 rfl
/-! ### common_divisor -/
abbrev spGcd (K : PySem.W.Frag) : Sp := spF K (fun a : Nat × Nat => [.int (a.1 : Int), .int (a.2 : Int)]) (fun _ => True) fun a => Is (.int (Nat.gcd a.1 a.2 : Nat))
theorem fmod_nat (x y : Nat) (h : 0 < y) : (x : Int).fmod (y : Int) = ((x % y : Nat) : Int) := by
  rw [Int.fmod_eq_emod_of_nonneg _ (by omega)]
  exact (Int.natCast_emod x y).symm
theorem fdiv_nat (x y : Nat) : (x : Int).fdiv (y : Int) = ((x / y : Nat) : Int) := by
  rw [Int.fdiv_eq_ediv_of_nonneg _ (by omega)]
  exact (Int.natCast_ediv x y).symm
-- one 0 other 1
theorem sc_common_divisor : FnScope ["one", "other"] ["one", "other"] (defScope (top 33)) := ⟨rfl, rfl, rfl, by decide +kernel, rfl, by decide +kernel, by decide +kernel⟩
theorem ok_common_divisor (E : Env P w K mg base)  : Okf P w K mg base 1 "common_divisor" ["one", "other"] (spGcd K) :=
  okf_mk E 4 4 rfl rfl sc_common_divisor (fun _ _ _ _ _ _ us hl => match us, hl with | [_, _], _ => rfl) (spF_len fun _ => rfl) fun cdv A outer s H vs Q E0 hr h => by
  obtain ⟨⟨x, y⟩, h1, _, h2⟩ := h
  obtain ⟨_, _, rfl, rfl, rfl⟩ := two_of h1
  have nd := sc_common_divisor.nd
  refine ⟨_, (pss_cons (ps_while PassesOwn.never (pt_cmpR op_gt (pv 1) pe_int (nomark _)) (pss_one (ps_par (i := 0) (j := 1) (by rfl) nd rfl rfl (by decide) rfl rfl (pa_cons (pv 1) (pa_cons (pe_op op_modN (pv 0) (pv 1)) pa_nil)) (by rfl))))
      (pss_one (ps_ret (pv 0)))), ?_⟩
  refine q_while (fun m σ' H' => ∃ p q : Nat, m = q ∧ Same H H' ∧ σ' = [some (.int (p : Int)), some (.int (q : Int))] ∧ Nat.gcd p q = Nat.gcd x y) y ⟨x, y, rfl, Same.refl _, rfl, rfl⟩ fun m σ' H' ⟨p, q, e1, s1, e2, e3⟩ => ?_
  subst e1 e2
  refine ⟨decide ((m : Int) > 0), et_t (ev_I0 (ev_v rfl) ev_c), fun c H1 s2 => ?_, fun c H1 s2 => ?_⟩
  · have c : 0 < m := by have := of_decide_eq_true c; omega
    refine s_par (ev_v rfl) (ev_I (ev_v rfl) (ev_v rfl) (show (m : Int) ≠ 0 by omega)) mono_is fun v w H2 s3 e4 e5 => ?_
    subst e4 e5
    refine ⟨p % m, Nat.mod_lt _ c, m, p % m, rfl, (s1.trans s2).trans s3, ?_, ?_⟩
    · rw [fmod_nat p m c]; rfl
    · rw [← e3, Nat.gcd_comm p m, Nat.gcd_rec m p, Nat.gcd_comm]
  · have c : m = 0 := by have := of_decide_eq_false c; omega
    subst c
    refine s_retv (ev_v rfl) fun H2 s3 => h2 _ H2 ((s1.trans s2).trans s3) ?_
    show V.int (p : Int) = V.int (Nat.gcd x y : Nat)
    rw [← e3, Nat.gcd_zero_right]
/-! ### common_multiple, fraction, times, less -/
theorem cdn {i : Int} {g : Nat} (h : 0 < g) (h2 : g < 2 ^ 30) : CDivN i (g : Int) := ⟨by omega, by omega⟩
theorem ev_absN {K : PySem.W.Frag} {σ : St} {H : Hp} {ta : TA} {x : Nat} (h : EA ta σ H (Da K [.int (x : Int)])) : Ev (tCB (fun xs H Q => ∃ i, xs = [.int i] ∧ Q (.int (if i < 0 then -i else i)) H) ta) σ H (Is (.int (x : Int))) := (ev_abs h).is (by rw [if_neg (by omega)])
def lcmN (a b : Nat) : Nat := a / Nat.gcd a b * b
abbrev spLcm (K : PySem.W.Frag) : Sp := spF K (fun a : Nat × Nat => [.int (a.1 : Int), .int (a.2 : Int)]) (fun a => 0 < a.2 ∧ a.2 < 2 ^ 30) fun a => Is (.int (lcmN a.1 a.2 : Nat))
-- one 0 other 1
theorem sc_common_multiple : FnScope ["one", "other"] ["one", "other"] (defScope (top 34)) := ⟨rfl, rfl, rfl, by decide +kernel, rfl, by decide +kernel, by decide +kernel⟩
theorem ok_common_multiple (E : Env P w K mg base) (o_common_divisor : Okf P w K mg base 1 "common_divisor" ["one", "other"] (spGcd K)) : Okf P w K mg base 2 "common_multiple" ["one", "other"] (spLcm K) :=
  okf_mk E 5 5 rfl rfl sc_common_multiple (fun _ _ _ _ _ _ us hl => match us, hl with | [_, _], _ => rfl) (spF_len fun _ => rfl) fun cdv A outer s H vs Q E0 hr h => by
  obtain ⟨⟨x, y⟩, h1, ⟨hk, hk2⟩, h2⟩ := h
  obtain ⟨_, _, rfl, rfl, rfl⟩ := two_of h1
  have nd := sc_common_multiple.nd
  refine ⟨_, (pss_one (ps_ret (pe_op op_mul (pe_op op_fdivN (pv 0) (pe_okf o_common_divisor (hr.mono (by decide)) (pa_cons (pv 0) (pa_cons (pv 1) pa_nil)))) (pv 1)))), ?_⟩
  have g0 : 0 < Nat.gcd x y := Nat.gcd_pos_of_pos_right _ hk
  have g1 : Nat.gcd x y ≤ y := Nat.le_of_dvd hk (Nat.gcd_dvd_right x y)
  refine s_ret ((ev_mulR (ev_I (ev_v rfl) (ev_fn (x, y) (da_cons (ev_v rfl) (da_cons (ev_v rfl) da_nil)) trivial) (cdn g0 (Nat.lt_of_le_of_lt g1 hk2))) (ev_v rfl) (by omega) (by omega)).is ?_) h2
  show V.int ((x : Int).fdiv (Nat.gcd x y : Nat) * (y : Int)) = V.int (lcmN x y : Nat)
  rw [fdiv_nat, ← Int.natCast_mul]
  rfl
abbrev spFrac (K : PySem.W.Frag) : Sp := spF K (fun a : Nat × Nat => [.int (a.1 : Int), .int (a.2 : Int)]) (fun a => 0 < a.2 ∧ a.2 < 2 ^ 30) fun a => Dt K (.tup [.int ((frac a.1 a.2).1 : Nat), .int ((frac a.1 a.2).2 : Nat)])
-- top 0 bottom 1 same 2
theorem sc_fraction : FnScope ["top", "bottom", "same"] ["top", "bottom"] (defScope (top 35)) := ⟨rfl, rfl, rfl, by decide +kernel, rfl, by decide +kernel, by decide +kernel⟩
theorem ok_fraction (E : Env P w K mg base) (o_common_divisor : Okf P w K mg base 1 "common_divisor" ["one", "other"] (spGcd K)) : Okf P w K mg base 2 "fraction" ["top", "bottom"] (spFrac K) :=
  okf_mk E 6 6 rfl rfl sc_fraction (fun _ _ _ _ _ _ us hl => match us, hl with | [_, _], _ => rfl) (spF_len fun _ => rfl) fun cdv A outer s H vs Q E0 hr h => by
  obtain ⟨⟨x, y⟩, h1, ⟨hk, hk2⟩, h2⟩ := h
  obtain ⟨_, _, rfl, rfl, rfl⟩ := two_of h1
  have nd := sc_fraction.nd
  refine ⟨_, (pss_cons (ps_set (i := 2) nd rfl (.inl rfl) (pe_okf o_common_divisor (hr.mono (by decide)) (pa_cons (pe_callB call_abs (by rfl) (E.free 68) (by decide +kernel) (pa_cons (pv 0) pa_nil)) (pa_cons (pv 1) pa_nil))))
      (pss_one (ps_ret (pe_tup (pa_cons (pe_op op_fdivN (pv 0) (pv 2)) (pa_cons (pe_op op_fdivN (pv 1) (pv 2)) pa_nil)))))), ?_⟩
  have g0 : 0 < Nat.gcd x y := Nat.gcd_pos_of_pos_right _ hk
  have g1 : Nat.gcd x y ≤ y := Nat.le_of_dvd hk (Nat.gcd_dvd_right x y)
  refine q_let (v := .int (Nat.gcd x y : Nat)) (ev_fn (x, y) (da_cons (ev_absN (K := K) (x := x) (da_cons (ev_v rfl) da_nil)) (da_cons (ev_v rfl) da_nil)) trivial) fun H1 s1 => ?_
  refine s_ret (ev_tup (da_cons ((ev_I (ev_v rfl) (ev_v rfl) (cdn g0 (Nat.lt_of_le_of_lt g1 hk2))).is (by rw [fdiv_nat]; rfl)) (da_cons ((ev_I (ev_v rfl) (ev_v rfl) (cdn g0 (Nat.lt_of_le_of_lt g1 hk2))).is (by rw [fdiv_nat]; rfl)) da_nil)) (show 2 ≤ 100000 by decide)) fun v H2 s2 p => h2 v H2 (s1.trans s2) p
/-- two rates -/
def fD (f : Nat × Nat) : D := .tup [.int (f.1 : Int), .int (f.2 : Int)]
def FSm (f : Nat × Nat) : Prop := f.1 < 2 ^ 15 ∧ f.2 < 2 ^ 15 ∧ 0 < f.2
abbrev spTimes (K : PySem.W.Frag) : Sp := spF K (fun a : (Nat × Nat) × (Nat × Nat) => [fD a.1, fD a.2]) (fun a => FSm a.1 ∧ FSm a.2) fun a => Dt K (fD (mulF a.1 a.2))
theorem ev_f1 {K : PySem.W.Frag} {σ : St} {H : Hp} {te : TE} {f : Nat × Nat} (h : Ev te σ H (Dt K (fD f))) : Ev (tOp (rIxT K) te (tC (.int 0))) σ H (Is (.int (f.1 : Int))) := ev_ixT (n := 0) (d := .int (f.1 : Int)) h ev_c rfl
theorem ev_f2 {K : PySem.W.Frag} {σ : St} {H : Hp} {te : TE} {f : Nat × Nat} (h : Ev te σ H (Dt K (fD f))) : Ev (tOp (rIxT K) te (tC (.int 1))) σ H (Is (.int (f.2 : Int))) := ev_ixT (n := 1) (d := .int (f.2 : Int)) h ev_c rfl
theorem mul_lt {a b n m : Nat} (h1 : a < n) (h2 : b < m) : a * b < n * m := Nat.lt_of_le_of_lt (Nat.mul_le_mul_right b (Nat.le_of_lt h1)) (Nat.mul_lt_mul_of_pos_left h2 (Nat.lt_of_le_of_lt (Nat.zero_le _) h1))
-- one 0 other 1
theorem sc_times : FnScope ["one", "other"] ["one", "other"] (defScope (top 36)) := ⟨rfl, rfl, rfl, by decide +kernel, rfl, by decide +kernel, by decide +kernel⟩
theorem ok_times (E : Env P w K mg base) (o_fraction : Okf P w K mg base 2 "fraction" ["top", "bottom"] (spFrac K)) : Okf P w K mg base 3 "times" ["one", "other"] (spTimes K) :=
  okf_mk E 7 7 rfl rfl sc_times (fun _ _ _ _ _ _ us hl => match us, hl with | [_, _], _ => rfl) (spF_len fun _ => rfl) fun cdv A outer s H vs Q E0 hr h => by
  obtain ⟨⟨f, g⟩, h1, ⟨⟨k1, k2, k3⟩, k4, k5, k6⟩, h2⟩ := h
  obtain ⟨v, w, rfl, r1, r2⟩ := two_of h1
  have nd := sc_times.nd
  refine ⟨_, (pss_one (ps_ret (pe_okf o_fraction (hr.mono (by decide)) (pa_cons (pe_op op_mul (kIxT (K := K) rfl (pv 0) pe_int) (kIxT (K := K) rfl (pv 1) pe_int)) (pa_cons (pe_op op_mul (kIxT (K := K) rfl (pv 0) pe_int) (kIxT (K := K) rfl (pv 1) pe_int)) pa_nil))))), ?_⟩
  refine s_ret (ev_fn (f.1 * g.1, f.2 * g.2) (da_cons ((ev_mulL (ev_f1 (ev_d rfl r1)) (ev_f1 (ev_d rfl r2)) (by omega) (by omega)).is rfl) (da_cons ((ev_mulL (ev_f2 (ev_d rfl r1)) (ev_f2 (ev_d rfl r2)) (by omega) (by omega)).is rfl) da_nil)) ⟨Nat.mul_pos k3 k6, ?_⟩) h2
  have := mul_lt k2 k5
  show f.2 * g.2 < 2 ^ 30
  omega
/-- two equal rates: none is less -/
abbrev spLess (K : PySem.W.Frag) : Sp := spF K (fun a : Nat × Nat => [fD a, fD a]) (fun a => FSm a) fun a => Dt K (fD (frac 0 (a.2 * a.2)))
-- one 0 other 1
theorem sc_less : FnScope ["one", "other"] ["one", "other"] (defScope (top 37)) := ⟨rfl, rfl, rfl, by decide +kernel, rfl, by decide +kernel, by decide +kernel⟩
theorem ok_less (E : Env P w K mg base) (o_fraction : Okf P w K mg base 2 "fraction" ["top", "bottom"] (spFrac K)) : Okf P w K mg base 3 "less" ["one", "other"] (spLess K) :=
  okf_mk E 8 8 rfl rfl sc_less (fun _ _ _ _ _ _ us hl => match us, hl with | [_, _], _ => rfl) (spF_len fun _ => rfl) fun cdv A outer s H vs Q E0 hr h => by
  obtain ⟨f, h1, ⟨k1, k2, k3⟩, h2⟩ := h
  obtain ⟨v, w, rfl, r1, r2⟩ := two_of h1
  have nd := sc_less.nd
  refine ⟨_, (pss_one (ps_ret (pe_okf o_fraction (hr.mono (by decide)) (pa_cons (pe_op op_sub (pe_op op_mul (kIxT (K := K) rfl (pv 0) pe_int) (kIxT (K := K) rfl (pv 1) pe_int)) (pe_op op_mul (kIxT (K := K) rfl (pv 1) pe_int) (kIxT (K := K) rfl (pv 0) pe_int))) (pa_cons (pe_op op_mul (kIxT (K := K) rfl (pv 0) pe_int) (kIxT (K := K) rfl (pv 1) pe_int)) pa_nil))))), ?_⟩
  refine s_ret (ev_fn (0, f.2 * f.2) (da_cons ((ev_I0 (ev_mulL (ev_f1 (ev_d rfl r1)) (ev_f2 (ev_d rfl r2)) (by omega) (by omega)) (ev_mulL (ev_f1 (ev_d rfl r2)) (ev_f2 (ev_d rfl r1)) (by omega) (by omega))).is (by rw [Int.sub_self]; rfl)) (da_cons ((ev_mulL (ev_f2 (ev_d rfl r1)) (ev_f2 (ev_d rfl r2)) (by omega) (by omega)).is rfl) da_nil)) ⟨Nat.mul_pos k3 k3, ?_⟩) h2
  have := mul_lt k2 k2
  show f.2 * f.2 < 2 ^ 30
  omega
end
end LC
end
section
set_option Elab.async false
set_option linter.all false
set_option maxRecDepth 100000
set_option maxHeartbeats 2000000
/-! steps -/
namespace LC
open PySem PySem.Spec L2
section
variable {K : PySem.W.Frag} {σ : St} {H : Hp} {ta tb te : TE} {tr : TA} {x y : V} {E : Ends} {t z : TS} {g : TG} {P : PV} {b : Bool}
theorem s_asgG (h : Ev te σ H P) (k : ∀ v H1, Same H H1 → P v H1 → g v σ H1 E.nx) : tAsg te g E σ H := h H (Same.refl H) _ fun v H1 e p => k v H1 e p
theorem q_asgG (h : Ev te σ H P) (k : ∀ v H1, Same H H1 → P v H1 → g v σ H1 (z E)) : tSeq (tAsg te g) z E σ H := s_asgG (E := { E with nx := z E }) h k
theorem ev_eqB (ha : Ev ta σ H (Is x)) (hb : Ev tb σ H (Is y)) (h : scal x y = true) (e : decide (x = y) = b) : Ev (tOp rEq ta tb) σ H (Is (.bl b)) := (ev_eq ha hb h).is (by rw [e])
theorem ev_neB (ha : Ev ta σ H (Is x)) (hb : Ev tb σ H (Is y)) (h : scal x y = true) (e : decide (x = y) = !b) : Ev (tOp rNe ta tb) σ H (Is (.bl b)) := (ev_ne ha hb h).is (by rw [e, Bool.not_not])
theorem ev_isiT {l : List D} {n : String} (h : Ev ta σ H (Dt K (.tup l))) (hb : kitB "tuple" n = some b) : Ev (tCB (rIsi K) (tCons ta (tCons (tC (.ty n)) tNil))) σ H (Is (.bl b)) :=
  ev_isi (d := .non) (t := "tuple") (n := n) (fun H1 s Q q => h H1 s _ fun w H2 s2 ⟨a, xs, e1, e2, _⟩ => q _ H2 s2 ⟨w, rfl, e1 ▸ .base (.tup e2)⟩) hb
end
theorem stD_tups : ∀ (l : List Stp), D.tupsOnlys (l.map Stp.d) = true
  | [] => rfl
  | .plus c :: l => by show (true && D.tupsOnlys (l.map Stp.d)) = true; rw [stD_tups l]; rfl
  | .times a b w u :: l => by show (true && D.tupsOnlys (l.map Stp.d)) = true; rw [stD_tups l]; rfl
theorem en_at {α : Type} {l : List α} {f : α → D} {i : Nat} {d : D} (h : ((List.range (l.map f).length).map fun (i : Nat) => D.tup [.int i, (l.map f).getD i .non])[i]? = some d) : ∃ a, l[i]? = some a ∧ d = .tup [.int i, f a] := by
  rw [List.getElem?_map] at h
  obtain ⟨j, h1, h2⟩ := Option.map_eq_some_iff.mp h
  obtain ⟨h3, h4⟩ := List.getElem?_eq_some_iff.mp h1
  rw [List.getElem_range] at h4
  rw [List.length_range, List.length_map] at h3
  subst h4
  refine ⟨l[i], List.getElem?_eq_getElem h3, ?_⟩
  rw [← h2, List.getD_eq_getElem?_getD, List.getElem?_map, List.getElem?_eq_getElem h3]
  rfl
theorem map_at {α : Type} {l : List α} {f : α → D} {i : Nat} {d : D} (h : (l.map f)[i]? = some d) : ∃ a, l[i]? = some a ∧ d = f a := by
  rw [List.getElem?_map] at h
  obtain ⟨a, h1, h2⟩ := Option.map_eq_some_iff.mp h
  exact ⟨a, h1, h2.symm⟩
theorem fold_at {α β : Type} {l : List α} {f : β → α → β} {x : β} {i : Nat} {a : α} (h : l[i]? = some a) : (l.take (i + 1)).foldl f x = f ((l.take i).foldl f x) a := by
  rw [List.take_add_one, h, List.foldl_append]
  rfl
section
variable {P : Program} {w : World} {K : PySem.W.Frag} {mg : Str → Option Value} {base : Heap}
/-! ### is_step -/
abbrev spIsStep (K : PySem.W.Frag) : Sp := spF K (fun s : Stp => [s.d]) Stp.ok fun _ => Is (.bl true)
-- value 0
theorem sc_is_step : FnScope ["value"] ["value"] (defScope (top 42)) := ⟨rfl, rfl, rfl, by decide +kernel, rfl, by decide +kernel, by decide +kernel⟩
theorem ok_is_step (E : Env P w K mg base) (o_is_between : Okf P w K mg base 2 "is_between" ["value", "low", "high"] (spIsBetween K)) : Okf P w K mg base 3 "is_step" ["value"] (spIsStep K) :=
  okf_mk E 9 9 rfl rfl sc_is_step (fun _ _ _ _ _ _ us hl => match us, hl with | [_], _ => rfl) (spF_len fun _ => rfl) fun cdv A outer s H vs Q E0 hr h => by
  obtain ⟨st, h1, hk, h2⟩ := h
  obtain ⟨v, rfl, r⟩ := one_of h1
  have nd := sc_is_step.nd
  refine ⟨_, (pss_cons (ps_if (PW.pt (pw_or (pt_not (pt_val (kB (K := K) (r := fun _ _ _ => True) (r' := rIsi) rfl call_isi (E.free 62) (by decide +kernel) (pa_cons (pv 0) (pa_cons (kBTy (n := "tuple") (E.free 66) (by decide +kernel)) pa_nil))))) (pw_or (pt_cmpR op_eq (kLen (K := K) rfl (E.free 61) (pa_cons (pv 0) pa_nil)) pe_int (nomark _)) (pw_or1 (pt_not (pt_val (kB (K := K) (r := fun _ _ _ => True) (r' := rIsi) rfl call_isi (E.free 62) (by decide +kernel) (pa_cons (kIxT (K := K) rfl (pv 0) pe_int) (pa_cons (kBTy (n := "str") (E.free 65) (by decide +kernel)) pa_nil))))))))) (pss_one (ps_ret pe_bl)) pss_nil)
      (pss_cons (ps_if (pt_cmpR op_eq (kIxT (K := K) rfl (pv 0) pe_int) pe_str (nomark _)) (pss_one (ps_ret (pe_and (pe_cmpR op_eq (kLen (K := K) rfl (E.free 61) (pa_cons (pv 0) pa_nil)) (kGInt (E.int 87)) (nomark _)) (pe_one (pe_okf o_is_between (hr.mono (by decide)) (pa_cons (kIxT (K := K) rfl (pv 0) pe_int) (pa_cons (pe_un un_neg (kGInt (E.int 82))) (pa_cons (kGInt (E.int 82)) pa_nil)))))))) pss_nil)
      (pss_cons (ps_if (PW.pt (pw_or (pt_cmpR op_ne (kIxT (K := K) rfl (pv 0) pe_int) pe_str (nomark _)) (pw_or (pt_cmpR op_ne (kLen (K := K) rfl (E.free 61) (pa_cons (pv 0) pa_nil)) (kGInt (E.int 86)) (nomark _)) (pw_or (pt_not (pt_val (kB (K := K) (r := fun _ _ _ => True) (r' := rIsi) rfl call_isi (E.free 62) (by decide +kernel) (pa_cons (kIxT (K := K) rfl (pv 0) pe_int) (pa_cons (kBTy (n := "str") (E.free 65) (by decide +kernel)) pa_nil))))) (pw_or1 (kNotInSeqT (K := K) rfl (kIxT (K := K) rfl (pv 0) pe_int) (kGRef (E.glo 91)))))))) (pss_one (ps_ret pe_bl)) pss_nil)
      (pss_cons (ps_if (PW.pt (pw_or (pt_not (pt_val (pe_okf o_is_between (hr.mono (by decide)) (pa_cons (kIxT (K := K) rfl (pv 0) pe_int) (pa_cons pe_int (pa_cons (kGInt (E.int 80)) pa_nil)))))) (pw_or1 (pt_not (pt_val (pe_okf o_is_between (hr.mono (by decide)) (pa_cons (kIxT (K := K) rfl (pv 0) pe_int) (pa_cons pe_int (pa_cons (kGInt (E.int 80)) pa_nil))))))))) (pss_one (ps_ret pe_bl)) pss_nil)
      (pss_one (ps_ret (pe_okf o_is_between (hr.mono (by decide)) (pa_cons (kIxT (K := K) rfl (pv 0) pe_int) (pa_cons pe_int (pa_cons (kGInt (E.int 81)) pa_nil)))))))))), ?_⟩
  cases st with
  | plus c =>
    have hk : -1000 ≤ c ∧ c ≤ 1000 := hk
    have r : Rep K H (.tup [.str "plus", .int c]) v := r
    refine q_skip (et_or (b := false) (c := false) (et_not (b := true) (et_B (ev_isiT (ev_d rfl r) (by decide +kernel)))) fun _ => et_or (b := false) (c := false) (et_t (ev_eqB (ev_len (K := K) true (da_cons (ev_d rfl r) da_nil)) ev_c rfl rfl)) fun _ => et_not (b := true) (et_B (ev_isiV (t := "str") (ev_ixT (n := 0) (d := .str "plus") (ev_d rfl r) ev_c rfl) (fun _ _ => .base (.str _)) (by decide +kernel)))) fun H1 s1 => ?_
    have r := Rep.same s1 r
    refine q_if (b := true) (et_t (ev_eqB (ev_ixT (n := 0) (d := .str "plus") (ev_d rfl r) ev_c rfl) ev_c rfl rfl)) (fun _ H2 s2 => ?_) (fun z => nomatch z)
    have r := Rep.same s2 r
    refine s_ret ((ev_andV (b := true) (c := true) (ev_eqB (ev_len (K := K) true (da_cons (ev_d rfl r) da_nil)) ev_c rfl rfl) fun _ => (ev_fn (c, -9999, some 9999) (da_cons (ev_ixT (n := 1) (d := .int c) (ev_d rfl r) ev_c rfl) (da_cons (ev_neg ev_c) (da_cons ev_c da_nil))) trivial).is ?_)) fun v H3 s3 p => h2 v H3 ((s1.trans s2).trans s3) p
    show V.bl (decide (c ≥ -9999) && decide (c ≤ 9999)) = V.bl true
    rw [decide_eq_true (by omega), decide_eq_true (by omega)]
    rfl
  | times a b wy u =>
    obtain ⟨k1, k2, k3, k4, k5, k6, k7⟩ := (show 1 ≤ a ∧ a ≤ 5 ∧ 1 ≤ b ∧ b ≤ 5 ∧ wy ∈ wayNames ∧ 1 ≤ u ∧ u ≤ 3 from hk)
    have r : Rep K H (.tup [.str "times", .int (a : Int), .int (b : Int), .str wy, .int (u : Int)]) v := r
    refine q_skip (et_or (b := false) (c := false) (et_not (b := true) (et_B (ev_isiT (ev_d rfl r) (by decide +kernel)))) fun _ => et_or (b := false) (c := false) (et_t (ev_eqB (ev_len (K := K) true (da_cons (ev_d rfl r) da_nil)) ev_c rfl rfl)) fun _ => et_not (b := true) (et_B (ev_isiV (t := "str") (ev_ixT (n := 0) (d := .str "times") (ev_d rfl r) ev_c rfl) (fun _ _ => .base (.str _)) (by decide +kernel)))) fun H1 s1 => ?_
    have r := Rep.same s1 r
    refine q_skip (et_t (ev_eqB (ev_ixT (n := 0) (d := .str "times") (ev_d rfl r) ev_c rfl) ev_c rfl rfl)) fun H2 s2 => ?_
    have r := Rep.same s2 r
    have hw : Ev (tOp (rIn K true) (tOp (rIxT K) (tVar 0) (tC (.int 3))) (tC (.ref (He.ga K "WAYS")))) [some v] H2 (Is (.bl false)) :=
      ev_op (ev_ixT (n := 3) (d := .str wy) (ev_d rfl r) ev_c rfl) ev_c mono_dt fun x y H1 _ e1 e2 Q q => by
        have e1 : x = .str wy := e1
        refine ⟨_, ways.map V.str, e2, .inr (He.tupB_ok E.says.ways H1), by rw [e1]; rfl, by decide +kernel, ?_⟩
        rw [e1]
        refine q _ H1 (Same.refl _) ?_
        show V.bl (!inV (.str wy) (ways.map V.str)) = V.bl false
        have : wy = "down" ∨ wy = "up" ∨ wy = "near down" ∨ wy = "near up" ∨ wy = "near even" := by
          have k5 : wy ∈ [("down" : Str), "up", "near down", "near up", "near even"] := k5
          simpa using k5
        rcases this with z | z | z | z | z <;> (rw [z]; decide +kernel)
    refine q_skip (et_or (b := false) (c := false) (et_t (ev_neB (ev_ixT (n := 0) (d := .str "times") (ev_d rfl r) ev_c rfl) ev_c rfl rfl)) fun _ => et_or (b := false) (c := false) (et_t (ev_neB (ev_len (K := K) true (da_cons (ev_d rfl r) da_nil)) ev_c rfl rfl)) fun _ => et_or (b := false) (c := false) (et_not (b := true) (et_B (ev_isiV (t := "str") (ev_ixT (n := 3) (d := .str wy) (ev_d rfl r) ev_c rfl) (fun _ _ => .base (.str _)) (by decide +kernel)))) fun _ => et_t hw) fun H3 s3 => ?_
    have r := Rep.same s3 r
    have bt : ∀ (n : Nat) (m : Int), 1 ≤ n → (n : Int) ≤ m → V.bl (betw ((n : Int), 1, some m)) = V.bl true := fun n m q1 q2 => by
      show V.bl (decide ((n : Int) ≥ 1) && decide ((n : Int) ≤ m)) = V.bl true
      rw [decide_eq_true (by omega), decide_eq_true q2]
      rfl
    refine q_skip (et_or (b := false) (c := false) (et_not (b := true) (et_B ((ev_fn ((a : Int), 1, some 200) (da_cons (ev_ixT (n := 1) (d := .int (a : Int)) (ev_d rfl r) ev_c rfl) (da_cons ev_c (da_cons ev_c da_nil))) trivial).is (bt a 200 k1 (by omega))))) fun _ => et_not (b := true) (et_B ((ev_fn ((b : Int), 1, some 200) (da_cons (ev_ixT (n := 2) (d := .int (b : Int)) (ev_d rfl r) ev_c rfl) (da_cons ev_c (da_cons ev_c da_nil))) trivial).is (bt b 200 k3 (by omega))))) fun H4 s4 => ?_
    have r := Rep.same s4 r
    exact s_ret ((ev_fn ((u : Int), 1, some 60) (da_cons (ev_ixT (n := 4) (d := .int (u : Int)) (ev_d rfl r) ev_c rfl) (da_cons ev_c (da_cons ev_c da_nil))) trivial).is (bt u 60 k6 (by omega))) fun v H5 s5 p => h2 v H5 ((((s1.trans s2).trans s3).trans s4).trans s5) p
end
end LC
end
section
set_option Elab.async false
set_option linter.all false
set_option maxRecDepth 100000
set_option maxHeartbeats 2000000
/-! rows of steps -/
namespace LC
open PySem PySem.Spec L2
theorem ev_modP {σ : St} {H : Hp} {ta tb : TE} {i j : Int} (ha : Ev ta σ H (Is (.int i))) (hb : Ev tb σ H (Is (.int j))) (h : 0 < j) : Ev (tOp (rI (fun _ j => j ≠ 0) fun i j => .int (i.fmod j)) ta tb) σ H (Is (.int (i % j))) := (ev_I (C := fun _ j => j ≠ 0) (g := fun i j => V.int (i.fmod j)) ha hb (show j ≠ 0 from Int.ne_of_gt h)).is (by rw [Int.fmod_eq_emod_of_nonneg _ (Int.le_of_lt h)])
theorem sound_i {l : List Stp} {s : Stp} {i : Nat} (h : l[i]? = some s) {n : Nat} (k : OkS n l) : s.ok ∧ i < n := ⟨k.2 s (List.mem_of_getElem? h), Nat.lt_of_lt_of_le (List.getElem?_eq_some_iff.mp h).1 k.1⟩
section
variable {P : Program} {w : World} {K : PySem.W.Frag} {mg : Str → Option Value} {base : Heap}
/-! ### wrong_step: none -/
abbrev spWrongStep (K : PySem.W.Frag) : Sp := spF K (fun l : List Stp => [stD l]) (OkS 2) fun _ => Is .non
-- value 0 at 1 step 2
theorem sc_wrong_step : FnScope ["value", "at", "step"] ["value"] (defScope (top 43)) := ⟨rfl, rfl, rfl, by decide +kernel, rfl, by decide +kernel, by decide +kernel⟩
theorem ok_wrong_step (E : Env P w K mg base) (o_is_step : Okf P w K mg base 3 "is_step" ["value"] (spIsStep K)) : Okf P w K mg base 4 "wrong_step" ["value"] (spWrongStep K) :=
  okf_mk E 10 10 rfl rfl sc_wrong_step (fun _ _ _ _ _ _ us hl => match us, hl with | [_], _ => rfl) (spF_len fun _ => rfl) fun cdv A outer s H vs Q E0 hr h => by
  obtain ⟨l, h1, hk, h2⟩ := h
  obtain ⟨v, rfl, r⟩ := one_of h1
  have nd := sc_wrong_step.nd
  refine ⟨_, (pss_cons (ps_for PassesOwn.never rfl (kEn (K := K) true rfl (E.free 70) (pa_cons (pv 0) pa_nil)) (kGTup (K := K) rfl rfl (pgs_cons (pg_name (i := 1) nd rfl (.inl rfl)) (pgs_cons (pg_name (i := 2) nd rfl (.inl rfl)) pgs_nil))) (pss_one (ps_if (PW.pt (pw_or (pt_cmpR op_eq (pv 1) (kGInt (E.int 79)) (nomark _)) (pw_or1 (pt_not (pt_val (pe_okf o_is_step (hr.mono (by decide)) (pa_cons (pv 2) pa_nil))))))) (pss_one (ps_ret (pv 1))) pss_nil)))
      (pss_one (ps_ret pe_non))), ?_⟩
  refine q_for (it_eT (ds := l.map Stp.d) (da_cons (ev_d rfl r) da_nil) (stD_tups l)) fun H2 G s2 eG hB => ⟨fun i σ' H' => Same H2 H' ∧ ∃ x y, σ' = [some v, x, y], ⟨Same.refl _, _, _, rfl⟩, fun i σ' H' p => eG H' p.1, ?_, ?_⟩
  · rintro i d x σ' H' H'' hd ⟨s3, x1, y1, rfl⟩ s4 rd
    obtain ⟨st, e1, rfl⟩ := en_at hd
    obtain ⟨ks, ki⟩ := sound_i e1 hk
    refine g_tup2 rd fun a b ra rb => ?_
    have ra : a = .int (i : Int) := ra
    subst ra
    refine s_skip (et_or (b := false) (c := false) (et_t (ev_eqB (ev_v rfl) ev_c rfl (by rw [decide_eq_false_iff_not]; intro z; have := V.int.inj z; omega))) fun _ => et_not (b := true) (et_B (ev_fn st (da_cons (ev_d rfl rb) da_nil) ks))) fun H5 s5 => ?_
    exact ⟨(s3.trans s4).trans s5, _, _, rfl⟩
  · rintro σ' H' ⟨s3, x1, y1, rfl⟩
    exact s_retv ev_c fun H5 s5 => h2 _ H5 ((s2.trans s3).trans s5) rfl
/-! ### is_row_of_steps -/
abbrev spIsRow (K : PySem.W.Frag) : Sp := spF K (fun l : List Stp => [stD l]) (OkS 2) fun _ => Is (.bl true)
-- value 0
theorem sc_is_row_of_steps : FnScope ["value"] ["value"] (defScope (top 44)) := ⟨rfl, rfl, rfl, by decide +kernel, rfl, by decide +kernel, by decide +kernel⟩
theorem ok_is_row_of_steps (E : Env P w K mg base) (o_wrong_step : Okf P w K mg base 4 "wrong_step" ["value"] (spWrongStep K)) : Okf P w K mg base 5 "is_row_of_steps" ["value"] (spIsRow K) :=
  okf_mk E 11 11 rfl rfl sc_is_row_of_steps (fun _ _ _ _ _ _ us hl => match us, hl with | [_], _ => rfl) (spF_len fun _ => rfl) fun cdv A outer s H vs Q E0 hr h => by
  obtain ⟨l, h1, hk, h2⟩ := h
  obtain ⟨v, rfl, r⟩ := one_of h1
  have nd := sc_is_row_of_steps.nd
  refine ⟨_, (pss_one (ps_ret (pe_and (kB (K := K) (r := fun _ _ _ => True) (r' := rIsi) rfl call_isi (E.free 62) (by decide +kernel) (pa_cons (pv 0) (pa_cons (kBTy (n := "tuple") (E.free 66) (by decide +kernel)) pa_nil))) (pe_one (pe_cmpR op_isN (pe_okf o_wrong_step (hr.mono (by decide)) (pa_cons (pv 0) pa_nil)) pe_non (nomark _)))))), ?_⟩
  exact s_ret (ev_andV (b := true) (c := true) (ev_isiT (ev_d rfl r) (by decide +kernel)) fun _ => (ev_isN (ev_fn l (da_cons (ev_d rfl r) da_nil) hk)).is rfl) h2
/-! ### rounded -/
abbrev spRounded (K : PySem.W.Frag) : Sp := spF K (fun a : Int × Nat × Str => [.int a.1, .int (a.2.1 : Int), .str a.2.2]) (fun a => 0 < a.2.1 ∧ a.2.1 < 2 ^ 20) fun a => Is (.int (rnd a.1 a.2.1 a.2.2))
theorem dStr {a b : Str} : decide (V.str a = V.str b) = decide (a = b) := by rw [Bool.eq_iff_iff]; simp
theorem dInt {a b : Int} : decide (V.int a = V.int b) = decide (a = b) := by rw [Bool.eq_iff_iff]; simp
-- top 0 bottom 1 way 2 low 3 rest 4
theorem sc_rounded : FnScope ["top", "bottom", "way", "low", "rest"] ["top", "bottom", "way"] (defScope (top 45)) := ⟨rfl, rfl, rfl, by decide +kernel, rfl, by decide +kernel, by decide +kernel⟩
theorem ok_rounded (E : Env P w K mg base)  : Okf P w K mg base 1 "rounded" ["top", "bottom", "way"] (spRounded K) :=
  okf_mk E 12 12 rfl rfl sc_rounded (fun _ _ _ _ _ _ us hl => match us, hl with | [_, _, _], _ => rfl) (spF_len fun _ => rfl) fun cdv A outer s H vs Q E0 hr h => by
  obtain ⟨⟨t, b, wy⟩, h1, ⟨k1, k2⟩, h2⟩ := h
  have k1 : 0 < b := k1
  have k2 : b < 2 ^ 20 := k2
  have h2 : ∀ (v : V) (H2 : Hp), Same H H2 → v = .int (rnd t b wy) → Q v H2 := h2
  obtain ⟨_, _, rfl, rfl, _, _, rfl, rfl, h1⟩ := h1
  obtain ⟨_, rfl, rfl⟩ := one_of h1
  have nd := sc_rounded.nd
  refine ⟨_, (pss_cons (ps_asg (pe_callB call_divmod (by rfl) (E.free 69) (by decide +kernel) (pa_cons (pv 0) (pa_cons (pv 1) pa_nil))) (kGTup (K := K) rfl rfl (pgs_cons (pg_name (i := 3) nd rfl (.inl rfl)) (pgs_cons (pg_name (i := 4) nd rfl (.inl rfl)) pgs_nil))))
      (pss_cons (ps_if (PW.pt (pw_or (pt_cmpR op_eq (pv 2) pe_str (nomark _)) (pw_or1 (pt_cmpR op_eq (pv 4) pe_int (nomark _))))) (pss_one (ps_ret (pv 3))) pss_nil)
      (pss_cons (ps_if (pt_cmpR op_eq (pv 2) pe_str (nomark _)) (pss_one (ps_ret (pe_op op_add (pv 3) pe_int))) pss_nil)
      (pss_cons (ps_if (pt_cmpR op_ne (pe_op op_mul pe_int (pv 4)) (pv 1) (nomark _)) (pss_one (ps_ret (pe_ifExp (pt_cmpR op_lt (pe_op op_mul pe_int (pv 4)) (pv 1) (nomark _)) (pv 3) (pe_op op_add (pv 3) pe_int)))) pss_nil)
      (pss_cons (ps_if (pt_cmpR op_eq (pv 2) pe_str (nomark _)) (pss_one (ps_ret (pe_op op_add (pv 3) (pe_op op_modN (pv 3) pe_int)))) pss_nil)
      (pss_one (ps_ret (pe_ifExp (pt_cmpR op_eq (pv 2) pe_str (nomark _)) (pv 3) (pe_op op_add (pv 3) pe_int))))))))), ?_⟩
  refine q_asgG (ev_divmod (K := K) (i := t) (j := (b : Int)) (da_cons (ev_v rfl) (da_cons (ev_v rfl) da_nil)) ⟨by omega, by omega⟩) fun v H1 s1 r => g_tup2 r fun x y rx ry => ?_
  have rx : x = .int (t / (b : Int)) := rx
  have ry : y = .int (t % (b : Int)) := ry
  subst rx ry
  refine q_if (b := decide (wy = "down" ∨ t % (b : Int) = 0)) ((et_or (et_t (ev_eqB (ev_v rfl) ev_c rfl dStr)) fun _ => et_t (ev_eqB (ev_v rfl) ev_c rfl dInt)).is (by rw [Bool.eq_iff_iff]; simp)) (fun c H2 s2 => ?_) (fun c H2 s2 => ?_)
  · refine s_retv (ev_v rfl) fun H3 s3 => h2 _ H3 ((s1.trans s2).trans s3) ?_
    unfold rnd; rw [if_pos (of_decide_eq_true c)]
  have c1 := of_decide_eq_false c
  refine q_if (et_t (ev_eqB (ev_v rfl) ev_c rfl dStr)) (fun c H3 s3 => ?_) (fun c H3 s3 => ?_)
  · refine s_retv (ev_I0 (ev_v rfl) ev_c) fun H4 s4 => h2 _ H4 (((s1.trans s2).trans s3).trans s4) ?_
    unfold rnd; rw [if_neg c1, if_pos (of_decide_eq_true c)]
  have c2 := of_decide_eq_false c
  refine q_if (b := decide (2 * (t % (b : Int)) ≠ (b : Int))) (et_t ((ev_ne (ev_mulL ev_c (ev_v rfl) (by decide) (by decide)) (ev_v rfl) rfl).is (by rw [dInt]; congr 1; rw [Bool.eq_iff_iff]; simp))) (fun c H4 s4 => ?_) (fun c H4 s4 => ?_)
  · have c3 := of_decide_eq_true c
    refine s_retv (v := .int (if 2 * (t % (b : Int)) < (b : Int) then t / (b : Int) else t / (b : Int) + 1)) (ev_if (et_t (ev_I0 (ev_mulL ev_c (ev_v rfl) (by decide) (by decide)) (ev_v rfl))) (fun c => (ev_v rfl).is (by rw [if_pos (of_decide_eq_true c)])) (fun c => (ev_I0 (ev_v rfl) ev_c).is (by rw [if_neg (of_decide_eq_false c)]))) fun H5 s5 => h2 _ H5 ((((s1.trans s2).trans s3).trans s4).trans s5) ?_
    unfold rnd; rw [if_neg c1, if_neg c2, if_pos c3]
  have c3 := of_decide_eq_false c
  refine q_if (et_t (ev_eqB (ev_v rfl) ev_c rfl dStr)) (fun c H5 s5 => ?_) (fun c H5 s5 => ?_)
  · refine s_retv (ev_I0 (ev_v rfl) (ev_modP (ev_v rfl) ev_c (by decide))) fun H6 s6 => h2 _ H6 (((((s1.trans s2).trans s3).trans s4).trans s5).trans s6) ?_
    unfold rnd; rw [if_neg c1, if_neg c2, if_neg c3, if_pos (of_decide_eq_true c)]
  have c4 := of_decide_eq_false c
  refine s_retv (v := .int (if wy = "near down" then t / (b : Int) else t / (b : Int) + 1)) (ev_if (et_t (ev_eqB (ev_v rfl) ev_c rfl dStr)) (fun c => (ev_v rfl).is (by rw [if_pos (of_decide_eq_true c)])) (fun c => (ev_I0 (ev_v rfl) ev_c).is (by rw [if_neg (of_decide_eq_false c)]))) fun H6 s6 => h2 _ H6 (((((s1.trans s2).trans s3).trans s4).trans s5).trans s6) ?_
  unfold rnd; rw [if_neg c1, if_neg c2, if_neg c3, if_neg c4]
/-! ### led -/
abbrev spLed (K : PySem.W.Frag) : Sp := spF K (fun a : List Stp × Int => [stD a.1, .int a.2]) (fun a => ∀ s, s ∈ a.1 → s.ok) fun a => Is (.int (ledS a.1 a.2))
-- steps 0 value 1 step 2
theorem sc_led : FnScope ["steps", "value", "step"] ["steps", "value"] (defScope (top 46)) := ⟨rfl, rfl, rfl, by decide +kernel, rfl, by decide +kernel, by decide +kernel⟩
theorem ok_led (E : Env P w K mg base) (o_rounded : Okf P w K mg base 1 "rounded" ["top", "bottom", "way"] (spRounded K)) : Okf P w K mg base 2 "led" ["steps", "value"] (spLed K) :=
  okf_mk E 13 13 rfl rfl sc_led (fun _ _ _ _ _ _ us hl => match us, hl with | [_, _], _ => rfl) (spF_len fun _ => rfl) fun cdv A outer s H vs Q E0 hr h => by
  obtain ⟨⟨l, n⟩, h1, hk, h2⟩ := h
  obtain ⟨v, _, rfl, r, rfl⟩ := two_of h1
  have nd := sc_led.nd
  refine ⟨_, (pss_cons (ps_for PassesOwn.never rfl (kITup (K := K) rfl (pv 0)) (pg_name (i := 2) nd rfl (.inl rfl)) (pss_one (ps_if (pt_cmpR op_eq (kIxT (K := K) rfl (pv 2) pe_int) pe_str (nomark _)) (pss_one (ps_set (i := 1) nd rfl (.inl rfl) (pe_op op_add (pv 1) (kIxT (K := K) rfl (pv 2) pe_int)))) (pss_one (ps_set (i := 1) nd rfl (.inl rfl) (pe_op op_mul (pe_okf o_rounded (hr.mono (by decide)) (pa_cons (pe_op op_mul (pv 1) (kIxT (K := K) rfl (pv 2) pe_int)) (pa_cons (pe_op op_mul (kIxT (K := K) rfl (pv 2) pe_int) (kIxT (K := K) rfl (pv 2) pe_int)) (pa_cons (kIxT (K := K) rfl (pv 2) pe_int) pa_nil)))) (kIxT (K := K) rfl (pv 2) pe_int)))))))
      (pss_one (ps_ret (pv 1)))), ?_⟩
  refine q_for (it_tup (ds := l.map Stp.d) (ev_d rfl r) (stD_tups l)) fun H2 G s2 eG hB => ⟨fun i σ' H' => Same H2 H' ∧ ∃ x, σ' = [some v, some (.int (ledS (l.take i) n)), x], ⟨Same.refl _, _, rfl⟩, fun i σ' H' p => eG H' p.1, ?_, ?_⟩
  · rintro i d x σ' H' H'' hd ⟨s3, x1, rfl⟩ s4 rd
    obtain ⟨st, e1, rfl⟩ := map_at hd
    have ks := hk st (List.mem_of_getElem? e1)
    have e2 : ledS (l.take (i + 1)) n = led1 (ledS (l.take i) n) st := fold_at e1
    cases st with
    | plus c =>
      have rd : Rep K H'' (.tup [.str "plus", .int c]) x := rd
      refine s_if (b := true) (et_t (ev_eqB (ev_ixT (n := 0) (d := .str "plus") (ev_d rfl rd) ev_c rfl) ev_c rfl rfl)) (fun _ H3 s5 => ?_) (fun z => nomatch z)
      have rd := Rep.same s5 rd
      refine s_let (ev_I0 (ev_v rfl) (ev_ixT (n := 1) (d := .int c) (ev_d rfl rd) ev_c rfl)) fun H4 s6 => ⟨((s3.trans s4).trans s5).trans s6, _, by rw [e2]; rfl⟩
    | times a b wy u =>
      obtain ⟨k1, k2, k3, k4, k5, k6, k7⟩ := (show 1 ≤ a ∧ a ≤ 5 ∧ 1 ≤ b ∧ b ≤ 5 ∧ wy ∈ wayNames ∧ 1 ≤ u ∧ u ≤ 3 from ks)
      have rd : Rep K H'' (.tup [.str "times", .int (a : Int), .int (b : Int), .str wy, .int (u : Int)]) x := rd
      refine s_if (b := false) (et_t (ev_eqB (ev_ixT (n := 0) (d := .str "times") (ev_d rfl rd) ev_c rfl) ev_c rfl rfl)) (fun z => nomatch z) (fun _ H3 s5 => ?_)
      have rd := Rep.same s5 rd
      have hb : b * u ≤ 5 * 3 := Nat.mul_le_mul k4 k7
      refine s_let (ev_mulR (ev_fn (ledS (l.take i) n * (a : Int), b * u, wy) (da_cons (ev_mulR (ev_v rfl) (ev_ixT (n := 1) (d := .int (a : Int)) (ev_d rfl rd) ev_c rfl) (by omega) (by omega)) (da_cons ((ev_mulR (ev_ixT (n := 2) (d := .int (b : Int)) (ev_d rfl rd) ev_c rfl) (ev_ixT (n := 4) (d := .int (u : Int)) (ev_d rfl rd) ev_c rfl) (by omega) (by omega)).is rfl) (da_cons (ev_ixT (n := 3) (d := .str wy) (ev_d rfl rd) ev_c rfl) da_nil))) ⟨Nat.mul_pos k3 k6, by show b * u < 2 ^ 20; omega⟩) (ev_ixT (n := 4) (d := .int (u : Int)) (ev_d rfl rd) ev_c rfl) (by omega) (by omega)) fun H4 s6 => ⟨((s3.trans s4).trans s5).trans s6, _, by rw [e2]; rfl⟩
  · rintro σ' H' ⟨s3, x1, rfl⟩
    rw [List.length_map, List.take_length]
    exact s_retv (ev_v rfl) fun H5 s5 => h2 _ H5 ((s2.trans s3).trans s5) rfl
end
end LC
end
section
set_option Elab.async false
set_option linter.all false
set_option maxRecDepth 100000
set_option maxHeartbeats 2000000
/-! rates, periods -/
namespace LC
open PySem PySem.Spec L2
theorem pow6 {n i : Nat} (h : i ≤ 6) (b : Nat) (hb : 1 ≤ b) (hn : n ≤ b ^ i) : n ≤ b ^ 6 := Nat.le_trans hn (Nat.pow_le_pow_right hb h)
theorem take_ok {l : List Stp} {i n : Nat} (h : OkS n l) : OkS n (l.take i) := ⟨Nat.le_trans (by rw [List.length_take]; exact Nat.min_le_right _ _) h.1, fun s hs => h.2 s (List.mem_of_mem_take hs)⟩
section
variable {P : Program} {w : World} {K : PySem.W.Frag} {mg : Str → Option Value} {base : Heap}
abbrev spRateOf (K : PySem.W.Frag) : Sp := spF K (fun l : List Stp => [stD l]) (OkS 6) fun l => Dt K (fD (rateS l))
theorem FOk.sm {n : Nat} {f : Nat × Nat} (h : FOk n f) (hn : n ≤ 6) : FSm f := by
  have e : (5 : Nat) ^ 6 = 15625 := by decide
  have h1 := pow6 hn 5 (by decide) h.1
  have h2 := pow6 hn 5 (by decide) h.2.1
  exact ⟨by omega, by omega, h.2.2⟩
-- steps 0 found 1 step 2
theorem sc_rate_of : FnScope ["steps", "found", "step"] ["steps"] (defScope (top 47)) := ⟨rfl, rfl, rfl, by decide +kernel, rfl, by decide +kernel, by decide +kernel⟩
theorem ok_rate_of (E : Env P w K mg base) (o_times : Okf P w K mg base 3 "times" ["one", "other"] (spTimes K)) (o_fraction : Okf P w K mg base 2 "fraction" ["top", "bottom"] (spFrac K)) : Okf P w K mg base 4 "rate_of" ["steps"] (spRateOf K) :=
  okf_mk E 14 14 rfl rfl sc_rate_of (fun _ _ _ _ _ _ us hl => match us, hl with | [_], _ => rfl) (spF_len fun _ => rfl) fun cdv A outer s H vs Q E0 hr h => by
  obtain ⟨l, h1, hk, h2⟩ := h
  obtain ⟨v, rfl, r⟩ := one_of h1
  have nd := sc_rate_of.nd
  refine ⟨_, (pss_cons (ps_set (i := 1) nd rfl (.inl rfl) (pe_tup (pa_cons pe_int (pa_cons pe_int pa_nil))))
      (pss_cons (ps_for PassesOwn.never rfl (kITup (K := K) rfl (pv 0)) (pg_name (i := 2) nd rfl (.inl rfl)) (pss_one (ps_if (pt_cmpR op_eq (kIxT (K := K) rfl (pv 2) pe_int) pe_str (nomark _)) (pss_one (ps_set (i := 1) nd rfl (.inl rfl) (pe_okf o_times (hr.mono (by decide)) (pa_cons (pv 1) (pa_cons (pe_okf o_fraction (hr.mono (by decide)) (pa_cons (kIxT (K := K) rfl (pv 2) pe_int) (pa_cons (kIxT (K := K) rfl (pv 2) pe_int) pa_nil))) pa_nil))))) pss_nil)))
      (pss_one (ps_ret (pv 1))))), ?_⟩
  refine q_asg (ev_tup (K := K) (l := [.int 1, .int 1]) (da_cons ev_c (da_cons ev_c da_nil)) (by decide)) fun f H1 s1 rf => ?_
  refine q_for (it_tup (ds := l.map Stp.d) (ev_d rfl (Rep.same s1 r)) (stD_tups l)) fun H2 G s2 eG hB => ⟨fun i σ' H' => Same H2 H' ∧ ∃ x y, σ' = [some v, some x, y] ∧ Rep K H' (fD (rateS (l.take i))) x, ⟨Same.refl _, _, _, rfl, Rep.same s2 rf⟩, fun i σ' H' p => eG H' p.1, ?_, ?_⟩
  · rintro i d x σ' H' H'' hd ⟨s3, f, y, rfl, rf⟩ s4 rd
    obtain ⟨st, e1, rfl⟩ := map_at hd
    obtain ⟨ks, _⟩ := sound_i e1 hk
    have rf := Rep.same s4 rf
    have e2 : rateS (l.take (i + 1)) = rate1 (rateS (l.take i)) st := fold_at e1
    have fo : FSm (rateS (l.take i)) := (rateS_ok (take_ok hk)).sm (Nat.le_refl _)
    cases st with
    | plus c =>
      have rd : Rep K H'' (.tup [.str "plus", .int c]) x := rd
      refine s_skip (et_t (ev_eqB (ev_ixT (n := 0) (d := .str "plus") (ev_d rfl rd) ev_c rfl) ev_c rfl rfl)) fun H3 s5 => ⟨(s3.trans s4).trans s5, _, _, rfl, ?_⟩
      rw [e2]; exact Rep.same s5 rf
    | times a b wy u =>
      obtain ⟨k1, k2, k3, k4, k5, k6, k7⟩ := (show 1 ≤ a ∧ a ≤ 5 ∧ 1 ≤ b ∧ b ≤ 5 ∧ wy ∈ wayNames ∧ 1 ≤ u ∧ u ≤ 3 from ks)
      have rd : Rep K H'' (.tup [.str "times", .int (a : Int), .int (b : Int), .str wy, .int (u : Int)]) x := rd
      refine s_if (b := true) (et_t (ev_eqB (ev_ixT (n := 0) (d := .str "times") (ev_d rfl rd) ev_c rfl) ev_c rfl rfl)) (fun _ H3 s5 => ?_) (fun z => nomatch z)
      have rd := Rep.same s5 rd
      have rf := Rep.same s5 rf
      have fl := frac_le a b
      refine s_asg (ev_fn (rateS (l.take i), frac a b) (da_cons (ev_d rfl rf) (da_cons (ev_fn (a, b) (da_cons (ev_ixT (n := 1) (d := .int (a : Int)) (ev_d rfl rd) ev_c rfl) (da_cons (ev_ixT (n := 2) (d := .int (b : Int)) (ev_d rfl rd) ev_c rfl) da_nil)) ⟨k3, by show b < 2 ^ 30; omega⟩) da_nil)) ⟨fo, ⟨by show (frac a b).1 < _; omega, by show (frac a b).2 < _; omega, frac_pos k3⟩⟩) fun z H4 s6 p => ⟨((s3.trans s4).trans s5).trans s6, _, _, rfl, ?_⟩
      rw [e2]; exact p
  · rintro σ' H' ⟨s3, f, y, rfl, rf⟩
    rw [List.length_map, List.take_length] at rf
    exact s_ret (ev_d rfl rf) fun z H5 s5 p => h2 z H5 (((s1.trans s2).trans s3).trans s5) p
/-! ### period_of -/
abbrev spPeriodOf (K : PySem.W.Frag) : Sp := spF K (fun l : List Stp => [stD l]) (OkS 6) fun l => Is (.int (perS l : Int))
-- steps 0 period 1 rise 2 step 3 whole 4 own 5 turns 6
theorem sc_period_of : FnScope ["steps", "period", "rise", "step", "whole", "own", "turns"] ["steps"] (defScope (top 48)) := ⟨rfl, rfl, rfl, by decide +kernel, rfl, by decide +kernel, by decide +kernel⟩
theorem ok_period_of (E : Env P w K mg base) (o_common_divisor : Okf P w K mg base 1 "common_divisor" ["one", "other"] (spGcd K)) : Okf P w K mg base 2 "period_of" ["steps"] (spPeriodOf K) :=
  okf_mk E 15 15 rfl rfl sc_period_of (fun _ _ _ _ _ _ us hl => match us, hl with | [_], _ => rfl) (spF_len fun _ => rfl) fun cdv A outer s H vs Q E0 hr h => by
  obtain ⟨l, h1, hk, h2⟩ := h
  obtain ⟨v, rfl, r⟩ := one_of h1
  have nd := sc_period_of.nd
  refine ⟨_, (pss_cons (ps_asg (pe_tup (pa_cons pe_int (pa_cons pe_int pa_nil))) (kGTup (K := K) rfl rfl (pgs_cons (pg_name (i := 1) nd rfl (.inl rfl)) (pgs_cons (pg_name (i := 2) nd rfl (.inl rfl)) pgs_nil))))
      (pss_cons (ps_for PassesOwn.never rfl (kITup (K := K) rfl (pv 0)) (pg_name (i := 3) nd rfl (.inl rfl)) (pss_one (ps_if (pt_cmpR op_eq (kIxT (K := K) rfl (pv 3) pe_int) pe_str (nomark _)) (pss_cons (ps_set (i := 4) nd rfl (.inl rfl) (pe_op op_mul (pe_op op_mul (kIxT (K := K) rfl (pv 3) pe_int) (kIxT (K := K) rfl (pv 3) pe_int)) (pe_ifExp (pt_cmpR op_eq (kIxT (K := K) rfl (pv 3) pe_int) pe_str (nomark _)) pe_int pe_int)))
      (pss_cons (ps_set (i := 5) nd rfl (.inl rfl) (pe_op op_fdivN (pv 4) (pe_okf o_common_divisor (hr.mono (by decide)) (pa_cons (kIxT (K := K) rfl (pv 3) pe_int) (pa_cons (pv 4) pa_nil)))))
      (pss_cons (ps_set (i := 6) nd rfl (.inl rfl) (pe_op op_fdivN (pv 5) (pe_okf o_common_divisor (hr.mono (by decide)) (pa_cons (pv 2) (pa_cons (pv 5) pa_nil)))))
      (pss_one (ps_par (i := 1) (j := 2) (by rfl) nd rfl rfl (by decide) rfl rfl (pa_cons (pe_op op_mul (pv 1) (pv 6)) (pa_cons (pe_op op_fdivN (pe_op op_mul (pe_op op_mul (pv 2) (pv 6)) (kIxT (K := K) rfl (pv 3) pe_int)) (kIxT (K := K) rfl (pv 3) pe_int)) pa_nil)) (by rfl)))))) pss_nil)))
      (pss_one (ps_ret (pv 1))))), ?_⟩
  refine q_asgG (ev_tup (K := K) (l := [.int 1, .int 1]) (da_cons ev_c (da_cons ev_c da_nil)) (by decide)) fun f H1 s1 rf => g_tup2 rf fun p0 q0 rp rq => ?_
  have rp : p0 = .int 1 := rp
  have rq : q0 = .int 1 := rq
  subst rp rq
  refine q_for (it_tup (ds := l.map Stp.d) (ev_d rfl (Rep.same s1 r)) (stD_tups l)) fun H2 G s2 eG hB => ⟨fun i σ' H' => Same H2 H' ∧ ∃ y1 y2 y3 y4, σ' = [some v, some (.int (((l.take i).foldl per1 (1, 1)).1 : Int)), some (.int (((l.take i).foldl per1 (1, 1)).2 : Int)), y1, y2, y3, y4], ⟨Same.refl _, _, _, _, _, rfl⟩, fun i σ' H' p => eG H' p.1, ?_, ?_⟩
  · rintro i d x σ' H' H'' hd ⟨s3, y1, y2, y3, y4, rfl⟩ s4 rd
    obtain ⟨st, e1, rfl⟩ := map_at hd
    obtain ⟨ks, _⟩ := sound_i e1 hk
    have e2 : (l.take (i + 1)).foldl per1 (1, 1) = per1 ((l.take i).foldl per1 (1, 1)) st := fold_at e1
    have po := POk.fold (take_ok (i := i) hk).2 POk.one
    generalize (l.take i).foldl per1 (1, 1) = f at po e2
    have le6 : 0 + (l.take i).length ≤ 6 := by have := (take_ok (i := i) hk).1; omega
    have p1 := pow6 le6 30 (by decide) po.1
    have p2 := pow6 le6 150 (by decide) po.2.1
    have c30 : (30 : Nat) ^ 6 = 729000000 := by decide
    have c150 : (150 : Nat) ^ 6 = 11390625000000 := by decide
    cases st with
    | plus c =>
      have rd : Rep K H'' (.tup [.str "plus", .int c]) x := rd
      exact s_skip (et_t (ev_eqB (ev_ixT (n := 0) (d := .str "plus") (ev_d rfl rd) ev_c rfl) ev_c rfl rfl)) fun H3 s5 => ⟨(s3.trans s4).trans s5, _, _, _, _, by rw [e2]; rfl⟩
    | times a b wy u =>
      obtain ⟨k1, k2, k3, k4, k5, k6, k7⟩ := (show 1 ≤ a ∧ a ≤ 5 ∧ 1 ≤ b ∧ b ≤ 5 ∧ wy ∈ wayNames ∧ 1 ≤ u ∧ u ≤ 3 from ks)
      have rd : Rep K H'' (.tup [.str "times", .int (a : Int), .int (b : Int), .str wy, .int (u : Int)]) x := rd
      refine s_if (b := true) (et_t (ev_eqB (ev_ixT (n := 0) (d := .str "times") (ev_d rfl rd) ev_c rfl) ev_c rfl rfl)) (fun _ H3 s5 => ?_) (fun z => nomatch z)
      have rd := Rep.same s5 rd
      obtain ⟨w1, w2⟩ := whole1_ok ks
      obtain ⟨o1, o2⟩ := own1_ok ks
      obtain ⟨t1, t2⟩ := turns_ok (r := f.2) o1
      have hb : b * u ≤ 5 * 3 := Nat.mul_le_mul k4 k7
      refine q_let (v := .int (whole1 b u wy : Int)) ((ev_mulL ((ev_mulR (ev_ixT (n := 2) (d := .int (b : Int)) (ev_d rfl rd) ev_c rfl) (ev_ixT (n := 4) (d := .int (u : Int)) (ev_d rfl rd) ev_c rfl) (by omega) (by omega)).is (w := .int ((b * u : Nat) : Int)) rfl) (ev_if (P := Is (.int ((if wy = "near even" then 2 else 1 : Nat) : Int))) (et_t (ev_eqB (ev_ixT (n := 3) (d := .str wy) (ev_d rfl rd) ev_c rfl) ev_c rfl dStr)) (fun c => ev_c.is (by rw [if_pos (of_decide_eq_true c)]; rfl)) (fun c => ev_c.is (by rw [if_neg (of_decide_eq_false c)]; rfl))) (by omega) (by omega)).is (by unfold whole1; rw [← Int.natCast_mul])) fun H4 s6 => ?_
      have rd := Rep.same s6 rd
      have ga := gcd_pos_r (t := a) w1
      have gl : Nat.gcd a (whole1 b u wy) ≤ whole1 b u wy := Nat.le_of_dvd w1 (Nat.gcd_dvd_right _ _)
      have gb := gcd_pos_r (t := f.2) o1
      have gm : Nat.gcd f.2 (own1 a b u wy) ≤ own1 a b u wy := Nat.le_of_dvd o1 (Nat.gcd_dvd_right _ _)
      refine q_let (v := .int (own1 a b u wy : Int)) ((ev_I (ev_v rfl) (ev_fn (a, whole1 b u wy) (da_cons (ev_ixT (n := 1) (d := .int (a : Int)) (ev_d rfl rd) ev_c rfl) (da_cons (ev_v rfl) da_nil)) trivial) (cdn ga (by omega))).is (by rw [fdiv_nat]; rfl)) fun H5 s7 => ?_
      have rd := Rep.same s7 rd
      refine q_let (v := .int ((own1 a b u wy / Nat.gcd f.2 (own1 a b u wy) : Nat) : Int)) ((ev_I (ev_v rfl) (ev_fn (f.2, own1 a b u wy) (da_cons (ev_v rfl) (da_cons (ev_v rfl) da_nil)) trivial) (cdn gb (by omega))).is (by rw [fdiv_nat])) fun H6 s8 => ?_
      have rd := Rep.same s8 rd
      refine s_par (ev_mulR (ev_v rfl) (ev_v rfl) (by omega) (by omega)) ((ev_I (ev_mulR (ev_mulR (ev_v rfl) (ev_v rfl) (by omega) (by omega)) (ev_ixT (n := 1) (d := .int (a : Int)) (ev_d rfl rd) ev_c rfl) (by omega) (by omega)) (ev_ixT (n := 2) (d := .int (b : Int)) (ev_d rfl rd) ev_c rfl) (cdn k3 (by omega)))) mono_is fun z1 z2 H7 s9 g1 g2 => ?_
      subst g1 g2
      refine ⟨((((((s3.trans s4).trans s5).trans s6).trans s7).trans s8).trans s9), some x, some (.int (whole1 b u wy : Int)), some (.int (own1 a b u wy : Int)), some (.int ((own1 a b u wy / Nat.gcd f.2 (own1 a b u wy) : Nat) : Int)), ?_⟩
      rw [e2, per1_eq]
      have e9 : ((f.2 : Int) * ((own1 a b u wy / Nat.gcd f.2 (own1 a b u wy) : Nat) : Int) * (a : Int)).fdiv (b : Int) = ((f.2 * (own1 a b u wy / Nat.gcd f.2 (own1 a b u wy)) * a / b : Nat) : Int) := by
        rw [← Int.natCast_mul, ← Int.natCast_mul, fdiv_nat]
      rw [e9, ← Int.natCast_mul]
      rfl
  · rintro σ' H' ⟨s3, y1, y2, y3, y4, rfl⟩
    rw [List.length_map, List.take_length]
    exact s_retv (ev_v rfl) fun H5 s5 => h2 _ H5 (((s1.trans s2).trans s3).trans s5) rfl
end
end LC
end
section
set_option Elab.async false
set_option linter.all false
set_option maxRecDepth 100000
set_option maxHeartbeats 2000000
/-! texts, equality of data -/
namespace LC
open PySem PySem.Spec L2
/-! ### equality -/
def D.lay (d : D) : Bool := d.py.canLay0
theorem shaped_of {d : D} {n : Nat} (h : d.py.canLay0 = true) (h2 : d.py.depth ≤ n) (h3 : n ≤ 64) : SeqAt.shaped d.py = true := by
  unfold SeqAt.shaped
  rw [h, decide_eq_true (Nat.le_trans h2 h3)]; rfl
theorem pys_map {α : Type} (f : α → D) : ∀ (l : List α), D.pys (l.map f) = l.map fun a => (f a).py
  | [] => rfl
  | a :: l => by show (f a).py :: D.pys (l.map f) = _; rw [pys_map f l]; rfl
theorem lays_map {α : Type} (f : α → D) : ∀ (l : List α), (∀ a, a ∈ l → (f a).py.canLay0 = true) → PyData.canLayAll0 (D.pys (l.map f)) = true
  | [], _ => rfl
  | a :: l, h => by
    show ((f a).py.canLay0 && PyData.canLayAll0 (D.pys (l.map f))) = true
    rw [h a (List.mem_cons_self ..), lays_map f l fun b hb => h b (List.mem_cons_of_mem _ hb)]; rfl
theorem deps_map {α : Type} (f : α → D) (n : Nat) : ∀ (l : List α), (∀ a, a ∈ l → (f a).py.depth ≤ n) → PyData.depthAll (D.pys (l.map f)) ≤ n
  | [], _ => Nat.zero_le _
  | a :: l, h => by
    show max (f a).py.depth (PyData.depthAll (D.pys (l.map f))) ≤ n
    exact Nat.max_le.mpr ⟨h a (List.mem_cons_self ..), deps_map f n l fun b hb => h b (List.mem_cons_of_mem _ hb)⟩
theorem plains_map {α : Type} (f : α → D) : ∀ (l : List α), (∀ a, a ∈ l → (f a).plain = true) → D.plains (l.map f) = true
  | [], _ => rfl
  | a :: l, h => by
    show ((f a).plain && D.plains (l.map f)) = true
    rw [h a (List.mem_cons_self ..), plains_map f l fun b hb => h b (List.mem_cons_of_mem _ hb)]; rfl
structure Shp (d : D) (n : Nat) : Prop where
  plain : d.plain = true
  lay : d.py.canLay0 = true
  deep : d.py.depth ≤ n
theorem Shp.tup {α : Type} {f : α → D} {l : List α} {n : Nat} (h : ∀ a, a ∈ l → Shp (f a) n) : Shp (.tup (l.map f)) (n + 1) :=
  ⟨plains_map f l fun a ha => (h a ha).plain, by show (PyData.tuple (D.pys (l.map f))).canLay0 = true; simp only [PyData.canLay0]; exact lays_map f l fun a ha => (h a ha).lay, by show (PyData.tuple (D.pys (l.map f))).depth ≤ _; simp only [PyData.depth]; exact Nat.succ_le_succ (deps_map f n l fun a ha => (h a ha).deep)⟩
theorem Shp.lst {α : Type} {f : α → D} {l : List α} {n : Nat} (h : ∀ a, a ∈ l → Shp (f a) n) : Shp (.lst (l.map f)) (n + 1) :=
  ⟨plains_map f l fun a ha => (h a ha).plain, by show (PyData.list (D.pys (l.map f))).canLay0 = true; simp only [PyData.canLay0]; exact lays_map f l fun a ha => (h a ha).lay, by show (PyData.list (D.pys (l.map f))).depth ≤ _; simp only [PyData.depth]; exact Nat.succ_le_succ (deps_map f n l fun a ha => (h a ha).deep)⟩
theorem Shp.mono {d : D} {n m : Nat} (h : Shp d n) (k : n ≤ m) : Shp d m := ⟨h.plain, h.lay, Nat.le_trans h.deep k⟩
theorem Shp.int (i : Int) : Shp (.int i) 0 := ⟨rfl, by show (PyData.int i).canLay0 = true; simp only [PyData.canLay0], by show (PyData.int i).depth ≤ 0; simp only [PyData.depth]; exact Nat.le_refl _⟩
theorem Shp.str {z : Str} (h : PySem.PyData.strOk z = true) : Shp (.str z) 0 := ⟨rfl, by show (PyData.str z).canLay0 = true; simp only [PyData.canLay0]; exact h, by show (PyData.str z).depth ≤ 0; simp only [PyData.depth]; exact Nat.le_refl _⟩
theorem Shp.shaped {d : D} {n : Nat} (h : Shp d n) (k : n ≤ 64) : SeqAt.shaped d.py = true := shaped_of h.lay h.deep k
section
variable {K : PySem.W.Frag} {σ : St} {H : Hp} {ta tb te : TE} {d e : D} {n m : Nat} {b : Bool}
theorem ev_neD (ha : Ev ta σ H (Dt K d)) (hb : Ev tb σ H (Dt K e)) (h1 : Shp d n) (h2 : Shp e m) (k1 : n ≤ 64) (k2 : m ≤ 64) (eb : (!PyData.eqv d.py e.py) = b) : Ev (tOp (rNeD K) ta tb) σ H (Is (.bl b)) :=
  ev_op ha hb mono_dt fun x y H1 _ r1 r2 Q q => ⟨_, _, Rep.dp h1.plain r1, Rep.dp h2.plain r2, h1.shaped k1, h2.shaped k2, by rw [eb]; exact q _ H1 (Same.refl _) rfl⟩
theorem ev_eqD (ha : Ev ta σ H (Dt K d)) (hb : Ev tb σ H (Dt K e)) (h1 : Shp d n) (h2 : Shp e m) (k1 : n ≤ 64) (k2 : m ≤ 64) (eb : PyData.eqv d.py e.py = b) : Ev (tOp (rEqD K) ta tb) σ H (Is (.bl b)) :=
  ev_op ha hb mono_dt fun x y H1 _ r1 r2 Q q => ⟨_, _, Rep.dp h1.plain r1, Rep.dp h2.plain r2, h1.shaped k1, h2.shaped k2, by rw [eb]; exact q _ H1 (Same.refl _) rfl⟩
end
theorem eqv_tnil {α : Type} (f : α → D) (l : List α) : PyData.eqv (D.tup (l.map f)).py (D.tup []).py = l.isEmpty := by
  cases l with
  | nil => show PyData.eqv (.tuple []) (.tuple []) = true; simp [PyData.eqv, PyData.eqvAll]
  | cons a l => show PyData.eqv (.tuple ((f a).py :: D.pys (l.map f))) (.tuple []) = false; simp [PyData.eqv, PyData.eqvAll]
theorem eqv_lnil {α : Type} (f : α → D) (l : List α) : PyData.eqv (D.lst (l.map f)).py (D.lst []).py = l.isEmpty := by
  cases l with
  | nil => show PyData.eqv (.list []) (.list []) = true; simp [PyData.eqv, PyData.eqvAll]
  | cons a l => show PyData.eqv (.list ((f a).py :: D.pys (l.map f))) (.list []) = false; simp [PyData.eqv, PyData.eqvAll]
theorem shp_nil : Shp (.tup []) 1 := Shp.tup (α := Nat) (f := fun _ => .non) (l := []) (n := 0) fun a ha => absurd ha (List.not_mem_nil)
theorem shp_lnil : Shp (.lst []) 1 := Shp.lst (α := Nat) (f := fun _ => .non) (l := []) (n := 0) fun a ha => absurd ha (List.not_mem_nil)
/-! ### texts of bounded length -/
abbrev TxB (n : Nat) : PV := fun v _ => ∃ z : Str, v = .str z ∧ z.length ≤ n
theorem mono_tx {n : Nat} : Mono (TxB n) := fun _ _ _ _ h => h
theorem int_len0 : ∀ i : Fin 2001, (Str.ofString (toString ((i.val : Int) - 1000))).length ≤ 5 := by decide +kernel
theorem int_len {i : Int} (h1 : -1000 ≤ i) (h2 : i ≤ 1000) : (Str.ofString (toString i)).length ≤ 5 := by
  have h := int_len0 ⟨(i + 1000).toNat, by omega⟩
  have e : (((i + 1000).toNat : Nat) : Int) - 1000 = i := by omega
  simpa only [e] using h
section
variable {K : PySem.W.Frag} {σ : St} {H : Hp} {te ta tb : TE} {n m : Nat}
theorem ev_txc {z : Str} (h : z.length ≤ n) : Ev (tC (.str z)) σ H (TxB n) := ev_c.imp fun v _ _ e => ⟨z, e, h⟩
theorem ev_fmtS {z : Str} (h : Ev te σ H (Is (.str z))) (k : z.length ≤ n) (kn : n ≤ 100000) : Ev (tFmt te) σ H (TxB n) := fun H1 s Q q => h H1 s _ fun v H2 s2 e => .inl ⟨z, e, sz (Nat.le_trans k kn), q _ H2 s2 ⟨z, rfl, k⟩⟩
theorem ev_fmtI {i : Int} (h : Ev te σ H (Is (.int i))) (h1 : -1000 ≤ i) (h2 : i ≤ 1000) : Ev (tFmt te) σ H (TxB 5) := fun H1 s Q q => h H1 s _ fun v H2 s2 e => .inr ⟨i, e, by
  have : i.natAbs ≤ 1000 := by omega
  rcases Nat.eq_zero_or_pos i.natAbs with z | z
  · rw [z]; decide
  · exact Nat.lt_of_lt_of_le ((Nat.log2_lt (by omega)).mpr (Nat.lt_of_le_of_lt this (by decide : 1000 < 2 ^ 10))) (by decide), q _ H2 s2 ⟨_, rfl, int_len h1 h2⟩⟩
inductive JsOk (σ : St) (H : Hp) : List TE → Nat → Prop where
  | nil : JsOk σ H [] 0
  | cons {t : TE} {ts : List TE} {n m : Nat} (h : Ev t σ H (TxB n)) (r : JsOk σ H ts m) : JsOk σ H (t :: ts) (n + m)
theorem str_app (x y : Str) : (x ++ y).length = x.length + y.length := Str.length_append x y
theorem js_run {ts : List TE} {m : Nat} (h : JsOk σ H ts m) : ∀ (acc : Str) (H1 : Hp), Same H H1 → acc.length + m ≤ 100000 → ∀ Q : Str → Hp → Prop, (∀ out H2, Same H1 H2 → out.length ≤ acc.length + m → Q out H2) → tJs ts acc σ H1 Q := by
  induction h with
  | nil => intro acc H1 s hz Q q; exact q acc H1 (Same.refl _) (Nat.le_refl _)
  | @cons t ts n m h r ih =>
    intro acc H1 s hz Q q
    refine h H1 s _ fun v H2 s2 ⟨z, e, hl⟩ => ⟨z, e, sz (by rw [str_app]; omega), ih (acc ++ z) H2 (s.trans s2) (by rw [str_app]; omega) Q fun out H3 s3 ho => q out H3 (s2.trans s3) (by rw [str_app] at ho; omega)⟩
theorem ev_js {ts : List TE} (h : JsOk σ H ts m) (hm : m ≤ 100000) : Ev (fun σ H Q => tJs ts Str.empty σ H fun out H1 => Q (.str out) H1) σ H (TxB m) := fun H1 s Q q =>
  js_run h Str.empty H1 s (by show 0 + m ≤ _; omega) _ fun out H2 s2 ho => q _ H2 s2 ⟨out, rfl, by have : Str.empty.length = 0 := rfl; omega⟩
theorem ev_addS (h1 : Ev ta σ H (TxB n)) (h2 : Ev tb σ H (TxB m)) (hz : n + m ≤ 100000) : Ev (tOp (fun x y H Q => ∃ i j, x = .str i ∧ y = .str j ∧ i.length + j.length ≤ sizeLine ∧ Q (.str (i ++ j)) H) ta tb) σ H (TxB (n + m)) :=
  ev_op h1 h2 mono_tx fun x y H1 _ ⟨z, e1, k1⟩ ⟨u, e2, k2⟩ Q q => ⟨z, u, e1, e2, sz (by omega), q _ H1 (Same.refl _) ⟨_, rfl, by rw [str_app]; omega⟩⟩
end
section
variable {P : Program} {w : World} {K : PySem.W.Frag} {mg : Str → Option Value} {base : Heap}
theorem way_len {wy : Str} (h : wy ∈ wayNames) : wy.length ≤ 9 := by
  have : wy = "down" ∨ wy = "up" ∨ wy = "near down" ∨ wy = "near up" ∨ wy = "near even" := by
    have k5 : wy ∈ [("down" : Str), "up", "near down", "near up", "near even"] := h
    simpa using k5
  rcases this with z | z | z | z | z <;> (rw [z]; decide +kernel)
abbrev spTextOfStep (K : PySem.W.Frag) : Sp := spF K (fun s : Stp => [s.d]) Stp.ok fun _ => TxB 40
-- step 0
theorem sc_text_of_step : FnScope ["step"] ["step"] (defScope (top 49)) := ⟨rfl, rfl, rfl, by decide +kernel, rfl, by decide +kernel, by decide +kernel⟩
theorem ok_text_of_step (E : Env P w K mg base)  : Okf P w K mg base 1 "text_of_step" ["step"] (spTextOfStep K) :=
  okf_mk E 16 16 rfl rfl sc_text_of_step (fun _ _ _ _ _ _ us hl => match us, hl with | [_], _ => rfl) (spF_len fun _ => rfl) fun cdv A outer s H vs Q E0 hr h => by
  obtain ⟨st, h1, hk, h2⟩ := h
  obtain ⟨v, rfl, r⟩ := one_of h1
  have nd := sc_text_of_step.nd
  refine ⟨_, (pss_cons (ps_if (pt_cmpR op_eq (kIxT (K := K) rfl (pv 0) pe_int) pe_str (nomark _)) (pss_one (ps_ret (pe_joined (PJ.cons pe_str (PJ.cons (pe_fmt (kIxT (K := K) rfl (pv 0) pe_int)) PJ.nil))))) pss_nil)
      (pss_one (ps_ret (pe_joined (PJ.cons pe_str (PJ.cons (pe_fmt (kIxT (K := K) rfl (pv 0) pe_int)) (PJ.cons pe_str (PJ.cons (pe_fmt (kIxT (K := K) rfl (pv 0) pe_int)) (PJ.cons pe_str (PJ.cons (pe_fmt (kIxT (K := K) rfl (pv 0) pe_int)) (PJ.cons pe_str (PJ.cons (pe_fmt (kIxT (K := K) rfl (pv 0) pe_int)) PJ.nil)))))))))))), ?_⟩
  have up : ∀ n, n ≤ 40 → ∀ v H1, TxB n v H1 → TxB 40 v H1 := fun n hn v H1 ⟨z, e, k⟩ => ⟨z, e, Nat.le_trans k hn⟩
  cases st with
  | plus c =>
    have hk : -1000 ≤ c ∧ c ≤ 1000 := hk
    have r : Rep K H (.tup [.str "plus", .int c]) v := r
    refine q_if (b := true) (et_t (ev_eqB (ev_ixT (n := 0) (d := .str "plus") (ev_d rfl r) ev_c rfl) ev_c rfl rfl)) (fun _ H2 s2 => ?_) (fun z => nomatch z)
    have r := Rep.same s2 r
    exact s_ret (ev_js (.cons (n := 5) (ev_txc (by decide)) (.cons (ev_fmtI (ev_ixT (n := 1) (d := .int c) (ev_d rfl r) ev_c rfl) hk.1 hk.2) .nil)) (by decide)) fun v H3 s3 p => h2 v H3 (s2.trans s3) (up _ (by decide) _ _ p)
  | times a b wy u =>
    obtain ⟨k1, k2, k3, k4, k5, k6, k7⟩ := (show 1 ≤ a ∧ a ≤ 5 ∧ 1 ≤ b ∧ b ≤ 5 ∧ wy ∈ wayNames ∧ 1 ≤ u ∧ u ≤ 3 from hk)
    have r : Rep K H (.tup [.str "times", .int (a : Int), .int (b : Int), .str wy, .int (u : Int)]) v := r
    refine q_skip (et_t (ev_eqB (ev_ixT (n := 0) (d := .str "times") (ev_d rfl r) ev_c rfl) ev_c rfl rfl)) fun H2 s2 => ?_
    have r := Rep.same s2 r
    exact s_ret (ev_js (.cons (n := 6) (ev_txc (by decide)) (.cons (ev_fmtI (ev_ixT (n := 1) (d := .int (a : Int)) (ev_d rfl r) ev_c rfl) (by omega) (by omega)) (.cons (n := 1) (ev_txc (by decide)) (.cons (ev_fmtI (ev_ixT (n := 2) (d := .int (b : Int)) (ev_d rfl r) ev_c rfl) (by omega) (by omega))
      (.cons (n := 1) (ev_txc (by decide)) (.cons (n := 9) (ev_fmtS (ev_ixT (n := 3) (d := .str wy) (ev_d rfl r) ev_c rfl) (way_len k5) (by decide)) (.cons (n := 4) (ev_txc (by decide)) (.cons (ev_fmtI (ev_ixT (n := 4) (d := .int (u : Int)) (ev_d rfl r) ev_c rfl) (by omega) (by omega)) .nil)))))))) (by decide)) fun v H3 s3 p => h2 v H3 (s2.trans s3) (up _ (by decide) _ _ p)
end
end LC
end
section
set_option Elab.async false
set_option linter.all false
set_option maxRecDepth 100000
set_option maxHeartbeats 2000000
/-! texts of rows, names -/
namespace LC
open PySem PySem.Spec L2
/-- the new list of a comprehension of texts -/
abbrev TxL (K : PySem.W.Frag) (H : Hp) (k n : Nat) : PV := fun v H2 => ∃ (p : Addr) (zs : List Str), v = .ref p ∧ H p = none ∧ H2 p = some (.lst (zs.map V.str)) ∧ zs.length = k ∧ ∀ z, z ∈ zs → z.length ≤ n
section
variable {K : PySem.W.Frag} {σ : St} {H : Hp} {te ta : TE} {tr : TA} {wi : TI} {B : Hp → (Hp → Prop) → Prop} {g : TG} {vs : List Nat} {ds : List D} {n : Nat}
theorem ev_lcTx (h : IT K wi σ H ds B) (hl : ds.length ≤ 50000)
    (hb : ∀ (i : Nat) d x H1, ds[i]? = some d → Same H H1 → Rep K H1 d x → g x (wipe σ vs) H1 fun σ2 H2 => Same H1 H2 ∧ wipe σ2 vs = wipe σ vs ∧ Ev te σ2 H2 (TxB n))
    (gm : ∀ x σ H (Q Q' : St → Hp → Prop), (∀ σ2 H2, Q σ2 H2 → Q' σ2 H2) → g x σ H Q → g x σ H Q') : Ev (tLc wi g tYes te vs) σ H (TxL K H ds.length n) := fun H0 e0 Q q =>
  h H0 e0 _ fun J H2 G e1 e2 hB w Dl hD => by
    have fr : H Dl = none := fresh_back (e0.trans e1) hD
    refine lc_it w (fun i H' => Same H2 H' ∧ ∃ zs : List Str, H' Dl = some (.lst (zs.map V.str)) ∧ zs.length = i ∧ ∀ z, z ∈ zs → z.length ≤ n) ⟨same_new hD, [], upd_same, rfl, fun z hz => absurd hz (List.not_mem_nil)⟩ (fun i H' _ p => e2 H' p.1) (fun i x H' H'' hi p y => ?_) (fun H' p => ?_)
    · obtain ⟨s2, zs, hx, hn, ht⟩ := p
      obtain ⟨y1, d, y2, y3⟩ := y
      refine gm _ _ _ _ _ (fun σ2 H3 hh => ?_) (hb i d x H'' y2 (((e0.trans e1).trans s2).trans y1) y3)
      obtain ⟨s3, hw, h1⟩ := hh
      refine ⟨hw, et_yes (H := H3) H3 (Same.refl _) _ fun H4 s4 => ?_⟩
      refine h1 H4 s4 _ fun y H5 s5 ⟨z, e, hz⟩ => ?_
      have s25 : Same H2 H5 := (((s2.trans y1).trans s3).trans s4).trans s5
      have hx5 : H5 Dl = some (.lst (zs.map V.str)) := s5 _ _ (s4 _ _ (s3 _ _ (y1 _ _ hx)))
      refine ⟨zs.map V.str, hx5, szl (by rw [List.length_map]; omega), same_mut s25 hD, zs ++ [z], ?_, by rw [List.length_append, hn]; rfl, fun u hu => ?_⟩
      · rw [upd_same, e, List.map_append]; rfl
      · rcases List.mem_append.mp hu with k | k
        · exact ht u k
        · rw [List.mem_singleton.mp k]; exact hz
    · obtain ⟨s2, zs, hx, hn, ht⟩ := p
      exact q _ _ (e1.trans s2) ⟨Dl, zs, rfl, fr, hx, hn, ht⟩
theorem gm_name {i : Nat} : ∀ x σ H (Q Q' : St → Hp → Prop), (∀ σ2 H2, Q σ2 H2 → Q' σ2 H2) → gName i x σ H Q → gName i x σ H Q' := fun _ _ _ _ _ k z => k _ _ z
theorem gm_tup2 {i j : Nat} : ∀ x σ H (Q Q' : St → Hp → Prop), (∀ σ2 H2, Q σ2 H2 → Q' σ2 H2) → gTup K 2 (gCons (gName i) (gCons (gName j) gNil)) x σ H Q → gTup K 2 (gCons (gName i) (gCons (gName j) gNil)) x σ H Q' := fun _ _ _ _ _ k ⟨a, xs, h1, h2, h3, v, r, e1, w, r2, e2, e3, z⟩ => ⟨a, xs, h1, h2, h3, v, r, e1, w, r2, e2, e3, k _ _ z⟩
theorem gm_tup3 {i j m : Nat} : ∀ x σ H (Q Q' : St → Hp → Prop), (∀ σ2 H2, Q σ2 H2 → Q' σ2 H2) → gTup K 3 (gCons (gName i) (gCons (gName j) (gCons (gName m) gNil))) x σ H Q → gTup K 3 (gCons (gName i) (gCons (gName j) (gCons (gName m) gNil))) x σ H Q' := fun _ _ _ _ _ k ⟨a, xs, h1, h2, h3, v, r, e1, w, r2, e2, u, r3, e3, e4, z⟩ => ⟨a, xs, h1, h2, h3, v, r, e1, w, r2, e2, u, r3, e3, e4, k _ _ z⟩
theorem sum_le : ∀ (zs : List Str) (n : Nat), (∀ z, z ∈ zs → z.length ≤ n) → (zs.map (·.length)).sum ≤ zs.length * n
  | [], _, _ => Nat.zero_le _
  | z :: zs, n, h => by
    have h1 := sum_le zs n fun u hu => h u (List.mem_cons_of_mem _ hu)
    have h2 := h z (List.mem_cons_self ..)
    rw [List.map_cons, List.sum_cons, List.length_cons, Nat.succ_mul]
    omega
/-- sep.join(texts) -/
theorem ev_join {sep : Str} {R : List V → Hp → Prop} {k : Nat} (h : Ev ta σ H (Is (.str sep))) (ha : EA tr σ H (fun vs H1 => ∃ v, vs = [v] ∧ TxL K H k n v H1)) (hz : k * n + k * sep.length ≤ 100000) : Ev (tBM K "str" (rJoinS K) ta tr) σ H (TxB (k * n + k * sep.length)) := fun H1 s Q q =>
  h H1 s _ fun v H2 s2 e => by
    subst e
    refine ⟨rfl, ha H2 (s.trans s2) _ fun vs H3 s3 ⟨v, e, p, zs, e2, _, hp, hk, hn⟩ => ?_⟩
    have h1 := sum_le zs n hn
    rw [hk] at h1
    refine ⟨sep, p, zs, rfl, by rw [e, e2], .inl (SqL.of hp), by rw [hk]; omega, q _ H3 (s2.trans s3) ⟨_, rfl, ?_⟩⟩
    have h2 := StrLaws.join_length_le sep zs
    show (Builtin.Str.glued sep zs).length ≤ _
    rw [StrLaws.glued_eq_join, ← hk]
    rw [hk] at h2 ⊢
    omega
end
section
variable {P : Program} {w : World} {K : PySem.W.Frag} {mg : Str → Option Value} {base : Heap}
theorem shp_step {s : Stp} (h : s.ok) : Shp s.d 1 := by
  cases s with
  | plus c =>
    refine Shp.tup (f := id) (l := [.str "plus", .int c]) fun a ha => ?_
    have : a = .str "plus" ∨ a = .int c := by simpa using ha
    rcases this with e | e <;> rw [e]
    · exact Shp.str (by decide +kernel)
    · exact Shp.int c
  | times a b wy u =>
    obtain ⟨k1, k2, k3, k4, k5, k6, k7⟩ := (show 1 ≤ a ∧ a ≤ 5 ∧ 1 ≤ b ∧ b ≤ 5 ∧ wy ∈ wayNames ∧ 1 ≤ u ∧ u ≤ 3 from h)
    have hw : PySem.PyData.strOk wy = true := by
      have : wy = "down" ∨ wy = "up" ∨ wy = "near down" ∨ wy = "near up" ∨ wy = "near even" := by
        have k5 : wy ∈ [("down" : Str), "up", "near down", "near up", "near even"] := k5
        simpa using k5
      rcases this with z | z | z | z | z <;> (rw [z]; decide +kernel)
    refine Shp.tup (f := id) (l := [.str "times", .int (a : Int), .int (b : Int), .str wy, .int (u : Int)]) fun x hx => ?_
    have : x = .str "times" ∨ x = .int (a : Int) ∨ x = .int (b : Int) ∨ x = .str wy ∨ x = .int (u : Int) := by simpa using hx
    rcases this with e | e | e | e | e <;> rw [e]
    · exact Shp.str (by decide +kernel)
    · exact Shp.int _
    · exact Shp.int _
    · exact Shp.str hw
    · exact Shp.int _
theorem shp_steps {l : List Stp} {n : Nat} (h : OkS n l) : Shp (stD l) 2 := Shp.tup fun a ha => shp_step (h.2 a ha)
abbrev spTextOfSteps (K : PySem.W.Frag) : Sp := spF K (fun l : List Stp => [stD l]) (OkS 2) fun _ => TxB 100
-- steps 0 step 1
theorem sc_text_of_steps : FnScope ["steps", "step"] ["steps"] (defScope (top 50)) := ⟨rfl, rfl, rfl, by decide +kernel, rfl, by decide +kernel, by decide +kernel⟩
theorem ok_text_of_steps (E : Env P w K mg base) (o_text_of_step : Okf P w K mg base 1 "text_of_step" ["step"] (spTextOfStep K)) : Okf P w K mg base 2 "text_of_steps" ["steps"] (spTextOfSteps K) :=
  okf_mk E 17 17 rfl rfl sc_text_of_steps (fun _ _ _ _ _ _ us hl => match us, hl with | [_], _ => rfl) (spF_len fun _ => rfl) fun cdv A outer s H vs Q E0 hr h => by
  obtain ⟨l, h1, hk, h2⟩ := h
  obtain ⟨v, rfl, r⟩ := one_of h1
  have nd := sc_text_of_steps.nd
  refine ⟨_, (pss_one (ps_ret (pe_ifExp (kNeDT (K := K) rfl hr.units (pv 0) (pe_tup pa_nil)) (pe_op op_add_str pe_str (kJoin (K := K) rfl pe_str (pa_cons (pe_lc (own := [("step", 1)]) (g := gName 1) (tt := tYes)  rfl nd (kITup (K := K) rfl (pv 0)) (blkOk_by (N := ["steps", "step"]) (sc := defScope (top 50)) (by decide +kernel)) (fun _ _ _ _ _ => (pg_name (i := 1) nd rfl (.inl rfl))) (fun _ _ _ _ _ => pts_nil) (fun _ _ _ _ _ => (pe_okf o_text_of_step (hr.mono (by decide)) (pa_cons (pv 1) pa_nil)))) pa_nil))) pe_str))), ?_⟩
  have fin : ∀ n, n ≤ 100 → ∀ v H1, TxB n v H1 → TxB 100 v H1 := fun n hn v H1 ⟨z, e, k⟩ => ⟨z, e, Nat.le_trans k hn⟩
  refine s_ret (ev_if (et_t (ev_neD (ev_d rfl r) (ev_tup (K := K) (l := []) da_nil (by decide)) (shp_steps hk) shp_nil (by decide) (by decide) rfl)) (fun _ => ?_) (fun _ => ev_txc (by decide))) h2
  have hl := hk.1
  refine (ev_addS (n := 2) (ev_txc (by decide)) (ev_join (K := K) (n := 40) (k := l.length) (R := fun _ _ => True) ev_c (fun H1 s Q q => ?_) ?_) ?_).imp fun v H1 _ p => fin _ ?_ v H1 p
  · refine ev_lcTx (K := K) (n := 40) (it_tup (ds := l.map Stp.d) (ev_d rfl r) (stD_tups l)) (by rw [List.length_map]; omega) (fun i d x H1 hd s rd => ?_) gm_name H1 s _ fun v H2 s2 p => q _ H2 s2 ⟨v, rfl, by rw [List.length_map] at p; exact p⟩
    obtain ⟨st, e1, rfl⟩ := map_at hd
    exact ⟨Same.refl _, rfl, ev_fn st (da_cons (ev_d rfl rd) da_nil) (hk.2 st (List.mem_of_getElem? e1))⟩
  all_goals
    have e2 : (Str.ofString ", ").length = 2 := by decide +kernel
    rw [e2]
    omega
/-! ### is_name -/
def lawNames : List Str := ["a", "tea", "x9", "kind", "b", "group"]
theorem it_str {σ : St} {H : Hp} {te : TE} {z : Str} (h : Ev te σ H (Is (.str z))) : IT K (iStr te) σ H (z.cps.toList.map fun c => .str ⟨#[c]⟩) BX := fun H1 e R q =>
  h H1 e _ fun v H2 e2 p => ⟨z, p, q _ H2 (fun _ => True) e2 (fun _ _ => trivial) (fun _ => trivial) (by
    have w := walk_str (z := z)
    rw [List.length_map, Array.length_toList]
    refine w.mono (fun _ h => h) fun i H x H' hi _ y => ?_
    obtain ⟨rfl, c, e3, e4⟩ := y
    refine ⟨Same.refl _, .str ⟨#[c]⟩, ?_, e4⟩
    rw [List.getElem?_map, Array.getElem?_toList, e3]; rfl)⟩
abbrev spIsName (K : PySem.W.Frag) : Sp := spF K (fun z : Str => [.str z]) (fun z => z ∈ lawNames) fun _ => Is (.bl true)
def signOk (z : Str) : Bool := z.cps.toList.all fun c => decide (c ∈ ("abcdefghijklmnopqrstuvwxyz" : Str).cps.toList) || decide (c ∈ ("0123456789" : Str).cps.toList)
theorem lawNames_ok : (lawNames.all fun z => signOk z && (decide (z.length ≤ 8) && (decide (1 ≤ z.length) && (match atI z.cps.toList 0 with
  | some c => (!(!(Builtin.Str.occurrences ("abcdefghijklmnopqrstuvwxyz" : Str) ⟨#[c]⟩ 0 ("abcdefghijklmnopqrstuvwxyz" : Str).length 1).isEmpty)) == false
  | none => false)))) = true := by decide +kernel
-- value 0 sign 1
theorem sc_is_name : FnScope ["value", "sign"] ["value"] (defScope (top 31)) := ⟨rfl, rfl, rfl, by decide +kernel, rfl, by decide +kernel, by decide +kernel⟩
theorem ok_is_name (E : Env P w K mg base)  : Okf P w K mg base 1 "is_name" ["value"] (spIsName K) :=
  okf_mk E 3 3 rfl rfl sc_is_name (fun _ _ _ _ _ _ us hl => match us, hl with | [_], _ => rfl) (spF_len fun _ => rfl) fun cdv A outer s H vs Q E0 hr h => by
  obtain ⟨z, h1, hk, h2⟩ := h
  obtain ⟨_, rfl, rfl⟩ := one_of h1
  have nd := sc_is_name.nd
  refine ⟨_, (pss_cons (ps_if (PW.pt (pw_or (pt_not (pt_val (kB (K := K) (r := fun _ _ _ => True) (r' := rIsi) rfl call_isi (E.free 62) (by decide +kernel) (pa_cons (pv 0) (pa_cons (kBTy (n := "str") (E.free 65) (by decide +kernel)) pa_nil))))) (pw_or (pt_not (pt_chain op_le op_le pe_int (kLen (K := K) rfl (E.free 61) (pa_cons (pv 0) pa_nil)) (kGInt (E.int 85)))) (pw_or1 (pt_cmpR op_notIn_str (kIxS (pv 0) pe_int) (kGStr (E.str 90)) (by rfl)))))) (pss_one (ps_ret pe_bl)) pss_nil)
      (pss_one (ps_ret (kB (K := K) (r := fun _ _ _ => True) (r' := rAll) rfl (cr_all rfl) (E.free 67) (by decide +kernel) (pa_cons (pe_lc (own := [("sign", 1)]) (g := gName 1) (tt := tYes)  rfl nd (kIStr (pv 0)) (blkOk_by (N := ["value", "sign"]) (sc := defScope (top 31)) (by decide +kernel)) (fun _ _ _ _ _ => (pg_name (i := 1) nd rfl (.inl rfl))) (fun _ _ _ _ _ => pts_nil) (fun _ _ _ _ _ => (pe_or (pe_cmpR op_in_sign (pv 1) (kGStr (E.str 90)) (by rfl)) (pe_one (pe_cmpR op_in_sign (pv 1) (kGStr (E.str 89)) (by rfl)))))) pa_nil))))), ?_⟩
  have q := List.all_eq_true.mp lawNames_ok z hk
  obtain ⟨q1, q⟩ := Bool.and_eq_true_iff.mp q
  obtain ⟨q2, q⟩ := Bool.and_eq_true_iff.mp q
  obtain ⟨q3, q4⟩ := Bool.and_eq_true_iff.mp q
  have q2 := of_decide_eq_true q2
  have q3 := of_decide_eq_true q3
  have len : Ev (tCB (fun xs H Q => ∃ x n, xs = [x] ∧ LenV K x H n ∧ Q (.int n) H) (tCons (tVar 0) tNil)) [some (.str z), none] H (Is (.int (z.length : Int))) := ev_lenS (da_cons (ev_v rfl) da_nil) (by omega)
  refine q_skip (et_or (b := false) (c := false) (et_not (b := true) (et_B (ev_isiV (t := "str") (ev_v rfl) (fun _ _ => .base (.str _)) (by decide +kernel)))) fun _ => et_or (b := false) (c := false) (et_not (b := true) ((et_t (ev_chain (b := true) (c := true) ev_c len ev_c (fun H1 Q q => ⟨_, _, rfl, rfl, ?_⟩) (fun H1 Q q => ⟨_, _, rfl, rfl, ?_⟩))))) fun _ => ?_) fun H1 s1 => ?_
  · show Q (V.bl (decide ((1 : Int) ≤ (z.length : Int)))) H1
    rw [decide_eq_true (by omega)]; exact q
  · show Q (V.bl (decide ((z.length : Int) ≤ 8))) H1
    rw [decide_eq_true (by omega)]; exact q
  · cases e : atI z.cps.toList 0 with
    | none => rw [e] at q4; cases q4
    | some c =>
      rw [e] at q4
      refine et_t (ev_op (P1 := Is (.str ⟨#[c]⟩)) (P2 := Is (.str "abcdefghijklmnopqrstuvwxyz")) (ev_op (ev_v rfl) ev_c mono_is fun x y H1 _ e1 e2 Q q => ⟨z, 0, c, e1, e2, sz (by omega), e, q _ H1 (Same.refl _) rfl⟩) ev_c mono_is fun x y H1 _ e1 e2 Q q => ⟨_, _, e1, e2, q _ H1 (Same.refl _) ?_⟩)
      exact congrArg V.bl (eq_of_beq q4)
  · refine s_ret ((ev_all (K := K) (bs := z.cps.toList.map fun c => decide (c ∈ ("abcdefghijklmnopqrstuvwxyz" : Str).cps.toList) || decide (c ∈ ("0123456789" : Str).cps.toList)) (da_cons (NewL.dt ?_) da_nil)).is ?_) fun v H2 s2 p => h2 v H2 (s1.trans s2) p
    · rw [List.map_map]
      refine ev_lc1 (fun c => .str ⟨#[c]⟩) _ (it_str (ev_v rfl)) (by rw [Array.length_toList]; show z.length ≤ 50000; omega) (fun _ => rfl) (fun _ _ => rfl) fun c x H3 _ _ rc => ?_
      have rc : x = .str ⟨#[c]⟩ := rc
      subst rc
      exact ev_orV (ev_op (ev_v rfl) ev_c mono_is fun x y H1 _ e1 e2 Q q => ⟨c, _, e1, e2, q _ H1 (Same.refl _) rfl⟩) fun _ => ev_op (ev_v rfl) ev_c mono_is fun x y H1 _ e1 e2 Q q => ⟨c, _, e1, e2, q _ H1 (Same.refl _) rfl⟩
    · congr 1
      rw [List.all_map]
      exact q1
end
end LC
end
section
set_option Elab.async false
set_option linter.all false
set_option maxRecDepth 100000
set_option maxHeartbeats 1000000
/-! The mirror: books. -/
namespace LC
open PySem PySem.Spec L2
structure Bk where
  sorts : List (Str × Nat × List Stp)
  heaps : List (List Stp)
  last : List Stp
def kindD (k : Str × Nat × List Stp) : D := .tup [.str k.1, .int (k.2.1 : Int), stD k.2.2]
def sortsD (l : List (Str × Nat × List Stp)) : D := .tup (l.map kindD)
def heapsD (l : List (List Stp)) : D := .tup (l.map stD)
def kNames (l : List (Str × Nat × List Stp)) : List Str := l.map (·.1)
structure KOk (n : Nat) (k : Str × Nat × List Stp) : Prop where
  name : k.1 ∈ lawNames
  place : k.2.1 < n
  steps : OkS 2 k.2.2
structure Bk.ok (b : Bk) : Prop where
  some : b.sorts ≠ []
  few : b.sorts.length ≤ 4
  kinds : ∀ k, k ∈ b.sorts → KOk b.heaps.length k
  once : (kNames b.sorts).Nodup
  hsome : b.heaps ≠ []
  hfew : b.heaps.length ≤ 3
  heaps_ok : ∀ l, l ∈ b.heaps → OkS 2 l
  last_ok : OkS 2 b.last
theorem heapsD_tups : ∀ (l : List (List Stp)), D.tupsOnlys (l.map stD) = true
  | [] => rfl
  | a :: l => by show ((D.tup (a.map Stp.d)).tupsOnly && D.tupsOnlys (l.map stD)) = true; rw [heapsD_tups l]; show (D.tupsOnlys (a.map Stp.d) && true) = true; rw [stD_tups a]; rfl
theorem sortsD_tups : ∀ (l : List (Str × Nat × List Stp)), D.tupsOnlys (l.map kindD) = true
  | [] => rfl
  | a :: l => by
    show ((kindD a).tupsOnly && D.tupsOnlys (l.map kindD)) = true
    rw [sortsD_tups l]
    show ((true && (true && (D.tupsOnlys (a.2.2.map Stp.d) && true))) && true) = true
    rw [stD_tups]; rfl
theorem tups_strs : ∀ (l : List Str), D.tupsOnlys (l.map D.str) = true
  | [] => rfl
  | a :: l => by show (true && D.tupsOnlys (l.map D.str)) = true; rw [tups_strs l]; rfl
theorem tups_ints : ∀ (l : List Int), D.tupsOnlys (l.map D.int) = true
  | [] => rfl
  | a :: l => by show (true && D.tupsOnlys (l.map D.int)) = true; rw [tups_ints l]; rfl
theorem lawNames_str {z : Str} (h : z ∈ lawNames) : PySem.PyData.strOk z = true ∧ z.length ≤ 5 := by
  have q : (lawNames.all fun z => PySem.PyData.strOk z && decide (z.length ≤ 5)) = true := by decide +kernel
  have q := List.all_eq_true.mp q z h
  obtain ⟨q1, q2⟩ := Bool.and_eq_true_iff.mp q
  exact ⟨q1, of_decide_eq_true q2⟩
theorem shp_kind {n : Nat} {k : Str × Nat × List Stp} (h : KOk n k) : Shp (kindD k) 3 := by
  refine Shp.tup (f := id) (l := [.str k.1, .int (k.2.1 : Int), stD k.2.2]) fun x hx => ?_
  have : x = .str k.1 ∨ x = .int (k.2.1 : Int) ∨ x = stD k.2.2 := by simpa using hx
  rcases this with e | e | e <;> rw [e]
  · exact (Shp.str (lawNames_str h.name).1).mono (by decide)
  · exact (Shp.int _).mono (by decide)
  · exact shp_steps h.steps
section
variable {K : PySem.W.Frag} {σ : St} {H : Hp} {ta tb te : TE} {P : PV} {E : Ends} {t z : TS} {p : Addr} {xs : List V}
/-- xs.append(e) -/
theorem s_append (h : Ev ta σ H (Is (.ref p))) (hp : H p = some (.lst xs)) (he : Ev tb σ H P) (hl : xs.length < 100000) (k : ∀ v H1, Same H H1 → P v H1 → E.nx σ (upd H1 p (.lst (xs ++ [v])))) : tDrop (tBM K "list" rAppend ta (tCons tb tNil)) E σ H :=
  h H (Same.refl _) _ fun v H1 s1 e => ⟨by rw [e]; exact .inl ⟨rfl, xs, SqL.of (s1 _ _ hp)⟩, he H1 s1 _ fun w H2 s2 pw => ⟨p, xs, w, e, rfl, (s1.trans s2) _ _ hp, szl hl, k w H2 (s1.trans s2) pw⟩⟩
theorem q_append (h : Ev ta σ H (Is (.ref p))) (hp : H p = some (.lst xs)) (he : Ev tb σ H P) (hl : xs.length < 100000) (k : ∀ v H1, Same H H1 → P v H1 → z E σ (upd H1 p (.lst (xs ++ [v])))) : tSeq (tDrop (tBM K "list" rAppend ta (tCons tb tNil))) z E σ H := s_append (E := { E with nx := z E }) h hp he hl k
theorem inV_str {z : Str} : ∀ {zs : List Str}, inV (.str z) (zs.map V.str) = decide (z ∈ zs)
  | [] => by simp [inV]
  | a :: zs => by
    have ih := inV_str (z := z) (zs := zs)
    unfold inV at ih ⊢
    rw [List.map_cons, List.any_cons, ih]
    by_cases c : a = z
    · have e : eqV (V.str a) (V.str z) = true := by rw [c]; simp [eqV]
      rw [e, Bool.true_or, c]
      exact (decide_eq_true (List.mem_cons_self ..)).symm
    · have e : eqV (V.str a) (V.str z) = false := by simp [eqV, c]
      rw [e, Bool.false_or]
      have : (z ∈ a :: zs) ↔ z ∈ zs := ⟨fun h => (List.mem_cons.mp h).elim (fun w => absurd w.symm c) fun w => w, List.mem_cons_of_mem _⟩
      exact decide_eq_decide.mpr this.symm
/-- a text in a list, a tuple of texts -/
theorem ev_inL {z : Str} {zs : List Str} (h : Ev ta σ H (Is (.str z))) (hb : Ev tb σ H (Is (.ref p))) (hp : H p = some (.lst (zs.map V.str))) : Ev (tOp (rIn K false) ta tb) σ H (Is (.bl (decide (z ∈ zs)))) :=
  ev_op h hb mono_is fun x y H1 s e1 e2 Q q => ⟨p, zs.map V.str, e2, .inl (SqL.of (s _ _ hp)), by rw [e1]; rfl, by simp [flatV], by rw [e1]; exact q _ H1 (Same.refl _) (by rw [← inV_str]; rfl)⟩
theorem ev_inT {z : Str} {zs : List Str} (h : Ev ta σ H (Is (.str z))) (hb : Ev tb σ H (Dt K (.tup (zs.map D.str)))) : Ev (tOp (rIn K false) ta tb) σ H (Is (.bl (decide (z ∈ zs)))) :=
  ev_op h hb mono_is fun x y H1 s e1 ⟨a, xs, e2, e3, e4⟩ Q q => by
    have e4 := e4.strs_eq
    subst e4
    exact ⟨a, zs.map V.str, e2, .inr (SqT.of e3), by rw [e1]; rfl, by simp [flatV], by rw [e1]; exact q _ H1 (Same.refl _) (by rw [← inV_str]; rfl)⟩
end
end LC
end
section
set_option Elab.async false
set_option linter.all false
set_option maxRecDepth 100000
set_option maxHeartbeats 2000000
/-! checks of kinds, groups, bills -/
namespace LC
open PySem PySem.Spec L2
section
variable {P : Program} {w : World} {K : PySem.W.Frag} {mg : Str → Option Value} {base : Heap}
theorem betw_nat (n : Nat) : betw ((n : Int), 0, none) = true := by
  show (decide ((n : Int) ≥ 0) && true) = true
  rw [decide_eq_true (by omega)]; rfl
abbrev spIsKind (K : PySem.W.Frag) : Sp := spF K (fun a : (Str × Nat × List Stp) × Nat => [kindD a.1]) (fun a => KOk a.2 a.1) fun _ => Is (.bl true)
-- value 0
theorem sc_is_kind : FnScope ["value"] ["value"] (defScope (top 56)) := ⟨rfl, rfl, rfl, by decide +kernel, rfl, by decide +kernel, by decide +kernel⟩
theorem ok_is_kind (E : Env P w K mg base) (o_is_name : Okf P w K mg base 1 "is_name" ["value"] (spIsName K)) (o_is_between : Okf P w K mg base 2 "is_between" ["value", "low", "high"] (spIsBetween K)) (o_is_row_of_steps : Okf P w K mg base 5 "is_row_of_steps" ["value"] (spIsRow K)) : Okf P w K mg base 6 "is_kind" ["value"] (spIsKind K) :=
  okf_mk E 18 18 rfl rfl sc_is_kind (fun _ _ _ _ _ _ us hl => match us, hl with | [_], _ => rfl) (spF_len fun _ => rfl) fun cdv A outer s H vs Q E0 hr h => by
  obtain ⟨⟨k, n⟩, h1, hk, h2⟩ := h
  obtain ⟨v, rfl, r⟩ := one_of h1
  have nd := sc_is_kind.nd
  refine ⟨_, (pss_cons (ps_if (PW.pt (pw_or (pt_not (pt_val (kB (K := K) (r := fun _ _ _ => True) (r' := rIsi) rfl call_isi (E.free 62) (by decide +kernel) (pa_cons (pv 0) (pa_cons (kBTy (n := "tuple") (E.free 66) (by decide +kernel)) pa_nil))))) (pw_or (pt_cmpR op_ne (kLen (K := K) rfl (E.free 61) (pa_cons (pv 0) pa_nil)) (kGInt (E.int 88)) (nomark _)) (pw_or1 (pt_not (pt_val (pe_okf o_is_name (hr.mono (by decide)) (pa_cons (kIxT (K := K) rfl (pv 0) pe_int) pa_nil)))))))) (pss_one (ps_ret pe_bl)) pss_nil)
      (pss_one (ps_ret (pe_and (pe_okf o_is_between (hr.mono (by decide)) (pa_cons (kIxT (K := K) rfl (pv 0) pe_int) (pa_cons pe_int (pa_cons pe_non pa_nil)))) (pe_one (pe_okf o_is_row_of_steps (hr.mono (by decide)) (pa_cons (kIxT (K := K) rfl (pv 0) pe_int) pa_nil))))))), ?_⟩
  have r : Rep K H (.tup [.str k.1, .int (k.2.1 : Int), stD k.2.2]) v := r
  refine q_skip (et_or (b := false) (c := false) (et_not (b := true) (et_B (ev_isiT (ev_d rfl r) (by decide +kernel)))) fun _ => et_or (b := false) (c := false) (et_t (ev_neB (ev_len (K := K) true (da_cons (ev_d rfl r) da_nil)) ev_c rfl rfl)) fun _ => et_not (b := true) (et_B (ev_fn k.1 (da_cons (ev_ixT (n := 0) (d := .str k.1) (ev_d rfl r) ev_c rfl) da_nil) hk.name))) fun H1 s1 => ?_
  have r := Rep.same s1 r
  exact s_ret (ev_andV (b := true) (c := true) ((ev_fn ((k.2.1 : Int), 0, none) (da_cons (ev_ixT (n := 1) (d := .int (k.2.1 : Int)) (ev_d rfl r) ev_c rfl) (da_cons ev_c (da_cons ev_c da_nil))) trivial).is (by rw [betw_nat])) fun _ => ev_fn k.2.2 (da_cons (ev_ixT (n := 2) (d := stD k.2.2) (ev_d rfl r) ev_c rfl) da_nil) hk.steps) fun v H2 s2 p => h2 v H2 (s1.trans s2) p
/-! ### check_kinds -/
abbrev spCheckKinds (K : PySem.W.Frag) : Sp := spF K (fun a : List (Str × Nat × List Stp) × Nat => [sortsD a.1]) (fun a => a.1 ≠ [] ∧ a.1.length ≤ 4 ∧ (∀ k, k ∈ a.1 → KOk a.2 k) ∧ (kNames a.1).Nodup) fun _ => Is .non
theorem nodup_at {l : List Str} (h : l.Nodup) {i : Nat} {a : Str} (e : l[i]? = some a) : a ∉ l.take i := by
  intro hm
  obtain ⟨j, hj, e2⟩ := List.getElem_of_mem hm
  rw [List.getElem_take] at e2
  obtain ⟨hi, e3⟩ := List.getElem?_eq_some_iff.mp e
  have hjl : j < i := by rw [List.length_take] at hj; omega
  have := (List.nodup_iff_pairwise_ne.mp h)
  have q := List.pairwise_iff_getElem.mp this j i (by omega) hi hjl
  exact q (e2.trans e3.symm)
-- kinds 0 names 1 at 2 kind 3
theorem sc_check_kinds : FnScope ["kinds", "names", "at", "kind"] ["kinds"] (defScope (top 57)) := ⟨rfl, rfl, rfl, by decide +kernel, rfl, by decide +kernel, by decide +kernel⟩
theorem ok_check_kinds (E : Env P w K mg base) (o_is_kind : Okf P w K mg base 6 "is_kind" ["value"] (spIsKind K)) : Okf P w K mg base 7 "check_kinds" ["kinds"] (spCheckKinds K) :=
  okf_mk E 19 19 rfl rfl sc_check_kinds (fun _ _ _ _ _ _ us hl => match us, hl with | [_], _ => rfl) (spF_len fun _ => rfl) fun cdv A outer s H vs Q E0 hr h => by
  obtain ⟨⟨l, n⟩, h1, ⟨k1, k2, k3, k4⟩, h2⟩ := h
  have k1 : l ≠ [] := k1
  have k2 : l.length ≤ 4 := k2
  have k3 : ∀ k, k ∈ l → KOk n k := k3
  have k4 : (kNames l).Nodup := k4
  obtain ⟨v, rfl, r⟩ := one_of h1
  have r : Rep K H (.tup (l.map kindD)) v := r
  have nd := sc_check_kinds.nd
  refine ⟨_, (pss_cons (ps_if (PW.pt (pw_or (pt_not (pt_val (kB (K := K) (r := fun _ _ _ => True) (r' := rIsi) rfl call_isi (E.free 62) (by decide +kernel) (pa_cons (pv 0) (pa_cons (kBTy (n := "tuple") (E.free 66) (by decide +kernel)) pa_nil))))) (pw_or1 (kEqDT (K := K) rfl hr.units (pv 0) (pe_tup pa_nil))))) (pss_one ps_never) pss_nil)
      (pss_cons (ps_set (i := 1) nd rfl (.inl rfl) (pe_lst pa_nil))
      (pss_one (ps_for PassesOwn.never rfl (kEn (K := K) true rfl (E.free 70) (pa_cons (pv 0) pa_nil)) (kGTup (K := K) rfl rfl (pgs_cons (pg_name (i := 2) nd rfl (.inl rfl)) (pgs_cons (pg_name (i := 3) nd rfl (.inl rfl)) pgs_nil))) (pss_cons (ps_if (PW.pt (pw_or (pt_cmpR op_eq (pv 2) (kGInt (E.int 77)) (nomark _)) (pw_or (pt_not (pt_val (pe_okf o_is_kind (hr.mono (by decide)) (pa_cons (pv 3) pa_nil)))) (pw_or1 (kInSeqT (K := K) rfl (kIxT (K := K) rfl (pv 3) pe_int) (pv 1)))))) (pss_one ps_never) pss_nil)
      (pss_one (ps_expr (kAppend (K := K) rfl (pv 1) (pa_cons (kIxT (K := K) rfl (pv 3) pe_int) pa_nil))))))))), ?_⟩
  have shp : Shp (.tup (l.map kindD)) 4 := Shp.tup fun a ha => shp_kind (k3 a ha)
  refine q_skip (et_or (b := false) (c := false) (et_not (b := true) (et_B (ev_isiT (ev_d rfl r) (by decide +kernel)))) fun _ => et_t (ev_eqD (ev_d rfl r) (ev_tup (K := K) (l := []) da_nil (by decide)) shp shp_nil (by decide) (by decide) (by rw [eqv_tnil]; cases l with | nil => exact absurd rfl k1 | cons a l => rfl))) fun H1 s1 => ?_
  have r := Rep.same s1 r
  refine q_asg (ev_lst (K := K) (l := []) da_nil (by decide)) fun y H2 s2 ⟨p, xs, e1, e2, e3, e4⟩ => ?_
  have e4 : xs = [] := e4
  subst e1 e4
  have r2 := Rep.same s2 r
  refine s_for (it_eT (ds := l.map kindD) (da_cons (ev_d rfl r2) da_nil) (sortsD_tups l)) fun H3 G s3 eG hB => ⟨fun i σ' H' => KeepT H3 H' ∧ Same H1 H' ∧ H' p = some (.lst ((kNames (l.take i)).map V.str)) ∧ ∃ x y, σ' = [some v, some (.ref p), x, y], ⟨KeepT.refl _, s2.trans s3, s3 _ _ e3, _, _, rfl⟩, fun i σ' H' q => hB H' q.1, ?_, ?_⟩
  · rintro i d x σ' H' H'' hd ⟨q1, q2, q3, x1, y1, rfl⟩ s4 rd
    obtain ⟨k, e5, rfl⟩ := en_at hd
    have hi : i < l.length := (List.getElem?_eq_some_iff.mp e5).1
    have kk := k3 k (List.mem_of_getElem? e5)
    refine g_tup2 rd fun a b ra rb => ?_
    have ra : a = .int (i : Int) := ra
    subst ra
    have rb : Rep K H'' (.tup [.str k.1, .int (k.2.1 : Int), stD k.2.2]) b := rb
    have nin : k.1 ∉ kNames (l.take i) := by
      have := nodup_at k4 (i := i) (a := k.1) (by unfold kNames; rw [List.getElem?_map, e5]; rfl)
      unfold kNames at this ⊢
      rwa [List.map_take]
    refine q_skip (et_or (b := false) (c := false) (et_t (ev_eqB (ev_v rfl) ev_c rfl (by rw [dInt, decide_eq_false_iff_not]; omega))) fun _ => et_or (b := false) (c := false) (et_not (b := true) (et_B (ev_fn (k, n) (da_cons (ev_d rfl rb) da_nil) kk))) fun _ => (et_t (ev_inL (ev_ixT (n := 0) (d := .str k.1) (ev_d rfl rb) ev_c rfl) (ev_v rfl) (s4 _ _ q3))).is (decide_eq_false nin)) fun H5 s5 => ?_
    refine s_append (ev_v rfl) (s5 _ _ (s4 _ _ q3)) (ev_ixT (n := 0) (d := .str k.1) (ev_d rfl (Rep.same s5 rb)) ev_c rfl) (by rw [List.length_map]; unfold kNames; rw [List.length_map, List.length_take]; omega) fun u H6 s6 pu => ?_
    have pu : u = .str k.1 := pu
    subst pu
    have sm := ((s4.trans s5).trans s6)
    refine ⟨(q1.trans (Same.keepT sm)).trans (keepT_updL (sm _ _ q3)), same_mut (q2.trans sm) (fresh_back (Same.refl _) e2), ?_, _, _, rfl⟩
    rw [upd_same]
    unfold kNames
    rw [List.take_add_one, e5, List.map_append, List.map_append]; rfl
  · rintro σ' H' ⟨q1, q2, q3, x1, y1, rfl⟩
    exact h2 _ _ (s1.trans q2) rfl
/-! ### check_groups -/
abbrev spCheckGroups (K : PySem.W.Frag) : Sp := spF K (fun l : List (List Stp) => [heapsD l]) (fun l => l ≠ [] ∧ l.length ≤ 3 ∧ ∀ s, s ∈ l → OkS 2 s) fun _ => Is .non
-- groups 0 at 1 steps 2
theorem sc_check_groups : FnScope ["groups", "at", "steps"] ["groups"] (defScope (top 58)) := ⟨rfl, rfl, rfl, by decide +kernel, rfl, by decide +kernel, by decide +kernel⟩
theorem ok_check_groups (E : Env P w K mg base) (o_is_row_of_steps : Okf P w K mg base 5 "is_row_of_steps" ["value"] (spIsRow K)) : Okf P w K mg base 6 "check_groups" ["groups"] (spCheckGroups K) :=
  okf_mk E 20 20 rfl rfl sc_check_groups (fun _ _ _ _ _ _ us hl => match us, hl with | [_], _ => rfl) (spF_len fun _ => rfl) fun cdv A outer s H vs Q E0 hr h => by
  obtain ⟨l, h1, ⟨k1, k2, k3⟩, h2⟩ := h
  obtain ⟨v, rfl, r⟩ := one_of h1
  have r : Rep K H (.tup (l.map stD)) v := r
  have nd := sc_check_groups.nd
  refine ⟨_, (pss_cons (ps_if (PW.pt (pw_or (pt_not (pt_val (kB (K := K) (r := fun _ _ _ => True) (r' := rIsi) rfl call_isi (E.free 62) (by decide +kernel) (pa_cons (pv 0) (pa_cons (kBTy (n := "tuple") (E.free 66) (by decide +kernel)) pa_nil))))) (pw_or1 (kEqDT (K := K) rfl hr.units (pv 0) (pe_tup pa_nil))))) (pss_one ps_never) pss_nil)
      (pss_one (ps_for PassesOwn.never rfl (kEn (K := K) true rfl (E.free 70) (pa_cons (pv 0) pa_nil)) (kGTup (K := K) rfl rfl (pgs_cons (pg_name (i := 1) nd rfl (.inl rfl)) (pgs_cons (pg_name (i := 2) nd rfl (.inl rfl)) pgs_nil))) (pss_one (ps_if (PW.pt (pw_or (pt_cmpR op_eq (pv 1) (kGInt (E.int 78)) (nomark _)) (pw_or1 (pt_not (pt_val (pe_okf o_is_row_of_steps (hr.mono (by decide)) (pa_cons (pv 2) pa_nil))))))) (pss_one ps_never) pss_nil))))), ?_⟩
  have shp : Shp (.tup (l.map stD)) 3 := Shp.tup fun a ha => shp_steps (k3 a ha)
  refine q_skip (et_or (b := false) (c := false) (et_not (b := true) (et_B (ev_isiT (ev_d rfl r) (by decide +kernel)))) fun _ => et_t (ev_eqD (ev_d rfl r) (ev_tup (K := K) (l := []) da_nil (by decide)) shp shp_nil (by decide) (by decide) (by rw [eqv_tnil]; cases l with | nil => exact absurd rfl k1 | cons a l => rfl))) fun H1 s1 => ?_
  have r := Rep.same s1 r
  refine s_for (it_eT (ds := l.map stD) (da_cons (ev_d rfl r) da_nil) (heapsD_tups l)) fun H3 G s3 eG hB => ⟨fun i σ' H' => Same H3 H' ∧ ∃ x y, σ' = [some v, x, y], ⟨Same.refl _, _, _, rfl⟩, fun i σ' H' q => eG H' q.1, ?_, ?_⟩
  · rintro i d x σ' H' H'' hd ⟨q1, x1, y1, rfl⟩ s4 rd
    obtain ⟨k, e5, rfl⟩ := en_at hd
    have hi : i < l.length := (List.getElem?_eq_some_iff.mp e5).1
    refine g_tup2 rd fun a b ra rb => ?_
    have ra : a = .int (i : Int) := ra
    subst ra
    exact s_skip (et_or (b := false) (c := false) (et_t (ev_eqB (ev_v rfl) ev_c rfl (by rw [dInt, decide_eq_false_iff_not]; omega))) fun _ => et_not (b := true) (et_B (ev_fn k (da_cons (ev_d rfl rb) da_nil) (k3 k (List.mem_of_getElem? e5))))) fun H5 s5 => ⟨(q1.trans s4).trans s5, _, _, rfl⟩
  · rintro σ' H' ⟨q1, x1, y1, rfl⟩
    exact h2 _ _ ((s1.trans s3).trans q1) rfl
/-! ### check_places -/
abbrev spCheckPlaces (K : PySem.W.Frag) : Sp := spF K (fun a : List (Str × Nat × List Stp) × Nat => [sortsD a.1, .int (a.2 : Int)]) (fun a => ∀ k, k ∈ a.1 → KOk a.2 k) fun _ => Is .non
-- kinds 0 many 1 at 2 kind 3
theorem sc_check_places : FnScope ["kinds", "many", "at", "kind"] ["kinds", "many"] (defScope (top 59)) := ⟨rfl, rfl, rfl, by decide +kernel, rfl, by decide +kernel, by decide +kernel⟩
theorem ok_check_places (E : Env P w K mg base)  : Okf P w K mg base 1 "check_places" ["kinds", "many"] (spCheckPlaces K) :=
  okf_mk E 21 21 rfl rfl sc_check_places (fun _ _ _ _ _ _ us hl => match us, hl with | [_, _], _ => rfl) (spF_len fun _ => rfl) fun cdv A outer s H vs Q E0 hr h => by
  obtain ⟨⟨l, n⟩, h1, k3, h2⟩ := h
  have k3 : ∀ k, k ∈ l → KOk n k := k3
  obtain ⟨v, _, rfl, r, rfl⟩ := two_of h1
  have r : Rep K H (.tup (l.map kindD)) v := r
  have nd := sc_check_places.nd
  refine ⟨_, (pss_one (ps_for PassesOwn.never rfl (kEn (K := K) true rfl (E.free 70) (pa_cons (pv 0) pa_nil)) (kGTup (K := K) rfl rfl (pgs_cons (pg_name (i := 2) nd rfl (.inl rfl)) (pgs_cons (pg_name (i := 3) nd rfl (.inl rfl)) pgs_nil))) (pss_one (ps_if (pt_cmpR op_ge (kIxT (K := K) rfl (pv 3) pe_int) (pv 1) (nomark _)) (pss_one ps_never) pss_nil)))), ?_⟩
  refine s_for (it_eT (ds := l.map kindD) (da_cons (ev_d rfl r) da_nil) (sortsD_tups l)) fun H3 G s3 eG hB => ⟨fun i σ' H' => Same H3 H' ∧ ∃ x y, σ' = [some v, some (.int (n : Int)), x, y], ⟨Same.refl _, _, _, rfl⟩, fun i σ' H' q => eG H' q.1, ?_, ?_⟩
  · rintro i d x σ' H' H'' hd ⟨q1, x1, y1, rfl⟩ s4 rd
    obtain ⟨k, e5, rfl⟩ := en_at hd
    have kk := k3 k (List.mem_of_getElem? e5)
    refine g_tup2 rd fun a b ra rb => ?_
    have rb : Rep K H'' (.tup [.str k.1, .int (k.2.1 : Int), stD k.2.2]) b := rb
    exact s_skip ((et_t (ev_I0 (ev_ixT (n := 1) (d := .int (k.2.1 : Int)) (ev_d rfl rb) ev_c rfl) (ev_v rfl))).is (decide_eq_false (by have := kk.place; omega))) fun H5 s5 => ⟨(q1.trans s4).trans s5, _, _, rfl⟩
  · rintro σ' H' ⟨q1, x1, y1, rfl⟩
    exact h2 _ _ (s3.trans q1) rfl
/-! ### check_whole -/
abbrev spCheckWhole (K : PySem.W.Frag) : Sp := spF K (fun l : List Stp => [stD l]) (OkS 2) fun _ => Is .non
-- whole 0 wrong 1
theorem sc_check_whole : FnScope ["whole", "wrong"] ["whole"] (defScope (top 60)) := ⟨rfl, rfl, rfl, by decide +kernel, rfl, by decide +kernel, by decide +kernel⟩
theorem ok_check_whole (E : Env P w K mg base) (o_wrong_step : Okf P w K mg base 4 "wrong_step" ["value"] (spWrongStep K)) : Okf P w K mg base 5 "check_whole" ["whole"] (spCheckWhole K) :=
  okf_mk E 22 22 rfl rfl sc_check_whole (fun _ _ _ _ _ _ us hl => match us, hl with | [_], _ => rfl) (spF_len fun _ => rfl) fun cdv A outer s H vs Q E0 hr h => by
  obtain ⟨l, h1, hk, h2⟩ := h
  obtain ⟨v, rfl, r⟩ := one_of h1
  have nd := sc_check_whole.nd
  refine ⟨_, (pss_cons (ps_if (pt_not (pt_val (kB (K := K) (r := fun _ _ _ => True) (r' := rIsi) rfl call_isi (E.free 62) (by decide +kernel) (pa_cons (pv 0) (pa_cons (kBTy (n := "tuple") (E.free 66) (by decide +kernel)) pa_nil))))) (pss_one ps_never) pss_nil)
      (pss_cons (ps_set (i := 1) nd rfl (.inl rfl) (pe_okf o_wrong_step (hr.mono (by decide)) (pa_cons (pv 0) pa_nil)))
      (pss_one (ps_if (pt_cmpR op_notN (pv 1) pe_non (nomark _)) (pss_one ps_never) pss_nil)))), ?_⟩
  refine q_skip (et_not (b := true) (et_B (ev_isiT (ev_d rfl r) (by decide +kernel)))) fun H1 s1 => ?_
  refine q_let (ev_fn l (da_cons (ev_d rfl (Rep.same s1 r)) da_nil) hk) fun H2 s2 => ?_
  exact s_skip ((et_t (ev_notN (ev_v rfl))).is rfl) fun H3 s3 => h2 _ _ ((s1.trans s2).trans s3) rfl
end
end LC
end
section
set_option Elab.async false
set_option linter.all false
set_option maxRecDepth 100000
set_option maxHeartbeats 1000000
/-! Books in the heap, promises that lean on the heap. -/
namespace LC
open PySem PySem.Spec L2
/-- a promise whose precondition may look at the heap -/
def spH {α : Type} (K : PySem.W.Frag) (e : α → List D) (ok : α → Hp → Prop) (P : α → PV) : Sp := fun vs H Q _ => ∃ a, RepAll K H (e a) vs ∧ ok a H ∧ ∀ v H2, Same H H2 → P a v H2 → Q v H2
section
variable {K : PySem.W.Frag} {σ : St} {H : Hp} {α : Type} {e : α → List D} {ok : α → Hp → Prop} {P : α → PV} {ta tr : TA} {te : TE} {a C dx : Addr} {fs : List (Str × V)} {m : Str} {l : List D}
theorem spH_len {n : Nat} (hl : ∀ a, (e a).length = n) : ∀ vs H Q E, spH K e ok P vs H Q E → vs.length = n := fun vs H Q E ⟨a, p, _⟩ => by rw [p.length, hl a]
theorem ev_fnH (x : α) (h : EA ta σ H (Da K (e x))) (ha : ∀ H1, Same H H1 → ok x H1) : Ev (tCall (spH K e ok P) [] E0 ta) σ H (P x) :=
  ev_call h fun vs H1 s p Q q => ⟨x, p, ha H1 s, fun v H2 e2 p2 => q v H2 e2 p2⟩
theorem ev_mfnH (x : α) (h : Ev te σ H (Is (.ref a))) (ea : H a = some (.ins C dx fs)) (n : fs.lookup m = none) (ha : EA ta σ H (Da K l)) (he : e x = .ref a :: l) (hk : ∀ H1, Same H H1 → ok x H1) :
    Ev (tMeth C m (spH K e ok P) [] E0 te ta) σ H (P x) :=
  ev_meth h ea n ha fun vs H1 s p Q q => ⟨x, by rw [he]; exact ⟨_, _, rfl, rfl, p⟩, hk H1 s, fun v H2 s2 p2 => q v H2 s2 p2⟩
theorem ev_pfnH (x : α) (h : Ev te σ H (Is (.ref a))) (ea : H a = some (.ins C dx fs)) (he : e x = [.ref a]) (hk : ∀ H1, Same H H1 → ok x H1) :
    Ev (tProp C (spH K e ok P) [] E0 te) σ H (P x) :=
  ev_prop h ea fun H1 s Q q => ⟨x, by rw [he]; exact ⟨_, _, rfl, rfl, rfl⟩, hk H1 s, fun v H2 s2 p2 => q v H2 s2 p2⟩
end
/-- a book at p -/
structure BkF (K : PySem.W.Frag) (H : Hp) (p : Addr) (b : Bk) (dx : Addr) (vs vh vl vw : V) : Prop where
  ins : H p = some (.ins (He.ga K "Book") dx [("sorts", vs), ("heaps", vh), ("last", vl), ("words", vw)])
  sorts : Rep K H (sortsD b.sorts) vs
  heaps : Rep K H (heapsD b.heaps) vh
  last : Rep K H (stD b.last) vl
def BookAt (K : PySem.W.Frag) (H : Hp) (p : Addr) (b : Bk) : Prop := ∃ dx vs vh vl vw, BkF K H p b dx vs vh vl vw
theorem BookAt.same {K : PySem.W.Frag} {H H' : Hp} {p : Addr} {b : Bk} (e : Same H H') : BookAt K H p b → BookAt K H' p b := fun ⟨dx, vs, vh, vl, vw, h⟩ => ⟨dx, vs, vh, vl, vw, e _ _ h.ins, Rep.same e h.sorts, Rep.same e h.heaps, Rep.same e h.last⟩
/-! the mirror of a book's methods -/
def Bk.names (b : Bk) : List Str := kNames b.sorts
def Bk.kind (b : Bk) (z : Str) : Str × Nat × List Stp := (b.sorts.find? fun k => decide (k.1 = z)).getD ("", 0, [])
def Bk.heap (b : Bk) (g : Nat) : List Stp := b.heaps.getD g []
def Bk.whole (b : Bk) (z : Str) : List Stp := (b.kind z).2.2 ++ (b.heap (b.kind z).2.1 ++ b.last)
def Bk.rate (b : Bk) (z : Str) : Nat × Nat := rateS (b.whole z)
def Bk.share (b : Bk) (z : Str) : Nat × Nat := rateS (b.heap (b.kind z).2.1 ++ b.last)
def Bk.period (b : Bk) (z : Str) : Nat := perS (b.whole z)
def Bk.periods (b : Bk) : List Nat := b.heaps.map fun s => perS (s ++ b.last)
def Bk.size (b : Bk) : Nat := b.periods.foldl (· * ·) 1
def Bk.value (b : Bk) (z : Str) (n : Nat) : Int := ledS (b.kind z).2.2 n
def Bk.sums (b : Bk) (z : Str) (n : Nat) : List Int := (List.replicate b.heaps.length (0 : Int)).set (b.kind z).2.1 (b.value z n)
def Bk.ask (b : Bk) (sums : List Int) : Int := ledS b.last ((List.zipWith ledS b.heaps sums).sum)
theorem Bk.kind_mem {b : Bk} {z : Str} (h : z ∈ b.names) : b.kind z ∈ b.sorts ∧ (b.kind z).1 = z := by
  unfold Bk.kind
  cases e : b.sorts.find? fun k => decide (k.1 = z) with
  | none =>
    obtain ⟨k, hk, rfl⟩ := List.mem_map.mp h
    have := List.find?_eq_none.mp e k hk
    exact absurd (decide_eq_true rfl) this
  | some k =>
    have q : decide (k.1 = z) = true := List.find?_some (p := fun k : Str × Nat × List Stp => decide (k.1 = z)) e
    exact ⟨List.mem_of_find?_eq_some e, of_decide_eq_true q⟩
theorem Bk.kind_ok {b : Bk} (h : b.ok) {z : Str} (hz : z ∈ b.names) : KOk b.heaps.length (b.kind z) := h.kinds _ (Bk.kind_mem hz).1
theorem Bk.heap_at {b : Bk} {g : Nat} (h : g < b.heaps.length) : b.heaps[g]? = some (b.heap g) := by
  unfold Bk.heap
  rw [List.getD_eq_getElem?_getD, List.getElem?_eq_getElem h]; rfl
theorem Bk.heap_ok {b : Bk} (h : b.ok) {g : Nat} (hg : g < b.heaps.length) : OkS 2 (b.heap g) := h.heaps_ok _ (List.mem_of_getElem? (Bk.heap_at hg))
theorem OkS.app {n m : Nat} {l k : List Stp} (h1 : OkS n l) (h2 : OkS m k) : OkS (n + m) (l ++ k) := ⟨by rw [List.length_append]; exact Nat.add_le_add h1.1 h2.1, fun s hs => (List.mem_append.mp hs).elim (h1.2 s) (h2.2 s)⟩
theorem OkS.mono {n m : Nat} {l : List Stp} (h : OkS n l) (k : n ≤ m) : OkS m l := ⟨Nat.le_trans h.1 k, h.2⟩
theorem Bk.whole_ok {b : Bk} (h : b.ok) {z : Str} (hz : z ∈ b.names) : OkS 6 (b.whole z) := (Bk.kind_ok h hz).steps.app ((Bk.heap_ok h (Bk.kind_ok h hz).place).app h.last_ok)
theorem Bk.tail_ok {b : Bk} (h : b.ok) {z : Str} (hz : z ∈ b.names) : OkS 6 (b.heap (b.kind z).2.1 ++ b.last) := ((Bk.heap_ok h (Bk.kind_ok h hz).place).app h.last_ok).mono (by decide)
end LC
end
section
set_option Elab.async false
set_option linter.all false
set_option maxRecDepth 100000
set_option maxHeartbeats 2000000
/-! books: text, bills, properties, methods -/
namespace LC
open PySem PySem.Spec L2
section
variable {K : PySem.W.Frag} {σ : St} {H : Hp} {ta tb te : TE} {tr : TA} {P : PV} {E : Ends} {t z : TS} {p : Addr} {xs : List V} {n k m : Nat} {zs : List Str}
theorem s_extTx (h : Ev ta σ H (Is (.ref p))) (hp : H p = some (.lst (zs.map V.str))) (he : Ev tb σ H (TxL K H k n)) (hl : zs.length + k ≤ 100000) (hz : ∀ u, u ∈ zs → u.length ≤ n) (kk : ∀ H1 (us : List Str), Same H H1 → us.length = zs.length + k → (∀ u, u ∈ us → u.length ≤ n) → E.nx σ (upd H1 p (.lst (us.map V.str)))) : tDrop (tBM K "list" rExtend ta (tCons tb tNil)) E σ H :=
  h H (Same.refl _) _ fun v H1 s1 e => ⟨by rw [e]; exact .inl ⟨rfl, _, SqL.of (s1 _ _ hp)⟩, he H1 s1 _ fun w H2 s2 ⟨b, us, e1, e2, e3, e4, e5⟩ => ⟨p, b, zs.map V.str, us.map V.str, e, by rw [e1], (s1.trans s2) _ _ hp, e3, sz (by rw [List.length_map, List.length_map, e4]; exact hl), by
    have q := kk H2 (zs ++ us) (s1.trans s2) (by rw [List.length_append, e4]) fun u hu => (List.mem_append.mp hu).elim (hz u) (e5 u)
    rw [List.map_append] at q
    exact q⟩⟩
theorem q_extTx (h : Ev ta σ H (Is (.ref p))) (hp : H p = some (.lst (zs.map V.str))) (he : Ev tb σ H (TxL K H k n)) (hl : zs.length + k ≤ 100000) (hz : ∀ u, u ∈ zs → u.length ≤ n) (kk : ∀ H1 (us : List Str), Same H H1 → us.length = zs.length + k → (∀ u, u ∈ us → u.length ≤ n) → z E σ (upd H1 p (.lst (us.map V.str)))) : tSeq (tDrop (tBM K "list" rExtend ta (tCons tb tNil))) z E σ H := s_extTx (E := { E with nx := z E }) h hp he hl hz kk
theorem ev_lstTx (h : Ev ta σ H (Is (.ref p))) (hp : H p = some (.lst (zs.map V.str))) (he : Ev tb σ H (TxB n)) (hz : ∀ u, u ∈ zs → u.length ≤ n) (hl : zs.length ≤ 1000) : EA (tCons (tLst (StX.tStar K ta (tCons tb tNil))) tNil) σ H (fun vs H1 => ∃ v, vs = [v] ∧ TxL K H (zs.length + 1) n v H1) := fun H1 s Q q =>
  h H1 s _ fun v H2 s2 e => ⟨p, zs.map V.str, e, .inr (SqL.of ((s.trans s2) _ _ hp)), he H2 (s.trans s2) _ fun w H3 s3 ⟨u, e2, e3⟩ => ⟨sz (by rw [List.length_append, List.length_map]; show zs.length + 1 ≤ _; omega), fun a ha => q _ _ ((s2.trans s3).trans (same_new ha)) ⟨.ref a, rfl, a, zs ++ [u], rfl, fresh_back ((s.trans s2).trans s3) ha, by rw [upd_same, e2, List.map_append]; rfl, by rw [List.length_append]; rfl, fun x hx => (List.mem_append.mp hx).elim (hz x) fun w => by rw [List.mem_singleton.mp w]; exact e3⟩⟩⟩
end
section
variable {P : Program} {w : World} {K : PySem.W.Frag} {mg : Str → Option Value} {base : Heap}
theorem tx_up {n m : Nat} (h : n ≤ m) {v : V} {H : Hp} (p : TxB n v H) : TxB m v H := let ⟨z, e, k⟩ := p; ⟨z, e, Nat.le_trans k h⟩
abbrev spTextOf (K : PySem.W.Frag) : Sp := spF K (fun b : Bk => [sortsD b.sorts, heapsD b.heaps, stD b.last]) Bk.ok fun _ => TxB 2000
-- kinds 0 groups 1 whole 2 rows 3 name 4 group 5 steps 6 at 7
theorem sc_text_of : FnScope ["kinds", "groups", "whole", "rows", "name", "group", "steps", "at"] ["kinds", "groups", "whole"] (defScope (top 61)) := ⟨rfl, rfl, rfl, by decide +kernel, rfl, by decide +kernel, by decide +kernel⟩
theorem ok_text_of (E : Env P w K mg base) (o_text_of_steps : Okf P w K mg base 2 "text_of_steps" ["steps"] (spTextOfSteps K)) : Okf P w K mg base 3 "text_of" ["kinds", "groups", "whole"] (spTextOf K) :=
  okf_mk E 23 23 rfl rfl sc_text_of (fun _ _ _ _ _ _ us hl => match us, hl with | [_, _, _], _ => rfl) (spF_len fun _ => rfl) fun cdv A outer s H vs Q E0 hr h => by
  obtain ⟨b, h1, hk, h2⟩ := h
  obtain ⟨v1, _, rfl, r1, v2, _, rfl, r2, h1⟩ := h1
  obtain ⟨v3, rfl, r3⟩ := one_of h1
  have nd := sc_text_of.nd
  refine ⟨_, (pss_cons (ps_setLc (i := 3) (own := [("name", 4), ("group", 5), ("steps", 6)]) (g := gTup K 3 (gCons (gName 4) (gCons (gName 5) (gCons (gName 6) gNil)))) (tt := tYes)  rfl nd rfl rfl (sw_true rfl rfl rfl (by decide +kernel)) (kITup (K := K) rfl (pv 0)) (blkOk_by (N := ["kinds", "groups", "whole", "rows", "name", "group", "steps", "at"]) (sc := defScope (top 61)) (by decide +kernel)) (fun _ _ _ _ _ => (kGTup (K := K) rfl rfl (pgs_cons (pg_name (i := 4) nd rfl (.inl rfl)) (pgs_cons (pg_name (i := 5) nd rfl (.inl rfl)) (pgs_cons (pg_name (i := 6) nd rfl (.inl rfl)) pgs_nil))))) (fun _ _ _ _ _ => pts_nil) (fun _ _ _ _ _ => (pe_op op_add_str (pe_joined (PJ.cons pe_str (PJ.cons (pe_fmt (pv 4)) (PJ.cons pe_str (PJ.cons (pe_fmt (pv 5)) PJ.nil))))) (pe_okf o_text_of_steps (hr.mono (by decide)) (pa_cons (pv 6) pa_nil)))))
      (pss_cons (ps_expr (kExtL (K := K) rfl (pv 3) (pa_cons (pe_lc (own := [("at", 7), ("steps", 6)]) (g := gTup K 2 (gCons (gName 7) (gCons (gName 6) gNil))) (tt := tYes)  rfl nd (kEn (K := K) true rfl (E.free 70) (pa_cons (pv 1) pa_nil)) (blkOk_by (N := ["kinds", "groups", "whole", "rows", "name", "group", "steps", "at"]) (sc := defScope (top 61)) (by decide +kernel)) (fun _ _ _ _ _ => (kGTup (K := K) rfl rfl (pgs_cons (pg_name (i := 7) nd rfl (.inl rfl)) (pgs_cons (pg_name (i := 6) nd rfl (.inl rfl)) pgs_nil)))) (fun _ _ _ _ _ => pts_nil) (fun _ _ _ _ _ => (pe_op op_add_str (pe_joined (PJ.cons pe_str (PJ.cons (pe_fmt (pv 7)) PJ.nil))) (pe_okf o_text_of_steps (hr.mono (by decide)) (pa_cons (pv 6) pa_nil))))) pa_nil)))
      (pss_one (ps_ret (kJoin (K := K) rfl pe_str (pa_cons (pe_lst (kStar (K := K) rfl (pv 3) (pa_cons (pe_op op_add_str pe_str (pe_okf o_text_of_steps (hr.mono (by decide)) (pa_cons (pv 2) pa_nil))) pa_nil))) pa_nil)))))), ?_⟩
  have hf := hk.few
  have hg := hk.hfew
  refine q_asg (ev_lcTx (K := K) (n := 130) (it_tup (ds := b.sorts.map kindD) (ev_d rfl r1) (sortsD_tups _)) (by rw [List.length_map]; omega) (fun i d x H1 hd s rd => ?_) gm_tup3) fun y H1 s1 ⟨p, zs, e1, e2, e3, e4, e5⟩ => ?_
  · obtain ⟨k, hk1, rfl⟩ := map_at hd
    have kk := hk.kinds k (List.mem_of_getElem? hk1)
    have kp := kk.place
    refine g_tup3 rd fun a c f ra rc rf => ⟨Same.refl _, rfl, (ev_addS (ev_js (.cons (n := 5) (ev_txc (by decide)) (.cons (n := 5) (ev_fmtS ((ev_v rfl).is ra) (lawNames_str kk.name).2 (by decide)) (.cons (n := 7) (ev_txc (by decide)) (.cons (ev_fmtI ((ev_v rfl).is rc) (by omega) (by omega)) .nil)))) (by decide)) (ev_fn k.2.2 (da_cons (ev_d rfl rf) da_nil) kk.steps) (by decide)).imp fun v H1 _ q => tx_up (by decide) q⟩
  subst e1
  rw [List.length_map] at e4
  refine q_extTx (n := 130) (k := b.heaps.length) (ev_v rfl) e3 (Ev.imp (ev_lcTx (K := K) (n := 130) (it_e true (ds := b.heaps.map stD) (da_cons (ev_d rfl (Rep.same s1 r2)) da_nil)) (by rw [List.length_map, List.length_range, List.length_map]; omega) (fun i d x H2 hd s rd => ?_) gm_tup2) fun v H2 _ q => by rw [List.length_map, List.length_range, List.length_map] at q; exact q) (by rw [e4]; omega) e5 fun H2 us s2 u1 u2 => ?_
  · obtain ⟨k, hk1, rfl⟩ := en_at hd
    have hi : i < b.heaps.length := (List.getElem?_eq_some_iff.mp hk1).1
    refine g_tup2 rd fun a c ra rc => ⟨Same.refl _, rfl, (ev_addS (ev_js (.cons (n := 6) (ev_txc (by decide)) (.cons (ev_fmtI ((ev_v rfl).is ra) (by omega) (by omega)) .nil)) (by decide)) (ev_fn k (da_cons (ev_d rfl rc) da_nil) (hk.heaps_ok k (List.mem_of_getElem? hk1))) (by decide)).imp fun v H1 _ q => tx_up (by decide) q⟩
  have sm : Same H (upd H2 p (.lst (us.map V.str))) := same_mut (s1.trans s2) e2
  have ul : us.length ≤ 7 := by rw [u1, e4]; omega
  have en : (Str.ofString "\n").length = 1 := by decide +kernel
  refine s_ret (ev_join (K := K) (R := fun _ _ => True) (n := 130) (k := us.length + 1) ev_c (ev_lstTx (zs := us) (ev_v rfl) upd_same (Ev.imp (ev_addS (n := 5) (m := 100) (ev_txc (by decide)) (ev_fn b.last (da_cons (ev_d rfl (Rep.same sm r3)) da_nil) hk.last_ok) (by decide)) fun v H1 _ q => tx_up (by decide) q) u2 (by omega)) (by rw [en]; omega)) fun v H3 s3 q => h2 v H3 (sm.trans s3) (tx_up (by rw [en]; omega) q)
end
end LC
end
section
set_option Elab.async false
set_option linter.all false
set_option maxRecDepth 100000
set_option maxHeartbeats 2000000
/-! bills, books -/
namespace LC
open PySem PySem.Spec L2
section
variable {P : Program} {w : World} {K : PySem.W.Frag} {mg : Str → Option Value} {base : Heap}
def lineD (a : Str × Nat) : D := .tup [.str a.1, .int (a.2 : Int)]
def strsD (l : List Str) : D := .tup (l.map D.str)
def intsD (l : List Int) : D := .tup (l.map D.int)
abbrev spIsLine (K : PySem.W.Frag) : Sp := spF K (fun a : (Str × Nat) × List Str => [lineD a.1, strsD a.2]) (fun a => a.1.1 ∈ a.2) fun _ => Is (.bl true)
-- value 0 names 1
theorem sc_is_line : FnScope ["value", "names"] ["value", "names"] (defScope (top 64)) := ⟨rfl, rfl, rfl, by decide +kernel, rfl, by decide +kernel, by decide +kernel⟩
theorem ok_is_line (E : Env P w K mg base) (o_is_between : Okf P w K mg base 2 "is_between" ["value", "low", "high"] (spIsBetween K)) : Okf P w K mg base 3 "is_line" ["value", "names"] (spIsLine K) :=
  okf_mk E 24 24 rfl rfl sc_is_line (fun _ _ _ _ _ _ us hl => match us, hl with | [_, _], _ => rfl) (spF_len fun _ => rfl) fun cdv A outer s H vs Q E0 hr h => by
  obtain ⟨⟨⟨z, n⟩, ns⟩, h1, hk, h2⟩ := h
  have hk : z ∈ ns := hk
  obtain ⟨v, u, rfl, r, ru⟩ := two_of h1
  have r : Rep K H (.tup [.str z, .int (n : Int)]) v := r
  have nd := sc_is_line.nd
  refine ⟨_, (pss_cons (ps_if (PW.pt (pw_or (pt_not (pt_val (kB (K := K) (r := fun _ _ _ => True) (r' := rIsi) rfl call_isi (E.free 62) (by decide +kernel) (pa_cons (pv 0) (pa_cons (kBTy (n := "tuple") (E.free 66) (by decide +kernel)) pa_nil))))) (pw_or (pt_cmpR op_ne (kLen (K := K) rfl (E.free 61) (pa_cons (pv 0) pa_nil)) pe_int (nomark _)) (pw_or1 (pt_not (pt_val (pe_okf o_is_between (hr.mono (by decide)) (pa_cons (kIxT (K := K) rfl (pv 0) pe_int) (pa_cons pe_int (pa_cons pe_non pa_nil)))))))))) (pss_one (ps_ret pe_bl)) pss_nil)
      (pss_one (ps_ret (pe_and (kB (K := K) (r := fun _ _ _ => True) (r' := rIsi) rfl call_isi (E.free 62) (by decide +kernel) (pa_cons (kIxT (K := K) rfl (pv 0) pe_int) (pa_cons (kBTy (n := "str") (E.free 65) (by decide +kernel)) pa_nil))) (pe_one (kInSeq (K := K) rfl (kIxT (K := K) rfl (pv 0) pe_int) (pv 1))))))), ?_⟩
  refine q_skip (et_or (b := false) (c := false) (et_not (b := true) (et_B (ev_isiT (ev_d rfl r) (by decide +kernel)))) fun _ => et_or (b := false) (c := false) (et_t (ev_neB (ev_len (K := K) true (da_cons (ev_d rfl r) da_nil)) ev_c rfl rfl)) fun _ => et_not (b := true) (et_B ((ev_fn ((n : Int), 0, none) (da_cons (ev_ixT (n := 1) (d := .int (n : Int)) (ev_d rfl r) ev_c rfl) (da_cons ev_c (da_cons ev_c da_nil))) trivial).is (by rw [betw_nat])))) fun H1 s1 => ?_
  have r := Rep.same s1 r
  refine s_ret (ev_andV (b := true) (c := true) (ev_isiV (t := "str") (ev_ixT (n := 0) (d := .str z) (ev_d rfl r) ev_c rfl) (fun _ _ => .base (.str _)) (by decide +kernel)) fun _ => (ev_inT (zs := ns) (ev_ixT (n := 0) (d := .str z) (ev_d rfl r) ev_c rfl) (ev_d rfl (Rep.same s1 ru))).is (by rw [decide_eq_true hk])) fun v H2 s2 p => h2 v H2 (s1.trans s2) p
/-! ### check_bill -/
abbrev spCheckBill (K : PySem.W.Frag) : Sp := spF K (fun a : List (Str × Nat) × List Str => [.tup (a.1.map lineD), strsD a.2]) (fun a => ∀ x, x ∈ a.1 → x.1 ∈ a.2) fun _ => Is .non
theorem lineD_tups : ∀ (l : List (Str × Nat)), D.tupsOnlys (l.map lineD) = true
  | [] => rfl
  | a :: l => by show (true && D.tupsOnlys (l.map lineD)) = true; rw [lineD_tups l]; rfl
-- bill 0 names 1 at 2 line 3
theorem sc_check_bill : FnScope ["bill", "names", "at", "line"] ["bill", "names"] (defScope (top 65)) := ⟨rfl, rfl, rfl, by decide +kernel, rfl, by decide +kernel, by decide +kernel⟩
theorem ok_check_bill (E : Env P w K mg base) (o_is_line : Okf P w K mg base 3 "is_line" ["value", "names"] (spIsLine K)) : Okf P w K mg base 4 "check_bill" ["bill", "names"] (spCheckBill K) :=
  okf_mk E 25 25 rfl rfl sc_check_bill (fun _ _ _ _ _ _ us hl => match us, hl with | [_, _], _ => rfl) (spF_len fun _ => rfl) fun cdv A outer s H vs Q E0 hr h => by
  obtain ⟨⟨l, ns⟩, h1, hk, h2⟩ := h
  obtain ⟨v, u, rfl, r, ru⟩ := two_of h1
  have nd := sc_check_bill.nd
  refine ⟨_, (pss_cons (ps_if (pt_not (pt_val (kB (K := K) (r := fun _ _ _ => True) (r' := rIsi) rfl call_isi (E.free 62) (by decide +kernel) (pa_cons (pv 0) (pa_cons (kBTy (n := "tuple") (E.free 66) (by decide +kernel)) pa_nil))))) (pss_one ps_never) pss_nil)
      (pss_one (ps_for PassesOwn.never rfl (kEn (K := K) true rfl (E.free 70) (pa_cons (pv 0) pa_nil)) (kGTup (K := K) rfl rfl (pgs_cons (pg_name (i := 2) nd rfl (.inl rfl)) (pgs_cons (pg_name (i := 3) nd rfl (.inl rfl)) pgs_nil))) (pss_one (ps_if (pt_not (pt_val (pe_okf o_is_line (hr.mono (by decide)) (pa_cons (pv 3) (pa_cons (pv 1) pa_nil))))) (pss_one ps_never) pss_nil))))), ?_⟩
  refine q_skip (et_not (b := true) (et_B (ev_isiT (ev_d rfl r) (by decide +kernel)))) fun H1 s1 => ?_
  have r := Rep.same s1 r
  refine s_for (it_eT (ds := l.map lineD) (da_cons (ev_d rfl r) da_nil) (lineD_tups l)) fun H3 G s3 eG hB => ⟨fun i σ' H' => Same H3 H' ∧ ∃ x y, σ' = [some v, some u, x, y], ⟨Same.refl _, _, _, rfl⟩, fun i σ' H' q => eG H' q.1, ?_, ?_⟩
  · rintro i d x σ' H' H'' hd ⟨q1, x1, y1, rfl⟩ s4 rd
    obtain ⟨k, e5, rfl⟩ := en_at hd
    have ru := Rep.same (((s1.trans s3).trans q1).trans s4) ru
    refine g_tup2 rd fun a b ra rb => ?_
    exact s_skip (et_not (b := true) (et_B (ev_fn (k, ns) (da_cons (ev_d rfl rb) (da_cons (ev_d rfl ru) da_nil)) (hk k (List.mem_of_getElem? e5))))) fun H5 s5 => ⟨(q1.trans s4).trans s5, _, _, rfl⟩
  · rintro σ' H' ⟨q1, x1, y1, rfl⟩
    exact h2 _ _ ((s1.trans s3).trans q1) rfl
/-! ### check_book, check_two -/
abbrev spCheckBook (K : PySem.W.Frag) : Sp := spH K (fun a : Addr × Bk => [.ref a.1]) (fun a H => BookAt K H a.1 a.2) fun _ => Is .non
theorem isB_ty (c : Says K) {H : Hp} {p dx : Addr} {fs : List (Str × V)} (h : H p = some (.ins (He.ga K "Book") dx fs)) (cl : Cls K (He.ga K "Book")) : TyX K H (.ref p) (.ref (He.ga K "Book")) := by
  obtain ⟨h1, h2⟩ := He.ba c.book
  obtain ⟨h3, h4⟩ := He.ba h2
  obtain ⟨h5, h6⟩ := He.ba h4
  exact .base (.ins h cl (He.eqO_ok h1) (He.eqO_ok h3) (of_decide_eq_true h5) (of_decide_eq_true h6))
-- value 0
theorem sc_check_book : FnScope ["value"] ["value"] (defScope (top 67)) := ⟨rfl, rfl, rfl, by decide +kernel, rfl, by decide +kernel, by decide +kernel⟩
theorem ok_check_book (E : Env P w K mg base)  : Okf P w K mg base 1 "check_book" ["value"] (spCheckBook K) :=
  okf_mk E 26 26 rfl rfl sc_check_book (fun _ _ _ _ _ _ us hl => match us, hl with | [_], _ => rfl) (spH_len fun _ => rfl) fun cdv A outer s H vs Q E0 hr h => by
  obtain ⟨⟨p, b⟩, h1, ⟨dx, vs, vh, vl, vw, hb⟩, h2⟩ := h
  obtain ⟨_, rfl, rfl⟩ := one_of h1
  have nd := sc_check_book.nd
  refine ⟨_, (pss_one (ps_if (pt_not (pt_val (kB (K := K) (r := fun _ _ _ => True) (r' := rIsi) rfl call_isi (E.free 62) (by decide +kernel) (pa_cons (pv 0) (pa_cons (kGRef (E.glo 92)) pa_nil))))) (pss_one ps_never) pss_nil)), ?_⟩
  refine s_skip (et_not (b := true) (et_B (ev_cb (P := Is (.bl true)) (ea_cons (ev_v rfl) mono_is (ea_cons ev_c mono_is ea_nil)) fun vs1 H1 s1 ⟨v, r, e1, e2, w, r2, e3, e4, e5⟩ Q q => ⟨.ref p, .ref (He.ga K "Book"), .ref (He.ga K "Book"), .ref (He.ga K "Book"), true, by rw [e1, e2, e3, e4, e5], .own _, isB_ty E.says (s1 _ _ hb.ins) (E.cls 93), ?_, q _ H1 (Same.refl _) rfl⟩))) fun H1 s1 => h2 _ _ s1 rfl
  unfold PySem.W.kitOne
  rw [if_pos (by simp)]
abbrev spCheckTwo (K : PySem.W.Frag) : Sp := spH K (fun a : (Addr × Bk) × (Addr × Bk) => [.ref a.1.1, .ref a.2.1]) (fun a H => BookAt K H a.1.1 a.1.2 ∧ BookAt K H a.2.1 a.2.2) fun _ => Is .non
-- one 0 other 1
theorem sc_check_two : FnScope ["one", "other"] ["one", "other"] (defScope (top 68)) := ⟨rfl, rfl, rfl, by decide +kernel, rfl, by decide +kernel, by decide +kernel⟩
theorem ok_check_two (E : Env P w K mg base) (o_check_book : Okf P w K mg base 1 "check_book" ["value"] (spCheckBook K)) : Okf P w K mg base 2 "check_two" ["one", "other"] (spCheckTwo K) :=
  okf_mk E 27 27 rfl rfl sc_check_two (fun _ _ _ _ _ _ us hl => match us, hl with | [_, _], _ => rfl) (spH_len fun _ => rfl) fun cdv A outer s H vs Q E0 hr h => by
  obtain ⟨⟨⟨p, b⟩, ⟨p2, b2⟩⟩, h1, ⟨hb, hb2⟩, h2⟩ := h
  obtain ⟨_, _, rfl, rfl, rfl⟩ := two_of h1
  have nd := sc_check_two.nd
  refine ⟨_, (pss_cons (ps_expr (pe_okf o_check_book (hr.mono (by decide)) (pa_cons (pv 0) pa_nil)))
      (pss_one (ps_expr (pe_okf o_check_book (hr.mono (by decide)) (pa_cons (pv 1) pa_nil))))), ?_⟩
  refine q_drop (ev_fnH (p, b) (da_cons (ev_v rfl) da_nil) fun H1 s => hb.same s) fun v H1 s1 _ => ?_
  exact s_drop (ev_fnH (p2, b2) (da_cons (ev_v rfl) da_nil) fun H2 s => hb2.same (s1.trans s)) fun v H2 s2 _ => h2 _ _ (s1.trans s2) rfl
/-! ### properties of a book -/
abbrev bkArg : Addr × Bk → List D := fun a => [.ref a.1]
abbrev spKinds (K : PySem.W.Frag) : Sp := spH K bkArg (fun a H => BookAt K H a.1 a.2) fun a => Dt K (sortsD a.2.sorts)
-- self 0
theorem sc_Book_kinds : FnScope ["self"] ["self"] (defScope (mth 66 2)) := ⟨rfl, rfl, rfl, by decide +kernel, rfl, by decide +kernel, by decide +kernel⟩
theorem ok_Book_kinds (E : Env P w K mg base)  : Okp P w K mg base 1 "Book" "kinds" (spKinds K) :=
  okp_mk E 85 0 93 rfl rfl rfl sc_Book_kinds (fun _ _ _ _ _ _ us hl => match us, hl with | [_], _ => rfl) (spH_len fun _ => rfl) fun cdv A outer s H vs Q E0 hr h => by
  obtain ⟨⟨p, b⟩, h1, ⟨dx, vs, vh, vl, vw, hb⟩, h2⟩ := h
  obtain ⟨_, rfl, rfl⟩ := one_of h1
  have nd := sc_Book_kinds.nd
  refine ⟨_, (pss_one (ps_ret (kFld (K := K) rfl (pv 0)))), ?_⟩
  exact s_ret ((ev_fld (ev_v rfl) hb.ins (E.cls 93) (E.noat 95) rfl).dt hb.sorts) h2
abbrev spGroups (K : PySem.W.Frag) : Sp := spH K bkArg (fun a H => BookAt K H a.1 a.2) fun a => Dt K (heapsD a.2.heaps)
-- self 0
theorem sc_Book_groups : FnScope ["self"] ["self"] (defScope (mth 66 3)) := ⟨rfl, rfl, rfl, by decide +kernel, rfl, by decide +kernel, by decide +kernel⟩
theorem ok_Book_groups (E : Env P w K mg base)  : Okp P w K mg base 1 "Book" "groups" (spGroups K) :=
  okp_mk E 86 1 93 rfl rfl rfl sc_Book_groups (fun _ _ _ _ _ _ us hl => match us, hl with | [_], _ => rfl) (spH_len fun _ => rfl) fun cdv A outer s H vs Q E0 hr h => by
  obtain ⟨⟨p, b⟩, h1, ⟨dx, vs, vh, vl, vw, hb⟩, h2⟩ := h
  obtain ⟨_, rfl, rfl⟩ := one_of h1
  have nd := sc_Book_groups.nd
  refine ⟨_, (pss_one (ps_ret (kFld (K := K) rfl (pv 0)))), ?_⟩
  exact s_ret ((ev_fld (ev_v rfl) hb.ins (E.cls 93) (E.noat 96) rfl).dt hb.heaps) h2
theorem ev_kname {K : PySem.W.Frag} {σ : St} {H : Hp} {te : TE} {k : Str × Nat × List Stp} (h : Ev te σ H (Dt K (kindD k))) : Ev (tOp (rIxT K) te (tC (.int 0))) σ H (Is (.str k.1)) := ev_ixT (n := 0) (d := .str k.1) h ev_c rfl
theorem ev_kplace {K : PySem.W.Frag} {σ : St} {H : Hp} {te : TE} {k : Str × Nat × List Stp} (h : Ev te σ H (Dt K (kindD k))) : Ev (tOp (rIxT K) te (tC (.int 1))) σ H (Is (.int (k.2.1 : Int))) := ev_ixT (n := 1) (d := .int (k.2.1 : Int)) h ev_c rfl
theorem ev_ksteps {K : PySem.W.Frag} {σ : St} {H : Hp} {te : TE} {k : Str × Nat × List Stp} (h : Ev te σ H (Dt K (kindD k))) : Ev (tOp (rIxT K) te (tC (.int 2))) σ H (Dt K (stD k.2.2)) := ev_ixT (n := 2) (d := stD k.2.2) h ev_c rfl
abbrev spNames (K : PySem.W.Frag) : Sp := spH K bkArg (fun a H => BookAt K H a.1 a.2 ∧ a.2.sorts.length ≤ 4) fun a => Dt K (strsD a.2.names)
-- self 0 kind 1
theorem sc_Book_names : FnScope ["self", "kind"] ["self"] (defScope (mth 66 5)) := ⟨rfl, rfl, rfl, by decide +kernel, rfl, by decide +kernel, by decide +kernel⟩
theorem ok_Book_names (E : Env P w K mg base)  : Okp P w K mg base 1 "Book" "names" (spNames K) :=
  okp_mk E 87 2 93 rfl rfl rfl sc_Book_names (fun _ _ _ _ _ _ us hl => match us, hl with | [_], _ => rfl) (spH_len fun _ => rfl) fun cdv A outer s H vs Q E0 hr h => by
  obtain ⟨⟨p, b⟩, h1, ⟨⟨dx, vs, vh, vl, vw, hb⟩, hl⟩, h2⟩ := h
  have hl : b.sorts.length ≤ 4 := hl
  obtain ⟨_, rfl, rfl⟩ := one_of h1
  have nd := sc_Book_names.nd
  refine ⟨_, (pss_one (ps_ret (kTy (K := K) (r' := rTupOf) rfl call_tuple_of (E.free 66) (by decide +kernel) (pa_cons (pe_lc (own := [("kind", 1)]) (g := gName 1) (tt := tYes)  rfl nd (kITup (K := K) rfl (kFld (K := K) rfl (pv 0))) (blkOk_by (N := ["self", "kind"]) (sc := defScope (mth 66 5)) (by decide +kernel)) (fun _ _ _ _ _ => (pg_name (i := 1) nd rfl (.inl rfl))) (fun _ _ _ _ _ => pts_nil) (fun _ _ _ _ _ => (kIxT (K := K) rfl (pv 1) pe_int))) pa_nil)))), ?_⟩
  refine s_ret (ev_tupOf (da_cons (NewL.dt (l := b.sorts.map fun k => .str k.1) ?_) da_nil)) fun v H1 s1 q => h2 v H1 s1 (by show Rep K H1 (.tup ((b.sorts.map (·.1)).map D.str)) v; rw [List.map_map]; exact q)
  exact ev_lc1 kindD _ (it_tup (ds := b.sorts.map kindD) ((ev_fld (ev_v rfl) hb.ins (E.cls 93) (E.noat 95) rfl).dt hb.sorts) (sortsD_tups _)) (by omega) (fun _ => rfl) (fun _ _ => rfl) fun k x H1 hk s r => ev_kname (ev_d rfl r)
/-! ### check_fit -/
abbrev spCheckFit (K : PySem.W.Frag) : Sp := spH K (fun a : (Addr × Bk) × (Addr × Bk) => [.ref a.1.1, .ref a.2.1]) (fun a H => (BookAt K H a.1.1 a.1.2 ∧ BookAt K H a.2.1 a.2.2) ∧ a.1.2.ok ∧ a.2.2.ok ∧ a.1.2.names = a.2.2.names) fun _ => Is .non
-- one 0 other 1
theorem sc_check_fit : FnScope ["one", "other"] ["one", "other"] (defScope (top 69)) := ⟨rfl, rfl, rfl, by decide +kernel, rfl, by decide +kernel, by decide +kernel⟩
theorem ok_check_fit (E : Env P w K mg base) (p_Book_names : Okp P w K mg base 1 "Book" "names" (spNames K)) : Okf P w K mg base 3 "check_fit" ["one", "other"] (spCheckFit K) :=
  okf_mk E 28 28 rfl rfl sc_check_fit (fun _ _ _ _ _ _ us hl => match us, hl with | [_, _], _ => rfl) (spH_len fun _ => rfl) fun cdv A outer s H vs Q E0 hr h => by
  obtain ⟨⟨⟨p, b⟩, ⟨p2, b2⟩⟩, h1, ⟨⟨hb, hb2⟩, k1, k2, k3⟩, h2⟩ := h
  have k1 : b.ok := k1
  have k2 : b2.ok := k2
  have k3 : b.names = b2.names := k3
  have hb : BookAt K H p b := hb
  have hb2 : BookAt K H p2 b2 := hb2
  obtain ⟨_, _, rfl, rfl, rfl⟩ := two_of h1
  have nd := sc_check_fit.nd
  refine ⟨_, (pss_one (ps_if (kNeDT (K := K) rfl hr.units (kProp (K := K) rfl p_Book_names (hr.mono (by decide)) (pv 0)) (kProp (K := K) rfl p_Book_names (hr.mono (by decide)) (pv 1))) (pss_one ps_never) pss_nil)), ?_⟩
  obtain ⟨dx, vs, vh, vl, vw, f1⟩ := id hb
  obtain ⟨dx2, vs2, vh2, vl2, vw2, f2⟩ := id hb2
  have shp : Shp (strsD b.names) 1 := Shp.tup fun z hz => by
    obtain ⟨k, hk, rfl⟩ := List.mem_map.mp hz
    exact Shp.str (lawNames_str (k1.kinds k hk).name).1
  refine s_skip (et_t (ev_neD (ev_pfnH (p, b) (ev_v rfl) f1.ins rfl fun H1 s => ⟨hb.same s, k1.few⟩) (ev_pfnH (p2, b2) (ev_v rfl) f2.ins rfl fun H1 s => ⟨hb2.same s, k2.few⟩) (n := 1) (m := 1) shp (k3 ▸ shp) (by decide) (by decide) ?_)) fun H1 s1 => h2 _ _ s1 rfl
  show (!PyData.eqv (strsD b.names).py (strsD b2.names).py) = false
  rw [← k3, SeqAt.eqv_refl _ shp.lay]; rfl
/-! ### kind_at -/
abbrev bkzArg : (Addr × Bk) × Str → List D := fun a => [.ref a.1.1, .str a.2]
def bkzOk (K : PySem.W.Frag) : (Addr × Bk) × Str → Hp → Prop := fun a H => BookAt K H a.1.1 a.1.2 ∧ a.1.2.ok ∧ a.2 ∈ a.1.2.names
theorem bkzOk.same {K : PySem.W.Frag} {H H' : Hp} {a : (Addr × Bk) × Str} (h : bkzOk K a H) (e : Same H H') : bkzOk K a H' := ⟨h.1.same e, h.2⟩
abbrev spKindAt (K : PySem.W.Frag) : Sp := spH K bkzArg (bkzOk K) fun a => Dt K (kindD (a.1.2.kind a.2))
-- self 0 name 1 kind 2
theorem sc_Book_kind_at : FnScope ["self", "name", "kind"] ["self", "name"] (defScope (mth 66 6)) := ⟨rfl, rfl, rfl, by decide +kernel, rfl, by decide +kernel, by decide +kernel⟩
theorem ok_Book_kind_at (E : Env P w K mg base)  : Okm P w K mg base 1 "Book" "kind_at" ["self", "name"] (spKindAt K) :=
  okm_mk E 62 111 93 rfl rfl rfl sc_Book_kind_at (fun _ _ _ _ _ _ us hl => match us, hl with | [_, _], _ => rfl) (spH_len fun _ => rfl) fun cdv A outer s H vs Q E0 hr h => by
  obtain ⟨⟨⟨p, b⟩, z⟩, h1, ⟨⟨dx, vs, vh, vl, vw, hb⟩, k1, k2⟩, h2⟩ := h
  have h2 : ∀ v H2, Same H H2 → Rep K H2 (kindD (b.kind z)) v → Q v H2 := h2
  have k2 : z ∈ b.names := k2
  have hb : BkF K H p b dx vs vh vl vw := hb
  obtain ⟨_, _, rfl, rfl, rfl⟩ := two_of h1
  have nd := sc_Book_kind_at.nd
  refine ⟨_, (pss_cons (ps_for PassesOwn.never rfl (kITup (K := K) rfl (kFld (K := K) rfl (pv 0))) (pg_name (i := 2) nd rfl (.inl rfl)) (pss_one (ps_if (PW.pt (pw_and (pt_val (kB (K := K) (r := fun _ _ _ => True) (r' := rIsi) rfl call_isi (E.free 62) (by decide +kernel) (pa_cons (pv 1) (pa_cons (kBTy (n := "str") (E.free 65) (by decide +kernel)) pa_nil)))) (pw_and1 (pt_cmpR op_eq (kIxT (K := K) rfl (pv 2) pe_int) (pv 1) (nomark _))))) (pss_one (ps_ret (pv 2))) pss_nil)))
      (pss_one ps_never)), ?_⟩
  refine q_for (it_tup (ds := b.sorts.map kindD) ((ev_fld (ev_v rfl) hb.ins (E.cls 93) (E.noat 95) rfl).dt hb.sorts) (sortsD_tups _)) fun H3 G s3 eG hB => ⟨fun i σ' H' => Same H3 H' ∧ (∀ k, k ∈ b.sorts.take i → k.1 ≠ z) ∧ ∃ x, σ' = [some (.ref p), some (.str z), x], ⟨Same.refl _, fun k hk => by rw [List.take_zero] at hk; exact absurd hk (List.not_mem_nil), _, rfl⟩, fun i σ' H' q => eG H' q.1, ?_, ?_⟩
  · rintro i d x σ' H' H'' hd ⟨q1, q2, y1, rfl⟩ s4 rd
    obtain ⟨k, e5, rfl⟩ := map_at hd
    refine s_if (b := decide (k.1 = z)) ((et_and (et_B (ev_isiV (t := "str") (b := true) (ev_v rfl) (fun _ _ => .base (.str _)) (by decide +kernel))) fun _ => et_t (ev_eqB (ev_kname (ev_d rfl rd)) (ev_v rfl) rfl dStr)).is (by rfl)) (fun c H5 s5 => ?_) (fun c H5 s5 => ?_)
    · have c := of_decide_eq_true c
      refine s_ret (ev_d rfl (Rep.same s5 rd)) fun v H6 s6 r => h2 v H6 ((((s3.trans q1).trans s4).trans s5).trans s6) ?_
      have : b.kind z = k := by
        unfold Bk.kind
        have e : b.sorts.find? (fun k => decide (k.1 = z)) = some k := by
          rw [List.find?_eq_some_iff_getElem]
          obtain ⟨hi, e6⟩ := List.getElem?_eq_some_iff.mp e5
          refine ⟨decide_eq_true c, i, hi, e6, fun j hj => ?_⟩
          have := q2 b.sorts[j] (List.mem_take_iff_getElem.mpr ⟨j, by omega, rfl⟩)
          simp [this]
        rw [e]; rfl
      rw [this]; exact r
    · have c := of_decide_eq_false c
      refine ⟨(q1.trans s4).trans s5, fun k' hk' => ?_, _, rfl⟩
      rw [List.take_add_one, e5] at hk'
      rcases List.mem_append.mp hk' with w | w
      · exact q2 k' w
      · rw [List.mem_singleton.mp w]; exact c
  · rintro σ' H' ⟨q1, q2, y1, rfl⟩
    rw [List.length_map, List.take_length] at q2
    exact q2 _ (Bk.kind_mem k2).1 (Bk.kind_mem k2).2
end
end LC
end
section
set_option Elab.async false
set_option linter.all false
set_option maxRecDepth 100000
set_option maxHeartbeats 2000000
/-! methods of a book -/
namespace LC
open PySem PySem.Spec L2
theorem stD_app (l m : List Stp) : (stD (l ++ m)) = .tup (l.map Stp.d ++ m.map Stp.d) := by unfold stD; rw [List.map_append]
theorem zip_map {α β γ : Type} (f : α → β → γ) (l : List α) (m : List β) : (List.zip l m).map (fun p => f p.1 p.2) = List.zipWith f l m := by rw [List.zip, List.map_zipWith]
theorem it_z2m {K : PySem.W.Frag} {σ : St} {H : Hp} {ta : TA} {α β : Type} {l1 : List α} {l2 : List β} (b1 b2 : Bool) (f : α → D) (g : β → D) (h : EA ta σ H (Da K [sqD b1 (l1.map f), sqD b2 (l2.map g)])) : IT K (iZ2 b1 b2 K ta) σ H ((List.zip l1 l2).map fun q => .tup [f q.1, g q.2]) BF := by
  have q := it_z2 b1 b2 h
  have e2 : List.zipWith (fun a b => D.tup [a, b]) (l1.map f) (l2.map g) = (List.zip l1 l2).map fun q => .tup [f q.1, g q.2] := by rw [List.zipWith_map, ← zip_map]
  rwa [e2] at q
theorem it_z3m {K : PySem.W.Frag} {σ : St} {H : Hp} {ta : TA} {α β γ : Type} {l1 : List α} {l2 : List β} {l3 : List γ} (b1 b2 b3 : Bool) (f : α → D) (g : β → D) (k : γ → D) (h : EA ta σ H (Da K [sqD b1 (l1.map f), sqD b2 (l2.map g), sqD b3 (l3.map k)])) : IT K (iZ3 b1 b2 b3 K ta) σ H ((List.zip l1 (List.zip l2 l3)).map fun q => .tup [f q.1, g q.2.1, k q.2.2]) BF := by
  have q := it_z3 b1 b2 b3 h
  have e2 : List.zipWith (fun (f : D → D) c => f c) (List.zipWith (fun a b c => D.tup [a, b, c]) (l1.map f) (l2.map g)) (l3.map k) = (List.zip l1 (List.zip l2 l3)).map fun q => .tup [f q.1, g q.2.1, k q.2.2] := by
    rw [List.zipWith_map]
    clear q h
    induction l1 generalizing l2 l3 with
    | nil => rfl
    | cons a l1 ih =>
      cases l2 with
      | nil => rfl
      | cons b l2 =>
        cases l3 with
        | nil => rfl
        | cons c l3 => show D.tup [f a, g b, k c] :: List.zipWith _ (List.zipWith _ l1 l2) (l3.map k) = _ :: _; rw [ih]; rfl
  rwa [e2] at q
section
variable {K : PySem.W.Frag} {σ : St} {H : Hp} {t1 t2 t3 : TE} {l m n : List Stp}
theorem ev_star2 (h1 : Ev t1 σ H (Dt K (stD l))) (h2 : Ev t2 σ H (Dt K (stD m))) (hl : l.length + m.length ≤ 1000) : Ev (tTup (StX.tStar K t1 (StX.tStar K t2 tNil))) σ H (Dt K (stD (l ++ m))) := by
  rw [stD_app]
  have q := ev_tup (da_star h1 (da_star h2 (da_nil (K := K)))) (by rw [List.append_nil, List.length_append, List.length_map, List.length_map]; omega)
  rwa [List.append_nil] at q
theorem ev_star3 (h1 : Ev t1 σ H (Dt K (stD l))) (h2 : Ev t2 σ H (Dt K (stD m))) (h3 : Ev t3 σ H (Dt K (stD n))) (hl : l.length + (m.length + n.length) ≤ 1000) : Ev (tTup (StX.tStar K t1 (StX.tStar K t2 (StX.tStar K t3 tNil)))) σ H (Dt K (stD (l ++ (m ++ n)))) := by
  rw [stD_app, List.map_append]
  have q := ev_tup (da_star h1 (da_star h2 (da_star h3 (da_nil (K := K))))) (by rw [List.append_nil, List.length_append, List.length_append, List.length_map, List.length_map, List.length_map]; omega)
  rwa [List.append_nil] at q
end
section
variable {P : Program} {w : World} {K : PySem.W.Frag} {mg : Str → Option Value} {base : Heap}
theorem ev_heapAt {K : PySem.W.Frag} {σ : St} {H : Hp} {ta tb : TE} {b : Bk} {g : Nat} (ha : Ev ta σ H (Dt K (heapsD b.heaps))) (hb : Ev tb σ H (Is (.int (g : Int)))) (hg : g < b.heaps.length) : Ev (tOp (rIxT K) ta tb) σ H (Dt K (stD (b.heap g))) :=
  ev_ixT (n := g) ha hb (by rw [List.getElem?_map, Bk.heap_at hg]; rfl)
abbrev spRate (K : PySem.W.Frag) : Sp := spH K bkzArg (bkzOk K) fun a => Dt K (fD (a.1.2.rate a.2))
-- self 0 name 1 found 2
theorem sc_Book_rate : FnScope ["self", "name", "found"] ["self", "name"] (defScope (mth 66 7)) := ⟨rfl, rfl, rfl, by decide +kernel, rfl, by decide +kernel, by decide +kernel⟩
theorem ok_Book_rate (E : Env P w K mg base) (m_Book_kind_at : Okm P w K mg base 1 "Book" "kind_at" ["self", "name"] (spKindAt K)) (o_rate_of : Okf P w K mg base 4 "rate_of" ["steps"] (spRateOf K)) : Okm P w K mg base 5 "Book" "rate" ["self", "name"] (spRate K) :=
  okm_mk E 63 112 93 rfl rfl rfl sc_Book_rate (fun _ _ _ _ _ _ us hl => match us, hl with | [_, _], _ => rfl) (spH_len fun _ => rfl) fun cdv A outer s H vs Q E0 hr h => by
  obtain ⟨⟨⟨p, b⟩, z⟩, h1, hk, h2⟩ := h
  obtain ⟨⟨dx, vs, vh, vl, vw, hb⟩, k1, k2⟩ := id hk
  have k1 : b.ok := k1
  have k2 : z ∈ b.names := k2
  obtain ⟨_, _, rfl, rfl, rfl⟩ := two_of h1
  have hb : BkF K H p b dx vs vh vl vw := hb
  have ko := Bk.kind_ok k1 k2
  have ho := Bk.heap_ok k1 ko.place
  have nd := sc_Book_rate.nd
  refine ⟨_, (pss_cons (ps_set (i := 2) nd rfl (.inl rfl) (kMeth (K := K) rfl m_Book_kind_at (hr.mono (by decide)) (pv 0) (pa_cons (pv 1) pa_nil)))
      (pss_one (ps_ret (pe_okf o_rate_of (hr.mono (by decide)) (pa_cons (pe_tup (kStar (K := K) rfl (kIxT (K := K) rfl (pv 2) pe_int) (kStar (K := K) rfl (kIxT (K := K) rfl (kFld (K := K) rfl (pv 0)) (kIxT (K := K) rfl (pv 2) pe_int)) (kStar (K := K) rfl (kFld (K := K) rfl (pv 0)) pa_nil)))) pa_nil))))), ?_⟩
  refine q_asg (ev_mfnH ((p, b), z) (ev_v rfl) hb.ins rfl (da_cons (ev_v rfl) da_nil) rfl fun H1 s => hk.same s) fun y H1 s1 r => ?_
  have r : Rep K H1 (kindD (b.kind z)) y := r
  refine s_ret (ev_fn (b.whole z) (da_cons (ev_star3 (ev_ksteps (ev_d rfl r)) (ev_heapAt ((ev_fld (ev_v rfl) (s1 _ _ hb.ins) (E.cls 93) (E.noat 96) rfl).dt (Rep.same s1 hb.heaps)) (ev_kplace (ev_d rfl r)) ko.place) ((ev_fld (ev_v rfl) (s1 _ _ hb.ins) (E.cls 93) (E.noat 97) rfl).dt (Rep.same s1 hb.last)) ?_) da_nil) (Bk.whole_ok k1 k2)) fun v H2 s2 q => h2 v H2 (s1.trans s2) q
  have := ko.steps.1; have := ho.1; have := k1.last_ok.1
  omega
abbrev spShare (K : PySem.W.Frag) : Sp := spH K bkzArg (bkzOk K) fun a => Dt K (fD (a.1.2.share a.2))
-- self 0 name 1
theorem sc_Book_share : FnScope ["self", "name"] ["self", "name"] (defScope (mth 66 8)) := ⟨rfl, rfl, rfl, by decide +kernel, rfl, by decide +kernel, by decide +kernel⟩
theorem ok_Book_share (E : Env P w K mg base) (m_Book_kind_at : Okm P w K mg base 1 "Book" "kind_at" ["self", "name"] (spKindAt K)) (o_rate_of : Okf P w K mg base 4 "rate_of" ["steps"] (spRateOf K)) : Okm P w K mg base 5 "Book" "share" ["self", "name"] (spShare K) :=
  okm_mk E 64 113 93 rfl rfl rfl sc_Book_share (fun _ _ _ _ _ _ us hl => match us, hl with | [_, _], _ => rfl) (spH_len fun _ => rfl) fun cdv A outer s H vs Q E0 hr h => by
  obtain ⟨⟨⟨p, b⟩, z⟩, h1, hk, h2⟩ := h
  obtain ⟨⟨dx, vs, vh, vl, vw, hb⟩, k1, k2⟩ := id hk
  have k1 : b.ok := k1
  have k2 : z ∈ b.names := k2
  obtain ⟨_, _, rfl, rfl, rfl⟩ := two_of h1
  have hb : BkF K H p b dx vs vh vl vw := hb
  have ko := Bk.kind_ok k1 k2
  have ho := Bk.heap_ok k1 ko.place
  have nd := sc_Book_share.nd
  refine ⟨_, (pss_one (ps_ret (pe_okf o_rate_of (hr.mono (by decide)) (pa_cons (pe_tup (kStar (K := K) rfl (kIxT (K := K) rfl (kFld (K := K) rfl (pv 0)) (kIxT (K := K) rfl (kMeth (K := K) rfl m_Book_kind_at (hr.mono (by decide)) (pv 0) (pa_cons (pv 1) pa_nil)) pe_int)) (kStar (K := K) rfl (kFld (K := K) rfl (pv 0)) pa_nil))) pa_nil)))), ?_⟩
  refine s_ret (ev_fn (b.heap (b.kind z).2.1 ++ b.last) (da_cons (ev_star2 (ev_heapAt ((ev_fld (ev_v rfl) hb.ins (E.cls 93) (E.noat 96) rfl).dt hb.heaps) (ev_kplace (ev_mfnH ((p, b), z) (ev_v rfl) hb.ins rfl (da_cons (ev_v rfl) da_nil) rfl fun H1 s => hk.same s)) ko.place) ((ev_fld (ev_v rfl) hb.ins (E.cls 93) (E.noat 97) rfl).dt hb.last) ?_) da_nil) (Bk.tail_ok k1 k2)) h2
  have := ho.1; have := k1.last_ok.1
  omega
abbrev spPeriod (K : PySem.W.Frag) : Sp := spH K bkzArg (bkzOk K) fun a => Is (.int (a.1.2.period a.2 : Int))
-- self 0 name 1 found 2
theorem sc_Book_period : FnScope ["self", "name", "found"] ["self", "name"] (defScope (mth 66 9)) := ⟨rfl, rfl, rfl, by decide +kernel, rfl, by decide +kernel, by decide +kernel⟩
theorem ok_Book_period (E : Env P w K mg base) (m_Book_kind_at : Okm P w K mg base 1 "Book" "kind_at" ["self", "name"] (spKindAt K)) (o_period_of : Okf P w K mg base 2 "period_of" ["steps"] (spPeriodOf K)) : Okm P w K mg base 3 "Book" "period" ["self", "name"] (spPeriod K) :=
  okm_mk E 65 114 93 rfl rfl rfl sc_Book_period (fun _ _ _ _ _ _ us hl => match us, hl with | [_, _], _ => rfl) (spH_len fun _ => rfl) fun cdv A outer s H vs Q E0 hr h => by
  obtain ⟨⟨⟨p, b⟩, z⟩, h1, hk, h2⟩ := h
  obtain ⟨⟨dx, vs, vh, vl, vw, hb⟩, k1, k2⟩ := id hk
  have k1 : b.ok := k1
  have k2 : z ∈ b.names := k2
  obtain ⟨_, _, rfl, rfl, rfl⟩ := two_of h1
  have hb : BkF K H p b dx vs vh vl vw := hb
  have ko := Bk.kind_ok k1 k2
  have ho := Bk.heap_ok k1 ko.place
  have nd := sc_Book_period.nd
  refine ⟨_, (pss_cons (ps_set (i := 2) nd rfl (.inl rfl) (kMeth (K := K) rfl m_Book_kind_at (hr.mono (by decide)) (pv 0) (pa_cons (pv 1) pa_nil)))
      (pss_one (ps_ret (pe_okf o_period_of (hr.mono (by decide)) (pa_cons (pe_tup (kStar (K := K) rfl (kIxT (K := K) rfl (pv 2) pe_int) (kStar (K := K) rfl (kIxT (K := K) rfl (kFld (K := K) rfl (pv 0)) (kIxT (K := K) rfl (pv 2) pe_int)) (kStar (K := K) rfl (kFld (K := K) rfl (pv 0)) pa_nil)))) pa_nil))))), ?_⟩
  refine q_asg (ev_mfnH ((p, b), z) (ev_v rfl) hb.ins rfl (da_cons (ev_v rfl) da_nil) rfl fun H1 s => hk.same s) fun y H1 s1 r => ?_
  have r : Rep K H1 (kindD (b.kind z)) y := r
  refine s_ret (ev_fn (b.whole z) (da_cons (ev_star3 (ev_ksteps (ev_d rfl r)) (ev_heapAt ((ev_fld (ev_v rfl) (s1 _ _ hb.ins) (E.cls 93) (E.noat 96) rfl).dt (Rep.same s1 hb.heaps)) (ev_kplace (ev_d rfl r)) ko.place) ((ev_fld (ev_v rfl) (s1 _ _ hb.ins) (E.cls 93) (E.noat 97) rfl).dt (Rep.same s1 hb.last)) ?_) da_nil) (Bk.whole_ok k1 k2)) fun v H2 s2 q => h2 v H2 (s1.trans s2) q
  have := ko.steps.1; have := ho.1; have := k1.last_ok.1
  omega
def natsD (l : List Nat) : D := .tup (l.map fun (n : Nat) => .int (n : Int))
theorem nats_tups (l : List Nat) : D.tupsOnlys (l.map fun (n : Nat) => D.int (n : Int)) = true := by
  induction l with
  | nil => rfl
  | cons a l ih => show (true && D.tupsOnlys (l.map fun (n : Nat) => D.int (n : Int))) = true; rw [ih]; rfl
abbrev spPeriods (K : PySem.W.Frag) : Sp := spH K bkArg (fun a H => BookAt K H a.1 a.2 ∧ a.2.ok) fun a => Dt K (natsD a.2.periods)
-- self 0 steps 1
theorem sc_Book_periods : FnScope ["self", "steps"] ["self"] (defScope (mth 66 10)) := ⟨rfl, rfl, rfl, by decide +kernel, rfl, by decide +kernel, by decide +kernel⟩
theorem ok_Book_periods (E : Env P w K mg base) (o_period_of : Okf P w K mg base 2 "period_of" ["steps"] (spPeriodOf K)) : Okm P w K mg base 3 "Book" "periods" ["self"] (spPeriods K) :=
  okm_mk E 66 115 93 rfl rfl rfl sc_Book_periods (fun _ _ _ _ _ _ us hl => match us, hl with | [_], _ => rfl) (spH_len fun _ => rfl) fun cdv A outer s H vs Q E0 hr h => by
  obtain ⟨⟨p, b⟩, h1, ⟨⟨dx, vs, vh, vl, vw, hb⟩, k1⟩, h2⟩ := h
  have k1 : b.ok := k1
  have hb : BkF K H p b dx vs vh vl vw := hb
  obtain ⟨_, rfl, rfl⟩ := one_of h1
  have nd := sc_Book_periods.nd
  refine ⟨_, (pss_one (ps_ret (kTy (K := K) (r' := rTupOf) rfl call_tuple_of (E.free 66) (by decide +kernel) (pa_cons (pe_lc (own := [("steps", 1)]) (g := gName 1) (tt := tYes)  rfl nd (kITup (K := K) rfl (kFld (K := K) rfl (pv 0))) (blkOk_by (N := ["self", "steps"]) (sc := defScope (mth 66 10)) (by decide +kernel)) (fun _ _ _ _ _ => (pg_name (i := 1) nd rfl (.inl rfl))) (fun _ _ _ _ _ => pts_nil) (fun _ _ _ _ _ => (pe_okf o_period_of (hr.mono (by decide)) (pa_cons (pe_tup (kStar (K := K) rfl (pv 1) (kStar (K := K) rfl (kFld (K := K) rfl (pv 0)) pa_nil))) pa_nil)))) pa_nil)))), ?_⟩
  have hl := k1.hfew
  refine s_ret (ev_tupOf (da_cons (NewL.dt (l := b.heaps.map fun s => .int (perS (s ++ b.last) : Int)) ?_) da_nil)) fun v H1 s1 q => h2 v H1 s1 (by show Rep K H1 (.tup ((b.heaps.map fun s => perS (s ++ b.last)).map fun (n : Nat) => D.int (n : Int))) v; rw [List.map_map]; exact q)
  refine ev_lc1 stD _ (it_tup (ds := b.heaps.map stD) ((ev_fld (ev_v rfl) hb.ins (E.cls 93) (E.noat 96) rfl).dt hb.heaps) (heapsD_tups _)) (by omega) (fun _ => rfl) (fun _ _ => rfl) fun s x H1 hs s1 r => ?_
  have so := k1.heaps_ok s hs
  have ok2 : OkS 6 (s ++ b.last) := (so.app k1.last_ok).mono (by decide)
  exact ev_fn (s ++ b.last) (da_cons (ev_star2 (ev_d rfl r) ((ev_fld (ev_v rfl) (s1 _ _ hb.ins) (E.cls 93) (E.noat 97) rfl).dt (Rep.same s1 hb.last)) (by have := so.1; have := k1.last_ok.1; omega)) da_nil) ok2
/-! ### size -/
abbrev spSize (K : PySem.W.Frag) : Sp := spH K bkArg (fun a H => BookAt K H a.1 a.2 ∧ a.2.ok) fun a => Is (.int (a.2.size : Int))
theorem per_lt {b : Bk} (h : b.ok) {n : Nat} (hn : n ∈ b.periods) : n < 2 ^ 30 ∧ 0 < n := by
  obtain ⟨s, hs, rfl⟩ := List.mem_map.mp hn
  have q := perS_ok (((h.heaps_ok s hs).app h.last_ok).mono (show 2 + 2 ≤ 6 by decide))
  have e : (30 : Nat) ^ 6 = 729000000 := by decide
  exact ⟨by omega, q.2⟩
-- self 0 found 1 period 2
theorem sc_Book_size : FnScope ["self", "found", "period"] ["self"] (defScope (mth 66 11)) := ⟨rfl, rfl, rfl, by decide +kernel, rfl, by decide +kernel, by decide +kernel⟩
theorem ok_Book_size (E : Env P w K mg base) (m_Book_periods : Okm P w K mg base 3 "Book" "periods" ["self"] (spPeriods K)) : Okm P w K mg base 4 "Book" "size" ["self"] (spSize K) :=
  okm_mk E 67 116 93 rfl rfl rfl sc_Book_size (fun _ _ _ _ _ _ us hl => match us, hl with | [_], _ => rfl) (spH_len fun _ => rfl) fun cdv A outer s H vs Q E0 hr h => by
  obtain ⟨⟨p, b⟩, h1, ⟨hk, k1⟩, h2⟩ := h
  obtain ⟨dx, vs, vh, vl, vw, hb⟩ := id hk
  have k1 : b.ok := k1
  have hb : BkF K H p b dx vs vh vl vw := hb
  obtain ⟨_, rfl, rfl⟩ := one_of h1
  have nd := sc_Book_size.nd
  refine ⟨_, (pss_cons (ps_set (i := 1) nd rfl (.inl rfl) pe_int)
      (pss_cons (ps_for PassesOwn.never rfl (kITup (K := K) rfl (kMeth0 (K := K) rfl m_Book_periods (hr.mono (by decide)) (pv 0))) (pg_name (i := 2) nd rfl (.inl rfl)) (pss_one (ps_set (i := 1) nd rfl (.inl rfl) (pe_op op_mul (pv 1) (pv 2)))))
      (pss_one (ps_ret (pv 1))))), ?_⟩
  refine q_let ev_c fun H1 s1 => ?_
  refine q_for (it_tup (ds := b.periods.map fun (n : Nat) => .int (n : Int)) (ev_mfnH (p, b) (ev_v rfl) (s1 _ _ hb.ins) rfl da_nil rfl fun H2 s => ⟨hk.same (s1.trans s), k1⟩) (nats_tups _)) fun H3 G s3 eG hB => ⟨fun i σ' H' => Same H3 H' ∧ ∃ x, σ' = [some (.ref p), some (.int ((b.periods.take i).foldl (· * ·) 1 : Nat)), x], ⟨Same.refl _, _, rfl⟩, fun i σ' H' q => eG H' q.1, ?_, ?_⟩
  · rintro i d x σ' H' H'' hd ⟨q1, y1, rfl⟩ s4 rd
    obtain ⟨n, e5, rfl⟩ := map_at hd
    have rd : x = .int (n : Int) := rd
    subst rd
    have := (per_lt k1 (List.mem_of_getElem? e5)).1
    refine s_let (ev_mulR (ev_v rfl) (ev_v rfl) (by omega) (by omega)) fun H5 s5 => ⟨(q1.trans s4).trans s5, some (.int (n : Int)), ?_⟩
    rw [fold_at e5, ← Int.natCast_mul]
    rfl
  · rintro σ' H' ⟨q1, y1, rfl⟩
    rw [List.length_map, List.take_length]
    exact s_retv (ev_v rfl) fun H5 s5 => h2 _ _ (((s1.trans s3).trans q1).trans s5) rfl
/-! ### value -/
abbrev spValue (K : PySem.W.Frag) : Sp := spH K (fun a : ((Addr × Bk) × Str) × Nat => [.ref a.1.1.1, .str a.1.2, .int (a.2 : Int)]) (fun a => bkzOk K a.1) fun a => Is (.int (a.1.1.2.value a.1.2 a.2))
-- self 0 name 1 amount 2 found 3
theorem sc_Book_value : FnScope ["self", "name", "amount", "found"] ["self", "name", "amount"] (defScope (mth 66 12)) := ⟨rfl, rfl, rfl, by decide +kernel, rfl, by decide +kernel, by decide +kernel⟩
theorem ok_Book_value (E : Env P w K mg base) (m_Book_kind_at : Okm P w K mg base 1 "Book" "kind_at" ["self", "name"] (spKindAt K)) (o_check_number : Okf P w K mg base 3 "check_number" ["value", "low", "high"] (spCheckNumber K)) (o_led : Okf P w K mg base 2 "led" ["steps", "value"] (spLed K)) : Okm P w K mg base 4 "Book" "value" ["self", "name", "amount"] (spValue K) :=
  okm_mk E 68 117 93 rfl rfl rfl sc_Book_value (fun _ _ _ _ _ _ us hl => match us, hl with | [_, _, _], _ => rfl) (spH_len fun _ => rfl) fun cdv A outer s H vs Q E0 hr h => by
  obtain ⟨⟨⟨⟨p, b⟩, z⟩, n⟩, h1, hk, h2⟩ := h
  have hk : bkzOk K ((p, b), z) H := hk
  obtain ⟨⟨dx, vs, vh, vl, vw, hb⟩, k1, k2⟩ := id hk
  have k1 : b.ok := k1
  have k2 : z ∈ b.names := k2
  obtain ⟨_, _, rfl, rfl, _, _, rfl, rfl, h1⟩ := h1
  obtain ⟨_, rfl, rfl⟩ := one_of h1
  have hb : BkF K H p b dx vs vh vl vw := hb
  have ko := Bk.kind_ok k1 k2
  have nd := sc_Book_value.nd
  refine ⟨_, (pss_cons (ps_set (i := 3) nd rfl (.inl rfl) (kMeth (K := K) rfl m_Book_kind_at (hr.mono (by decide)) (pv 0) (pa_cons (pv 1) pa_nil)))
      (pss_cons (ps_expr (pe_okf o_check_number (hr.mono (by decide)) (pa_cons (pv 2) (pa_cons pe_int (pa_cons pe_non pa_nil)))))
      (pss_one (ps_ret (pe_okf o_led (hr.mono (by decide)) (pa_cons (kIxT (K := K) rfl (pv 3) pe_int) (pa_cons (pv 2) pa_nil))))))), ?_⟩
  refine q_asg (ev_mfnH ((p, b), z) (ev_v rfl) hb.ins rfl (da_cons (ev_v rfl) da_nil) rfl fun H1 s => hk.same s) fun y H1 s1 r => ?_
  have r : Rep K H1 (kindD (b.kind z)) y := r
  refine q_drop (ev_fn ((n : Int), 0, none) (da_cons (ev_v rfl) (da_cons ev_c (da_cons ev_c da_nil))) (betw_nat n)) fun u H2 s2 _ => ?_
  exact s_ret (ev_fn ((b.kind z).2.2, (n : Int)) (da_cons (ev_ksteps (ev_d rfl (Rep.same s2 r))) (da_cons (ev_v rfl) da_nil)) ko.steps.2) fun v H3 s3 q => h2 v H3 ((s1.trans s2).trans s3) q
/-! ### ask_of_sums -/
abbrev spAsk (K : PySem.W.Frag) : Sp := spH K (fun a : (Addr × Bk) × List Int => [.ref a.1.1, intsD a.2]) (fun a H => BookAt K H a.1.1 a.1.2 ∧ a.1.2.ok) fun a => Is (.int (a.1.2.ask a.2))
-- self 0 sums 1 steps 2 found 3
theorem sc_Book_ask_of_sums : FnScope ["self", "sums", "steps", "found"] ["self", "sums"] (defScope (mth 66 15)) := ⟨rfl, rfl, rfl, by decide +kernel, rfl, by decide +kernel, by decide +kernel⟩
theorem ok_Book_ask_of_sums (E : Env P w K mg base) (o_led : Okf P w K mg base 2 "led" ["steps", "value"] (spLed K)) : Okm P w K mg base 3 "Book" "ask_of_sums" ["self", "sums"] (spAsk K) :=
  okm_mk E 70 119 93 rfl rfl rfl sc_Book_ask_of_sums (fun _ _ _ _ _ _ us hl => match us, hl with | [_, _], _ => rfl) (spH_len fun _ => rfl) fun cdv A outer s H vs Q E0 hr h => by
  obtain ⟨⟨⟨p, b⟩, ns⟩, h1, ⟨⟨dx, vs, vh, vl, vw, hb⟩, k1⟩, h2⟩ := h
  have k1 : b.ok := k1
  have hb : BkF K H p b dx vs vh vl vw := hb
  obtain ⟨_, v2, rfl, rfl, r⟩ := two_of h1
  have r : Rep K H (.tup (ns.map D.int)) v2 := r
  have nd := sc_Book_ask_of_sums.nd
  refine ⟨_, (pss_one (ps_ret (pe_okf o_led (hr.mono (by decide)) (pa_cons (kFld (K := K) rfl (pv 0)) (pa_cons (kB (K := K) (r := fun _ _ _ => True) (r' := rSum) rfl (cr_sum rfl) (E.free 72) (by decide +kernel) (pa_cons (pe_lc (own := [("steps", 2), ("found", 3)]) (g := gTup K 2 (gCons (gName 2) (gCons (gName 3) gNil))) (tt := tYes)  rfl nd (kZ2 (K := K) true true rfl (E.free 71) (pa_cons (kFld (K := K) rfl (pv 0)) (pa_cons (pv 1) pa_nil))) (blkOk_by (N := ["self", "sums", "steps", "found"]) (sc := defScope (mth 66 15)) (by decide +kernel)) (fun _ _ _ _ _ => (kGTup (K := K) rfl rfl (pgs_cons (pg_name (i := 2) nd rfl (.inl rfl)) (pgs_cons (pg_name (i := 3) nd rfl (.inl rfl)) pgs_nil)))) (fun _ _ _ _ _ => pts_nil) (fun _ _ _ _ _ => (pe_okf o_led (hr.mono (by decide)) (pa_cons (pv 2) (pa_cons (pv 3) pa_nil))))) pa_nil)) pa_nil))))), ?_⟩
  have hl := k1.hfew
  refine s_ret (ev_fn (b.last, (List.zipWith ledS b.heaps ns).sum) (da_cons ((ev_fld (ev_v rfl) hb.ins (E.cls 93) (E.noat 97) rfl).dt hb.last) (da_cons (ev_sum (K := K) (da_cons (NewL.dt (H := H) (l := (List.zipWith ledS b.heaps ns).map D.int) ?_) da_nil)) da_nil)) k1.last_ok.2) h2
  have e1 : (List.zipWith ledS b.heaps ns).map D.int = (List.zip b.heaps ns).map fun q => .int (ledS q.1 q.2) := by rw [← zip_map, List.map_map]; rfl
  rw [e1]
  refine ev_lc2 (fun q : List Stp × Int => stD q.1) (fun q => .int q.2) _ (it_z2m true true stD D.int (da_cons ((ev_fld (ev_v rfl) hb.ins (E.cls 93) (E.noat 96) rfl).dt hb.heaps) (da_cons (ev_d rfl r) da_nil))) (by rw [List.length_zip]; omega) (fun _ _ => rfl) (fun _ _ => rfl) fun a x y H1 ha s1 rx ry => ?_
  exact ev_fn (a.1, a.2) (da_cons (ev_d rfl rx) (da_cons (ev_d rfl ry) da_nil)) (k1.heaps_ok _ (List.of_mem_zip ha).1).2
end
end LC
end
section
set_option Elab.async false
set_option linter.all false
set_option maxRecDepth 100000
set_option maxHeartbeats 2000000
/-! sums of a bill of one line; a book made -/
namespace LC
open PySem PySem.Spec L2
theorem flat_rep {α : Type} (u : α) : ∀ n, (List.replicate n [u]).flatten = List.replicate n u
  | 0 => rfl
  | n + 1 => by rw [List.replicate_succ, List.flatten_cons, flat_rep u n]; rfl
theorem rep_rep {K : PySem.W.Frag} {H : Hp} {d : D} {u : V} (h : Rep K H d u) : ∀ n, RepAll K H (List.replicate n d) (List.replicate n u)
  | 0 => rfl
  | n + 1 => ⟨u, _, rfl, h, rep_rep h n⟩
section
variable {K : PySem.W.Frag} {σ : St} {H : Hp} {ta tb te : TE} {E : Ends} {q : Addr} {xs : List V} {l : List D} {i j : Int} {P : PV} {z : TS}
/-- xs[i] += e -/
theorem s_augL {g : Nat} (h : Ev ta σ H (Is (.ref q))) (hi : Ev tb σ H (Is (.int (g : Int)))) (hq : H q = some (.lst xs)) (hx : xs[g]? = some (.int i)) (he : Ev te σ H (Is (.int j))) (k : ∀ H1, Same H H1 → E.nx σ (upd H1 q (.lst (xs.set g (.int (i + j)))))) : tAugS ta tb te (rGetL K) (ipI fun i j => i + j) rSetL E σ H :=
  h H (Same.refl _) _ fun v H1 s1 e1 => hi H1 s1 _ fun w H2 s2 e2 => ⟨q, xs, g, .int i, e1, e2, SqL.of ((s1.trans s2) _ _ hq), by omega, by rw [Int.toNat_natCast]; exact hx, he H2 (s1.trans s2) _ fun y H3 s3 e3 => ⟨i, j, rfl, e3, q, xs, g, g, e1, e2, ((s1.trans s2).trans s3) _ _ hq, by
    have : g < xs.length := (List.getElem?_eq_some_iff.mp hx).1
    unfold ixN
    rw [if_pos (by omega), Int.toNat_natCast, if_pos (by omega)], k H3 ((s1.trans s2).trans s3)⟩⟩
/-- [x] * n -/
theorem ev_repL {d : D} {n : Nat} (h : Ev ta σ H (NewL K H [d])) (hb : Ev tb σ H (Is (.int (n : Int)))) (hn : n ≤ 1000) : Ev (tOp rRep ta tb) σ H (NewL K H (List.replicate n d)) := fun H1 s Q k =>
  h H1 s _ fun v H2 s2 ⟨p, ys, e1, e2, e3, e4⟩ => hb H2 (s.trans s2) _ fun w H3 s3 e5 => by
    obtain ⟨u, r, f1, f2, f3⟩ := e4
    have f3 : r = [] := f3
    subst f3 f1
    refine ⟨p, (n : Int), [u], e1, e5, s3 _ _ e3, by omega, by omega, sz (by show 1 * (n : Int).toNat ≤ _; rw [Int.toNat_natCast]; omega), fun a ha => k _ _ ((s2.trans s3).trans (same_new ha)) ⟨a, List.replicate n u, rfl, fresh_back ((s.trans s2).trans s3) ha, ?_, ?_⟩⟩
    · rw [upd_same, Int.toNat_natCast]
      rw [flat_rep]
    · exact rep_rep (Rep.same (s3.trans (same_new ha)) f2) n
end
section
variable {P : Program} {w : World} {K : PySem.W.Frag} {mg : Str → Option Value} {base : Heap}
abbrev spSums (K : PySem.W.Frag) : Sp := spH K (fun a : ((Addr × Bk) × Str) × Nat => [.ref a.1.1.1, .tup [lineD (a.1.2, a.2)]]) (fun a => bkzOk K a.1) fun a => Dt K (intsD (a.1.1.2.sums a.1.2 a.2))
-- self 0 bill 1 found 2 name 3 amount 4 kind 5
theorem sc_Book_sums : FnScope ["self", "bill", "found", "name", "amount", "kind"] ["self", "bill"] (defScope (mth 66 13)) := ⟨rfl, rfl, rfl, by decide +kernel, rfl, by decide +kernel, by decide +kernel⟩
theorem ok_Book_sums (E : Env P w K mg base) (o_check_bill : Okf P w K mg base 4 "check_bill" ["bill", "names"] (spCheckBill K)) (p_Book_names : Okp P w K mg base 1 "Book" "names" (spNames K)) (m_Book_kind_at : Okm P w K mg base 1 "Book" "kind_at" ["self", "name"] (spKindAt K)) (o_led : Okf P w K mg base 2 "led" ["steps", "value"] (spLed K)) : Okm P w K mg base 5 "Book" "sums" ["self", "bill"] (spSums K) :=
  okm_mk E 69 118 93 rfl rfl rfl sc_Book_sums (fun _ _ _ _ _ _ us hl => match us, hl with | [_, _], _ => rfl) (spH_len fun _ => rfl) fun cdv A outer s H vs Q E0 hr h => by
  obtain ⟨⟨⟨⟨p, b⟩, z⟩, n⟩, h1, hk, h2⟩ := h
  have hk : bkzOk K ((p, b), z) H := hk
  obtain ⟨⟨dx, vs, vh, vl, vw, hb⟩, k1, k2⟩ := id hk
  have k1 : b.ok := k1
  have k2 : z ∈ b.names := k2
  obtain ⟨_, v2, rfl, rfl, r⟩ := two_of h1
  have hb : BkF K H p b dx vs vh vl vw := hb
  have ko := Bk.kind_ok k1 k2
  have kp := ko.place
  have hl := k1.hfew
  have r : Rep K H (.tup ([(z, n)].map lineD)) v2 := r
  have nd := sc_Book_sums.nd
  refine ⟨_, (pss_cons (ps_expr (pe_okf o_check_bill (hr.mono (by decide)) (pa_cons (pv 1) (pa_cons (kProp (K := K) rfl p_Book_names (hr.mono (by decide)) (pv 0)) pa_nil))))
      (pss_cons (ps_set (i := 2) nd rfl (.inl rfl) (pe_op op_rep (pe_lst (pa_cons pe_int pa_nil)) (kLen (K := K) rfl (E.free 61) (pa_cons (kFld (K := K) rfl (pv 0)) pa_nil))))
      (pss_cons (ps_for PassesOwn.never rfl (kITup (K := K) rfl (pv 1)) (kGTup (K := K) (n := 2) rfl rfl (pgs_cons (pg_name (i := 3) nd rfl (.inl rfl)) (pgs_cons (pg_name (i := 4) nd rfl (.inl rfl)) pgs_nil))) (pss_cons (ps_set (i := 5) nd rfl (.inl rfl) (kMeth (K := K) rfl m_Book_kind_at (hr.mono (by decide)) (pv 0) (pa_cons (pv 3) pa_nil)))
      (pss_one (kAugL (K := K) rfl (pv 2) (kIxT (K := K) rfl (pv 5) pe_int) (pe_okf o_led (hr.mono (by decide)) (pa_cons (kIxT (K := K) rfl (pv 5) pe_int) (pa_cons (pv 4) pa_nil))) ip_add))))
      (pss_one (ps_ret (kTy (K := K) (r' := rTupOf) rfl call_tuple_of (E.free 66) (by decide +kernel) (pa_cons (pv 2) pa_nil))))))), ?_⟩
  refine q_drop (ev_fn ([(z, n)], b.names) (da_cons (ev_d rfl r) (da_cons (ev_pfnH (p, b) (ev_v rfl) hb.ins rfl fun H1 s => ⟨hk.1.same s, k1.few⟩) da_nil)) (fun x hx => by rw [List.mem_singleton.mp hx]; exact k2)) fun v H1 s1 _ => ?_
  refine q_asg (ev_repL (K := K) (n := b.heaps.length) (d := .int 0) (ev_lst (da_cons ev_c da_nil) (by decide)) ((ev_len (K := K) true (l := b.heaps.map stD) (da_cons ((ev_fld (ev_v rfl) (s1 _ _ hb.ins) (E.cls 93) (E.noat 96) rfl).dt (Rep.same s1 hb.heaps)) da_nil)).is (by rw [List.length_map])) (by omega)) fun v H2 s2 ⟨q, xs, e1, e2, e3, e4⟩ => ?_
  subst e1
  have exs : xs = (List.replicate b.heaps.length (0 : Int)).map V.int := by
    have e4 : RepAll K H2 ((List.replicate b.heaps.length (0 : Int)).map D.int) xs := by rw [List.map_replicate]; exact e4
    exact e4.ints_eq
  have r2 := Rep.same (s1.trans s2) r
  refine q_for (it_tup (ds := [(z, n)].map lineD) (ev_d rfl r2) (lineD_tups _)) fun H3 G s3 eG hB => ⟨fun i σ' H' => KeepT H3 H' ∧ Same H1 H' ∧ (∃ x y u, σ' = [some (.ref p), some v2, some (.ref q), x, y, u]) ∧ H' q = some (.lst ((if i = 0 then List.replicate b.heaps.length (0 : Int) else b.sums z n).map V.int)), ⟨KeepT.refl _, s2.trans s3, ⟨_, _, _, rfl⟩, by rw [if_pos rfl, ← exs]; exact s3 _ _ e3⟩, fun i σ' H' q => hB H' q.1, ?_, ?_⟩
  · rintro i d x σ' H' H'' hd ⟨q1, q2, ⟨x1, y1, u1, rfl⟩, q3⟩ s4 rd
    obtain ⟨k, e5, rfl⟩ := map_at hd
    have hi : i = 0 := by have := (List.getElem?_eq_some_iff.mp e5).1; simp at this; omega
    subst hi
    have ek : k = (z, n) := by simpa using e5.symm
    subst ek
    refine g_tup2 rd fun a c ra rc => ?_
    have ra : a = .str z := ra
    have rc : c = .int (n : Int) := rc
    subst ra rc
    have s14 := q2.trans s4
    refine q_asg (ev_mfnH ((p, b), z) (ev_v rfl) ((s1.trans s14) _ _ hb.ins) rfl (da_cons (ev_v rfl) da_nil) rfl fun H1 s => hk.same ((s1.trans s14).trans s)) fun y H5 s5 ry => ?_
    have ry : Rep K H5 (kindD (b.kind z)) y := ry
    rw [if_pos rfl] at q3
    refine s_augL (i := 0) (j := ledS (b.kind z).2.2 n) (ev_v rfl) (ev_kplace (ev_d rfl ry)) ((s4.trans s5) _ _ q3) (by rw [List.getElem?_map, List.getElem?_replicate, if_pos kp]; rfl) (ev_fn ((b.kind z).2.2, (n : Int)) (da_cons (ev_ksteps (ev_d rfl ry)) (da_cons (ev_v rfl) da_nil)) ko.steps.2) fun H6 s6 => ?_
    have s46 := (s4.trans s5).trans s6
    refine ⟨(q1.trans (Same.keepT s46)).trans (keepT_updL (s46 _ _ q3)), same_mut (q2.trans s46) e2, ⟨_, _, _, rfl⟩, ?_⟩
    rw [upd_same, if_neg (by decide)]
    unfold Bk.sums Bk.value
    rw [Int.zero_add, List.map_set]
  · rintro σ' H' ⟨q1, q2, ⟨x1, y1, u1, rfl⟩, q3⟩
    rw [if_neg (by show ¬ (1 = 0); decide)] at q3
    exact s_ret (ev_tupOf (K := K) (l := (b.sums z n).map D.int) (da_cons (ev_d rfl ⟨q, _, rfl, SqL.of q3, RepAll.ints _⟩) da_nil)) fun v H6 s6 r => h2 v H6 ((s1.trans q2).trans s6) r
/-! ### Book(kinds, groups, whole) -/
abbrev spBookNew (K : PySem.W.Frag) : Sp := fun vs H Q _ => ∃ (p dx : Addr) (b : Bk) (v1 v2 v3 : V), vs = [.ref p, v1, v2, v3] ∧ H p = some (.ins (He.ga K "Book") dx []) ∧ b.ok ∧ Rep K H (sortsD b.sorts) v1 ∧ Rep K H (heapsD b.heaps) v2 ∧ Rep K H (stD b.last) v3 ∧
  ∀ H2, (∀ a o, a ≠ p → H a = some o → H2 a = some o) → BookAt K H2 p b → Q .non H2
theorem stD_t1 (l : List Stp) : (stD l).tupsOnly = true := stD_tups l
theorem sortsD_t1 (l : List (Str × Nat × List Stp)) : (sortsD l).tupsOnly = true := sortsD_tups l
theorem heapsD_t1 (l : List (List Stp)) : (heapsD l).tupsOnly = true := heapsD_tups l
-- self 0 kinds 1 groups 2 whole 3
theorem sc_Book_init : FnScope ["self", "kinds", "groups", "whole"] ["self", "kinds", "groups", "whole"] (defScope (mth 66 0)) := ⟨rfl, rfl, rfl, by decide +kernel, rfl, by decide +kernel, by decide +kernel⟩
theorem ok_Book_init (E : Env P w K mg base) (o_check_kinds : Okf P w K mg base 7 "check_kinds" ["kinds"] (spCheckKinds K)) (o_check_groups : Okf P w K mg base 6 "check_groups" ["groups"] (spCheckGroups K)) (o_check_places : Okf P w K mg base 1 "check_places" ["kinds", "many"] (spCheckPlaces K)) (o_check_whole : Okf P w K mg base 5 "check_whole" ["whole"] (spCheckWhole K)) (o_text_of : Okf P w K mg base 3 "text_of" ["kinds", "groups", "whole"] (spTextOf K)) : Okc P w K mg base 8 "Book" ["self", "kinds", "groups", "whole"] (spBookNew K) :=
  okc_mk E 61 94 92 rfl rfl rfl sc_Book_init (fun _ _ _ _ _ _ us hl => match us, hl with | [_, _, _, _], _ => rfl) (by rintro _ _ _ _ ⟨_, _, _, _, _, _, rfl, _⟩; rfl) fun cdv A outer s H vs Q E0 hr h => by
  obtain ⟨p, dx, b, v1, v2, v3, rfl, hp, hk, r1, r2, r3, h2⟩ := h
  have nd := sc_Book_init.nd
  refine ⟨_, (pss_cons (ps_expr (pe_okf o_check_kinds (hr.mono (by decide)) (pa_cons (pv 1) pa_nil)))
      (pss_cons (ps_expr (pe_okf o_check_groups (hr.mono (by decide)) (pa_cons (pv 2) pa_nil)))
      (pss_cons (ps_expr (pe_okf o_check_places (hr.mono (by decide)) (pa_cons (pv 1) (pa_cons (kLen (K := K) rfl (E.free 61) (pa_cons (pv 2) pa_nil)) pa_nil))))
      (pss_cons (ps_expr (pe_okf o_check_whole (hr.mono (by decide)) (pa_cons (pv 3) pa_nil)))
      (pss_cons (ps_asg (pe_tup (pa_cons (pv 1) (pa_cons (pv 2) (pa_cons (pv 3) pa_nil)))) (kGTup (K := K) (n := 3) rfl rfl (pgs_cons (kGFld (K := K) rfl (pv 0)) (pgs_cons (kGFld (K := K) rfl (pv 0)) (pgs_cons (kGFld (K := K) rfl (pv 0)) pgs_nil)))))
      (pss_one (kSFld (K := K) rfl (pv 0) (pe_okf o_text_of (hr.mono (by decide)) (pa_cons (pv 1) (pa_cons (pv 2) (pa_cons (pv 3) pa_nil))))))))))), ?_⟩
  refine q_drop (ev_fn (b.sorts, b.heaps.length) (da_cons (ev_d rfl r1) da_nil) ⟨hk.some, hk.few, hk.kinds, hk.once⟩) fun _ H1 s1 _ => ?_
  refine q_drop (ev_fn b.heaps (da_cons (ev_d rfl (Rep.same s1 r2)) da_nil) ⟨hk.hsome, hk.hfew, hk.heaps_ok⟩) fun _ H2 s2 _ => ?_
  have s12 := s1.trans s2
  refine q_drop (ev_fn (b.sorts, b.heaps.length) (da_cons (ev_d rfl (Rep.same s12 r1)) (da_cons ((ev_len (K := K) true (l := b.heaps.map stD) (da_cons (ev_d rfl (Rep.same s12 r2)) da_nil)).is (by rw [List.length_map])) da_nil)) hk.kinds) fun _ H3 s3 _ => ?_
  have s13 := s12.trans s3
  refine q_drop (ev_fn b.last (da_cons (ev_d rfl (Rep.same s13 r3)) da_nil) hk.last_ok) fun _ H4 s4 _ => ?_
  have s14 := s13.trans s4
  refine q_asgG (ev_tup (K := K) (l := [sortsD b.sorts, heapsD b.heaps, stD b.last]) (da_cons (ev_d rfl (Rep.same s14 r1)) (da_cons (ev_d rfl (Rep.same s14 r2)) (da_cons (ev_d rfl (Rep.same s14 r3)) da_nil))) (show 3 ≤ 100000 by decide)) fun t H5 s5 ⟨a, xs, e1, ht, u1, t1, e2, g1, u2, t2, e3, g2, u3, t3, e4, g3, e5⟩ => ?_
  have e5 : t3 = [] := e5
  subst e5 e4 e3 e2 e1
  have hp5 := (s14.trans s5) _ _ hp
  refine ⟨a, _, rfl, SqT.of ht, rfl, u1, _, rfl, .ref p, rfl, p, _, dx, [], rfl, hp5, E.cls 93, E.noat 95, by decide, u2, _, rfl, .ref p, rfl, p, _, dx, [("sorts", u1)], rfl, upd_same, E.cls 93, E.noat 96, (show 1 < 1000 by decide), u3, _, rfl, .ref p, rfl, p, _, dx, [("sorts", u1), ("heaps", u2)], rfl, upd_same, E.cls 93, E.noat 97, (show 2 < 1000 by decide), rfl, ?_⟩
  have kt : KeepT H5 (upd (upd (upd H5 p (.ins (He.ga K "Book") dx [("sorts", u1)])) p (.ins (He.ga K "Book") dx [("sorts", u1), ("heaps", u2)])) p (.ins (He.ga K "Book") dx [("sorts", u1), ("heaps", u2), ("last", u3)])) :=
    ((keepT_updI hp5).trans (keepT_updI upd_same)).trans (keepT_updI upd_same)
  have s15 := s14.trans s5
  refine ev_fn (K := K) b (da_cons (ev_d rfl (Rep.keepT kt (sortsD_t1 _) (Rep.same s15 r1))) (da_cons (ev_d rfl (Rep.keepT kt (heapsD_t1 _) (Rep.same s15 r2))) (da_cons (ev_d rfl (Rep.keepT kt (stD_t1 _) (Rep.same s15 r3))) da_nil))) hk _ (Same.refl _) _ fun y H7 s7 _ => ?_
  refine ⟨.ref p, rfl, p, _, dx, [("sorts", u1), ("heaps", u2), ("last", u3)], rfl, s7 _ _ upd_same, E.cls 93, E.noat 98, (show 3 < 1000 by decide), ?_⟩
  have kt2 := (kt.trans (Same.keepT s7)).trans (keepT_updI (o := .ins (He.ga K "Book") dx [("sorts", u1), ("heaps", u2), ("last", u3), ("words", y)]) (s7 _ _ upd_same))
  refine h2 _ (fun c o hc ho => ?_) ⟨dx, u1, u2, u3, y, upd_same, Rep.keepT kt2 (sortsD_t1 _) g1, Rep.keepT kt2 (heapsD_t1 _) g2, Rep.keepT kt2 (stD_t1 _) g3⟩
  rw [upd_ne hc]
  refine s7 _ _ ?_
  rw [upd_ne hc, upd_ne hc, upd_ne hc]
  exact s15 _ _ ho
end
end LC
end
section
set_option Elab.async false
set_option linter.all false
set_option maxRecDepth 100000
set_option maxHeartbeats 1000000
/-! The mirror: rows, states, the differences. -/
namespace LC
open PySem
/-! ### rows -/
def longer (again : List Int) (rise : Int) : List Int := again ++ again.map (· + rise)
def goesOn (again : List Int) (rise : Int) (size : Nat) : Bool :=
  if rise * (size : Int) % (again.length : Int) ≠ 0 then false
  else (List.range again.length).all fun a => decide ((longer again rise).getD (a + size) 0 = (longer again rise).getD a 0 + rise * (size : Int) / (again.length : Int))
/-- the smallest period -/
def partOf (again : List Int) (rise : Int) : Nat := (((List.range again.length).map (· + 1)).filter fun p => decide (again.length % p = 0) && goesOn again rise p).headD 1
def trim (early : List Int) (step : Int) : Nat → List Int → Nat × List Int
  | 0, cyc => (0, cyc)
  | n + 1, cyc => if early.getD n 0 = cyc.getD (cyc.length - 1) 0 - step then trim early step n (early.getD n 0 :: cyc.take (cyc.length - 1)) else (n + 1, cyc)
structure Rw where
  head : List Int
  cycle : List Int
  step : Int
def rowStep (again : List Int) (rise : Int) : Int := rise * (partOf again rise : Int) / (again.length : Int)
def mkRow (early again : List Int) (rise : Int) : Rw :=
  let t := trim early (rowStep again rise) early.length (again.take (partOf again rise))
  ⟨early.take t.1, t.2, rowStep again rise⟩
def Rw.at (r : Rw) (n : Nat) : Int := if n < r.head.length then r.head.getD n 0 else r.cycle.getD ((n - r.head.length) % r.cycle.length) 0 + ((n - r.head.length) / r.cycle.length : Nat) * r.step
def Rw.turn (r : Rw) : Rw := mkRow (r.head.map (- ·)) (r.cycle.map (- ·)) (- r.step)
/-! ### association lists -/
section
variable {β : Type}
abbrev As (β : Type) := List (List Int × β)
def getA (es : As β) (k : List Int) : Option β := (es.find? fun e => decide (e.1 = k)).map (·.2)
def putA (es : As β) (k : List Int) (b : β) : As β := if (getA es k).isSome then es.map (fun e => if e.1 = k then (e.1, b) else e) else es ++ [(k, b)]
def mapA (f : β → D) (es : As β) : Es := es.map fun e => (e.1, f e.2)
theorem getA_map (f : β → D) (k : List Int) : ∀ es : As β, getE (mapA f es) k = (getA es k).map f
  | [] => rfl
  | e :: es => by
    unfold getE getA mapA
    rw [List.map_cons, List.find?_cons, List.find?_cons]
    by_cases c : e.1 = k
    · rw [decide_eq_true c]; rfl
    · rw [decide_eq_false c]; exact getA_map f k es
theorem putA_map (f : β → D) (es : As β) (k : List Int) (b : β) : putE (mapA f es) k (f b) = mapA f (putA es k b) := by
  unfold putE putA
  rw [getA_map, Option.isSome_map]
  by_cases c : (getA es k).isSome = true
  · rw [if_pos c, if_pos c]
    unfold mapA
    rw [List.map_map, List.map_map]
    refine List.map_congr_left fun e _ => ?_
    show (if e.1 = k then (e.1, f b) else (e.1, f e.2)) = ((if e.1 = k then (e.1, b) else e).1, f (if e.1 = k then (e.1, b) else e).2)
    by_cases q : e.1 = k
    · rw [if_pos q, if_pos q]
    · rw [if_neg q, if_neg q]
  · rw [if_neg c, if_neg c]
    unfold mapA
    rw [List.map_append]; rfl
theorem tups_mapA {f : β → D} (hf : ∀ b, (f b).tupsOnly = true) (es : As β) : tupsE (mapA f es) = true := by
  unfold tupsE mapA
  rw [List.all_map, List.all_eq_true]
  exact fun x _ => hf x.2
theorem putA_length (es : As β) (k : List Int) (b : β) : (putA es k b).length ≤ es.length + 1 := by
  unfold putA
  split
  · rw [List.length_map]; omega
  · rw [List.length_append]; exact Nat.le_refl _
end
/-- the greater one stays -/
def updA (es : As Int) (k : List Int) (t : Int) : As Int := match getA es k with
  | some u => if u < t then putA es k t else es
  | none => putA es k t
/-! ### states -/
structure Sts where
  sides : List (Bk × Int)
  spans : List Nat
  bottom : Nat
def Sts.low (S : Sts) (b : Bk) (z : Str) : Nat := S.bottom / (b.share z).2
def Sts.move (S : Sts) (z : Str) (n : Nat) : List Int := S.sides.flatMap fun s => s.1.sums z n
def Sts.weight (S : Sts) (z : Str) (n : Nat) : Int := S.sides.foldl (fun t s => t + s.2 * s.1.value z n * ((s.1.share z).1 : Int) * (S.low s.1 z : Int)) 0
def Sts.reduced (S : Sts) (ns : List Int) : List Int := (List.zip ns S.spans).map fun q => q.1 % (q.2 : Int)
def Sts.added (S : Sts) (a m : List Int) : List Int := (List.zip a (List.zip m S.spans)).map fun q => (q.1 + q.2.1) % (q.2.2 : Int)
def Sts.empty (S : Sts) : List Int := List.replicate S.spans.length 0
def gapStep (ns : List Int) (t : Int × Nat) (s : Bk × Int) : Int × Nat := (t.1 + s.2 * s.1.ask ((ns.drop t.2).take s.1.heaps.length), t.2 + s.1.heaps.length)
def Sts.gap (S : Sts) (ns : List Int) : Int := (S.sides.foldl (gapStep ns) (0, 0)).1
def Sts.shareG (S : Sts) (b : Bk) (g : Nat) : Int := match b.sorts.find? fun k => decide (k.2.1 = g) with
  | some k => ((b.share k.1).1 : Int) * (S.low b k.1 : Int)
  | none => 0
def Sts.shares (S : Sts) (b : Bk) : List Int := (List.range b.heaps.length).map (S.shareG b)
def Sts.baseStep (S : Sts) (st : List Int) (t : Int × Nat) (s : Bk × Int) : Int × Nat := ((List.zip (S.shares s.1) (st.drop t.2)).foldl (fun u q => u - s.2 * q.1 * q.2) t.1, t.2 + s.1.heaps.length)
def Sts.base (S : Sts) (st : List Int) : Int := (S.sides.foldl (S.baseStep st) (S.gap st * (S.bottom : Int), 0)).1
def amounts (bs : List Bk) (z : Str) : Nat := bs.foldl (fun t b => lcmN t (b.period z)) 1
def Sts.books (S : Sts) : List Bk := S.sides.map (·.1)
def Sts.names (S : Sts) : List Str := match S.books with
  | b :: _ => b.names
  | [] => []
abbrev Ln := Nat × Nat × List Int × Int
def Sts.linesAt (S : Sts) (i : Nat) (z : Str) : List Ln := (List.range (amounts S.books z)).map fun n => (i, n, S.reduced (S.move z n), S.weight z n)
def Sts.lines (S : Sts) : List Ln := (List.range S.names.length).flatMap fun i => S.linesAt i (S.names.getD i "")
abbrev Tl := Int × Nat × Nat
def bestStep (es : As Tl) (l : Ln) : As Tl := match getA es l.2.2.1 with
  | some t => if t.1 < l.2.2.2 then putA es l.2.2.1 (l.2.2.2, l.1, l.2.1) else es
  | none => putA es l.2.2.1 (l.2.2.2, l.1, l.2.1)
def Sts.best (S : Sts) : As Tl := S.lines.foldl bestStep []
def Sts.order (S : Sts) (m : List Int) : Nat := (List.zip m S.spans).foldl (fun t q => lcmN t (q.2 / Nat.gcd q.1.toNat q.2)) 1
/-! ### differences -/
def Sts.more (S : Sts) (best : As Tl) (sums : As Int) : As Int := sums.foldl (fun f s => best.foldl (fun f m => updA f (S.added s.1 m.1) (s.2 + m.2.1)) f) []
def maxI (l : List Int) : Int := l.foldl (fun a b => if b > a then b else a) (l.headD 0)
def Sts.greatest (S : Sts) (sums : As Int) : Int := maxI (sums.map fun e => e.2 + S.base e.1) / (S.bottom : Int)
def Sts.led (S : Sts) (sums later : As Int) (m : List Int) (most : Int) : Bool := decide (sums.length = later.length) && sums.all fun e => decide (getA later (S.added e.1 m) = some (e.2 + most))
def Sts.shift (S : Sts) (m : List Int) (most : Int) (sums : As Int) : As Int := sums.foldl (fun f e => putA f (S.added e.1 m) (e.2 + most)) []
def Sts.sums (S : Sts) : Nat → As Int
  | 0 => [(S.empty, 0)]
  | n + 1 => S.more S.best (S.sums n)
def Sts.most (S : Sts) : Int := maxI (S.best.map fun e => e.2.1)
def Sts.mv (S : Sts) : List Int := ((S.best.filter fun e => decide (e.2.1 = S.most)).map (·.1)).headD []
def Sts.ledAt (S : Sts) (n : Nat) : Bool := S.led (S.sums n) (S.sums (n + 1)) S.mv S.most
def Sts.shifted (S : Sts) (sums : As Int) : Nat → As Int
  | 0 => sums
  | n + 1 => S.shift S.mv S.most (S.shifted sums n)
/-- the row, when the loop ends at turn n -/
def Sts.row (S : Sts) (n : Nat) : Rw := mkRow ((List.range n).map fun i => S.greatest (S.sums i)) ((List.range (S.order S.mv)).map fun i => S.greatest (S.shifted (S.sums n) i)) ((S.order S.mv : Int) * S.most / (S.bottom : Int))
def mkStsL (sides : List (Bk × Int)) : Sts := ⟨sides, sides.flatMap (fun s => s.1.periods), sides.foldl (fun t s => s.1.names.foldl (fun t z => lcmN t (s.1.share z).2) t) 1⟩
def mkSts (A B : Bk) : Sts := mkStsL [(A, 1), (B, -1)]
end LC
end
section
set_option Elab.async false
set_option linter.all false
set_option maxRecDepth 100000
set_option maxHeartbeats 2000000
/-! rows -/
namespace LC
open PySem PySem.Spec L2
section
variable {K : PySem.W.Frag} {σ : St} {H : Hp} {ta tb te : TE} {i j : Int} {l : List D}
theorem ev_divP (ha : Ev ta σ H (Is (.int i))) (hb : Ev tb σ H (Is (.int j))) (h : 0 < j) (h2 : j < 2 ^ 30) : Ev (tOp (rI CDivN fun i j => .int (i.fdiv j)) ta tb) σ H (Is (.int (i / j))) := (ev_I (C := CDivN) (g := fun i j => V.int (i.fdiv j)) ha hb ⟨by omega, by omega⟩).is (by rw [Int.fdiv_eq_ediv_of_nonneg _ (Int.le_of_lt h)])
/-- all but the last of a list -/
theorem ev_slInit (h : Ev te σ H (Dt K (.lst l))) (hi : Ev tb σ H (Is (.int (-1)))) (hl : 0 < l.length) : Ev (tSl (rSlL K) te tNoPart (tPart tb)) σ H (NewL K H (l.take (l.length - 1))) := fun H1 s Q q =>
  h H1 s _ fun v H2 s2 ⟨a, xs, ev, hx, hr⟩ => hi H2 (s.trans s2) _ fun w H3 s3 e => ⟨-1, e, a, xs, ev, same_sqL s3 hx, fun p hp => q _ _ ((s2.trans s3).trans (same_new hp)) ⟨p, _, rfl, fresh_back ((s.trans s2).trans s3) hp, upd_same, by
    have hlen := hr.length
    unfold cutV
    have e1 : HT.sIx xs.length 0 (none : Option Int) = 0 := rfl
    have e2 : HT.sIx xs.length xs.length (some (-1 : Int)) = l.length - 1 := by
      show (if (-1 : Int) < 0 then ((-1 : Int) + (xs.length : Int)).toNat else min (-1 : Int).toNat xs.length) = _
      rw [if_pos (by decide)]
      omega
    rw [e1, e2, List.drop_zero, Nat.sub_zero]
    exact RepAll.same (s3.trans (same_new hp)) (RepAll.take _ hr)⟩⟩
end
section
variable {P : Program} {w : World} {K : PySem.W.Frag} {mg : Str → Option Value} {base : Heap}
theorem int_at {l : List Int} {n : Nat} (h : n < l.length) : (l.map D.int)[n]? = some (.int (l.getD n 0)) := by
  rw [List.getElem?_map, List.getD_eq_getElem?_getD, List.getElem?_eq_getElem h]; rfl
abbrev spCheckInts (K : PySem.W.Frag) : Sp := spF K (fun a : List Int × Nat => [intsD a.1, .int (a.2 : Int)]) (fun a => a.2 ≤ a.1.length ∧ a.1.length ≤ 10000) fun _ => Is .non
-- value 0 least 1 number 2
theorem sc_check_integers : FnScope ["value", "least", "number"] ["value", "least"] (defScope (top 71)) := ⟨rfl, rfl, rfl, by decide +kernel, rfl, by decide +kernel, by decide +kernel⟩
theorem ok_check_integers (E : Env P w K mg base) (o_is_integer : Okf P w K mg base 1 "is_integer" ["value"] (spIsInteger K)) : Okf P w K mg base 2 "check_integers" ["value", "least"] (spCheckInts K) :=
  okf_mk E 29 29 rfl rfl sc_check_integers (fun _ _ _ _ _ _ us hl => match us, hl with | [_, _], _ => rfl) (spF_len fun _ => rfl) fun cdv A outer s H vs Q E0 hr h => by
  obtain ⟨⟨l, n⟩, h1, ⟨k1, k2⟩, h2⟩ := h
  have k1 : n ≤ l.length := k1
  have k2 : l.length ≤ 10000 := k2
  obtain ⟨v, _, rfl, r, rfl⟩ := two_of h1
  have r : Rep K H (.tup (l.map D.int)) v := r
  have nd := sc_check_integers.nd
  refine ⟨_, (pss_one (ps_if (PW.pt (pw_or (pt_not (pt_val (kB (K := K) (r := fun _ _ _ => True) (r' := rIsi) rfl call_isi (E.free 62) (by decide +kernel) (pa_cons (pv 0) (pa_cons (kBTy (n := "tuple") (E.free 66) (by decide +kernel)) pa_nil))))) (pw_or (pt_cmpR op_lt (kLen (K := K) rfl (E.free 61) (pa_cons (pv 0) pa_nil)) (pv 1) (nomark _)) (pw_or1 (pt_not (pt_val (kB (K := K) (r := fun _ _ _ => True) (r' := rAll) rfl (cr_all rfl) (E.free 67) (by decide +kernel) (pa_cons (pe_lc (own := [("number", 2)]) (g := gName 2) (tt := tYes)  rfl nd (kITup (K := K) rfl (pv 0)) (blkOk_by (N := ["value", "least", "number"]) (sc := defScope (top 71)) (by decide +kernel)) (fun _ _ _ _ _ => (pg_name (i := 2) nd rfl (.inl rfl))) (fun _ _ _ _ _ => pts_nil) (fun _ _ _ _ _ => (pe_okf o_is_integer (hr.mono (by decide)) (pa_cons (pv 2) pa_nil)))) pa_nil)))))))) (pss_one ps_never) pss_nil)), ?_⟩
  refine s_skip (et_or (b := false) (c := false) (et_not (b := true) (et_B (ev_isiT (ev_d rfl r) (by decide +kernel)))) fun _ => et_or (b := false) (c := false) ((et_t (ev_I0 (ev_len (K := K) true (da_cons (ev_d rfl r) da_nil)) (ev_v rfl))).is (decide_eq_false (by rw [List.length_map]; show ¬ ((l.length : Int) < (n : Int)); omega))) fun _ => et_not (b := true) (et_B ((ev_all (K := K) (bs := l.map fun _ => true) (da_cons (NewL.dt ?_) da_nil)).is (by simp)))) fun H1 s1 => h2 _ _ s1 rfl
  rw [List.map_map]
  refine ev_lc1 D.int (fun _ => .bl true) (it_tup (ds := l.map D.int) (ev_d rfl r) (tups_ints l)) (by omega) (fun _ => rfl) (fun _ _ => rfl) fun a x H1 _ _ rx => ?_
  exact ev_fn a (da_cons (ev_d rfl rx) da_nil) trivial
/-! ### goes_on -/
abbrev spGoesOn (K : PySem.W.Frag) : Sp := spF K (fun a : List Int × Int × Nat => [intsD a.1, .int a.2.1, .int (a.2.2 : Int)]) (fun a => 0 < a.1.length ∧ a.1.length ≤ 1000 ∧ a.2.2 ≤ a.1.length) fun a => Is (.bl (goesOn a.1 a.2.1 a.2.2))
-- again 0 rise 1 size 2 many 3 step 4 longer 5 number 6 at 7
theorem sc_goes_on : FnScope ["again", "rise", "size", "many", "step", "longer", "number", "at"] ["again", "rise", "size"] (defScope (top 72)) := ⟨rfl, rfl, rfl, by decide +kernel, rfl, by decide +kernel, by decide +kernel⟩
theorem ok_goes_on (E : Env P w K mg base)  : Okf P w K mg base 1 "goes_on" ["again", "rise", "size"] (spGoesOn K) :=
  okf_mk E 30 30 rfl rfl sc_goes_on (fun _ _ _ _ _ _ us hl => match us, hl with | [_, _, _], _ => rfl) (spF_len fun _ => rfl) fun cdv A outer s H vs Q E0 hr h => by
  obtain ⟨⟨l, r, n⟩, h1, ⟨k1, k2, k3⟩, h2⟩ := h
  have k1 : 0 < l.length := k1
  have k2 : l.length ≤ 1000 := k2
  have k3 : n ≤ l.length := k3
  have h2 : ∀ v H2, Same H H2 → v = .bl (goesOn l r n) → Q v H2 := h2
  obtain ⟨v, _, rfl, rv, _, _, rfl, rfl, h1⟩ := h1
  obtain ⟨_, rfl, rfl⟩ := one_of h1
  have rv : Rep K H (.tup (l.map D.int)) v := rv
  have nd := sc_goes_on.nd
  refine ⟨_, (pss_cons (ps_set (i := 3) nd rfl (.inl rfl) (kLen (K := K) rfl (E.free 61) (pa_cons (pv 0) pa_nil)))
      (pss_cons (ps_if (pt_cmpR op_ne (pe_op op_modN (pe_op op_mul (pv 1) (pv 2)) (pv 3)) pe_int (nomark _)) (pss_one (ps_ret pe_bl)) pss_nil)
      (pss_cons (ps_set (i := 4) nd rfl (.inr rfl) (pe_op op_fdivN (pe_op op_mul (pv 1) (pv 2)) (pv 3)))
      (pss_cons (ps_set (i := 5) nd rfl (.inr rfl) (pe_lst (kStar (K := K) rfl (pv 0) (kStar (K := K) rfl (pe_lc (own := [("number", 6)]) (g := gName 6) (tt := tYes)  rfl nd (kITup (K := K) rfl (pv 0)) (blkOk_by (N := ["again", "rise", "size", "many", "step", "longer", "number", "at"]) (sc := defScope (top 72)) (by decide +kernel)) (fun _ _ _ _ _ => (pg_name (i := 6) nd rfl (.inl rfl))) (fun _ _ _ _ _ => pts_nil) (fun _ _ _ _ _ => (pe_op op_add (pv 6) (pv 1)))) pa_nil))))
      (pss_one (ps_ret (kB (K := K) (r := fun _ _ _ => True) (r' := rAll) rfl (cr_all rfl) (E.free 67) (by decide +kernel) (pa_cons (pe_lc (own := [("at", 7)]) (g := gName 7) (tt := tYes)  rfl nd (pi_range1 (by rfl) (E.free 75) (pa_cons (pv 3) pa_nil)) (blkOk_by (N := ["again", "rise", "size", "many", "step", "longer", "number", "at"]) (sc := defScope (top 72)) (by decide +kernel)) (fun _ _ _ _ _ => (pg_name (i := 7) nd rfl (.inl rfl))) (fun _ _ _ _ _ => pts_nil) (fun _ _ _ _ _ => (pe_cmpR op_eq (kIxL (K := K) rfl (pv 5) (pe_op op_add (pv 7) (pv 2))) (pe_op op_add (kIxL (K := K) rfl (pv 5) (pv 7)) (pv 4)) (nomark _)))) pa_nil)))))))), ?_⟩
  refine q_let ((ev_len (K := K) true (da_cons (ev_d rfl rv) da_nil)).is (by rw [List.length_map])) fun H1 s1 => ?_
  have m0 : (0 : Int) < (l.length : Int) := by omega
  refine q_if (b := decide (r * (n : Int) % (l.length : Int) ≠ 0)) (et_t ((ev_ne (ev_modP (ev_mulR (ev_v rfl) (ev_v rfl) (by omega) (by omega)) (ev_v rfl) m0) ev_c rfl).is (by rw [dInt]; congr 1; rw [Bool.eq_iff_iff]; simp))) (fun c H2 s2 => s_retv ev_c fun H3 s3 => h2 _ H3 ((s1.trans s2).trans s3) ?_) (fun c H2 s2 => ?_)
  · unfold goesOn; rw [if_pos (of_decide_eq_true c)]
  have c := of_decide_eq_false c
  refine q_let (ev_divP (ev_mulR (ev_v rfl) (ev_v rfl) (by omega) (by omega)) (ev_v rfl) m0 (by omega)) fun H3 s3 => ?_
  have s13 := (s1.trans s2).trans s3
  have rv3 := Rep.same s13 rv
  refine q_asg (ev_lst (K := K) (l := (longer l r).map D.int) ?_ (by rw [List.length_map]; unfold longer; rw [List.length_append, List.length_map]; omega)) fun y H4 s4 ⟨p, xs, e1, e2, e3, e4⟩ => ?_
  · unfold longer
    rw [List.map_append, ← List.append_nil (List.map D.int (List.map (· + r) l)), List.map_map]
    refine da_star (ev_d rfl rv3) (da_starL (NewL.dt (ev_lc1 D.int _ (it_tup (ds := l.map D.int) (ev_d rfl rv3) (tups_ints l)) (by omega) (fun _ => rfl) (fun _ _ => rfl) fun a x H1 _ _ rx => ?_)) da_nil)
    have rx : x = .int a := rx
    subst rx
    exact ev_I0 (ev_v rfl) (ev_v rfl)
  subst e1
  have hlst : Rep K H4 (.lst ((longer l r).map D.int)) (.ref p) := ⟨p, xs, rfl, SqL.of e3, e4⟩
  refine s_ret ((ev_all (K := K) (bs := (List.range l.length).map fun a => decide ((longer l r).getD (a + n) 0 = (longer l r).getD a 0 + r * (n : Int) / (l.length : Int))) (da_cons (NewL.dt ?_) da_nil)).is (w := .bl (goesOn l r n)) ?_) fun v H5 s5 q => h2 v H5 ((s13.trans s4).trans s5) q
  · rw [List.map_map]
    have ll : (longer l r).length = l.length + l.length := by unfold longer; rw [List.length_append, List.length_map]
    refine ev_lc1 (fun (i : Nat) => .int (i : Int)) _ (it_range1 (K := K) (n := (l.length : Int)) (da_cons (ev_v rfl) da_nil) (by omega) (by omega)) (by rw [List.length_range]; omega) (fun _ => rfl) (fun _ _ => rfl) fun a x H5 ha s5 rx => ?_
    have rx : x = .int (a : Int) := rx
    subst rx
    have ha : a < l.length := by have := List.mem_range.mp ha; omega
    exact (ev_eqB (ev_ixL (n := a + n) (ev_d rfl (Rep.same s5 hlst)) ((ev_I0 (ev_v rfl) (ev_v rfl)).is (by rw [Int.natCast_add])) (int_at (by omega))) (ev_I0 (ev_ixL (n := a) (ev_d rfl (Rep.same s5 hlst)) (ev_v rfl) (int_at (by omega))) (ev_v rfl)) rfl dInt)
  · unfold goesOn
    rw [if_neg c, List.all_map]
    rfl
end
end LC
end
section
set_option Elab.async false
set_option linter.all false
set_option maxRecDepth 100000
set_option maxHeartbeats 2000000
/-! Row -/
namespace LC
open PySem PySem.Spec L2
def RowAt (K : PySem.W.Frag) (H : Hp) (p : Addr) (r : Rw) : Prop := ∃ dx v u, H p = some (.ins (He.ga K "Row") dx [("head", v), ("cycle", u), ("step", .int r.step)]) ∧ Rep K H (intsD r.head) v ∧ Rep K H (intsD r.cycle) u
theorem RowAt.same {K : PySem.W.Frag} {H H' : Hp} {p : Addr} {r : Rw} (e : Same H H') : RowAt K H p r → RowAt K H' p r := fun ⟨dx, v, u, h1, h2, h3⟩ => ⟨dx, v, u, e _ _ h1, Rep.same e h2, Rep.same e h3⟩
theorem partOf_ok {l : List Int} {r : Int} (h : 0 < l.length) : 1 ≤ partOf l r ∧ partOf l r ≤ l.length ∧ (((List.range l.length).map (· + 1)).filter fun p => decide (l.length % p = 0) && goesOn l r p)[0]? = some (partOf l r) := by
  have key : goesOn l r l.length = true := by
    unfold goesOn
    have e0 : r * (l.length : Int) % (l.length : Int) = 0 := Int.mul_emod_left _ _
    rw [if_neg (by rw [e0]; simp), List.all_eq_true]
    intro a ha
    have ha := List.mem_range.mp ha
    rw [decide_eq_true_iff]
    have e1 : r * (l.length : Int) / (l.length : Int) = r := Int.mul_ediv_cancel _ (by omega)
    rw [e1]
    unfold longer
    rw [List.getD_eq_getElem?_getD, List.getD_eq_getElem?_getD, List.getElem?_append_right (by omega), List.getElem?_append_left ha, Nat.add_sub_cancel, List.getElem?_map, List.getElem?_eq_getElem ha]
    rfl
  have hm : l.length ∈ ((List.range l.length).map (· + 1)).filter fun p => decide (l.length % p = 0) && goesOn l r p := by
    rw [List.mem_filter]
    refine ⟨List.mem_map.mpr ⟨l.length - 1, List.mem_range.mpr (by omega), by omega⟩, ?_⟩
    rw [key, Nat.mod_self]; rfl
  unfold partOf
  cases e : ((List.range l.length).map (· + 1)).filter fun p => decide (l.length % p = 0) && goesOn l r p with
  | nil => rw [e] at hm; exact absurd hm (List.not_mem_nil)
  | cons a t =>
    have ha : a ∈ ((List.range l.length).map (· + 1)).filter fun p => decide (l.length % p = 0) && goesOn l r p := by rw [e]; exact List.mem_cons_self ..
    obtain ⟨h1, _⟩ := List.mem_filter.mp ha
    obtain ⟨j, hj, rfl⟩ := List.mem_map.mp h1
    have := List.mem_range.mp hj
    show 1 ≤ j + 1 ∧ j + 1 ≤ l.length ∧ some (j + 1) = some (j + 1)
    exact ⟨by omega, by omega, rfl⟩
theorem trim_len (early : List Int) (step : Int) : ∀ (n : Nat) (cyc : List Int), 0 < cyc.length → (trim early step n cyc).2.length = cyc.length ∧ (trim early step n cyc).1 ≤ n
  | 0, cyc, h => ⟨rfl, Nat.le_refl _⟩
  | n + 1, cyc, h => by
    unfold trim
    by_cases c : early.getD n 0 = cyc.getD (cyc.length - 1) 0 - step
    · rw [if_pos c]
      have hl : (early.getD n 0 :: cyc.take (cyc.length - 1)).length = cyc.length := by rw [List.length_cons, List.length_take]; omega
      obtain ⟨h1, h2⟩ := trim_len early step n (early.getD n 0 :: cyc.take (cyc.length - 1)) (by rw [hl]; exact h)
      exact ⟨h1.trans hl, Nat.le_succ_of_le h2⟩
    · rw [if_neg c]
      exact ⟨rfl, Nat.le_refl _⟩
/-- what follows the loop of Row.__init__ -/
def rowEnd (K : PySem.W.Frag) : TS := tAsg (tTup (tCons (tSl (rSlA K) (tVar 1) tNoPart (tPart (tVar 8))) (tCons (tCB (rTupOf K) (tCons (tVar 6) tNil)) (tCons (tVar 7) tNil))))
  (gTup K 3 (gCons (gFld K (tVar 0) "head") (gCons (gFld K (tVar 0) "cycle") (gCons (gFld K (tVar 0) "step") gNil))))
theorem rowEnd_ok {K : PySem.W.Frag} (cl : Cls K (He.ga K "Row")) (n1 : NoAttr K (He.ga K "Row") "head") (n2 : NoAttr K (He.ga K "Row") "cycle") (n3 : NoAttr K (He.ga K "Row") "step") {H : Hp} {p dx : Addr} {v1 cv : V} {x2 x3 x4 x5 x9 : Option V} {l cyc : List Int} {st : Int} {n : Nat} {E : Ends}
    (hp : H p = some (.ins (He.ga K "Row") dx [])) (r1 : Rep K H (.tup (l.map D.int)) v1) (rc : Rep K H (.lst (cyc.map D.int)) cv) (hn : n ≤ l.length) (k : ∀ H2, (∀ a o, a ≠ p → H a = some o → H2 a = some o) → RowAt K H2 p ⟨l.take n, cyc, st⟩ → ∀ σ', E.nx σ' H2) :
    rowEnd K E [some (.ref p), some v1, x2, x3, x4, x5, some cv, some (.int st), some (.int (n : Int)), x9] H := by
  refine s_asgG (ev_tup (K := K) (l := [.tup ((l.take n).map D.int), .tup (cyc.map D.int), .int st]) (da_cons ((ev_slT (n := 0) (z := n) (ev_d (n := 1) rfl r1) to_none (to_some (ev_v (n := 8) rfl)) rfl (by rw [HT.sIx_nat, List.length_map, Nat.min_eq_left hn])).imp fun v H1 _ q => by rw [List.drop_zero, Nat.sub_zero, ← List.map_take] at q; exact q) (da_cons (ev_tupOf (da_cons (ev_d (n := 6) rfl rc) da_nil)) (da_cons (ev_v (n := 7) rfl) da_nil))) (show 3 ≤ 100000 by decide)) fun t H5 s5 ⟨a, xs, e1, ht, u1, t1, e2, g1, u2, t2, e3, g2, u3, t3, e4, g3, e5⟩ => ?_
  have e5 : t3 = [] := e5
  have g3 : u3 = .int st := g3
  subst e5 e4 e3 e2 e1 g3
  have hp5 := s5 _ _ hp
  refine ⟨a, _, rfl, SqT.of ht, rfl, u1, _, rfl, .ref p, rfl, p, _, dx, [], rfl, hp5, cl, n1, by decide, u2, _, rfl, .ref p, rfl, p, _, dx, [("head", u1)], rfl, upd_same, cl, n2, (show 1 < 1000 by decide), .int st, _, rfl, .ref p, rfl, p, _, dx, [("head", u1), ("cycle", u2)], rfl, upd_same, cl, n3, (show 2 < 1000 by decide), rfl, ?_⟩
  have kt : KeepT H5 (upd (upd (upd H5 p (.ins (He.ga K "Row") dx [("head", u1)])) p (.ins (He.ga K "Row") dx [("head", u1), ("cycle", u2)])) p (.ins (He.ga K "Row") dx [("head", u1), ("cycle", u2), ("step", .int st)])) :=
    ((keepT_updI hp5).trans (keepT_updI upd_same)).trans (keepT_updI upd_same)
  refine k _ (fun c o hc ho => ?_) ⟨dx, u1, u2, upd_same, Rep.keepT kt (tups_ints _) g1, Rep.keepT kt (tups_ints _) g2⟩ _
  rw [upd_ne hc, upd_ne hc, upd_ne hc]
  exact s5 _ _ ho
section
variable {P : Program} {w : World} {K : PySem.W.Frag} {mg : Str → Option Value} {base : Heap}
abbrev spRowNew (K : PySem.W.Frag) : Sp := fun vs H Q _ => ∃ (p dx : Addr) (l m : List Int) (r : Int) (v1 v2 : V), vs = [.ref p, v1, v2, .int r] ∧ H p = some (.ins (He.ga K "Row") dx []) ∧ (l.length ≤ 1000 ∧ 0 < m.length ∧ m.length ≤ 1000) ∧ Rep K H (intsD l) v1 ∧ Rep K H (intsD m) v2 ∧
  ∀ H2, (∀ a o, a ≠ p → H a = some o → H2 a = some o) → RowAt K H2 p (mkRow l m r) → Q .non H2
theorem spRowNew_len {K : PySem.W.Frag} : ∀ vs H Q E, spRowNew K vs H Q E → vs.length = 4 := by
  rintro _ _ _ _ ⟨_, _, _, _, _, _, _, rfl, _⟩; rfl
-- self 0 early 1 again 2 rise 3 many 4 size 5 cycle 6 step 7 last 8 part 9
theorem sc_Row_init : FnScope ["self", "early", "again", "rise", "many", "size", "cycle", "step", "last", "part"] ["self", "early", "again", "rise"] (defScope (mth 73 0)) := ⟨rfl, rfl, rfl, by decide +kernel, rfl, by decide +kernel, by decide +kernel⟩
theorem ok_Row_init (E : Env P w K mg base) (o_check_integers : Okf P w K mg base 2 "check_integers" ["value", "least"] (spCheckInts K)) (o_is_integer : Okf P w K mg base 1 "is_integer" ["value"] (spIsInteger K)) (o_goes_on : Okf P w K mg base 1 "goes_on" ["again", "rise", "size"] (spGoesOn K)) : Okc P w K mg base 3 "Row" ["self", "early", "again", "rise"] (spRowNew K) :=
  okc_mk E 71 101 99 rfl rfl rfl sc_Row_init (fun _ _ _ _ _ _ us hl => match us, hl with | [_, _, _, _], _ => rfl) spRowNew_len fun cdv A outer s H vs Q E0 hr h => by
  obtain ⟨p, dx, l, m, r, v1, v2, rfl, hp, ⟨k1, k2, k3⟩, r1, r2, h2⟩ := h
  have r1 : Rep K H (.tup (l.map D.int)) v1 := r1
  have r2 : Rep K H (.tup (m.map D.int)) v2 := r2
  have nd := sc_Row_init.nd
  refine ⟨_, (pss_cons (ps_expr (pe_okf o_check_integers (hr.mono (by decide)) (pa_cons (pv 1) (pa_cons pe_int pa_nil))))
      (pss_cons (ps_expr (pe_okf o_check_integers (hr.mono (by decide)) (pa_cons (pv 2) (pa_cons pe_int pa_nil))))
      (pss_cons (ps_if (pt_not (pt_val (pe_okf o_is_integer (hr.mono (by decide)) (pa_cons (pv 3) pa_nil)))) (pss_one ps_never) pss_nil)
      (pss_cons (ps_set (i := 4) nd rfl (.inr rfl) (kLen (K := K) rfl (E.free 61) (pa_cons (pv 2) pa_nil)))
      (pss_cons (ps_set (i := 5) nd rfl (.inl rfl) (kIxL (K := K) rfl (pe_lc (own := [("part", 9)]) (g := gName 9)  rfl nd (pi_range2 (by rfl) (E.free 75) (pa_cons pe_int (pa_cons (pe_op op_add (pv 4) pe_int) pa_nil))) (blkOk_by (N := ["self", "early", "again", "rise", "many", "size", "cycle", "step", "last", "part"]) (sc := defScope (mth 73 0)) (by decide +kernel)) (fun _ _ _ _ _ => (pg_name (i := 9) nd rfl (.inl rfl))) (fun _ _ _ _ _ => pts_one (PW.pt (pw_and (pt_cmpR op_eq (pe_op op_modN (pv 4) (pv 9)) pe_int (nomark _)) (pw_and1 (pt_val (pe_okf o_goes_on (hr.mono (by decide)) (pa_cons (pv 2) (pa_cons (pv 3) (pa_cons (pv 9) pa_nil))))))))) (fun _ _ _ _ _ => (pv 9))) pe_int))
      (pss_cons (ps_par3 (i := 6) (j := 7) (l := 8) (by rfl) nd rfl rfl rfl (by decide) (by decide) (by decide) rfl rfl rfl (pa_cons (kTy (K := K) (r' := rLstOf) rfl call_list_of (E.free 76) (by decide +kernel) (pa_cons (kSlT (K := K) rfl (pv 2) po_none (po_some (pv 5))) pa_nil)) (pa_cons (pe_op op_fdivN (pe_op op_mul (pv 3) (pv 5)) (pv 4)) (pa_cons (kLen (K := K) rfl (E.free 61) (pa_cons (pv 1) pa_nil)) pa_nil))) (by rfl))
      (pss_cons (ps_while PassesOwn.never (PW.pt (pw_and (pt_cmpR op_gt (pv 8) pe_int (nomark _)) (pw_and1 (pt_cmpR op_eq (kIxT (K := K) rfl (pv 1) (pe_op op_sub (pv 8) pe_int)) (pe_op op_sub (kIxL (K := K) rfl (pv 6) (pe_un un_neg pe_int)) (pv 7)) (nomark _))))) (pss_cons (ps_set (i := 8) nd rfl (.inl rfl) (pe_op op_sub (pv 8) pe_int))
      (pss_one (ps_set (i := 6) nd rfl (.inl rfl) (pe_lst (pa_cons (kIxT (K := K) rfl (pv 1) (pv 8)) (kStar (K := K) rfl (kSlL (K := K) rfl (pv 6) po_none (po_some (pe_un un_neg pe_int))) pa_nil)))))))
      (pss_one (ps_asg (pe_tup (pa_cons (kSlT (K := K) rfl (pv 1) po_none (po_some (pv 8))) (pa_cons (kTy (K := K) (r' := rTupOf) rfl call_tuple_of (E.free 66) (by decide +kernel) (pa_cons (pv 6) pa_nil)) (pa_cons (pv 7) pa_nil)))) (kGTup (K := K) (n := 3) rfl rfl (pgs_cons (kGFld (K := K) rfl (pv 0)) (pgs_cons (kGFld (K := K) rfl (pv 0)) (pgs_cons (kGFld (K := K) rfl (pv 0)) pgs_nil))))))))))))), ?_⟩
  refine q_drop (ev_fn (l, 0) (da_cons (ev_d rfl r1) (da_cons ev_c da_nil)) ⟨Nat.zero_le _, by show l.length ≤ 10000; omega⟩) fun _ H1 s1 _ => ?_
  refine q_drop (ev_fn (m, 1) (da_cons (ev_d rfl (Rep.same s1 r2)) (da_cons ev_c da_nil)) ⟨k2, by show m.length ≤ 10000; omega⟩) fun _ H2 s2 _ => ?_
  refine q_skip (et_not (b := true) (et_B (ev_fn r (da_cons (ev_v rfl) da_nil) trivial))) fun H3 s3 => ?_
  have s13 := (s1.trans s2).trans s3
  refine q_let ((ev_len (K := K) true (da_cons (ev_d rfl (Rep.same s13 r2)) da_nil)).is (by rw [List.length_map])) fun H4 s4 => ?_
  have s14 := s13.trans s4
  obtain ⟨p1, p2, p3⟩ := partOf_ok (r := r) k2
  have r24 := Rep.same s14 r2
  refine q_let (v := .int (partOf m r : Int)) (ev_ixL (K := K) (n := 0) (d := .int (partOf m r : Int)) (l := (((List.range m.length).map (· + 1)).filter fun p => decide (m.length % p = 0) && goesOn m r p).map fun (n : Nat) => .int (n : Int)) (NewL.dt ?_) ev_c (by rw [List.getElem?_map, p3]; rfl)) fun H5 s5 => ?_
  · have q : (((List.range m.length).map (· + 1)).filter fun p => decide (m.length % p = 0) && goesOn m r p).map (fun (n : Nat) => D.int (n : Int)) = ((List.range m.length).filter fun i => decide (m.length % (i + 1) = 0) && goesOn m r (i + 1)).map fun (i : Nat) => .int ((i + 1 : Nat) : Int) := by
      rw [List.filter_map, List.map_map]; rfl
    rw [q]
    refine ev_lc1F (fun (i : Nat) => .int (1 + (i : Int))) _ _ (by
      have e := it_range2 (K := K) (σ := [some (.ref p), some v1, some v2, some (.int r), some (.int (m.length : Int)), none, none, none, none, none]) (H := H4) (m := 1) (n := (m.length : Int) + 1) (ta := tCons (tC (.int 1)) (tCons (tOp (rI0 fun i j => .int (i + j)) (tVar 4) (tC (.int 1))) tNil)) (da_cons ev_c (da_cons (ev_I0 (ev_v rfl) ev_c) da_nil)) (by omega) (by omega) (by decide) (by decide)
      have e2 : ((m.length : Int) + 1 - 1).toNat = m.length := by omega
      rw [e2] at e
      exact e) (by rw [List.length_range]; omega) (fun _ => rfl) fun i x H5 hi s5 rx => ?_
    have hi := List.mem_range.mp hi
    have rx : x = .int (1 + (i : Int)) := rx
    subst rx
    have e1 : (1 + (i : Int)) = ((i + 1 : Nat) : Int) := by omega
    rw [e1]
    refine ⟨et_and (et_t ((ev_eqB (ev_modP (ev_v rfl) (ev_v rfl) (by omega)) ev_c rfl (by rw [dInt])).is ?_)) fun _ => et_B (ev_fn (m, r, i + 1) (da_cons (ev_d rfl (Rep.same s5 r24)) (da_cons (ev_v rfl) (da_cons (ev_v rfl) da_nil))) ⟨k2, k3, by show i + 1 ≤ m.length; omega⟩), fun _ => ⟨rfl, ev_v rfl⟩⟩
    congr 1
    rw [decide_eq_decide, ← Int.natCast_emod]
    exact ⟨fun h => by exact_mod_cast h, fun h => by exact_mod_cast h⟩
  have s15 := s14.trans s5
  have r15 := Rep.same s15 r1
  have r25 := Rep.same s15 r2
  refine q_par3 (P1 := NewL K H5 ((m.take (partOf m r)).map D.int)) ((ev_lstOf (K := K) (l := (m.take (partOf m r)).map D.int) (da_cons ((ev_slT (n := 0) (z := partOf m r) (ev_d rfl r25) to_none (to_some (ev_v rfl)) rfl (by rw [HT.sIx_nat, List.length_map, Nat.min_eq_left p2])).imp fun v H1 _ q => by rw [List.drop_zero, Nat.sub_zero, ← List.map_take] at q; exact q) da_nil))) (ev_divP (ev_mulR (ev_v rfl) (ev_v rfl) (by omega) (by omega)) (ev_v rfl) (by omega) (by omega)) ((ev_len (K := K) true (da_cons (ev_d rfl r15) da_nil)).is (by rw [List.length_map])) mono_new mono_is fun v1' v2' v3' H6 s6 ⟨q, xs, e1, e2, e3, e4⟩ e5 e6 => ?_
  subst e1 e5 e6
  have ll : (m.take (partOf m r)).length = partOf m r := by rw [List.length_take]; omega
  refine q_while (fun n σ' H' => Same H5 H' ∧ n ≤ l.length ∧ ∃ (cv : V) (cyc : List Int) (y : Option V), σ' = [some (.ref p), some v1, some v2, some (.int r), some (.int (m.length : Int)), some (.int (partOf m r : Int)), some cv, some (.int (rowStep m r)), some (.int (n : Int)), y] ∧ Rep K H' (.lst (cyc.map D.int)) cv ∧ cyc.length = partOf m r ∧ trim l (rowStep m r) n cyc = trim l (rowStep m r) l.length (m.take (partOf m r))) l.length ⟨s6, Nat.le_refl _, .ref q, m.take (partOf m r), _, rfl, ⟨q, xs, rfl, SqL.of e3, e4⟩, ll, rfl⟩ fun n σ' H' ⟨q1, hn, cv, cyc, y, hσ, rc, hc, ht⟩ => ?_
  · subst hσ
    have r1' := Rep.same q1 r15
    cases n with
    | zero =>
      refine ⟨false, et_and (b := false) (c := false) ((et_t (b := decide (((0 : Nat) : Int) > 0)) (ev_I0 (ev_v rfl) ev_c)).is (by decide)) (fun z => nomatch z), (fun z => nomatch z), fun _ H7 s7 => ?_⟩
      have s17 := (s15.trans q1).trans s7
      refine rowEnd_ok (n := 0) (E.cls 100) (E.noat 102) (E.noat 103) (E.noat 104) (s17 _ _ hp) (Rep.same s7 r1') (Rep.same s7 rc) (Nat.zero_le _) fun H2 h3 h4 σ' => h2 H2 (fun a o ha ho => h3 a o ha (s17 _ _ ho)) ?_
      have em : mkRow l m r = ⟨l.take 0, cyc, rowStep m r⟩ := by unfold mkRow; rw [← ht]; rfl
      rw [em]; exact h4
    | succ n =>
      have hcy : (cyc.map D.int)[(cyc.map D.int).length - 1]? = some (.int (cyc.getD (cyc.length - 1) 0)) := by rw [List.length_map]; exact int_at (by omega)
      have pre : ((n + 1 : Nat) : Int) - 1 = (n : Int) := by omega
      refine ⟨decide (l.getD n 0 = cyc.getD (cyc.length - 1) 0 - rowStep m r), et_and (b := true) ((et_t (ev_I0 (ev_v rfl) ev_c)).is (decide_eq_true (by omega))) (fun _ => et_t (ev_eqB (ev_ixT (n := n) (ev_d rfl r1') ((ev_I0 (ev_v rfl) ev_c).is (by rw [pre])) (int_at (by omega))) (ev_I0 (ev_lastL (ev_d rfl rc) (ev_neg ev_c) hcy (by rw [List.length_map]; omega)) (ev_v rfl)) rfl dInt)), fun c H7 s7 => ?_, fun c H7 s7 => ?_⟩
      · have c := of_decide_eq_true c
        refine q_let (v := .int (n : Int)) ((ev_I0 (ev_v rfl) ev_c).is (by rw [pre])) fun H8 s8 => ?_
        have s78 := s7.trans s8
        refine s_asg (NewL.dt (ev_lst (K := K) (l := (l.getD n 0 :: cyc.take (cyc.length - 1)).map D.int) ?_ (by rw [List.length_map, List.length_cons, List.length_take]; omega))) fun u H9 s9 ru => ?_
        · have e := da_cons (K := K) (ev_ixT (n := n) (ev_d (n := 1) (σ := [some (.ref p), some v1, some v2, some (.int r), some (.int (m.length : Int)), some (.int (partOf m r : Int)), some cv, some (.int (rowStep m r)), some (.int (n : Int)), y]) rfl (Rep.same s78 r1')) (ev_v (n := 8) rfl) (int_at (by omega))) (da_starL (NewL.dt (ev_slInit (tb := tUn (rU fun i => .int (-i)) (tC (.int 1))) (ev_d (n := 6) rfl (Rep.same s78 rc)) (ev_neg ev_c) (by rw [List.length_map]; omega))) da_nil)
          rw [List.append_nil, List.length_map, ← List.map_take] at e
          exact e
        · refine ⟨n, Nat.lt_succ_self n, (q1.trans s78).trans s9, by omega, u, _, y, rfl, ru, by rw [List.length_cons, List.length_take]; omega, ?_⟩
          rw [← ht]
          show trim l (rowStep m r) n (l.getD n 0 :: cyc.take (cyc.length - 1)) = (if l.getD n 0 = cyc.getD (cyc.length - 1) 0 - rowStep m r then _ else _)
          rw [if_pos c]
      · have c := of_decide_eq_false c
        have s17 := (s15.trans q1).trans s7
        have ht' : trim l (rowStep m r) l.length (m.take (partOf m r)) = (n + 1, cyc) := by
          rw [← ht]
          show (if l.getD n 0 = cyc.getD (cyc.length - 1) 0 - rowStep m r then _ else _) = _
          rw [if_neg c]
        refine rowEnd_ok (E.cls 100) (E.noat 102) (E.noat 103) (E.noat 104) (s17 _ _ hp) (Rep.same s7 r1') (Rep.same s7 rc) hn fun H2 h3 h4 σ' => h2 H2 (fun a o ha ho => h3 a o ha (s17 _ _ ho)) ?_
        have em : mkRow l m r = ⟨l.take (n + 1), cyc, rowStep m r⟩ := by unfold mkRow; rw [ht']
        rw [em]; exact h4
end
end LC
end
section
set_option Elab.async false
set_option linter.all false
set_option maxRecDepth 100000
set_option maxHeartbeats 2000000
/-! rows read; turned -/
namespace LC
open PySem PySem.Spec L2
section
variable {P : Program} {w : World} {K : PySem.W.Frag} {mg : Str → Option Value} {base : Heap}
abbrev rwArg : Addr × Rw → List D := fun a => [.ref a.1]
abbrev spEarly (K : PySem.W.Frag) : Sp := spH K rwArg (fun a H => RowAt K H a.1 a.2) fun a => Dt K (intsD a.2.head)
-- self 0
theorem sc_Row_early : FnScope ["self"] ["self"] (defScope (mth 73 1)) := ⟨rfl, rfl, rfl, by decide +kernel, rfl, by decide +kernel, by decide +kernel⟩
theorem ok_Row_early (E : Env P w K mg base)  : Okp P w K mg base 1 "Row" "early" (spEarly K) :=
  okp_mk E 88 3 100 rfl rfl rfl sc_Row_early (fun _ _ _ _ _ _ us hl => match us, hl with | [_], _ => rfl) (spH_len fun _ => rfl) fun cdv A outer s H vs Q E0 hr h => by
  obtain ⟨⟨p, r⟩, h1, ⟨dx, v, u, hp, hv, hu⟩, h2⟩ := h
  obtain ⟨_, rfl, rfl⟩ := one_of h1
  have nd := sc_Row_early.nd
  refine ⟨_, (pss_one (ps_ret (kFld (K := K) rfl (pv 0)))), ?_⟩
  exact s_ret ((ev_fld (ev_v rfl) hp (E.cls 100) (E.noat 102) rfl).dt hv) h2
abbrev spAgain (K : PySem.W.Frag) : Sp := spH K rwArg (fun a H => RowAt K H a.1 a.2) fun a => Dt K (intsD a.2.cycle)
-- self 0
theorem sc_Row_again : FnScope ["self"] ["self"] (defScope (mth 73 2)) := ⟨rfl, rfl, rfl, by decide +kernel, rfl, by decide +kernel, by decide +kernel⟩
theorem ok_Row_again (E : Env P w K mg base)  : Okp P w K mg base 1 "Row" "again" (spAgain K) :=
  okp_mk E 89 4 100 rfl rfl rfl sc_Row_again (fun _ _ _ _ _ _ us hl => match us, hl with | [_], _ => rfl) (spH_len fun _ => rfl) fun cdv A outer s H vs Q E0 hr h => by
  obtain ⟨⟨p, r⟩, h1, ⟨dx, v, u, hp, hv, hu⟩, h2⟩ := h
  obtain ⟨_, rfl, rfl⟩ := one_of h1
  have nd := sc_Row_again.nd
  refine ⟨_, (pss_one (ps_ret (kFld (K := K) rfl (pv 0)))), ?_⟩
  exact s_ret ((ev_fld (ev_v rfl) hp (E.cls 100) (E.noat 103) rfl).dt hu) h2
abbrev spRise (K : PySem.W.Frag) : Sp := spH K rwArg (fun a H => RowAt K H a.1 a.2) fun a => Is (.int a.2.step)
-- self 0
theorem sc_Row_rise : FnScope ["self"] ["self"] (defScope (mth 73 3)) := ⟨rfl, rfl, rfl, by decide +kernel, rfl, by decide +kernel, by decide +kernel⟩
theorem ok_Row_rise (E : Env P w K mg base)  : Okp P w K mg base 1 "Row" "rise" (spRise K) :=
  okp_mk E 90 5 100 rfl rfl rfl sc_Row_rise (fun _ _ _ _ _ _ us hl => match us, hl with | [_], _ => rfl) (spH_len fun _ => rfl) fun cdv A outer s H vs Q E0 hr h => by
  obtain ⟨⟨p, r⟩, h1, ⟨dx, v, u, hp, hv, hu⟩, h2⟩ := h
  obtain ⟨_, rfl, rfl⟩ := one_of h1
  have nd := sc_Row_rise.nd
  refine ⟨_, (pss_one (ps_ret (kFld (K := K) rfl (pv 0)))), ?_⟩
  exact s_ret (ev_fld (ev_v rfl) hp (E.cls 100) (E.noat 104) rfl) h2
/-! ### at -/
structure Rw.ok (r : Rw) : Prop where
  few : r.head.length ≤ 1000
  some : 0 < r.cycle.length
  cfew : r.cycle.length ≤ 1000
  small : r.step.natAbs < 2 ^ 63
abbrev spAt (K : PySem.W.Frag) : Sp := spH K (fun a : (Addr × Rw) × Nat => [.ref a.1.1, .int (a.2 : Int)]) (fun a H => RowAt K H a.1.1 a.1.2 ∧ a.1.2.ok) fun a => Is (.int (a.1.2.at a.2))
-- self 0 lines 1 turns 2 place 3
theorem sc_Row_at : FnScope ["self", "lines", "turns", "place"] ["self", "lines"] (defScope (mth 73 5)) := ⟨rfl, rfl, rfl, by decide +kernel, rfl, by decide +kernel, by decide +kernel⟩
theorem ok_Row_at (E : Env P w K mg base) (o_check_number : Okf P w K mg base 3 "check_number" ["value", "low", "high"] (spCheckNumber K)) : Okm P w K mg base 4 "Row" "at" ["self", "lines"] (spAt K) :=
  okm_mk E 72 120 100 rfl rfl rfl sc_Row_at (fun _ _ _ _ _ _ us hl => match us, hl with | [_, _], _ => rfl) (spH_len fun _ => rfl) fun cdv A outer s H vs Q E0 hr h => by
  obtain ⟨⟨⟨p, r⟩, n⟩, h1, ⟨⟨dx, v, u, hp, hv, hu⟩, hk⟩, h2⟩ := h
  have hk : r.ok := hk
  have hp : H p = some (.ins (He.ga K "Row") dx [("head", v), ("cycle", u), ("step", .int r.step)]) := hp
  have hv : Rep K H (.tup (r.head.map D.int)) v := hv
  have hu : Rep K H (.tup (r.cycle.map D.int)) u := hu
  have h2 : ∀ v H2, Same H H2 → v = .int (r.at n) → Q v H2 := h2
  obtain ⟨_, _, rfl, rfl, rfl⟩ := two_of h1
  have nd := sc_Row_at.nd
  refine ⟨_, (pss_cons (ps_expr (pe_okf o_check_number (hr.mono (by decide)) (pa_cons (pv 1) (pa_cons pe_int (pa_cons pe_non pa_nil)))))
      (pss_cons (ps_if (pt_cmpR op_lt (pv 1) (kLen (K := K) rfl (E.free 61) (pa_cons (kFld (K := K) rfl (pv 0)) pa_nil)) (nomark _)) (pss_one (ps_ret (kIxT (K := K) rfl (kFld (K := K) rfl (pv 0)) (pv 1)))) pss_nil)
      (pss_cons (ps_asg (pe_callB call_divmod (by rfl) (E.free 69) (by decide +kernel) (pa_cons (pe_op op_sub (pv 1) (kLen (K := K) rfl (E.free 61) (pa_cons (kFld (K := K) rfl (pv 0)) pa_nil))) (pa_cons (kLen (K := K) rfl (E.free 61) (pa_cons (kFld (K := K) rfl (pv 0)) pa_nil)) pa_nil))) (kGTup (K := K) (n := 2) rfl rfl (pgs_cons (pg_name (i := 2) nd rfl (.inl rfl)) (pgs_cons (pg_name (i := 3) nd rfl (.inl rfl)) pgs_nil))))
      (pss_one (ps_ret (pe_op op_add (kIxT (K := K) rfl (kFld (K := K) rfl (pv 0)) (pv 3)) (pe_op op_mul (pv 2) (kFld (K := K) rfl (pv 0))))))))), ?_⟩
  have k3 := hk.some
  have k4 := hk.cfew
  have k5 := hk.small
  refine q_drop (ev_fn ((n : Int), 0, none) (da_cons (ev_v rfl) (da_cons ev_c (da_cons ev_c da_nil))) (betw_nat n)) fun _ H1 s1 _ => ?_
  have hd : ∀ H2, Same H1 H2 → ∀ σ : St, σ[0]? = some (some (.ref p)) → Ev (tFld K (tVar 0) "head") σ H2 (Dt K (.tup (r.head.map D.int))) := fun H2 s σ e => (ev_fld (ev_v e) ((s1.trans s) _ _ hp) (E.cls 100) (E.noat 102) rfl).dt (Rep.same (s1.trans s) hv)
  have cy : ∀ H2, Same H1 H2 → ∀ σ : St, σ[0]? = some (some (.ref p)) → Ev (tFld K (tVar 0) "cycle") σ H2 (Dt K (.tup (r.cycle.map D.int))) := fun H2 s σ e => (ev_fld (ev_v e) ((s1.trans s) _ _ hp) (E.cls 100) (E.noat 103) rfl).dt (Rep.same (s1.trans s) hu)
  refine q_if (b := decide (n < r.head.length)) ((et_t (ev_I0 (ev_v rfl) (ev_len (K := K) true (da_cons (hd H1 (Same.refl _) _ rfl) da_nil)))).is (by rw [List.length_map, decide_eq_decide]; omega)) (fun c H2 s2 => ?_) (fun c H2 s2 => ?_)
  · have c := of_decide_eq_true c
    refine s_retv (v := .int (r.head.getD n 0)) (ev_ixT (n := n) (hd H2 s2 _ rfl) (ev_v rfl) (int_at c)) fun H3 s3 => h2 _ H3 ((s1.trans s2).trans s3) ?_
    unfold Rw.at; rw [if_pos c]
  · have c := of_decide_eq_false c
    have c0 : (0 : Int) < (r.cycle.length : Int) := by omega
    have e0 : (n : Int) - ((r.head.map D.int).length : Int) = ((n - r.head.length : Nat) : Int) := by rw [List.length_map]; omega
    refine q_asgG (ev_divmod (K := K) (i := ((n - r.head.length : Nat) : Int)) (j := (r.cycle.length : Int)) (da_cons ((ev_I0 (ev_v rfl) (ev_len (K := K) true (da_cons (hd H2 s2 _ rfl) da_nil))).is (by rw [e0])) (da_cons ((ev_len (K := K) true (da_cons (cy H2 s2 _ rfl) da_nil)).is (by rw [List.length_map])) da_nil)) ⟨c0, by omega⟩) fun t H3 s3 rt => g_tup2 rt fun x y rx ry => ?_
    have rx : x = .int (((n - r.head.length : Nat) : Int) / (r.cycle.length : Int)) := rx
    have ry : y = .int (((n - r.head.length : Nat) : Int) % (r.cycle.length : Int)) := ry
    subst rx ry
    have e1 : ((n - r.head.length : Nat) : Int) % (r.cycle.length : Int) = (((n - r.head.length) % r.cycle.length : Nat) : Int) := rfl
    have lt := Nat.mod_lt (n - r.head.length) k3
    refine s_retv (ev_I0 (ev_ixT (n := (n - r.head.length) % r.cycle.length) (cy H3 (s2.trans s3) _ rfl) (ev_v rfl) (int_at lt)) (ev_mulR (ev_v rfl) (ev_fld (ev_v rfl) (((s1.trans s2).trans s3) _ _ hp) (E.cls 100) (E.noat 104) rfl) (by omega) (by omega))) fun H4 s4 => h2 _ H4 (((s1.trans s2).trans s3).trans s4) ?_
    unfold Rw.at; rw [if_neg c]
    rfl
end
end LC
end
section
set_option Elab.async false
set_option linter.all false
set_option maxRecDepth 100000
set_option maxHeartbeats 2000000
/-! new rows, new books; turned -/
namespace LC
open PySem PySem.Spec L2
abbrev RwP (K : PySem.W.Frag) (r : Rw) : PV := fun v H => ∃ p, v = .ref p ∧ RowAt K H p r
abbrev BkP (K : PySem.W.Frag) (b : Bk) : PV := fun v H => ∃ p, v = .ref p ∧ BookAt K H p b
section
variable {K : PySem.W.Frag} {σ : St} {H : Hp} {ta : TA} {l m : List Int} {r : Int} {b : Bk}
theorem made_same {H1 H2 : Hp} {x dx : Addr} {o1 o2 : HO} (h1 : H1 x = none) (h2 : H1 dx = none) (k : ∀ a o, a ≠ x → (upd (upd H1 dx o1) x o2) a = some o → H2 a = some o) : Same H1 H2 := fun a o ha => by
  have n1 : a ≠ x := fun e => by rw [e, h1] at ha; cases ha
  have n2 : a ≠ dx := fun e => by rw [e, h2] at ha; cases ha
  exact k a o n1 (by rw [upd_ne n1, upd_ne n2]; exact ha)
theorem made_new {H1 : Hp} {x dx : Addr} {o1 o2 : HO} (h1 : H1 x = none) (h2 : H1 dx = none) : Same H1 (upd (upd H1 dx o1) x o2) := made_same h1 h2 fun _ _ _ h => h
theorem ev_row (ha : EA ta σ H (Da K [intsD l, intsD m, .int r])) (k1 : l.length ≤ 1000) (k2 : 0 < m.length) (k3 : m.length ≤ 1000) : Ev (tMake (He.ga K "Row") (spRowNew K) [] E0 ta) σ H (RwP K (mkRow l m r)) :=
  ev_make ha fun vs H1 s p x dx h1 h2 h3 Q q => by
    obtain ⟨v1, _, rfl, r1, v2, _, rfl, r2, p3⟩ := p
    obtain ⟨_, rfl, rfl⟩ := one_of p3
    exact ⟨x, dx, l, m, r, v1, v2, rfl, upd_same, ⟨k1, k2, k3⟩, Rep.same (made_new h1 h2) r1, Rep.same (made_new h1 h2) r2, fun H2 g1 g2 => q H2 (made_same h1 h2 g1) ⟨x, rfl, g2⟩⟩
theorem ev_book (ha : EA ta σ H (Da K [sortsD b.sorts, heapsD b.heaps, stD b.last])) (k : b.ok) : Ev (tMake (He.ga K "Book") (spBookNew K) [] E0 ta) σ H (BkP K b) :=
  ev_make ha fun vs H1 s p x dx h1 h2 h3 Q q => by
    obtain ⟨v1, _, rfl, r1, v2, _, rfl, r2, p3⟩ := p
    obtain ⟨v3, rfl, r3⟩ := one_of p3
    exact ⟨x, dx, b, v1, v2, v3, rfl, upd_same, k, Rep.same (made_new h1 h2) r1, Rep.same (made_new h1 h2) r2, Rep.same (made_new h1 h2) r3, fun H2 g1 g2 => q H2 (made_same h1 h2 g1) ⟨x, rfl, g2⟩⟩
end
section
variable {P : Program} {w : World} {K : PySem.W.Frag} {mg : Str → Option Value} {base : Heap}
abbrev spTurned (K : PySem.W.Frag) : Sp := spH K rwArg (fun a H => RowAt K H a.1 a.2 ∧ a.2.head.length ≤ 1000 ∧ 0 < a.2.cycle.length ∧ a.2.cycle.length ≤ 1000) fun a => RwP K a.2.turn
-- row 0 number 1
theorem sc_turned : FnScope ["row", "number"] ["row"] (defScope (top 88)) := ⟨rfl, rfl, rfl, by decide +kernel, rfl, by decide +kernel, by decide +kernel⟩
theorem ok_turned (E : Env P w K mg base) (c_Row : Okc P w K mg base 3 "Row" ["self", "early", "again", "rise"] (spRowNew K)) (p_Row_early : Okp P w K mg base 1 "Row" "early" (spEarly K)) (p_Row_again : Okp P w K mg base 1 "Row" "again" (spAgain K)) (p_Row_rise : Okp P w K mg base 1 "Row" "rise" (spRise K)) : Okf P w K mg base 5 "turned" ["row"] (spTurned K) :=
  okf_mk E 42 42 rfl rfl sc_turned (fun _ _ _ _ _ _ us hl => match us, hl with | [_], _ => rfl) (spH_len fun _ => rfl) fun cdv A outer s H vs Q E0 hr h => by
  obtain ⟨⟨p, r⟩, h1, ⟨hr', k1, k2, k3⟩, h2⟩ := h
  have k1 : r.head.length ≤ 1000 := k1
  have k2 : 0 < r.cycle.length := k2
  have k3 : r.cycle.length ≤ 1000 := k3
  have hr' : RowAt K H p r := hr'
  obtain ⟨dx, v, u, hp, hv, hu⟩ := id hr'
  obtain ⟨_, rfl, rfl⟩ := one_of h1
  have nd := sc_turned.nd
  refine ⟨_, (pss_one (ps_ret (kMake (K := K) rfl c_Row (hr.mono (by decide)) (pa_cons (kTy (K := K) (r' := rTupOf) rfl call_tuple_of (E.free 66) (by decide +kernel) (pa_cons (pe_lc (own := [("number", 1)]) (g := gName 1) (tt := tYes)  rfl nd (kITup (K := K) rfl (kProp (K := K) rfl p_Row_early (hr.mono (by decide)) (pv 0))) (blkOk_by (N := ["row", "number"]) (sc := defScope (top 88)) (by decide +kernel)) (fun _ _ _ _ _ => (pg_name (i := 1) nd rfl (.inl rfl))) (fun _ _ _ _ _ => pts_nil) (fun _ _ _ _ _ => (pe_un un_neg (pv 1)))) pa_nil)) (pa_cons (kTy (K := K) (r' := rTupOf) rfl call_tuple_of (E.free 66) (by decide +kernel) (pa_cons (pe_lc (own := [("number", 1)]) (g := gName 1) (tt := tYes)  rfl nd (kITup (K := K) rfl (kProp (K := K) rfl p_Row_again (hr.mono (by decide)) (pv 0))) (blkOk_by (N := ["row", "number"]) (sc := defScope (top 88)) (by decide +kernel)) (fun _ _ _ _ _ => (pg_name (i := 1) nd rfl (.inl rfl))) (fun _ _ _ _ _ => pts_nil) (fun _ _ _ _ _ => (pe_un un_neg (pv 1)))) pa_nil)) (pa_cons (pe_un un_neg (kProp (K := K) rfl p_Row_rise (hr.mono (by decide)) (pv 0))) pa_nil)))))), ?_⟩
  have body : ∀ (l : List Int) {te : TE} {i : Nat} (h : Ev te [some (.ref p), none] H (Dt K (intsD l))) (hl : l.length ≤ 1000), Ev (tLc (iTup K te) (gName 1) tYes (tUn (rU fun i => .int (-i)) (tVar 1)) [1]) [some (.ref p), none] H (NewL K H ((l.map (- ·)).map D.int)) := fun l te i h hl => by
    rw [List.map_map]
    refine ev_lc1 D.int _ (it_tup (ds := l.map D.int) h (tups_ints l)) (by omega) (fun _ => rfl) (fun _ _ => rfl) fun a x H1 _ _ rx => ?_
    have rx : x = .int a := rx
    subst rx
    exact ev_neg (ev_v rfl)
  refine s_ret (ev_row (l := r.head.map (- ·)) (m := r.cycle.map (- ·)) (r := - r.step) (da_cons (ev_tupOf (da_cons (NewL.dt (body r.head (i := 0) (ev_pfnH (p, r) (ev_v rfl) hp rfl fun H1 s => hr'.same s) k1)) da_nil)) (da_cons (ev_tupOf (da_cons (NewL.dt (body r.cycle (i := 0) (ev_pfnH (p, r) (ev_v rfl) hp rfl fun H1 s => hr'.same s) k3)) da_nil)) (da_cons (ev_neg (ev_pfnH (p, r) (ev_v rfl) hp rfl fun H1 s => hr'.same s)) da_nil))) (by rw [List.length_map]; exact k1) (by rw [List.length_map]; exact k2) (by rw [List.length_map]; exact k3)) h2
end
end LC
end
section
set_option Elab.async false
set_option linter.all false
set_option maxRecDepth 100000
set_option maxHeartbeats 1000000
/-! States in the heap. -/
namespace LC
open PySem PySem.Spec L2
/-- all but p stays -/
def Oth (p : Addr) (H H' : Hp) : Prop := ∀ a o, a ≠ p → H a = some o → H' a = some o
theorem Oth.refl {p : Addr} (H : Hp) : Oth p H H := fun _ _ _ h => h
theorem Oth.same {p : Addr} {H H1 H2 : Hp} (a : Oth p H H1) (b : Same H1 H2) : Oth p H H2 := fun c o hc h => b _ _ (a c o hc h)
theorem Oth.upd {p : Addr} {H H1 : Hp} {o : HO} (a : Oth p H H1) : Oth p H (L2.upd H1 p o) := fun c u hc h => by rw [upd_ne hc]; exact a c u hc h
theorem Oth.mut {p q : Addr} {H H1 : Hp} {o : HO} (a : Oth p H H1) (hq : H q = none) : Oth p H (L2.upd H1 q o) := fun c u hc h => by rw [upd_ne (ne_of_none h hq)]; exact a c u hc h
theorem Oth.fresh {p q : Addr} {H H1 : Hp} (a : Oth p H H1) (hp : H p ≠ none) (hpq : H1 p ≠ none) (hq : H1 q = none) : H q = none := by
  cases e : H q with
  | none => rfl
  | some o =>
    by_cases c : q = p
    · rw [c] at hq; exact absurd hq hpq
    · rw [a q o c e] at hq; cases hq
section
variable {K : PySem.W.Frag} {p C dx : Addr} {fs : List (Str × V)} {H H' : Hp}
theorem oth_ne {a : Addr} {o : HO} (hp : H p = some (.ins C dx fs)) (ha : H a = some o) (n : ∀ C dx fs, o ≠ .ins C dx fs) : a ≠ p := fun e => by
  rw [e, hp] at ha
  exact n C dx fs (Option.some.inj ha).symm
theorem oth_sqL {a : Addr} {xs : List V} (hp : H p = some (.ins C dx fs)) (e : Oth p H H') (h : SqL K H a xs) : SqL K H' a xs := by
  rcases h with (h | ⟨o, h⟩) | h
  · exact .inl (.inl (e _ _ (oth_ne hp h fun _ _ _ z => nomatch z) h))
  · exact .inl (.inr ⟨o, e _ _ (oth_ne hp h fun _ _ _ z => nomatch z) h⟩)
  · exact .inr h
mutual
theorem Rep.oth (hp : H p = some (.ins C dx fs)) (e : Oth p H H') : ∀ {d : D} {v : V}, Rep K H d v → Rep K H' d v
  | .non, _, h => h
  | .bl _, _, h => h
  | .int _, _, h => h
  | .str _, _, h => h
  | .ref _, _, h => h
  | .lst _, _, ⟨a, xs, h1, h2, h3⟩ => ⟨a, xs, h1, oth_sqL hp e h2, RepAll.oth hp e h3⟩
  | .tup _, _, ⟨a, xs, h1, h2, h3⟩ => ⟨a, xs, h1, e _ _ (oth_ne hp h2 fun _ _ _ z => nomatch z) h2, RepAll.oth hp e h3⟩
theorem RepAll.oth (hp : H p = some (.ins C dx fs)) (e : Oth p H H') : ∀ {l : List D} {vs : List V}, RepAll K H l vs → RepAll K H' l vs
  | [], _, h => h
  | _ :: _, _, ⟨v, r, h1, h2, h3⟩ => ⟨v, r, h1, Rep.oth hp e h2, RepAll.oth hp e h3⟩
end
theorem BookAt.oth {a : Addr} {b : Bk} (hp : H p = some (.ins C dx [])) (e : Oth p H H') (h : BookAt K H a b) : BookAt K H' a b := by
  obtain ⟨d2, vs, vh, vl, vw, f⟩ := h
  refine ⟨d2, vs, vh, vl, vw, e _ _ (fun z => ?_) f.ins, Rep.oth hp e f.sorts, Rep.oth hp e f.heaps, Rep.oth hp e f.last⟩
  have := f.ins
  rw [z, hp] at this
  cases this
end
abbrev Sd := Addr × Bk × Int
def sideD (s : Sd) : D := .tup [.ref s.1, .int s.2.2]
theorem sideD_tups (l : List Sd) : D.tupsOnlys (l.map sideD) = true := by
  induction l with
  | nil => rfl
  | cons a l ih => show (true && D.tupsOnlys (l.map sideD)) = true; rw [ih]; rfl
/-- small shares -/
structure Bk.fine (b : Bk) : Prop where
  ok : b.ok
  share : ∀ z, z ∈ b.names → (b.share z).2 ≤ 5
structure SdOk (K : PySem.W.Frag) (H : Hp) (s : Sd) : Prop where
  book : BookAt K H s.1 s.2.1
  fine : s.2.1.fine
  sign : s.2.2 = 1 ∨ s.2.2 = -1
theorem SdOk.same {K : PySem.W.Frag} {H H' : Hp} {s : Sd} (h : SdOk K H s) (e : Same H H') : SdOk K H' s := ⟨h.book.same e, h.fine, h.sign⟩
structure StsF (K : PySem.W.Frag) (H : Hp) (p : Addr) (L : List Sd) (S : Sts) (dx : Addr) (vs vp : V) : Prop where
  ins : H p = some (.ins (He.ga K "States") dx [("sides", vs), ("spans", vp), ("bottom", .int (S.bottom : Int))])
  sides : Rep K H (.lst (L.map sideD)) vs
  spans : Rep K H (.lst (S.spans.map fun (n : Nat) => .int (n : Int))) vp
  eq : L.map (·.2) = S.sides
  few : L.length ≤ 2
  books : ∀ s, s ∈ L → SdOk K H s
def StsAt (K : PySem.W.Frag) (H : Hp) (p : Addr) (S : Sts) : Prop := ∃ L dx vs vp, StsF K H p L S dx vs vp
theorem StsF.same {K : PySem.W.Frag} {H H' : Hp} {p : Addr} {L : List Sd} {S : Sts} {dx : Addr} {vs vp : V} (h : StsF K H p L S dx vs vp) (e : Same H H') : StsF K H' p L S dx vs vp :=
  ⟨e _ _ h.ins, Rep.same e h.sides, Rep.same e h.spans, h.eq, h.few, fun s hs => (h.books s hs).same e⟩
theorem StsAt.same {K : PySem.W.Frag} {H H' : Hp} {p : Addr} {S : Sts} (e : Same H H') : StsAt K H p S → StsAt K H' p S := fun ⟨L, dx, vs, vp, h⟩ => ⟨L, dx, vs, vp, h.same e⟩
section
variable {K : PySem.W.Frag} {σ : St} {H : Hp} {ta te tv : TE} {P : PV} {E : Ends} {z : TS} {p C dx : Addr} {fs : List (Str × V)} {f : Str} {ds : List D} {t : TS} {xs ys : List V}
theorem s_sfld (h : Ev te σ H (Is (.ref p))) (hv : Ev tv σ H P) (hp : H p = some (.ins C dx fs)) (cl : Cls K C) (na : NoAttr K C f) (hl : fs.length < 1000) (k : ∀ y H1, Same H H1 → P y H1 → E.nx σ (upd H1 p (.ins C dx (putF f y fs)))) (m : Mono P) : sFld K te tv f E σ H :=
  hv H (Same.refl _) _ fun y H1 s1 py => h H1 s1 _ fun x H2 s2 e => ⟨p, C, dx, fs, e, (s1.trans s2) _ _ hp, cl, na, hl, k y H2 (s1.trans s2) (m _ _ _ s2 py)⟩
theorem q_sfld (h : Ev te σ H (Is (.ref p))) (hv : Ev tv σ H P) (hp : H p = some (.ins C dx fs)) (cl : Cls K C) (na : NoAttr K C f) (hl : fs.length < 1000) (k : ∀ y H1, Same H H1 → P y H1 → z E σ (upd H1 p (.ins C dx (putF f y fs)))) (m : Mono P) : tSeq (sFld K te tv f) z E σ H := s_sfld (E := { E with nx := z E }) h hv hp cl na hl k m
/-- a list, walked while it stays -/
abbrev BL (K : PySem.W.Frag) (ds : List D) (v : V) : Hp → (Hp → Prop) → Prop := fun H2 G => ∃ a xs, v = .ref a ∧ SqL K H2 a xs ∧ RepAll K H2 ds xs ∧ ∀ H', SqL K H' a xs → RepAll K H' ds xs → G H'
theorem it_lstL {v : V} (h : Ev te σ H (Is v)) (hv : Rep K H (.lst ds) v) : IT K (iList K te) σ H ds (BL K ds v) := fun H1 e R q =>
  h H1 e _ fun w H2 e2 p => by
    obtain ⟨a, xs, h1, h2, h3⟩ := id hv
    exact ⟨a, p.trans h1, ⟨xs, same_sqL (e.trans e2) h2⟩, q _ H2 (fun H' => SqL K H' a xs ∧ RepAll K H' ds xs) e2 (fun H' k => ⟨same_sqL ((e.trans e2).trans k) h2, RepAll.same ((e.trans e2).trans k) h3⟩) ⟨a, xs, h1, same_sqL (e.trans e2) h2, RepAll.same (e.trans e2) h3, fun H' k1 k2 => ⟨k1, k2⟩⟩
      (Walk.dt (walk_list (K := K) (a := a) (xs := xs)) h3.length fun H' k => k)⟩
theorem it_lstA {a : Addr} {xs : List V} (h : Ev te σ H (Is (.ref a))) (h2 : SqL K H a xs) (h3 : RepAll K H ds xs) : IT K (iList K te) σ H ds (fun _ G => ∀ H', SqL K H' a xs → RepAll K H' ds xs → G H') := fun H1 e R q =>
  h H1 e _ fun w H2 e2 p => ⟨a, p, ⟨xs, same_sqL (e.trans e2) h2⟩, q _ H2 (fun H' => SqL K H' a xs ∧ RepAll K H' ds xs) e2 (fun H' k => ⟨same_sqL ((e.trans e2).trans k) h2, RepAll.same ((e.trans e2).trans k) h3⟩) (fun H' k1 k2 => ⟨k1, k2⟩)
      (Walk.dt (walk_list (K := K) (a := a) (xs := xs)) h3.length fun H' k => k)⟩
/-- xs.extend(t) -/
theorem s_extT (h : Ev ta σ H (Is (.ref p))) (hp : H p = some (.lst xs)) (he : Ev te σ H (Dt K (.tup ds))) (hl : xs.length + ds.length ≤ 100000) (k : ∀ H1 ys, Same H H1 → RepAll K H1 ds ys → E.nx σ (upd H1 p (.lst (xs ++ ys)))) : tDrop (tBM K "list" (rExtT K) ta (tCons te tNil)) E σ H :=
  h H (Same.refl _) _ fun v H1 s1 e => ⟨by rw [e]; exact .inl ⟨rfl, _, SqL.of (s1 _ _ hp)⟩, he H1 s1 _ fun w H2 s2 ⟨b, ys, e1, e2, e3⟩ => ⟨p, b, xs, ys, e, by rw [e1], (s1.trans s2) _ _ hp, SqT.of e2, sz (by rw [e3.length]; exact hl), k H2 ys (s1.trans s2) e3⟩⟩
theorem q_extT (h : Ev ta σ H (Is (.ref p))) (hp : H p = some (.lst xs)) (he : Ev te σ H (Dt K (.tup ds))) (hl : xs.length + ds.length ≤ 100000) (k : ∀ H1 ys, Same H H1 → RepAll K H1 ds ys → z E σ (upd H1 p (.lst (xs ++ ys)))) : tSeq (tDrop (tBM K "list" (rExtT K) ta (tCons te tNil))) z E σ H := s_extT (E := { E with nx := z E }) h hp he hl k
end
end LC
end
section
set_option Elab.async false
set_option linter.all false
set_option maxRecDepth 100000
set_option maxHeartbeats 2000000
/-! States.__init__ -/
namespace LC
open PySem PySem.Spec L2
theorem lcmN_le (a b : Nat) : lcmN a b ≤ a * b := Nat.mul_le_mul_right b (Nat.div_le_self a _)
theorem lcmN_pos {a b : Nat} (ha : 0 < a) (hb : 0 < b) : 0 < lcmN a b := Nat.mul_pos (Nat.div_pos (Nat.le_of_dvd ha (Nat.gcd_dvd_left a b)) (Nat.gcd_pos_of_pos_right _ hb)) hb
theorem share_pos {b : Bk} (h : b.ok) {z : Str} (hz : z ∈ b.names) : FSm (b.share z) := (rateS_ok (Bk.tail_ok h hz)).sm (Nat.le_refl _)
theorem share_1 {b : Bk} (h : b.ok) {z : Str} (hz : z ∈ b.names) : (b.share z).1 ≤ 15625 := Nat.le_trans (rateS_ok (Bk.tail_ok h hz)).1 (by decide)
def botB (t : Nat) (b : Bk) : Nat := b.names.foldl (fun t z => lcmN t (b.share z).2) t
theorem botN_ok {b : Bk} (h : b.fine) : ∀ (ns : List Str) (t n : Nat), (∀ z, z ∈ ns → z ∈ b.names) → 0 < t → t ≤ 5 ^ n → 0 < ns.foldl (fun t z => lcmN t (b.share z).2) t ∧ ns.foldl (fun t z => lcmN t (b.share z).2) t ≤ 5 ^ (n + ns.length)
  | [], t, n, _, h1, h2 => ⟨h1, h2⟩
  | z :: ns, t, n, hs, h1, h2 => by
    have hz := hs z (List.mem_cons_self ..)
    have q := botN_ok h ns (lcmN t (b.share z).2) (n + 1) (fun u hu => hs u (List.mem_cons_of_mem _ hu)) (lcmN_pos h1 (share_pos h.ok hz).2.2) (Nat.le_trans (lcmN_le _ _) (by rw [Nat.pow_succ]; exact Nat.mul_le_mul h2 (h.share z hz)))
    rw [List.foldl_cons, List.length_cons, Nat.add_comm ns.length 1, ← Nat.add_assoc]
    exact q
theorem botB_ok {b : Bk} (h : b.fine) {t n : Nat} (h1 : 0 < t) (h2 : t ≤ 5 ^ n) : 0 < botB t b ∧ botB t b ≤ 5 ^ (n + 4) := by
  obtain ⟨q1, q2⟩ := botN_ok h b.names t n (fun _ hz => hz) h1 h2
  refine ⟨q1, Nat.le_trans q2 (Nat.pow_le_pow_right (by decide) (Nat.add_le_add_left ?_ n))⟩
  show (b.sorts.map (·.1)).length ≤ 4
  rw [List.length_map]; exact h.ok.few
theorem botL_ok : ∀ (l : List Bk) (t n : Nat), (∀ b, b ∈ l → b.fine) → 0 < t → t ≤ 5 ^ n → 0 < l.foldl botB t ∧ l.foldl botB t ≤ 5 ^ (n + 4 * l.length)
  | [], t, n, _, h1, h2 => ⟨h1, h2⟩
  | b :: l, t, n, hs, h1, h2 => by
    obtain ⟨q1, q2⟩ := botB_ok (hs b (List.mem_cons_self ..)) h1 h2
    have q := botL_ok l (botB t b) (n + 4) (fun u hu => hs u (List.mem_cons_of_mem _ hu)) q1 q2
    rw [List.foldl_cons, List.length_cons]
    refine ⟨q.1, Nat.le_trans q.2 (Nat.pow_le_pow_right (by decide) (by omega))⟩
theorem ev_tup2 {K : PySem.W.Frag} {σ : St} {H : Hp} {ta tb : TE} {P1 P2 : PV} (h1 : Ev ta σ H P1) (h2 : Ev tb σ H P2) (m1 : Mono P1) (m2 : Mono P2) : Ev (tTup (tCons ta (tCons tb tNil))) σ H (fun u H' => ∃ a v w, u = .ref a ∧ H' a = some (.tup [v, w]) ∧ P1 v H' ∧ P2 w H') := fun H1 s Q q =>
  h1 H1 s _ fun v H2 s2 p1 => h2 H2 (s.trans s2) _ fun w H3 s3 p2 => ⟨sz (by show 2 ≤ 100000; decide), fun a ha => q _ _ ((s2.trans s3).trans (same_new ha)) ⟨a, v, w, rfl, upd_same, m1 _ _ _ (s3.trans (same_new ha)) p1, m2 _ _ _ (same_new ha) p2⟩⟩
theorem oth_inv {K : PySem.W.Frag} {H H' : Hp} {p dx : Addr} (hp : H p = some (.ins (He.ga K "States") dx [])) (e : Oth p H H') {s : Sd} (h : SdOk K H s) : SdOk K H' s := ⟨h.book.oth hp e, h.fine, h.sign⟩
section
variable {P : Program} {w : World} {K : PySem.W.Frag} {mg : Str → Option Value} {base : Heap}
abbrev spStsNew (K : PySem.W.Frag) : Sp := fun vs H Q _ => ∃ (p dx : Addr) (L : List Sd) (v1 : V), vs = [.ref p, v1] ∧ H p = some (.ins (He.ga K "States") dx []) ∧ L.length ≤ 2 ∧ Rep K H (.lst (L.map sideD)) v1 ∧ (∀ s, s ∈ L → SdOk K H s) ∧
  ∀ H2, Oth p H H2 → StsAt K H2 p (mkStsL (L.map (·.2))) → Q .non H2
theorem spStsNew_len {K : PySem.W.Frag} : ∀ vs H Q E, spStsNew K vs H Q E → vs.length = 2 := by
  rintro _ _ _ _ ⟨_, _, _, _, rfl, _⟩; rfl
def spansI (l : List Sd) : List Int := (l.flatMap fun s => s.2.1.periods).map fun (n : Nat) => (n : Int)
theorem spansI_len : ∀ (l : List Sd), (∀ s, s ∈ l → s.2.1.ok) → (spansI l).length ≤ 3 * l.length
  | [], _ => Nat.zero_le _
  | s :: l, h => by
    have ih := spansI_len l fun u hu => h u (List.mem_cons_of_mem _ hu)
    have := (h s (List.mem_cons_self ..)).hfew
    unfold spansI Bk.periods at *
    rw [List.flatMap_cons, List.map_append, List.length_append, List.length_map, List.length_map, List.length_cons]
    omega
theorem spansI_at {l : List Sd} {i : Nat} {s : Sd} (h : l[i]? = some s) : spansI (l.take (i + 1)) = spansI (l.take i) ++ s.2.1.periods.map fun (n : Nat) => (n : Int) := by
  unfold spansI
  rw [List.take_add_one, h, List.flatMap_append, List.map_append]
  show _ ++ List.map _ (s.2.1.periods ++ []) = _
  rw [List.append_nil]
def botAt (l : List Sd) : Nat := (l.map (·.2.1)).foldl botB 1
theorem botAt_at {l : List Sd} {i : Nat} {s : Sd} (h : l[i]? = some s) : botAt (l.take (i + 1)) = botB (botAt (l.take i)) s.2.1 := by
  unfold botAt
  rw [List.take_add_one, h, List.map_append, List.foldl_append]; rfl
-- self 0 sides 1 book 2 sign 3 name 4
theorem sc_States_init : FnScope ["self", "sides", "book", "sign", "name"] ["self", "sides"] (defScope (mth 80 0)) := ⟨rfl, rfl, rfl, by decide +kernel, rfl, by decide +kernel, by decide +kernel⟩
theorem ok_States_init (E : Env P w K mg base) (m_Book_periods : Okm P w K mg base 3 "Book" "periods" ["self"] (spPeriods K)) (p_Book_names : Okp P w K mg base 1 "Book" "names" (spNames K)) (o_common_multiple : Okf P w K mg base 2 "common_multiple" ["one", "other"] (spLcm K)) (m_Book_share : Okm P w K mg base 5 "Book" "share" ["self", "name"] (spShare K)) : Okc P w K mg base 6 "States" ["self", "sides"] (spStsNew K) :=
  okc_mk E 73 107 105 rfl rfl rfl sc_States_init (fun _ _ _ _ _ _ us hl => match us, hl with | [_, _], _ => rfl) spStsNew_len fun cdv A outer s H vs Q E0 hr h => by
  obtain ⟨p, dx, L, v1, rfl, hp, hl, r1, hb, h2⟩ := h
  have nd := sc_States_init.nd
  refine ⟨_, (pss_cons (kSFld (K := K) rfl (pv 0) (pv 1))
      (pss_cons (ps_asg (pe_tup (pa_cons (pe_lst pa_nil) (pa_cons pe_int pa_nil))) (kGTup (K := K) (n := 2) rfl rfl (pgs_cons (kGFld (K := K) rfl (pv 0)) (pgs_cons (kGFld (K := K) rfl (pv 0)) pgs_nil))))
      (pss_one (ps_for PassesOwn.never rfl (kIList (K := K) rfl (pv 1)) (kGTup (K := K) (n := 2) rfl rfl (pgs_cons (pg_name (i := 2) nd rfl (.inl rfl)) (pgs_cons (pg_name (i := 3) nd rfl (.inl rfl)) pgs_nil))) (pss_cons (ps_expr (kExtT (K := K) rfl (kFld (K := K) rfl (pv 0)) (pa_cons (kMeth0 (K := K) rfl m_Book_periods (hr.mono (by decide)) (pv 2)) pa_nil)))
      (pss_one (ps_for PassesOwn.never rfl (kITup (K := K) rfl (kProp (K := K) rfl p_Book_names (hr.mono (by decide)) (pv 2))) (pg_name (i := 4) nd rfl (.inl rfl)) (pss_one (kSFld (K := K) rfl (pv 0) (pe_okf o_common_multiple (hr.mono (by decide)) (pa_cons (kFld (K := K) rfl (pv 0)) (pa_cons (kIxT (K := K) rfl (kMeth (K := K) rfl m_Book_share (hr.mono (by decide)) (pv 2) (pa_cons (pv 4) pa_nil)) pe_int) pa_nil)))))))))))), ?_⟩
  refine q_sfld (ev_v rfl) (ev_v rfl) hp (E.cls 106) (E.noat 108) (by decide) (fun y H1 s1 e => ?_) mono_is
  have e := Eq.symm (show y = v1 from e)
  subst e
  obtain ⟨al, xl, el, hl1, hl2⟩ := id r1
  have hp1 := s1 _ _ hp
  refine q_asgG (ev_tup2 (K := K) (ev_lst (K := K) (l := []) da_nil (by decide)) ev_c mono_new mono_is) fun t H2 s2 ⟨a, u1, u2, e1, ht, ⟨q, ys, e2, gq, g2, g3⟩, e3⟩ => ?_
  have g3 : ys = [] := g3
  subst g3 e3 e2 e1
  have hp2 : H2 p = some (.ins (He.ga K "States") dx [("sides", v1)]) := s2 _ _ upd_same
  refine ⟨a, _, rfl, SqT.of ht, rfl, .ref q, _, rfl, .ref p, rfl, p, _, dx, [("sides", v1)], rfl, hp2, E.cls 106, E.noat 109, (show 1 < 1000 by decide), .int 1, _, rfl, .ref p, rfl, p, _, dx, [("sides", v1), ("spans", .ref q)], rfl, upd_same, E.cls 106, E.noat 110, (show 2 < 1000 by decide), rfl, ?_⟩
  have o1 : Oth p H H1 := (Oth.refl H).same s1
  have o2 : Oth p H H2 := o1.upd.same s2
  have nq : H q = none := by
    refine Oth.fresh (p := p) (o1.upd) (by rw [hp]; exact fun z => nomatch z) (by rw [upd_same]; exact fun z => nomatch z) gq
  have nqp : q ≠ p := fun e => by rw [e, hp] at nq; cases nq
  have o3 : Oth p H (upd (upd H2 p (.ins (He.ga K "States") dx [("sides", v1), ("spans", .ref q)])) p (.ins (He.ga K "States") dx [("sides", v1), ("spans", .ref q), ("bottom", .int 1)])) := o2.upd.upd
  refine s_for (it_lstA (ds := L.map sideD) ((ev_v rfl).is el) (oth_sqL hp o3 hl1) (RepAll.oth hp o3 hl2)) fun H3 G s3 eG hB => ⟨fun i σ' H' => Oth p H H' ∧ H' q = some (.lst ((spansI (L.take i)).map V.int)) ∧ H' p = some (.ins (He.ga K "States") dx [("sides", v1), ("spans", .ref q), ("bottom", .int (botAt (L.take i) : Int))]) ∧ ∃ x y z, σ' = [some (.ref p), some v1, x, y, z], ⟨o3.same s3, s3 _ _ (by rw [upd_ne nqp, upd_ne nqp]; exact g2), s3 _ _ upd_same, _, _, _, rfl⟩, fun i σ' H' k => hB H' (oth_sqL hp k.1 hl1) (RepAll.oth hp k.1 hl2), ?_, ?_⟩
  · rintro i d x σ' H' H'' hd ⟨q1, q3, q4, x1, y1, z1, rfl⟩ s4 rd
    obtain ⟨sd, e5, rfl⟩ := map_at hd
    have hi : i < L.length := (List.getElem?_eq_some_iff.mp e5).1
    have sin := hb sd (List.mem_of_getElem? e5)
    have sok := oth_inv hp (q1.same s4) sin
    refine g_tup2 rd fun bv sv rb rs => ?_
    have rb : bv = .ref sd.1 := rb
    have rs : sv = .int sd.2.2 := rs
    subst rb rs
    obtain ⟨d2, vs2, vh2, vl2, vw2, bf⟩ := id sok.book
    have nms : sd.2.1.sorts.length ≤ 4 := sok.fine.ok.few
    have sl := spansI_len (L.take i) fun u hu => (hb u (List.mem_of_mem_take hu)).fine.ok
    have tl : (L.take i).length ≤ 2 := by rw [List.length_take]; omega
    have pl : (sd.2.1.periods.map fun (n : Nat) => D.int (n : Int)).length ≤ 3 := by rw [List.length_map]; unfold Bk.periods; rw [List.length_map]; exact sok.fine.ok.hfew
    refine q_extT (ev_fld (ev_v rfl) (s4 _ _ q4) (E.cls 106) (E.noat 109) rfl) (s4 _ _ q3) (ev_mfnH (sd.1, sd.2.1) (ev_v rfl) bf.ins rfl da_nil rfl fun H1 s => ⟨sok.book.same s, sok.fine.ok⟩) (by rw [List.length_map]; exact Nat.le_trans (Nat.add_le_add sl pl) (by omega)) fun H5 ys s5 hys => ?_
    have hys' : ys = (sd.2.1.periods.map fun (n : Nat) => (n : Int)).map V.int := by
      have : RepAll K H5 ((sd.2.1.periods.map fun (n : Nat) => (n : Int)).map D.int) ys := by rw [List.map_map]; exact hys
      exact this.ints_eq
    have s45 := s4.trans s5
    have o5 : Oth p H (upd H5 q (.lst ((spansI (L.take i)).map V.int ++ ys))) := (q1.same s45).mut nq
    have p5 : (upd H5 q (.lst ((spansI (L.take i)).map V.int ++ ys))) p = some (.ins (He.ga K "States") dx [("sides", v1), ("spans", .ref q), ("bottom", .int (botAt (L.take i) : Int))]) := by rw [upd_ne nqp.symm]; exact s45 _ _ q4
    have sok5 := oth_inv hp o5 sin
    obtain ⟨d3, vs3, vh3, vl3, vw3, bf3⟩ := id sok5.book
    obtain ⟨b1, b2⟩ := botL_ok ((L.take i).map (·.2.1)) 1 0 (fun b hb' => by
      obtain ⟨u, hu, rfl⟩ := List.mem_map.mp hb'
      exact (hb u (List.mem_of_mem_take hu)).fine) (by decide) (by decide)
    have b3 : botAt (L.take i) ≤ 5 ^ 4 := Nat.le_trans b2 (Nat.pow_le_pow_right (by decide) (by rw [List.length_map, List.length_take]; omega))
    refine s_for (it_tup (ds := sd.2.1.names.map D.str) (ev_pfnH (sd.1, sd.2.1) (ev_v rfl) bf3.ins rfl fun H1 s => ⟨sok5.book.same s, nms⟩) (tups_strs _)) fun H6 G6 s6 eG6 hB6 => ⟨fun j σ' H' => KeepT H6 H' ∧ Oth p H H' ∧ H' q = some (.lst ((spansI (L.take (i + 1))).map V.int)) ∧ H' p = some (.ins (He.ga K "States") dx [("sides", v1), ("spans", .ref q), ("bottom", .int ((sd.2.1.names.take j).foldl (fun t z => lcmN t (sd.2.1.share z).2) (botAt (L.take i)) : Nat))]) ∧ ∃ z, σ' = [some (.ref p), some v1, some (.ref sd.1), some (.int sd.2.2), z], ⟨KeepT.refl _, o5.same s6, s6 _ _ (by rw [upd_same, spansI_at e5, List.map_append, hys']), s6 _ _ p5, _, rfl⟩, fun j σ' H' k => hB6 H' k.1, ?_, ?_⟩
    · rintro j d' x' σ'' I' I'' hd' ⟨k1, k2, k3, k4, z', rfl⟩ s7 rd'
      obtain ⟨z, e8, rfl⟩ := map_at hd'
      have rd' : x' = .str z := rd'
      subst rd'
      have hz : z ∈ sd.2.1.names := List.mem_of_getElem? e8
      have sok7 := oth_inv hp (k2.same s7) sin
      obtain ⟨d4, vs4, vh4, vl4, vw4, bf4⟩ := id sok7.book
      have fs := share_pos sin.fine.ok hz
      have fl : sd.2.1.names.length ≤ 4 := by show (sd.2.1.sorts.map (·.1)).length ≤ 4; rw [List.length_map]; exact nms
      have jl : j < sd.2.1.names.length := (List.getElem?_eq_some_iff.mp e8).1
      refine s_sfld (ev_v rfl) (ev_fn ((sd.2.1.names.take j).foldl (fun t z => lcmN t (sd.2.1.share z).2) (botAt (L.take i)), (sd.2.1.share z).2) (da_cons (ev_fld (ev_v rfl) (s7 _ _ k4) (E.cls 106) (E.noat 110) rfl) (da_cons (ev_f2 (f := sd.2.1.share z) (ev_mfnH ((sd.1, sd.2.1), z) (ev_v rfl) bf4.ins rfl (da_cons (ev_v rfl) da_nil) rfl fun H1 s => ⟨sok7.book.same s, sin.fine.ok, hz⟩)) da_nil)) ⟨fs.2.2, by have := fs.2.1; show (sd.2.1.share z).2 < 2 ^ 30; omega⟩) (s7 _ _ k4) (E.cls 106) (E.noat 110) (show 3 < 1000 by decide) (fun y I3 s8 ey => ?_) mono_is
      have ey := Eq.symm (show y = _ from ey)
      subst ey
      have s78 := s7.trans s8
      refine ⟨(k1.trans (Same.keepT s78)).trans (keepT_updI (s78 _ _ k4)), (k2.same s78).upd, by rw [upd_ne nqp]; exact s78 _ _ k3, ?_, _, rfl⟩
      rw [upd_same, fold_at e8]
      rfl
    · rintro σ'' I' ⟨k1, k2, k3, k4, z', rfl⟩
      rw [List.length_map, List.take_length] at k4
      refine ⟨k2, k3, ?_, _, _, _, rfl⟩
      rw [k4, botAt_at e5]
      rfl
  · rintro σ' H' ⟨q1, q3, q4, x1, y1, z1, rfl⟩
    rw [List.length_map, List.take_length] at q3 q4
    have e9 : ∀ (l : List Sd) (t : Nat), (l.map (·.2.1)).foldl botB t = (l.map (·.2)).foldl (fun t s => s.1.names.foldl (fun t z => lcmN t (s.1.share z).2) t) t := fun l => by
      induction l with
      | nil => intro t; rfl
      | cons s l ih => intro t; exact ih _
    have e8 : ∀ l : List Sd, l.flatMap (fun s => s.2.1.periods) = (l.map (·.2)).flatMap fun s => s.1.periods := fun l => by rw [List.flatMap_map]
    have e10 : ((botAt L : Nat) : Int) = ((mkStsL (L.map (·.2))).bottom : Int) := by
      show ((botAt L : Nat) : Int) = (((L.map (·.2)).foldl (fun t s => s.1.names.foldl (fun t z => lcmN t (s.1.share z).2) t) 1 : Nat) : Int)
      rw [← e9]; rfl
    refine h2 H' q1 ⟨L, dx, v1, .ref q, by rw [q4, e10], Rep.oth hp q1 r1, ⟨q, _, rfl, SqL.of q3, ?_⟩, rfl, hl, fun s hs => oth_inv hp q1 (hb s hs)⟩
    unfold spansI
    rw [List.map_map]
    show RepAll K H' (((L.map (·.2)).flatMap fun s => s.1.periods).map fun (n : Nat) => D.int (n : Int)) _
    rw [← e8]
    have := RepAll.ints (K := K) (H := H') ((L.flatMap fun s => s.2.1.periods).map fun (n : Nat) => (n : Int))
    rw [List.map_map, List.map_map] at this
    exact this
end
end LC
end
section
set_option Elab.async false
set_option linter.all false
set_option maxRecDepth 100000
set_option maxHeartbeats 1000000
namespace LC
open PySem PySem.Spec L2
structure Sts.ok (S : Sts) : Prop where
  two : S.sides.length = 2
  fine : ∀ s, s ∈ S.sides → s.1.fine
  spans : S.spans = S.sides.flatMap fun s => s.1.periods
  bot0 : 0 < S.bottom
  bot1 : S.bottom < 2 ^ 20
  names : ∀ s, s ∈ S.sides → s.1.names = S.names
  many : ∀ z, z ∈ S.names → amounts S.books z ≤ 400
theorem per_len (b : Bk) : b.periods.length = b.heaps.length := by unfold Bk.periods; rw [List.length_map]
theorem Sts.ok.spans_ok {S : Sts} (h : S.ok) : ∀ n, n ∈ S.spans → 0 < n ∧ n < 2 ^ 30 := fun n hn => by
  rw [h.spans] at hn
  obtain ⟨s, hs, hm⟩ := List.mem_flatMap.mp hn
  obtain ⟨h1, h2⟩ := per_lt (h.fine s hs).ok hm
  exact ⟨h2, h1⟩
theorem Sts.ok.spans_len {S : Sts} (h : S.ok) : 2 ≤ S.spans.length ∧ S.spans.length ≤ 6 := by
  rw [h.spans]
  have h2 := h.two
  have hf := h.fine
  match e : S.sides, h2 with
  | [a, b], _ =>
    have ha := (hf a (by rw [e]; simp)).ok
    have hb := (hf b (by rw [e]; simp)).ok
    have e1 : 0 < a.1.heaps.length := List.length_pos_iff.mpr ha.hsome
    have e2 : 0 < b.1.heaps.length := List.length_pos_iff.mpr hb.hsome
    have e3 := ha.hfew
    have e4 := hb.hfew
    show 2 ≤ (a.1.periods ++ (b.1.periods ++ [])).length ∧ (a.1.periods ++ (b.1.periods ++ [])).length ≤ 6
    rw [List.append_nil, List.length_append, per_len, per_len]
    omega
section
variable {K : PySem.W.Frag} {σ : St} {H : Hp} {te : TE} {E : Ends} {z : TS} {k : Nat} {i j : Int} {P : PV}
/-- x += e, x -= e -/
theorem s_aug {f : Int → Int → Int} (hx : σ[k]? = some (some (.int i))) (h : Ev te σ H (Is (.int j))) (c : ∀ H1, Same H H1 → E.nx (σ.set k (some (.int (f i j)))) H1) : tAug k te (ipI f) E σ H := by
  refine ⟨.int i, hx, h H (Same.refl _) _ fun v H1 s e => ⟨i, j, rfl, e, c H1 s⟩⟩
theorem q_aug {f : Int → Int → Int} (hx : σ[k]? = some (some (.int i))) (h : Ev te σ H (Is (.int j))) (c : ∀ H1, Same H H1 → z E (σ.set k (some (.int (f i j)))) H1) : tSeq (tAug k te (ipI f)) z E σ H := s_aug (E := { E with nx := z E }) hx h c
/-- t * n, a tuple of ints -/
theorem ev_repT {ta tb : TE} {n : Nat} (h : Ev ta σ H (Ki [0])) (hb : Ev tb σ H (Is (.int (n : Int)))) (h1 : 2 ≤ n) (h2 : n ≤ 1000) : Ev (tOp (rRepT K) ta tb) σ H (Ki (List.replicate n 0)) := fun H1 s Q q =>
  h H1 s _ fun v H2 s2 ⟨p, e1, e2⟩ => hb H2 (s.trans s2) _ fun w H3 s3 e3 => ⟨p, (n : Int), [.int 0], e1, e3, SqT.of (s3 _ _ e2), (fun z => nomatch z), by omega, by omega, by decide, fun a ha => q _ _ ((s2.trans s3).trans (same_new ha)) ⟨a, rfl, by
    rw [upd_same, Int.toNat_natCast, flat_rep]
    congr 2
    rw [List.map_replicate]⟩⟩
end
theorem side_at {L : List Sd} {S : Sts} (h : L.map (·.2) = S.sides) {i : Nat} {s : Sd} (e : L[i]? = some s) : S.sides[i]? = some s.2 := by rw [← h, List.getElem?_map, e]; rfl
theorem StsF.ln {K : PySem.W.Frag} {H : Hp} {p : Addr} {L : List Sd} {S : Sts} {dx : Addr} {vs vp : V} (h : StsF K H p L S dx vs vp) : L.length = S.sides.length := by rw [← h.eq, List.length_map]
theorem nats_ints (l : List Nat) : (l.map fun (n : Nat) => D.int (n : Int)) = (l.map fun (n : Nat) => (n : Int)).map D.int := by rw [List.map_map]; rfl
end LC
end
section
set_option Elab.async false
set_option linter.all false
set_option maxRecDepth 100000
set_option maxHeartbeats 2000000
/-! States: empty, move, weight, reduced, added -/
namespace LC
open PySem PySem.Spec L2
section
variable {P : Program} {w : World} {K : PySem.W.Frag} {mg : Str → Option Value} {base : Heap}
abbrev StA := Addr × Sts
def StOk (K : PySem.W.Frag) : StA → Hp → Prop := fun a H => StsAt K H a.1 a.2 ∧ a.2.ok
theorem StOk.same {K : PySem.W.Frag} {H H' : Hp} {a : StA} (h : StOk K a H) (e : Same H H') : StOk K a H' := ⟨h.1.same e, h.2⟩
abbrev spEmpty (K : PySem.W.Frag) : Sp := spH K (fun a : StA => [.ref a.1]) (StOk K) fun a => Ki a.2.empty
-- self 0
theorem sc_States_empty : FnScope ["self"] ["self"] (defScope (mth 80 1)) := ⟨rfl, rfl, rfl, by decide +kernel, rfl, by decide +kernel, by decide +kernel⟩
theorem ok_States_empty (E : Env P w K mg base)  : Okm P w K mg base 1 "States" "empty" ["self"] (spEmpty K) :=
  okm_mk E 74 121 106 rfl rfl rfl sc_States_empty (fun _ _ _ _ _ _ us hl => match us, hl with | [_], _ => rfl) (spH_len fun _ => rfl) fun cdv A outer s H vs Q E0 hr h => by
  obtain ⟨⟨p, S⟩, h1, ⟨⟨L, dx, vs, vp, F⟩, hk⟩, h2⟩ := h
  have hk : S.ok := hk
  have F : StsF K H p L S dx vs vp := F
  obtain ⟨_, rfl, rfl⟩ := one_of h1
  have nd := sc_States_empty.nd
  refine ⟨_, (pss_one (ps_ret (kRepT (K := K) rfl (pe_tup (pa_cons pe_int pa_nil)) (kLen (K := K) rfl (E.free 61) (pa_cons (kFld (K := K) rfl (pv 0)) pa_nil))))), ?_⟩
  have sl := hk.spans_len
  refine s_ret (ev_repT (n := S.spans.length) (dt_ki (k := [0]) (ev_tup (K := K) (l := [.int 0]) (da_cons ev_c da_nil) (by decide))) ((ev_len (K := K) false (l := S.spans.map fun (n : Nat) => .int (n : Int)) (da_cons ((ev_fld (ev_v rfl) F.ins (E.cls 106) (E.noat 109) rfl).dt F.spans) da_nil)).is (by rw [List.length_map])) sl.1 (by omega)) h2
/-! ### reduced, added -/
abbrev spReduced (K : PySem.W.Frag) : Sp := spH K (fun a : StA × List Int => [.ref a.1.1, intsD a.2]) (fun a H => StOk K a.1 H ∧ a.2.length ≤ 100) fun a => Ki (a.1.2.reduced a.2)
-- self 0 sums 1 number 2 span 3
theorem sc_States_reduced : FnScope ["self", "sums", "number", "span"] ["self", "sums"] (defScope (mth 80 4)) := ⟨rfl, rfl, rfl, by decide +kernel, rfl, by decide +kernel, by decide +kernel⟩
theorem ok_States_reduced (E : Env P w K mg base)  : Okm P w K mg base 1 "States" "reduced" ["self", "sums"] (spReduced K) :=
  okm_mk E 77 124 106 rfl rfl rfl sc_States_reduced (fun _ _ _ _ _ _ us hl => match us, hl with | [_, _], _ => rfl) (spH_len fun _ => rfl) fun cdv A outer s H vs Q E0 hr h => by
  obtain ⟨⟨⟨p, S⟩, ns⟩, h1, ⟨⟨⟨L, dx, vs, vp, F⟩, hk⟩, hl⟩, h2⟩ := h
  have hk : S.ok := hk
  have hl : ns.length ≤ 100 := hl
  have F : StsF K H p L S dx vs vp := F
  obtain ⟨_, v2, rfl, rfl, r⟩ := two_of h1
  have r : Rep K H (.tup (ns.map D.int)) v2 := r
  have nd := sc_States_reduced.nd
  refine ⟨_, (pss_one (ps_ret (kTy (K := K) (r' := rTupOf) rfl call_tuple_of (E.free 66) (by decide +kernel) (pa_cons (pe_lc (own := [("number", 2), ("span", 3)]) (g := gTup K 2 (gCons (gName 2) (gCons (gName 3) gNil))) (tt := tYes)  rfl nd (kZ2 (K := K) true false rfl (E.free 71) (pa_cons (pv 1) (pa_cons (kFld (K := K) rfl (pv 0)) pa_nil))) (blkOk_by (N := ["self", "sums", "number", "span"]) (sc := defScope (mth 80 4)) (by decide +kernel)) (fun _ _ _ _ _ => (kGTup (K := K) (n := 2) rfl rfl (pgs_cons (pg_name (i := 2) nd rfl (.inl rfl)) (pgs_cons (pg_name (i := 3) nd rfl (.inl rfl)) pgs_nil)))) (fun _ _ _ _ _ => pts_nil) (fun _ _ _ _ _ => (pe_op op_modN (pv 2) (pv 3)))) pa_nil)))), ?_⟩
  refine s_ret (dt_ki (k := S.reduced ns) (ev_tupOf (da_cons (NewL.dt (H := H) ?_) da_nil))) h2
  have e1 : (S.reduced ns).map D.int = (List.zip ns S.spans).map fun q => .int (q.1 % (q.2 : Int)) := by unfold Sts.reduced; rw [List.map_map]; rfl
  rw [e1]
  refine ev_lc2 (fun q : Int × Nat => .int q.1) (fun q => .int (q.2 : Int)) _ (it_z2m true false D.int (fun (n : Nat) => .int (n : Int)) (da_cons (ev_d rfl r) (da_cons ((ev_fld (ev_v rfl) F.ins (E.cls 106) (E.noat 109) rfl).dt F.spans) da_nil))) (by rw [List.length_zip]; omega) (fun _ _ => rfl) (fun _ _ => rfl) fun a x y H1 ha s1 rx ry => ?_
  have rx : x = .int a.1 := rx
  have ry : y = .int (a.2 : Int) := ry
  subst rx ry
  have := (hk.spans_ok a.2 (List.of_mem_zip ha).2).1
  exact ev_modP (ev_v rfl) (ev_v rfl) (by omega)
abbrev spAdded (K : PySem.W.Frag) : Sp := spH K (fun a : StA × List Int × List Int => [.ref a.1.1, intsD a.2.1, intsD a.2.2]) (fun a H => StOk K a.1 H ∧ a.2.1.length ≤ 100) fun a => Ki (a.1.2.added a.2.1 a.2.2)
-- self 0 state 1 move 2 here 3 more 4 span 5
theorem sc_States_added : FnScope ["self", "state", "move", "here", "more", "span"] ["self", "state", "move"] (defScope (mth 80 5)) := ⟨rfl, rfl, rfl, by decide +kernel, rfl, by decide +kernel, by decide +kernel⟩
theorem ok_States_added (E : Env P w K mg base)  : Okm P w K mg base 1 "States" "added" ["self", "state", "move"] (spAdded K) :=
  okm_mk E 78 125 106 rfl rfl rfl sc_States_added (fun _ _ _ _ _ _ us hl => match us, hl with | [_, _, _], _ => rfl) (spH_len fun _ => rfl) fun cdv A outer s H vs Q E0 hr h => by
  obtain ⟨⟨⟨p, S⟩, ns, ms⟩, h1, ⟨⟨⟨L, dx, vs, vp, F⟩, hk⟩, hl⟩, h2⟩ := h
  have hk : S.ok := hk
  have hl : ns.length ≤ 100 := hl
  have F : StsF K H p L S dx vs vp := F
  obtain ⟨_, _, rfl, rfl, v2, _, rfl, r, h1⟩ := h1
  obtain ⟨v3, rfl, r3⟩ := one_of h1
  have r : Rep K H (.tup (ns.map D.int)) v2 := r
  have r3 : Rep K H (.tup (ms.map D.int)) v3 := r3
  have nd := sc_States_added.nd
  refine ⟨_, (pss_one (ps_ret (kTy (K := K) (r' := rTupOf) rfl call_tuple_of (E.free 66) (by decide +kernel) (pa_cons (pe_lc (own := [("here", 3), ("more", 4), ("span", 5)]) (g := gTup K 3 (gCons (gName 3) (gCons (gName 4) (gCons (gName 5) gNil)))) (tt := tYes)  rfl nd (kZ3 (K := K) true true false rfl (E.free 71) (pa_cons (pv 1) (pa_cons (pv 2) (pa_cons (kFld (K := K) rfl (pv 0)) pa_nil)))) (blkOk_by (N := ["self", "state", "move", "here", "more", "span"]) (sc := defScope (mth 80 5)) (by decide +kernel)) (fun _ _ _ _ _ => (kGTup (K := K) (n := 3) rfl rfl (pgs_cons (pg_name (i := 3) nd rfl (.inl rfl)) (pgs_cons (pg_name (i := 4) nd rfl (.inl rfl)) (pgs_cons (pg_name (i := 5) nd rfl (.inl rfl)) pgs_nil))))) (fun _ _ _ _ _ => pts_nil) (fun _ _ _ _ _ => (pe_op op_modN (pe_op op_add (pv 3) (pv 4)) (pv 5)))) pa_nil)))), ?_⟩
  refine s_ret (dt_ki (k := S.added ns ms) (ev_tupOf (da_cons (NewL.dt (H := H) ?_) da_nil))) h2
  have e1 : (S.added ns ms).map D.int = (List.zip ns (List.zip ms S.spans)).map fun q => .int ((q.1 + q.2.1) % (q.2.2 : Int)) := by unfold Sts.added; rw [List.map_map]; rfl
  rw [e1]
  refine ev_lc3 (fun q : Int × Int × Nat => .int q.1) (fun q => .int q.2.1) (fun q => .int (q.2.2 : Int)) _ (it_z3m true true false D.int D.int (fun (n : Nat) => .int (n : Int)) (da_cons (ev_d rfl r) (da_cons (ev_d rfl r3) (da_cons ((ev_fld (ev_v rfl) F.ins (E.cls 106) (E.noat 109) rfl).dt F.spans) da_nil)))) (by rw [List.length_zip]; omega) (fun _ _ _ => rfl) (fun _ _ => rfl) fun a x y z H1 ha s1 rx ry rz => ?_
  have rx : x = .int a.1 := rx
  have ry : y = .int a.2.1 := ry
  have rz : z = .int (a.2.2 : Int) := rz
  subst rx ry rz
  have := (hk.spans_ok a.2.2 (List.of_mem_zip (List.of_mem_zip ha).2).2).1
  exact ev_modP (ev_I0 (ev_v rfl) (ev_v rfl)) (ev_v rfl) (by omega)
/-! ### move -/
abbrev stzArg : (StA × Str) × Nat → List D := fun a => [.ref a.1.1.1, .str a.1.2, .int (a.2 : Int)]
def stzOk (K : PySem.W.Frag) : (StA × Str) × Nat → Hp → Prop := fun a H => StOk K a.1.1 H ∧ a.1.2 ∈ a.1.1.2.names
abbrev spMove (K : PySem.W.Frag) : Sp := spH K stzArg (stzOk K) fun a => Dt K (intsD (a.1.1.2.move a.1.2 a.2))
theorem sums_len (b : Bk) (z : Str) (n : Nat) : (b.sums z n).length = b.heaps.length := by unfold Bk.sums; rw [List.length_set, List.length_replicate]
-- self 0 name 1 amount 2 found 3 book 4 sign 5
theorem sc_States_move : FnScope ["self", "name", "amount", "found", "book", "sign"] ["self", "name", "amount"] (defScope (mth 80 2)) := ⟨rfl, rfl, rfl, by decide +kernel, rfl, by decide +kernel, by decide +kernel⟩
theorem ok_States_move (E : Env P w K mg base) (m_Book_sums : Okm P w K mg base 5 "Book" "sums" ["self", "bill"] (spSums K)) : Okm P w K mg base 6 "States" "move" ["self", "name", "amount"] (spMove K) :=
  okm_mk E 75 122 106 rfl rfl rfl sc_States_move (fun _ _ _ _ _ _ us hl => match us, hl with | [_, _, _], _ => rfl) (spH_len fun _ => rfl) fun cdv A outer s H vs Q E0 hr h => by
  obtain ⟨⟨⟨⟨p, S⟩, z⟩, n⟩, h1, ⟨⟨⟨L, dx, vs, vp, F⟩, hk⟩, hz⟩, h2⟩ := h
  have hk : S.ok := hk
  have hz : z ∈ S.names := hz
  have F : StsF K H p L S dx vs vp := F
  obtain ⟨_, _, rfl, rfl, _, _, rfl, rfl, h1⟩ := h1
  obtain ⟨_, rfl, rfl⟩ := one_of h1
  obtain ⟨al, xl, el, hl1, hl2⟩ := F.sides
  have nd := sc_States_move.nd
  refine ⟨_, (pss_cons (ps_set (i := 3) nd rfl (.inl rfl) (pe_lst pa_nil))
      (pss_cons (ps_for PassesOwn.never rfl (kIList (K := K) rfl (kFld (K := K) rfl (pv 0))) (kGTup (K := K) (n := 2) rfl rfl (pgs_cons (pg_name (i := 4) nd rfl (.inl rfl)) (pgs_cons (pg_name (i := 5) nd rfl (.inl rfl)) pgs_nil))) (pss_one (ps_expr (kExtT (K := K) rfl (pv 3) (pa_cons (kMeth (K := K) rfl m_Book_sums (hr.mono (by decide)) (pv 4) (pa_cons (pe_tup (pa_cons (pe_tup (pa_cons (pv 1) (pa_cons (pv 2) pa_nil))) pa_nil)) pa_nil)) pa_nil)))))
      (pss_one (ps_ret (kTy (K := K) (r' := rTupOf) rfl call_tuple_of (E.free 66) (by decide +kernel) (pa_cons (pv 3) pa_nil)))))), ?_⟩
  refine q_asg (ev_lst (K := K) (l := []) da_nil (by decide)) fun y H1 s1 ⟨q, ys, e1, gq, g2, g3⟩ => ?_
  have g3 : ys = [] := g3
  subst g3 e1
  have Ll : L.length = 2 := F.ln.trans hk.two
  refine q_for (it_lstA (ds := L.map sideD) ((ev_fld (ev_v rfl) (s1 _ _ F.ins) (E.cls 106) (E.noat 108) rfl).is el) (same_sqL s1 hl1) (RepAll.same s1 hl2)) fun H3 G s3 eG hB => ⟨fun i σ' H' => Same H H' ∧ H' q = some (.lst (((S.sides.take i).flatMap fun s => s.1.sums z n).map V.int)) ∧ ∃ x y, σ' = [some (.ref p), some (.str z), some (.int (n : Int)), some (.ref q), x, y], ⟨s1.trans s3, s3 _ _ g2, _, _, rfl⟩, fun i σ' H' k => hB H' (same_sqL k.1 hl1) (RepAll.same k.1 hl2), ?_, ?_⟩
  · rintro i d x σ' H' H'' hd ⟨q1, q2, x1, y1, rfl⟩ s4 rd
    obtain ⟨sd, e5, rfl⟩ := map_at hd
    have e6 := side_at F.eq e5
    have hi : i < 2 := by rw [← Ll]; exact (List.getElem?_eq_some_iff.mp e5).1
    have sok := (F.books sd (List.mem_of_getElem? e5)).same (q1.trans s4)
    have zn : z ∈ sd.2.1.names := by rw [hk.names sd.2 (List.mem_of_getElem? e6)]; exact hz
    refine g_tup2 rd fun bv sv rb rs => ?_
    have rb : bv = .ref sd.1 := rb
    subst rb
    obtain ⟨d2, vs2, vh2, vl2, vw2, bf⟩ := id sok.book
    have fl : ((S.sides.take i).flatMap fun s => s.1.sums z n).length ≤ 6 := by
      have : ∀ (l : List (Bk × Int)), (∀ s, s ∈ l → s.1.fine) → (l.flatMap fun s => s.1.sums z n).length ≤ 3 * l.length := fun l => by
        induction l with
        | nil => intro _; exact Nat.zero_le _
        | cons s l ih =>
          intro h
          have h3 := (h s (List.mem_cons_self ..)).ok.hfew
          have ih := ih fun u hu => h u (List.mem_cons_of_mem _ hu)
          rw [List.flatMap_cons, List.length_append, sums_len, List.length_cons]
          omega
      have h3 := this (S.sides.take i) fun s hs => hk.fine s (List.mem_of_mem_take hs)
      rw [List.length_take] at h3
      omega
    have sf := sums_len sd.2.1 z n
    have hf := sok.fine.ok.hfew
    refine s_extT (ds := (sd.2.1.sums z n).map D.int) (ev_v rfl) (s4 _ _ q2) (ev_mfnH (((sd.1, sd.2.1), z), n) (ev_v rfl) bf.ins rfl (da_cons (ev_tup (K := K) (l := [lineD (z, n)]) (da_cons (ev_tup (K := K) (l := [.str z, .int (n : Int)]) (da_cons (ev_v rfl) (da_cons (ev_v rfl) da_nil)) (show 2 ≤ 100000 by decide)) da_nil) (show 1 ≤ 100000 by decide)) da_nil) rfl fun H1 s => ⟨sok.book.same s, sok.fine.ok, zn⟩) (by rw [List.length_map, List.length_map, sf]; omega) fun H5 ys s5 hys => ?_
    refine ⟨same_mut ((q1.trans s4).trans s5) (fresh_back (Same.refl _) gq), ?_, _, _, rfl⟩
    rw [upd_same, hys.ints_eq, ← List.map_append, List.take_add_one, e6, List.flatMap_append]
    show some (HO.lst (List.map V.int (List.flatMap (fun s => s.1.sums z n) (List.take i S.sides) ++ sd.2.1.sums z n))) = some (HO.lst (List.map V.int (List.flatMap (fun s => s.1.sums z n) (List.take i S.sides) ++ (sd.2.1.sums z n ++ []))))
    rw [List.append_nil]
  · rintro σ' H' ⟨q1, q2, x1, y1, rfl⟩
    rw [List.length_map, F.ln, List.take_length] at q2
    exact s_ret (ev_tupOf (K := K) (l := (S.move z n).map D.int) (da_cons (ev_d rfl ⟨q, _, rfl, SqL.of q2, RepAll.ints _⟩) da_nil)) fun v H5 s5 r => h2 v H5 (q1.trans s5) r
/-! ### weight -/
abbrev spWeight (K : PySem.W.Frag) : Sp := spH K stzArg (stzOk K) fun a => Is (.int (a.1.1.2.weight a.1.2 a.2))
-- self 0 name 1 amount 2 total 3 book 4 sign 5 share 6
theorem sc_States_weight : FnScope ["self", "name", "amount", "total", "book", "sign", "share"] ["self", "name", "amount"] (defScope (mth 80 3)) := ⟨rfl, rfl, rfl, by decide +kernel, rfl, by decide +kernel, by decide +kernel⟩
theorem ok_States_weight (E : Env P w K mg base) (m_Book_share : Okm P w K mg base 5 "Book" "share" ["self", "name"] (spShare K)) (m_Book_value : Okm P w K mg base 4 "Book" "value" ["self", "name", "amount"] (spValue K)) : Okm P w K mg base 6 "States" "weight" ["self", "name", "amount"] (spWeight K) :=
  okm_mk E 76 123 106 rfl rfl rfl sc_States_weight (fun _ _ _ _ _ _ us hl => match us, hl with | [_, _, _], _ => rfl) (spH_len fun _ => rfl) fun cdv A outer s H vs Q E0 hr h => by
  obtain ⟨⟨⟨⟨p, S⟩, z⟩, n⟩, h1, ⟨⟨⟨L, dx, vs, vp, F⟩, hk⟩, hz⟩, h2⟩ := h
  have hk : S.ok := hk
  have hz : z ∈ S.names := hz
  have F : StsF K H p L S dx vs vp := F
  obtain ⟨_, _, rfl, rfl, _, _, rfl, rfl, h1⟩ := h1
  obtain ⟨_, rfl, rfl⟩ := one_of h1
  have nd := sc_States_weight.nd
  refine ⟨_, (pss_cons (ps_set (i := 3) nd rfl (.inl rfl) pe_int)
      (pss_cons (ps_for PassesOwn.never rfl (kIList (K := K) rfl (kFld (K := K) rfl (pv 0))) (kGTup (K := K) (n := 2) rfl rfl (pgs_cons (pg_name (i := 4) nd rfl (.inl rfl)) (pgs_cons (pg_name (i := 5) nd rfl (.inl rfl)) pgs_nil))) (pss_cons (ps_set (i := 6) nd rfl (.inl rfl) (kMeth (K := K) rfl m_Book_share (hr.mono (by decide)) (pv 4) (pa_cons (pv 1) pa_nil)))
      (pss_one (ps_aug (i := 3) nd rfl (.inl rfl) (pe_op op_mul (pe_op op_mul (pe_op op_mul (pv 5) (kMeth (K := K) rfl m_Book_value (hr.mono (by decide)) (pv 4) (pa_cons (pv 1) (pa_cons (pv 2) pa_nil)))) (kIxT (K := K) rfl (pv 6) pe_int)) (pe_op op_fdivN (kFld (K := K) rfl (pv 0)) (kIxT (K := K) rfl (pv 6) pe_int))) ip_add))))
      (pss_one (ps_ret (pv 3))))), ?_⟩
  refine q_let ev_c fun H1 s1 => ?_
  refine q_for (it_lst (ds := L.map sideD) ((ev_fld (ev_v rfl) (s1 _ _ F.ins) (E.cls 106) (E.noat 108) rfl).dt (Rep.same s1 F.sides))) fun H3 G s3 eG hB => ⟨fun i σ' H' => Same H3 H' ∧ ∃ x y u, σ' = [some (.ref p), some (.str z), some (.int (n : Int)), some (.int ((S.sides.take i).foldl (fun t s => t + s.2 * s.1.value z n * ((s.1.share z).1 : Int) * (S.low s.1 z : Int)) 0)), x, y, u], ⟨Same.refl _, _, _, _, rfl⟩, fun i σ' H' k => eG H' k.1, ?_, ?_⟩
  · rintro i d x σ' H' H'' hd ⟨q1, x1, y1, u1, rfl⟩ s4 rd
    obtain ⟨sd, e5, rfl⟩ := map_at hd
    have e6 := side_at F.eq e5
    have st := ((s1.trans s3).trans q1).trans s4
    have sok := (F.books sd (List.mem_of_getElem? e5)).same st
    have zn : z ∈ sd.2.1.names := by rw [hk.names sd.2 (List.mem_of_getElem? e6)]; exact hz
    refine g_tup2 rd fun bv sv rb rs => ?_
    have rb : bv = .ref sd.1 := rb
    have rs : sv = .int sd.2.2 := rs
    subst rb rs
    obtain ⟨d2, vs2, vh2, vl2, vw2, bf⟩ := id sok.book
    have fs := share_pos sok.fine.ok zn
    have fs1 := fs.1
    have fs2 := fs.2.1
    have fs3 := fs.2.2
    have sg := sok.sign
    refine q_asg (ev_mfnH ((sd.1, sd.2.1), z) (ev_v rfl) bf.ins rfl (da_cons (ev_v rfl) da_nil) rfl fun H1 s => ⟨sok.book.same s, sok.fine.ok, zn⟩) fun fv H5 s5 rf => ?_
    have rf : Rep K H5 (fD (sd.2.1.share z)) fv := rf
    refine s_aug rfl (ev_mulR (ev_mulR (ev_mulL (ev_v rfl) (ev_mfnH (((sd.1, sd.2.1), z), n) (ev_v rfl) (s5 _ _ bf.ins) rfl (da_cons (ev_v rfl) (da_cons (ev_v rfl) da_nil)) rfl fun H1 s => ⟨sok.book.same (s5.trans s), sok.fine.ok, zn⟩) (by omega) (by omega)) (ev_f1 (ev_d rfl rf)) (by omega) (by omega)) ((ev_I (C := CDivN) (g := fun i j => V.int (i.fdiv j)) (ev_fld (ev_v rfl) ((st.trans s5) _ _ F.ins) (E.cls 106) (E.noat 110) rfl) (ev_f2 (ev_d rfl rf)) (cdn fs3 (by omega))).is (w := .int (S.low sd.2.1 z : Int)) (by rw [fdiv_nat]; rfl)) (by omega) ?_) fun H6 s6 => ⟨((q1.trans s4).trans s5).trans s6, some (.ref sd.1), some (.int sd.2.2), some fv, ?_⟩
    · have h1 := Nat.div_le_self S.bottom (sd.2.1.share z).2
      have h2 := hk.bot1
      show ((S.bottom / (sd.2.1.share z).2 : Nat) : Int) < _
      omega
    · rw [fold_at e6]; rfl
  · rintro σ' H' ⟨q1, x1, y1, u1, rfl⟩
    rw [List.length_map, F.ln, List.take_length]
    exact s_retv (ev_v rfl) fun H5 s5 => h2 _ _ (((s1.trans s3).trans q1).trans s5) rfl
end
end LC
end
section
set_option Elab.async false
set_option linter.all false
set_option maxRecDepth 100000
set_option maxHeartbeats 2000000
/-! States: gap, share_of_group, base, order -/
namespace LC
open PySem PySem.Spec L2
section
variable {P : Program} {w : World} {K : PySem.W.Frag} {mg : Str → Option Value} {base : Heap}
theorem cut_eq {α : Type} (l : List α) (a m : Nat) : (l.drop (min a l.length)).take (min (a + m) l.length - min a l.length) = (l.drop a).take m := by
  by_cases h : a ≤ l.length
  · rw [Nat.min_eq_left h]
    by_cases h2 : a + m ≤ l.length
    · rw [Nat.min_eq_left h2, Nat.add_sub_cancel_left]
    · rw [Nat.min_eq_right (by omega), List.take_of_length_le (by rw [List.length_drop]; omega), List.take_of_length_le (by rw [List.length_drop]; omega)]
  · have h1 : min a l.length = l.length := Nat.min_eq_right (by omega)
    have h2 : min (a + m) l.length = l.length := Nat.min_eq_right (by omega)
    rw [h1, h2, List.drop_length, List.drop_eq_nil_of_le (show l.length ≤ a by omega)]
    simp
abbrev spGap (K : PySem.W.Frag) : Sp := spH K (fun a : StA × List Int => [.ref a.1.1, intsD a.2]) (fun a => StOk K a.1) fun a => Is (.int (a.1.2.gap a.2))
-- self 0 sums 1 total 2 at 3 book 4 sign 5 many 6
theorem sc_States_gap : FnScope ["self", "sums", "total", "at", "book", "sign", "many"] ["self", "sums"] (defScope (mth 80 6)) := ⟨rfl, rfl, rfl, by decide +kernel, rfl, by decide +kernel, by decide +kernel⟩
theorem ok_States_gap (E : Env P w K mg base) (p_Book_groups : Okp P w K mg base 1 "Book" "groups" (spGroups K)) (m_Book_ask_of_sums : Okm P w K mg base 3 "Book" "ask_of_sums" ["self", "sums"] (spAsk K)) : Okm P w K mg base 5 "States" "gap" ["self", "sums"] (spGap K) :=
  okm_mk E 79 126 106 rfl rfl rfl sc_States_gap (fun _ _ _ _ _ _ us hl => match us, hl with | [_, _], _ => rfl) (spH_len fun _ => rfl) fun cdv A outer s H vs Q E0 hr h => by
  obtain ⟨⟨⟨p, S⟩, ns⟩, h1, ⟨⟨L, dx, vs, vp, F⟩, hk⟩, h2⟩ := h
  have hk : S.ok := hk
  have F : StsF K H p L S dx vs vp := F
  obtain ⟨_, v2, rfl, rfl, r⟩ := two_of h1
  have r : Rep K H (.tup (ns.map D.int)) v2 := r
  have nd := sc_States_gap.nd
  refine ⟨_, (pss_cons (ps_asg (pe_tup (pa_cons pe_int (pa_cons pe_int pa_nil))) (kGTup (K := K) (n := 2) rfl rfl (pgs_cons (pg_name (i := 2) nd rfl (.inl rfl)) (pgs_cons (pg_name (i := 3) nd rfl (.inl rfl)) pgs_nil))))
      (pss_cons (ps_for PassesOwn.never rfl (kIList (K := K) rfl (kFld (K := K) rfl (pv 0))) (kGTup (K := K) (n := 2) rfl rfl (pgs_cons (pg_name (i := 4) nd rfl (.inl rfl)) (pgs_cons (pg_name (i := 5) nd rfl (.inl rfl)) pgs_nil))) (pss_cons (ps_set (i := 6) nd rfl (.inl rfl) (kLen (K := K) rfl (E.free 61) (pa_cons (kProp (K := K) rfl p_Book_groups (hr.mono (by decide)) (pv 4)) pa_nil)))
      (pss_cons (ps_aug (i := 2) nd rfl (.inl rfl) (pe_op op_mul (pv 5) (kMeth (K := K) rfl m_Book_ask_of_sums (hr.mono (by decide)) (pv 4) (pa_cons (kSlT (K := K) rfl (pv 1) (po_some (pv 3)) (po_some (pe_op op_add (pv 3) (pv 6)))) pa_nil))) ip_add)
      (pss_one (ps_set (i := 3) nd rfl (.inl rfl) (pe_op op_add (pv 3) (pv 6)))))))
      (pss_one (ps_ret (pv 2))))), ?_⟩
  refine q_asgG (ev_tup (K := K) (l := [.int 0, .int 0]) (da_cons ev_c (da_cons ev_c da_nil)) (by decide)) fun t H1 s1 rt => g_tup2 rt fun x0 y0 rx ry => ?_
  have rx : x0 = .int 0 := rx
  have ry : y0 = .int 0 := ry
  subst rx ry
  refine q_for (it_lst (ds := L.map sideD) ((ev_fld (ev_v rfl) (s1 _ _ F.ins) (E.cls 106) (E.noat 108) rfl).dt (Rep.same s1 F.sides))) fun H3 G s3 eG hB => ⟨fun i σ' H' => Same H3 H' ∧ ∃ x y u, σ' = [some (.ref p), some v2, some (.int ((S.sides.take i).foldl (gapStep ns) (0, 0)).1), some (.int (((S.sides.take i).foldl (gapStep ns) (0, 0)).2 : Nat)), x, y, u], ⟨Same.refl _, _, _, _, rfl⟩, fun i σ' H' k => eG H' k.1, ?_, ?_⟩
  · rintro i d x σ' H' H'' hd ⟨q1, x1, y1, u1, rfl⟩ s4 rd
    obtain ⟨sd, e5, rfl⟩ := map_at hd
    have e6 := side_at F.eq e5
    have st := ((s1.trans s3).trans q1).trans s4
    have sok := (F.books sd (List.mem_of_getElem? e5)).same st
    have e7 : (S.sides.take (i + 1)).foldl (gapStep ns) (0, 0) = gapStep ns ((S.sides.take i).foldl (gapStep ns) (0, 0)) sd.2 := fold_at e6
    generalize (S.sides.take i).foldl (gapStep ns) (0, 0) = g at e7 ⊢
    refine g_tup2 rd fun bv sv rb rs => ?_
    have rb : bv = .ref sd.1 := rb
    have rs : sv = .int sd.2.2 := rs
    subst rb rs
    obtain ⟨d2, vs2, vh2, vl2, vw2, bf⟩ := id sok.book
    have sg := sok.sign
    refine q_let (v := .int (sd.2.1.heaps.length : Int)) ((ev_len (K := K) true (l := sd.2.1.heaps.map stD) (da_cons (ev_pfnH (sd.1, sd.2.1) (ev_v rfl) bf.ins rfl fun H1 s => sok.book.same s) da_nil)).is (by rw [List.length_map])) fun H5 s5 => ?_
    have r5 := Rep.same (st.trans s5) r
    refine q_aug rfl (ev_mulL (ev_v rfl) (ev_mfnH ((sd.1, sd.2.1), (ns.drop g.2).take sd.2.1.heaps.length) (ev_v rfl) (s5 _ _ bf.ins) rfl (da_cons (Ev.imp (ev_slT (n := min g.2 ns.length) (z := min (g.2 + sd.2.1.heaps.length) ns.length) (ev_d rfl r5) (to_some (ev_v rfl)) (to_some ((ev_I0 (ev_v rfl) (ev_v rfl)).is (w := .int ((g.2 + sd.2.1.heaps.length : Nat) : Int)) (by rw [Int.natCast_add]))) (by rw [HT.sIx_nat, List.length_map]) (by rw [HT.sIx_nat, List.length_map])) fun v H1 _ q => ?_) da_nil) rfl fun H1 s => ⟨sok.book.same (s5.trans s), sok.fine.ok⟩) (by omega) (by omega)) fun H6 s6 => ?_
    · show Rep K H1 (.tup (((ns.drop g.2).take sd.2.1.heaps.length).map D.int)) v
      rw [← cut_eq, List.map_take, List.map_drop]; exact q
    refine s_let (v := .int ((g.2 + sd.2.1.heaps.length : Nat) : Int)) ((ev_I0 (ev_v rfl) (ev_v rfl)).is (by rw [Int.natCast_add])) fun H7 s7 => ⟨(((q1.trans s4).trans s5).trans s6).trans s7, some (.ref sd.1), some (.int sd.2.2), some (.int (sd.2.1.heaps.length : Int)), ?_⟩
    rw [e7]; rfl
  · rintro σ' H' ⟨q1, x1, y1, u1, rfl⟩
    rw [List.length_map, F.ln, List.take_length]
    exact s_retv (ev_v rfl) fun H5 s5 => h2 _ _ (((s1.trans s3).trans q1).trans s5) rfl
/-! ### share_of_group -/
theorem low_lt {S : Sts} (hk : S.ok) (b : Bk) (z : Str) : (S.low b z : Int) < 2 ^ 64 ∧ -(2 ^ 64) < (S.low b z : Int) := by
  have h1 := Nat.div_le_self S.bottom (b.share z).2
  have h2 := hk.bot1
  have : S.low b z ≤ S.bottom := h1
  omega
abbrev spShareG (K : PySem.W.Frag) : Sp := spH K (fun a : StA × (Addr × Bk) × Nat => [.ref a.1.1, .ref a.2.1.1, .int (a.2.2 : Int)]) (fun a H => StOk K a.1 H ∧ BookAt K H a.2.1.1 a.2.1.2 ∧ a.2.1.2.ok) fun a => Is (.int (a.1.2.shareG a.2.1.2 a.2.2))
-- self 0 book 1 group 2 name 3 place 4 steps 5 share 6
theorem sc_States_share_of_group : FnScope ["self", "book", "group", "name", "place", "steps", "share"] ["self", "book", "group"] (defScope (mth 80 8)) := ⟨rfl, rfl, rfl, by decide +kernel, rfl, by decide +kernel, by decide +kernel⟩
theorem ok_States_share_of_group (E : Env P w K mg base) (p_Book_kinds : Okp P w K mg base 1 "Book" "kinds" (spKinds K)) (m_Book_share : Okm P w K mg base 5 "Book" "share" ["self", "name"] (spShare K)) : Okm P w K mg base 6 "States" "share_of_group" ["self", "book", "group"] (spShareG K) :=
  okm_mk E 81 128 106 rfl rfl rfl sc_States_share_of_group (fun _ _ _ _ _ _ us hl => match us, hl with | [_, _, _], _ => rfl) (spH_len fun _ => rfl) fun cdv A outer s H vs Q E0 hr h => by
  obtain ⟨⟨⟨p, S⟩, ⟨bp, b⟩, g⟩, h1, ⟨⟨⟨L, dx, vs, vp, F⟩, hk⟩, hb, hbo⟩, h2⟩ := h
  have hk : S.ok := hk
  have hbo : b.ok := hbo
  have hb : BookAt K H bp b := hb
  have h2 : ∀ v H2, Same H H2 → v = .int (S.shareG b g) → Q v H2 := h2
  have F : StsF K H p L S dx vs vp := F
  obtain ⟨_, _, rfl, rfl, _, _, rfl, rfl, h1⟩ := h1
  obtain ⟨_, rfl, rfl⟩ := one_of h1
  obtain ⟨d2, vs2, vh2, vl2, vw2, bf⟩ := id hb
  have nd := sc_States_share_of_group.nd
  refine ⟨_, (pss_cons (ps_for PassesOwn.never rfl (kITup (K := K) rfl (kProp (K := K) rfl p_Book_kinds (hr.mono (by decide)) (pv 1))) (kGTup (K := K) (n := 3) rfl rfl (pgs_cons (pg_name (i := 3) nd rfl (.inl rfl)) (pgs_cons (pg_name (i := 4) nd rfl (.inl rfl)) (pgs_cons (pg_name (i := 5) nd rfl (.inl rfl)) pgs_nil)))) (pss_one (ps_if (pt_cmpR op_eq (pv 4) (pv 2) (nomark _)) (pss_cons (ps_set (i := 6) nd rfl (.inl rfl) (kMeth (K := K) rfl m_Book_share (hr.mono (by decide)) (pv 1) (pa_cons (pv 3) pa_nil)))
      (pss_one (ps_ret (pe_op op_mul (kIxT (K := K) rfl (pv 6) pe_int) (pe_op op_fdivN (kFld (K := K) rfl (pv 0)) (kIxT (K := K) rfl (pv 6) pe_int)))))) pss_nil)))
      (pss_one (ps_ret pe_int))), ?_⟩
  refine q_for (it_tup (ds := b.sorts.map kindD) (ev_pfnH (bp, b) (ev_v rfl) bf.ins rfl fun H1 s => hb.same s) (sortsD_tups _)) fun H3 G s3 eG hB => ⟨fun i σ' H' => Same H3 H' ∧ (∀ k, k ∈ b.sorts.take i → k.2.1 ≠ g) ∧ ∃ x y u t, σ' = [some (.ref p), some (.ref bp), some (.int (g : Int)), x, y, u, t], ⟨Same.refl _, fun k hk => by rw [List.take_zero] at hk; exact absurd hk (List.not_mem_nil), _, _, _, _, rfl⟩, fun i σ' H' q => eG H' q.1, ?_, ?_⟩
  · rintro i d x σ' H' H'' hd ⟨q1, q2, x1, y1, u1, t1, rfl⟩ s4 rd
    obtain ⟨k, e5, rfl⟩ := map_at hd
    refine g_tup3 rd fun a c e ra rc re => ?_
    have ra : a = .str k.1 := ra
    have rc : c = .int (k.2.1 : Int) := rc
    subst ra rc
    have st := (s3.trans q1).trans s4
    refine s_if (b := decide (k.2.1 = g)) ((et_t (ev_eqB (ev_v rfl) (ev_v rfl) rfl dInt)).is (by rw [decide_eq_decide]; omega)) (fun c H5 s5 => ?_) (fun c H5 s5 => ?_)
    · have c := of_decide_eq_true c
      have zn : k.1 ∈ b.names := List.mem_map.mpr ⟨k, List.mem_of_getElem? e5, rfl⟩
      have fs := share_pos hbo zn
      have fs1 := fs.1
      have fs2 := fs.2.1
      have fs3 := fs.2.2
      refine q_asg (ev_mfnH ((bp, b), k.1) (ev_v rfl) ((st.trans s5) _ _ bf.ins) rfl (da_cons (ev_v rfl) da_nil) rfl fun H1 s => ⟨hb.same ((st.trans s5).trans s), hbo, zn⟩) fun fv H6 s6 rf => ?_
      have rf : Rep K H6 (fD (b.share k.1)) fv := rf
      refine s_retv (v := .int (((b.share k.1).1 : Int) * (S.low b k.1 : Int))) (ev_mulL (ev_f1 (ev_d rfl rf)) ((ev_I (C := CDivN) (g := fun i j => V.int (i.fdiv j)) (ev_fld (ev_v rfl) (((st.trans s5).trans s6) _ _ F.ins) (E.cls 106) (E.noat 110) rfl) (ev_f2 (ev_d rfl rf)) (cdn fs3 (by omega))).is (by rw [fdiv_nat]; rfl)) (by omega) (by omega)) fun H7 s7 => h2 _ H7 (((st.trans s5).trans s6).trans s7) ?_
      unfold Sts.shareG
      have e : b.sorts.find? (fun k => decide (k.2.1 = g)) = some k := by
        rw [List.find?_eq_some_iff_getElem]
        obtain ⟨hi, e6⟩ := List.getElem?_eq_some_iff.mp e5
        refine ⟨decide_eq_true c, i, hi, e6, fun j hj => ?_⟩
        have := q2 b.sorts[j] (List.mem_take_iff_getElem.mpr ⟨j, by omega, rfl⟩)
        simp [this]
      rw [e]
    · have c := of_decide_eq_false c
      refine ⟨(q1.trans s4).trans s5, fun k' hk' => ?_, _, _, _, _, rfl⟩
      rw [List.take_add_one, e5] at hk'
      rcases List.mem_append.mp hk' with w | w
      · exact q2 k' w
      · rw [List.mem_singleton.mp w]; exact c
  · rintro σ' H' ⟨q1, q2, x1, y1, u1, t1, rfl⟩
    rw [List.length_map, List.take_length] at q2
    refine s_retv ev_c fun H5 s5 => h2 _ H5 ((s3.trans q1).trans s5) ?_
    unfold Sts.shareG
    have e : b.sorts.find? (fun k => decide (k.2.1 = g)) = none := List.find?_eq_none.mpr fun k hk => by simp [q2 k hk]
    rw [e]
/-! ### base -/
abbrev spBase (K : PySem.W.Frag) : Sp := spH K (fun a : StA × List Int => [.ref a.1.1, intsD a.2]) (fun a => StOk K a.1) fun a => Is (.int (a.1.2.base a.2))
theorem shareG_lt {S : Sts} (hk : S.ok) {b : Bk} (hb : b.ok) (g : Nat) : (S.shareG b g).natAbs < 2 ^ 40 := by
  unfold Sts.shareG
  cases e : b.sorts.find? fun k => decide (k.2.1 = g) with
  | none => show (0 : Int).natAbs < 2 ^ 40; decide
  | some k =>
    have zn : k.1 ∈ b.names := List.mem_map.mpr ⟨k, List.mem_of_find?_eq_some e, rfl⟩
    have h1 := share_1 hb zn
    have h2 : S.low b k.1 ≤ S.bottom := Nat.div_le_self _ _
    have h3 := hk.bot1
    show (((b.share k.1).1 : Int) * (S.low b k.1 : Int)).natAbs < _
    rw [← Int.natCast_mul, Int.natAbs_natCast]
    have := Nat.mul_le_mul h1 (Nat.le_trans h2 (Nat.le_of_lt h3))
    omega
-- self 0 state 1 total 2 at 3 book 4 sign 5 shares 6 share 7 number 8 group 9
theorem sc_States_base : FnScope ["self", "state", "total", "at", "book", "sign", "shares", "share", "number", "group"] ["self", "state"] (defScope (mth 80 7)) := ⟨rfl, rfl, rfl, by decide +kernel, rfl, by decide +kernel, by decide +kernel⟩
theorem ok_States_base (E : Env P w K mg base) (m_States_gap : Okm P w K mg base 5 "States" "gap" ["self", "sums"] (spGap K)) (p_Book_groups : Okp P w K mg base 1 "Book" "groups" (spGroups K)) (m_States_share_of_group : Okm P w K mg base 6 "States" "share_of_group" ["self", "book", "group"] (spShareG K)) : Okm P w K mg base 7 "States" "base" ["self", "state"] (spBase K) :=
  okm_mk E 80 127 106 rfl rfl rfl sc_States_base (fun _ _ _ _ _ _ us hl => match us, hl with | [_, _], _ => rfl) (spH_len fun _ => rfl) fun cdv A outer s H vs Q E0 hr h => by
  obtain ⟨⟨⟨p, S⟩, ns⟩, h1, ⟨hst, hk⟩, h2⟩ := h
  have hst : StsAt K H p S := hst
  obtain ⟨L, dx, vs, vp, F⟩ := id hst
  have hk : S.ok := hk
  obtain ⟨_, v2, rfl, rfl, r⟩ := two_of h1
  have r : Rep K H (.tup (ns.map D.int)) v2 := r
  have nd := sc_States_base.nd
  refine ⟨_, (pss_cons (ps_par (i := 2) (j := 3) (by rfl) nd rfl rfl (by decide) rfl rfl (pa_cons (pe_op op_mul (kMeth (K := K) rfl m_States_gap (hr.mono (by decide)) (pv 0) (pa_cons (pv 1) pa_nil)) (kFld (K := K) rfl (pv 0))) (pa_cons pe_int pa_nil)) (by rfl))
      (pss_cons (ps_for PassesOwn.never rfl (kIList (K := K) rfl (kFld (K := K) rfl (pv 0))) (kGTup (K := K) (n := 2) rfl rfl (pgs_cons (pg_name (i := 4) nd rfl (.inr rfl)) (pgs_cons (pg_name (i := 5) nd rfl (.inl rfl)) pgs_nil))) (pss_cons (ps_setLc (i := 6) (own := [("group", 9)]) (g := gName 9) (tt := tYes)  rfl nd rfl rfl (sw_true rfl rfl rfl (by decide +kernel)) (pi_range1 (by rfl) (E.free 75) (pa_cons (kLen (K := K) rfl (E.free 61) (pa_cons (kProp (K := K) rfl p_Book_groups (hr.mono (by decide)) (pv 4)) pa_nil)) pa_nil)) (blkOk_by (N := ["self", "state", "total", "at", "book", "sign", "shares", "share", "number", "group"]) (sc := defScope (mth 80 7)) (by decide +kernel)) (fun _ _ _ _ _ => (pg_name (i := 9) nd rfl (.inl rfl))) (fun _ _ _ _ _ => pts_nil) (fun _ _ _ _ _ => (kMeth (K := K) rfl m_States_share_of_group (hr.mono (by decide)) (pv 0) (pa_cons (pv 4) (pa_cons (pv 9) pa_nil)))))
      (pss_cons (ps_for PassesOwn.never rfl (kZ2 (K := K) false true rfl (E.free 71) (pa_cons (pv 6) (pa_cons (kSlT (K := K) rfl (pv 1) (po_some (pv 3)) po_none) pa_nil))) (kGTup (K := K) (n := 2) rfl rfl (pgs_cons (pg_name (i := 7) nd rfl (.inl rfl)) (pgs_cons (pg_name (i := 8) nd rfl (.inl rfl)) pgs_nil))) (pss_one (ps_aug (i := 2) nd rfl (.inl rfl) (pe_op op_mul (pe_op op_mul (pv 5) (pv 7)) (pv 8)) ip_sub)))
      (pss_one (ps_set (i := 3) nd rfl (.inl rfl) (pe_op op_add (pv 3) (kLen (K := K) rfl (E.free 61) (pa_cons (pv 6) pa_nil))))))))
      (pss_one (ps_ret (pv 2))))), ?_⟩
  have hbt := hk.bot1
  refine q_par (ev_mulR (ev_mfnH ((p, S), ns) (ev_v rfl) F.ins rfl (da_cons (ev_d rfl r) da_nil) rfl fun H1 s => ⟨hst.same s, hk⟩) (ev_fld (ev_v rfl) F.ins (E.cls 106) (E.noat 110) rfl) (by omega) (by omega)) ev_c mono_is fun x0 y0 H1 s1 ex ey => ?_
  subst ex ey
  refine q_for (it_lst (ds := L.map sideD) ((ev_fld (ev_v rfl) (s1 _ _ F.ins) (E.cls 106) (E.noat 108) rfl).dt (Rep.same s1 F.sides))) fun H3 G s3 eG hB => ⟨fun i σ' H' => Same H3 H' ∧ ∃ x y u t r q, σ' = [some (.ref p), some v2, some (.int ((S.sides.take i).foldl (S.baseStep ns) (S.gap ns * (S.bottom : Int), 0)).1), some (.int (((S.sides.take i).foldl (S.baseStep ns) (S.gap ns * (S.bottom : Int), 0)).2 : Nat)), x, y, u, t, r, q], ⟨Same.refl _, _, _, _, _, _, _, rfl⟩, fun i σ' H' k => eG H' k.1, ?_, ?_⟩
  · rintro i d x σ' H' H'' hd ⟨q1, x1, y1, u1, t1, r1, q0, rfl⟩ s4 rd
    obtain ⟨sd, e5, rfl⟩ := map_at hd
    have e6 := side_at F.eq e5
    have st := ((s1.trans s3).trans q1).trans s4
    have sok := (F.books sd (List.mem_of_getElem? e5)).same st
    have e7 : (S.sides.take (i + 1)).foldl (S.baseStep ns) (S.gap ns * (S.bottom : Int), 0) = S.baseStep ns ((S.sides.take i).foldl (S.baseStep ns) (S.gap ns * (S.bottom : Int), 0)) sd.2 := fold_at e6
    generalize (S.sides.take i).foldl (S.baseStep ns) (S.gap ns * (S.bottom : Int), 0) = g at e7 ⊢
    refine g_tup2 rd fun bv sv rb rs => ?_
    have rb : bv = .ref sd.1 := rb
    have rs : sv = .int sd.2.2 := rs
    subst rb rs
    obtain ⟨d2, vs2, vh2, vl2, vw2, bf⟩ := id sok.book
    have sg := sok.sign
    have hhf := sok.fine.ok.hfew
    refine q_asg (P := Dt K (.lst ((S.shares sd.2.1).map D.int))) (NewL.dt ?_) fun lv H5 s5 rl => ?_
    · unfold Sts.shares
      rw [List.map_map]
      refine ev_lc1 (fun (i : Nat) => .int (i : Int)) _ (it_range1 (K := K) (n := (sd.2.1.heaps.length : Int)) (da_cons ((ev_len (K := K) true (l := sd.2.1.heaps.map stD) (da_cons (ev_pfnH (sd.1, sd.2.1) (ev_v rfl) bf.ins rfl fun H1 s => sok.book.same s) da_nil)).is (by rw [List.length_map])) da_nil) (by omega) (by omega)) (by rw [List.length_range]; omega) (fun _ => rfl) (fun _ _ => rfl) fun a x H5 ha s5 rx => ?_
      have rx : x = .int (a : Int) := rx
      subst rx
      exact ev_mfnH ((p, S), (sd.1, sd.2.1), a) (ev_v rfl) ((st.trans s5) _ _ F.ins) rfl (da_cons (ev_v rfl) (da_cons (ev_v rfl) da_nil)) rfl fun H1 s => ⟨⟨hst.same ((st.trans s5).trans s), hk⟩, sok.book.same (s5.trans s), sok.fine.ok⟩
    have r5 := Rep.same (st.trans s5) r
    have rl : Rep K H5 (.lst ((S.shares sd.2.1).map D.int)) lv := rl
    have sl : (S.shares sd.2.1).length = sd.2.1.heaps.length := by unfold Sts.shares; rw [List.length_map, List.length_range]
    refine q_for (it_z2m false true D.int D.int (l1 := S.shares sd.2.1) (l2 := ns.drop g.2) (da_cons (ev_d rfl rl) (da_cons (Ev.imp (ev_slT (lo := some (g.2 : Int)) (hi := none) (n := min g.2 ns.length) (z := ns.length) (ev_d rfl r5) (to_some (ev_v rfl)) to_none (by rw [HT.sIx_nat, List.length_map]) (by rw [HT.sIx_none, List.length_map])) fun v H1 _ q => ?_) da_nil))) fun H6 G6 s6 eG6 hB6 => ⟨fun j σ' H' => Same H6 H' ∧ ∃ t r q, σ' = [some (.ref p), some v2, some (.int (((List.zip (S.shares sd.2.1) (ns.drop g.2)).take j).foldl (fun u q => u - sd.2.2 * q.1 * q.2) g.1)), some (.int (g.2 : Nat)), some (.ref sd.1), some (.int sd.2.2), some lv, t, r, q], ⟨Same.refl _, _, _, _, rfl⟩, fun j σ' H' k => eG6 H' k.1, ?_, ?_⟩
    · show Rep K H1 (.tup ((ns.drop g.2).map D.int)) v
      have := cut_eq ns g.2 ns.length
      rw [Nat.min_eq_right (Nat.le_add_left _ _)] at this
      rw [← List.map_drop, ← List.map_take, this, List.take_of_length_le (by rw [List.length_drop]; omega)] at q
      exact q
    · rintro j d' x' σ'' I' I'' hd' ⟨k1, t2, r2, q2, rfl⟩ s7 rd'
      obtain ⟨e8', e8, rfl⟩ := map_at hd'
      refine g_tup2 rd' fun a c ra rc => ?_
      have ra : a = .int e8'.1 := ra
      have rc : c = .int e8'.2 := rc
      subst ra rc
      have hm : e8'.1 ∈ S.shares sd.2.1 := (List.of_mem_zip (List.mem_of_getElem? e8)).1
      obtain ⟨gi, _, hgi⟩ := List.mem_map.mp hm
      have hlt := shareG_lt hk sok.fine.ok gi
      rw [hgi] at hlt
      have hs2 : (sd.2.2 * e8'.1).natAbs < 2 ^ 40 := by
        rw [Int.natAbs_mul]
        rcases sg with z | z <;> (rw [z]; first | (show 1 * _ < _; omega) | omega)
      refine s_aug rfl (ev_mulL (ev_mulL (ev_v rfl) (ev_v rfl) (by omega) (by omega)) (ev_v rfl) (by omega) (by omega)) fun I3 s8 => ⟨(k1.trans s7).trans s8, some (.int e8'.1), some (.int e8'.2), q2, ?_⟩
      rw [fold_at e8]
      rfl
    · rintro σ'' I' ⟨k1, t2, r2, q2, rfl⟩
      rw [List.length_map, List.take_length]
      refine s_let (v := .int ((g.2 + sd.2.1.heaps.length : Nat) : Int)) ((ev_I0 (ev_v rfl) (ev_len (K := K) false (da_cons (ev_d rfl (Rep.same (s6.trans k1) rl)) da_nil))).is (by rw [List.length_map, sl, Int.natCast_add])) fun H7 s7 => ⟨((((q1.trans s4).trans s5).trans s6).trans k1).trans s7, some (.ref sd.1), some (.int sd.2.2), some lv, t2, r2, q2, ?_⟩
      rw [e7]; rfl
  · rintro σ' H' ⟨q1, x1, y1, u1, t1, r1, q0, rfl⟩
    rw [List.length_map, F.ln, List.take_length]
    exact s_retv (ev_v rfl) fun H5 s5 => h2 _ _ (((s1.trans s3).trans q1).trans s5) rfl
end
end LC
end
section
set_option Elab.async false
set_option linter.all false
set_option maxRecDepth 100000
set_option maxHeartbeats 2000000
/-! States: order, lines, best_lines; amounts_of -/
namespace LC
open PySem PySem.Spec L2
section
variable {P : Program} {w : World} {K : PySem.W.Frag} {mg : Str → Option Value} {base : Heap}
/-! ### order -/
abbrev spOrder (K : PySem.W.Frag) : Sp := spH K (fun a : StA × List Int => [.ref a.1.1, intsD a.2]) (fun a H => StOk K a.1 H ∧ ∀ x, x ∈ a.2 → 0 ≤ x) fun a => Is (.int (a.1.2.order a.2 : Int))
-- self 0 move 1 found 2 more 3 span 4
theorem sc_States_order : FnScope ["self", "move", "found", "more", "span"] ["self", "move"] (defScope (mth 80 11)) := ⟨rfl, rfl, rfl, by decide +kernel, rfl, by decide +kernel, by decide +kernel⟩
theorem ok_States_order (E : Env P w K mg base) (o_common_multiple : Okf P w K mg base 2 "common_multiple" ["one", "other"] (spLcm K)) (o_common_divisor : Okf P w K mg base 1 "common_divisor" ["one", "other"] (spGcd K)) : Okm P w K mg base 3 "States" "order" ["self", "move"] (spOrder K) :=
  okm_mk E 84 131 106 rfl rfl rfl sc_States_order (fun _ _ _ _ _ _ us hl => match us, hl with | [_, _], _ => rfl) (spH_len fun _ => rfl) fun cdv A outer s H vs Q E0 hr h => by
  obtain ⟨⟨⟨p, S⟩, ns⟩, h1, ⟨⟨⟨L, dx, vs, vp, F⟩, hk⟩, hp⟩, h2⟩ := h
  have hk : S.ok := hk
  have hp : ∀ x, x ∈ ns → 0 ≤ x := hp
  have F : StsF K H p L S dx vs vp := F
  obtain ⟨_, v2, rfl, rfl, r⟩ := two_of h1
  have r : Rep K H (.tup (ns.map D.int)) v2 := r
  have nd := sc_States_order.nd
  refine ⟨_, (pss_cons (ps_set (i := 2) nd rfl (.inl rfl) pe_int)
      (pss_cons (ps_for PassesOwn.never rfl (kZ2 (K := K) true false rfl (E.free 71) (pa_cons (pv 1) (pa_cons (kFld (K := K) rfl (pv 0)) pa_nil))) (kGTup (K := K) (n := 2) rfl rfl (pgs_cons (pg_name (i := 3) nd rfl (.inl rfl)) (pgs_cons (pg_name (i := 4) nd rfl (.inl rfl)) pgs_nil))) (pss_one (ps_set (i := 2) nd rfl (.inl rfl) (pe_okf o_common_multiple (hr.mono (by decide)) (pa_cons (pv 2) (pa_cons (pe_op op_fdivN (pv 4) (pe_okf o_common_divisor (hr.mono (by decide)) (pa_cons (pv 3) (pa_cons (pv 4) pa_nil)))) pa_nil))))))
      (pss_one (ps_ret (pv 2))))), ?_⟩
  refine q_let ev_c fun H1 s1 => ?_
  refine q_for (it_z2m true false D.int (fun (n : Nat) => .int (n : Int)) (l1 := ns) (l2 := S.spans) (da_cons (ev_d rfl (Rep.same s1 r)) (da_cons ((ev_fld (ev_v rfl) (s1 _ _ F.ins) (E.cls 106) (E.noat 109) rfl).dt (Rep.same s1 F.spans)) da_nil))) fun H3 G s3 eG hB => ⟨fun i σ' H' => Same H3 H' ∧ ∃ x y, σ' = [some (.ref p), some v2, some (.int (((List.zip ns S.spans).take i).foldl (fun t q => lcmN t (q.2 / Nat.gcd q.1.toNat q.2)) 1 : Nat)), x, y], ⟨Same.refl _, _, _, rfl⟩, fun i σ' H' k => eG H' k.1, ?_, ?_⟩
  · rintro i d x σ' H' H'' hd ⟨q1, x1, y1, rfl⟩ s4 rd
    obtain ⟨e8, e5, rfl⟩ := map_at hd
    refine g_tup2 rd fun a c ra rc => ?_
    have ra : a = .int e8.1 := ra
    have rc : c = .int (e8.2 : Int) := rc
    subst ra rc
    have hm := List.of_mem_zip (List.mem_of_getElem? e5)
    have h0 := hp e8.1 hm.1
    obtain ⟨k1, k2⟩ := hk.spans_ok e8.2 hm.2
    have et : e8.1 = (e8.1.toNat : Int) := by omega
    have g0 := gcd_pos_r (t := e8.1.toNat) k1
    have g1 : Nat.gcd e8.1.toNat e8.2 ≤ e8.2 := Nat.le_of_dvd k1 (Nat.gcd_dvd_right _ _)
    have d0 : 0 < e8.2 / Nat.gcd e8.1.toNat e8.2 := Nat.div_pos g1 g0
    have d1 : e8.2 / Nat.gcd e8.1.toNat e8.2 ≤ e8.2 := Nat.div_le_self _ _
    refine s_let (ev_fn (((List.zip ns S.spans).take i).foldl (fun t q => lcmN t (q.2 / Nat.gcd q.1.toNat q.2)) 1, e8.2 / Nat.gcd e8.1.toNat e8.2) (da_cons (ev_v rfl) (da_cons ((ev_I (C := CDivN) (g := fun i j => V.int (i.fdiv j)) (ev_v rfl) (ev_fn (e8.1.toNat, e8.2) (da_cons ((ev_v rfl).is (by rw [← et])) (da_cons (ev_v rfl) da_nil)) trivial) (cdn g0 (by show Nat.gcd e8.1.toNat e8.2 < _; omega))).is (w := .int ((e8.2 / Nat.gcd e8.1.toNat e8.2 : Nat) : Int)) (by rw [fdiv_nat])) da_nil)) ⟨d0, Nat.lt_of_le_of_lt d1 k2⟩) fun H5 s5 => ⟨(q1.trans s4).trans s5, some (.int e8.1), some (.int (e8.2 : Int)), ?_⟩
    rw [fold_at e5]; rfl
  · rintro σ' H' ⟨q1, x1, y1, rfl⟩
    rw [List.length_map, List.take_length]
    exact s_retv (ev_v rfl) fun H5 s5 => h2 _ _ (((s1.trans s3).trans q1).trans s5) rfl
/-! ### amounts_of -/
abbrev Bl := Addr × Bk
def blD (l : List Bl) : D := .lst (l.map fun a => .ref a.1)
abbrev spAmounts (K : PySem.W.Frag) : Sp := spH K (fun a : List Bl × Str => [blD a.1, .str a.2]) (fun a H => ∀ b, b ∈ a.1 → BookAt K H b.1 b.2 ∧ b.2.ok ∧ a.2 ∈ b.2.names) fun a => Is (.int (amounts (a.1.map (·.2)) a.2 : Int))
theorem wper_lt {b : Bk} (h : b.ok) {z : Str} (hz : z ∈ b.names) : b.period z < 2 ^ 30 ∧ 0 < b.period z := by
  have q := perS_ok (Bk.whole_ok h hz)
  have e : (30 : Nat) ^ 6 = 729000000 := by decide
  exact ⟨by unfold Bk.period; omega, q.2⟩
-- books 0 name 1 found 2 book 3
theorem sc_amounts_of : FnScope ["books", "name", "found", "book"] ["books", "name"] (defScope (top 78)) := ⟨rfl, rfl, rfl, by decide +kernel, rfl, by decide +kernel, by decide +kernel⟩
theorem ok_amounts_of (E : Env P w K mg base) (o_common_multiple : Okf P w K mg base 2 "common_multiple" ["one", "other"] (spLcm K)) (m_Book_period : Okm P w K mg base 3 "Book" "period" ["self", "name"] (spPeriod K)) : Okf P w K mg base 4 "amounts_of" ["books", "name"] (spAmounts K) :=
  okf_mk E 34 34 rfl rfl sc_amounts_of (fun _ _ _ _ _ _ us hl => match us, hl with | [_, _], _ => rfl) (spH_len fun _ => rfl) fun cdv A outer s H vs Q E0 hr h => by
  obtain ⟨⟨l, z⟩, h1, hb, h2⟩ := h
  have hb : ∀ b, b ∈ l → BookAt K H b.1 b.2 ∧ b.2.ok ∧ z ∈ b.2.names := hb
  obtain ⟨v1, _, rfl, r, rfl⟩ := two_of h1
  have r : Rep K H (.lst (l.map fun a => .ref a.1)) v1 := r
  have nd := sc_amounts_of.nd
  refine ⟨_, (pss_cons (ps_set (i := 2) nd rfl (.inl rfl) pe_int)
      (pss_cons (ps_for PassesOwn.never rfl (kIList (K := K) rfl (pv 0)) (pg_name (i := 3) nd rfl (.inl rfl)) (pss_one (ps_set (i := 2) nd rfl (.inl rfl) (pe_okf o_common_multiple (hr.mono (by decide)) (pa_cons (pv 2) (pa_cons (kMeth (K := K) rfl m_Book_period (hr.mono (by decide)) (pv 3) (pa_cons (pv 1) pa_nil)) pa_nil))))))
      (pss_one (ps_ret (pv 2))))), ?_⟩
  refine q_let ev_c fun H1 s1 => ?_
  refine q_for (it_lst (ds := l.map fun a => .ref a.1) (ev_d rfl (Rep.same s1 r))) fun H3 G s3 eG hB => ⟨fun i σ' H' => Same H3 H' ∧ ∃ x, σ' = [some v1, some (.str z), some (.int ((l.take i).foldl (fun t b => lcmN t (b.2.period z)) 1 : Nat)), x], ⟨Same.refl _, _, rfl⟩, fun i σ' H' k => eG H' k.1, ?_, ?_⟩
  · rintro i d x σ' H' H'' hd ⟨q1, x1, rfl⟩ s4 rd
    obtain ⟨b, e5, rfl⟩ := map_at hd
    have rd : x = .ref b.1 := rd
    subst rd
    have st := ((s1.trans s3).trans q1).trans s4
    obtain ⟨hb1, hb2, hb3⟩ := hb b (List.mem_of_getElem? e5)
    have hb1 := hb1.same st
    obtain ⟨d2, vs2, vh2, vl2, vw2, bf⟩ := id hb1
    obtain ⟨w1, w2⟩ := wper_lt hb2 hb3
    refine s_let (ev_fn ((l.take i).foldl (fun t b => lcmN t (b.2.period z)) 1, b.2.period z) (da_cons (ev_v rfl) (da_cons (ev_mfnH ((b.1, b.2), z) (ev_v rfl) bf.ins rfl (da_cons (ev_v rfl) da_nil) rfl fun H1 s => ⟨hb1.same s, hb2, hb3⟩) da_nil)) ⟨w2, w1⟩) fun H5 s5 => ⟨(q1.trans s4).trans s5, some (.ref b.1), ?_⟩
    rw [fold_at e5]; rfl
  · rintro σ' H' ⟨q1, x1, rfl⟩
    rw [List.length_map, List.take_length]
    refine s_retv (ev_v rfl) fun H5 s5 => h2 _ _ (((s1.trans s3).trans q1).trans s5) ?_
    show V.int _ = V.int ((amounts (l.map (·.2)) z : Nat) : Int)
    unfold amounts
    rw [List.foldl_map]
end
end LC
end
section
set_option Elab.async false
set_option linter.all false
set_option maxRecDepth 100000
set_option maxHeartbeats 2000000
/-! States: lines, best_lines -/
namespace LC
open PySem PySem.Spec L2
def lnD (l : Ln) : D := .tup [.int (l.1 : Int), .int (l.2.1 : Int), .tup (l.2.2.1.map D.int), .int l.2.2.2]
theorem lnD_t (l : Ln) : (lnD l).tupsOnly = true := by show (true && (true && (D.tupsOnlys (l.2.2.1.map D.int) && (true && true)))) = true; rw [tups_ints]; rfl
theorem lnD_tups (l : List Ln) : D.tupsOnlys (l.map lnD) = true := by
  induction l with
  | nil => rfl
  | cons a l ih => show ((lnD a).tupsOnly && D.tupsOnlys (l.map lnD)) = true; rw [lnD_t, ih]; rfl
def Sts.linesTo (S : Sts) (i : Nat) : List Ln := (List.range i).flatMap fun i => S.linesAt i (S.names.getD i "")
theorem linesAt_len (S : Sts) (i : Nat) (z : Str) : (S.linesAt i z).length = amounts S.books z := by unfold Sts.linesAt; rw [List.length_map, List.length_range]
theorem linesTo_succ (S : Sts) {i : Nat} {z : Str} (h : S.names[i]? = some z) : S.linesTo (i + 1) = S.linesTo i ++ S.linesAt i z := by
  unfold Sts.linesTo
  rw [List.range_succ, List.flatMap_append]
  show _ ++ (S.linesAt i (S.names.getD i "") ++ []) = _
  rw [List.append_nil, List.getD_eq_getElem?_getD, h]; rfl
theorem linesTo_len {S : Sts} (h : ∀ z, z ∈ S.names → amounts S.books z ≤ 400) : ∀ i, i ≤ S.names.length → (S.linesTo i).length ≤ 400 * i
  | 0, _ => Nat.le_refl _
  | i + 1, hi => by
    have e : S.names[i]? = some S.names[i] := List.getElem?_eq_getElem hi
    rw [linesTo_succ S e, List.length_append, linesAt_len]
    have := linesTo_len h i (by omega)
    have := h S.names[i] (List.getElem_mem hi)
    omega
theorem two_sides {L : List Sd} (h : L.length = 2) : ∃ a b, L = [a, b] := by
  match L, h with
  | [a, b], _ => exact ⟨a, b, rfl⟩
section
variable {P : Program} {w : World} {K : PySem.W.Frag} {mg : Str → Option Value} {base : Heap}
abbrev spLines (K : PySem.W.Frag) : Sp := fun vs H Q _ => ∃ a : StA, RepAll K H [.ref a.1] vs ∧ StOk K a H ∧ ∀ v H2, Same H H2 → NewL K H (a.2.lines.map lnD) v H2 → Q v H2
theorem spLines_len {K : PySem.W.Frag} : ∀ vs H Q E, spLines K vs H Q E → vs.length = 1 := by
  rintro _ _ _ _ ⟨_, h, _⟩; exact h.length
theorem names_few {S : Sts} (hk : S.ok) : S.names.length ≤ 4 := by
  have h2 := hk.two
  match e : S.sides, h2 with
  | [a, b], _ =>
    have hm : a ∈ S.sides := by rw [e]; simp
    rw [← hk.names a hm]
    show (a.1.sorts.map (·.1)).length ≤ 4
    rw [List.length_map]; exact (hk.fine a hm).ok.few
-- self 0 books 1 found 2 at 3 name 4 amount 5 move 6 book 7 sign 8
theorem sc_States_lines : FnScope ["self", "books", "found", "at", "name", "amount", "move", "book", "sign"] ["self"] (defScope (mth 80 9)) := ⟨rfl, rfl, rfl, by decide +kernel, rfl, by decide +kernel, by decide +kernel⟩
theorem ok_States_lines (E : Env P w K mg base) (p_Book_names : Okp P w K mg base 1 "Book" "names" (spNames K)) (o_amounts_of : Okf P w K mg base 4 "amounts_of" ["books", "name"] (spAmounts K)) (m_States_reduced : Okm P w K mg base 1 "States" "reduced" ["self", "sums"] (spReduced K)) (m_States_move : Okm P w K mg base 6 "States" "move" ["self", "name", "amount"] (spMove K)) (m_States_weight : Okm P w K mg base 6 "States" "weight" ["self", "name", "amount"] (spWeight K)) : Okm P w K mg base 8 "States" "lines" ["self"] (spLines K) :=
  okm_mk E 82 129 106 rfl rfl rfl sc_States_lines (fun _ _ _ _ _ _ us hl => match us, hl with | [_], _ => rfl) spLines_len fun cdv A outer s H vs Q E0 hr h => by
  obtain ⟨⟨p, S⟩, h1, ⟨hst, hk⟩, h2⟩ := h
  have hst : StsAt K H p S := hst
  have hk : S.ok := hk
  have h2 : ∀ v H2, Same H H2 → NewL K H (S.lines.map lnD) v H2 → Q v H2 := h2
  obtain ⟨_, rfl, rfl⟩ := one_of h1
  obtain ⟨L, dx, vs, vp, F⟩ := id hst
  obtain ⟨s0, s1', rfl⟩ := two_sides (F.ln.trans hk.two)
  have nd := sc_States_lines.nd
  refine ⟨_, (pss_cons (ps_par (i := 1) (j := 2) (by rfl) nd rfl rfl (by decide) rfl rfl (pa_cons (pe_lc (own := [("book", 7), ("sign", 8)]) (g := gTup K 2 (gCons (gName 7) (gCons (gName 8) gNil))) (tt := tYes)  rfl nd (kIList (K := K) rfl (kFld (K := K) rfl (pv 0))) (blkOk_by (N := ["self", "books", "found", "at", "name", "amount", "move", "book", "sign"]) (sc := defScope (mth 80 9)) (by decide +kernel)) (fun _ _ _ _ _ => (kGTup (K := K) (n := 2) rfl rfl (pgs_cons (pg_name (i := 7) nd rfl (.inl rfl)) (pgs_cons (pg_name (i := 8) nd rfl (.inl rfl)) pgs_nil)))) (fun _ _ _ _ _ => pts_nil) (fun _ _ _ _ _ => (pv 7))) (pa_cons (pe_lst pa_nil) pa_nil)) (by rfl))
      (pss_cons (ps_for PassesOwn.never rfl (kEn (K := K) true rfl (E.free 70) (pa_cons (kProp (K := K) rfl p_Book_names (hr.mono (by decide)) (kIxL (K := K) rfl (pv 1) pe_int)) pa_nil)) (kGTup (K := K) (n := 2) rfl rfl (pgs_cons (pg_name (i := 3) nd rfl (.inl rfl)) (pgs_cons (pg_name (i := 4) nd rfl (.inl rfl)) pgs_nil))) (pss_one (ps_for PassesOwn.never rfl (pi_range1 (by rfl) (E.free 75) (pa_cons (pe_okf o_amounts_of (hr.mono (by decide)) (pa_cons (pv 1) (pa_cons (pv 4) pa_nil))) pa_nil)) (pg_name (i := 5) nd rfl (.inl rfl)) (pss_cons (ps_set (i := 6) nd rfl (.inl rfl) (kMeth (K := K) rfl m_States_reduced (hr.mono (by decide)) (pv 0) (pa_cons (kMeth (K := K) rfl m_States_move (hr.mono (by decide)) (pv 0) (pa_cons (pv 4) (pa_cons (pv 5) pa_nil))) pa_nil)))
      (pss_one (ps_expr (kAppend (K := K) rfl (pv 2) (pa_cons (pe_tup (pa_cons (pv 3) (pa_cons (pv 5) (pa_cons (pv 6) (pa_cons (kMeth (K := K) rfl m_States_weight (hr.mono (by decide)) (pv 0) (pa_cons (pv 4) (pa_cons (pv 5) pa_nil))) pa_nil))))) pa_nil))))))))
      (pss_one (ps_ret (pv 2))))), ?_⟩
  have nf := names_few hk
  have es : S.sides = [s0.2, s1'.2] := F.eq.symm
  have eb : S.books = [(s0.1, s0.2.1), (s1'.1, s1'.2.1)].map (·.2) := by unfold Sts.books; rw [es]; rfl
  have n0 : s0.2.1.names = S.names := hk.names s0.2 (by rw [es]; simp)
  have n1 : s1'.2.1.names = S.names := hk.names s1'.2 (by rw [es]; simp)
  have b0 := F.books s0 (by simp)
  have b1 := F.books s1' (by simp)
  refine q_par (P1 := NewL K H ([s0, s1'].map fun s => .ref s.1)) (ev_lc2 (fun s : Sd => .ref s.1) (fun s => .int s.2.2) _ (it_lst (ds := [s0, s1'].map sideD) ((ev_fld (ev_v rfl) F.ins (E.cls 106) (E.noat 108) rfl).dt F.sides)) (by show 2 ≤ 50000; decide) (fun _ _ => rfl) (fun _ _ => rfl) fun a x y H1 _ _ rx ry => ev_d rfl rx) (ev_lst (K := K) (l := []) da_nil (by decide)) mono_new fun v w H1 s1 ⟨pb, xb, e1, gb, hb1, hb2⟩ ⟨q, ys, e2, gq, hq, g3⟩ => ?_
  have g3 : ys = [] := g3
  subst g3 e2 e1
  have rb : Rep K H1 (.lst ([s0, s1'].map fun s => .ref s.1)) (.ref pb) := ⟨pb, xb, rfl, SqL.of hb1, hb2⟩
  have pbq : pb ≠ q := fun e => by
    rw [e, hq] at hb1
    have := Option.some.inj hb1
    have e3 : xb = [] := by injection this with this; exact this.symm
    rw [e3] at hb2
    obtain ⟨_, _, h, _⟩ := hb2
    cases h
  have b01 := b0.same s1
  obtain ⟨d2, vs2, vh2, vl2, vw2, bf⟩ := id b01.book
  refine q_for (it_eT (ds := S.names.map D.str) (da_cons (Ev.imp (ev_pfnH (s0.1, s0.2.1) (ev_ixL (n := 0) (d := .ref s0.1) (ev_d rfl rb) ev_c rfl) bf.ins rfl fun H1 s => ⟨b01.book.same s, b01.fine.ok.few⟩) fun v H1 _ q => by rw [← n0]; exact q) da_nil) (tups_strs _)) fun H3 G s3 eG hB => ⟨fun i σ' H' => (KeepT H3 H' ∧ Same H H' ∧ H' pb = some (.lst xb)) ∧ (∃ xs, H' q = some (.lst xs) ∧ RepAll K H' ((S.linesTo i).map lnD) xs) ∧ ∃ x y u t, σ' = [some (.ref p), some (.ref pb), some (.ref q), x, y, u, t, none, none], ⟨⟨KeepT.refl _, s1.trans s3, s3 _ _ hb1⟩, ⟨[], s3 _ _ hq, rfl⟩, _, _, _, _, rfl⟩, fun i σ' H' k => hB H' k.1.1, ?_, ?_⟩
  · rintro i d x σ' H' H'' hd ⟨⟨k1, k2, k5⟩, ⟨xs, k3, k4⟩, x1, y1, u1, t1, rfl⟩ s4 rd
    obtain ⟨z, e5, rfl⟩ := en_at hd
    have hz : z ∈ S.names := List.mem_of_getElem? e5
    have hi : i < S.names.length := (List.getElem?_eq_some_iff.mp e5).1
    have am := hk.many z hz
    refine g_tup2 rd fun a c ra rc => ?_
    have ra : a = .int (i : Int) := ra
    have rc : c = .str z := rc
    subst ra rc
    have st := k2.trans s4
    have rb2 : Rep K H'' (.lst ([(s0.1, s0.2.1), (s1'.1, s1'.2.1)].map fun a => .ref a.1)) (.ref pb) := ⟨pb, xb, rfl, SqL.of (s4 _ _ k5), by
      obtain ⟨v1, r1, f1, f2, v2, r2, f3, f4, f5⟩ := hb2
      exact ⟨v1, r1, f1, f2, v2, r2, f3, f4, f5⟩⟩
    refine s_for (it_range1 (K := K) (n := (amounts S.books z : Int)) (da_cons ((ev_fnH ([(s0.1, s0.2.1), (s1'.1, s1'.2.1)], z) (da_cons (ev_d rfl rb2) (da_cons (ev_v rfl) da_nil)) fun H5 s5 b hb => ?_).is (by rw [eb])) da_nil) (by omega) (by omega)) fun H6 G6 s6 eG6 hB6 => ⟨fun j σ' H' => (KeepT H3 H' ∧ Same H H' ∧ H' pb = some (.lst xb)) ∧ (∃ xs, H' q = some (.lst xs) ∧ RepAll K H' ((S.linesTo i ++ (S.linesAt i z).take j).map lnD) xs) ∧ ∃ u t, σ' = [some (.ref p), some (.ref pb), some (.ref q), some (.int (i : Int)), some (.str z), u, t, none, none], ⟨⟨(k1.trans (Same.keepT s4)).trans (Same.keepT s6), st.trans s6, s6 _ _ (s4 _ _ k5)⟩, ⟨xs, s6 _ _ (s4 _ _ k3), by rw [List.take_zero, List.append_nil]; exact RepAll.same (s4.trans s6) k4⟩, _, _, rfl⟩, fun j σ' H' k => hB6 H', ?_, ?_⟩
    · simp at hb
      rcases hb with z1 | z1 <;> rw [z1]
      · exact ⟨b0.book.same (st.trans s5), b0.fine.ok, by show z ∈ s0.2.1.names; rw [n0]; exact hz⟩
      · exact ⟨b1.book.same (st.trans s5), b1.fine.ok, by show z ∈ s1'.2.1.names; rw [n1]; exact hz⟩
    · rintro j d' x' σ'' I' I'' hd' ⟨⟨m1, m2, m5⟩, ⟨xs2, m3, m4⟩, u2, t2, rfl⟩ s7 rd'
      obtain ⟨n, e8, rfl⟩ := map_at (f := fun (n : Nat) => D.int (n : Int)) hd'
      rw [Int.toNat_natCast] at e8
      have hn : n = j := by
        obtain ⟨h8, e9⟩ := List.getElem?_eq_some_iff.mp e8
        rw [List.getElem_range] at e9; exact e9.symm
      subst hn
      have rd' : x' = .int (n : Int) := rd'
      subst rd'
      have st2 := m2.trans s7
      have stf := F.same st2
      have mvl : (S.move z n).length ≤ 100 := by
        unfold Sts.move
        rw [es]
        show (s0.2.1.sums z n ++ (s1'.2.1.sums z n ++ [])).length ≤ 100
        rw [List.append_nil, List.length_append, sums_len, sums_len]
        have := b0.fine.ok.hfew; have := b1.fine.ok.hfew
        omega
      refine q_asg (ev_mfnH ((p, S), S.move z n) (ev_v rfl) stf.ins rfl (da_cons (ev_mfnH (((p, S), z), n) (ev_v rfl) stf.ins rfl (da_cons (ev_v rfl) (da_cons (ev_v rfl) da_nil)) rfl fun H5 s => ⟨⟨hst.same (st2.trans s), hk⟩, hz⟩) da_nil) rfl fun H5 s => ⟨⟨hst.same (st2.trans s), hk⟩, mvl⟩) fun mv I3 s8 rm => ?_
      have rm : Rep K I3 (.tup ((S.reduced (S.move z n)).map D.int)) mv := ki_dt rm
      have s78 := s7.trans s8
      have xl : xs2.length ≤ 2000 := by
        rw [m4.length, List.length_map, List.length_append, List.length_take, linesAt_len]
        have := linesTo_len hk.many i (by omega)
        omega
      refine s_append (ev_v rfl) (s78 _ _ m3) (ev_tup (K := K) (l := [.int (i : Int), .int (n : Int), .tup ((S.reduced (S.move z n)).map D.int), .int (S.weight z n)]) (da_cons (ev_v rfl) (da_cons (ev_v rfl) (da_cons (ev_d rfl rm) (da_cons (ev_mfnH (((p, S), z), n) (ev_v rfl) ((st2.trans s8) _ _ F.ins) rfl (da_cons (ev_v rfl) (da_cons (ev_v rfl) da_nil)) rfl fun H5 s => ⟨⟨hst.same ((st2.trans s8).trans s), hk⟩, hz⟩) da_nil)))) (show 4 ≤ 100000 by decide)) (by omega) fun lv I4 s9 rl => ?_
      have s79 := s78.trans s9
      have kt : KeepT I4 (upd I4 q (.lst (xs2 ++ [lv]))) := keepT_updL (s79 _ _ m3)
      refine ⟨⟨(m1.trans (Same.keepT s79)).trans kt, same_mut (m2.trans s79) gq, by rw [upd_ne pbq]; exact s79 _ _ m5⟩, ⟨xs2 ++ [lv], upd_same, ?_⟩, some (.int (n : Int)), some mv, rfl⟩
      have et : (S.linesAt i z).take (n + 1) = (S.linesAt i z).take n ++ [(i, n, S.reduced (S.move z n), S.weight z n)] := by
        rw [List.take_add_one]
        congr 1
        unfold Sts.linesAt
        rw [List.getElem?_map, e8]; rfl
      rw [et, ← List.append_assoc, List.map_append]
      exact RepAll.append (RepAll.keepT kt (lnD_tups _) (RepAll.same s79 m4)) (RepAll.one (Rep.keepT kt (lnD_t (i, n, S.reduced (S.move z n), S.weight z n)) rl))
    · rintro σ'' I' ⟨⟨m1, m2, m5⟩, ⟨xs2, m3, m4⟩, u2, t2, rfl⟩
      rw [List.length_map, List.length_range, Int.toNat_natCast, ← linesAt_len S i z, List.take_length, ← linesTo_succ S e5] at m4
      exact ⟨⟨m1, m2, m5⟩, ⟨xs2, m3, m4⟩, _, _, _, _, rfl⟩
  · rintro σ' H' ⟨⟨k1, k2, k5⟩, ⟨xs, k3, k4⟩, x1, y1, u1, t1, rfl⟩
    rw [List.length_map, List.length_range, List.length_map] at k4
    exact s_retv (ev_v rfl) fun H5 s5 => h2 _ H5 (k2.trans s5) ⟨q, xs, rfl, gq, s5 _ _ k3, RepAll.same s5 k4⟩
end
end LC
end
section
set_option Elab.async false
set_option linter.all false
set_option maxRecDepth 100000
set_option maxHeartbeats 2000000
/-! best_lines; stores to dicts with tuple keys -/
namespace LC
open PySem PySem.Spec L2
section
variable {K : PySem.W.Frag} {σ : St} {H : Hp} {td ty tv : TE} {P : PV} {E : Ends} {z : TS} {d : Addr} {kvs : List (List Key × V)} {k : List Int}
/-- d[k] = e -/
theorem s_dput (hd : Ev td σ H (Is (.ref d))) (hk : Ev ty σ H (Ki k)) (hv : Ev tv σ H P) (m : Mono P) (h : H d = some (.dT kvs)) (hl : kvs.length < 100000) (c : ∀ v H1, Same H H1 → P v H1 → E.nx σ (upd H1 d (.dT (putK kvs (keyD k) v)))) : sDPut td ty tv E σ H :=
  hv H (Same.refl _) _ fun v H1 s1 pv => hd H1 s1 _ fun x H2 s2 e => hk H2 (s1.trans s2) _ fun y H3 s3 ⟨b, e1, e2⟩ => ⟨d, _, e, .inr ⟨kvs, keyD k, b, ((s1.trans s2).trans s3) _ _ h, e1, by rw [keyD_V]; exact e2, szl hl, rfl⟩, c v H3 ((s1.trans s2).trans s3) (m _ _ _ (s2.trans s3) pv)⟩
end
def tlD (t : Tl) : D := .tup [.int t.1, .int (t.2.1 : Int), .int (t.2.2 : Int)]
theorem tlD_t (t : Tl) : (tlD t).tupsOnly = true := rfl
/-- a new dict at an address, younger than H, of the pairs es -/
abbrev NewD (K : PySem.W.Frag) (H : Hp) (es : Es) : PV := fun u H2 => ∃ p kvs, u = .ref p ∧ H p = none ∧ H2 p = some (.dT kvs) ∧ DictR K H2 es kvs
theorem bestStep_len (es : As Tl) (l : Ln) : (bestStep es l).length ≤ es.length + 1 := by
  unfold bestStep
  split
  · split
    · exact putA_length _ _ _
    · exact Nat.le_succ _
  · exact putA_length _ _ _
theorem best_len : ∀ (l : List Ln) (es : As Tl), (l.foldl bestStep es).length ≤ es.length + l.length
  | [], es => Nat.le_refl _
  | a :: l, es => by
    rw [List.foldl_cons, List.length_cons]
    have h1 := best_len l (bestStep es a)
    have h2 := bestStep_len es a
    omega
section
variable {P : Program} {w : World} {K : PySem.W.Frag} {mg : Str → Option Value} {base : Heap}
theorem lines_len {S : Sts} (hk : S.ok) : S.lines.length ≤ 1600 := by
  have h1 := linesTo_len hk.many S.names.length (Nat.le_refl _)
  have h2 := names_few hk
  have : S.lines.length ≤ 400 * S.names.length := h1
  omega
abbrev spBestLines (K : PySem.W.Frag) : Sp := fun vs H Q _ => ∃ a : StA, RepAll K H [.ref a.1] vs ∧ StOk K a H ∧ ∀ v H2, Same H H2 → NewD K H (mapA tlD a.2.best) v H2 → Q v H2
theorem spBestLines_len {K : PySem.W.Frag} : ∀ vs H Q E, spBestLines K vs H Q E → vs.length = 1 := by
  rintro _ _ _ _ ⟨_, h, _⟩; exact h.length
-- self 0 found 1 at 2 amount 3 move 4 weight 5
theorem sc_States_best_lines : FnScope ["self", "found", "at", "amount", "move", "weight"] ["self"] (defScope (mth 80 10)) := ⟨rfl, rfl, rfl, by decide +kernel, rfl, by decide +kernel, by decide +kernel⟩
theorem ok_States_best_lines (E : Env P w K mg base) (m_States_lines : Okm P w K mg base 8 "States" "lines" ["self"] (spLines K)) : Okm P w K mg base 9 "States" "best_lines" ["self"] (spBestLines K) :=
  okm_mk E 83 130 106 rfl rfl rfl sc_States_best_lines (fun _ _ _ _ _ _ us hl => match us, hl with | [_], _ => rfl) spBestLines_len fun cdv A outer s H vs Q E0 hr h => by
  obtain ⟨⟨p, S⟩, h1, ⟨hst, hk⟩, h2⟩ := h
  have hst : StsAt K H p S := hst
  have hk : S.ok := hk
  have h2 : ∀ v H2, Same H H2 → NewD K H (mapA tlD S.best) v H2 → Q v H2 := h2
  obtain ⟨_, rfl, rfl⟩ := one_of h1
  obtain ⟨L, dx, vs, vp, F⟩ := id hst
  have nd := sc_States_best_lines.nd
  refine ⟨_, (pss_cons (ps_set (i := 1) nd rfl (.inl rfl) pe_dnewT)
      (pss_cons (ps_for PassesOwn.never rfl (kIList (K := K) rfl (kMeth0 (K := K) rfl m_States_lines (hr.mono (by decide)) (pv 0))) (kGTup (K := K) (n := 4) rfl rfl (pgs_cons (pg_name (i := 2) nd rfl (.inl rfl)) (pgs_cons (pg_name (i := 3) nd rfl (.inl rfl)) (pgs_cons (pg_name (i := 4) nd rfl (.inl rfl)) (pgs_cons (pg_name (i := 5) nd rfl (.inl rfl)) pgs_nil))))) (pss_one (ps_if (PW.pt (pw_or (pt_cmp (pc_dnotin (hu_of hr) (pv 4) (pv 1))) (pw_or1 (pt_cmpR op_lt (kIxT (K := K) rfl (pe_dget (hu_of hr) (pv 1) (pv 4) (fun _ _ => rfl)) pe_int) (pv 5) (nomark _))))) (pss_one (ps_dput (hu_of hr) (pv 1) (pv 4) (pe_tup (pa_cons (pv 5) (pa_cons (pv 2) (pa_cons (pv 3) pa_nil)))) rfl)) pss_nil)))
      (pss_one (ps_ret (pv 1))))), ?_⟩
  have ll := lines_len hk
  refine q_asg (P := NewD K H []) (fun H1 s Q q => fun a ha => q _ _ (same_new ha) ⟨a, [], rfl, fresh_back s ha, upd_same, rfl⟩) fun y H1 s1 ⟨d, kvs, e1, gd, hd, hr⟩ => ?_
  subst e1
  refine q_for (it_new (ds := S.lines.map lnD) (Same.refl H1) (ev_meth (sp := spLines K) (R := fun vs _ => vs = []) (P := NewL K H1 (S.lines.map lnD)) (ev_v rfl) (s1 _ _ F.ins) rfl ea_nil fun vs H2 s2 e Q q => ⟨(p, S), by rw [e]; exact ⟨_, _, rfl, rfl, rfl⟩, ⟨hst.same (s1.trans s2), hk⟩, fun v H3 s3 ⟨a, xs, f1, f2, f3, f4⟩ => q v H3 s3 ⟨a, xs, f1, fresh_back s2 f2, f3, f4⟩⟩)) fun H3 G s3 eG ⟨pl, xl, gl, hl, hlr, hB⟩ => ⟨fun i σ' H' => (KeepT H3 H' ∧ Same H H' ∧ H' pl = some (.lst xl)) ∧ (∃ kvs, H' d = some (.dT kvs) ∧ DictR K H' (mapA tlD ((S.lines.take i).foldl bestStep [])) kvs) ∧ ∃ x y u t, σ' = [some (.ref p), some (.ref d), x, y, u, t], ⟨⟨KeepT.refl _, s1.trans s3, hl⟩, ⟨kvs, s3 _ _ hd, DictR.same s3 hr⟩, _, _, _, _, rfl⟩, fun i σ' H' k => hB H' k.1.2.2 (RepAll.keepT k.1.1 (lnD_tups _) hlr), ?_, ?_⟩
  · rintro i dd x σ' H' H'' hd' ⟨⟨k1, k2, k3⟩, ⟨kv, k4, k5⟩, x1, y1, u1, t1, rfl⟩ s4 rd
    obtain ⟨l, e5, rfl⟩ := map_at hd'
    have e6 : (S.lines.take (i + 1)).foldl bestStep [] = bestStep ((S.lines.take i).foldl bestStep []) l := fold_at e5
    have bl := best_len (S.lines.take i) []
    have pld : pl ≠ d := fun e => by rw [e, k4] at k3; cases k3
    have tl : (S.lines.take i).length ≤ 1600 := by rw [List.length_take]; omega
    have ml : (mapA tlD ((S.lines.take i).foldl bestStep [])).length = ((S.lines.take i).foldl bestStep []).length := List.length_map ..
    have bl' : ((S.lines.take i).foldl bestStep []).length ≤ 1600 := by
      have : ([] : As Tl).length = 0 := rfl
      omega
    generalize (S.lines.take i).foldl bestStep [] = es at e6 k5 ml bl'
    have kl := k5.length
    refine g_tup4 rd fun a c e f ra rc re rf => ?_
    have ra : a = .int (l.1 : Int) := ra
    have rc : c = .int (l.2.1 : Int) := rc
    have rf : f = .int l.2.2.2 := rf
    subst ra rc rf
    have ke : Ki l.2.2.1 e H'' := rep_ki re
    have k5' := DictR.same s4 k5
    have put : ∀ I, Same H'' I → (∀ v, Rep K I (tlD (l.2.2.2, l.1, l.2.1)) v → bestStep es l = putA es l.2.2.1 (l.2.2.2, l.1, l.2.1) → ((KeepT H3 (upd I d (.dT (putK kv (keyD l.2.2.1) v))) ∧ Same H (upd I d (.dT (putK kv (keyD l.2.2.1) v))) ∧ (upd I d (.dT (putK kv (keyD l.2.2.1) v))) pl = some (.lst xl)) ∧ (∃ kvs, (upd I d (.dT (putK kv (keyD l.2.2.1) v))) d = some (.dT kvs) ∧ DictR K (upd I d (.dT (putK kv (keyD l.2.2.1) v))) (mapA tlD (bestStep es l)) kvs))) := fun I sI v rv eb => by
      have kt : KeepT I (upd I d (.dT (putK kv (keyD l.2.2.1) v))) := keepT_updT ((s4.trans sI) _ _ k4)
      refine ⟨⟨(k1.trans (Same.keepT (s4.trans sI))).trans kt, same_mut (k2.trans (s4.trans sI)) gd, by rw [upd_ne pld]; exact (s4.trans sI) _ _ k3⟩, _, upd_same, ?_⟩
      rw [eb, ← putA_map]
      exact DictR.put (DictR.keepT kt (tups_mapA tlD_t _) (DictR.same sI k5')) (Rep.keepT kt (tlD_t _) rv)
    have etup : ∀ I, Same H'' I → Ev (tTup (tCons (tVar 5) (tCons (tVar 2) (tCons (tVar 3) tNil)))) [some (.ref p), some (.ref d), some (.int (l.1 : Int)), some (.int (l.2.1 : Int)), some e, some (.int l.2.2.2)] I (Dt K (tlD (l.2.2.2, l.1, l.2.1))) := fun I sI => ev_tup (K := K) (l := [.int l.2.2.2, .int (l.1 : Int), .int (l.2.1 : Int)]) (da_cons (ev_v rfl) (da_cons (ev_v rfl) (da_cons (ev_v rfl) da_nil))) (show 3 ≤ 100000 by decide)
    have evk : ∀ I, Same H'' I → Ev (tVar 4) [some (.ref p), some (.ref d), some (.int (l.1 : Int)), some (.int (l.2.1 : Int)), some e, some (.int l.2.2.2)] I (Ki l.2.2.1) := fun I sI => (ev_v rfl).imp fun v H1 s ev => by rw [show v = e from ev]; exact mono_ki _ _ _ (sI.trans s) ke
    cases eg : getA es l.2.2.1 with
    | none =>
      have eb : bestStep es l = putA es l.2.2.1 (l.2.2.2, l.1, l.2.1) := by unfold bestStep; rw [eg]
      refine s_if (b := true) (et_or (b := true) (c := true) ((et_B (ev_dnotin (evk H'' (Same.refl _)) (ev_v rfl) (.inl (s4 _ _ k4)) k5')).is (by rw [getA_map, eg]; rfl)) (fun z => nomatch z)) (fun _ H5 s5 => ?_) (fun z => nomatch z)
      refine s_dput (ev_v rfl) (evk H5 s5) (etup H5 s5) mono_dt ((s4.trans s5) _ _ k4) (by omega) fun v H6 s6 rv => ?_
      obtain ⟨r1, r2⟩ := put H6 (s5.trans s6) v rv eb
      exact ⟨r1, by rw [e6]; exact r2, _, _, _, _, rfl⟩
    | some t =>
      have eb : bestStep es l = if t.1 < l.2.2.2 then putA es l.2.2.1 (l.2.2.2, l.1, l.2.1) else es := by unfold bestStep; rw [eg]
      refine s_if (b := decide (t.1 < l.2.2.2)) (et_or (b := false) ((et_B (ev_dnotin (evk H'' (Same.refl _)) (ev_v rfl) (.inl (s4 _ _ k4)) k5')).is (by rw [getA_map, eg]; rfl)) fun _ => et_t (ev_I0 (ev_ixT (n := 0) (d := .int t.1) (ev_dget (dv := tlD t) (ev_v rfl) (evk H'' (Same.refl _)) (.inl (s4 _ _ k4)) k5' (by rw [getA_map, eg]; rfl)) ev_c rfl) (ev_v rfl))) (fun c H5 s5 => ?_) (fun c H5 s5 => ?_)
      · rw [if_pos (of_decide_eq_true c)] at eb
        refine s_dput (ev_v rfl) (evk H5 s5) (etup H5 s5) mono_dt ((s4.trans s5) _ _ k4) (by omega) fun v H6 s6 rv => ?_
        obtain ⟨r1, r2⟩ := put H6 (s5.trans s6) v rv eb
        exact ⟨r1, by rw [e6]; exact r2, _, _, _, _, rfl⟩
      · rw [if_neg (of_decide_eq_false c)] at eb
        exact ⟨⟨k1.trans (Same.keepT (s4.trans s5)), k2.trans (s4.trans s5), (s4.trans s5) _ _ k3⟩, ⟨kv, (s4.trans s5) _ _ k4, by rw [e6, eb]; exact DictR.same s5 k5'⟩, _, _, _, _, rfl⟩
  · rintro σ' H' ⟨⟨k1, k2, k3⟩, ⟨kv, k4, k5⟩, x1, y1, u1, t1, rfl⟩
    rw [List.length_map, List.take_length] at k5
    exact s_retv (ev_v rfl) fun H5 s5 => h2 _ H5 (k2.trans s5) ⟨d, kv, rfl, gd, s5 _ _ k4, DictR.same s5 k5⟩
end
end LC
end
section
set_option Elab.async false
set_option linter.all false
set_option maxRecDepth 100000
set_option maxHeartbeats 2000000
/-! checks of two books -/
namespace LC
open PySem PySem.Spec L2
structure PairOk (A B : Bk) : Prop where
  fa : A.fine
  fb : B.fine
  names : A.names = B.names
  rates : ∀ z, z ∈ A.names → A.rate z = B.rate z
  states : A.size * B.size ≤ 200
  many : ∀ z, z ∈ A.names → amounts [A, B] z ≤ 400
  manyB : ∀ z, z ∈ A.names → amounts [B, A] z ≤ 400
theorem PairOk.symm {A B : Bk} (h : PairOk A B) : PairOk B A := ⟨h.fb, h.fa, h.names.symm, fun z hz => (h.rates z (h.names ▸ hz)).symm, by rw [Nat.mul_comm]; exact h.states, fun z hz => h.manyB z (h.names ▸ hz), fun z hz => h.many z (h.names ▸ hz)⟩
theorem prod_pos : ∀ (l : List Nat) (t : Nat), 0 < t → (∀ n, n ∈ l → 0 < n) → 0 < l.foldl (· * ·) t
  | [], t, h, _ => h
  | a :: l, t, h, k => prod_pos l (t * a) (Nat.mul_pos h (k a (List.mem_cons_self ..))) fun n hn => k n (List.mem_cons_of_mem _ hn)
theorem size_pos {b : Bk} (h : b.ok) : 0 < b.size := prod_pos _ 1 (by decide) fun n hn => (per_lt h hn).2
section
variable {P : Program} {w : World} {K : PySem.W.Frag} {mg : Str → Option Value} {base : Heap}
abbrev spSidesOf (K : PySem.W.Frag) : Sp := fun vs H Q _ => ∃ p q : Addr, vs = [.ref p, .ref q] ∧ ∀ v H2, Same H H2 → NewL K H [.tup [.ref p, .int 1], .tup [.ref q, .int (-1)]] v H2 → Q v H2
theorem spSidesOf_len {K : PySem.W.Frag} : ∀ vs H Q E, spSidesOf K vs H Q E → vs.length = 2 := by
  rintro _ _ _ _ ⟨_, _, rfl, _⟩; rfl
-- one 0 other 1
theorem sc_sides_of : FnScope ["one", "other"] ["one", "other"] (defScope (top 75)) := ⟨rfl, rfl, rfl, by decide +kernel, rfl, by decide +kernel, by decide +kernel⟩
theorem ok_sides_of (E : Env P w K mg base)  : Okf P w K mg base 1 "sides_of" ["one", "other"] (spSidesOf K) :=
  okf_mk E 31 31 rfl rfl sc_sides_of (fun _ _ _ _ _ _ us hl => match us, hl with | [_, _], _ => rfl) spSidesOf_len fun cdv A outer s H vs Q E0 hr h => by
  obtain ⟨p, q, rfl, h2⟩ := h
  have nd := sc_sides_of.nd
  refine ⟨_, (pss_one (ps_ret (pe_lst (pa_cons (pe_tup (pa_cons (pv 0) (pa_cons pe_int pa_nil))) (pa_cons (pe_tup (pa_cons (pv 1) (pa_cons (pe_un un_neg pe_int) pa_nil))) pa_nil))))), ?_⟩
  exact s_ret (ev_lst (K := K) (l := [.tup [.ref p, .int 1], .tup [.ref q, .int (-1)]]) (da_cons (ev_tup (K := K) (l := [.ref p, .int 1]) (da_cons (ev_v rfl) (da_cons ev_c da_nil)) (show 2 ≤ 100000 by decide)) (da_cons (ev_tup (K := K) (l := [.ref q, .int (-1)]) (da_cons (ev_v rfl) (da_cons (ev_neg ev_c) da_nil)) (show 2 ≤ 100000 by decide)) da_nil)) (show 2 ≤ 100000 by decide)) h2
abbrev Two := (Addr × Bk) × (Addr × Bk)
abbrev twoArg : Two → List D := fun a => [.ref a.1.1, .ref a.2.1]
def TwoOk (K : PySem.W.Frag) : Two → Hp → Prop := fun a H => BookAt K H a.1.1 a.1.2 ∧ BookAt K H a.2.1 a.2.2 ∧ PairOk a.1.2 a.2.2
theorem TwoOk.same {K : PySem.W.Frag} {H H' : Hp} {a : Two} (h : TwoOk K a H) (e : Same H H') : TwoOk K a H' := ⟨h.1.same e, h.2.1.same e, h.2.2⟩
abbrev spFirst (K : PySem.W.Frag) : Sp := spH K twoArg (TwoOk K) fun _ => Is .non
-- one 0 other 1 name 2
theorem sc_first_greater : FnScope ["one", "other", "name"] ["one", "other"] (defScope (top 76)) := ⟨rfl, rfl, rfl, by decide +kernel, rfl, by decide +kernel, by decide +kernel⟩
theorem ok_first_greater (E : Env P w K mg base) (p_Book_names : Okp P w K mg base 1 "Book" "names" (spNames K)) (o_less : Okf P w K mg base 3 "less" ["one", "other"] (spLess K)) (m_Book_rate : Okm P w K mg base 5 "Book" "rate" ["self", "name"] (spRate K)) : Okf P w K mg base 6 "first_greater" ["one", "other"] (spFirst K) :=
  okf_mk E 32 32 rfl rfl sc_first_greater (fun _ _ _ _ _ _ us hl => match us, hl with | [_, _], _ => rfl) (spH_len fun _ => rfl) fun cdv A outer s H vs Q E0 hr h => by
  obtain ⟨⟨⟨p, A⟩, ⟨q, B⟩⟩, h1, hk, h2⟩ := h
  obtain ⟨ha, hb, hp⟩ := id hk
  have ha : BookAt K H p A := ha
  have hb : BookAt K H q B := hb
  have hp : PairOk A B := hp
  obtain ⟨_, _, rfl, rfl, rfl⟩ := two_of h1
  obtain ⟨dx, vs, vh, vl, vw, fa⟩ := id ha
  obtain ⟨dx2, vs2, vh2, vl2, vw2, fb⟩ := id hb
  have nd := sc_first_greater.nd
  refine ⟨_, (pss_cons (ps_for PassesOwn.never rfl (kITup (K := K) rfl (kProp (K := K) rfl p_Book_names (hr.mono (by decide)) (pv 0))) (pg_name (i := 2) nd rfl (.inl rfl)) (pss_one (ps_if (pt_cmpR op_gt (kIxT (K := K) rfl (pe_okf o_less (hr.mono (by decide)) (pa_cons (kMeth (K := K) rfl m_Book_rate (hr.mono (by decide)) (pv 0) (pa_cons (pv 2) pa_nil)) (pa_cons (kMeth (K := K) rfl m_Book_rate (hr.mono (by decide)) (pv 1) (pa_cons (pv 2) pa_nil)) pa_nil))) pe_int) pe_int (nomark _)) (pss_one (ps_ret (pv 2))) pss_nil)))
      (pss_one (ps_ret pe_non))), ?_⟩
  refine q_for (it_tup (ds := A.names.map D.str) (ev_pfnH (p, A) (ev_v rfl) fa.ins rfl fun H1 s => ⟨ha.same s, hp.fa.ok.few⟩) (tups_strs _)) fun H3 G s3 eG hB => ⟨fun i σ' H' => Same H3 H' ∧ ∃ x, σ' = [some (.ref p), some (.ref q), x], ⟨Same.refl _, _, rfl⟩, fun i σ' H' k => eG H' k.1, ?_, ?_⟩
  · rintro i d x σ' H' H'' hd ⟨q1, x1, rfl⟩ s4 rd
    obtain ⟨z, e5, rfl⟩ := map_at hd
    have rd : x = .str z := rd
    subst rd
    have hz : z ∈ A.names := List.mem_of_getElem? e5
    have st := (s3.trans q1).trans s4
    have fs : FSm (A.rate z) := (rateS_ok (Bk.whole_ok hp.fa.ok hz)).sm (Nat.le_refl _)
    refine s_skip (et_t ((ev_I0 (ev_f1 (f := frac 0 ((A.rate z).2 * (A.rate z).2)) (ev_fn (A.rate z) (da_cons (ev_mfnH ((p, A), z) (ev_v rfl) (st _ _ fa.ins) rfl (da_cons (ev_v rfl) da_nil) rfl fun H1 s => ⟨ha.same (st.trans s), hp.fa.ok, hz⟩) (da_cons (Ev.imp (ev_mfnH ((q, B), z) (ev_v rfl) (st _ _ fb.ins) rfl (da_cons (ev_v rfl) da_nil) rfl fun H1 s => ⟨hb.same (st.trans s), hp.fb.ok, by show z ∈ B.names; rw [← hp.names]; exact hz⟩) fun v H1 _ r => by rw [hp.rates z hz]; exact r) da_nil)) fs)) ev_c).is ?_)) fun H5 s5 => ⟨(q1.trans s4).trans s5, _, rfl⟩
    show V.bl (decide (((0 / Nat.gcd 0 ((A.rate z).2 * (A.rate z).2) : Nat) : Int) > 0)) = V.bl false
    rw [Nat.zero_div]; rfl
  · rintro σ' H' ⟨q1, x1, rfl⟩
    exact s_retv ev_c fun H5 s5 => h2 _ H5 ((s3.trans q1).trans s5) rfl
abbrev spCheckRates (K : PySem.W.Frag) : Sp := spH K twoArg (TwoOk K) fun _ => Is .non
-- one 0 other 1 name 2
theorem sc_check_rates : FnScope ["one", "other", "name"] ["one", "other"] (defScope (top 77)) := ⟨rfl, rfl, rfl, by decide +kernel, rfl, by decide +kernel, by decide +kernel⟩
theorem ok_check_rates (E : Env P w K mg base) (o_first_greater : Okf P w K mg base 6 "first_greater" ["one", "other"] (spFirst K)) : Okf P w K mg base 7 "check_rates" ["one", "other"] (spCheckRates K) :=
  okf_mk E 33 33 rfl rfl sc_check_rates (fun _ _ _ _ _ _ us hl => match us, hl with | [_, _], _ => rfl) (spH_len fun _ => rfl) fun cdv A outer s H vs Q E0 hr h => by
  obtain ⟨⟨⟨p, A⟩, ⟨q, B⟩⟩, h1, hk, h2⟩ := h
  obtain ⟨_, _, rfl, rfl, rfl⟩ := two_of h1
  have nd := sc_check_rates.nd
  refine ⟨_, (pss_cons (ps_set (i := 2) nd rfl (.inl rfl) (pe_okf o_first_greater (hr.mono (by decide)) (pa_cons (pv 0) (pa_cons (pv 1) pa_nil))))
      (pss_one (ps_if (pt_cmpR op_notN (pv 2) pe_non (nomark _)) (pss_one ps_never) pss_nil))), ?_⟩
  refine q_let (v := .non) (ev_fnH ((p, A), (q, B)) (da_cons (ev_v rfl) (da_cons (ev_v rfl) da_nil)) fun H1 s => hk.same s) fun H1 s1 => ?_
  exact s_skip ((et_t (ev_notN (ev_v rfl))).is rfl) fun H2 s2 => h2 _ _ (s1.trans s2) rfl
/-! ### check_size -/
abbrev spCheckSize (K : PySem.W.Frag) : Sp := spH K (fun a : Two => [.lst [.ref a.1.1, .ref a.2.1]]) (TwoOk K) fun _ => Is .non
-- books 0 size 1 book 2 name 3
theorem sc_check_size : FnScope ["books", "size", "book", "name"] ["books"] (defScope (top 79)) := ⟨rfl, rfl, rfl, by decide +kernel, rfl, by decide +kernel, by decide +kernel⟩
theorem ok_check_size (E : Env P w K mg base) (m_Book_size : Okm P w K mg base 4 "Book" "size" ["self"] (spSize K)) (p_Book_names : Okp P w K mg base 1 "Book" "names" (spNames K)) (o_amounts_of : Okf P w K mg base 4 "amounts_of" ["books", "name"] (spAmounts K)) : Okf P w K mg base 5 "check_size" ["books"] (spCheckSize K) :=
  okf_mk E 35 35 rfl rfl sc_check_size (fun _ _ _ _ _ _ us hl => match us, hl with | [_], _ => rfl) (spH_len fun _ => rfl) fun cdv A outer s H vs Q E0 hr h => by
  obtain ⟨⟨⟨p, A⟩, ⟨q, B⟩⟩, h1, hk, h2⟩ := h
  obtain ⟨ha, hb, hp⟩ := id hk
  have ha : BookAt K H p A := ha
  have hb : BookAt K H q B := hb
  have hp : PairOk A B := hp
  obtain ⟨v1, rfl, r⟩ := one_of h1
  have r : Rep K H (.lst ([(p, A), (q, B)].map fun a => .ref a.1)) v1 := r
  have st2 := hp.states
  have pa := size_pos hp.fa.ok
  have pb := size_pos hp.fb.ok
  have nd := sc_check_size.nd
  refine ⟨_, (pss_cons (ps_set (i := 1) nd rfl (.inl rfl) pe_int)
      (pss_cons (ps_for PassesOwn.never rfl (kIList (K := K) rfl (pv 0)) (pg_name (i := 2) nd rfl (.inl rfl)) (pss_one (ps_set (i := 1) nd rfl (.inl rfl) (pe_op op_mul (pv 1) (kMeth0 (K := K) rfl m_Book_size (hr.mono (by decide)) (pv 2))))))
      (pss_cons (ps_if (pt_cmpR op_gt (pv 1) (kGInt (E.int 83)) (nomark _)) (pss_one ps_never) pss_nil)
      (pss_one (ps_for PassesOwn.never rfl (kITup (K := K) rfl (kProp (K := K) rfl p_Book_names (hr.mono (by decide)) (kIxL (K := K) rfl (pv 0) pe_int))) (pg_name (i := 3) nd rfl (.inl rfl)) (pss_one (ps_if (pt_cmpR op_gt (pe_okf o_amounts_of (hr.mono (by decide)) (pa_cons (pv 0) (pa_cons (pv 3) pa_nil))) (kGInt (E.int 84)) (nomark _)) (pss_one ps_never) pss_nil))))))), ?_⟩
  refine q_let ev_c fun H1 s1 => ?_
  have szA : A.size ≤ 200 := Nat.le_trans (Nat.le_mul_of_pos_right _ pb) st2
  have szB : B.size ≤ 200 := Nat.le_trans (Nat.le_mul_of_pos_left _ pa) st2
  refine q_for (it_lst (ds := [(p, A), (q, B)].map fun a => .ref a.1) (ev_d rfl (Rep.same s1 r))) fun H3 G s3 eG hB => ⟨fun i σ' H' => Same H3 H' ∧ ∃ x, σ' = [some v1, some (.int (([(p, A), (q, B)].take i).foldl (fun t b => t * b.2.size) 1 : Nat)), x, none], ⟨Same.refl _, _, rfl⟩, fun i σ' H' k => eG H' k.1, ?_, ?_⟩
  · rintro i d x σ' H' H'' hd ⟨q1, x1, rfl⟩ s4 rd
    obtain ⟨b, e5, rfl⟩ := map_at hd
    have rd : x = .ref b.1 := rd
    subst rd
    have st := ((s1.trans s3).trans q1).trans s4
    have hb' : BookAt K H'' b.1 b.2 ∧ b.2.ok ∧ b.2.size ≤ 200 := by
      have := List.mem_of_getElem? e5
      simp at this
      rcases this with z | z <;> rw [z]
      · exact ⟨ha.same st, hp.fa.ok, szA⟩
      · exact ⟨hb.same st, hp.fb.ok, szB⟩
    obtain ⟨hb1, hb2, hb3⟩ := hb'
    obtain ⟨d2, vs2, vh2, vl2, vw2, bf⟩ := id hb1
    refine s_let (ev_mulR (ev_v rfl) (ev_mfnH (b.1, b.2) (ev_v rfl) bf.ins rfl da_nil rfl fun H1 s => ⟨hb1.same s, hb2⟩) (by show -(2 ^ 64) < (b.2.size : Int); omega) (by show (b.2.size : Int) < 2 ^ 64; omega)) fun H5 s5 => ⟨(q1.trans s4).trans s5, some (.ref b.1), ?_⟩
    rw [fold_at e5, ← Int.natCast_mul]; rfl
  · rintro σ' H' ⟨q1, x1, rfl⟩
    have st := (s1.trans s3).trans q1
    have e0 : ([(p, A), (q, B)].take ([(p, A), (q, B)].map fun a => D.ref a.1).length).foldl (fun t b => t * b.2.size) 1 = A.size * B.size := by show 1 * A.size * B.size = _; rw [Nat.one_mul]
    rw [e0]
    refine q_skip ((et_t (ev_I0 (ev_v rfl) ev_c)).is (decide_eq_false (by omega))) fun H5 s5 => ?_
    have st5 := st.trans s5
    have r5 := Rep.same st5 r
    obtain ⟨dx, vs, vh, vl, vw, fa⟩ := ha.same st5
    refine s_for (it_tup (ds := A.names.map D.str) (ev_pfnH (p, A) (ev_ixL (n := 0) (d := .ref p) (ev_d rfl r5) ev_c rfl) fa.ins rfl fun H1 s => ⟨ha.same (st5.trans s), hp.fa.ok.few⟩) (tups_strs _)) fun H6 G6 s6 eG6 hB6 => ⟨fun i σ' H' => Same H6 H' ∧ ∃ x, σ' = [some v1, some (.int (A.size * B.size : Nat)), x1, x], ⟨Same.refl _, _, rfl⟩, fun i σ' H' k => eG6 H' k.1, ?_, ?_⟩
    · rintro i d x σ'' I' I'' hd ⟨k1, x2, rfl⟩ s7 rd
      obtain ⟨z, e5, rfl⟩ := map_at hd
      have rd : x = .str z := rd
      subst rd
      have hz : z ∈ A.names := List.mem_of_getElem? e5
      have st7 := ((st5.trans s6).trans k1).trans s7
      have am := hp.many z hz
      refine s_skip ((et_t (ev_I0 (ev_fnH ([(p, A), (q, B)], z) (da_cons (ev_d rfl (Rep.same st7 r)) (da_cons (ev_v rfl) da_nil)) fun H8 s8 b hb' => ?_) ev_c)).is (decide_eq_false (by show ¬ ((amounts [A, B] z : Int) > 400); omega))) fun H8 s8 => ⟨(k1.trans s7).trans s8, _, rfl⟩
      simp at hb'
      rcases hb' with w1 | w1 <;> rw [w1]
      · exact ⟨ha.same (st7.trans s8), hp.fa.ok, hz⟩
      · exact ⟨hb.same (st7.trans s8), hp.fb.ok, by show z ∈ B.names; rw [← hp.names]; exact hz⟩
    · rintro σ'' I' ⟨k1, x2, rfl⟩
      exact h2 _ _ ((st5.trans s6).trans k1) rfl
/-! ### check_greatest -/
abbrev spCheckGreatest (K : PySem.W.Frag) : Sp := spH K twoArg (TwoOk K) fun _ => Is .non
-- one 0 other 1
theorem sc_check_greatest : FnScope ["one", "other"] ["one", "other"] (defScope (top 84)) := ⟨rfl, rfl, rfl, by decide +kernel, rfl, by decide +kernel, by decide +kernel⟩
theorem ok_check_greatest (E : Env P w K mg base) (o_check_fit : Okf P w K mg base 3 "check_fit" ["one", "other"] (spCheckFit K)) (o_check_rates : Okf P w K mg base 7 "check_rates" ["one", "other"] (spCheckRates K)) (o_check_size : Okf P w K mg base 5 "check_size" ["books"] (spCheckSize K)) : Okf P w K mg base 8 "check_greatest" ["one", "other"] (spCheckGreatest K) :=
  okf_mk E 38 38 rfl rfl sc_check_greatest (fun _ _ _ _ _ _ us hl => match us, hl with | [_, _], _ => rfl) (spH_len fun _ => rfl) fun cdv A outer s H vs Q E0 hr h => by
  obtain ⟨⟨⟨p, A⟩, ⟨q, B⟩⟩, h1, hk, h2⟩ := h
  obtain ⟨ha, hb, hp⟩ := id hk
  have hp : PairOk A B := hp
  obtain ⟨_, _, rfl, rfl, rfl⟩ := two_of h1
  have nd := sc_check_greatest.nd
  refine ⟨_, (pss_cons (ps_expr (pe_okf o_check_fit (hr.mono (by decide)) (pa_cons (pv 0) (pa_cons (pv 1) pa_nil))))
      (pss_cons (ps_expr (pe_okf o_check_rates (hr.mono (by decide)) (pa_cons (pv 0) (pa_cons (pv 1) pa_nil))))
      (pss_one (ps_expr (pe_okf o_check_size (hr.mono (by decide)) (pa_cons (pe_lst (pa_cons (pv 0) (pa_cons (pv 1) pa_nil))) pa_nil)))))), ?_⟩
  refine q_drop (ev_fnH ((p, A), (q, B)) (da_cons (ev_v rfl) (da_cons (ev_v rfl) da_nil)) fun H1 s => ⟨⟨ha.same s, hb.same s⟩, hp.fa.ok, hp.fb.ok, hp.names⟩) fun _ H1 s1 _ => ?_
  refine q_drop (ev_fnH ((p, A), (q, B)) (da_cons (ev_v rfl) (da_cons (ev_v rfl) da_nil)) fun H2 s => hk.same (s1.trans s)) fun _ H2 s2 _ => ?_
  have s12 := s1.trans s2
  exact s_drop (ev_fnH ((p, A), (q, B)) (da_cons (NewL.dt (ev_lst (da_cons (ev_v rfl) (da_cons (ev_v rfl) da_nil)) (show 2 ≤ 100000 by decide))) da_nil) fun H3 s => hk.same (s12.trans s)) fun _ H3 s3 _ => h2 _ _ (s12.trans s3) rfl
end
end LC
end
section
set_option Elab.async false
set_option linter.all false
set_option maxRecDepth 100000
set_option maxHeartbeats 1000000
/-! Locks; heaps where all but two dicts stay. -/
namespace LC
open PySem PySem.Spec L2
/-- all but dicts with tuple keys stays -/
def KeepX (H H' : Hp) : Prop := ∀ a o, (∀ kvs, o ≠ .dT kvs) → H a = some o → H' a = some o
theorem Same.keepX {H H' : Hp} (e : Same H H') : KeepX H H' := fun a o _ h => e a o h
theorem KeepX.trans {H H1 H2 : Hp} (a : KeepX H H1) (b : KeepX H1 H2) : KeepX H H2 := fun c o n h => b c o n (a c o n h)
theorem keepX_upd {H : Hp} {d : Addr} {kvs : List (List Key × V)} {o : HO} (h : H d = some (.dT kvs)) : KeepX H (upd H d o) := fun a u n ha => by
  have : a ≠ d := fun e => by rw [e, h] at ha; exact n kvs (Option.some.inj ha).symm
  rw [upd_ne this]; exact ha
section
variable {K : PySem.W.Frag} {H H' : Hp}
theorem keepX_sqL {a : Addr} {xs : List V} (e : KeepX H H') (h : SqL K H a xs) : SqL K H' a xs := by
  rcases h with (h | ⟨o, h⟩) | h
  · exact .inl (.inl (e _ _ (fun _ z => nomatch z) h))
  · exact .inl (.inr ⟨o, e _ _ (fun _ z => nomatch z) h⟩)
  · exact .inr h
mutual
theorem Rep.keepX (e : KeepX H H') : ∀ {d : D} {v : V}, Rep K H d v → Rep K H' d v
  | .non, _, h => h
  | .bl _, _, h => h
  | .int _, _, h => h
  | .str _, _, h => h
  | .ref _, _, h => h
  | .lst _, _, ⟨a, xs, h1, h2, h3⟩ => ⟨a, xs, h1, keepX_sqL e h2, RepAll.keepX e h3⟩
  | .tup _, _, ⟨a, xs, h1, h2, h3⟩ => ⟨a, xs, h1, e _ _ (fun _ z => nomatch z) h2, RepAll.keepX e h3⟩
theorem RepAll.keepX (e : KeepX H H') : ∀ {l : List D} {vs : List V}, RepAll K H l vs → RepAll K H' l vs
  | [], _, h => h
  | _ :: _, _, ⟨v, r, h1, h2, h3⟩ => ⟨v, r, h1, Rep.keepX e h2, RepAll.keepX e h3⟩
end
theorem DictR.keepX (e : KeepX H H') : ∀ {es : Es} {kvs}, DictR K H es kvs → DictR K H' es kvs
  | [], _, h => h
  | _ :: _, _, ⟨v, r, h1, h2, h3⟩ => ⟨v, r, h1, Rep.keepX e h2, DictR.keepX e h3⟩
theorem BookAt.keepX {p : Addr} {b : Bk} (e : KeepX H H') : BookAt K H p b → BookAt K H' p b := fun ⟨dx, vs, vh, vl, vw, h⟩ => ⟨dx, vs, vh, vl, vw, e _ _ (fun _ z => nomatch z) h.ins, Rep.keepX e h.sorts, Rep.keepX e h.heaps, Rep.keepX e h.last⟩
theorem StsAt.keepX {p : Addr} {S : Sts} (e : KeepX H H') : StsAt K H p S → StsAt K H' p S := fun ⟨L, dx, vs, vp, h⟩ => ⟨L, dx, vs, vp, e _ _ (fun _ z => nomatch z) h.ins, Rep.keepX e h.sides, Rep.keepX e h.spans, h.eq, h.few, fun s hs => ⟨(h.books s hs).book.keepX e, (h.books s hs).fine, (h.books s hs).sign⟩⟩
end
/-- all but d and e stays -/
def Oth2 (d e : Addr) (H H' : Hp) : Prop := ∀ a o, a ≠ d → a ≠ e → H a = some o → H' a = some o
theorem Oth2.refl {d e : Addr} (H : Hp) : Oth2 d e H H := fun _ _ _ _ h => h
theorem Oth2.same {d e : Addr} {H H1 H2 : Hp} (a : Oth2 d e H H1) (b : Same H1 H2) : Oth2 d e H H2 := fun c o h1 h2 h => b _ _ (a c o h1 h2 h)
theorem Oth2.upd1 {d e : Addr} {H H1 : Hp} {o : HO} (a : Oth2 d e H H1) : Oth2 d e H (upd H1 d o) := fun c u h1 h2 h => by rw [upd_ne h1]; exact a c u h1 h2 h
theorem Oth2.upd2 {d e : Addr} {H H1 : Hp} {o : HO} (a : Oth2 d e H H1) : Oth2 d e H (upd H1 e o) := fun c u h1 h2 h => by rw [upd_ne h2]; exact a c u h1 h2 h
theorem Oth2.mut {d e q : Addr} {H H1 : Hp} {o : HO} (a : Oth2 d e H H1) (hq : H q = none) : Oth2 d e H (upd H1 q o) := fun c u h1 h2 h => by rw [upd_ne (ne_of_none h hq)]; exact a c u h1 h2 h
theorem Oth2.keepX {d e : Addr} {H H1 : Hp} {k1 k2 : List (List Key × V)} (a : Oth2 d e H H1) (hd : H d = some (.dT k1)) (he : H e = some (.dT k2)) : KeepX H H1 := fun c o n h =>
  a c o (fun z => by rw [z, hd] at h; exact n _ (Option.some.inj h).symm) (fun z => by rw [z, he] at h; exact n _ (Option.some.inj h).symm) h
theorem Oth2.back {d e : Addr} {H H1 : Hp} {o1 o2 : HO} (a : Oth2 d e H H1) (hd : H d = some o1) (he : H e = some o2) (hd1 : H1 d = some o1) (he1 : H1 e = some o2) : Same H H1 := fun c o h => by
  by_cases z1 : c = d
  · rw [z1, hd] at h; rw [z1, hd1]; exact h
  · by_cases z2 : c = e
    · rw [z2, he] at h; rw [z2, he1]; exact h
    · exact a c o z1 z2 h
section
variable {K : PySem.W.Frag} {σ : St} {H : Hp} {E : Ends} {t z : TS} {te : TE} {P P' : PV} {d : Addr} {kvs : List (List Key × V)}
theorem s_lock (h : H d = some (.dT kvs)) (k : ∀ od, t ⟨fun σ' H' => H' d = some (.frz od (.dT kvs)) ∧ E.nx σ' (upd H' d (.dT kvs)), fun v H' => H' d = some (.frz od (.dT kvs)) ∧ E.rt v (upd H' d (.dT kvs)), fun σ' H' => H' d = some (.frz od (.dT kvs)) ∧ E.bk σ' (upd H' d (.dT kvs)), fun σ' H' => H' d = some (.frz od (.dT kvs)) ∧ E.ct σ' (upd H' d (.dT kvs))⟩ σ (upd H d (.frz od (.dT kvs)))) : tLock t E σ H := ⟨d, .dT kvs, h, trivial, k⟩
theorem same_upd {H1 : Hp} {o : HO} (s : Same H H1) : Same (upd H d o) (upd H1 d o) := fun a u h => by
  by_cases e : a = d
  · rw [e, upd_same] at h ⊢; exact h
  · rw [upd_ne e] at h ⊢; exact s _ _ h
theorem same_unlock {H1 H2 : Hp} {o u : HO} (h : H1 d = some u) (s : Same (upd H1 d o) H2) : Same H1 (upd H2 d u) := fun a w ha => by
  by_cases e : a = d
  · rw [e, h] at ha; rw [e, upd_same]; exact ha
  · rw [upd_ne e]; exact s _ _ (by rw [upd_ne e]; exact ha)
theorem ev_lock (hd : H d = some (.dT kvs)) (h : ∀ od, Ev te σ (upd H d (.frz od (.dT kvs))) P') (hp : ∀ od v H2, H2 d = some (.frz od (.dT kvs)) → P' v H2 → P v (upd H2 d (.dT kvs))) : Ev (tLockE te) σ H P := fun H1 s Q q =>
  ⟨d, .dT kvs, s _ _ hd, trivial, fun od => h od _ (same_upd s) _ fun v H2 s2 p => ⟨s2 _ _ upd_same, q v _ (same_unlock (s _ _ hd) s2) (hp od v H2 (s2 _ _ upd_same) p)⟩⟩
end
/-! the greatest of a list -/
theorem maxI_fold : ∀ (l : List Int) (a : Int), (l.foldl (fun a b => if b > a then b else a) a = a ∨ l.foldl (fun a b => if b > a then b else a) a ∈ l) ∧ a ≤ l.foldl (fun a b => if b > a then b else a) a ∧ ∀ y, y ∈ l → y ≤ l.foldl (fun a b => if b > a then b else a) a
  | [], a => ⟨.inl rfl, Int.le_refl _, fun y hy => absurd hy (List.not_mem_nil)⟩
  | b :: l, a => by
    rw [List.foldl_cons]
    obtain ⟨h1, h2, h3⟩ := maxI_fold l (if b > a then b else a)
    by_cases c : b > a
    · rw [if_pos c] at h1 h2 h3 ⊢
      refine ⟨?_, by omega, fun y hy => ?_⟩
      · rcases h1 with h | h
        · exact .inr (by rw [h]; exact List.mem_cons_self ..)
        · exact .inr (List.mem_cons_of_mem _ h)
      · rcases List.mem_cons.mp hy with e | e
        · rw [e]; exact h2
        · exact h3 y e
    · rw [if_neg c] at h1 h2 h3 ⊢
      refine ⟨?_, h2, fun y hy => ?_⟩
      · rcases h1 with h | h
        · exact .inl h
        · exact .inr (List.mem_cons_of_mem _ h)
      · rcases List.mem_cons.mp hy with e | e
        · rw [e]; omega
        · exact h3 y e
theorem maxI_ok {l : List Int} (h : l ≠ []) : maxI l ∈ l ∧ ∀ y, y ∈ l → y ≤ maxI l := by
  cases l with
  | nil => exact absurd rfl h
  | cons a l =>
    obtain ⟨h1, h2, h3⟩ := maxI_fold (a :: l) a
    unfold maxI
    refine ⟨?_, h3⟩
    rcases h1 with e | e
    · show (a :: l).foldl _ a ∈ _
      rw [e]; exact List.mem_cons_self ..
    · exact e
end LC
end
section
set_option Elab.async false
set_option linter.all false
set_option maxRecDepth 100000
set_option maxHeartbeats 2000000
/-! one_more, greatest_gap, is_led_on -/
namespace LC
open PySem PySem.Spec L2
abbrev inD (es : As Int) : Es := mapA D.int es
def DictAt (K : PySem.W.Frag) (H : Hp) (d : Addr) (es : Es) : Prop := ∃ kvs, H d = some (.dT kvs) ∧ DictR K H es kvs
theorem DictAt.same {K : PySem.W.Frag} {H H' : Hp} {d : Addr} {es : Es} (e : Same H H') : DictAt K H d es → DictAt K H' d es := fun ⟨k, h1, h2⟩ => ⟨k, e _ _ h1, DictR.same e h2⟩
structure Sts.fit (S : Sts) (sums : As Int) : Prop where
  keys : ∀ e, e ∈ sums → e.1.length ≤ 100
section
variable {P : Program} {w : World} {K : PySem.W.Frag} {mg : Str → Option Value} {base : Heap}
/-! ### greatest_gap -/
abbrev spGG (K : PySem.W.Frag) : Sp := spH K (fun a : StA × Addr × As Int => [.ref a.1.1, .ref a.2.1]) (fun a H => StOk K a.1 H ∧ DictAt K H a.2.1 (inD a.2.2) ∧ a.2.2 ≠ [] ∧ a.2.2.length ≤ 10000) fun a => Is (.int (a.1.2.greatest a.2.2))
-- states 0 sums 1 state 2 weight 3
theorem sc_greatest_gap : FnScope ["states", "sums", "state", "weight"] ["states", "sums"] (defScope (top 82)) := ⟨rfl, rfl, rfl, by decide +kernel, rfl, by decide +kernel, by decide +kernel⟩
theorem ok_greatest_gap (E : Env P w K mg base) (m_States_base : Okm P w K mg base 7 "States" "base" ["self", "state"] (spBase K)) : Okf P w K mg base 8 "greatest_gap" ["states", "sums"] (spGG K) :=
  okf_mk E 37 37 rfl rfl sc_greatest_gap (fun _ _ _ _ _ _ us hl => match us, hl with | [_, _], _ => rfl) (spH_len fun _ => rfl) fun cdv A outer s H vs Q E0 hr h => by
  obtain ⟨⟨⟨p, S⟩, d, es⟩, h1, ⟨⟨hst, hk⟩, ⟨kvs, hd, hr'⟩, he, hl⟩, h2⟩ := h
  have hst : StsAt K H p S := hst
  have hk : S.ok := hk
  have hd : H d = some (.dT kvs) := hd
  have hr' : DictR K H (inD es) kvs := hr'
  have he : es ≠ [] := he
  have hl : es.length ≤ 10000 := hl
  obtain ⟨_, _, rfl, rfl, rfl⟩ := two_of h1
  obtain ⟨L, dx, vs, vp, F⟩ := id hst
  have nd := sc_greatest_gap.nd
  refine ⟨_, (pss_one (ps_ret (pe_op op_fdivN (kB (K := K) (r := fun _ _ _ => True) (r' := rMax) rfl (cr_max rfl) (E.free 73) (by decide +kernel) (pa_cons (pe_lock (pe_lc (own := [("state", 2), ("weight", 3)]) (g := gTup K 2 (gCons (gName 2) (gCons (gName 3) gNil))) (tt := tYes)  rfl nd (pi_itemsT (pv 1)) (blkOk_by (N := ["states", "sums", "state", "weight"]) (sc := defScope (top 82)) (by decide +kernel)) (fun _ _ _ _ _ => (kGTup (K := K) (n := 2) rfl rfl (pgs_cons (pg_name (i := 2) nd rfl (.inl rfl)) (pgs_cons (pg_name (i := 3) nd rfl (.inl rfl)) pgs_nil)))) (fun _ _ _ _ _ => pts_nil) (fun _ _ _ _ _ => (pe_op op_add (pv 3) (kMeth (K := K) rfl m_States_base (hr.mono (by decide)) (pv 0) (pa_cons (pv 2) pa_nil)))))) pa_nil)) (kFld (K := K) rfl (pv 0))))), ?_⟩
  have hb := hk.bot0
  have hb1 := hk.bot1
  have hm := maxI_ok (l := es.map fun e => e.2 + S.base e.1) (by simpa using he)
  refine s_ret (ev_divP (ev_max (K := K) (ns := es.map fun e => e.2 + S.base e.1) (da_cons (NewL.dt (H := H) (ev_lock (P' := NewL K H ((es.map fun e => e.2 + S.base e.1).map D.int)) hd (fun od => ?_) fun od v H2 h2 ⟨q, xs, e1, e2, e3, e4⟩ => ?_)) da_nil) hm.1 hm.2) (ev_fld (ev_v rfl) F.ins (E.cls 106) (E.noat 110) rfl) (by omega) (by omega)) h2
  · have kx : KeepX H (upd H d (.frz od (.dT kvs))) := keepX_upd hd
    rw [List.map_map]
    refine Ev.imp (ev_lc2 (fun e : List Int × Int => .tup (e.1.map D.int)) (fun e => .int e.2) _ (Eq.mp (by unfold inD mapA; rw [List.map_map]; rfl) (it_itemsT (ev_v rfl) upd_same (DictR.keepX kx hr'))) (by omega) (fun _ _ => rfl) (fun _ _ => rfl) fun a x y H1 ha s1 rx ry => ?_) fun v H1 s ⟨q, xs, e1, e2, e3, e4⟩ => ⟨q, xs, e1, ?_, e3, e4⟩
    · have ry : y = .int a.2 := ry
      subst ry
      have hst1 := StsAt.same s1 (StsAt.keepX kx hst)
      obtain ⟨L1, dx1, vs1, vp1, F1⟩ := id hst1
      exact ev_I0 (ev_v rfl) (ev_mfnH ((p, S), a.1) (ev_v rfl) F1.ins rfl (da_cons (ev_d rfl rx) da_nil) rfl fun H2 s => ⟨hst1.same s, hk⟩)
    · by_cases z : q = d
      · rw [z, upd_same] at e2; cases e2
      · rw [upd_ne z] at e2; exact e2
  · have ne : q ≠ d := fun z => by rw [z, h2] at e3; cases e3
    exact ⟨q, xs, e1, e2, by rw [upd_ne ne]; exact e3, RepAll.keepT (keepT_updF h2) (tups_ints _) e4⟩
/-! ### is_led_on -/
abbrev spLedOn (K : PySem.W.Frag) : Sp := spH K (fun a : StA × (Addr × As Int) × (Addr × As Int) × List Int × Int => [.ref a.1.1, .ref a.2.1.1, .ref a.2.2.1.1, intsD a.2.2.2.1, .int a.2.2.2.2])
  (fun a H => StOk K a.1 H ∧ DictAt K H a.2.1.1 (inD a.2.1.2) ∧ DictAt K H a.2.2.1.1 (inD a.2.2.1.2) ∧ a.2.1.1 ≠ a.2.2.1.1 ∧ a.2.1.2.length ≤ 10000 ∧ ∀ e, e ∈ a.2.1.2 → e.1.length ≤ 100) fun a => Is (.bl (a.1.2.led a.2.1.2 a.2.2.1.2 a.2.2.2.1 a.2.2.2.2))
-- states 0 sums 1 later 2 move 3 most 4 state 5 total 6
theorem sc_is_led_on : FnScope ["states", "sums", "later", "move", "most", "state", "total"] ["states", "sums", "later", "move", "most"] (defScope (top 86)) := ⟨rfl, rfl, rfl, by decide +kernel, rfl, by decide +kernel, by decide +kernel⟩
theorem ok_is_led_on (E : Env P w K mg base) (m_States_added : Okm P w K mg base 1 "States" "added" ["self", "state", "move"] (spAdded K)) : Okf P w K mg base 2 "is_led_on" ["states", "sums", "later", "move", "most"] (spLedOn K) :=
  okf_mk E 40 40 rfl rfl sc_is_led_on (fun _ _ _ _ _ _ us hl => match us, hl with | [_, _, _, _, _], _ => rfl) (spH_len fun _ => rfl) fun cdv A outer s H vs Q E0 hr h => by
  obtain ⟨⟨⟨p, S⟩, ⟨d, es⟩, ⟨d2, es2⟩, m, mo⟩, h1, ⟨⟨hst, hk⟩, ⟨kvs, hd, hr'⟩, ⟨kvs2, hd2, hr2⟩, hne, hl, hkl⟩, h2⟩ := h
  have hst : StsAt K H p S := hst
  have hk : S.ok := hk
  have hd : H d = some (.dT kvs) := hd
  have hd2 : H d2 = some (.dT kvs2) := hd2
  have hr' : DictR K H (inD es) kvs := hr'
  have hr2 : DictR K H (inD es2) kvs2 := hr2
  have hne : d ≠ d2 := hne
  have hl : es.length ≤ 10000 := hl
  have hkl : ∀ e, e ∈ es → e.1.length ≤ 100 := hkl
  have h2 : ∀ v H2, Same H H2 → v = .bl (S.led es es2 m mo) → Q v H2 := h2
  obtain ⟨_, _, rfl, rfl, _, _, rfl, rfl, _, _, rfl, rfl, v4, _, rfl, rm, h1⟩ := h1
  obtain ⟨_, rfl, rfl⟩ := one_of h1
  have rm : Rep K H (.tup (m.map D.int)) v4 := rm
  have nd := sc_is_led_on.nd
  refine ⟨_, (pss_cons (ps_if (pt_cmpR op_ne (pe_callB call_len_dT (by rfl) (E.free 61) PySem.boot_len (pa_cons (pv 1) pa_nil)) (pe_callB call_len_dT (by rfl) (E.free 61) PySem.boot_len (pa_cons (pv 2) pa_nil)) (nomark _)) (pss_one (ps_ret pe_bl)) pss_nil)
      (pss_one (ps_ret (kB (K := K) (r := fun _ _ _ => True) (r' := rAll) rfl (cr_all rfl) (E.free 67) (by decide +kernel) (pa_cons (pe_lock (pe_lc (own := [("state", 5), ("total", 6)]) (g := gTup K 2 (gCons (gName 5) (gCons (gName 6) gNil))) (tt := tYes)  rfl nd (pi_itemsT (pv 1)) (blkOk_by (N := ["states", "sums", "later", "move", "most", "state", "total"]) (sc := defScope (top 86)) (by decide +kernel)) (fun _ _ _ _ _ => (kGTup (K := K) (n := 2) rfl rfl (pgs_cons (pg_name (i := 5) nd rfl (.inl rfl)) (pgs_cons (pg_name (i := 6) nd rfl (.inl rfl)) pgs_nil)))) (fun _ _ _ _ _ => pts_nil) (fun _ _ _ _ _ => (pe_cmpR op_eq (pe_dget1 (hu_of hr) (pv 2) (kMeth (K := K) rfl m_States_added (hr.mono (by decide)) (pv 0) (pa_cons (pv 5) (pa_cons (pv 3) pa_nil))) ⟨rfl, rfl, rfl, rfl⟩) (pe_op op_add (pv 6) (pv 4)) (nomark _))))) pa_nil))))), ?_⟩
  have ln1 : kvs.length = es.length := by rw [hr'.length]; exact List.length_map ..
  have ln2 : kvs2.length = es2.length := by rw [hr2.length]; exact List.length_map ..
  have len : ∀ {k : Nat} {dd : Addr} {kv : List (List Key × V)} {σ : St}, σ[k]? = some (some (.ref dd)) → H dd = some (.dT kv) → Ev (tCB rLenT (tCons (tVar k) tNil)) σ H (Is (.int (kv.length : Int))) := fun {k dd kv σ} hσ hh => ev_cb (R := fun vs _ => vs = [.ref dd]) (fun H1 s Q q => ⟨_, hσ, q _ H1 (Same.refl _) rfl⟩) fun vs H1 s e Q q => ⟨dd, kv, e, s _ _ hh, q _ H1 (Same.refl _) rfl⟩
  refine q_if (b := decide (es.length ≠ es2.length)) (et_t ((ev_ne (len rfl hd) (len rfl hd2) rfl).is (by rw [dInt, ln1, ln2]; congr 1; rw [Bool.eq_iff_iff]; simp; omega))) (fun c H1 s1 => ?_) (fun c H1 s1 => ?_)
  · refine s_retv ev_c fun H2 s2 => h2 _ H2 (s1.trans s2) ?_
    unfold Sts.led; rw [decide_eq_false (of_decide_eq_true c)]; rfl
  · have c := Decidable.of_not_not (of_decide_eq_false c)
    refine s_ret ((ev_all (K := K) (bs := es.map fun e => decide (getA es2 (S.added e.1 m) = some (e.2 + mo))) (da_cons (NewL.dt (H := H1) (ev_lock (P' := NewL K H1 ((es.map fun e => decide (getA es2 (S.added e.1 m) = some (e.2 + mo))).map D.bl)) (s1 _ _ hd) (fun od => ?_) fun od v H2 h2 ⟨q, xs, e1, e2, e3, e4⟩ => ?_)) da_nil)).is ?_) fun v H2 s2 q => h2 v H2 (s1.trans s2) q
    · have kx : KeepX H (upd H1 d (.frz od (.dT kvs))) := (Same.keepX s1).trans (keepX_upd (s1 _ _ hd))
      rw [List.map_map]
      refine Ev.imp (ev_lc2 (fun e : List Int × Int => .tup (e.1.map D.int)) (fun e => .int e.2) _ (Eq.mp (by unfold inD mapA; rw [List.map_map]; rfl) (it_itemsT (ev_v rfl) upd_same (DictR.keepX kx hr'))) (by omega) (fun _ _ => rfl) (fun _ _ => rfl) fun a x y H2 ha s2 rx ry => ?_) fun v H2 s ⟨q, xs, e1, e2, e3, e4⟩ => ⟨q, xs, e1, ?_, e3, e4⟩
      · have ry : y = .int a.2 := ry
        subst ry
        have hst1 := StsAt.same s2 (StsAt.keepX kx hst)
        obtain ⟨L1, dx1, vs1, vp1, F1⟩ := id hst1
        have rm1 := Rep.same s2 (Rep.keepX kx rm)
        have d2h : H2 d2 = some (.dT kvs2) := s2 _ _ (by rw [upd_ne (Ne.symm hne)]; exact s1 _ _ hd2)
        have eva : Ev (tMeth (He.ga K "States") "added" (spAdded K) [] E0 (tVar 0) (tCons (tVar 5) (tCons (tVar 3) tNil))) [some (.ref p), some (.ref d), some (.ref d2), some v4, some (.int mo), some x, some (.int a.2)] H2 (Ki (S.added a.1 m)) := ev_mfnH ((p, S), a.1, m) (ev_v rfl) F1.ins rfl (da_cons (ev_d rfl rx) (da_cons (ev_d rfl rm1) da_nil)) rfl fun H2 s => ⟨⟨hst1.same s, hk⟩, hkl a ha⟩
        cases hg : getA es2 (S.added a.1 m) with
        | none => exact ev_eqB (x := .non) (ev_dgetI (o := none) (ev_v rfl) eva (.inl d2h) (DictR.same s2 (DictR.keepX kx hr2)) (by rw [getA_map, hg])) (ev_I0 (ev_v rfl) (ev_v rfl)) rfl (by show decide (V.non = V.int _) = decide (getA es2 (S.added a.1 m) = some (a.2 + mo)); rw [hg]; rfl)
        | some i => exact ev_eqB (x := .int i) (ev_dgetI (o := some i) (ev_v rfl) eva (.inl d2h) (DictR.same s2 (DictR.keepX kx hr2)) (by rw [getA_map, hg])) (ev_I0 (ev_v rfl) (ev_v rfl)) rfl (by show decide (V.int i = V.int _) = decide (getA es2 (S.added a.1 m) = some (a.2 + mo)); rw [hg, dInt, decide_eq_decide]; exact ⟨fun h => by rw [h], fun h => Option.some.inj h⟩)
      · by_cases z : q = d
        · rw [z, upd_same] at e2; cases e2
        · rw [upd_ne z] at e2; exact e2
    · have ne : q ≠ d := fun z => by rw [z, h2] at e3; cases e3
      have tb : ∀ l : List Bool, D.tupsOnlys (l.map D.bl) = true := fun l => by
        induction l with
        | nil => rfl
        | cons a l ih => show (true && D.tupsOnlys (l.map D.bl)) = true; rw [ih]; rfl
      exact ⟨q, xs, e1, e2, by rw [upd_ne ne]; exact e3, RepAll.keepT (keepT_updF h2) (tb _) e4⟩
    · unfold Sts.led
      rw [decide_eq_true c, List.all_map]; rfl
end
end LC
end
section
set_option Elab.async false
set_option linter.all false
set_option maxRecDepth 100000
set_option maxHeartbeats 2000000
/-! one_more -/
namespace LC
open PySem PySem.Spec L2
theorem updA_len (es : As Int) (k : List Int) (t : Int) : (updA es k t).length ≤ es.length + 1 := by
  unfold updA
  split
  · split
    · exact putA_length _ _ _
    · exact Nat.le_succ _
  · exact putA_length _ _ _
def omI (S : Sts) (best : As Tl) (s : List Int × Int) (f : As Int) : As Int := best.foldl (fun f m => updA f (S.added s.1 m.1) (s.2 + m.2.1)) f
theorem omI_len (S : Sts) (s : List Int × Int) : ∀ (best : As Tl) (f : As Int), (omI S best s f).length ≤ f.length + best.length
  | [], f => Nat.le_refl _
  | m :: best, f => by
    have h := omI_len S s best (updA f (S.added s.1 m.1) (s.2 + m.2.1))
    have h2 := updA_len f (S.added s.1 m.1) (s.2 + m.2.1)
    show (omI S best s (updA f (S.added s.1 m.1) (s.2 + m.2.1))).length ≤ _
    rw [List.length_cons]
    omega
def omO (S : Sts) (best : As Tl) (sums : As Int) (f : As Int) : As Int := sums.foldl (fun f s => omI S best s f) f
theorem omO_len (S : Sts) (best : As Tl) : ∀ (sums : As Int) (f : As Int), (omO S best sums f).length ≤ f.length + sums.length * best.length
  | [], f => by show f.length ≤ f.length + 0 * best.length; omega
  | s :: sums, f => by
    have h := omO_len S best sums (omI S best s f)
    have h2 := omI_len S s best f
    show (omO S best sums (omI S best s f)).length ≤ _
    rw [List.length_cons, Nat.succ_mul]
    omega
section
variable {P : Program} {w : World} {K : PySem.W.Frag} {mg : Str → Option Value} {base : Heap}
abbrev OmA := StA × (Addr × As Int) × (Addr × As Tl)
structure OmOk (K : PySem.W.Frag) (a : OmA) (H : Hp) : Prop where
  st : StOk K a.1 H
  sums : DictAt K H a.2.1.1 (inD a.2.1.2)
  best : DictAt K H a.2.2.1 (mapA tlD a.2.2.2)
  ne : a.2.1.1 ≠ a.2.2.1
  few : a.2.1.2.length ≤ 10000
  bfew : a.2.2.2.length ≤ 10000
  all : a.2.1.2.length * a.2.2.2.length ≤ 90000
  keys : ∀ e, e ∈ a.2.1.2 → e.1.length ≤ 100
abbrev spOneMore (K : PySem.W.Frag) : Sp := fun vs H Q _ => ∃ a : OmA, RepAll K H [.ref a.1.1, .ref a.2.1.1, .ref a.2.2.1] vs ∧ OmOk K a H ∧ ∀ v H2, Same H H2 → NewD K H (inD (a.1.2.more a.2.2.2 a.2.1.2)) v H2 → Q v H2
theorem spOneMore_len {K : PySem.W.Frag} : ∀ vs H Q E, spOneMore K vs H Q E → vs.length = 3 := by
  rintro _ _ _ _ ⟨_, h, _⟩; exact h.length
theorem itemT {K : PySem.W.Frag} {H : Hp} {β : Type} {f : β → D} {es : As β} {i : Nat} {d : D} (h : ((mapA f es).map itemD)[i]? = some d) : ∃ e, es[i]? = some e ∧ d = .tup [.tup (e.1.map D.int), f e.2] := by
  unfold mapA at h
  rw [List.map_map] at h
  obtain ⟨e, h1, h2⟩ := map_at (f := itemD ∘ fun e : List Int × β => (e.1, f e.2)) h
  exact ⟨e, h1, h2⟩
-- states 0 sums 1 best 2 found 3 state 4 weight 5 move 6 told 7 there 8 total 9
theorem sc_one_more : FnScope ["states", "sums", "best", "found", "state", "weight", "move", "told", "there", "total"] ["states", "sums", "best"] (defScope (top 81)) := ⟨rfl, rfl, rfl, by decide +kernel, rfl, by decide +kernel, by decide +kernel⟩
theorem ok_one_more (E : Env P w K mg base) (m_States_added : Okm P w K mg base 1 "States" "added" ["self", "state", "move"] (spAdded K)) : Okf P w K mg base 2 "one_more" ["states", "sums", "best"] (spOneMore K) :=
  okf_mk E 36 36 rfl rfl sc_one_more (fun _ _ _ _ _ _ us hl => match us, hl with | [_, _, _], _ => rfl) spOneMore_len fun cdv A outer s H vs Q E0 hr h => by
  obtain ⟨⟨⟨p, S⟩, ⟨ds, sums⟩, ⟨db, best⟩⟩, h1, hok, h2⟩ := h
  obtain ⟨⟨hst, hk⟩, ⟨kv1, hs, hsr⟩, ⟨kv2, hb, hbr⟩, hne, hfew, hbfew, hall, hkeys⟩ := hok
  have hst : StsAt K H p S := hst
  have hk : S.ok := hk
  have hs : H ds = some (.dT kv1) := hs
  have hsr : DictR K H (inD sums) kv1 := hsr
  have hb : H db = some (.dT kv2) := hb
  have hbr : DictR K H (mapA tlD best) kv2 := hbr
  have hne : ds ≠ db := hne
  have hall : sums.length * best.length ≤ 90000 := hall
  have hbfew : best.length ≤ 10000 := hbfew
  have hkeys : ∀ e, e ∈ sums → e.1.length ≤ 100 := hkeys
  have h2 : ∀ v H2, Same H H2 → NewD K H (inD (omO S best sums [])) v H2 → Q v H2 := h2
  obtain ⟨_, _, rfl, rfl, _, _, rfl, rfl, h1⟩ := h1
  obtain ⟨_, rfl, rfl⟩ := one_of h1
  have nd := sc_one_more.nd
  refine ⟨_, (pss_cons (ps_set (i := 3) nd rfl (.inl rfl) pe_dnewT)
      (pss_cons (ps_lock (ps_for PassesOwn.never rfl (pi_itemsT (pv 1)) (kGTup (K := K) (n := 2) rfl rfl (pgs_cons (pg_name (i := 4) nd rfl (.inl rfl)) (pgs_cons (pg_name (i := 5) nd rfl (.inl rfl)) pgs_nil))) (pss_one (ps_lock (ps_for PassesOwn.never rfl (pi_itemsT (pv 2)) (kGTup (K := K) (n := 2) rfl rfl (pgs_cons (pg_name (i := 6) nd rfl (.inl rfl)) (pgs_cons (pg_name (i := 7) nd rfl (.inl rfl)) pgs_nil))) (pss_cons (ps_par (i := 8) (j := 9) (by rfl) nd rfl rfl (by decide) rfl rfl (pa_cons (kMeth (K := K) rfl m_States_added (hr.mono (by decide)) (pv 0) (pa_cons (pv 4) (pa_cons (pv 6) pa_nil))) (pa_cons (pe_op op_add (pv 5) (kIxT (K := K) rfl (pv 7) pe_int)) pa_nil)) (by rfl))
      (pss_one (ps_if (PW.pt (pw_or (pt_cmp (pc_dnotin (hu_of hr) (pv 8) (pv 3))) (pw_or1 (pt_cmpR op_lt (pe_dget (hu_of hr) (pv 3) (pv 8) (fun _ _ => rfl)) (pv 9) (nomark _))))) (pss_one (ps_dput (hu_of hr) (pv 3) (pv 8) (pv 9) rfl)) pss_nil))))))))
      (pss_one (ps_ret (pv 3))))), ?_⟩
  refine q_asg (P := NewD K H []) (fun H1 s Q q => fun a ha => q _ _ (same_new ha) ⟨a, [], rfl, fresh_back s ha, upd_same, rfl⟩) fun y H1 s1 ⟨df, kvf, e1, gf, hf, hfr⟩ => ?_
  subst e1
  have nfs : df ≠ ds := fun e => by rw [e, hs] at gf; cases gf
  have nfb : df ≠ db := fun e => by rw [e, hb] at gf; cases gf
  show tLock _ _ _ _
  refine s_lock (s1 _ _ hs) fun od => ?_
  have kx1 : KeepX H (upd H1 ds (.frz od (.dT kv1))) := (Same.keepX s1).trans (keepX_upd (s1 _ _ hs))
  refine s_for (it_itemsT (ev_v rfl) upd_same (DictR.keepX kx1 hsr)) fun H3 G s3 eG ⟨ob, kvb, b1, b2, hB⟩ => ?_
  have b1' : H3 ds = some (.frz od (.dT kv1)) := s3 _ _ upd_same
  rw [b1'] at b1
  have eob : ob = od ∧ kvb = kv1 := by cases b1; exact ⟨rfl, rfl⟩
  obtain ⟨rfl, rfl⟩ := eob
  refine ⟨fun i σ' H' => Oth2 ds db H H' ∧ H' ds = some (.frz ob (.dT kvb)) ∧ H' db = some (.dT kv2) ∧ (∃ kv, H' df = some (.dT kv) ∧ DictR K H' (inD (omO S best (sums.take i) [])) kv) ∧ ∃ x1 x2 x3 x4 x5 x6, σ' = [some (.ref p), some (.ref ds), some (.ref db), some (.ref df), x1, x2, x3, x4, x5, x6], ⟨(((Oth2.refl H).same s1).upd1).same s3, b1', s3 _ _ (by rw [upd_ne (Ne.symm hne)]; exact s1 _ _ hb), ⟨kvf, s3 _ _ (by rw [upd_ne nfs]; exact hf), DictR.same s3 (DictR.keepX (keepX_upd (s1 _ _ hs)) hfr)⟩, _, _, _, _, _, _, rfl⟩, fun i σ' H' k => hB H' k.2.1 (DictR.keepX (k.1.keepX hs hb) hsr), ?_, ?_⟩
  · rintro i d x σ' H' H'' hd ⟨q1, q2, q3, ⟨kv, q4, q5⟩, x1, x2, x3, x4, x5, x6, rfl⟩ s4 rd
    obtain ⟨e, e5, rfl⟩ := itemT (K := K) (H := H) hd
    have ek := hkeys e (List.mem_of_getElem? e5)
    refine g_tup2 rd fun a c ra rc => ?_
    have rc : c = .int e.2 := rc
    subst rc
    refine s_lock (s4 _ _ q3) fun od2 => ?_
    have o5 : Oth2 ds db H (upd H'' db (.frz od2 (.dT kv2))) := (q1.same s4).upd2
    have kx2 := o5.keepX hs hb
    have kxl : KeepX H'' (upd H'' db (.frz od2 (.dT kv2))) := keepX_upd (s4 _ _ q3)
    refine s_for (it_itemsT (ev_v rfl) upd_same (DictR.keepX kx2 hbr)) fun H6 G6 s6 eG6 ⟨ob2, kvb2, c1, c2, hB6⟩ => ?_
    have c1' : H6 db = some (.frz od2 (.dT kv2)) := s6 _ _ upd_same
    rw [c1'] at c1
    have eob2 : ob2 = od2 ∧ kvb2 = kv2 := by cases c1; exact ⟨rfl, rfl⟩
    obtain ⟨rfl, rfl⟩ := eob2
    refine ⟨fun j σ' I => (Oth2 ds db H I ∧ KeepT H6 I) ∧ I ds = some (.frz ob (.dT kvb)) ∧ I db = some (.frz ob2 (.dT kvb2)) ∧ (∃ kv, I df = some (.dT kv) ∧ DictR K I (inD (omI S (best.take j) e (omO S best (sums.take i) []))) kv) ∧ ∃ x3 x4 x5 x6, σ' = [some (.ref p), some (.ref ds), some (.ref db), some (.ref df), some a, some (.int e.2), x3, x4, x5, x6], ⟨⟨o5.same s6, KeepT.refl _⟩, s6 _ _ (by rw [upd_ne hne]; exact s4 _ _ q2), c1', ⟨kv, s6 _ _ (by rw [upd_ne nfb]; exact s4 _ _ q4), DictR.same s6 (DictR.keepX kxl (DictR.same s4 q5))⟩, _, _, _, _, rfl⟩, fun j σ' I k => hB6 I k.2.2.1 (DictR.keepX (k.1.1.keepX hs hb) hbr), ?_, ?_⟩
    · rintro j d' x' σ'' I I2 hd' ⟨⟨m1, mk⟩, m2, m3, ⟨kvj, m4, m5⟩, y3, y4, y5, y6, rfl⟩ s7 rd'
      obtain ⟨e', e8, rfl⟩ := itemT (K := K) (H := H) hd'
      refine g_tup2 rd' fun a2 c2' ra2 rc2 => ?_
      have rt2 : Rep K I2 (.tup [.int e'.2.1, .int (e'.2.2.1 : Int), .int (e'.2.2.2 : Int)]) c2' := rc2
      have ra6 : Rep K H6 (.tup (e.1.map D.int)) a := Rep.same s6 (Rep.keepX kxl ra)
      have tint : (D.tup (e.1.map D.int)).tupsOnly = true := tups_ints _
      have kx7 : KeepX H I2 := (m1.keepX hs hb).trans (Same.keepX s7)
      obtain ⟨L1, dx1, vs1, vp1, F1⟩ := StsAt.keepX kx7 hst
      refine q_par (P1 := Ki (S.added e.1 e'.1)) (P2 := Is (.int (e.2 + e'.2.1))) (ev_mfnH ((p, S), e.1, e'.1) (ev_v rfl) F1.ins rfl (da_cons (ev_d rfl (Rep.same s7 (Rep.keepT mk tint ra6))) (da_cons (ev_d rfl ra2) da_nil)) rfl fun H2 s => ⟨⟨(StsAt.keepX kx7 hst).same s, hk⟩, ek⟩) (ev_I0 (ev_v rfl) (ev_ixT (n := 0) (d := .int e'.2.1) (ev_d rfl rt2) ev_c rfl)) mono_ki fun v w I3 s8 kv8 ew => ?_
      subst ew
      have s78 := s7.trans s8
      have m5' := DictR.same s78 m5
      have m4' := s78 _ _ m4
      have il : (omI S (best.take j) e (omO S best (sums.take i) [])).length ≤ 95000 := by
        have h1 := omI_len S e (best.take j) (omO S best (sums.take i) [])
        have h2 := omO_len S best (sums.take i) []
        have h3 : (best.take j).length ≤ best.length := by rw [List.length_take]; exact Nat.min_le_right _ _
        have h4 : (sums.take i).length + 1 ≤ sums.length := by
          have := (List.getElem?_eq_some_iff.mp e5).1
          rw [List.length_take]; omega
        have h5 := Nat.mul_le_mul_right best.length h4
        rw [Nat.succ_mul] at h5
        have h6 : ([] : As Int).length = 0 := rfl
        omega
      have e9 : omI S (best.take (j + 1)) e (omO S best (sums.take i) []) = updA (omI S (best.take j) e (omO S best (sums.take i) [])) (S.added e.1 e'.1) (e.2 + e'.2.1) := fold_at e8
      have ml : (inD (omI S (best.take j) e (omO S best (sums.take i) []))).length = (omI S (best.take j) e (omO S best (sums.take i) [])).length := List.length_map ..
      generalize omI S (best.take j) e (omO S best (sums.take i) []) = fs at e9 m5 m5' il ml
      have kl := m5'.length
      have evk : ∀ J, Same I3 J → Ev (tVar 8) [some (.ref p), some (.ref ds), some (.ref db), some (.ref df), some a, some (.int e.2), some a2, some c2', some v, some (.int (e.2 + e'.2.1))] J (Ki (S.added e.1 e'.1)) := fun J sJ => (ev_v rfl).imp fun u H1 s eu => by rw [show u = v from eu]; exact mono_ki _ _ _ (sJ.trans s) kv8
      have fin : ∀ J, Same I3 J → updA fs (S.added e.1 e'.1) (e.2 + e'.2.1) = putA fs (S.added e.1 e'.1) (e.2 + e'.2.1) → ((Oth2 ds db H (upd J df (.dT (putK kvj (keyD (S.added e.1 e'.1)) (.int (e.2 + e'.2.1))))) ∧ KeepT H6 (upd J df (.dT (putK kvj (keyD (S.added e.1 e'.1)) (.int (e.2 + e'.2.1)))))) ∧ (upd J df (.dT (putK kvj (keyD (S.added e.1 e'.1)) (.int (e.2 + e'.2.1))))) ds = some (.frz ob (.dT kvb)) ∧ (upd J df (.dT (putK kvj (keyD (S.added e.1 e'.1)) (.int (e.2 + e'.2.1))))) db = some (.frz ob2 (.dT kvb2)) ∧ ∃ kv, (upd J df (.dT (putK kvj (keyD (S.added e.1 e'.1)) (.int (e.2 + e'.2.1))))) df = some (.dT kv) ∧ DictR K (upd J df (.dT (putK kvj (keyD (S.added e.1 e'.1)) (.int (e.2 + e'.2.1))))) (inD (updA fs (S.added e.1 e'.1) (e.2 + e'.2.1))) kv) := fun J sJ eb => by
        have sIJ := s78.trans sJ
        have kt : KeepX J (upd J df (.dT (putK kvj (keyD (S.added e.1 e'.1)) (.int (e.2 + e'.2.1))))) := keepX_upd (sIJ _ _ m4)
        refine ⟨⟨(m1.same sIJ).mut gf, (mk.trans (Same.keepT sIJ)).trans (keepT_updT (sIJ _ _ m4))⟩, by rw [upd_ne (Ne.symm nfs)]; exact sIJ _ _ m2, by rw [upd_ne (Ne.symm nfb)]; exact sIJ _ _ m3, _, upd_same, ?_⟩
        rw [eb]
        unfold inD
        rw [← putA_map]
        exact DictR.put (DictR.keepX kt (DictR.same sJ m5')) rfl
      cases eg : getA fs (S.added e.1 e'.1) with
      | none =>
        have eb : updA fs (S.added e.1 e'.1) (e.2 + e'.2.1) = putA fs (S.added e.1 e'.1) (e.2 + e'.2.1) := by unfold updA; rw [eg]
        refine s_if (b := true) (et_or (b := true) (c := true) ((et_B (ev_dnotin (evk I3 (Same.refl _)) (ev_v rfl) (.inl m4') m5')).is (by rw [getA_map, eg]; rfl)) (fun z => nomatch z)) (fun _ J sJ => ?_) (fun z => nomatch z)
        refine s_dput (P := Is (.int (e.2 + e'.2.1))) (ev_v rfl) (evk J sJ) (ev_v rfl) mono_is (sJ _ _ m4') (by omega) fun v2 J2 sJ2 rv => ?_
        have rv : v2 = .int (e.2 + e'.2.1) := rv
        subst rv
        obtain ⟨r0, r1, r2, r3⟩ := fin J2 (sJ.trans sJ2) eb
        exact ⟨r0, r1, r2, by rw [e9]; exact r3, _, _, _, _, rfl⟩
      | some t =>
        have eb : updA fs (S.added e.1 e'.1) (e.2 + e'.2.1) = if t < e.2 + e'.2.1 then putA fs (S.added e.1 e'.1) (e.2 + e'.2.1) else fs := by unfold updA; rw [eg]
        refine s_if (b := decide (t < e.2 + e'.2.1)) (et_or (b := false) ((et_B (ev_dnotin (evk I3 (Same.refl _)) (ev_v rfl) (.inl m4') m5')).is (by rw [getA_map, eg]; rfl)) fun _ => et_t (ev_I0 (ev_dget (dv := .int t) (ev_v rfl) (evk I3 (Same.refl _)) (.inl m4') m5' (by rw [getA_map, eg]; rfl)) (ev_v rfl))) (fun c J sJ => ?_) (fun c J sJ => ?_)
        · rw [if_pos (of_decide_eq_true c)] at eb
          refine s_dput (P := Is (.int (e.2 + e'.2.1))) (ev_v rfl) (evk J sJ) (ev_v rfl) mono_is (sJ _ _ m4') (by omega) fun v2 J2 sJ2 rv => ?_
          have rv : v2 = .int (e.2 + e'.2.1) := rv
          subst rv
          obtain ⟨r0, r1, r2, r3⟩ := fin J2 (sJ.trans sJ2) eb
          exact ⟨r0, r1, r2, by rw [e9]; exact r3, _, _, _, _, rfl⟩
        · rw [if_neg (of_decide_eq_false c)] at eb
          have sIJ := s78.trans sJ
          exact ⟨⟨m1.same sIJ, mk.trans (Same.keepT sIJ)⟩, sIJ _ _ m2, sIJ _ _ m3, ⟨kvj, sIJ _ _ m4, by rw [e9, eb]; exact DictR.same sJ m5'⟩, _, _, _, _, rfl⟩
    · rintro σ'' I ⟨⟨m1, mk⟩, m2, m3, ⟨kvj, m4, m5⟩, y3, y4, y5, y6, rfl⟩
      have ml : ((mapA tlD best).map itemD).length = best.length := by rw [List.length_map]; exact List.length_map ..
      rw [ml, List.take_length] at m5
      have e10 : omO S best (sums.take (i + 1)) [] = omI S best e (omO S best (sums.take i) []) := fold_at e5
      refine ⟨m3, m1.upd2, by rw [upd_ne hne]; exact m2, upd_same, ⟨kvj, by rw [upd_ne nfb]; exact m4, ?_⟩, _, _, _, _, _, _, rfl⟩
      rw [e10]
      refine DictR.keepT (keepT_updF m3) (tups_mapA (fun _ => rfl) _) m5
  · rintro σ' H' ⟨q1, q2, q3, ⟨kv, q4, q5⟩, x1, x2, x3, x4, x5, x6, rfl⟩
    have ml : ((inD sums).map itemD).length = sums.length := by rw [List.length_map]; exact List.length_map ..
    rw [ml, List.take_length] at q5
    refine ⟨q2, s_retv (ev_v rfl) fun H5 s5 => h2 _ H5 ?_ ⟨df, kv, rfl, gf, s5 _ _ (by rw [upd_ne nfs]; exact q4), DictR.same s5 (DictR.keepT (keepT_updF q2) (tups_mapA (fun _ => rfl) _) q5)⟩⟩
    exact (q1.upd1.back hs hb upd_same (by rw [upd_ne (Ne.symm hne)]; exact q3)).trans s5
end
end LC
end
section
set_option Elab.async false
set_option linter.all false
set_option maxRecDepth 100000
set_option maxHeartbeats 1000000
/-! States made, dict display, dict comprehension. -/
namespace LC
open PySem PySem.Spec L2
section
variable {K : PySem.W.Frag} {σ : St} {H : Hp} {ta : TA} {tk tv : TE} {L : List Sd} {k : List Int} {i : Int} {wi : TI} {B : Hp → (Hp → Prop) → Prop} {vs : List Nat}
abbrev StP (K : PySem.W.Frag) (S : Sts) : PV := fun v H => ∃ p, v = .ref p ∧ StsAt K H p S
theorem ev_sts (ha : EA ta σ H (Da K [.lst (L.map sideD)])) (hl : L.length ≤ 2) (hs : ∀ s, s ∈ L → SdOk K H s) : Ev (tMake (He.ga K "States") (spStsNew K) [] E0 ta) σ H (StP K (mkStsL (L.map (·.2)))) :=
  ev_make ha fun vs H1 s p x dx h1 h2 h3 Q q => by
    obtain ⟨v1, rfl, r1⟩ := one_of p
    exact ⟨x, dx, L, v1, rfl, upd_same, hl, Rep.same (made_new h1 h2) r1, fun sd hsd => (hs sd hsd).same (s.trans (made_new h1 h2)), fun H2 g1 g2 => q H2 (made_same h1 h2 g1) ⟨x, rfl, g2⟩⟩
theorem ev_disp1 (hk : ∀ H1, Same H H1 → Ev tk σ H1 (Ki k)) (hv : ∀ H1, Same H H1 → Ev tv σ H1 (Is (.int i))) : Ev (tDisp1T tk tv) σ H (NewD K H [(k, .int i)]) := fun H1 s Q q p hp =>
  hk _ (s.trans (same_new hp)) _ (Same.refl _) _ fun x H2 s2 kx => hv H2 ((s.trans (same_new hp)).trans s2) _ (Same.refl _) _ fun y H3 s3 ey => by
    obtain ⟨b, e1, e2⟩ := mono_ki _ _ _ s3 kx
    refine ⟨b, keyD k, e1, by rw [keyD_V]; exact e2, s3 _ _ (s2 _ _ upd_same), q _ _ ?_ ⟨p, _, rfl, fresh_back s hp, upd_same, y, [], rfl, ey, rfl⟩⟩
    exact same_mut (((same_new hp).trans s2).trans s3) hp
/-- {k: v for a, b in d.items()} -/
theorem ev_dcT2 {a c : Nat} (es : As Int) (fk : List Int × Int → List Int) (fv : List Int × Int → Int) (h : IT K wi σ H ((inD es).map itemD) B) (hl : es.length ≤ 50000) (hw : ∀ x y, wipe (((wipe σ vs).set a (some x)).set c (some y)) vs = wipe σ vs)
    (hb : ∀ e x H1, e ∈ es → Same H H1 → Rep K H1 (.tup (e.1.map D.int)) x → Ev tk (((wipe σ vs).set a (some x)).set c (some (.int e.2))) H1 (Ki (fk e)) ∧ Ev tv (((wipe σ vs).set a (some x)).set c (some (.int e.2))) H1 (Is (.int (fv e)))) :
    Ev (tDcT wi (gTup K 2 (gCons (gName a) (gCons (gName c) gNil))) tYes tk tv vs) σ H (NewD K H (inD (es.foldl (fun f e => putA f (fk e) (fv e)) []))) := fun H0 e0 Q q =>
  h H0 e0 _ fun J H2 G e1 e2 hB w Dl hD => by
    have fr : H Dl = none := fresh_back (e0.trans e1) hD
    have wl : ((inD es).map itemD).length = es.length := by rw [List.length_map]; exact List.length_map ..
    rw [wl] at w
    have fl : ∀ (l : As Int) (f : As Int), (l.foldl (fun f e => putA f (fk e) (fv e)) f).length ≤ f.length + l.length := fun l => by
      induction l with
      | nil => intro f; exact Nat.le_refl _
      | cons e l ih =>
        intro f
        have h1 := ih (putA f (fk e) (fv e))
        have h2 := putA_length f (fk e) (fv e)
        rw [List.foldl_cons, List.length_cons]; omega
    let Pv : Nat → Hp → Prop := fun i H' => Same H2 H' ∧ ∃ kvs, H' Dl = some (.dT kvs) ∧ DictR K H' (inD ((es.take i).foldl (fun f e => putA f (fk e) (fv e)) [])) kvs
    refine ⟨fun i m H' => m = es.length - i ∧ i ≤ es.length ∧ Pv i H', ⟨es.length, by simp, Nat.zero_le _, same_new hD, [], upd_same, rfl⟩, ?_⟩
    rintro i m H' ⟨rfl, hi, s2, kvs, hx, hr⟩
    by_cases hlt : i < es.length
    · refine .inr ⟨w.goes i H' hlt (e2 H' s2), Pv (i + 1), fun H'' p' => ⟨es.length - (i + 1), by omega, rfl, hlt, p'⟩, fun x H'' y => ?_⟩
      obtain ⟨y1, d, y2, y3⟩ := w.yields i H' x H'' hlt (e2 H' s2) y
      obtain ⟨e, e5, rfl⟩ := itemT (K := K) (H := H) y2
      refine g_tup2 y3 fun u t ru rt => ?_
      have rt : t = .int e.2 := rt
      subst rt
      obtain ⟨b1, b2⟩ := hb e u H'' (List.mem_of_getElem? e5) (((e0.trans e1).trans s2).trans y1) ru
      refine ⟨hw _ _, et_yes (H := H'') H'' (Same.refl _) _ fun H4 s4 => ?_⟩
      refine b1 H4 s4 _ fun yk H5 s5 kk => b2 H5 (s4.trans s5) _ fun yv H6 s6 ev => ?_
      obtain ⟨b, g1, g2⟩ := mono_ki _ _ _ s6 kk
      have sA : Same H' H6 := ((y1.trans s4).trans s5).trans s6
      have kl := hr.length
      have ml : (inD ((es.take i).foldl (fun f e => putA f (fk e) (fv e)) [])).length = ((es.take i).foldl (fun f e => putA f (fk e) (fv e)) []).length := List.length_map ..
      have f1 := fl (es.take i) []
      have tl : (es.take i).length ≤ es.length := by rw [List.length_take]; exact Nat.min_le_right _ _
      have z0 : ([] : As Int).length = 0 := rfl
      refine ⟨kvs, keyD (fk e), b, g1, by rw [keyD_V]; exact g2, sA _ _ hx, szl (by omega), same_mut (s2.trans sA) hD, _, upd_same, ?_⟩
      have kt : KeepT H6 (upd H6 Dl (.dT (putK kvs (keyD (fk e)) yv))) := keepT_updT (sA _ _ hx)
      have e9 : (es.take (i + 1)).foldl (fun f e => putA f (fk e) (fv e)) [] = putA ((es.take i).foldl (fun f e => putA f (fk e) (fv e)) []) (fk e) (fv e) := fold_at e5
      rw [e9]
      unfold inD
      rw [← putA_map]
      exact DictR.put (DictR.keepT kt (tups_mapA (fun _ => rfl) _) (DictR.same sA hr)) ev
    · have e : i = es.length := by omega
      subst e
      rw [List.take_length] at hr
      exact .inl ⟨w.stops H' (e2 H' s2), q _ _ (e1.trans s2) ⟨Dl, kvs, rfl, fr, hx, hr⟩⟩
theorem DictAt.updL {q d : Addr} {xs : List V} {o : HO} {es : As Int} (hq : H q = some (.lst xs)) (h : DictAt K H d (inD es)) : DictAt K (upd H q o) d (inD es) := by
  obtain ⟨kvs, h1, h2⟩ := h
  have : d ≠ q := fun e => by rw [e, hq] at h1; cases h1
  exact ⟨kvs, by rw [upd_ne this]; exact h1, DictR.keepT (keepT_updL hq) (tups_mapA (fun _ => rfl) _) h2⟩
theorem NewD.at {es : Es} {v : V} {H2 : Hp} (h : NewD K H es v H2) : ∃ d, v = .ref d ∧ H d = none ∧ DictAt K H2 d es := let ⟨p, kvs, e, h1, h2, h3⟩ := h; ⟨p, e, h1, kvs, h2, h3⟩
theorem mono_newD {es : Es} : Mono (NewD K H es) := fun _ _ _ e ⟨p, kvs, h1, h2, h3, h4⟩ => ⟨p, kvs, h1, h2, e _ _ h3, DictR.same e h4⟩
end
end LC
end
section
set_option Elab.async false
set_option linter.all false
set_option maxRecDepth 100000
set_option maxHeartbeats 2000000
/-! row_of -/
namespace LC
open PySem PySem.Spec L2
structure Sts.good (S : Sts) (N : Nat) : Prop where
  ok : S.ok
  led : S.ledAt N = true
  not : ∀ j, j < N → S.ledAt j = false
  few : N ≤ 900
  best : S.best ≠ []
  mvpos : ∀ x, x ∈ S.mv → 0 ≤ x
  sums : ∀ n, S.sums n ≠ [] ∧ (S.sums n).length ≤ 1000 ∧ (S.sums n).length * S.best.length ≤ 90000 ∧ ∀ e, e ∈ S.sums n → e.1.length ≤ 100
  ord : 0 < S.order S.mv ∧ S.order S.mv ≤ 1000
  shift : ∀ i, S.shifted (S.sums N) i ≠ [] ∧ (S.shifted (S.sums N) i).length ≤ 1000 ∧ ∀ e, e ∈ S.shifted (S.sums N) i → e.1.length ≤ 100
section
variable {K : PySem.W.Frag} {σ : St} {H : Hp} {ta : TA} {te : TE} {d : Addr} {kvs : List (List Key × V)} {l : List D}
theorem ev_lockL (hd : H d = some (.dT kvs)) (ht : D.tupsOnlys l = true) (h : ∀ od, Ev te σ (upd H d (.frz od (.dT kvs))) (NewL K (upd H d (.frz od (.dT kvs))) l)) : Ev (tLockE te) σ H (NewL K H l) :=
  ev_lock (P' := fun v H2 => NewL K H l v H2) hd (fun od => (h od).imp fun v H1 s ⟨q, xs, e1, e2, e3, e4⟩ => ⟨q, xs, e1, by
    by_cases z : q = d
    · rw [z, upd_same] at e2; cases e2
    · rw [upd_ne z] at e2; exact e2, e3, e4⟩) fun od v H2 h2 ⟨q, xs, e1, e2, e3, e4⟩ => by
    have ne : q ≠ d := fun z => by rw [z, h2] at e3; cases e3
    exact ⟨q, xs, e1, e2, by rw [upd_ne ne]; exact e3, RepAll.keepT (keepT_updF h2) ht e4⟩
theorem ev_om (a : OmA) (h : EA ta σ H (Da K [.ref a.1.1, .ref a.2.1.1, .ref a.2.2.1])) (hok : ∀ H1, Same H H1 → OmOk K a H1) : Ev (tCall (spOneMore K) [] E0 ta) σ H (NewD K H (inD (a.1.2.more a.2.2.2 a.2.1.2))) :=
  ev_call h fun vs H1 s p Q q => ⟨a, p, hok H1 s, fun v H2 s2 ⟨u, kv, e1, e2, e3, e4⟩ => q v H2 s2 ⟨u, kv, e1, fresh_back s e2, e3, e4⟩⟩
end
theorem best_len' {S : Sts} (hk : S.ok) : S.best.length ≤ 1600 := by
  have h := best_len S.lines []
  have h2 := lines_len hk
  have h3 : ([] : As Tl).length = 0 := rfl
  have : S.best.length ≤ ([] : As Tl).length + S.lines.length := h
  omega
theorem inds_tups (l : List (List Int)) : D.tupsOnlys (l.map fun k => D.tup (k.map D.int)) = true := by
  induction l with
  | nil => rfl
  | cons a l ih => show (D.tupsOnlys (a.map D.int) && D.tupsOnlys (l.map fun k => D.tup (k.map D.int))) = true; rw [tups_ints, ih]; rfl
section
variable {P : Program} {w : World} {K : PySem.W.Frag} {mg : Str → Option Value} {base : Heap}
abbrev spRowOf (K : PySem.W.Frag) : Sp := spH K (fun a : Two × Nat => [.ref a.1.1.1, .ref a.1.2.1]) (fun a H => (BookAt K H a.1.1.1 a.1.1.2 ∧ BookAt K H a.1.2.1 a.1.2.2) ∧ (mkSts a.1.1.2 a.1.2.2).good a.2) fun a => RwP K ((mkSts a.1.1.2 a.1.2.2).row a.2)
-- one 0 other 1 states 2 best 3 most 4 move 5 sums 6 numbers 7 later 8 turn 9 again 10 place 11 told 12 state 13 total 14
theorem sc_row_of : FnScope ["one", "other", "states", "best", "most", "move", "sums", "numbers", "later", "turn", "again", "place", "told", "state", "total"] ["one", "other"] (defScope (top 85)) := ⟨rfl, rfl, rfl, by decide +kernel, rfl, by decide +kernel, by decide +kernel⟩
theorem ok_row_of (E : Env P w K mg base) (c_States : Okc P w K mg base 6 "States" ["self", "sides"] (spStsNew K)) (o_sides_of : Okf P w K mg base 1 "sides_of" ["one", "other"] (spSidesOf K)) (m_States_best_lines : Okm P w K mg base 9 "States" "best_lines" ["self"] (spBestLines K)) (m_States_empty : Okm P w K mg base 1 "States" "empty" ["self"] (spEmpty K)) (o_one_more : Okf P w K mg base 2 "one_more" ["states", "sums", "best"] (spOneMore K)) (o_is_led_on : Okf P w K mg base 2 "is_led_on" ["states", "sums", "later", "move", "most"] (spLedOn K)) (o_greatest_gap : Okf P w K mg base 8 "greatest_gap" ["states", "sums"] (spGG K)) (m_States_order : Okm P w K mg base 3 "States" "order" ["self", "move"] (spOrder K)) (m_States_added : Okm P w K mg base 1 "States" "added" ["self", "state", "move"] (spAdded K)) (c_Row : Okc P w K mg base 3 "Row" ["self", "early", "again", "rise"] (spRowNew K)) : Okf P w K mg base 10 "row_of" ["one", "other"] (spRowOf K) :=
  okf_mk E 39 39 rfl rfl sc_row_of (fun _ _ _ _ _ _ us hl => match us, hl with | [_, _], _ => rfl) (spH_len fun _ => rfl) fun cdv A outer s H vs Q E0 hr h => by
  obtain ⟨⟨⟨⟨p, A⟩, ⟨q, B⟩⟩, N⟩, h1, ⟨⟨ha, hb⟩, hg⟩, h2⟩ := h
  have ha : BookAt K H p A := ha
  have hb : BookAt K H q B := hb
  obtain ⟨_, _, rfl, rfl, rfl⟩ := two_of h1
  have hg : (mkSts A B).good N := hg
  have h2 : ∀ v H2, Same H H2 → RwP K ((mkSts A B).row N) v H2 → Q v H2 := h2
  have eS : mkStsL ([(p, A, (1 : Int)), (q, B, -1)].map (·.2)) = mkSts A B := rfl
  have fA : A.fine := hg.ok.fine (A, 1) (by show (A, (1 : Int)) ∈ [(A, (1 : Int)), (B, -1)]; simp)
  have fB : B.fine := hg.ok.fine (B, -1) (by show (B, (-1 : Int)) ∈ [(A, (1 : Int)), (B, -1)]; simp)
  generalize eS2 : mkSts A B = S at hg h2 eS
  have hk := hg.ok
  have bl := best_len' hk
  have hbt := hk.bot0
  have hbt1 := hk.bot1
  have nd := sc_row_of.nd
  refine ⟨_, (pss_cons (ps_set (i := 2) nd rfl (.inr rfl) (kMake (K := K) rfl c_States (hr.mono (by decide)) (pa_cons (pe_okf o_sides_of (hr.mono (by decide)) (pa_cons (pv 0) (pa_cons (pv 1) pa_nil))) pa_nil)))
      (pss_cons (ps_set (i := 3) nd rfl (.inl rfl) (kMeth0 (K := K) rfl m_States_best_lines (hr.mono (by decide)) (pv 2)))
      (pss_cons (ps_set (i := 4) nd rfl (.inr rfl) (kB (K := K) (r := fun _ _ _ => True) (r' := rMax) rfl (cr_max rfl) (E.free 73) (by decide +kernel) (pa_cons (pe_lock (pe_lc (own := [("told", 12)]) (g := gName 12) (tt := tYes)  rfl nd (pi_valuesT (pv 3)) (blkOk_by (N := ["one", "other", "states", "best", "most", "move", "sums", "numbers", "later", "turn", "again", "place", "told", "state", "total"]) (sc := defScope (top 85)) (by decide +kernel)) (fun _ _ _ _ _ => (pg_name (i := 12) nd rfl (.inl rfl))) (fun _ _ _ _ _ => pts_nil) (fun _ _ _ _ _ => (kIxT (K := K) rfl (pv 12) pe_int)))) pa_nil)))
      (pss_cons (ps_set (i := 5) nd rfl (.inr rfl) (kIxL (K := K) rfl (pe_lock (pe_lc (own := [("move", 5), ("told", 12)]) (g := gTup K 2 (gCons (gName 5) (gCons (gName 12) gNil)))  rfl nd (pi_itemsT (pv 3)) (blkOk_by (N := ["one", "other", "states", "best", "most", "move", "sums", "numbers", "later", "turn", "again", "place", "told", "state", "total"]) (sc := defScope (top 85)) (by decide +kernel)) (fun _ _ _ _ _ => (kGTup (K := K) (n := 2) rfl rfl (pgs_cons (pg_name (i := 5) nd rfl (.inl rfl)) (pgs_cons (pg_name (i := 12) nd rfl (.inl rfl)) pgs_nil)))) (fun _ _ _ _ _ => pts_one (pt_cmpR op_eq (kIxT (K := K) rfl (pv 12) pe_int) (pv 4) (nomark _))) (fun _ _ _ _ _ => (pv 5)))) pe_int))
      (pss_cons (ps_par (i := 6) (j := 7) (by rfl) nd rfl rfl (by decide) rfl rfl (pa_cons (pe_disp1T (Nat.lt_of_succ_lt (hu_of hr)) (kMeth0 (K := K) rfl m_States_empty (hr.mono (by decide)) (pv 2)) pe_int) (pa_cons (pe_lst pa_nil) pa_nil)) (by rfl))
      (pss_cons (ps_set (i := 8) nd rfl (.inl rfl) (pe_okf o_one_more (hr.mono (by decide)) (pa_cons (pv 2) (pa_cons (pv 6) (pa_cons (pv 3) pa_nil)))))
      (pss_cons (ps_while PassesOwn.never (pt_not (pt_val (pe_okf o_is_led_on (hr.mono (by decide)) (pa_cons (pv 2) (pa_cons (pv 6) (pa_cons (pv 8) (pa_cons (pv 5) (pa_cons (pv 4) pa_nil)))))))) (pss_cons (ps_expr (kAppend (K := K) rfl (pv 7) (pa_cons (pe_okf o_greatest_gap (hr.mono (by decide)) (pa_cons (pv 2) (pa_cons (pv 6) pa_nil))) pa_nil)))
      (pss_one (ps_par (i := 6) (j := 8) (by rfl) nd rfl rfl (by decide) rfl rfl (pa_cons (pv 8) (pa_cons (pe_okf o_one_more (hr.mono (by decide)) (pa_cons (pv 2) (pa_cons (pv 8) (pa_cons (pv 3) pa_nil)))) pa_nil)) (by rfl)))))
      (pss_cons (ps_par (i := 9) (j := 10) (by rfl) nd rfl rfl (by decide) rfl rfl (pa_cons (kMeth (K := K) rfl m_States_order (hr.mono (by decide)) (pv 2) (pa_cons (pv 5) pa_nil)) (pa_cons (pe_lst pa_nil) pa_nil)) (by rfl))
      (pss_cons (ps_for PassesOwn.never rfl (pi_range1 (by rfl) (E.free 75) (pa_cons (pv 9) pa_nil)) (pg_name (i := 11) nd rfl (.inl rfl)) (pss_cons (ps_expr (kAppend (K := K) rfl (pv 10) (pa_cons (pe_okf o_greatest_gap (hr.mono (by decide)) (pa_cons (pv 2) (pa_cons (pv 6) pa_nil))) pa_nil)))
      (pss_one (ps_lock (ps_setDcT (i := 6) (own := [("state", 13), ("total", 14)]) (g := gTup K 2 (gCons (gName 13) (gCons (gName 14) gNil))) (tt := tYes)  (Nat.lt_of_succ_lt (hu_of hr)) rfl nd rfl rfl (swD_true rfl rfl rfl (by decide +kernel)) (pi_itemsT (pv 6)) (blkOk_by (N := ["one", "other", "states", "best", "most", "move", "sums", "numbers", "later", "turn", "again", "place", "told", "state", "total"]) (sc := defScope (top 85)) (by decide +kernel)) (fun _ _ _ _ _ => (kGTup (K := K) (n := 2) rfl rfl (pgs_cons (pg_name (i := 13) nd rfl (.inl rfl)) (pgs_cons (pg_name (i := 14) nd rfl (.inl rfl)) pgs_nil)))) (fun _ _ _ _ _ => pts_nil) (fun _ _ _ _ _ => (kMeth (K := K) rfl m_States_added (hr.mono (by decide)) (pv 2) (pa_cons (pv 13) (pa_cons (pv 5) pa_nil)))) (fun _ _ _ _ _ => (pe_op op_add (pv 14) (pv 4))))))))
      (pss_one (ps_ret (kMake (K := K) rfl c_Row (hr.mono (by decide)) (pa_cons (kTy (K := K) (r' := rTupOf) rfl call_tuple_of (E.free 66) (by decide +kernel) (pa_cons (pv 7) pa_nil)) (pa_cons (kTy (K := K) (r' := rTupOf) rfl call_tuple_of (E.free 66) (by decide +kernel) (pa_cons (pv 10) pa_nil)) (pa_cons (pe_op op_fdivN (pe_op op_mul (pv 9) (pv 4)) (kFld (K := K) rfl (pv 2))) pa_nil))))))))))))))), ?_⟩
  refine q_asg (P := StP K S) ?_ fun v H1 s1 ⟨st, e1, hst⟩ => ?_
  · rw [← eS]
    refine ev_sts (L := [(p, A, 1), (q, B, -1)]) (da_cons (ev_call (R := Da K [.ref p, .ref q]) (P := Dt K (.lst ([(p, A, (1 : Int)), (q, B, -1)].map sideD))) (da_cons (ev_v rfl) (da_cons (ev_v rfl) da_nil)) fun vs H1 s pr Q q' => ?_) da_nil) (by show 2 ≤ 2; decide) fun s hs => ?_
    · obtain ⟨_, _, rfl, rfl, rfl⟩ := two_of pr
      exact ⟨p, q, rfl, fun v H2 s2 ⟨a, xs, g1, _, g3, g4⟩ => q' v H2 s2 ⟨a, xs, g1, SqL.of g3, g4⟩⟩
    · simp at hs
      rcases hs with z | z <;> rw [z]
      · exact ⟨ha, fA, .inl rfl⟩
      · exact ⟨hb, fB, .inr rfl⟩
  subst e1
  obtain ⟨L, dx, vs, vp, F⟩ := id hst
  refine q_asg (P := NewD K H1 (mapA tlD S.best)) (ev_meth (R := fun vs _ => vs = []) (ev_v rfl) F.ins rfl ea_nil fun vs H2 s2 e Q q' => ⟨(st, S), by rw [e]; exact ⟨_, _, rfl, rfl, rfl⟩, ⟨hst.same s2, hk⟩, fun v H3 s3 ⟨u, kv, g1, g2, g3, g4⟩ => q' v H3 s3 ⟨u, kv, g1, fresh_back s2 g2, g3, g4⟩⟩) fun v H2 s2 hv => ?_
  obtain ⟨db, rfl, hdb0, kvb, hdb, hbr⟩ := hv.at
  have kxb : ∀ od, KeepX H2 (upd H2 db (.frz od (.dT kvb))) := fun od => keepX_upd hdb
  have hm := maxI_ok (l := S.best.map fun e => e.2.1) (by simpa using hg.best)
  refine q_let (v := .int S.most) (ev_max (K := K) (ns := S.best.map fun e => e.2.1) (da_cons (NewL.dt (ev_lockL hdb (tups_ints _) fun od => ?_)) da_nil) hm.1 hm.2) fun H3 s3 => ?_
  · rw [List.map_map]
    refine ev_lc1 (fun e : List Int × Tl => tlD e.2) _ (Eq.mp (by unfold mapA; rw [List.map_map]; rfl) (it_valsT (ev_v rfl) upd_same (DictR.keepX (kxb od) hbr))) (by omega) (fun _ => rfl) (fun _ _ => rfl) fun a x H4 ha s4 rx => ?_
    exact ev_ixT (n := 0) (d := .int a.2.1) (ev_d rfl (show Rep K H4 (.tup [.int a.2.1, .int (a.2.2.1 : Int), .int (a.2.2.2 : Int)]) x from rx)) ev_c rfl
  have hdb3 := s3 _ _ hdb
  have hbr3 := DictR.same s3 hbr
  have hhd : ((S.best.filter fun e => decide (e.2.1 = S.most)).map fun e => D.tup (e.1.map D.int))[0]? = some (.tup (S.mv.map D.int)) := by
    obtain ⟨e, he, hem⟩ := List.mem_map.mp hm.1
    have hf : e ∈ S.best.filter fun e => decide (e.2.1 = S.most) := List.mem_filter.mpr ⟨he, decide_eq_true hem⟩
    unfold Sts.mv
    cases hl : S.best.filter fun e => decide (e.2.1 = S.most) with
    | nil => rw [hl] at hf; exact absurd hf (List.not_mem_nil)
    | cons a l => rfl
  refine q_asg (P := Dt K (.tup (S.mv.map D.int))) (ev_ixL (n := 0) (NewL.dt (ev_lockL (l := (S.best.filter fun e => decide (e.2.1 = S.most)).map fun e => D.tup (e.1.map D.int)) hdb3 ?_ fun od => ?_)) ev_c hhd) fun mv H4 s4 rmv => ?_
  · have := inds_tups ((S.best.filter fun e => decide (e.2.1 = S.most)).map (·.1))
    rw [List.map_map] at this
    exact this
  · refine ev_lc2F (fun e : List Int × Tl => .tup (e.1.map D.int)) (fun e => tlD e.2) _ _ (Eq.mp (by unfold mapA; rw [List.map_map]; rfl) (it_itemsT (ev_v rfl) upd_same (DictR.keepX (keepX_upd hdb3) hbr3))) (by omega) (fun _ _ => rfl) fun a x y H5 ha s5 rx ry => ?_
    exact ⟨et_t (ev_eqB (ev_ixT (n := 0) (d := .int a.2.1) (ev_d rfl (show Rep K H5 (.tup [.int a.2.1, .int (a.2.2.1 : Int), .int (a.2.2.2 : Int)]) y from ry)) ev_c rfl) (ev_v rfl) rfl dInt), fun _ => ⟨tups_ints _, ev_d rfl rx⟩⟩
  have s24 := s3.trans s4
  have s14 := s2.trans s24
  have hst4 := hst.same s14
  have hbA : DictAt K H4 db (mapA tlD S.best) := ⟨kvb, s24 _ _ hdb, DictR.same s24 hbr⟩
  have st4 : StOk K (st, S) H4 := ⟨hst4, hk⟩
  refine q_par (P1 := NewD K H4 (inD (S.sums 0))) (P2 := NewL K H4 []) (ev_disp1 (k := S.empty) (i := 0) (fun H5 s5 => ev_mfnH (st, S) (ev_v rfl) ((s14.trans s5) _ _ F.ins) rfl da_nil rfl fun H6 s => st4.same (s5.trans s)) fun H5 s5 => ev_c) (ev_lst da_nil (by decide)) mono_newD fun v u H5 s5 hv ⟨nq, xs0, e2, gq, hq, hq0⟩ => ?_
  have hq0 : xs0 = [] := hq0
  subst hq0 e2
  obtain ⟨ds0, rfl, gds0, hds0⟩ := hv.at
  -- the two dicts that stand at turn n
  have omok : ∀ (n : Nat) (H' : Hp) (ds : Addr), Same H4 H' → DictAt K H' ds (inD (S.sums n)) → ds ≠ db → OmOk K ((st, S), (ds, S.sums n), (db, S.best)) H' := fun n H' ds s hd hne => ⟨st4.same s, hd, hbA.same s, hne, Nat.le_trans (hg.sums n).2.1 (by decide), by show S.best.length ≤ 10000; omega, (hg.sums n).2.2.1, (hg.sums n).2.2.2⟩
  have nedb : ∀ (H' : Hp) (d : Addr), H4 d = none → d ≠ db := fun H' d hd e => by
    obtain ⟨k, h, _⟩ := hbA
    rw [e, h] at hd; cases hd
  refine q_asg (ev_om ((st, S), (ds0, S.sums 0), (db, S.best)) (da_cons (ev_v rfl) (da_cons (ev_v rfl) (da_cons (ev_v rfl) da_nil))) fun H6 s6 => omok 0 H6 ds0 (s5.trans s6) (hds0.same s6) (nedb H6 ds0 gds0)) fun v H6 s6 hv => ?_
  obtain ⟨dl0, rfl, gdl0, hdl0⟩ := hv.at
  have F' : ∀ H', Same H4 H' → H' st = some (.ins (He.ga K "States") dx [("sides", vs), ("spans", vp), ("bottom", .int (S.bottom : Int))]) := fun H' s => (s14.trans s) _ _ F.ins
  have s46 : Same H4 H6 := s5.trans s6
  have ned0 : ds0 ≠ dl0 := fun e => by
    obtain ⟨k, h, _⟩ := hds0
    rw [e, gdl0] at h
    cases h
  refine q_while (fun m σ' H' => ∃ (n : Nat) (ds dl : Addr), m = N - n ∧ n ≤ N ∧ Same H4 H' ∧ H' nq = some (.lst (((List.range n).map fun i => S.greatest (S.sums i)).map V.int)) ∧ H4 ds = none ∧ H4 dl = none ∧ ds ≠ dl ∧ DictAt K H' ds (inD (S.sums n)) ∧ DictAt K H' dl (inD (S.sums (n + 1))) ∧
    σ' = [some (.ref p), some (.ref q), some (.ref st), some (.ref db), some (.int S.most), some mv, some (.ref ds), some (.ref nq), some (.ref dl), none, none, none, none, none, none]) N ⟨0, ds0, dl0, rfl, Nat.zero_le _, s46, s6 _ _ hq, gds0, fresh_back s5 gdl0, ned0, hds0.same s6, hdl0, rfl⟩ fun m σ' H' ⟨n, ds, dl, em, hn, sH, hnq, gds, gdl, hne, hds, hdl, eσ⟩ => ?_
  subst em eσ
  have rmv0 := rmv
  have rmv := Rep.same sH rmv
  refine ⟨!(S.ledAt n), et_not (et_B (ev_fnH ((st, S), (ds, S.sums n), (dl, S.sums (n + 1)), S.mv, S.most) (da_cons (ev_v rfl) (da_cons (ev_v rfl) (da_cons (ev_v rfl) (da_cons (ev_d rfl rmv) (da_cons (ev_v rfl) da_nil))))) fun H7 s => ⟨st4.same (sH.trans s), hds.same s, hdl.same s, hne, Nat.le_trans (hg.sums n).2.1 (by decide), (hg.sums n).2.2.2⟩)), fun hc H7 s7 => ?_, fun hc H7 s7 => ?_⟩
  · have hlt : n < N := by
      rcases Nat.lt_or_ge n N with h | h
      · exact h
      · have : n = N := Nat.le_antisymm hn h
        rw [this, hg.led] at hc; cases hc
    have sH7 := sH.trans s7
    have nl : (((List.range n).map fun i => S.greatest (S.sums i)).map V.int).length < 100000 := by
      rw [List.length_map, List.length_map, List.length_range]; have := hg.few; omega
    refine q_append (ev_v rfl) (s7 _ _ hnq) (ev_fnH ((st, S), ds, S.sums n) (da_cons (ev_v rfl) (da_cons (ev_v rfl) da_nil)) fun H8 s => ⟨st4.same (sH7.trans s), hds.same (s7.trans s), (hg.sums n).1, Nat.le_trans (hg.sums n).2.1 (by decide)⟩) nl fun v H8 s8 ev => ?_
    have ev : v = .int (S.greatest (S.sums n)) := ev
    subst ev
    have s78 := s7.trans s8
    have hq8 := s78 _ _ hnq
    have sU : Same H4 (upd H8 nq (.lst (((List.range n).map fun i => S.greatest (S.sums i)).map V.int ++ [.int (S.greatest (S.sums n))]))) := same_mut (sH.trans s78) gq
    have hdsU := DictAt.updL (o := .lst (((List.range n).map fun i => S.greatest (S.sums i)).map V.int ++ [.int (S.greatest (S.sums n))])) hq8 (hds.same s78)
    have hdlU := DictAt.updL (o := .lst (((List.range n).map fun i => S.greatest (S.sums i)).map V.int ++ [.int (S.greatest (S.sums n))])) hq8 (hdl.same s78)
    refine s_par (P1 := Is (.ref dl)) (ev_v rfl) (ev_om ((st, S), (dl, S.sums (n + 1)), (db, S.best)) (da_cons (ev_v rfl) (da_cons (ev_v rfl) (da_cons (ev_v rfl) da_nil))) fun H9 s9 => omok (n + 1) H9 dl (sU.trans s9) (hdlU.same s9) (nedb H9 dl gdl)) mono_is fun v w H9 s9 e1 hw => ?_
    subst e1
    obtain ⟨dm, rfl, gdm, hdm⟩ := hw.at
    refine ⟨N - (n + 1), by omega, n + 1, dl, dm, rfl, hlt, sU.trans s9, ?_, gdl, fresh_back sU gdm, fun e => ?_, hdlU.same s9, hdm, rfl⟩
    · rw [s9 _ _ upd_same, List.range_succ, List.map_append, List.map_append]; rfl
    · obtain ⟨k, h, _⟩ := hdlU
      rw [e, gdm] at h; cases h
  · have hn : n = N := by
      rcases Nat.lt_or_ge n N with h | h
      · rw [hg.not n h] at hc; cases hc
      · exact Nat.le_antisymm hn h
    subst hn
    have sH7 := sH.trans s7
    refine q_par (P1 := Is (.int (S.order S.mv : Int))) (P2 := NewL K H7 []) (ev_mfnH ((st, S), S.mv) (ev_v rfl) (F' _ sH7) rfl (da_cons (ev_d rfl (Rep.same s7 rmv)) da_nil) rfl fun H8 s => ⟨st4.same (sH7.trans s), hg.mvpos⟩) (ev_lst da_nil (by decide)) mono_is fun v u H8 s8 e1 ⟨aq, xs1, e2, ga, haq, hx1⟩ => ?_
    have hx1 : xs1 = [] := hx1
    subst hx1 e2 e1
    obtain ⟨ho1, ho2⟩ := hg.ord
    have gaq : H4 aq = none := fresh_back sH7 ga
    have s78 := s7.trans s8
    have naq : aq ≠ nq := fun e => by rw [e, s7 _ _ hnq] at ga; cases ga
    refine q_for (it_range1 (K := K) (n := (S.order S.mv : Int)) (da_cons (ev_v rfl) da_nil) (by omega) (by omega)) fun H9 G s9 eG hB => ⟨fun i σ' H' => ∃ ds, Same H4 H' ∧ H' nq = some (.lst (((List.range n).map fun i => S.greatest (S.sums i)).map V.int)) ∧ H' aq = some (.lst (((List.range i).map fun i => S.greatest (S.shifted (S.sums n) i)).map V.int)) ∧ H4 ds = none ∧ DictAt K H' ds (inD (S.shifted (S.sums n) i)) ∧ ∃ x, σ' = [some (.ref p), some (.ref q), some (.ref st), some (.ref db), some (.int S.most), some mv, some (.ref ds), some (.ref nq), some (.ref dl), some (.int (S.order S.mv : Int)), some (.ref aq), x, none, none, none], ⟨ds, (sH.trans s78).trans s9, (s78.trans s9) _ _ hnq, s9 _ _ haq, gds, hds.same (s78.trans s9), _, rfl⟩, fun i σ' H' k => hB H', ?_, ?_⟩
    · rintro i d x σ' H' H'' hd ⟨dc, k1, k2, k3, k4, k5, y, rfl⟩ s10 rd
      have hi : i < S.order S.mv := by
        have := (List.getElem?_eq_some_iff.mp hd).1
        rw [List.length_map, List.length_range, Int.toNat_natCast] at this; exact this
      have k1' := k1.trans s10
      obtain ⟨g1, g2, g3⟩ := hg.shift i
      refine q_append (ev_v rfl) (s10 _ _ k3) (ev_fnH ((st, S), dc, S.shifted (S.sums n) i) (da_cons (ev_v rfl) (da_cons (ev_v rfl) da_nil)) fun H8 s => ⟨st4.same (k1'.trans s), k5.same (s10.trans s), g1, Nat.le_trans g2 (by decide)⟩) (by rw [List.length_map, List.length_map, List.length_range]; omega) fun v H11 s11 ev => ?_
      have ev : v = .int (S.greatest (S.shifted (S.sums n) i)) := ev
      subst ev
      have s1011 := s10.trans s11
      have ha11 := s1011 _ _ k3
      have sU : Same H4 (upd H11 aq (.lst (((List.range i).map fun i => S.greatest (S.shifted (S.sums n) i)).map V.int ++ [.int (S.greatest (S.shifted (S.sums n) i))]))) := same_mut (k1.trans s1011) gaq
      have hdU := DictAt.updL (o := .lst (((List.range i).map fun i => S.greatest (S.shifted (S.sums n) i)).map V.int ++ [.int (S.greatest (S.shifted (S.sums n) i))])) ha11 (k5.same s1011)
      have hnU : (upd H11 aq (.lst (((List.range i).map fun i => S.greatest (S.shifted (S.sums n) i)).map V.int ++ [.int (S.greatest (S.shifted (S.sums n) i))]))) nq = some (.lst (((List.range n).map fun i => S.greatest (S.sums i)).map V.int)) := by rw [upd_ne (Ne.symm naq)]; exact s1011 _ _ k2
      have haU : (upd H11 aq (.lst (((List.range i).map fun i => S.greatest (S.shifted (S.sums n) i)).map V.int ++ [.int (S.greatest (S.shifted (S.sums n) i))]))) aq = some (.lst (((List.range (i + 1)).map fun i => S.greatest (S.shifted (S.sums n) i)).map V.int)) := by rw [upd_same, List.range_succ, List.map_append, List.map_append]; rfl
      generalize upd H11 aq (.lst (((List.range i).map fun i => S.greatest (S.shifted (S.sums n) i)).map V.int ++ [.int (S.greatest (S.shifted (S.sums n) i))])) = HU at sU hdU hnU haU
      obtain ⟨kvc, hdc, hdr⟩ := hdU
      refine s_lock hdc fun od => ?_
      have kx := keepX_upd (o := .frz od (.dT kvc)) hdc
      have rmvU := Rep.keepX kx (Rep.same sU rmv0)
      refine s_asg (ev_dcT2 (S.shifted (S.sums n) i) (fun e => S.added e.1 S.mv) (fun e => e.2 + S.most) (it_itemsT (ev_v rfl) upd_same (DictR.keepX kx hdr)) (by omega) (fun _ _ => rfl) fun e x H12 he s12 rx => ?_) fun v H12 s12 hv => ?_
      · have stU := StsAt.keepX kx (hst4.same sU)
        obtain ⟨L2', dx2, vs2, vp2, F2⟩ := stU.same s12
        exact ⟨ev_mfnH ((st, S), e.1, S.mv) (ev_v rfl) F2.ins rfl (da_cons (ev_d rfl rx) (da_cons (ev_d rfl (Rep.same s12 rmvU)) da_nil)) rfl fun H2 s => ⟨⟨(stU.same s12).same s, hk⟩, g3 e he⟩, ev_I0 (ev_v rfl) (ev_v rfl)⟩
      · obtain ⟨dn, rfl, gdn, kvn, hdn, hdnr⟩ := hv.at
        have hfz := s12 _ _ (show (upd HU dc (.frz od (.dT kvc))) dc = some (.frz od (.dT kvc)) from upd_same)
        have ndc : dn ≠ dc := fun e => by rw [e, upd_same] at gdn; cases gdn
        rw [upd_ne ndc] at gdn
        have sV : Same HU (upd H12 dc (.dT kvc)) := same_unlock hdc s12
        refine ⟨hfz, dn, sU.trans sV, sV _ _ hnU, sV _ _ haU, fresh_back sU gdn, ⟨kvn, by rw [upd_ne ndc]; exact hdn, DictR.keepT (keepT_updF hfz) (tups_mapA (fun _ => rfl) _) hdnr⟩, _, rfl⟩
    · rintro σ' H' ⟨dc, k1, k2, k3, k4, k5, y, rfl⟩
      rw [List.length_map, List.length_range, Int.toNat_natCast] at k3
      refine s_ret (ev_row (l := (List.range n).map fun i => S.greatest (S.sums i)) (m := (List.range (S.order S.mv)).map fun i => S.greatest (S.shifted (S.sums n) i)) (r := (S.order S.mv : Int) * S.most / (S.bottom : Int)) (da_cons (ev_tupOf (da_cons (ev_d rfl ⟨nq, _, rfl, SqL.of k2, RepAll.ints _⟩) da_nil)) (da_cons (ev_tupOf (da_cons (ev_d rfl ⟨aq, _, rfl, SqL.of k3, RepAll.ints _⟩) da_nil)) (da_cons (ev_divP (ev_mulL (ev_v rfl) (ev_v rfl) (by omega) (by omega)) (ev_fld (ev_v rfl) (F' _ k1) (E.cls 106) (E.noat 110) rfl) (by omega) (by omega)) da_nil))) ?_ ?_ ?_) fun v H13 s13 r => h2 v H13 (((s1.trans s14).trans k1).trans s13) r
      · rw [List.length_map, List.length_range]; have := hg.few; omega
      · rw [List.length_map, List.length_range]; exact ho1
      · rw [List.length_map, List.length_range]; exact ho2
end
end LC
end
section
set_option Elab.async false
set_option linter.all false
set_option maxRecDepth 100000
set_option maxHeartbeats 2000000
/-! greatest, least -/
namespace LC
open PySem PySem.Spec L2
theorem mkRow_len {l m : List Int} {r : Int} (h : 0 < m.length) : (mkRow l m r).head.length ≤ l.length ∧ 0 < (mkRow l m r).cycle.length ∧ (mkRow l m r).cycle.length ≤ m.length := by
  obtain ⟨p1, p2, _⟩ := partOf_ok (r := r) h
  have ll : (m.take (partOf m r)).length = partOf m r := by rw [List.length_take]; omega
  obtain ⟨t1, t2⟩ := trim_len l (rowStep m r) l.length (m.take (partOf m r)) (by omega)
  refine ⟨?_, ?_, ?_⟩
  · show (l.take _).length ≤ _
    rw [List.length_take]; exact Nat.min_le_right _ _
  · show 0 < (trim l (rowStep m r) l.length (m.take (partOf m r))).2.length
    rw [t1, ll]; exact p1
  · show (trim l (rowStep m r) l.length (m.take (partOf m r))).2.length ≤ _
    rw [t1, ll]; exact p2
theorem row_len {S : Sts} {N : Nat} (h : S.good N) : (S.row N).head.length ≤ 1000 ∧ 0 < (S.row N).cycle.length ∧ (S.row N).cycle.length ≤ 1000 := by
  obtain ⟨o1, o2⟩ := h.ord
  have q := mkRow_len (l := (List.range N).map fun i => S.greatest (S.sums i)) (m := (List.range (S.order S.mv)).map fun i => S.greatest (S.shifted (S.sums N) i)) (r := (S.order S.mv : Int) * S.most / (S.bottom : Int)) (by rw [List.length_map, List.length_range]; exact o1)
  rw [List.length_map, List.length_map, List.length_range, List.length_range] at q
  have := h.few
  exact ⟨Nat.le_trans q.1 (by omega), q.2.1, Nat.le_trans q.2.2 o2⟩
section
variable {P : Program} {w : World} {K : PySem.W.Frag} {mg : Str → Option Value} {base : Heap}
abbrev spGreatest (K : PySem.W.Frag) : Sp := spH K (fun a : Two × Nat => [.ref a.1.1.1, .ref a.1.2.1]) (fun a H => TwoOk K a.1 H ∧ (mkSts a.1.1.2 a.1.2.2).good a.2) fun a => RwP K ((mkSts a.1.1.2 a.1.2.2).row a.2)
-- one 0 other 1
theorem sc_greatest : FnScope ["one", "other"] ["one", "other"] (defScope (top 87)) := ⟨rfl, rfl, rfl, by decide +kernel, rfl, by decide +kernel, by decide +kernel⟩
theorem ok_greatest (E : Env P w K mg base) (o_check_two : Okf P w K mg base 2 "check_two" ["one", "other"] (spCheckTwo K)) (o_check_greatest : Okf P w K mg base 8 "check_greatest" ["one", "other"] (spCheckGreatest K)) (o_row_of : Okf P w K mg base 10 "row_of" ["one", "other"] (spRowOf K)) : Okf P w K mg base 11 "greatest" ["one", "other"] (spGreatest K) :=
  okf_mk E 41 41 rfl rfl sc_greatest (fun _ _ _ _ _ _ us hl => match us, hl with | [_, _], _ => rfl) (spH_len fun _ => rfl) fun cdv A outer s H vs Q E0 hr h => by
  obtain ⟨⟨⟨⟨p, A⟩, ⟨q, B⟩⟩, N⟩, h1, ⟨hk, hg⟩, h2⟩ := h
  have hk : TwoOk K ((p, A), (q, B)) H := hk
  obtain ⟨_, _, rfl, rfl, rfl⟩ := two_of h1
  have nd := sc_greatest.nd
  refine ⟨_, (pss_cons (ps_expr (pe_okf o_check_two (hr.mono (by decide)) (pa_cons (pv 0) (pa_cons (pv 1) pa_nil))))
      (pss_cons (ps_expr (pe_okf o_check_greatest (hr.mono (by decide)) (pa_cons (pv 0) (pa_cons (pv 1) pa_nil))))
      (pss_one (ps_ret (pe_okf o_row_of (hr.mono (by decide)) (pa_cons (pv 0) (pa_cons (pv 1) pa_nil))))))), ?_⟩
  refine q_drop (ev_fnH ((p, A), (q, B)) (da_cons (ev_v rfl) (da_cons (ev_v rfl) da_nil)) fun H1 s => ⟨hk.1.same s, hk.2.1.same s⟩) fun _ H1 s1 _ => ?_
  refine q_drop (ev_fnH ((p, A), (q, B)) (da_cons (ev_v rfl) (da_cons (ev_v rfl) da_nil)) fun H2 s => hk.same (s1.trans s)) fun _ H2 s2 _ => ?_
  have s12 := s1.trans s2
  exact s_ret (ev_fnH (((p, A), (q, B)), N) (da_cons (ev_v rfl) (da_cons (ev_v rfl) da_nil)) fun H3 s => ⟨⟨hk.1.same (s12.trans s), hk.2.1.same (s12.trans s)⟩, hg⟩) fun v H3 s3 r => h2 v H3 (s12.trans s3) r
abbrev spLeast (K : PySem.W.Frag) : Sp := spH K (fun a : Two × Nat => [.ref a.1.1.1, .ref a.1.2.1]) (fun a H => TwoOk K a.1 H ∧ (mkSts a.1.2.2 a.1.1.2).good a.2) fun a => RwP K ((mkSts a.1.2.2 a.1.1.2).row a.2).turn
-- one 0 other 1
theorem sc_least : FnScope ["one", "other"] ["one", "other"] (defScope (top 89)) := ⟨rfl, rfl, rfl, by decide +kernel, rfl, by decide +kernel, by decide +kernel⟩
theorem ok_least (E : Env P w K mg base) (o_check_two : Okf P w K mg base 2 "check_two" ["one", "other"] (spCheckTwo K)) (o_check_greatest : Okf P w K mg base 8 "check_greatest" ["one", "other"] (spCheckGreatest K)) (o_turned : Okf P w K mg base 5 "turned" ["row"] (spTurned K)) (o_row_of : Okf P w K mg base 10 "row_of" ["one", "other"] (spRowOf K)) : Okf P w K mg base 11 "least" ["one", "other"] (spLeast K) :=
  okf_mk E 43 43 rfl rfl sc_least (fun _ _ _ _ _ _ us hl => match us, hl with | [_, _], _ => rfl) (spH_len fun _ => rfl) fun cdv A outer s H vs Q E0 hr h => by
  obtain ⟨⟨⟨⟨p, A⟩, ⟨q, B⟩⟩, N⟩, h1, ⟨hk, hg⟩, h2⟩ := h
  have hk : TwoOk K ((p, A), (q, B)) H := hk
  have hg : (mkSts B A).good N := hg
  obtain ⟨_, _, rfl, rfl, rfl⟩ := two_of h1
  obtain ⟨g1, g2, g3⟩ := row_len hg
  have nd := sc_least.nd
  refine ⟨_, (pss_cons (ps_expr (pe_okf o_check_two (hr.mono (by decide)) (pa_cons (pv 0) (pa_cons (pv 1) pa_nil))))
      (pss_cons (ps_expr (pe_okf o_check_greatest (hr.mono (by decide)) (pa_cons (pv 1) (pa_cons (pv 0) pa_nil))))
      (pss_one (ps_ret (pe_okf o_turned (hr.mono (by decide)) (pa_cons (pe_okf o_row_of (hr.mono (by decide)) (pa_cons (pv 1) (pa_cons (pv 0) pa_nil))) pa_nil)))))), ?_⟩
  refine q_drop (ev_fnH ((p, A), (q, B)) (da_cons (ev_v rfl) (da_cons (ev_v rfl) da_nil)) fun H1 s => ⟨hk.1.same s, hk.2.1.same s⟩) fun _ H1 s1 _ => ?_
  refine q_drop (ev_fnH ((q, B), (p, A)) (da_cons (ev_v rfl) (da_cons (ev_v rfl) da_nil)) fun H2 s => ⟨hk.2.1.same (s1.trans s), hk.1.same (s1.trans s), hk.2.2.symm⟩) fun _ H2 s2 _ => ?_
  have s12 := s1.trans s2
  have er := ev_fnH (K := K) (σ := [some (.ref p), some (.ref q)]) (H := H2) (e := fun a : Two × Nat => [.ref a.1.1.1, .ref a.1.2.1]) (ok := fun a H => (BookAt K H a.1.1.1 a.1.1.2 ∧ BookAt K H a.1.2.1 a.1.2.2) ∧ (mkSts a.1.1.2 a.1.2.2).good a.2) (P := fun a => RwP K ((mkSts a.1.1.2 a.1.2.2).row a.2)) (ta := tCons (tVar 1) (tCons (tVar 0) tNil)) (((q, B), (p, A)), N) (da_cons (ev_v rfl) (da_cons (ev_v rfl) da_nil)) fun H3 s => ⟨⟨hk.2.1.same (s12.trans s), hk.1.same (s12.trans s)⟩, hg⟩
  refine s_ret (ev_call (P := RwP K ((mkSts B A).row N).turn) (R := fun vs H => ∃ v r, vs = v :: r ∧ RwP K ((mkSts B A).row N) v H ∧ r = []) (fun H3 s Q q' => er H3 s _ fun v H4 s4 hv => q' _ H4 s4 ⟨v, [], rfl, hv, rfl⟩) fun vs H3 s ⟨v, r, e1, ⟨x, e2, hx⟩, e3⟩ Q q' => ⟨(x, (mkSts B A).row N), ⟨v, r, e1, e2, e3⟩, ⟨hx, g1, g2, g3⟩, fun v H4 s4 hv => q' v H4 s4 hv⟩) fun v H3 s3 r => h2 v H3 (s12.trans s3) r
end
end LC
end
section
set_option Elab.async false
set_option linter.all false
set_option maxRecDepth 100000
set_option maxHeartbeats 2000000
/-! the law's own periods -/
namespace LC
open PySem PySem.Spec L2
section
variable {P : Program} {w : World} {K : PySem.W.Frag} {mg : Str → Option Value} {base : Heap}
-- _law_large 0 _law_small 1
theorem sc__law_common : FnScope ["_law_large", "_law_small"] ["_law_large", "_law_small"] (defScope (top 95)) := ⟨rfl, rfl, rfl, by decide +kernel, rfl, by decide +kernel, by decide +kernel⟩
theorem ok__law_common (E : Env P w K mg base)  : Okf P w K mg base 1 "_law_common" ["_law_large", "_law_small"] (spGcd K) :=
  okf_mk E 48 48 rfl rfl sc__law_common (fun _ _ _ _ _ _ us hl => match us, hl with | [_, _], _ => rfl) (spF_len fun _ => rfl) fun cdv A outer s H vs Q E0 hr h => by
  obtain ⟨⟨x, y⟩, h1, _, h2⟩ := h
  obtain ⟨_, _, rfl, rfl, rfl⟩ := two_of h1
  have nd := sc__law_common.nd
  refine ⟨_, (pss_cons (ps_while PassesOwn.never (pt_cmpR op_gt (pv 1) pe_int (nomark _)) (pss_one (ps_par (i := 0) (j := 1) (by rfl) nd rfl rfl (by decide) rfl rfl (pa_cons (pv 1) (pa_cons (pe_op op_modN (pe_callTy call_int1 (by rfl) (E.free 63) (by decide +kernel) (pa_cons (pv 0) pa_nil)) (pv 1)) pa_nil)) (by rfl))))
      (pss_one (ps_ret (pv 0)))), ?_⟩
  refine q_while (fun m σ' H' => ∃ p q : Nat, m = q ∧ Same H H' ∧ σ' = [some (.int (p : Int)), some (.int (q : Int))] ∧ Nat.gcd p q = Nat.gcd x y) y ⟨x, y, rfl, Same.refl _, rfl, rfl⟩ fun m σ' H' ⟨p, q, e1, s1, e2, e3⟩ => ?_
  subst e1 e2
  refine ⟨decide ((m : Int) > 0), et_t (ev_I0 (ev_v rfl) ev_c), fun c H1 s2 => ?_, fun c H1 s2 => ?_⟩
  · have c : 0 < m := by have := of_decide_eq_true c; omega
    refine s_par (ev_v rfl) (ev_modP (ev_int (K := K) (da_cons (ev_v rfl) da_nil)) (ev_v rfl) (by omega)) mono_is fun v w H2 s3 e4 e5 => ?_
    subst e4 e5
    refine ⟨p % m, Nat.mod_lt _ c, m, p % m, rfl, (s1.trans s2).trans s3, rfl, ?_⟩
    rw [← e3, Nat.gcd_comm p m, Nat.gcd_rec m p, Nat.gcd_comm]
  · have c : m = 0 := by have := of_decide_eq_false c; omega
    subst c
    refine s_retv (ev_v rfl) fun H2 s3 => h2 _ H2 ((s1.trans s2).trans s3) ?_
    show V.int (p : Int) = V.int (Nat.gcd x y : Nat)
    rw [← e3, Nat.gcd_zero_right]
abbrev spLawSpan (K : PySem.W.Frag) : Sp := spF K (fun l : List Stp => [stD l]) (OkS 6) fun l => Is (.int (perS l : Int))
-- _law_steps 0 _law_span_here 1 _law_climb 2 _law_step_here 3 _law_full 4 _law_own 5 _law_turns 6
theorem sc__law_span : FnScope ["_law_steps", "_law_span_here", "_law_climb", "_law_step_here", "_law_full", "_law_own", "_law_turns"] ["_law_steps"] (defScope (top 96)) := ⟨rfl, rfl, rfl, by decide +kernel, rfl, by decide +kernel, by decide +kernel⟩
theorem ok__law_span (E : Env P w K mg base) (o__law_common : Okf P w K mg base 1 "_law_common" ["_law_large", "_law_small"] (spGcd K)) : Okf P w K mg base 2 "_law_span" ["_law_steps"] (spLawSpan K) :=
  okf_mk E 49 49 rfl rfl sc__law_span (fun _ _ _ _ _ _ us hl => match us, hl with | [_], _ => rfl) (spF_len fun _ => rfl) fun cdv A outer s H vs Q E0 hr h => by
  obtain ⟨l, h1, hk, h2⟩ := h
  obtain ⟨v, rfl, r⟩ := one_of h1
  have nd := sc__law_span.nd
  refine ⟨_, (pss_cons (ps_asg (pe_tup (pa_cons pe_int (pa_cons pe_int pa_nil))) (kGTup (K := K) (n := 2) rfl rfl (pgs_cons (pg_name (i := 1) nd rfl (.inl rfl)) (pgs_cons (pg_name (i := 2) nd rfl (.inl rfl)) pgs_nil))))
      (pss_cons (ps_for PassesOwn.never rfl (kITup (K := K) rfl (pv 0)) (pg_name (i := 3) nd rfl (.inl rfl)) (pss_one (ps_if (pt_cmpR op_eq (kIxT (K := K) rfl (pv 3) pe_int) pe_str (nomark _)) (pss_cons (ps_set (i := 4) nd rfl (.inl rfl) (pe_op op_mul (pe_op op_mul (kIxT (K := K) rfl (pv 3) pe_int) (kIxT (K := K) rfl (pv 3) pe_int)) (kIxL (K := K) rfl (pe_lst (pa_cons pe_int (pa_cons pe_int pa_nil))) (pe_callTy call_int1 (by rfl) (E.free 63) (by decide +kernel) (pa_cons (pe_cmpR op_eq (kIxT (K := K) rfl (pv 3) pe_int) pe_str (nomark _)) pa_nil)))))
      (pss_cons (ps_set (i := 5) nd rfl (.inl rfl) (pe_op op_fdivN (pv 4) (pe_okf o__law_common (hr.mono (by decide)) (pa_cons (pv 4) (pa_cons (kIxT (K := K) rfl (pv 3) pe_int) pa_nil)))))
      (pss_cons (ps_set (i := 6) nd rfl (.inl rfl) (pe_op op_fdivN (pv 5) (pe_okf o__law_common (hr.mono (by decide)) (pa_cons (pv 5) (pa_cons (pv 2) pa_nil)))))
      (pss_cons (ps_set (i := 1) nd rfl (.inl rfl) (pe_op op_mul (pv 1) (pv 6)))
      (pss_one (ps_set (i := 2) nd rfl (.inl rfl) (pe_op op_fdivN (pe_op op_mul (pe_op op_mul (pv 2) (pv 6)) (kIxT (K := K) rfl (pv 3) pe_int)) (kIxT (K := K) rfl (pv 3) pe_int)))))))) pss_nil)))
      (pss_one (ps_ret (pv 1))))), ?_⟩
  refine q_asgG (ev_tup (K := K) (l := [.int 1, .int 1]) (da_cons ev_c (da_cons ev_c da_nil)) (by decide)) fun f H1 s1 rf => g_tup2 rf fun p0 q0 rp rq => ?_
  have rp : p0 = .int 1 := rp
  have rq : q0 = .int 1 := rq
  subst rp rq
  refine q_for (it_tup (ds := l.map Stp.d) (ev_d rfl (Rep.same s1 r)) (stD_tups l)) fun H2 G s2 eG hB => ⟨fun i σ' H' => Same H2 H' ∧ ∃ y1 y2 y3 y4, σ' = [some v, some (.int (((l.take i).foldl per1 (1, 1)).1 : Int)), some (.int (((l.take i).foldl per1 (1, 1)).2 : Int)), y1, y2, y3, y4], ⟨Same.refl _, _, _, _, _, rfl⟩, fun i σ' H' p => eG H' p.1, ?_, ?_⟩
  · rintro i d x σ' H' H'' hd ⟨s3, y1, y2, y3, y4, rfl⟩ s4 rd
    obtain ⟨st, e1, rfl⟩ := map_at hd
    obtain ⟨ks, _⟩ := sound_i e1 hk
    have e2 : (l.take (i + 1)).foldl per1 (1, 1) = per1 ((l.take i).foldl per1 (1, 1)) st := fold_at e1
    have po := POk.fold (take_ok (i := i) hk).2 POk.one
    generalize (l.take i).foldl per1 (1, 1) = f at po e2
    have le6 : 0 + (l.take i).length ≤ 6 := by have := (take_ok (i := i) hk).1; omega
    have p1 := pow6 le6 30 (by decide) po.1
    have p2 := pow6 le6 150 (by decide) po.2.1
    have c30 : (30 : Nat) ^ 6 = 729000000 := by decide
    have c150 : (150 : Nat) ^ 6 = 11390625000000 := by decide
    cases st with
    | plus c =>
      have rd : Rep K H'' (.tup [.str "plus", .int c]) x := rd
      exact s_skip (et_t (ev_eqB (ev_ixT (n := 0) (d := .str "plus") (ev_d rfl rd) ev_c rfl) ev_c rfl rfl)) fun H3 s5 => ⟨(s3.trans s4).trans s5, _, _, _, _, by rw [e2]; rfl⟩
    | times a b wy u =>
      obtain ⟨k1, k2, k3, k4, k5, k6, k7⟩ := (show 1 ≤ a ∧ a ≤ 5 ∧ 1 ≤ b ∧ b ≤ 5 ∧ wy ∈ wayNames ∧ 1 ≤ u ∧ u ≤ 3 from ks)
      have rd : Rep K H'' (.tup [.str "times", .int (a : Int), .int (b : Int), .str wy, .int (u : Int)]) x := rd
      refine s_if (b := true) (et_t (ev_eqB (ev_ixT (n := 0) (d := .str "times") (ev_d rfl rd) ev_c rfl) ev_c rfl rfl)) (fun _ H3 s5 => ?_) (fun z => nomatch z)
      have rd := Rep.same s5 rd
      obtain ⟨w1, w2⟩ := whole1_ok ks
      obtain ⟨o1, o2⟩ := own1_ok ks
      obtain ⟨t1, t2⟩ := turns_ok (r := f.2) o1
      have hb : b * u ≤ 5 * 3 := Nat.mul_le_mul k4 k7
      refine q_let (v := .int (whole1 b u wy : Int)) ((ev_mulL ((ev_mulR (ev_ixT (n := 2) (d := .int (b : Int)) (ev_d rfl rd) ev_c rfl) (ev_ixT (n := 4) (d := .int (u : Int)) (ev_d rfl rd) ev_c rfl) (by omega) (by omega)).is (w := .int ((b * u : Nat) : Int)) rfl) (ev_ixL (K := K) (l := [.int 1, .int 2]) (n := if wy = "near even" then 1 else 0) (d := .int ((if wy = "near even" then 2 else 1 : Nat) : Int)) (NewL.dt (ev_lst (da_cons ev_c (da_cons ev_c da_nil)) (show 2 ≤ 100000 by decide))) ((ev_intB (K := K) (b := decide (wy = "near even")) (da_cons (ev_eqB (ev_ixT (n := 3) (d := .str wy) (ev_d rfl rd) ev_c rfl) ev_c rfl dStr) da_nil)).is ?_) ?_) (by omega) (by omega)).is (by unfold whole1; rw [← Int.natCast_mul])) fun H4 s6 => ?_
      · by_cases c : wy = "near even"
        · rw [decide_eq_true c, if_pos c]; rfl
        · rw [decide_eq_false c, if_neg c]; rfl
      · by_cases c : wy = "near even"
        · rw [if_pos c, if_pos c]; rfl
        · rw [if_neg c, if_neg c]; rfl
      have rd := Rep.same s6 rd
      have ga := gcd_pos_r (t := a) w1
      have gl : Nat.gcd a (whole1 b u wy) ≤ whole1 b u wy := Nat.le_of_dvd w1 (Nat.gcd_dvd_right _ _)
      have gb := gcd_pos_r (t := f.2) o1
      have gm : Nat.gcd f.2 (own1 a b u wy) ≤ own1 a b u wy := Nat.le_of_dvd o1 (Nat.gcd_dvd_right _ _)
      refine q_let (v := .int (own1 a b u wy : Int)) ((ev_I (ev_v rfl) ((ev_fn (whole1 b u wy, a) (da_cons (ev_v rfl) (da_cons (ev_ixT (n := 1) (d := .int (a : Int)) (ev_d rfl rd) ev_c rfl) da_nil)) trivial).is (w := .int (Nat.gcd a (whole1 b u wy) : Nat)) (by rw [Nat.gcd_comm])) (cdn ga (by omega))).is (by rw [fdiv_nat]; rfl)) fun H5 s7 => ?_
      have rd := Rep.same s7 rd
      refine q_let (v := .int ((own1 a b u wy / Nat.gcd f.2 (own1 a b u wy) : Nat) : Int)) ((ev_I (ev_v rfl) ((ev_fn (own1 a b u wy, f.2) (da_cons (ev_v rfl) (da_cons (ev_v rfl) da_nil)) trivial).is (w := .int (Nat.gcd f.2 (own1 a b u wy) : Nat)) (by rw [Nat.gcd_comm])) (cdn gb (by omega))).is (by rw [fdiv_nat])) fun H6 s8 => ?_
      have rd := Rep.same s8 rd
      refine q_let (ev_mulR (ev_v rfl) (ev_v rfl) (by omega) (by omega)) fun H7 s9 => ?_
      have rd := Rep.same s9 rd
      refine s_let (ev_I (ev_mulR (ev_mulR (ev_v rfl) (ev_v rfl) (by omega) (by omega)) (ev_ixT (n := 1) (d := .int (a : Int)) (ev_d rfl rd) ev_c rfl) (by omega) (by omega)) (ev_ixT (n := 2) (d := .int (b : Int)) (ev_d rfl rd) ev_c rfl) (cdn k3 (by omega))) fun H8 s10 => ?_
      refine ⟨(((((((s3.trans s4).trans s5).trans s6).trans s7).trans s8).trans s9).trans s10), some x, some (.int (whole1 b u wy : Int)), some (.int (own1 a b u wy : Int)), some (.int ((own1 a b u wy / Nat.gcd f.2 (own1 a b u wy) : Nat) : Int)), ?_⟩
      rw [e2, per1_eq]
      have e9 : ((f.2 : Int) * ((own1 a b u wy / Nat.gcd f.2 (own1 a b u wy) : Nat) : Int) * (a : Int)).fdiv (b : Int) = ((f.2 * (own1 a b u wy / Nat.gcd f.2 (own1 a b u wy)) * a / b : Nat) : Int) := by
        rw [← Int.natCast_mul, ← Int.natCast_mul, fdiv_nat]
      rw [e9, ← Int.natCast_mul]
      rfl
  · rintro σ' H' ⟨s3, y1, y2, y3, y4, rfl⟩
    rw [List.length_map, List.take_length]
    exact s_retv (ev_v rfl) fun H5 s5 => h2 _ H5 (((s1.trans s2).trans s3).trans s5) rfl
/-! ### _law_fit -/
def planD (b : Bk) : D := .tup [sortsD b.sorts, heapsD b.heaps, stD b.last]
def natsL (l : List Nat) : D := .lst (l.map fun (n : Nat) => .int (n : Int))
def Bk.owns (b : Bk) : List Nat := b.sorts.map fun k => perS (k.2.2 ++ (b.heap k.2.1 ++ b.last))
abbrev spFit (K : PySem.W.Frag) : Sp := spF K (fun b : Bk => [planD b]) Bk.ok fun b => Dt K (.tup [natsL b.periods, natsL b.owns])
theorem ev_catS {K : PySem.W.Frag} {σ : St} {H : Hp} {t1 t2 : TE} {l m : List Stp} (h1 : Ev t1 σ H (Dt K (stD l))) (h2 : Ev t2 σ H (Dt K (stD m))) (hl : l.length + m.length ≤ 1000) : Ev (tOp (rCatA K) t1 t2) σ H (Dt K (stD (l ++ m))) := by
  rw [stD_app]
  exact ev_catT h1 h2 (by rw [List.length_map, List.length_map]; omega)
-- _law_plan 0 _law_sorts 1 _law_heaps 2 _law_last 3 _law_spans 4 _law_steps 5 _law_label 6 _law_place 7
theorem sc__law_fit : FnScope ["_law_plan", "_law_sorts", "_law_heaps", "_law_last", "_law_spans", "_law_steps", "_law_label", "_law_place"] ["_law_plan"] (defScope (top 97)) := ⟨rfl, rfl, rfl, by decide +kernel, rfl, by decide +kernel, by decide +kernel⟩
theorem ok__law_fit (E : Env P w K mg base) (o__law_span : Okf P w K mg base 2 "_law_span" ["_law_steps"] (spLawSpan K)) : Okf P w K mg base 3 "_law_fit" ["_law_plan"] (spFit K) :=
  okf_mk E 50 50 rfl rfl sc__law_fit (fun _ _ _ _ _ _ us hl => match us, hl with | [_], _ => rfl) (spF_len fun _ => rfl) fun cdv A outer s H vs Q E0 hr h => by
  obtain ⟨b, h1, hk, h2⟩ := h
  obtain ⟨v, rfl, r⟩ := one_of h1
  have nd := sc__law_fit.nd
  refine ⟨_, (pss_cons (ps_asg (pv 0) (kGTup (K := K) (n := 3) rfl rfl (pgs_cons (pg_name (i := 1) nd rfl (.inl rfl)) (pgs_cons (pg_name (i := 2) nd rfl (.inr rfl)) (pgs_cons (pg_name (i := 3) nd rfl (.inr rfl)) pgs_nil)))))
      (pss_cons (ps_setLc (i := 4) (own := [("_law_steps", 5)]) (g := gName 5) (tt := tYes)  rfl nd rfl rfl (sw_true rfl rfl rfl (by decide +kernel)) (kITup (K := K) rfl (pv 2)) (blkOk_by (N := ["_law_plan", "_law_sorts", "_law_heaps", "_law_last", "_law_spans", "_law_steps", "_law_label", "_law_place"]) (sc := defScope (top 97)) (by decide +kernel)) (fun _ _ _ _ _ => (pg_name (i := 5) nd rfl (.inl rfl))) (fun _ _ _ _ _ => pts_nil) (fun _ _ _ _ _ => (pe_okf o__law_span (hr.mono (by decide)) (pa_cons (kCatT (K := K) rfl (pv 5) (pv 3)) pa_nil))))
      (pss_one (ps_ret (pe_tup (pa_cons (pv 4) (pa_cons (pe_lc (own := [("_law_label", 6), ("_law_place", 7), ("_law_steps", 5)]) (g := gTup K 3 (gCons (gName 6) (gCons (gName 7) (gCons (gName 5) gNil)))) (tt := tYes)  rfl nd (kITup (K := K) rfl (pv 1)) (blkOk_by (N := ["_law_plan", "_law_sorts", "_law_heaps", "_law_last", "_law_spans", "_law_steps", "_law_label", "_law_place"]) (sc := defScope (top 97)) (by decide +kernel)) (fun _ _ _ _ _ => (kGTup (K := K) (n := 3) rfl rfl (pgs_cons (pg_name (i := 6) nd rfl (.inl rfl)) (pgs_cons (pg_name (i := 7) nd rfl (.inl rfl)) (pgs_cons (pg_name (i := 5) nd rfl (.inl rfl)) pgs_nil))))) (fun _ _ _ _ _ => pts_nil) (fun _ _ _ _ _ => (pe_okf o__law_span (hr.mono (by decide)) (pa_cons (kCatT (K := K) rfl (kCatT (K := K) rfl (pv 5) (kIxT (K := K) rfl (pv 2) (pv 7))) (pv 3)) pa_nil)))) pa_nil))))))), ?_⟩
  have hl := hk.hfew
  have hf := hk.few
  refine q_asgG (ev_d rfl r) fun t H1 s1 rt => g_tup3 rt fun x y z rx ry rz => ?_
  refine q_asg (P := Dt K (natsL b.periods)) (NewL.dt (Ev.imp (ev_lc1 stD (fun s => .int (perS (s ++ b.last) : Int)) (it_tup (ds := b.heaps.map stD) (ev_d rfl ry) (heapsD_tups _)) (by omega) (fun _ => rfl) (fun _ _ => rfl) fun s u H2 hs s2 ru => ?_) fun v H2 _ q => ?_)) fun sv H2 s2 rs => ?_
  · have so := hk.heaps_ok s hs
    exact ev_fn (s ++ b.last) (da_cons (ev_catS (ev_d rfl ru) (ev_d rfl (Rep.same s2 rz)) (by have := so.1; have := hk.last_ok.1; omega)) da_nil) ((so.app hk.last_ok).mono (by decide))
  · unfold Bk.periods; rw [List.map_map]; exact q
  have rx2 := Rep.same s2 rx
  have ry2 := Rep.same s2 ry
  have rz2 := Rep.same s2 rz
  refine s_ret (ev_tup (K := K) (l := [natsL b.periods, natsL b.owns]) (da_cons (ev_d rfl rs) (da_cons (NewL.dt (Ev.imp (ev_lc3 (fun k : Str × Nat × List Stp => .str k.1) (fun k => .int (k.2.1 : Int)) (fun k => stD k.2.2) (fun k => .int (perS (k.2.2 ++ (b.heap k.2.1 ++ b.last)) : Int)) (it_tup (ds := b.sorts.map kindD) (ev_d rfl rx2) (sortsD_tups _)) (by omega) (fun _ _ _ => rfl) (fun _ _ => rfl) fun k u1 u2 u3 H3 hkm s3 r1 r2 r3 => ?_) fun v H3 _ q => ?_)) da_nil)) (show 2 ≤ 100000 by decide)) fun v H3 s3 q => h2 v H3 ((s1.trans s2).trans s3) q
  · have kk := hk.kinds k hkm
    have r2 : u2 = .int (k.2.1 : Int) := r2
    subst r2
    have ho := Bk.heap_ok hk kk.place
    have e := ev_fn (K := K) (e := fun l : List Stp => [stD l]) (P := fun l => Is (.int (perS l : Int))) (ok := OkS 6) ((k.2.2 ++ b.heap k.2.1) ++ b.last) (da_cons (ev_catS (ev_catS (ev_d (σ := [some v, some x, some y, some z, some sv, some u3, some u1, some (.int (k.2.1 : Int))]) (n := 5) rfl r3) (ev_heapAt (ev_d (n := 2) rfl (Rep.same s3 ry2)) (ev_v (n := 7) rfl) kk.place) (by have := kk.steps.1; have := ho.1; omega)) (ev_d (n := 3) rfl (Rep.same s3 rz2)) (by have := kk.steps.1; have := ho.1; have := hk.last_ok.1; rw [List.length_append]; omega)) da_nil) (((kk.steps.app ho).app hk.last_ok).mono (by decide))
    rw [List.append_assoc] at e
    exact e
  · unfold Bk.owns; rw [List.map_map]; exact q
end
end LC
end
section
set_option Elab.async false
set_option linter.all false
set_option maxRecDepth 100000
set_option maxHeartbeats 2000000
/-! _law_many -/
namespace LC
open PySem PySem.Spec L2
section
variable {P : Program} {w : World} {K : PySem.W.Frag} {mg : Str → Option Value} {base : Heap}
def stB (t : Nat) (b : Bk) : Nat := b.periods.foldl (· * ·) t
def amB (l : List Nat) (b : Bk) : List Nat := (List.zip l b.owns).map fun q => lcmN q.1 q.2
def manySt (A B : Bk) : Nat := [A, B].foldl stB 1
def manyAm (A B : Bk) : List Nat := [A, B].foldl amB (List.replicate A.sorts.length 1)
theorem owns_lt {b : Bk} (h : b.ok) {n : Nat} (hn : n ∈ b.owns) : n < 2 ^ 30 ∧ 0 < n := by
  obtain ⟨k, hk, rfl⟩ := List.mem_map.mp hn
  have kk := h.kinds k hk
  have q := perS_ok (kk.steps.app ((Bk.heap_ok h kk.place).app h.last_ok))
  have e : (30 : Nat) ^ (2 + (2 + 2)) = 729000000 := by decide
  exact ⟨by omega, q.2⟩
theorem amB_len (l : List Nat) (b : Bk) : (amB l b).length ≤ l.length := by unfold amB; rw [List.length_map, List.length_zip]; exact Nat.min_le_left _ _
abbrev spMany (K : PySem.W.Frag) : Sp := spF K (fun a : Bk × Bk => [.lst [planD a.1, planD a.2]]) (fun a => a.1.ok ∧ a.2.ok) fun a => Dt K (.tup [.int (manySt a.1 a.2 : Int), natsL (manyAm a.1 a.2)])
theorem ev_repNew {σ : St} {H : Hp} {ta tb : TE} {n : Nat} (h : Ev ta σ H (NewL K H [.int 1])) (hb : Ev tb σ H (Is (.int (n : Int)))) (hn : n ≤ 1000) : Ev (tOp rRep ta tb) σ H (Dt K (natsL (List.replicate n 1))) := (NewL.dt (ev_repL h hb hn)).imp fun v H1 _ q => by
  show Rep K H1 (.lst ((List.replicate n 1).map fun (n : Nat) => D.int (n : Int))) v
  rw [List.map_replicate]; exact q
-- _law_plans 0 _law_states 1 _law_amounts_here 2 _law_plan 3 _law_spans 4 _law_own 5 _law_span_here 6 _law_a 7 _law_b 8
theorem sc__law_many : FnScope ["_law_plans", "_law_states", "_law_amounts_here", "_law_plan", "_law_spans", "_law_own", "_law_span_here", "_law_a", "_law_b"] ["_law_plans"] (defScope (top 98)) := ⟨rfl, rfl, rfl, by decide +kernel, rfl, by decide +kernel, by decide +kernel⟩
theorem ok__law_many (E : Env P w K mg base) (o__law_fit : Okf P w K mg base 3 "_law_fit" ["_law_plan"] (spFit K)) (o__law_common : Okf P w K mg base 1 "_law_common" ["_law_large", "_law_small"] (spGcd K)) : Okf P w K mg base 4 "_law_many" ["_law_plans"] (spMany K) :=
  okf_mk E 51 51 rfl rfl sc__law_many (fun _ _ _ _ _ _ us hl => match us, hl with | [_], _ => rfl) (spF_len fun _ => rfl) fun cdv A outer s H vs Q E0 hr h => by
  obtain ⟨⟨A, B⟩, h1, ⟨kA, kB⟩, h2⟩ := h
  have kA : A.ok := kA
  have kB : B.ok := kB
  obtain ⟨v, rfl, r⟩ := one_of h1
  have r : Rep K H (.lst ([A, B].map planD)) v := r
  have nd := sc__law_many.nd
  refine ⟨_, (pss_cons (ps_par (i := 1) (j := 2) (by rfl) nd rfl rfl (by decide) rfl rfl (pa_cons pe_int (pa_cons (pe_op op_rep (pe_lst (pa_cons pe_int pa_nil)) (kLen (K := K) rfl (E.free 61) (pa_cons (kIxT (K := K) rfl (kIxL (K := K) rfl (pv 0) pe_int) pe_int) pa_nil))) pa_nil)) (by rfl))
      (pss_cons (ps_for PassesOwn.never rfl (kIList (K := K) rfl (pv 0)) (pg_name (i := 3) nd rfl (.inl rfl)) (pss_cons (ps_asg (pe_okf o__law_fit (hr.mono (by decide)) (pa_cons (pv 3) pa_nil)) (kGTup (K := K) (n := 2) rfl rfl (pgs_cons (pg_name (i := 4) nd rfl (.inl rfl)) (pgs_cons (pg_name (i := 5) nd rfl (.inl rfl)) pgs_nil))))
      (pss_cons (ps_for PassesOwn.never rfl (kIList (K := K) rfl (pv 4)) (pg_name (i := 6) nd rfl (.inl rfl)) (pss_one (ps_set (i := 1) nd rfl (.inl rfl) (pe_op op_mul (pv 1) (pv 6)))))
      (pss_one (ps_setLc (i := 2) (own := [("_law_a", 7), ("_law_b", 8)]) (g := gTup K 2 (gCons (gName 7) (gCons (gName 8) gNil))) (tt := tYes)  rfl nd rfl rfl (sw_true rfl rfl rfl (by decide +kernel)) (kZ2 (K := K) false false rfl (E.free 71) (pa_cons (pv 2) (pa_cons (pv 5) pa_nil))) (blkOk_by (N := ["_law_plans", "_law_states", "_law_amounts_here", "_law_plan", "_law_spans", "_law_own", "_law_span_here", "_law_a", "_law_b"]) (sc := defScope (top 98)) (by decide +kernel)) (fun _ _ _ _ _ => (kGTup (K := K) (n := 2) rfl rfl (pgs_cons (pg_name (i := 7) nd rfl (.inl rfl)) (pgs_cons (pg_name (i := 8) nd rfl (.inl rfl)) pgs_nil)))) (fun _ _ _ _ _ => pts_nil) (fun _ _ _ _ _ => (pe_op op_mul (pe_op op_fdivN (pv 7) (pe_okf o__law_common (hr.mono (by decide)) (pa_cons (pv 7) (pa_cons (pv 8) pa_nil)))) (pv 8))))))))
      (pss_one (ps_ret (pe_tup (pa_cons (pv 1) (pa_cons (pv 2) pa_nil))))))), ?_⟩
  have fA := kA.few
  refine q_par (P1 := Is (.int 1)) (P2 := Dt K (natsL (List.replicate A.sorts.length 1))) ev_c (ev_repNew (ev_lst (da_cons ev_c da_nil) (by decide)) ((ev_len (K := K) true (l := A.sorts.map kindD) (da_cons (ev_ixT (n := 0) (d := sortsD A.sorts) (ev_ixL (n := 0) (d := planD A) (ev_d rfl r) ev_c rfl) ev_c rfl) da_nil)).is (by rw [List.length_map])) (by omega)) mono_is fun x0 y0 H1 s1 e1 ra => ?_
  subst e1
  refine q_for (it_lst (ds := [A, B].map planD) (ev_d rfl (Rep.same s1 r))) fun H3 G s3 eG hB => ⟨fun i σ' H' => Same H3 H' ∧ (([A, B].take i).foldl amB (List.replicate A.sorts.length 1)).length ≤ 4 ∧ ∃ am x1 x2 x3 x4 x5 x6, σ' = [some v, some (.int (([A, B].take i).foldl stB 1 : Nat)), some am, x1, x2, x3, x4, x5, x6] ∧ Rep K H' (natsL (([A, B].take i).foldl amB (List.replicate A.sorts.length 1))) am, ⟨Same.refl _, by show (List.replicate A.sorts.length 1).length ≤ 4; rw [List.length_replicate]; exact fA, _, _, _, _, _, _, _, rfl, Rep.same s3 ra⟩, fun i σ' H' k => eG H' k.1, ?_, ?_⟩
  · rintro i d x σ' H' H'' hd ⟨q1, ql, am, x1, x2, x3, x4, x5, x6, rfl, rm⟩ s4 rd
    obtain ⟨b, e5, rfl⟩ := map_at hd
    have kb : b.ok := by
      have := List.mem_of_getElem? e5
      simp at this
      rcases this with z | z <;> rw [z] <;> assumption
    have e7 : ([A, B].take (i + 1)).foldl stB 1 = stB (([A, B].take i).foldl stB 1) b := fold_at e5
    have e8 : ([A, B].take (i + 1)).foldl amB (List.replicate A.sorts.length 1) = amB (([A, B].take i).foldl amB (List.replicate A.sorts.length 1)) b := fold_at e5
    generalize ([A, B].take i).foldl stB 1 = t at e7
    generalize ([A, B].take i).foldl amB (List.replicate A.sorts.length 1) = l at e8 rm ql
    refine q_asgG (ev_fn b (da_cons (ev_d rfl rd) da_nil) kb) fun tv H5 s5 rt => g_tup2 rt fun sv ov rs ro => ?_
    refine q_for (it_lst (ds := b.periods.map fun (n : Nat) => .int (n : Int)) (ev_d rfl rs)) fun H6 G6 s6 eG6 hB6 => ⟨fun j σ' H' => Same H6 H' ∧ ∃ y, σ' = [some v, some (.int ((b.periods.take j).foldl (· * ·) t : Nat)), some am, some x, some sv, some ov, y, x5, x6], ⟨Same.refl _, _, rfl⟩, fun j σ' H' k => eG6 H' k.1, ?_, ?_⟩
    · rintro j d' x' σ'' I I2 hd' ⟨k1, y, rfl⟩ s7 rd'
      obtain ⟨n, e9, rfl⟩ := map_at (f := fun (n : Nat) => D.int (n : Int)) hd'
      have rd' : x' = .int (n : Int) := rd'
      subst rd'
      have pl := (per_lt kb (List.mem_of_getElem? e9)).1
      refine s_let (ev_mulR (ev_v rfl) (ev_v rfl) (by omega) (by omega)) fun I3 s8 => ⟨(k1.trans s7).trans s8, some (.int (n : Int)), ?_⟩
      rw [fold_at e9, ← Int.natCast_mul]; rfl
    · rintro σ'' I ⟨k1, y, rfl⟩
      rw [List.length_map, List.take_length]
      have st := (s5.trans s6).trans k1
      refine s_asg (P := Dt K (natsL (amB l b))) (NewL.dt (Ev.imp (ev_lc2 (fun q : Nat × Nat => .int (q.1 : Int)) (fun q => .int (q.2 : Int)) (fun q => .int (lcmN q.1 q.2 : Int)) (it_z2m false false (fun (n : Nat) => .int (n : Int)) (fun (n : Nat) => .int (n : Int)) (l1 := l) (l2 := b.owns) (da_cons (ev_d rfl (Rep.same (s4.trans st) rm)) (da_cons (ev_d rfl (Rep.same (s6.trans k1) ro)) da_nil))) (by rw [List.length_zip]; omega) (fun _ _ => rfl) (fun _ _ => rfl) fun q u1 u2 H8 hq s8 r1 r2 => ?_) fun v H8 _ q => ?_)) fun nv H8 s8 rn => ?_
      · have r1 : u1 = .int (q.1 : Int) := r1
        have r2 : u2 = .int (q.2 : Int) := r2
        subst r1 r2
        obtain ⟨o1, o2⟩ := owns_lt kb (List.of_mem_zip hq).2
        have g0 := gcd_pos_r (t := q.1) o2
        have g1 : Nat.gcd q.1 q.2 ≤ q.2 := Nat.le_of_dvd o2 (Nat.gcd_dvd_right _ _)
        refine (ev_mulR (ev_I (ev_v rfl) (ev_fn (q.1, q.2) (da_cons (ev_v rfl) (da_cons (ev_v rfl) da_nil)) trivial) (cdn g0 (Nat.lt_of_le_of_lt g1 o1))) (ev_v rfl) (by omega) (by omega)).is ?_
        show V.int ((q.1 : Int).fdiv (Nat.gcd q.1 q.2 : Nat) * (q.2 : Int)) = V.int (lcmN q.1 q.2 : Nat)
        rw [fdiv_nat, ← Int.natCast_mul]; rfl
      · unfold amB
        rw [List.map_map]; exact q
      · refine ⟨((((q1.trans s4).trans s5).trans s6).trans k1).trans s8, by rw [e8]; exact Nat.le_trans (amB_len l b) ql, nv, some x, some sv, some ov, y, x5, x6, ?_, by rw [e8]; exact rn⟩
        rw [e7]; rfl
  · rintro σ' H' ⟨q1, ql, am, x1, x2, x3, x4, x5, x6, rfl, rm⟩
    have st := (s1.trans s3).trans q1
    exact s_ret (ev_tup (K := K) (l := [.int (manySt A B : Int), natsL (manyAm A B)]) (da_cons (ev_v rfl) (da_cons (ev_d rfl rm) da_nil)) (show 2 ≤ 100000 by decide)) fun v H5 s5 q => h2 v H5 (st.trans s5) q
end
end LC
end
section
set_option Elab.async false
set_option linter.all false
set_option maxRecDepth 100000
set_option maxHeartbeats 1000000
/-! A list that is changed while one evaluates: the jar at p. -/
namespace LC
open PySem PySem.Spec L2
def JarOk (H : Hp) (p : Addr) : Prop := ∃ i j k : Int, H p = some (.lst [.int i, .int j, .int k])
theorem JarOk.same {H H' : Hp} {p : Addr} (h : JarOk H p) (e : Same H H') : JarOk H' p := let ⟨i, j, k, h⟩ := h; ⟨i, j, k, e _ _ h⟩
theorem sOth {H H' : Hp} (e : Same H H') (p : Addr) : Oth p H H' := fun a o _ h => e a o h
theorem Oth.trans {p : Addr} {H H1 H2 : Hp} (a : Oth p H H1) (b : Oth p H1 H2) : Oth p H H2 := fun c o hc h => b c o hc (a c o hc h)
theorem Oth.keepT {p : Addr} {H H' : Hp} (e : Oth p H H') (j : JarOk H p) : KeepT H H' := fun a xs h => e a _ (fun z => by
  obtain ⟨i, j, k, hj⟩ := j
  rw [z, hj] at h; cases h) h
/-- what is said of a value stays while all but the jar stays -/
def MonoJ (p : Addr) (P : PV) : Prop := ∀ v H H', Oth p H H' → JarOk H p → P v H → P v H'
theorem monoJ_is {p : Addr} {v : V} : MonoJ p (Is v) := fun _ _ _ _ _ h => h
theorem monoJ_dt {p : Addr} {K : PySem.W.Frag} {d : D} (h : d.tupsOnly = true) : MonoJ p (Dt K d) := fun _ _ _ e j r => Rep.keepT (e.keepT j) h r
theorem monoJ_ex {p : Addr} {α : Type} {P : α → PV} {C : α → Prop} (h : ∀ a, C a → MonoJ p (P a)) : MonoJ p (fun v H => ∃ a, C a ∧ P a v H) := fun v H H' e j ⟨a, c, q⟩ => ⟨a, c, h a c v H H' e j q⟩
def EvJ (p : Addr) (t : TE) (σ : St) (H : Hp) (P : PV) : Prop := ∀ H1, Oth p H H1 → JarOk H1 p → ∀ Q : VK, (∀ v H2, Oth p H1 H2 → JarOk H2 p → P v H2 → Q v H2) → t σ H1 Q
def EaJ (p : Addr) (t : TA) (σ : St) (H : Hp) (R : List V → Hp → Prop) : Prop := ∀ H1, Oth p H H1 → JarOk H1 p → ∀ Q : List V → Hp → Prop, (∀ v H2, Oth p H1 H2 → JarOk H2 p → R v H2 → Q v H2) → t σ H1 Q
section
variable {p : Addr} {K : PySem.W.Frag} {σ : St} {H : Hp} {te ta tb : TE} {tr : TA} {P P1 P2 : PV} {R : List V → Hp → Prop} {E : Ends} {z : TS} {i : Nat} {l : List D}
theorem evJ_of (h : ∀ H1, Oth p H H1 → JarOk H1 p → Ev te σ H1 P) : EvJ p te σ H P := fun H1 e j Q q => h H1 e j H1 (Same.refl _) Q fun v H2 s pv => q v H2 (sOth s p) (j.same s) pv
theorem EvJ.at {H' : Hp} (e : Oth p H H') (h : EvJ p te σ H P) : EvJ p te σ H' P := fun H1 a j Q q => h H1 (e.trans a) j Q q
theorem EvJ.imp (h : EvJ p te σ H P) (k : ∀ v H', JarOk H' p → P v H' → P1 v H') : EvJ p te σ H P1 := fun H1 e j Q q => h H1 e j Q fun v H2 e2 j2 pv => q v H2 e2 j2 (k v H2 j2 pv)
theorem evJ_op {r : R2} (ha : EvJ p ta σ H P1) (hb : EvJ p tb σ H P2) (m : MonoJ p P1) (hr : ∀ x y H1, JarOk H1 p → P1 x H1 → P2 y H1 → ∀ Q : VK, (∀ v H2, Same H1 H2 → P v H2 → Q v H2) → r x y H1 Q) : EvJ p (tOp r ta tb) σ H P := fun H1 e j Q q =>
  ha H1 e j _ fun x H2 e2 j2 p1 => hb H2 (e.trans e2) j2 _ fun y H3 e3 j3 p2 => hr x y H3 j3 (m _ _ _ e3 j2 p1) p2 Q fun v H4 s4 p4 => q v H4 ((e2.trans e3).trans (sOth s4 p)) (j3.same s4) p4
theorem eaJ_nil : EaJ p tNil σ H (fun vs _ => vs = []) := fun H1 _ j Q q => q [] H1 (Oth.refl _) j rfl
theorem eaJ_cons (h : EvJ p ta σ H P) (m : MonoJ p P) (hr : EaJ p tr σ H R) : EaJ p (tCons ta tr) σ H (fun vs H2 => ∃ v r, vs = v :: r ∧ P v H2 ∧ R r H2) := fun H1 e j _ q =>
  h H1 e j _ fun v H2 e2 j2 pv => hr H2 (e.trans e2) j2 _ fun r H3 e3 j3 pr => q _ H3 (e2.trans e3) j3 ⟨v, r, rfl, m _ _ _ e3 j2 pv, pr⟩
theorem evJ_tup (h : EaJ p tr σ H R) (hl : ∀ vs H1, R vs H1 → vs.length ≤ 1000) (hm : ∀ vs H1 H2, Same H1 H2 → R vs H1 → R vs H2) : EvJ p (tTup tr) σ H (fun v H2 => ∃ a vs, v = .ref a ∧ H2 a = some (.tup vs) ∧ R vs H2) := fun H1 e j Q q =>
  h H1 e j _ fun vs H2 e2 j2 rv => ⟨sz (Nat.le_trans (hl vs H2 rv) (by decide)), fun a ha => q _ _ (e2.trans (sOth (same_new ha) p)) (j2.same (same_new ha)) ⟨a, vs, rfl, upd_same, hm _ _ _ (same_new ha) rv⟩⟩
theorem sJ_asg (h : EvJ p te σ H P) (j : JarOk H p) (k : ∀ v H1, Oth p H H1 → JarOk H1 p → P v H1 → E.nx (σ.set i (some v)) H1) : tAsg te (gName i) E σ H := h H (Oth.refl _) j _ fun v H1 e j1 pv => k v H1 e j1 pv
theorem qJ_asg (h : EvJ p te σ H P) (j : JarOk H p) (k : ∀ v H1, Oth p H H1 → JarOk H1 p → P v H1 → z E (σ.set i (some v)) H1) : tSeq (tAsg te (gName i)) z E σ H := sJ_asg (E := { E with nx := z E }) h j k
theorem sJ_ret (h : EvJ p te σ H P) (j : JarOk H p) (k : ∀ v H1, Oth p H H1 → JarOk H1 p → P v H1 → E.rt v H1) : tRet te E σ H := h H (Oth.refl _) j _ fun v H1 e j1 pv => k v H1 e j1 pv
/-- the first n of a list -/
theorem ev_slHead {n : Nat} (h : Ev te σ H (Dt K (.lst l))) (hi : Ev tb σ H (Is (.int (n : Int)))) : Ev (tSl (rSlL K) te tNoPart (tPart tb)) σ H (NewL K H (l.take n)) := fun H1 s Q q =>
  h H1 s _ fun v H2 s2 ⟨a, xs, ev, hx, hr⟩ => hi H2 (s.trans s2) _ fun w H3 s3 e => ⟨(n : Int), e, a, xs, ev, same_sqL s3 hx, fun p hp => q _ _ ((s2.trans s3).trans (same_new hp)) ⟨p, _, rfl, fresh_back ((s.trans s2).trans s3) hp, upd_same, by
    have hlen := hr.length
    unfold cutV
    have e1 : HT.sIx xs.length 0 (none : Option Int) = 0 := rfl
    rw [e1, HT.sIx_nat, List.drop_zero, Nat.sub_zero]
    have e2 : xs.take (min n xs.length) = xs.take n := by
      by_cases c : n ≤ xs.length
      · rw [Nat.min_eq_left c]
      · rw [Nat.min_eq_right (by omega), List.take_length, List.take_of_length_le (by omega)]
    rw [e2]
    exact RepAll.same (s3.trans (same_new hp)) (RepAll.take _ hr)⟩⟩
/-- a call by a promise that changes the jar -/
theorem evJ_call {sp : Sp} (h : EaJ p tr σ H R) (hr : ∀ vs H1, Oth p H H1 → JarOk H1 p → R vs H1 → ∀ Q : VK, (∀ v H2, Oth p H1 H2 → JarOk H2 p → P v H2 → Q v H2) → sp vs H1 Q E0) : EvJ p (tCall sp [] E0 tr) σ H P := fun H1 e j Q q =>
  h H1 e j _ fun vs H2 e2 j2 rv => by
    show sp (vs ++ []) H2 Q E0
    rw [List.append_nil]
    exact hr vs H2 (e.trans e2) j2 rv Q fun v H3 e3 j3 pv => q v H3 (e2.trans e3) j3 pv
theorem evJ_v {k : Nat} {v : V} (h : σ[k]? = some (some v)) : EvJ p (tVar k) σ H (Is v) := evJ_of fun _ _ _ => ev_v h
theorem evJ_c {v : V} : EvJ p (tC v) σ H (Is v) := evJ_of fun _ _ _ => ev_c
end
end LC
end
section
set_option Elab.async false
set_option linter.all false
set_option maxRecDepth 100000
set_option maxHeartbeats 2000000
/-! the jar: cell, jar, dig -/
namespace LC
open PySem PySem.Spec L2
section
variable {P : Program} {w : World} {K : PySem.W.Frag} {mg : Str → Option Value} {base : Heap}
abbrev AnyInt : PV := fun v _ => ∃ i : Int, v = .int i
abbrev spCell (K : PySem.W.Frag) : Sp := spF K (fun a : List Int × Nat => [.lst (a.1.map D.int), .int (a.2 : Int)]) (fun a => a.1.length ≤ 1000) fun _ => AnyInt
-- _law_cells 0 _law_spot 1 _law_mixed 2 _law_number 3
theorem sc__law_cell : FnScope ["_law_cells", "_law_spot", "_law_mixed", "_law_number"] ["_law_cells", "_law_spot"] (defScope (top 91)) := ⟨rfl, rfl, rfl, by decide +kernel, rfl, by decide +kernel, by decide +kernel⟩
theorem ok__law_cell (E : Env P w K mg base)  : Okf P w K mg base 1 "_law_cell" ["_law_cells", "_law_spot"] (spCell K) :=
  okf_mk E 44 44 rfl rfl sc__law_cell (fun _ _ _ _ _ _ us hl => match us, hl with | [_, _], _ => rfl) (spF_len fun _ => rfl) fun cdv A outer s H vs Q E0 hr h => by
  obtain ⟨⟨l, n⟩, h1, hl, h2⟩ := h
  have hl : l.length ≤ 1000 := hl
  obtain ⟨v, _, rfl, r, rfl⟩ := two_of h1
  have r : Rep K H (.lst (l.map D.int)) v := r
  have nd := sc__law_cell.nd
  refine ⟨_, (pss_cons (ps_if (pt_cmpR op_lt (pv 1) (kLen (K := K) rfl (E.free 61) (pa_cons (pv 0) pa_nil)) (nomark _)) (pss_one (ps_ret (pe_callTy call_int1 (by rfl) (E.free 63) (by decide +kernel) (pa_cons (kIxL (K := K) rfl (pv 0) (pv 1)) pa_nil)))) pss_nil)
      (pss_cons (ps_set (i := 2) nd rfl (.inl rfl) (pe_op op_add (pe_op op_mul pe_int (pv 1)) pe_int))
      (pss_cons (ps_for PassesOwn.never rfl (kIList (K := K) rfl (kSlL (K := K) rfl (pv 0) po_none (po_some pe_int))) (pg_name (i := 3) nd rfl (.inl rfl)) (pss_one (ps_set (i := 2) nd rfl (.inl rfl) (pe_op op_modN (pe_callTy call_int1 (by rfl) (E.free 63) (by decide +kernel) (pa_cons (pe_op op_add (pe_op op_add (pe_op op_mul (pv 2) pe_int) (pv 3)) pe_int) pa_nil)) pe_int))))
      (pss_one (ps_ret (pv 2)))))), ?_⟩
  refine q_if (b := decide (n < l.length)) ((et_t (ev_I0 (ev_v rfl) (ev_len (K := K) false (da_cons (ev_d rfl r) da_nil)))).is (by rw [List.length_map, decide_eq_decide]; omega)) (fun c H1 s1 => ?_) (fun c H1 s1 => ?_)
  · have c := of_decide_eq_true c
    exact s_retv (ev_int (K := K) (da_cons (ev_ixL (n := n) (ev_d rfl (Rep.same s1 r)) (ev_v rfl) (int_at c)) da_nil)) fun H2 s2 => h2 _ H2 (s1.trans s2) ⟨_, rfl⟩
  · refine q_let (ev_I0 (ev_mulL ev_c (ev_v rfl) (by decide) (by decide)) ev_c) fun H2 s2 => ?_
    have r2 := Rep.same (s1.trans s2) r
    refine q_for (it_lst (ds := (l.take 4).map D.int) (Ev.imp (NewL.dt (ev_slHead (K := K) (n := 4) (ev_d rfl r2) ev_c)) fun v H3 _ q => by rw [List.map_take]; exact q)) fun H3 G s3 eG hB => ⟨fun i σ' H' => Same H3 H' ∧ ∃ (m : Int) (x : Option V), σ' = [some v, some (.int (n : Int)), some (.int m), x], ⟨Same.refl _, _, _, rfl⟩, fun i σ' H' k => eG H' k.1, ?_, ?_⟩
    · rintro i d x σ' H' H'' hd ⟨q1, m, y, rfl⟩ s4 rd
      obtain ⟨a, e5, rfl⟩ := map_at hd
      have rd : x = .int a := rd
      subst rd
      exact s_let (ev_modP (ev_int (K := K) (da_cons (ev_I0 (ev_I0 (ev_mulR (ev_v rfl) ev_c (by decide) (by decide)) (ev_v rfl)) ev_c) da_nil)) ev_c (by decide)) fun H5 s5 => ⟨(q1.trans s4).trans s5, _, some (.int a), rfl⟩
    · rintro σ' H' ⟨q1, m, y, rfl⟩
      exact s_retv (ev_v rfl) fun H5 s5 => h2 _ H5 ((((s1.trans s2).trans s3).trans q1).trans s5) ⟨_, rfl⟩
abbrev spJar (K : PySem.W.Frag) : Sp := fun vs H Q _ => ∃ a : List Int × Nat, RepAll K H [.lst (a.1.map D.int), .int (a.2 : Int)] vs ∧ a.1.length ≤ 1000 ∧ ∀ p H2, Same H H2 → H p = none → JarOk H2 p → Q (.ref p) H2
theorem spJar_len {K : PySem.W.Frag} : ∀ vs H Q E, spJar K vs H Q E → vs.length = 2 := by
  rintro _ _ _ _ ⟨_, h, _⟩; exact h.length
-- _law_cells 0 _law_spot 1 _law_cell_here 2
theorem sc__law_jar : FnScope ["_law_cells", "_law_spot", "_law_cell_here"] ["_law_cells", "_law_spot"] (defScope (top 92)) := ⟨rfl, rfl, rfl, by decide +kernel, rfl, by decide +kernel, by decide +kernel⟩
theorem ok__law_jar (E : Env P w K mg base) (o__law_cell : Okf P w K mg base 1 "_law_cell" ["_law_cells", "_law_spot"] (spCell K)) : Okf P w K mg base 2 "_law_jar" ["_law_cells", "_law_spot"] (spJar K) :=
  okf_mk E 45 45 rfl rfl sc__law_jar (fun _ _ _ _ _ _ us hl => match us, hl with | [_, _], _ => rfl) spJar_len fun cdv A outer s H vs Q E0 hr h => by
  obtain ⟨⟨l, n⟩, h1, hl, h2⟩ := h
  have hl : l.length ≤ 1000 := hl
  obtain ⟨v, _, rfl, r, rfl⟩ := two_of h1
  have nd := sc__law_jar.nd
  refine ⟨_, (pss_cons (ps_set (i := 2) nd rfl (.inl rfl) (pe_callB call_abs (by rfl) (E.free 68) (by decide +kernel) (pa_cons (pe_okf o__law_cell (hr.mono (by decide)) (pa_cons (pv 0) (pa_cons (pv 1) pa_nil))) pa_nil)))
      (pss_one (ps_ret (pe_lst (pa_cons (pv 2) (pa_cons (pe_op op_modN (pe_callTy call_int1 (by rfl) (E.free 63) (by decide +kernel) (pa_cons (pe_op op_add (pv 2) (pe_op op_mul pe_int (pv 1))) pa_nil)) pe_int) (pa_cons pe_int pa_nil))))))), ?_⟩
  refine q_asg (P := AnyInt) (fun H1 s Q q => (ev_fn (K := K) (e := fun a : List Int × Nat => [.lst (a.1.map D.int), .int (a.2 : Int)]) (ok := fun a => a.1.length ≤ 1000) (P := fun _ => AnyInt) (σ := [some v, some (.int (n : Int)), none]) (H := H) (ta := tCons (tVar 0) (tCons (tVar 1) tNil)) (l, n) (da_cons (ev_d rfl r) (da_cons (ev_v rfl) da_nil)) hl) H1 s _ fun u H2 s2 ⟨i, e⟩ => ⟨i, by rw [e], q _ H2 s2 ⟨_, rfl⟩⟩) fun v1 H1 s1 ⟨i, e1⟩ => ?_
  subst e1
  refine s_ret (ev_lst (K := K) (l := [.int i, .int ((i + 907 * (n : Int)) % 2147483587), .int 0]) (da_cons (ev_v rfl) (da_cons (ev_modP (ev_int (K := K) (da_cons (ev_I0 (ev_v rfl) (ev_mulL ev_c (ev_v rfl) (by decide) (by decide))) da_nil)) ev_c (by decide)) (da_cons ev_c da_nil))) (show 3 ≤ 100000 by decide)) fun u H2 s2 ⟨p, xs, e2, g1, g2, v1, r1, f1, f2, v2, r2, f3, f4, v3, r3, f5, f6, f7⟩ => ?_
  have f2 : v1 = .int i := f2
  have f4 : v2 = .int ((i + 907 * (n : Int)) % 2147483587) := f4
  have f6 : v3 = .int 0 := f6
  have f7 : r3 = [] := f7
  subst f7 f6 f5 f4 f3 f2 f1 e2
  exact h2 p H2 (s1.trans s2) (fresh_back s1 g1) ⟨_, _, _, g2⟩
end
end LC
end
section
set_option Elab.async false
set_option linter.all false
set_option maxRecDepth 100000
set_option maxHeartbeats 2000000
/-! draws from the jar -/
namespace LC
open PySem PySem.Spec L2
def spJ {α : Type} (K : PySem.W.Frag) (e : α → List D) (ok : α → Prop) (P : α → PV) : Sp := fun vs H Q _ => ∃ (p : Addr) (a : α), RepAll K H (.ref p :: e a) vs ∧ JarOk H p ∧ ok a ∧ ∀ v H2, Oth p H H2 → JarOk H2 p → P a v H2 → Q v H2
section
variable {p : Addr} {K : PySem.W.Frag} {σ : St} {H : Hp} {te ta tb : TE} {tr : TA} {P : PV} {E : Ends} {z : TS} {l : List D} {d : D} {xs : List V} {α : Type} {e : α → List D} {ok : α → Prop} {PP : α → PV}
theorem spJ_len {n : Nat} (hl : ∀ a, (e a).length + 1 = n) : ∀ vs H Q E, spJ K e ok PP vs H Q E → vs.length = n := fun vs H Q E ⟨p, a, h, _⟩ => by rw [h.length, List.length_cons, hl a]
theorem daJ_nil : EaJ p tNil σ H (Da K []) := fun H1 _ j Q q => q [] H1 (Oth.refl _) j rfl
theorem daJ_cons (h : EvJ p ta σ H (Dt K d)) (hd : d.tupsOnly = true) (hr : EaJ p tr σ H (Da K l)) : EaJ p (tCons ta tr) σ H (Da K (d :: l)) := eaJ_cons h (monoJ_dt hd) hr
theorem evJ_fn (a : α) (h : EaJ p tr σ H (Da K (.ref p :: e a))) (ha : ok a) : EvJ p (tCall (spJ K e ok PP) [] E0 tr) σ H (PP a) :=
  evJ_call h fun vs H1 _ j r Q q => ⟨p, a, r, j, ha, fun v H2 e2 j2 pv => q v H2 e2 j2 pv⟩
theorem evJ_d {k : Nat} {v : V} (h : σ[k]? = some (some v)) (r : Rep K H d v) (t : d.tupsOnly = true) (j : JarOk H p) : EvJ p (tVar k) σ H (Dt K d) := evJ_of fun H1 e _ => ev_d h (Rep.keepT (e.keepT j) t r)
/-- jar[n] = an int -/
theorem s_setL {k n : Nat} {x : Int} (h : Ev te σ H (Is (.int x))) (hk : σ[k]? = some (some (.ref p))) (hp : H p = some (.lst xs)) (hn : n < xs.length) (c : ∀ H1, Same H H1 → E.nx σ (upd H1 p (.lst (xs.set n (.int x))))) : tAsg te (gSub (tVar k) (tC (.int (n : Int))) rSetL) E σ H :=
  h H (Same.refl _) _ fun v H1 s ev => ⟨.ref p, hk, p, xs, (n : Int), n, rfl, rfl, s _ _ hp, by unfold ixN; rw [if_pos (by omega), Int.toNat_natCast, if_pos (by omega)], by rw [show v = .int x from ev]; exact c H1 s⟩
theorem q_setL {k n : Nat} {x : Int} (h : Ev te σ H (Is (.int x))) (hk : σ[k]? = some (some (.ref p))) (hp : H p = some (.lst xs)) (hn : n < xs.length) (c : ∀ H1, Same H H1 → z E σ (upd H1 p (.lst (xs.set n (.int x))))) : tSeq (tAsg te (gSub (tVar k) (tC (.int (n : Int))) rSetL)) z E σ H := s_setL (E := { E with nx := z E }) h hk hp hn c
theorem jar_rep {i j k : Int} (h : H p = some (.lst [.int i, .int j, .int k])) : Rep K H (.lst [.int i, .int j, .int k]) (.ref p) := ⟨p, _, rfl, SqL.of h, _, _, rfl, rfl, _, _, rfl, rfl, _, _, rfl, rfl, rfl⟩
end
section
variable {P : Program} {w : World} {K : PySem.W.Frag} {mg : Str → Option Value} {base : Heap}
abbrev DigP (n : Nat) : PV := fun v _ => ∃ d : Nat, d < n ∧ v = .int (d : Int)
abbrev spDig (K : PySem.W.Frag) : Sp := spJ K (fun n : Nat => [.int (n : Int)]) (fun n => 0 < n ∧ n < 2 ^ 30) DigP
-- _law_jar_here 0 _law_many_here 1 _law_mixed 2 _law_digit 3
theorem sc__law_dig : FnScope ["_law_jar_here", "_law_many_here", "_law_mixed", "_law_digit"] ["_law_jar_here", "_law_many_here"] (defScope (top 93)) := ⟨rfl, rfl, rfl, by decide +kernel, rfl, by decide +kernel, by decide +kernel⟩
theorem ok__law_dig (E : Env P w K mg base)  : Okf P w K mg base 1 "_law_dig" ["_law_jar_here", "_law_many_here"] (spDig K) :=
  okf_mk E 46 46 rfl rfl sc__law_dig (fun _ _ _ _ _ _ us hl => match us, hl with | [_, _], _ => rfl) (spJ_len fun _ => rfl) fun cdv A outer s H vs Q E0 hr h => by
  obtain ⟨p, n, h1, ⟨i, j, k, hp⟩, ⟨n0, n1⟩, h2⟩ := h
  obtain ⟨_, _, rfl, rfl, rfl⟩ := two_of h1
  have nd := sc__law_dig.nd
  refine ⟨_, (pss_cons (ps_asg (pe_op op_add (kIxL (K := K) rfl (pv 0) pe_int) pe_int) (pg_sub (pv 0) pe_int set_list))
      (pss_cons (ps_set (i := 2) nd rfl (.inl rfl) (pe_callTy call_int1 (by rfl) (E.free 63) (by decide +kernel) (pa_cons (kIxL (K := K) rfl (pv 0) pe_int) pa_nil)))
      (pss_cons (ps_asg (pe_op op_modN (pe_callTy call_int1 (by rfl) (E.free 63) (by decide +kernel) (pa_cons (pe_op op_add (pe_op op_add (pe_op op_mul (pv 2) (pe_op op_add (pe_op op_modN (pe_callTy call_int1 (by rfl) (E.free 63) (by decide +kernel) (pa_cons (pv 2) pa_nil)) pe_int) pe_int)) (pe_op op_mul (kIxL (K := K) rfl (pv 0) pe_int) pe_int)) pe_int) pa_nil)) pe_int) (pg_sub (pv 0) pe_int set_list))
      (pss_cons (ps_if (pt_cmpR op_gt (kIxL (K := K) rfl (pv 0) pe_int) pe_int (nomark _)) (pss_cons (ps_asg (pe_callB call_divmod (by rfl) (E.free 69) (by decide +kernel) (pa_cons (kIxL (K := K) rfl (pv 0) pe_int) (pa_cons (pv 1) pa_nil))) (kGTup (K := K) (n := 2) rfl rfl (pgs_cons (pg_sub (pv 0) pe_int set_list) (pgs_cons (pg_name (i := 3) nd rfl (.inl rfl)) pgs_nil))))
      (pss_one (ps_ret (pv 3)))) pss_nil)
      (pss_one (ps_ret (pe_op op_modN (pe_callTy call_int1 (by rfl) (E.free 63) (by decide +kernel) (pa_cons (pe_op op_fdivN (kIxL (K := K) rfl (pv 0) pe_int) pe_int) pa_nil)) (pv 1)))))))), ?_⟩
  have dm : ∀ x : Int, (x % (n : Int)).toNat < n ∧ x % (n : Int) = ((x % (n : Int)).toNat : Int) := fun x => by
    have h1 := Int.emod_nonneg x (show (n : Int) ≠ 0 by omega)
    have h2 := Int.emod_lt_of_pos x (show (0 : Int) < (n : Int) by omega)
    omega
  refine q_setL (n := 2) (x := k + 1) (ev_I0 (ev_ixL (n := 2) (d := .int k) (ev_d rfl (jar_rep hp)) ev_c rfl) ev_c) rfl hp (show 2 < 3 by decide) fun H1 s1 => ?_
  have o1 : Oth p H (upd H1 p (.lst [.int i, .int j, .int (k + 1)])) := (sOth s1 p).upd
  refine q_let (ev_int (K := K) (da_cons (ev_ixL (n := 1) (d := .int j) (ev_d rfl (jar_rep upd_same)) ev_c rfl) da_nil)) fun H2 s2 => ?_
  have p2 : H2 p = some (.lst [.int i, .int j, .int (k + 1)]) := s2 _ _ upd_same
  have hm : 0 ≤ j % 29989 ∧ j % 29989 < 29989 := ⟨Int.emod_nonneg _ (by decide), Int.emod_lt_of_pos _ (by decide)⟩
  refine q_setL (n := 1) (ev_modP (ev_int (K := K) (da_cons (ev_I0 (ev_I0 (ev_mulR (ev_v rfl) (ev_I0 (ev_modP (ev_int (K := K) (da_cons (ev_v rfl) da_nil)) ev_c (by decide)) ev_c) (by omega) (by omega)) (ev_mulR (ev_ixL (n := 2) (d := .int (k + 1)) (ev_d rfl (jar_rep p2)) ev_c rfl) ev_c (by decide) (by decide))) ev_c) da_nil)) ev_c (by decide)) rfl p2 (show 1 < 3 by decide) fun H3 s3 => ?_
  generalize hj2 : (j * (j % 29989 + 40013) + (k + 1) * 65521 + 7) % 2147483587 = j2
  have o3 : Oth p H (upd H3 p (.lst [.int i, .int j2, .int (k + 1)])) := ((o1.same s2).same s3).upd
  have p3 : (upd H3 p (.lst [.int i, .int j2, .int (k + 1)])) p = some (.lst [.int i, .int j2, .int (k + 1)]) := upd_same
  refine q_if (et_t (ev_I0 (ev_ixL (n := 0) (d := .int i) (ev_d rfl (jar_rep p3)) ev_c rfl) ev_c)) (fun c H4 s4 => ?_) (fun c H4 s4 => ?_)
  · have p4 := s4 _ _ p3
    refine q_asgG (ev_divmod (K := K) (i := i) (j := (n : Int)) (da_cons (ev_ixL (n := 0) (d := .int i) (ev_d rfl (jar_rep p4)) ev_c rfl) (da_cons (ev_v rfl) da_nil)) ⟨by omega, by omega⟩) fun t H5 s5 ⟨ta, xs, e1, ht, u1, t1, e2, g1, u2, t2, e3, g2, e5⟩ => ?_
    have e5 : t2 = [] := e5
    have g1 : u1 = .int (i / (n : Int)) := g1
    have g2 : u2 = .int (i % (n : Int)) := g2
    subst e5 e3 e2 e1 g1 g2
    have p5 := s5 _ _ p4
    refine ⟨ta, _, rfl, SqT.of ht, rfl, _, _, rfl, .ref p, rfl, p, _, 0, 0, rfl, rfl, p5, rfl, _, _, rfl, rfl, ?_⟩
    refine s_retv (ev_v rfl) fun H6 s6 => h2 _ H6 (((o3.same s4).same s5).upd.same s6) ⟨_, _, _, s6 _ _ upd_same⟩ ⟨(i % (n : Int)).toNat, (dm i).1, by rw [← (dm i).2]⟩
  · have p4 := s4 _ _ p3
    refine s_retv (ev_modP (ev_int (K := K) (da_cons (ev_divP (ev_ixL (n := 1) (d := .int j2) (ev_d rfl (jar_rep p4)) ev_c rfl) ev_c (by decide) (by decide)) da_nil)) (ev_v rfl) (by omega)) fun H6 s6 => h2 _ H6 ((o3.same s4).same s6) ⟨_, _, _, s6 _ _ p4⟩ ⟨((j2 / 128) % (n : Int)).toNat, (dm _).1, by rw [← (dm _).2]⟩
end
end LC
end
section
set_option Elab.async false
set_option linter.all false
set_option maxRecDepth 100000
set_option maxHeartbeats 1000000
/-! Data drawn from the jar: one of many. -/
namespace LC
open PySem PySem.Spec L2
/-- a value that is one of some data of tuples -/
abbrev DX (K : PySem.W.Frag) (C : D → Prop) : PV := fun v H => ∃ d, C d ∧ d.tupsOnly = true ∧ Rep K H d v
abbrev AX (K : PySem.W.Frag) (C : List D → Prop) : List V → Hp → Prop := fun vs H => ∃ l, C l ∧ D.tupsOnlys l = true ∧ RepAll K H l vs
/-- a list, not the jar, of tuple data -/
def LstJ (p : Addr) (K : PySem.W.Frag) (l : List D) : PV := fun v H => ∃ a xs, v = .ref a ∧ a ≠ p ∧ H a = some (.lst xs) ∧ D.tupsOnlys l = true ∧ RepAll K H l xs
section
variable {p : Addr} {K : PySem.W.Frag} {σ : St} {H : Hp} {te ta tb : TE} {tr : TA} {P P1 P2 : PV} {E : Ends} {z : TS} {l : List D} {d : D} {C C1 C2 : D → Prop} {R A B : List D → Prop}
theorem jar_ne {a : Addr} (j : JarOk H p) (n : H a = none) : a ≠ p := fun z => by
  obtain ⟨i, k, m, hj⟩ := j
  rw [z, hj] at n
  cases n
theorem monoJ_X : MonoJ p (DX K C) := fun _ _ _ e j ⟨d, c, t, r⟩ => ⟨d, c, t, Rep.keepT (e.keepT j) t r⟩
theorem monoJ_L : MonoJ p (LstJ p K l) := fun _ _ _ e j ⟨a, xs, e1, n, h1, t, r⟩ => ⟨a, xs, e1, n, e _ _ n h1, t, RepAll.keepT (e.keepT j) t r⟩
theorem evX_imp (h : EvJ p te σ H (DX K C)) (k : ∀ d, C d → C1 d) : EvJ p te σ H (DX K C1) := h.imp fun _ _ _ ⟨d, c, t, r⟩ => ⟨d, k d c, t, r⟩
theorem eaX_imp (h : EaJ p tr σ H (AX K A)) (k : ∀ l, A l → B l) : EaJ p tr σ H (AX K B) := fun H1 e j Q q => h H1 e j Q fun vs H2 e2 j2 ⟨l, c, t, r⟩ => q vs H2 e2 j2 ⟨l, k l c, t, r⟩
theorem eaX_nil : EaJ p tNil σ H (AX K fun l => l = []) := fun H1 _ j Q q => q [] H1 (Oth.refl _) j ⟨[], rfl, rfl, rfl⟩
theorem eaX_cons (h : EvJ p ta σ H (DX K C)) (hr : EaJ p tr σ H (AX K R)) : EaJ p (tCons ta tr) σ H (AX K fun l => ∃ d r, l = d :: r ∧ C d ∧ R r) := fun H1 e j _ q =>
  eaJ_cons h monoJ_X hr H1 e j _ fun vs H2 e2 j2 ⟨v, r, e3, ⟨d, c, t, rv⟩, ⟨l, cl, tl, rl⟩⟩ => q _ H2 e2 j2 ⟨d :: l, ⟨d, l, rfl, c, cl⟩, by show (d.tupsOnly && D.tupsOnlys l) = true; rw [t, tl]; rfl, v, r, e3, rv, rl⟩
theorem evX_tup (h : EaJ p tr σ H (AX K R)) (hl : ∀ l, R l → l.length ≤ 1000) : EvJ p (tTup tr) σ H (DX K fun d => ∃ l, d = .tup l ∧ R l) := fun H1 e j Q q =>
  h H1 e j _ fun vs H2 e2 j2 ⟨l, cl, tl, rl⟩ => ⟨sz (Nat.le_trans (by rw [rl.length]; exact hl l cl) (by decide)), fun a ha => q _ _ (e2.trans (sOth (same_new ha) p)) (j2.same (same_new ha)) ⟨.tup l, ⟨l, rfl, cl⟩, tl, a, vs, rfl, upd_same, RepAll.same (same_new ha) rl⟩⟩
theorem evX_d (h : ∀ H1, Oth p H H1 → JarOk H1 p → Ev te σ H1 (Dt K d)) (t : d.tupsOnly = true) : EvJ p te σ H (DX K fun x => x = d) := (evJ_of h).imp fun v H' _ r => ⟨d, rfl, t, r⟩
theorem evX_c {d : D} {v : V} (h : ∀ H, Rep K H d v) (t : d.tupsOnly = true) : EvJ p (tC v) σ H (DX K fun x => x = d) := evX_d (fun _ _ _ H1 _ Q q => q v H1 (Same.refl _) (h H1)) t
theorem evX_v {k : Nat} {v : V} (h : σ[k]? = some (some v)) (r : DX K C v H) (j : JarOk H p) : EvJ p (tVar k) σ H (DX K C) := fun H1 e j1 Q q => evJ_v h H1 e j1 Q fun v' H2 e2 j2 ev => q v' H2 e2 j2 (ev ▸ monoJ_X _ _ _ (e.trans e2) j r)
theorem evJ_vP {k : Nat} {v : V} (h : σ[k]? = some (some v)) (m : MonoJ p P) (r : P v H) (j : JarOk H p) : EvJ p (tVar k) σ H P := fun H1 e j1 Q q => evJ_v h H1 e j1 Q fun v' H2 e2 j2 ev => q v' H2 e2 j2 (ev ▸ m _ _ _ (e.trans e2) j r)
theorem ev_tC {v : V} (h : P v H) (m : Mono P) : Ev (tC v) σ H P := fun H1 s Q q => q v H1 (Same.refl _) (m v H H1 s h)
/-- an operation, read by its rule over the values -/
theorem evJ_op2 {r : R2} (ha : EvJ p ta σ H P1) (hb : EvJ p tb σ H P2) (m : MonoJ p P1) (hr : ∀ x y H1, P1 x H1 → P2 y H1 → Ev (tOp r (tC x) (tC y)) σ H1 P) : EvJ p (tOp r ta tb) σ H P :=
  evJ_op ha hb m fun x y H1 _ px py Q q => hr x y H1 px py H1 (Same.refl _) Q q
theorem evX_cat (ha : EvJ p ta σ H (DX K fun d => ∃ l, d = .tup l ∧ A l)) (hb : EvJ p tb σ H (DX K fun d => ∃ l, d = .tup l ∧ B l)) (hA : ∀ l, A l → l.length ≤ 1000) (hB : ∀ l, B l → l.length ≤ 1000) : EvJ p (tOp (rCatA K) ta tb) σ H (DX K fun d => ∃ l m, d = .tup (l ++ m) ∧ A l ∧ B m) :=
  evJ_op2 ha hb monoJ_X fun x y H1 ⟨_, ⟨l, e1, cl⟩, t1, r1⟩ ⟨_, ⟨m, e2, cm⟩, t2, r2⟩ => by
    subst e1 e2
    refine (ev_catT (ev_tC r1 mono_dt) (ev_tC r2 mono_dt) (by have := hA l cl; have := hB m cm; omega)).imp fun v H' _ q => ⟨_, ⟨l, m, rfl, cl, cm⟩, tupsOnlys_append t1 t2, q⟩
theorem sl_head {n i : Nat} : HT.sIx n n (some ((i : Nat) : Int)) = min i n := by rw [HT.sIx_nat]
/-- the head of a drawn tuple -/
theorem evX_slHead {i : Nat} (ha : EvJ p ta σ H (DX K fun d => ∃ l, d = .tup l ∧ A l)) (hA : ∀ l, A l → l.length ≤ i) (hb : ∀ H1, Ev tb σ H1 (Is (.int (i : Int)))) : EvJ p (tSl (rSlA K) ta tNoPart (tPart tb)) σ H (DX K fun d => ∃ l, d = .tup l ∧ A l) := fun H1 e j Q q =>
  ha H1 e j _ fun v H2 e2 j2 ⟨d, ⟨l, e3, cl⟩, t, r⟩ => by
    subst e3
    refine ev_slT (te := tC v) (n := 0) (z := l.length) (ev_tC r mono_dt) (hi := some (i : Int)) to_none (to_some (hb _)) rfl (by rw [sl_head]; exact Nat.min_eq_right (hA l cl)) H2 (Same.refl _) Q fun w H3 s3 rw' => q w H3 (e2.trans (sOth s3 p)) (j2.same s3) ⟨.tup l, ⟨l, rfl, cl⟩, t, ?_⟩
    have e4 : (l.drop 0).take (l.length - 0) = l := by rw [List.drop_zero, Nat.sub_zero, List.take_length]
    rw [e4] at rw'
    exact rw'
theorem evJ_newL (h : ∀ H1, Oth p H H1 → JarOk H1 p → Ev te σ H1 (NewL K H1 l)) (t : D.tupsOnlys l = true) : EvJ p te σ H (LstJ p K l) := fun H1 e j Q q =>
  h H1 e j H1 (Same.refl _) Q fun v H2 s ⟨a, xs, e1, n, h1, r⟩ => q v H2 (sOth s p) (j.same s) ⟨a, xs, e1, jar_ne j n, h1, t, r⟩
end
section
variable {p : Addr} {K : PySem.W.Frag} {σ : St} {H : Hp} {te ta tb : TE} {c : TT} {P : PV}
theorem evJ_if {b : Bool} (hc : ∀ H1, ET c σ H1 b) (ht : b = true → EvJ p ta σ H P) (hf : b = false → EvJ p tb σ H P) : EvJ p (tIf c ta tb) σ H P := fun H1 e j Q q =>
  hc H1 H1 (Same.refl _) _ fun H2 s2 => by
    cases b with
    | true => exact ht rfl H2 (e.trans (sOth s2 p)) (j.same s2) Q fun v H3 e3 j3 pv => q v H3 ((sOth s2 p).trans e3) j3 pv
    | false => exact hf rfl H2 (e.trans (sOth s2 p)) (j.same s2) Q fun v H3 e3 j3 pv => q v H3 ((sOth s2 p).trans e3) j3 pv
theorem tups_mem : ∀ {l : List D} {d : D}, D.tupsOnlys l = true → d ∈ l → d.tupsOnly = true
  | a :: l, d, h, m => by
    obtain ⟨h1, h2⟩ := Bool.and_eq_true_iff.mp (show (a.tupsOnly && D.tupsOnlys l) = true from h)
    rcases List.mem_cons.mp m with e | m
    · rw [e]; exact h1
    · exact tups_mem h2 m
end
/-- one of a list, drawn -/
def spTake (K : PySem.W.Frag) : Sp := fun vs H Q _ => ∃ (p : Addr) (l : List D), (∃ v, vs = [.ref p, v] ∧ LstJ p K l v H) ∧ JarOk H p ∧ (l ≠ [] ∧ l.length < 2 ^ 30) ∧ ∀ v H2, Oth p H H2 → JarOk H2 p → DX K (fun d => d ∈ l) v H2 → Q v H2
section
variable {p : Addr} {K : PySem.W.Frag} {σ : St} {H : Hp} {tb : TE} {l : List D}
theorem spTake_len : ∀ vs H Q E, spTake K vs H Q E → vs.length = 2 := fun vs H Q E ⟨p, l, ⟨v, e, _⟩, _⟩ => by rw [e]; rfl
theorem evJ_take {k : Nat} (hp : σ[k]? = some (some (.ref p))) (h : EvJ p tb σ H (LstJ p K l)) (hl : l ≠ [] ∧ l.length < 2 ^ 30) : EvJ p (tCall (spTake K) [] E0 (tCons (tVar k) (tCons tb tNil))) σ H (DX K fun d => d ∈ l) :=
  evJ_call (eaJ_cons (evJ_v hp) monoJ_is (eaJ_cons h monoJ_L eaJ_nil)) fun vs H1 _ j ⟨v, r, e1, e2, w, r2, e3, lw, e4⟩ Q q => by
    have e2 : v = .ref p := e2
    subst e4 e3 e2
    exact ⟨p, l, ⟨w, e1, lw⟩, j, hl, q⟩
end
end LC
end
section
set_option Elab.async false
set_option linter.all false
set_option maxRecDepth 100000
set_option maxHeartbeats 2000000
/-! draws: _law_take .. _law_extra -/
namespace LC
open PySem PySem.Spec L2
def facs : List (Nat × Nat) := [(1, 2), (1, 3), (2, 3), (3, 2), (1, 4), (3, 4), (5, 2), (1, 1), (2, 5)]
def IsWay (d : D) : Prop := ∃ w, w ∈ wayNames ∧ d = .str w
def IsFac (d : D) : Prop := ∃ f, f ∈ facs ∧ d = fD f
def IsUnit (d : D) : Prop := ∃ u : Nat, (1 ≤ u ∧ u ≤ 3) ∧ d = .int (u : Int)
def IsStp (f : Nat × Nat) (d : D) : Prop := ∃ w u, (w ∈ wayNames ∧ 1 ≤ u ∧ u ≤ 3) ∧ d = (Stp.times f.1 f.2 w u).d
def ExL (l : List Stp) : Prop := l = [] ∨ (∃ c : Int, -20 ≤ c ∧ c ≤ 20 ∧ l = [.plus c]) ∨ ∃ w u, w ∈ wayNames ∧ 1 ≤ u ∧ u ≤ 3 ∧ l = [.times 1 1 w u]
def IsEx (d : D) : Prop := ∃ l, ExL l ∧ d = stD l
section
variable {P : Program} {w : World} {K : PySem.W.Frag} {mg : Str → Option Value} {base : Heap}
abbrev spWay (K : PySem.W.Frag) : Sp := spJ K (fun _ : Unit => []) (fun _ => True) fun _ => DX K IsWay
abbrev spFac (K : PySem.W.Frag) : Sp := spJ K (fun _ : Unit => []) (fun _ => True) fun _ => DX K IsFac
abbrev spStp (K : PySem.W.Frag) : Sp := spJ K (fun f : Nat × Nat => [fD f]) (fun _ => True) fun f => DX K (IsStp f)
abbrev spEx (K : PySem.W.Frag) : Sp := spJ K (fun _ : Unit => []) (fun _ => True) fun _ => DX K IsEx
-- _law_jar_here 0 _law_some 1
theorem sc__law_take : FnScope ["_law_jar_here", "_law_some"] ["_law_jar_here", "_law_some"] (defScope (top 94)) := ⟨rfl, rfl, rfl, by decide +kernel, rfl, by decide +kernel, by decide +kernel⟩
theorem ok__law_take (E : Env P w K mg base) (o__law_dig : Okf P w K mg base 1 "_law_dig" ["_law_jar_here", "_law_many_here"] (spDig K)) : Okf P w K mg base 2 "_law_take" ["_law_jar_here", "_law_some"] (spTake K) :=
  okf_mk E 47 47 rfl rfl sc__law_take (fun _ _ _ _ _ _ us hl => match us, hl with | [_, _], _ => rfl) spTake_len fun cdv A outer s H vs Q E0 hr h => by
  obtain ⟨p, l, ⟨v, rfl, a, xs, rfl, ne, hx, tl, rx⟩, j, ⟨l0, l1⟩, h2⟩ := h
  have nd := sc__law_take.nd
  refine ⟨_, (pss_one (ps_ret (kIxL (K := K) rfl (pv 1) (pe_okf o__law_dig (hr.mono (by decide)) (pa_cons (pv 0) (pa_cons (kLen (K := K) rfl (E.free 61) (pa_cons (pv 1) pa_nil)) pa_nil)))))), ?_⟩
  have hn : 0 < l.length := List.length_pos_iff.mpr l0
  have lw : LstJ p K l (.ref a) H := ⟨a, xs, rfl, ne, hx, tl, rx⟩
  refine sJ_ret (P := DX K fun d => d ∈ l) (evJ_op2 (P1 := LstJ p K l) (P2 := DigP l.length) (evJ_vP rfl monoJ_L lw j) (evJ_fn l.length (daJ_cons (d := .ref p) (evJ_of fun _ _ _ => ev_v rfl) rfl (daJ_cons (d := .int (l.length : Int)) (evJ_of fun H1 e j1 => ev_len (K := K) false (l := l) (da_cons (ev_d rfl (d := .lst l) ?_) da_nil)) rfl daJ_nil)) ⟨hn, l1⟩) monoJ_L ?_) j fun v H1 e j1 pv => h2 v H1 e j1 pv
  · obtain ⟨a', xs', e1, _, hx', _, rx'⟩ := monoJ_L _ _ _ e j lw
    exact ⟨a', xs', e1, SqL.of hx', rx'⟩
  · rintro x y H1 ⟨a', xs', e1, _, hx', t', rx'⟩ ⟨d, d1, e2⟩
    subst e1 e2
    obtain ⟨q, hq⟩ : ∃ q, l[d]? = some q := ⟨_, List.getElem?_eq_getElem d1⟩
    refine (ev_ixL (n := d) (l := l) (ev_tC (P := Dt K (.lst l)) ⟨a', xs', rfl, SqL.of hx', rx'⟩ mono_dt) (ev_tC (P := Is (.int (d : Int))) rfl mono_is) hq).imp fun v H' _ r => ⟨q, List.mem_of_getElem? hq, tups_mem t' (List.mem_of_getElem? hq), r⟩
-- _law_jar_here 0
theorem sc__law_way : FnScope ["_law_jar_here"] ["_law_jar_here"] (defScope (top 99)) := ⟨rfl, rfl, rfl, by decide +kernel, rfl, by decide +kernel, by decide +kernel⟩
theorem ok__law_way (E : Env P w K mg base) (o__law_take : Okf P w K mg base 2 "_law_take" ["_law_jar_here", "_law_some"] (spTake K)) : Okf P w K mg base 3 "_law_way" ["_law_jar_here"] (spWay K) :=
  okf_mk E 52 52 rfl rfl sc__law_way (fun _ _ _ _ _ _ us hl => match us, hl with | [_], _ => rfl) (spJ_len fun _ => rfl) fun cdv A outer s H vs Q E0 hr h => by
  obtain ⟨p, _, h1, j, _, h2⟩ := h
  obtain ⟨_, rfl, rfl⟩ := one_of h1
  have nd := sc__law_way.nd
  refine ⟨_, (pss_one (ps_ret (pe_okf o__law_take (hr.mono (by decide)) (pa_cons (pv 0) (pa_cons (pe_lst (pa_cons pe_str (pa_cons pe_str (pa_cons pe_str (pa_cons pe_str (pa_cons pe_str pa_nil)))))) pa_nil))))), ?_⟩
  refine sJ_ret (P := DX K IsWay) (evX_imp (evJ_take (l := wayNames.map D.str) rfl (evJ_newL (fun H1 _ _ => ev_lst (da_cons ev_c (da_cons ev_c (da_cons ev_c (da_cons ev_c (da_cons ev_c da_nil))))) (by decide)) (tups_strs _)) ⟨(by decide), (by decide)⟩) fun d hd => ?_) j fun v H1 e j1 pv => h2 v H1 e j1 pv
  obtain ⟨w, hw, rfl⟩ := List.mem_map.mp hd
  exact ⟨w, hw, rfl⟩
-- _law_jar_here 0
theorem sc__law_factor : FnScope ["_law_jar_here"] ["_law_jar_here"] (defScope (top 100)) := ⟨rfl, rfl, rfl, by decide +kernel, rfl, by decide +kernel, by decide +kernel⟩
theorem ok__law_factor (E : Env P w K mg base) (o__law_take : Okf P w K mg base 2 "_law_take" ["_law_jar_here", "_law_some"] (spTake K)) : Okf P w K mg base 3 "_law_factor" ["_law_jar_here"] (spFac K) :=
  okf_mk E 53 53 rfl rfl sc__law_factor (fun _ _ _ _ _ _ us hl => match us, hl with | [_], _ => rfl) (spJ_len fun _ => rfl) fun cdv A outer s H vs Q E0 hr h => by
  obtain ⟨p, _, h1, j, _, h2⟩ := h
  obtain ⟨_, rfl, rfl⟩ := one_of h1
  have nd := sc__law_factor.nd
  refine ⟨_, (pss_one (ps_ret (pe_okf o__law_take (hr.mono (by decide)) (pa_cons (pv 0) (pa_cons (pe_lst (pa_cons (pe_tup (pa_cons pe_int (pa_cons pe_int pa_nil))) (pa_cons (pe_tup (pa_cons pe_int (pa_cons pe_int pa_nil))) (pa_cons (pe_tup (pa_cons pe_int (pa_cons pe_int pa_nil))) (pa_cons (pe_tup (pa_cons pe_int (pa_cons pe_int pa_nil))) (pa_cons (pe_tup (pa_cons pe_int (pa_cons pe_int pa_nil))) (pa_cons (pe_tup (pa_cons pe_int (pa_cons pe_int pa_nil))) (pa_cons (pe_tup (pa_cons pe_int (pa_cons pe_int pa_nil))) (pa_cons (pe_tup (pa_cons pe_int (pa_cons pe_int pa_nil))) (pa_cons (pe_tup (pa_cons pe_int (pa_cons pe_int pa_nil))) pa_nil)))))))))) pa_nil))))), ?_⟩
  have ep : ∀ {H1 : Hp} {x y : Nat}, Ev (tTup (tCons (tC (.int (x : Int))) (tCons (tC (.int (y : Int))) tNil))) [some (.ref p)] H1 (Dt K (fD (x, y))) := fun {H1 x y} => ev_tup (K := K) (l := [.int (x : Int), .int (y : Int)]) (da_cons ev_c (da_cons ev_c da_nil)) (by simp)
  refine sJ_ret (P := DX K IsFac) (evX_imp (evJ_take (l := facs.map fD) rfl (evJ_newL (fun H1 _ _ => ev_lst (da_cons ep (da_cons ep (da_cons ep (da_cons ep (da_cons ep (da_cons ep (da_cons ep (da_cons ep (da_cons ep da_nil))))))))) (by decide)) rfl) ⟨(by decide), (by decide)⟩) fun d hd => ?_) j fun v H1 e j1 pv => h2 v H1 e j1 pv
  obtain ⟨f, hf, rfl⟩ := List.mem_map.mp hd
  exact ⟨f, hf, rfl⟩
-- _law_jar_here 0 _law_factor_here 1
theorem sc__law_step : FnScope ["_law_jar_here", "_law_factor_here"] ["_law_jar_here", "_law_factor_here"] (defScope (top 101)) := ⟨rfl, rfl, rfl, by decide +kernel, rfl, by decide +kernel, by decide +kernel⟩
theorem ok__law_step (E : Env P w K mg base) (o__law_take : Okf P w K mg base 2 "_law_take" ["_law_jar_here", "_law_some"] (spTake K)) (o__law_way : Okf P w K mg base 3 "_law_way" ["_law_jar_here"] (spWay K)) : Okf P w K mg base 4 "_law_step" ["_law_jar_here", "_law_factor_here"] (spStp K) :=
  okf_mk E 54 54 rfl rfl sc__law_step (fun _ _ _ _ _ _ us hl => match us, hl with | [_, _], _ => rfl) (spJ_len fun _ => rfl) fun cdv A outer s H vs Q E0 hr h => by
  obtain ⟨p, f, h1, j, _, h2⟩ := h
  obtain ⟨_, fv, rfl, rfl, rf⟩ := two_of h1
  have rf : Rep K H (fD f) fv := rf
  have nd := sc__law_step.nd
  refine ⟨_, (pss_one (ps_ret (pe_tup (pa_cons pe_str (pa_cons (kIxT (K := K) rfl (pv 1) pe_int) (pa_cons (kIxT (K := K) rfl (pv 1) pe_int) (pa_cons (pe_okf o__law_way (hr.mono (by decide)) (pa_cons (pv 0) pa_nil)) (pa_cons (pe_okf o__law_take (hr.mono (by decide)) (pa_cons (pv 0) (pa_cons (pe_lst (pa_cons pe_int (pa_cons pe_int (pa_cons pe_int (pa_cons pe_int pa_nil))))) pa_nil))) pa_nil)))))))), ?_⟩
  have ef : ∀ H1, Oth p H H1 → JarOk H1 p → Rep K H1 (fD f) fv := fun H1 e _ => Rep.keepT (e.keepT j) rfl rf
  have eu : EvJ p (tCall (spTake K) [] E0 (tCons (tVar 0) (tCons (tLst (tCons (tC (.int 1)) (tCons (tC (.int 1)) (tCons (tC (.int 2)) (tCons (tC (.int 3)) tNil))))) tNil))) [some (.ref p), some fv] H (DX K IsUnit) := evX_imp (evJ_take (l := [1, 1, 2, 3].map fun (n : Nat) => D.int (n : Int)) rfl (evJ_newL (fun H1 _ _ => ev_lst (da_cons ev_c (da_cons ev_c (da_cons ev_c (da_cons ev_c da_nil)))) (by decide)) rfl) ⟨(by decide), (by decide)⟩) fun d hd => by
    obtain ⟨u, hu, rfl⟩ := List.mem_map.mp hd
    have hu : u = 1 ∨ u = 1 ∨ u = 2 ∨ u = 3 := by simpa using hu
    exact ⟨u, by omega, rfl⟩
  refine sJ_ret (P := DX K (IsStp f)) (evX_imp (evX_tup (eaX_cons (evX_c (d := .str "times") (fun _ => rfl) rfl) (eaX_cons (evX_d (d := .int (f.1 : Int)) (fun H1 e j1 => ev_ixT (n := 0) (ev_d rfl (ef H1 e j1)) ev_c rfl) rfl) (eaX_cons (evX_d (d := .int (f.2 : Int)) (fun H1 e j1 => ev_ixT (n := 1) (ev_d rfl (ef H1 e j1)) ev_c rfl) rfl) (eaX_cons (evJ_fn () (daJ_cons (d := .ref p) (evJ_of fun _ _ _ => ev_v rfl) rfl daJ_nil) trivial) (eaX_cons eu eaX_nil))))) ?_) ?_) j fun v H1 e j1 pv => h2 v H1 e j1 pv
  · rintro l ⟨_, _, rfl, _, _, _, rfl, _, _, _, rfl, _, _, _, rfl, _, _, _, rfl, _, rfl⟩; simp
  · rintro d ⟨l, rfl, _, _, rfl, rfl, _, _, rfl, rfl, _, _, rfl, rfl, _, _, rfl, ⟨w, hw, rfl⟩, _, _, rfl, ⟨u, hu, rfl⟩, rfl⟩
    exact ⟨w, u, ⟨hw, hu⟩, rfl⟩
-- _law_jar_here 0 _law_way_here 1
theorem sc__law_extra : FnScope ["_law_jar_here", "_law_way_here"] ["_law_jar_here"] (defScope (top 102)) := ⟨rfl, rfl, rfl, by decide +kernel, rfl, by decide +kernel, by decide +kernel⟩
theorem ok__law_extra (E : Env P w K mg base) (o__law_take : Okf P w K mg base 2 "_law_take" ["_law_jar_here", "_law_some"] (spTake K)) (o__law_way : Okf P w K mg base 3 "_law_way" ["_law_jar_here"] (spWay K)) (o__law_dig : Okf P w K mg base 1 "_law_dig" ["_law_jar_here", "_law_many_here"] (spDig K)) : Okf P w K mg base 4 "_law_extra" ["_law_jar_here"] (spEx K) :=
  okf_mk E 55 55 rfl rfl sc__law_extra (fun _ _ _ _ _ _ us hl => match us, hl with | [_], _ => rfl) (spJ_len fun _ => rfl) fun cdv A outer s H vs Q E0 hr h => by
  obtain ⟨p, _, h1, j, _, h2⟩ := h
  obtain ⟨_, rfl, rfl⟩ := one_of h1
  have nd := sc__law_extra.nd
  refine ⟨_, (pss_cons (ps_set (i := 1) nd rfl (.inl rfl) (pe_okf o__law_dig (hr.mono (by decide)) (pa_cons (pv 0) (pa_cons pe_int pa_nil))))
      (pss_cons (ps_if (pt_cmpR op_eq (pv 1) pe_int (nomark _)) (pss_one (ps_ret (pe_tup (pa_cons (pe_tup (pa_cons pe_str (pa_cons (pe_op op_sub (pe_okf o__law_dig (hr.mono (by decide)) (pa_cons (pv 0) (pa_cons pe_int pa_nil))) pe_int) pa_nil))) pa_nil)))) pss_nil)
      (pss_one (ps_ret (pe_ifExp (pt_cmpR op_eq (pv 1) pe_int (nomark _)) (pe_tup (pa_cons (pe_tup (pa_cons pe_str (pa_cons pe_int (pa_cons pe_int (pa_cons (pe_okf o__law_way (hr.mono (by decide)) (pa_cons (pv 0) pa_nil)) (pa_cons (pe_okf o__law_take (hr.mono (by decide)) (pa_cons (pv 0) (pa_cons (pe_lst (pa_cons pe_int (pa_cons pe_int (pa_cons pe_int pa_nil)))) pa_nil))) pa_nil)))))) pa_nil)) (pe_tup pa_nil)))))), ?_⟩
  have ed : ∀ {n : Nat} {σ : St} {H : Hp}, (0 < n ∧ n < 2 ^ 30) → σ[0]? = some (some (.ref p)) → EvJ p (tCall (spDig K) [] E0 (tCons (tVar 0) (tCons (tC (.int (n : Int))) tNil))) σ H (DigP n) := fun {n σ H} hn h0 => evJ_fn n (daJ_cons (d := .ref p) (evJ_of fun _ _ _ => ev_v h0) rfl (daJ_cons (d := .int (n : Int)) (evJ_of fun _ _ _ => ev_c) rfl daJ_nil)) hn
  refine qJ_asg (ed (n := 5) (by decide) rfl) j fun w0 H1 e1 j1 ⟨d, d1, ew⟩ => ?_
  subst ew
  refine q_if (et_t (ev_eqB (ev_v rfl) ev_c rfl dInt)) (fun c H2 s2 => ?_) (fun c H2 s2 => ?_)
  · refine sJ_ret (P := DX K IsEx) (evX_imp (evX_tup (eaX_cons (evX_tup (eaX_cons (evX_c (d := .str "plus") (fun _ => rfl) rfl) (eaX_cons (C := fun d => ∃ c : Int, (-20 ≤ c ∧ c ≤ 20) ∧ d = .int c) (evJ_op2 (P1 := DigP 41) (P2 := Is (.int 20)) (ed (n := 41) (by decide) rfl) evJ_c (fun _ _ _ _ _ h => h) ?_) eaX_nil)) ?_) eaX_nil) ?_) ?_) (j1.same s2) fun v H3 e3 j3 pv => h2 v H3 (e1.trans ((sOth s2 p).trans e3)) j3 pv
    · rintro x y H3 ⟨d, d2, rfl⟩ rfl
      refine (ev_I0 (ev_tC (P := Is (.int (d : Int))) rfl mono_is) (ev_tC (P := Is (.int 20)) rfl mono_is)).imp fun v H4 _ e => ⟨.int ((d : Int) - 20), ⟨_, by omega, rfl⟩, rfl, e⟩
    · rintro l ⟨_, _, rfl, _, _, _, rfl, _, rfl⟩; simp
    · rintro l ⟨_, _, rfl, _, rfl⟩; simp
    · rintro d ⟨l, rfl, _, _, rfl, ⟨l2, rfl, _, _, rfl, rfl, _, _, rfl, ⟨c, hc, rfl⟩, rfl⟩, rfl⟩
      exact ⟨[.plus c], .inr (.inl ⟨c, hc.1, hc.2, rfl⟩), rfl⟩
  · have eu : ∀ {H : Hp}, EvJ p (tCall (spTake K) [] E0 (tCons (tVar 0) (tCons (tLst (tCons (tC (.int 1)) (tCons (tC (.int 2)) (tCons (tC (.int 3)) tNil)))) tNil))) [some (.ref p), some (.int (d : Int))] H (DX K IsUnit) := evX_imp (evJ_take (l := [1, 2, 3].map fun (n : Nat) => D.int (n : Int)) rfl (evJ_newL (fun H1 _ _ => ev_lst (da_cons ev_c (da_cons ev_c (da_cons ev_c da_nil))) (by decide)) rfl) ⟨(by decide), (by decide)⟩) fun d hd => by
      obtain ⟨u, hu, rfl⟩ := List.mem_map.mp hd
      have hu : u = 1 ∨ u = 2 ∨ u = 3 := by simpa using hu
      exact ⟨u, by omega, rfl⟩
    refine sJ_ret (P := DX K IsEx) (evJ_if (b := decide ((d : Int) = 1)) (fun H1 => et_t (ev_eqB (ev_v rfl) ev_c rfl dInt)) (fun _ => ?_) (fun _ => ?_)) (j1.same s2) fun v H3 e3 j3 pv => h2 v H3 (e1.trans ((sOth s2 p).trans e3)) j3 pv
    · refine evX_imp (evX_tup (eaX_cons (evX_tup (eaX_cons (evX_c (d := .str "times") (fun _ => rfl) rfl) (eaX_cons (evX_c (d := .int 1) (fun _ => rfl) rfl) (eaX_cons (evX_c (d := .int 1) (fun _ => rfl) rfl) (eaX_cons (evJ_fn () (daJ_cons (d := .ref p) (evJ_of fun _ _ _ => ev_v rfl) rfl daJ_nil) trivial) (eaX_cons eu eaX_nil))))) ?_) eaX_nil) ?_) ?_
      · rintro l ⟨_, _, rfl, _, _, _, rfl, _, _, _, rfl, _, _, _, rfl, _, _, _, rfl, _, rfl⟩; simp
      · rintro l ⟨_, _, rfl, _, rfl⟩; simp
      · rintro d ⟨l, rfl, _, _, rfl, ⟨l2, rfl, _, _, rfl, rfl, _, _, rfl, rfl, _, _, rfl, rfl, _, _, rfl, ⟨w, hw, rfl⟩, _, _, rfl, ⟨u, hu, rfl⟩, rfl⟩, rfl⟩
        exact ⟨[.times 1 1 w u], .inr (.inr ⟨w, u, hw, hu.1, hu.2, rfl⟩), rfl⟩
    · exact evX_imp (evX_tup eaX_nil (by rintro l rfl; decide)) (by rintro d ⟨l, rfl, rfl⟩; exact ⟨[], .inl rfl, rfl⟩)
end
end LC
end
section
set_option Elab.async false
set_option linter.all false
set_option maxRecDepth 100000
set_option maxHeartbeats 1000000
/-! Lists that grow beside the jar; plans. -/
namespace LC
open PySem PySem.Spec L2
/-- a list whose items all keep a rule -/
def LS {β : Type} (R : Nat → β → Prop) (n : Nat) (l : List β) : Prop := l.length = n ∧ ∀ j x, l[j]? = some x → R j x
theorem LS.nil {β : Type} {R : Nat → β → Prop} : LS R 0 [] := ⟨rfl, fun j x h => by simp at h⟩
theorem LS.snoc {β : Type} {R : Nat → β → Prop} {n : Nat} {l : List β} {x : β} (h : LS R n l) (k : R n x) : LS R (n + 1) (l ++ [x]) := ⟨by rw [List.length_append, h.1]; rfl, fun j y hy => by
  by_cases c : j < l.length
  · rw [List.getElem?_append_left c] at hy; exact h.2 j y hy
  · rw [List.getElem?_append_right (by omega)] at hy
    have e : j - l.length = 0 := by
      cases e : j - l.length with
      | zero => rfl
      | succ m => rw [e] at hy; simp at hy
    rw [e] at hy
    have e2 : j = n := by have := h.1; omega
    have e3 : x = y := by simpa using hy
    rw [e2, ← e3]; exact k⟩
def StpF (f : Nat × Nat) (s : Stp) : Prop := ∃ w u, (w ∈ wayNames ∧ 1 ≤ u ∧ u ≤ 3) ∧ s = .times f.1 f.2 w u
def R0 (ls : List Str) (fs : List (Nat × Nat)) (j : Nat) (k : Str × Nat × List Stp) : Prop := ∃ l f s e, ls[j]? = some l ∧ fs[j]? = some f ∧ StpF f s ∧ ExL e ∧ k = (l, 0, s :: e)
def R1 (ls : List Str) (j : Nat) (k : Str × Nat × List Stp) : Prop := ∃ l e, ls[j]? = some l ∧ ExL e ∧ k = (l, j, e)
def R2 (ls : List Str) (j : Nat) (k : Str × Nat × List Stp) : Prop := ∃ l e, ls[j]? = some l ∧ ExL e ∧ k = (l, 0, e)
def RH (fs : List (Nat × Nat)) (j : Nat) (h : List Stp) : Prop := ∃ f s, fs[j]? = some f ∧ StpF f s ∧ h = [s]
inductive Laid (ls : List Str) (fs : List (Nat × Nat)) : Bk → Prop where
  | apart (ks e la) : LS (R0 ls fs) ls.length ks → ExL e → ExL la → Laid ls fs ⟨ks, [e], la⟩
  | each (ks hs la) : LS (R1 ls) ls.length ks → LS (RH fs) ls.length hs → ExL la → Laid ls fs ⟨ks, hs, la⟩
  | all (ks e la f s) : LS (R2 ls) ls.length ks → ExL e → ExL la → (∀ g, g ∈ fs → g = f) → StpF f s → Laid ls fs ⟨ks, [e], s :: la⟩
def IsLaid (ls : List Str) (fs : List (Nat × Nat)) (d : D) : Prop := ∃ b, Laid ls fs b ∧ d = planD b
structure LabOk (ls : List Str) (fs : List (Nat × Nat)) : Prop where
  some : ls ≠ []
  few : ls.length ≤ 2
  names : ∀ l, l ∈ ls → l ∈ lawNames
  once : ls.Nodup
  same : fs.length = ls.length
  facs : ∀ f, f ∈ fs → f ∈ LC.facs
def spLaid (K : PySem.W.Frag) : Sp := fun vs H Q _ => ∃ (p : Addr) (ls : List Str) (fs : List (Nat × Nat)) (w : Int), (∃ lv fv, vs = [.ref p, lv, fv, .int w] ∧ Rep K H (strsD ls) lv ∧ LstJ p K (fs.map fD) fv H) ∧ JarOk H p ∧ LabOk ls fs ∧ ∀ v H2, Oth p H H2 → JarOk H2 p → DX K (IsLaid ls fs) v H2 → Q v H2
theorem spLaid_len {K : PySem.W.Frag} : ∀ vs H Q E, spLaid K vs H Q E → vs.length = 4 := fun vs H Q E ⟨p, l, _, _, ⟨v, _, e, _⟩, _⟩ => by rw [e]; rfl
theorem fD_tups : ∀ (l : List (Nat × Nat)), D.tupsOnlys (l.map fD) = true
  | [] => rfl
  | a :: l => by show ((fD a).tupsOnly && D.tupsOnlys (l.map fD)) = true; rw [fD_tups l]; rfl
section
variable {p q r : Addr} {K : PySem.W.Frag} {σ : St} {H H1 H2 H3 : Hp} {te ta tb tc : TE} {P1 P3 : PV} {P2 : Hp → PV} {E : Ends} {z : TS} {l l1 l2 : List D} {d : D} {C : D → Prop} {i j m : Nat}
theorem jar_neq {u : HO} {a : Addr} (j : JarOk H p) (h : H a = some u) (n : ∀ x y w : Int, u ≠ .lst [.int x, .int y, .int w]) : a ≠ p := fun z => by
  obtain ⟨x, y, w, hj⟩ := j
  rw [z, hj] at h
  exact n x y w (Option.some.inj h).symm
theorem s_parJ3 {D : Ends} (j0 : JarOk H p) (ha : Ev ta σ H P1) (hb : ∀ H1, Ev tb σ H1 (P2 H1)) (hc : ∀ H2, Same H H2 → EvJ p tc σ H2 P3) (k : ∀ v w x H1 H2 H3, Same H H1 → P1 v H1 → Same H1 H2 → P2 H1 w H2 → Oth p H2 H3 → JarOk H3 p → P3 x H3 → D.nx (((σ.set i (some v)).set j (some w)).set m (some x)) H3) : tPar3 i j m (tCons ta (tCons tb (tCons tc tNil))) D σ H :=
  ha H (Same.refl _) _ fun v H1 s1 p1 => hb H1 H1 (Same.refl _) _ fun w H2 s2 p2 => hc H2 (s1.trans s2) H2 (Oth.refl _) (j0.same (s1.trans s2)) _ fun x H3 e3 j3 p3 => ⟨v, w, x, rfl, k v w x H1 H2 H3 s1 p1 s2 p2 e3 j3 p3⟩
theorem q_parJ3 {D : Ends} (j0 : JarOk H p) (ha : Ev ta σ H P1) (hb : ∀ H1, Ev tb σ H1 (P2 H1)) (hc : ∀ H2, Same H H2 → EvJ p tc σ H2 P3) (k : ∀ v w x H1 H2 H3, Same H H1 → P1 v H1 → Same H1 H2 → P2 H1 w H2 → Oth p H2 H3 → JarOk H3 p → P3 x H3 → z D (((σ.set i (some v)).set j (some w)).set m (some x)) H3) : tSeq (tPar3 i j m (tCons ta (tCons tb (tCons tc tNil)))) z D σ H := s_parJ3 (D := { D with nx := z D }) j0 ha hb hc k
/-- q.append(a draw) -/
theorem sJ_append (hv : Ev ta σ H (Is (.ref q))) (L : LstJ p K l (.ref q) H) (hl : l.length < 100000) (j : JarOk H p) (h : EvJ p tb σ H (DX K C)) (k : ∀ d H3, C d → Oth2 p q H H3 → JarOk H3 p → KeepT H H3 → LstJ p K (l ++ [d]) (.ref q) H3 → E.nx σ H3) : tDrop (tBM K "list" rAppend ta (tCons tb tNil)) E σ H := by
  obtain ⟨a, xs, e1, ne, hx, tl, rl⟩ := L
  cases e1
  exact hv H (Same.refl _) _ fun v H1 s1 e => ⟨by rw [show v = .ref q from e]; exact .inl ⟨rfl, xs, SqL.of (s1 _ _ hx)⟩, h H1 (sOth s1 p) (j.same s1) _ fun w H2 e2 j2 ⟨d, cd, td, rd⟩ => by
    have h2 : H2 q = some (.lst xs) := e2 _ _ ne (s1 _ _ hx)
    refine ⟨q, xs, w, e, rfl, h2, szl (by rw [rl.length]; exact hl), ?_⟩
    have kt : KeepT H2 (upd H2 q (.lst (xs ++ [w]))) := keepT_updL h2
    have kt0 : KeepT H H2 := fun b ys hb => e2 b _ (fun z => by
      obtain ⟨x, y, w, hj⟩ := j
      rw [z, hj] at hb; cases hb) (s1 _ _ hb)
    refine k d _ cd (fun b o n1 n2 hb => by rw [upd_ne n2]; exact e2 b o n1 (s1 _ _ hb)) ?_ (kt0.trans kt) ⟨q, _, rfl, ne, upd_same, tupsOnlys_append tl (by show (d.tupsOnly && true) = true; rw [td]; rfl), ?_⟩
    · obtain ⟨x, y, w, hj⟩ := j2
      exact ⟨x, y, w, by rw [upd_ne (Ne.symm ne)]; exact hj⟩
    · exact RepAll.append (RepAll.keepT (kt0.trans kt) tl rl) ⟨w, [], rfl, Rep.keepT kt td rd, rfl⟩⟩
theorem qJ_append (hv : Ev ta σ H (Is (.ref q))) (L : LstJ p K l (.ref q) H) (hl : l.length < 100000) (j : JarOk H p) (h : EvJ p tb σ H (DX K C)) (k : ∀ d H3, C d → Oth2 p q H H3 → JarOk H3 p → KeepT H H3 → LstJ p K (l ++ [d]) (.ref q) H3 → z E σ H3) : tSeq (tDrop (tBM K "list" rAppend ta (tCons tb tNil))) z E σ H := sJ_append (E := { E with nx := z E }) hv L hl j h k
theorem LstJ.oth2 (L : LstJ p K l (.ref r) H) (n : r ≠ q) (o : Oth2 p q H H1) (t : KeepT H H1) : LstJ p K l (.ref r) H1 := by
  obtain ⟨a, xs, e1, ne, hx, tl, rl⟩ := L
  cases e1
  exact ⟨_, xs, rfl, ne, o _ _ ne n hx, tl, RepAll.keepT t tl rl⟩
theorem Oth.oth2 (a : Oth p H H1) (hq : H q = none) (o : Oth2 p q H1 H2) : Oth p H H2 := fun b u hb hu => o b u hb (ne_of_none hu hq) (a b u hb hu)
theorem LstJ.rep {v : V} (L : LstJ p K l v H) : Rep K H (.lst l) v := by
  obtain ⟨a, xs, e1, ne, hx, tl, rl⟩ := L
  exact ⟨a, xs, e1, SqL.of hx, rl⟩
theorem LstJ.same {v : V} (L : LstJ p K l v H) (s : Same H H1) : LstJ p K l v H1 := by
  obtain ⟨a, xs, e1, ne, hx, tl, rl⟩ := L
  exact ⟨a, xs, e1, ne, s _ _ hx, tl, RepAll.same s rl⟩
/-- zip of a tuple and a list that both stand -/
theorem it_z2J {ta : TA} {lv : V} {c : Addr} {ys : List V} (h : EA ta σ H (fun vs _ => vs = [lv, .ref c])) (hl : Rep K H (.tup l1) lv) (hc : H c = some (.lst ys)) (r2 : RepAll K H l2 ys) (t1 : D.tupsOnlys l1 = true) (t2 : D.tupsOnlys l2 = true) : IT K (iZ2 true false K ta) σ H (List.zipWith (fun a b => .tup [a, b]) l1 l2) (fun H2 G => ∀ H', KeepT H2 H' → H' c = some (.lst ys) → G H') := fun H1 e R q =>
  h H1 e _ fun vs H2 e2 e3 => by
    subst e3
    obtain ⟨a, xs, rfl, h1, r1⟩ := hl
    have s2 := e.trans e2
    refine ⟨a, c, xs, ys, rfl, SqT.of (s2 _ _ h1), SqL.of (s2 _ _ hc), q _ H2 (fun H' => KeepT H2 H' ∧ H' c = some (.lst ys)) e2 (fun H' s => ⟨Same.keepT s, s _ _ (s2 _ _ hc)⟩) (fun H' k1 k2 => ⟨k1, k2⟩) ?_⟩
    have w := walk_z2 (K := K) (b1 := true) (b2 := false) (a := a) (c := c) (xs := xs) (ys := ys)
    rw [List.length_zipWith, ← r1.length, ← r2.length]
    refine w.mono (fun H' k => ⟨SqT.of (k.1 _ _ (s2 _ _ h1)), SqL.of k.2⟩) fun i H' x H'' hi k y => ?_
    obtain ⟨T, x, y, rfl, hT, rfl, hx, hy⟩ := y
    obtain ⟨d, g1, g2⟩ := r1.getV hx
    obtain ⟨e, g3, g4⟩ := r2.getV hy
    have kt := (Same.keepT s2).trans k.1
    obtain ⟨p1, p2⟩ := yd_pair hT (Rep.keepT kt (tups_mem t1 (List.mem_of_getElem? g1)) g2) (Rep.keepT kt (tups_mem t2 (List.mem_of_getElem? g3)) g4)
    exact ⟨p1, _, by rw [List.getElem?_zipWith, g1, g3], p2⟩
end
end LC
end
section
set_option Elab.async false
set_option linter.all false
set_option maxRecDepth 100000
set_option maxHeartbeats 4000000
/-! _law_laid -/
namespace LC
open PySem PySem.Spec L2
section
variable {P : Program} {w : World} {K : PySem.W.Frag} {mg : Str → Option Value} {base : Heap}
theorem ea_vv {σ : St} {H : Hp} {i j : Nat} {v w : V} (h1 : σ[i]? = some (some v)) (h2 : σ[j]? = some (some w)) : EA (tCons (tVar i) (tCons (tVar j) tNil)) σ H (fun vs _ => vs = [v, w]) := fun H1 s Q q =>
  (ea_cons (ev_v h1) mono_is (ea_cons (ev_v h2) mono_is ea_nil)) H1 s Q fun vs H2 s2 ⟨a, r, e1, e2, b, r2, e3, e4, e5⟩ => q vs H2 s2 (by
    have e2 : a = v := e2
    have e4 : b = w := e4
    rw [e1, e2, e3, e4, e5])
theorem rng_at {n i : Nat} {d : D} (h : ((List.range n).map fun (i : Nat) => D.int (i : Int))[i]? = some d) : i < n ∧ d = .int (i : Int) := by
  rw [List.getElem?_map] at h
  by_cases c : i < n
  · rw [List.getElem?_range c] at h
    exact ⟨c, (Option.some.inj h).symm⟩
  · rw [List.getElem?_eq_none (by rw [List.length_range]; omega)] at h; cases h
theorem isEx_tup {p : Addr} {σ : St} {H : Hp} {te : TE} (h : EvJ p te σ H (DX K IsEx)) : EvJ p te σ H (DX K fun d => ∃ l, d = .tup l ∧ ∃ s, ExL s ∧ l = s.map Stp.d) := evX_imp h fun d ⟨l, hl, e⟩ => ⟨_, e, l, hl, rfl⟩
theorem ExL.len {l : List Stp} (h : ExL l) : l.length ≤ 1 := by
  rcases h with e | ⟨c, _, _, e⟩ | ⟨w, u, _, _, _, e⟩ <;> rw [e] <;> simp
theorem kindsD_tups (ks : List (Str × Nat × List Stp)) : D.tupsOnlys (ks.map kindD) = true := sortsD_tups ks
theorem noneq_all {fs : List (Nat × Nat)} (h : (fs.filter fun g => !decide (g = fs.headD (0, 0))).isEmpty = true) : ∀ g, g ∈ fs → g = fs.headD (0, 0) := fun g hg => by
  have e : (fs.filter fun g => !decide (g = fs.headD (0, 0))) = [] := List.isEmpty_iff.mp h
  have := List.filter_eq_nil_iff.mp e g hg
  simpa using this
theorem shp_fD (f : Nat × Nat) : Shp (fD f) 2 := Shp.tup (f := id) (l := [.int (f.1 : Int), .int (f.2 : Int)]) fun x hx => by
  have : x = .int (f.1 : Int) ∨ x = .int (f.2 : Int) := by simpa using hx
  rcases this with e | e <;> rw [e] <;> exact (Shp.int _).mono (by decide)
theorem eqv_facs : (facs.all fun f => facs.all fun g => (!PyData.eqv (fD f).py (fD g).py) == !decide (f = g)) = true := by decide +kernel
theorem eqv_fac {f g : Nat × Nat} (hf : f ∈ facs) (hg : g ∈ facs) : (!PyData.eqv (fD f).py (fD g).py) = !decide (f = g) := by
  have := List.all_eq_true.mp (List.all_eq_true.mp eqv_facs f hf) g hg
  exact eq_of_beq this
-- _law_jar_here 0 _law_labels 1 _law_factors 2 _law_way_here 3 _law_sorts 4 _law_heaps 5 _law_last 6 _law_label 7 _law_factor_here 8 _law_at 9
theorem sc__law_laid : FnScope ["_law_jar_here", "_law_labels", "_law_factors", "_law_way_here", "_law_sorts", "_law_heaps", "_law_last", "_law_label", "_law_factor_here", "_law_at"] ["_law_jar_here", "_law_labels", "_law_factors", "_law_way_here"] (defScope (top 103)) := ⟨rfl, rfl, rfl, by decide +kernel, rfl, by decide +kernel, by decide +kernel⟩
theorem ok__law_laid (E : Env P w K mg base) (o__law_extra : Okf P w K mg base 4 "_law_extra" ["_law_jar_here"] (spEx K)) (o__law_step : Okf P w K mg base 4 "_law_step" ["_law_jar_here", "_law_factor_here"] (spStp K)) : Okf P w K mg base 5 "_law_laid" ["_law_jar_here", "_law_labels", "_law_factors", "_law_way_here"] (spLaid K) :=
  okf_mk E 56 56 rfl rfl sc__law_laid (fun _ _ _ _ _ _ us hl => match us, hl with | [_, _, _, _], _ => rfl) spLaid_len fun cdv A outer s H vs Q E0 hr h => by
  obtain ⟨p, ls, fs, way, ⟨lv, fv, rfl, rl, lf⟩, j, hL, h2⟩ := h
  obtain ⟨c, ys, rfl, cne, hc, tf, rf⟩ := id lf
  have nd := sc__law_laid.nd
  refine ⟨_, (pss_cons (ps_par3 (i := 4) (j := 5) (l := 6) (by rfl) nd rfl rfl rfl (by decide) (by decide) (by decide) rfl rfl rfl (pa_cons (pe_lst pa_nil) (pa_cons (pe_lst pa_nil) (pa_cons (kSlT (K := K) rfl (pe_okf o__law_extra (hr.mono (by decide)) (pa_cons (pv 0) pa_nil)) po_none (po_some pe_int)) pa_nil))) (by rfl))
      (pss_cons (ps_if (pt_cmpR op_eq (pv 3) pe_int (nomark _)) (pss_cons (ps_for PassesOwn.never rfl (kZ2 (K := K) true false rfl (E.free 71) (pa_cons (pv 1) (pa_cons (pv 2) pa_nil))) (kGTup (K := K) (n := 2) rfl rfl (pgs_cons (pg_name (i := 7) nd rfl (.inl rfl)) (pgs_cons (pg_name (i := 8) nd rfl (.inl rfl)) pgs_nil))) (pss_one (ps_expr (kAppend (K := K) rfl (pv 4) (pa_cons (pe_tup (pa_cons (pv 7) (pa_cons pe_int (pa_cons (kCatT (K := K) rfl (pe_tup (pa_cons (pe_okf o__law_step (hr.mono (by decide)) (pa_cons (pv 0) (pa_cons (pv 8) pa_nil))) pa_nil)) (pe_okf o__law_extra (hr.mono (by decide)) (pa_cons (pv 0) pa_nil))) pa_nil)))) pa_nil)))))
      (pss_one (ps_ret (pe_tup (pa_cons (kTy (K := K) (r' := rTupOf) rfl call_tuple_of (E.free 66) (by decide +kernel) (pa_cons (pv 4) pa_nil)) (pa_cons (pe_tup (pa_cons (pe_okf o__law_extra (hr.mono (by decide)) (pa_cons (pv 0) pa_nil)) pa_nil)) (pa_cons (pv 6) pa_nil))))))) pss_nil)
      (pss_cons (ps_if (PW.pt (pw_or (pt_cmpR op_eq (pv 3) pe_int (nomark _)) (pw_or1 (kNeDT (K := K) rfl hr.units (pe_lc (own := [("_law_factor_here", 8)]) (g := gName 8)  rfl nd (kIList (K := K) rfl (pv 2)) (blkOk_by (N := ["_law_jar_here", "_law_labels", "_law_factors", "_law_way_here", "_law_sorts", "_law_heaps", "_law_last", "_law_label", "_law_factor_here", "_law_at"]) (sc := defScope (top 103)) (by decide +kernel)) (fun _ _ _ _ _ => (pg_name (i := 8) nd rfl (.inl rfl))) (fun _ _ _ _ _ => pts_one (kNeDT (K := K) rfl hr.units (pv 8) (kIxL (K := K) rfl (pv 2) pe_int))) (fun _ _ _ _ _ => (pv 8))) (pe_lst pa_nil))))) (pss_cons (ps_for PassesOwn.never rfl (pi_range1 (by rfl) (E.free 75) (pa_cons (kLen (K := K) rfl (E.free 61) (pa_cons (pv 1) pa_nil)) pa_nil)) (pg_name (i := 9) nd rfl (.inl rfl)) (pss_cons (ps_expr (kAppend (K := K) rfl (pv 4) (pa_cons (pe_tup (pa_cons (kIxT (K := K) rfl (pv 1) (pv 9)) (pa_cons (pv 9) (pa_cons (pe_okf o__law_extra (hr.mono (by decide)) (pa_cons (pv 0) pa_nil)) pa_nil)))) pa_nil)))
      (pss_one (ps_expr (kAppend (K := K) rfl (pv 5) (pa_cons (pe_tup (pa_cons (pe_okf o__law_step (hr.mono (by decide)) (pa_cons (pv 0) (pa_cons (kIxL (K := K) rfl (pv 2) (pv 9)) pa_nil))) pa_nil)) pa_nil))))))
      (pss_one (ps_ret (pe_tup (pa_cons (kTy (K := K) (r' := rTupOf) rfl call_tuple_of (E.free 66) (by decide +kernel) (pa_cons (pv 4) pa_nil)) (pa_cons (kTy (K := K) (r' := rTupOf) rfl call_tuple_of (E.free 66) (by decide +kernel) (pa_cons (pv 5) pa_nil)) (pa_cons (pv 6) pa_nil))))))) pss_nil)
      (pss_cons (ps_for PassesOwn.never rfl (kITup (K := K) rfl (pv 1)) (pg_name (i := 7) nd rfl (.inl rfl)) (pss_one (ps_expr (kAppend (K := K) rfl (pv 4) (pa_cons (pe_tup (pa_cons (pv 7) (pa_cons pe_int (pa_cons (pe_okf o__law_extra (hr.mono (by decide)) (pa_cons (pv 0) pa_nil)) pa_nil)))) pa_nil)))))
      (pss_one (ps_ret (pe_tup (pa_cons (kTy (K := K) (r' := rTupOf) rfl call_tuple_of (E.free 66) (by decide +kernel) (pa_cons (pv 4) pa_nil)) (pa_cons (pe_tup (pa_cons (pe_okf o__law_extra (hr.mono (by decide)) (pa_cons (pv 0) pa_nil)) pa_nil)) (pa_cons (kCatT (K := K) rfl (pe_tup (pa_cons (pe_okf o__law_step (hr.mono (by decide)) (pa_cons (pv 0) (pa_cons (kIxL (K := K) rfl (pv 2) pe_int) pa_nil))) pa_nil)) (pv 6)) pa_nil)))))))))), ?_⟩
  have ex : ∀ {σ : St} {H : Hp}, σ[0]? = some (some (.ref p)) → EvJ p (tCall (spEx K) [] E0 (tCons (tVar 0) tNil)) σ H (DX K IsEx) := fun h0 => evJ_fn () (daJ_cons (d := .ref p) (evJ_of fun _ _ _ => ev_v h0) rfl daJ_nil) trivial
  have lt : D.tupsOnlys (ls.map D.str) = true := tups_strs ls
  have nf : ls.length ≤ 2 := hL.few
  have nfs : fs.length ≤ 2 := by rw [hL.same]; exact nf
  refine q_parJ3 (P1 := NewL K H []) (P2 := fun H1 => NewL K H1 []) (P3 := DX K fun d => ∃ l, d = .tup l ∧ ∃ s, ExL s ∧ l = s.map Stp.d) j (ev_lst da_nil (by decide)) (fun H1 => ev_lst da_nil (by decide)) (fun H2 s2 => evX_slHead (i := 1) (isEx_tup (ex rfl)) (by rintro l ⟨s, hs, rfl⟩; rw [List.length_map]; exact hs.len) fun _ => ev_c) ?_
  rintro _ _ lav H1 H2 H3 s1 ⟨q1, xs1, rfl, n1, g1, r1⟩ s2 ⟨q2, xs2, rfl, n2, g2, r2⟩ e3 j3 ⟨_, ⟨_, rfl, la, hla, rfl⟩, tla, rla⟩
  have x1 : xs1 = [] := r1
  have x2 : xs2 = [] := r2
  subst x1 x2
  have ne1 : q1 ≠ p := jar_ne j n1
  have ne2 : q2 ≠ p := jar_ne (j.same s1) n2
  have ne12 : q1 ≠ q2 := ne_of_none g1 n2
  have o3 : Oth p H H3 := ((sOth s1 p).trans (sOth s2 p)).trans e3
  have z1 : LstJ p K ([] : List D) (.ref q1) H3 := ⟨q1, [], rfl, ne1, e3 _ _ ne1 (s2 _ _ g1), rfl, rfl⟩
  have z2 : LstJ p K ([] : List D) (.ref q2) H3 := ⟨q2, [], rfl, ne2, e3 _ _ ne2 g2, rfl, rfl⟩
  have hn2 : H q2 = none := by
    cases e : H q2 with
    | none => rfl
    | some o => rw [s1 _ _ e] at n2; cases n2
  have nc1 : c ≠ q1 := ne_of_none hc n1
  have nc2 : c ≠ q2 := ne_of_none hc hn2
  have k03 : KeepT H H3 := o3.keepT j
  have rl3 : Rep K H3 (.tup (ls.map D.str)) lv := Rep.keepT k03 lt rl
  have hc3 : H3 c = some (.lst ys) := o3 _ _ cne hc
  have rf3 : RepAll K H3 (fs.map fD) ys := RepAll.keepT k03 tf rf
  have tla' : (stD la).tupsOnly = true := stD_tups la
  have rla : Rep K H3 (stD la) lav := rla
  refine q_if (et_t (ev_eqB (ev_v rfl) ev_c rfl dInt)) (fun cw H4 s4 => ?_) (fun cw H4 s4 => ?_)
  · refine q_for (it_z2J (l1 := ls.map D.str) (l2 := fs.map fD) (ea_vv rfl rfl) (Rep.same s4 rl3) (s4 _ _ hc3) (RepAll.same s4 rf3) lt tf) fun H5 G s5 eG hB => ⟨fun i σ' H' => Oth p H H' ∧ JarOk H' p ∧ KeepT H5 H' ∧ H' c = some (.lst ys) ∧ ∃ ks x7 x8 x9, LS (R0 ls fs) i ks ∧ LstJ p K (ks.map kindD) (.ref q1) H' ∧ σ' = [some (.ref p), some lv, some (.ref c), some (.int way), some (.ref q1), some (.ref q2), some lav, x7, x8, x9], ⟨(o3.same s4).same s5, (j3.same s4).same s5, fun _ _ h => h, (s4.trans s5) _ _ hc3, [], _, _, _, LS.nil, z1.same (s4.trans s5), rfl⟩, fun i σ' H' k => hB H' k.2.2.1 k.2.2.2.1, ?_, ?_⟩
    · rintro i d x σ' H' H'' hd ⟨o, j', kt, hc', ks, x7, x8, x9, hks, L, rfl⟩ s6 rd
      obtain ⟨l, f, e1, e2, rfl⟩ : ∃ l f, ls[i]? = some l ∧ fs[i]? = some f ∧ d = .tup [.str l, fD f] := by
        rw [List.getElem?_zipWith, List.getElem?_map, List.getElem?_map] at hd
        cases e1 : ls[i]? with
        | none => rw [e1] at hd; simp at hd
        | some l => cases e2 : fs[i]? with
          | none => rw [e1, e2] at hd; simp at hd
          | some f => rw [e1, e2] at hd; exact ⟨l, f, rfl, rfl, (by simpa using hd.symm)⟩
      refine g_tup2 rd fun v w rv rw' => ?_
      have rv : v = .str l := rv
      subst rv
      have il : ks.length < 100000 := by
        have := hks.1
        have := (List.getElem?_eq_some_iff.mp e1).1
        omega
      refine sJ_append (K := K) (C := fun d => ∃ k, R0 ls fs i k ∧ d = kindD k) (ev_v rfl) (L.same s6) (by rw [List.length_map]; exact il) (j'.same s6) (evX_imp (evX_tup (eaX_cons (evX_d (d := .str l) (fun _ _ _ => ev_v rfl) rfl) (eaX_cons (evX_c (d := .int 0) (fun _ => rfl) rfl) (eaX_cons (evX_cat (evX_tup (eaX_cons (evJ_fn f (daJ_cons (d := .ref p) (evJ_of fun _ _ _ => ev_v rfl) rfl (daJ_cons (d := fD f) (evJ_d rfl rw' rfl (j'.same s6)) rfl daJ_nil)) trivial) eaX_nil) ?_) (isEx_tup (ex rfl)) ?_ ?_) eaX_nil))) ?_) ?_) ?_
      · rintro l ⟨_, _, rfl, _, rfl⟩; simp
      · rintro l ⟨_, _, rfl, _, rfl⟩; simp
      · rintro l ⟨s, hs, rfl⟩; rw [List.length_map]; have := hs.len; omega
      · rintro l ⟨_, _, rfl, _, _, _, rfl, _, _, _, rfl, _, rfl⟩; simp
      · rintro d ⟨_, rfl, _, _, rfl, rfl, _, _, rfl, rfl, _, _, rfl, ⟨_, _, rfl, ⟨_, _, rfl, ⟨w, u, hw, rfl⟩, rfl⟩, e, he, rfl⟩, rfl⟩
        exact ⟨(l, 0, .times f.1 f.2 w u :: e), ⟨l, f, _, e, e1, e2, ⟨w, u, hw, rfl⟩, he, rfl⟩, rfl⟩
      · rintro d H7 ⟨k, hk, rfl⟩ o2 j7 kt7 L7
        refine ⟨(o.same s6).oth2 n1 o2, j7, (kt.trans (Same.keepT s6)).trans kt7, o2 _ _ cne nc1 (s6 _ _ hc'), ks ++ [k], _, _, _, hks.snoc hk, ?_, rfl⟩
        rw [List.map_append]; exact L7
    · rintro σ' H' ⟨o, j', kt, hc', ks, x7, x8, x9, hks, L, rfl⟩
      have e1 : (List.zipWith (fun a b => D.tup [a, b]) (ls.map D.str) (fs.map fD)).length = ls.length := by rw [List.length_zipWith, List.length_map, List.length_map, hL.same, Nat.min_self]
      rw [e1] at hks
      have rla' : Rep K H' (stD la) lav := Rep.keepT (((Same.keepT s4).trans (Same.keepT s5)).trans kt) tla' rla
      refine sJ_ret (P := DX K (IsLaid ls fs)) (evX_imp (evX_tup (eaX_cons (evX_d (d := .tup (ks.map kindD)) (fun H1 e j1 => ev_tupOf (da_cons (ev_d (d := .lst (ks.map kindD)) rfl (LstJ.rep (monoJ_L _ _ _ e j' L))) da_nil)) (kindsD_tups ks)) (eaX_cons (evX_tup (eaX_cons (ex rfl) eaX_nil) ?_) (eaX_cons (evX_d (d := stD la) (fun H1 e j1 => ev_d rfl (Rep.keepT (e.keepT j') tla' rla')) tla') eaX_nil))) ?_) ?_) j' fun v H1 e j1 pv => h2 v H1 (o.trans e) j1 pv
      · rintro l ⟨_, _, rfl, _, rfl⟩; simp
      · rintro l ⟨_, _, rfl, _, _, _, rfl, _, _, _, rfl, _, rfl⟩; simp
      · rintro d ⟨_, rfl, _, _, rfl, rfl, _, _, rfl, ⟨_, rfl, _, _, rfl, ⟨e, he, rfl⟩, rfl⟩, _, _, rfl, rfl, rfl⟩
        exact ⟨⟨ks, [e], la⟩, .apart ks e la hks he hla, rfl⟩
  have hd0 : ∃ f0, fs[0]? = some f0 ∧ fs.headD (0, 0) = f0 ∧ f0 ∈ facs := by
    have h0 : 0 < ls.length := List.length_pos_iff.mpr hL.some
    cases hfs : fs with
    | nil => rw [← hL.same, hfs] at h0; simp at h0
    | cons f r => exact ⟨f, rfl, rfl, hL.facs f (by rw [hfs]; exact List.mem_cons_self ..)⟩
  obtain ⟨f0, hf0, hh0, hm0⟩ := hd0
  have rfs4 : Rep K H4 (.lst (fs.map fD)) (.ref c) := ⟨c, ys, rfl, SqL.of (s4 _ _ hc3), RepAll.same s4 rf3⟩
  have z14 := z1.same s4
  have z24 := z2.same s4
  have o4 : Oth p H H4 := o3.same s4
  have j4 := j3.same s4
  have hc4 : H4 c = some (.lst ys) := s4 _ _ hc3
  have rl4 : Rep K H4 (.tup (ls.map D.str)) lv := Rep.same s4 rl3
  have rla4 := Rep.same s4 rla
  refine q_if (b := decide (way = 1) || !(fs.filter fun g => !decide (g = f0)).isEmpty) (et_or (et_t (ev_eqB (ev_v rfl) ev_c rfl dInt)) fun _ => et_t (ev_neD (d := .lst ((fs.filter fun g => !decide (g = f0)).map fD)) (e := .lst []) (n := 3) (m := 3) (NewL.dt (ev_lc1F (j := 8) fD (fun g => !decide (g = f0)) fD (it_lst (ev_d rfl rfs4)) (by omega) (fun x => rfl) fun g x H5 hg s5 rg => ⟨et_t (ev_neD (ev_d rfl rg) (ev_ixL (n := 0) (l := fs.map fD) (d := fD f0) (ev_d rfl (Rep.same s5 rfs4)) ev_c (by rw [List.getElem?_map, hf0]; rfl)) (shp_fD g) (shp_fD f0) (by decide) (by decide) (eqv_fac (hL.facs g hg) hm0)), fun _ => ⟨rfl, ev_d rfl rg⟩⟩)) (NewL.dt (ev_lst da_nil (by decide))) ?_ ?_ (by decide) (by decide) (by rw [eqv_lnil]))) (fun cw2 H5 s5 => ?_) (fun cw2 H5 s5 => ?_)
  · refine Shp.lst fun g _ => shp_fD g
  · exact Shp.lst (f := fD) (l := []) (n := 2) fun g _ => shp_fD g
  · refine q_for (it_range1 (K := K) (n := (ls.length : Int)) (da_cons (ev_len (K := K) true (l := ls.map D.str) (da_cons (ev_d rfl (Rep.same s5 rl4)) da_nil) |>.is (by rw [List.length_map])) da_nil) (by omega) (by omega)) fun H6 G s6 eG hB => ⟨fun i σ' H' => Oth p H H' ∧ JarOk H' p ∧ KeepT H6 H' ∧ H' c = some (.lst ys) ∧ ∃ ks hs x7 x8 x9, LS (R1 ls) i ks ∧ LS (RH fs) i hs ∧ LstJ p K (ks.map kindD) (.ref q1) H' ∧ LstJ p K (hs.map stD) (.ref q2) H' ∧ σ' = [some (.ref p), some lv, some (.ref c), some (.int way), some (.ref q1), some (.ref q2), some lav, x7, x8, x9], ⟨(o4.same s5).same s6, (j4.same s5).same s6, fun _ _ h => h, (s5.trans s6) _ _ hc4, [], [], _, _, _, LS.nil, LS.nil, z14.same (s5.trans s6), z24.same (s5.trans s6), rfl⟩, fun i σ' H' k => hB H', ?_, ?_⟩
    · rintro i d x σ' H' H'' hd ⟨o, j', kt, hc', ks, hs, x7, x8, x9, hks, hhs, L, L2, rfl⟩ s7 rd
      obtain ⟨e1, rfl⟩ := rng_at hd
      have rd : x = .int (i : Int) := rd
      subst rd
      have e1 : i < ls.length := by simpa using e1
      have kt7 : KeepT H H'' := (((k03.trans (Same.keepT s4)).trans (Same.keepT s5)).trans (Same.keepT s6)).trans (kt.trans (Same.keepT s7))
      obtain ⟨l, hl⟩ : ∃ l, ls[i]? = some l := ⟨_, List.getElem?_eq_getElem e1⟩
      obtain ⟨f, hf⟩ : ∃ f, fs[i]? = some f := ⟨_, List.getElem?_eq_getElem (by rw [hL.same]; exact e1)⟩
      have j7 := j'.same s7
      refine qJ_append (K := K) (C := fun d => ∃ k, R1 ls i k ∧ d = kindD k) (ev_v rfl) (L.same s7) (by rw [List.length_map, hks.1]; omega) j7 (evX_imp (evX_tup (eaX_cons (evX_d (d := .str l) (fun H1 e j1 => ev_ixT (n := i) (l := ls.map D.str) (ev_d rfl (Rep.keepT (kt7.trans (e.keepT j7)) lt rl)) (ev_v rfl) (by rw [List.getElem?_map, hl]; rfl)) rfl) (eaX_cons (evX_d (d := .int (i : Int)) (fun _ _ _ => ev_v rfl) rfl) (eaX_cons (ex rfl) eaX_nil))) ?_) ?_) ?_
      · rintro l ⟨_, _, rfl, _, _, _, rfl, _, _, _, rfl, _, rfl⟩; simp
      · rintro d ⟨_, rfl, _, _, rfl, rfl, _, _, rfl, rfl, _, _, rfl, ⟨e, he, rfl⟩, rfl⟩
        exact ⟨(l, i, e), ⟨l, e, hl, he, rfl⟩, rfl⟩
      · rintro d H8 ⟨k, hk, rfl⟩ o8 j8 kt8 L8
        have L28 := (L2.same s7).oth2 ne12.symm o8 kt8
        have hc8 : H8 c = some (.lst ys) := o8 _ _ cne nc1 (s7 _ _ hc')
        have rf8 : RepAll K H8 (fs.map fD) ys := RepAll.keepT (kt7.trans kt8) tf rf
        refine sJ_append (K := K) (C := fun d => ∃ h, RH fs i h ∧ d = stD h) (ev_v rfl) L28 (by rw [List.length_map, hhs.1]; omega) j8 (evX_imp (evX_tup (eaX_cons (evJ_fn f (daJ_cons (d := .ref p) (evJ_of fun _ _ _ => ev_v rfl) rfl (daJ_cons (d := fD f) (evJ_of fun H1 e j1 => ev_ixL (n := i) (l := fs.map fD) (ev_d (d := .lst (fs.map fD)) rfl ⟨c, ys, rfl, SqL.of (e _ _ cne hc8), RepAll.keepT (e.keepT j8) tf rf8⟩) (ev_v rfl) (by rw [List.getElem?_map, hf]; rfl)) rfl daJ_nil)) trivial) eaX_nil) ?_) ?_) ?_
        · rintro l ⟨_, _, rfl, _, rfl⟩; simp
        · rintro d ⟨_, rfl, _, _, rfl, ⟨w, u, hw, rfl⟩, rfl⟩
          exact ⟨[.times f.1 f.2 w u], ⟨f, _, hf, ⟨w, u, hw, rfl⟩, rfl⟩, rfl⟩
        · rintro d H9 ⟨h, hh, rfl⟩ o9 j9 kt9 L9
          refine ⟨((o.same s7).oth2 n1 o8).oth2 hn2 o9, j9, ((kt.trans (Same.keepT s7)).trans kt8).trans kt9, o9 _ _ cne nc2 hc8, ks ++ [k], hs ++ [h], _, _, _, hks.snoc hk, hhs.snoc hh, ?_, ?_, rfl⟩
          · rw [List.map_append]; exact L8.oth2 ne12 o9 kt9
          · rw [List.map_append]; exact L9
    · rintro σ' H' ⟨o, j', kt, hc', ks, hs, x7, x8, x9, hks, hhs, L, L2, rfl⟩
      rw [List.length_map, List.length_range, Int.toNat_natCast] at hks hhs
      have rla' : Rep K H' (stD la) lav := Rep.keepT (((Same.keepT s5).trans (Same.keepT s6)).trans kt) tla' rla4
      refine sJ_ret (P := DX K (IsLaid ls fs)) (evX_imp (evX_tup (eaX_cons (evX_d (d := .tup (ks.map kindD)) (fun H1 e j1 => ev_tupOf (da_cons (ev_d (d := .lst (ks.map kindD)) rfl (LstJ.rep (monoJ_L _ _ _ e j' L))) da_nil)) (kindsD_tups ks)) (eaX_cons (evX_d (d := .tup (hs.map stD)) (fun H1 e j1 => ev_tupOf (da_cons (ev_d (d := .lst (hs.map stD)) rfl (LstJ.rep (monoJ_L _ _ _ e j' L2))) da_nil)) (heapsD_tups hs)) (eaX_cons (evX_d (d := stD la) (fun H1 e j1 => ev_d rfl (Rep.keepT (e.keepT j') tla' rla')) tla') eaX_nil))) ?_) ?_) j' fun v H1 e j1 pv => h2 v H1 (o.trans e) j1 pv
      · rintro l ⟨_, _, rfl, _, _, _, rfl, _, _, _, rfl, _, rfl⟩; simp
      · rintro d ⟨_, rfl, _, _, rfl, rfl, _, _, rfl, rfl, _, _, rfl, rfl, rfl⟩
        exact ⟨⟨ks, hs, la⟩, .each ks hs la hks hhs hla, rfl⟩
  · have same : ∀ g, g ∈ fs → g = f0 := fun g hg => by
      rw [← hh0]
      rw [← hh0] at cw2
      refine noneq_all ?_ g hg
      cases e : (fs.filter fun g => !decide (g = fs.headD (0, 0))).isEmpty with
      | true => rfl
      | false => rw [e] at cw2; simp at cw2
    refine q_for (it_tup (ds := ls.map D.str) (ev_d rfl (Rep.same s5 rl4)) lt) fun H6 G s6 eG hB => ⟨fun i σ' H' => Oth p H H' ∧ JarOk H' p ∧ KeepT H6 H' ∧ H' c = some (.lst ys) ∧ ∃ ks x7 x8 x9, LS (R2 ls) i ks ∧ LstJ p K (ks.map kindD) (.ref q1) H' ∧ σ' = [some (.ref p), some lv, some (.ref c), some (.int way), some (.ref q1), some (.ref q2), some lav, x7, x8, x9], ⟨(o4.same s5).same s6, (j4.same s5).same s6, fun _ _ h => h, (s5.trans s6) _ _ hc4, [], _, _, _, LS.nil, z14.same (s5.trans s6), rfl⟩, fun i σ' H' k => hB H' k.2.2.1, ?_, ?_⟩
    · rintro i d x σ' H' H'' hd ⟨o, j', kt, hc', ks, x7, x8, x9, hks, L, rfl⟩ s7 rd
      obtain ⟨l, e1, rfl⟩ := map_at hd
      have rd : x = .str l := rd
      subst rd
      have il := (List.getElem?_eq_some_iff.mp e1).1
      have j7 := j'.same s7
      refine sJ_append (K := K) (C := fun d => ∃ k, R2 ls i k ∧ d = kindD k) (ev_v rfl) (L.same s7) (by rw [List.length_map, hks.1]; omega) j7 (evX_imp (evX_tup (eaX_cons (evX_d (d := .str l) (fun _ _ _ => ev_v rfl) rfl) (eaX_cons (evX_c (d := .int 0) (fun _ => rfl) rfl) (eaX_cons (ex rfl) eaX_nil))) ?_) ?_) ?_
      · rintro l ⟨_, _, rfl, _, _, _, rfl, _, _, _, rfl, _, rfl⟩; simp
      · rintro d ⟨_, rfl, _, _, rfl, rfl, _, _, rfl, rfl, _, _, rfl, ⟨e, he, rfl⟩, rfl⟩
        exact ⟨(l, 0, e), ⟨l, e, e1, he, rfl⟩, rfl⟩
      · rintro d H8 ⟨k, hk, rfl⟩ o8 j8 kt8 L8
        refine ⟨(o.same s7).oth2 n1 o8, j8, (kt.trans (Same.keepT s7)).trans kt8, o8 _ _ cne nc1 (s7 _ _ hc'), ks ++ [k], _, _, _, hks.snoc hk, ?_, rfl⟩
        rw [List.map_append]; exact L8
    · rintro σ' H' ⟨o, j', kt, hc', ks, x7, x8, x9, hks, L, rfl⟩
      rw [List.length_map] at hks
      have kt9 := ((Same.keepT s5).trans (Same.keepT s6)).trans kt
      have rla' : Rep K H' (stD la) lav := Rep.keepT kt9 tla' rla4
      have rf9 : RepAll K H' (fs.map fD) ys := RepAll.keepT ((k03.trans (Same.keepT s4)).trans kt9) tf rf
      refine sJ_ret (P := DX K (IsLaid ls fs)) (evX_imp (evX_tup (eaX_cons (evX_d (d := .tup (ks.map kindD)) (fun H1 e j1 => ev_tupOf (da_cons (ev_d (d := .lst (ks.map kindD)) rfl (LstJ.rep (monoJ_L _ _ _ e j' L))) da_nil)) (kindsD_tups ks)) (eaX_cons (evX_tup (eaX_cons (ex rfl) eaX_nil) ?_) (eaX_cons (evX_cat (B := fun l => l = la.map Stp.d) (evX_tup (eaX_cons (evJ_fn f0 (daJ_cons (d := .ref p) (evJ_of fun _ _ _ => ev_v rfl) rfl (daJ_cons (d := fD f0) (evJ_of fun H1 e j1 => ev_ixL (n := 0) (l := fs.map fD) (ev_d (d := .lst (fs.map fD)) rfl ⟨c, ys, rfl, SqL.of (e _ _ cne hc'), RepAll.keepT (e.keepT j') tf rf9⟩) ev_c (by rw [List.getElem?_map, hf0]; rfl)) rfl daJ_nil)) trivial) eaX_nil) ?_) (evX_imp (evX_d (d := stD la) (fun H1 e j1 => ev_d rfl (Rep.keepT (e.keepT j') tla' rla')) tla') fun d e => ⟨_, e, rfl⟩) ?_ ?_) eaX_nil))) ?_) ?_) j' fun v H1 e j1 pv => h2 v H1 (o.trans e) j1 pv
      · rintro l ⟨_, _, rfl, _, rfl⟩; simp
      · rintro l ⟨_, _, rfl, _, rfl⟩; simp
      · rintro l ⟨_, _, rfl, _, rfl⟩; simp
      · rintro l rfl; rw [List.length_map]; have := hla.len; omega
      · rintro l ⟨_, _, rfl, _, _, _, rfl, _, _, _, rfl, _, rfl⟩; simp
      · rintro d ⟨_, rfl, _, _, rfl, rfl, _, _, rfl, ⟨_, rfl, _, _, rfl, ⟨e, he, rfl⟩, rfl⟩, _, _, rfl, ⟨_, _, rfl, ⟨_, _, rfl, ⟨w, u, hw, rfl⟩, rfl⟩, rfl⟩, rfl⟩
        exact ⟨⟨ks, [e], .times f0.1 f0.2 w u :: la⟩, .all ks e la f0 _ hks he hla same ⟨w, u, hw, rfl⟩, rfl⟩
end
end LC
end
section
set_option Elab.async false
set_option linter.all false
set_option maxRecDepth 100000
set_option maxHeartbeats 1000000
/-! comprehensions over draws; the plans are books -/
namespace LC
open PySem PySem.Spec L2
section
variable {p : Addr} {K : PySem.W.Frag} {σ : St} {H : Hp} {t0 te ta tb : TE} {tr : TA} {ds : List D} {vs : List Nat} {j : Nat} {R : List D → Prop}
theorem evJ_lcT {C : Nat → D → Prop} (h : ∀ H1, Oth p H H1 → JarOk H1 p → Ev t0 σ H1 (Dt K (.tup ds))) (hds : D.tupsOnlys ds = true) (hl : ds.length ≤ 50000) (hw : ∀ x, wipe ((wipe σ vs).set j (some x)) vs = wipe σ vs)
    (hb : ∀ i d x H1, ds[i]? = some d → Oth p H H1 → JarOk H1 p → Rep K H1 d x → EvJ p te ((wipe σ vs).set j (some x)) H1 (DX K (C i))) : EvJ p (tLc (iTup K t0) (gName j) tYes te vs) σ H (fun v H' => ∃ l, LS C ds.length l ∧ LstJ p K l v H') := fun H1 e0 j1 Q q =>
  it_tup (h H1 e0 j1) hds H1 (Same.refl _) _ fun J H2 G e1 e2 hB w Dl hD => by
    have nd : Dl ≠ p := jar_ne (j1.same e1) hD
    have h1d : H1 Dl = none := fresh_back e1 hD
    refine lc_it w (fun i H' => Oth p H1 H' ∧ JarOk H' p ∧ KeepT H2 H' ∧ ∃ l, LS C i l ∧ LstJ p K l (.ref Dl) H') ⟨(sOth e1 p).trans (sOth (same_new hD) p), (j1.same e1).same (same_new hD), keepT_new hD, [], LS.nil, Dl, [], rfl, nd, upd_same, rfl, rfl⟩ (fun i H' _ p => hB H' p.2.2.1) (fun i x H' H'' hi p y => ?_) (fun H' p => ?_)
    · obtain ⟨o, j2, kt, l, hL, L⟩ := p
      obtain ⟨y1, d, y2, y3⟩ := y
      refine ⟨hw x, ?_⟩
      show te _ H'' _
      refine hb i d x H'' y2 (e0.trans (o.same y1)) (j2.same y1) y3 H'' (Oth.refl _) (j2.same y1) _ fun y H5 o5 j5 ⟨d', cd, td, rd⟩ => ?_
      obtain ⟨a, acc, ea, na, hx, tl, rl⟩ := L
      cases ea
      have hx5 : H5 Dl = some (.lst acc) := o5 _ _ nd (y1 _ _ hx)
      have kt5 : KeepT H' H5 := (Same.keepT y1).trans (o5.keepT (j2.same y1))
      have kt6 : KeepT H5 (upd H5 Dl (.lst (acc ++ [y]))) := keepT_updL hx5
      have hi' : i < ds.length := (List.getElem?_eq_some_iff.mp y2).1
      refine ⟨acc, hx5, szl (by rw [rl.length, hL.1]; omega), ((o.same y1).trans o5).mut h1d, ?_, (kt.trans kt5).trans kt6, l ++ [d'], hL.snoc cd, Dl, _, rfl, nd, upd_same, tupsOnlys_append tl (by show (d'.tupsOnly && true) = true; rw [td]; rfl), RepAll.append (RepAll.keepT (kt5.trans kt6) tl rl) (RepAll.one (Rep.keepT kt6 td rd))⟩
      obtain ⟨a1, a2, a3, ha⟩ := j5
      exact ⟨a1, a2, a3, by rw [upd_ne (Ne.symm nd)]; exact ha⟩
    · obtain ⟨o, j2, kt, l, hL, L⟩ := p
      exact q _ _ o j2 ⟨l, hL, L⟩
/-- a list of draws -/
theorem evX_lst (h : EaJ p tr σ H (AX K R)) (hl : ∀ l, R l → l.length ≤ 1000) : EvJ p (tLst tr) σ H (fun v H => ∃ l, R l ∧ LstJ p K l v H) := fun H1 e j Q q =>
  h H1 e j _ fun vs H2 e2 j2 ⟨l, cl, tl, rl⟩ => ⟨sz (Nat.le_trans (by rw [rl.length]; exact hl l cl) (by decide)), fun a ha => q _ _ (e2.trans (sOth (same_new ha) p)) (j2.same (same_new ha)) ⟨l, cl, a, vs, rfl, jar_ne j2 ha, upd_same, tl, RepAll.same (same_new ha) rl⟩⟩
end
theorem fac_ok : (facs.all fun f => decide (1 ≤ f.1 ∧ f.1 ≤ 5 ∧ 1 ≤ f.2 ∧ f.2 ≤ 5)) = true := by decide +kernel
theorem StpF.ok {f : Nat × Nat} {s : Stp} (h : StpF f s) (hf : f ∈ facs) : s.ok := by
  obtain ⟨w, u, ⟨h1, h2, h3⟩, rfl⟩ := h
  have := of_decide_eq_true (List.all_eq_true.mp fac_ok f hf)
  exact ⟨this.1, this.2.1, this.2.2.1, this.2.2.2, h1, h2, h3⟩
theorem ExL.oks {l : List Stp} (h : ExL l) : OkS 1 l := ⟨h.len, fun s hs => by
  rcases h with e | ⟨c, c1, c2, e⟩ | ⟨w, u, h1, h2, h3, e⟩
  · rw [e] at hs; cases hs
  · rw [e] at hs; rw [List.mem_singleton.mp hs]; exact ⟨by omega, by omega⟩
  · rw [e] at hs; rw [List.mem_singleton.mp hs]; exact ⟨by decide, by decide, by decide, by decide, h1, h2, h3⟩⟩
theorem OkS.cons {s : Stp} {l : List Stp} {n : Nat} (h : s.ok) (k : OkS n l) : OkS (n + 1) (s :: l) := ⟨by have := k.1; rw [List.length_cons]; omega, fun x hx => by
  rcases List.mem_cons.mp hx with e | hx
  · rw [e]; exact h
  · exact k.2 x hx⟩
theorem OkS.le {l : List Stp} {n m : Nat} (k : OkS n l) (h : n ≤ m) : OkS m l := ⟨Nat.le_trans k.1 h, k.2⟩
theorem LS.at {β : Type} {R : Nat → β → Prop} {n : Nat} {l : List β} (h : LS R n l) {x : β} (hx : x ∈ l) : ∃ j, R j x ∧ l[j]? = some x := by
  obtain ⟨j, hj⟩ := List.getElem?_of_mem hx
  exact ⟨j, h.2 j x hj, hj⟩
theorem ls_names {R : Nat → Str × Nat × List Stp → Prop} {ls : List Str} {ks : List (Str × Nat × List Stp)} (h : LS R ls.length ks) (hR : ∀ j k, R j k → ls[j]? = some k.1) : kNames ks = ls := by
  refine List.ext_getElem? fun j => ?_
  show (ks.map (·.1))[j]? = ls[j]?
  rw [List.getElem?_map]
  cases e : ks[j]? with
  | some k => rw [hR j k (h.2 j k e)]; rfl
  | none =>
    have := List.getElem?_eq_none_iff.mp e
    rw [List.getElem?_eq_none (by rw [← h.1]; exact this)]; rfl
theorem Laid.names {ls : List Str} {fs : List (Nat × Nat)} {b : Bk} (h : Laid ls fs b) : b.names = ls := by
  cases h with
  | apart ks e la h1 => exact ls_names h1 fun j k ⟨l, f, s, e, h1, _, _, _, h5⟩ => by rw [h5]; exact h1
  | each ks hs la h1 => exact ls_names h1 fun j k ⟨l, e, h1, _, h5⟩ => by rw [h5]; exact h1
  | all ks e la f s h1 => exact ls_names h1 fun j k ⟨l, e, h1, _, h5⟩ => by rw [h5]; exact h1
theorem Laid.ok {ls : List Str} {fs : List (Nat × Nat)} {b : Bk} (hL : LabOk ls fs) (h : Laid ls fs b) : b.ok := by
  have hn := h.names
  have hlen : b.sorts.length = ls.length := by rw [← hn]; show _ = (b.sorts.map (·.1)).length; rw [List.length_map]
  have hpos : 0 < ls.length := List.length_pos_iff.mpr hL.some
  have l2 := hL.few
  have nm : ∀ {j : Nat} {l : Str}, ls[j]? = some l → l ∈ lawNames := fun h => hL.names _ (List.mem_of_getElem? h)
  have fc : ∀ {j : Nat} {f : Nat × Nat}, fs[j]? = some f → f ∈ facs := fun h => hL.facs _ (List.mem_of_getElem? h)
  refine ⟨fun e => by rw [e] at hlen; simp at hlen; omega, by omega, ?_, by show b.names.Nodup; rw [hn]; exact hL.once, ?_, ?_, ?_, ?_⟩
  · intro k hk
    cases h with
    | apart ks e la h1 h2 h3 =>
      obtain ⟨j, ⟨l, f, s, e, g1, g2, g3, g4, rfl⟩, _⟩ := h1.at hk
      exact ⟨nm g1, (by decide : 0 < 1), (g4.oks.cons (g3.ok (fc g2)))⟩
    | each ks hs la h1 h2 h3 =>
      obtain ⟨j, ⟨l, e, g1, g2, rfl⟩, _⟩ := h1.at hk
      exact ⟨nm g1, by show j < hs.length; rw [h2.1]; exact (List.getElem?_eq_some_iff.mp g1).1, g2.oks.le (by decide)⟩
    | all ks e la f s h1 h2 h3 h4 h5 =>
      obtain ⟨j, ⟨l, e, g1, g2, rfl⟩, _⟩ := h1.at hk
      exact ⟨nm g1, (by decide : 0 < 1), g2.oks.le (by decide)⟩
  · cases h with
    | apart ks e la h1 h2 h3 => exact fun z => nomatch z
    | each ks hs la h1 h2 h3 => exact fun z => by have := h2.1; rw [show hs = [] from z] at this; simp at this; omega
    | all ks e la f s h1 h2 h3 h4 h5 => exact fun z => nomatch z
  · cases h with
    | apart ks e la h1 h2 h3 => exact (by decide : 1 ≤ 3)
    | each ks hs la h1 h2 h3 => show hs.length ≤ 3; rw [h2.1]; omega
    | all ks e la f s h1 h2 h3 h4 h5 => exact (by decide : 1 ≤ 3)
  · intro l hl
    cases h with
    | apart ks e la h1 h2 h3 => rw [List.mem_singleton.mp hl]; exact h2.oks.le (by decide)
    | each ks hs la h1 h2 h3 =>
      obtain ⟨j, ⟨f, s, g1, g2, rfl⟩, _⟩ := h2.at hl
      exact (OkS.cons (n := 0) (g2.ok (fc g1)) ⟨Nat.le_refl _, fun _ z => absurd z List.not_mem_nil⟩).le (by decide)
    | all ks e la f s h1 h2 h3 h4 h5 => rw [List.mem_singleton.mp hl]; exact h2.oks.le (by decide)
  · cases h with
    | apart ks e la h1 h2 h3 => exact h3.oks.le (by decide)
    | each ks hs la h1 h2 h3 => exact h3.oks.le (by decide)
    | all ks e la f s h1 h2 h3 h4 h5 =>
      have hf : f ∈ facs := by
        cases e : fs with
        | nil => have := hL.same; rw [e] at this; simp at this; omega
        | cons g r => rw [← h4 g (by rw [e]; exact List.mem_cons_self ..)]; exact hL.facs g (by rw [e]; exact List.mem_cons_self ..)
      exact h3.oks.cons (h5.ok hf)
end LC
end
section
set_option Elab.async false
set_option linter.all false
set_option maxRecDepth 100000
set_option maxHeartbeats 4000000
/-! _law_pair -/
namespace LC
open PySem PySem.Spec L2
theorem facs_of : ∀ {n : Nat} {l : List D}, LS (fun _ => IsFac) n l → ∃ fs : List (Nat × Nat), fs.length = n ∧ (∀ f, f ∈ fs → f ∈ facs) ∧ l = fs.map fD
  | n, [], h => ⟨[], h.1, fun f hf => absurd hf List.not_mem_nil, rfl⟩
  | n, d :: l, h => by
    obtain ⟨f, hf, rfl⟩ := h.2 0 d rfl
    obtain ⟨fs, h1, h2, rfl⟩ := facs_of (n := l.length) (l := l) ⟨rfl, fun j x hx => h.2 (j + 1) x (by rw [List.getElem?_cons_succ]; exact hx)⟩
    refine ⟨f :: fs, ?_, ?_, rfl⟩
    · rw [List.length_cons, h1, ← h.1]; rfl
    · intro g hg
      rcases List.mem_cons.mp hg with e | hg
      · rw [e]; exact hf
      · exact h2 g hg
theorem planD_tups (b : Bk) : (planD b).tupsOnly = true := by
  show (D.tupsOnlys (b.sorts.map kindD) && (D.tupsOnlys (b.heaps.map stD) && (D.tupsOnlys (b.last.map Stp.d) && true))) = true
  rw [sortsD_tups, heapsD_tups, stD_tups]; rfl
structure Sel (A B : Bk) : Prop where
  laid : ∃ ls fs, LabOk ls fs ∧ Laid ls fs A ∧ Laid ls fs B
  states : manySt A B ≤ 40
  amounts : ∀ n, n ∈ manyAm A B → n ≤ 24
def spPair (K : PySem.W.Frag) : Sp := fun vs H Q _ => ∃ p : Addr, vs = [.ref p, .int 40, .int 24] ∧ JarOk H p ∧ ∀ v H2, Oth p H H2 → JarOk H2 p → (∃ A B, Sel A B ∧ LstJ p K [planD A, planD B] v H2) → Q v H2
theorem spPair_len {K : PySem.W.Frag} : ∀ vs H Q E, spPair K vs H Q E → vs.length = 3 := fun vs H Q E ⟨p, e, _⟩ => by rw [e]; rfl
def labOpts : List (List Str) := [["a"], ["tea", "x9"], ["kind"], ["b", "a"], ["group"]]
theorem labOpts_ok : (labOpts.all fun ls => decide (ls ≠ [] ∧ ls.length ≤ 2 ∧ ls.Nodup) && ls.all fun l => decide (l ∈ lawNames)) = true := by decide +kernel
theorem labOk {ls : List Str} {fs : List (Nat × Nat)} (h : ls ∈ labOpts) (hs : fs.length = ls.length) (hf : ∀ f, f ∈ fs → f ∈ facs) : LabOk ls fs := by
  obtain ⟨a, b⟩ := Bool.and_eq_true_iff.mp (List.all_eq_true.mp labOpts_ok ls h)
  have a := of_decide_eq_true a
  exact ⟨a.1, a.2.1, fun l hl => of_decide_eq_true (List.all_eq_true.mp b l hl), a.2.2, hs, hf⟩
theorem max_of : ∀ (l : List Nat), l ≠ [] → ∃ m, m ∈ l ∧ ∀ y, y ∈ l → y ≤ m
  | [], h => absurd rfl h
  | [a], _ => ⟨a, List.mem_cons_self .., fun y hy => by rw [List.mem_singleton.mp hy]; exact Nat.le_refl _⟩
  | a :: b :: l, _ => by
    obtain ⟨m, h1, h2⟩ := max_of (b :: l) (fun z => nomatch z)
    by_cases c : a ≤ m
    · exact ⟨m, List.mem_cons_of_mem _ h1, fun y hy => by
        rcases List.mem_cons.mp hy with e | hy
        · rw [e]; exact c
        · exact h2 y hy⟩
    · exact ⟨a, List.mem_cons_self .., fun y hy => by
        rcases List.mem_cons.mp hy with e | hy
        · rw [e]; exact Nat.le_refl _
        · have := h2 y hy; omega⟩
theorem many_ne {ls : List Str} {A B : Bk} (h : ls ≠ []) (hA : A.names = ls) (hB : B.names = ls) : manyAm A B ≠ [] := by
  have l0 : 0 < ls.length := List.length_pos_iff.mpr h
  have lA : A.sorts.length = ls.length := by rw [← hA]; show _ = (A.sorts.map (·.1)).length; rw [List.length_map]
  have lB : B.sorts.length = ls.length := by rw [← hB]; show _ = (B.sorts.map (·.1)).length; rw [List.length_map]
  have e : ∀ b : Bk, b.owns.length = b.sorts.length := fun b => by unfold Bk.owns; rw [List.length_map]
  intro z
  have e2 : (manyAm A B).length = ls.length := by
    show (amB (amB (List.replicate A.sorts.length 1) A) B).length = _
    unfold amB
    rw [List.length_map, List.length_zip, List.length_map, List.length_zip, List.length_replicate, e, e, lA, lB]
    omega
  rw [z] at e2
  simp at e2
  omega
theorem fallback (ls : List Str) (hl : ls ∈ labOpts) : ∃ A B, Sel A B ∧ sortsD A.sorts = .tup (ls.map fun l => .tup [.str l, .int 0, .tup [.tup [.str "times", .int 1, .int 2, .str "up", .int 1]]]) ∧ A.heaps = [[]] ∧ A.last = [] ∧ sortsD B.sorts = .tup (ls.map fun l => .tup [.str l, .int 0, .tup []]) ∧ B.heaps = [[]] ∧ B.last = [.times 1 2 "near even" 1] := by
  have fo : ∀ f, f ∈ List.replicate ls.length ((1, 2) : Nat × Nat) → f ∈ facs := fun f hf => by rw [(List.mem_replicate.mp hf).2]; decide
  have get : ∀ {j : Nat} {k : Str × Nat × List Stp} {g : Str → Str × Nat × List Stp}, (ls.map g)[j]? = some k → ∃ l, ls[j]? = some l ∧ g l = k := fun h => by
    rw [List.getElem?_map] at h
    exact Option.map_eq_some_iff.mp h
  refine ⟨⟨ls.map fun l => (l, 0, [.times 1 2 "up" 1]), [[]], []⟩, ⟨ls.map fun l => (l, 0, []), [[]], [.times 1 2 "near even" 1]⟩, ⟨⟨ls, List.replicate ls.length (1, 2), labOk hl (List.length_replicate ..) fo, ?_, ?_⟩, ?_, ?_⟩, ?_, rfl, rfl, ?_, rfl, rfl⟩
  · refine .apart _ _ _ ⟨List.length_map .., fun j k hk => ?_⟩ (.inl rfl) (.inl rfl)
    obtain ⟨l, h1, rfl⟩ := get hk
    exact ⟨l, (1, 2), .times 1 2 "up" 1, [], h1, by rw [List.getElem?_replicate, if_pos (List.getElem?_eq_some_iff.mp h1).1], ⟨"up", 1, by decide, rfl⟩, .inl rfl, rfl⟩
  · refine .all _ _ _ (1, 2) (.times 1 2 "near even" 1) ⟨List.length_map .., fun j k hk => ?_⟩ (.inl rfl) (.inl rfl) (fun g hg => (List.mem_replicate.mp hg).2) ⟨"near even", 1, by decide, rfl⟩
    obtain ⟨l, h1, rfl⟩ := get hk
    exact ⟨l, [], h1, .inl rfl, rfl⟩
  · have q : (labOpts.all fun ls => decide (manySt ⟨ls.map fun l => (l, 0, [.times 1 2 "up" 1]), [[]], []⟩ ⟨ls.map fun l => (l, 0, []), [[]], [.times 1 2 "near even" 1]⟩ ≤ 40)) = true := by decide +kernel
    exact of_decide_eq_true (List.all_eq_true.mp q ls hl)
  · have q : (labOpts.all fun ls => (manyAm ⟨ls.map fun l => (l, 0, [.times 1 2 "up" 1]), [[]], []⟩ ⟨ls.map fun l => (l, 0, []), [[]], [.times 1 2 "near even" 1]⟩).all fun n => decide (n ≤ 24)) = true := by decide +kernel
    exact fun n hn => of_decide_eq_true (List.all_eq_true.mp (List.all_eq_true.mp q ls hl) n hn)
  · show D.tup ((ls.map _).map kindD) = _
    rw [List.map_map]; rfl
  · show D.tup ((ls.map _).map kindD) = _
    rw [List.map_map]; rfl
section
variable {p : Addr} {K : PySem.W.Frag} {σ : St} {H : Hp} {te ta tw : TE} {P : PV} {E : Ends} {z : TS} {i : Nat}
theorem qJ_ifA {v0 : V} (hc : EvJ p te σ H (fun v _ => ∃ b, v = .bl b)) (j : JarOk H p) (h0 : σ[i]? = some (some v0)) (p0 : P v0 H) (m : MonoJ p P) (ha : ∀ H1, Oth p H H1 → JarOk H1 p → EvJ p ta σ H1 P) (k : ∀ v H1, Oth p H H1 → JarOk H1 p → P v H1 → z E (σ.set i (some v)) H1) : tSeq (tIfS (tTest te) (tAsg ta (gName i)) tNext) z E σ H :=
  hc H (Oth.refl _) j _ fun v H1 e1 j1 ⟨b, eb⟩ => ⟨b, eb, by
    cases b with
    | true => exact ha H1 e1 j1 H1 (Oth.refl _) j1 _ fun w H2 e2 j2 pw => k w H2 (e1.trans e2) j2 pw
    | false =>
      have := k v0 H1 e1 j1 (m _ _ _ e1 j p0)
      have e : σ.set i (some v0) = σ := by
        obtain ⟨hi, he⟩ := List.getElem?_eq_some_iff.mp h0
        rw [← he]; exact List.set_getElem_self hi
      rw [e] at this
      exact this⟩
theorem evJ_laid {ls : List Str} {fs : List (Nat × Nat)} {lv fv : V} {n : Nat} (h0 : σ[0]? = some (some (.ref p))) (h3 : σ[3]? = some (some lv)) (h6 : σ[6]? = some (some fv)) (rl : Rep K H (strsD ls) lv) (L : LstJ p K (fs.map fD) fv H) (hw : EvJ p tw σ H (DigP n)) (hL : LabOk ls fs) (j : JarOk H p) : EvJ p (tCall (spLaid K) [] E0 (tCons (tVar 0) (tCons (tVar 3) (tCons (tVar 6) (tCons tw tNil))))) σ H (DX K (IsLaid ls fs)) :=
  evJ_call (eaJ_cons (evJ_v h0) monoJ_is (eaJ_cons (evJ_vP h3 (monoJ_dt (d := strsD ls) (tups_strs ls)) rl j) (monoJ_dt (tups_strs ls)) (eaJ_cons (evJ_vP h6 monoJ_L L j) monoJ_L (eaJ_cons hw (fun _ _ _ _ _ h => h) eaJ_nil)))) fun vs H1 _ j1 ⟨a, r, e1, e2, b, r2, e3, rl1, c, r3, e5, L1, d, r4, e6, ⟨w, _, e7⟩, e8⟩ Q q => by
    have e2 : a = .ref p := e2
    subst e8 e7 e6 e5 e3 e2 e1
    exact ⟨p, ls, fs, (w : Int), ⟨b, c, rfl, rl1, L1⟩, j1, hL, q⟩
end
section
variable {P : Program} {w : World} {K : PySem.W.Frag} {mg : Str → Option Value} {base : Heap}
-- _law_jar_here 0 _law_states 1 _law_most 2 _law_labels 3 _law_turn 4 _law_same 5 _law_factors 6 _law_plans 7 _law_told 8 _law_sorts 9 _law_bare 10 _law_label 11
theorem sc__law_pair : FnScope ["_law_jar_here", "_law_states", "_law_most", "_law_labels", "_law_turn", "_law_same", "_law_factors", "_law_plans", "_law_told", "_law_sorts", "_law_bare", "_law_label"] ["_law_jar_here", "_law_states", "_law_most"] (defScope (top 104)) := ⟨rfl, rfl, rfl, by decide +kernel, rfl, by decide +kernel, by decide +kernel⟩
theorem ok__law_pair (E : Env P w K mg base) (o__law_take : Okf P w K mg base 2 "_law_take" ["_law_jar_here", "_law_some"] (spTake K)) (o__law_factor : Okf P w K mg base 3 "_law_factor" ["_law_jar_here"] (spFac K)) (o__law_dig : Okf P w K mg base 1 "_law_dig" ["_law_jar_here", "_law_many_here"] (spDig K)) (o__law_laid : Okf P w K mg base 5 "_law_laid" ["_law_jar_here", "_law_labels", "_law_factors", "_law_way_here"] (spLaid K)) (o__law_many : Okf P w K mg base 4 "_law_many" ["_law_plans"] (spMany K)) : Okf P w K mg base 6 "_law_pair" ["_law_jar_here", "_law_states", "_law_most"] (spPair K) :=
  okf_mk E 57 57 rfl rfl sc__law_pair (fun _ _ _ _ _ _ us hl => match us, hl with | [_, _, _], _ => rfl) spPair_len fun cdv A outer s H vs Q E0 hr h => by
  obtain ⟨p, rfl, j, h2⟩ := h
  have nd := sc__law_pair.nd
  refine ⟨_, (pss_cons (ps_set (i := 3) nd rfl (.inl rfl) (pe_okf o__law_take (hr.mono (by decide)) (pa_cons (pv 0) (pa_cons (pe_lst (pa_cons (pe_tup (pa_cons pe_str pa_nil)) (pa_cons (pe_tup (pa_cons pe_str (pa_cons pe_str pa_nil))) (pa_cons (pe_tup (pa_cons pe_str pa_nil)) (pa_cons (pe_tup (pa_cons pe_str (pa_cons pe_str pa_nil))) (pa_cons (pe_tup (pa_cons pe_str pa_nil)) pa_nil)))))) pa_nil))))
      (pss_cons (ps_for PassesOwn.never rfl (pi_range1 (by rfl) (E.free 75) (pa_cons pe_int pa_nil)) (pg_name (i := 4) nd rfl (.inl rfl)) (pss_cons (ps_set (i := 5) nd rfl (.inr rfl) (pe_okf o__law_factor (hr.mono (by decide)) (pa_cons (pv 0) pa_nil)))
      (pss_cons (ps_setLc (i := 6) (own := [("_law_label", 11)]) (g := gName 11) (tt := tYes)  rfl nd rfl rfl (sw_true rfl rfl rfl (by decide +kernel)) (kITup (K := K) rfl (pv 3)) (blkOk_by (N := ["_law_jar_here", "_law_states", "_law_most", "_law_labels", "_law_turn", "_law_same", "_law_factors", "_law_plans", "_law_told", "_law_sorts", "_law_bare", "_law_label"]) (sc := defScope (top 104)) (by decide +kernel)) (fun _ _ _ _ _ => (pg_name (i := 11) nd rfl (.inl rfl))) (fun _ _ _ _ _ => pts_nil) (fun _ _ _ _ _ => (pv 5)))
      (pss_cons (ps_if (pt_cmpR op_eq (pe_okf o__law_dig (hr.mono (by decide)) (pa_cons (pv 0) (pa_cons pe_int pa_nil))) pe_int (nomark _)) (pss_one (ps_setLc (i := 6) (own := [("_law_label", 11)]) (g := gName 11) (tt := tYes)  rfl nd rfl rfl (sw_true rfl rfl rfl (by decide +kernel)) (kITup (K := K) rfl (pv 3)) (blkOk_by (N := ["_law_jar_here", "_law_states", "_law_most", "_law_labels", "_law_turn", "_law_same", "_law_factors", "_law_plans", "_law_told", "_law_sorts", "_law_bare", "_law_label"]) (sc := defScope (top 104)) (by decide +kernel)) (fun _ _ _ _ _ => (pg_name (i := 11) nd rfl (.inl rfl))) (fun _ _ _ _ _ => pts_nil) (fun _ _ _ _ _ => (pe_okf o__law_factor (hr.mono (by decide)) (pa_cons (pv 0) pa_nil))))) pss_nil)
      (pss_cons (ps_set (i := 7) nd rfl (.inl rfl) (pe_lst (pa_cons (pe_okf o__law_laid (hr.mono (by decide)) (pa_cons (pv 0) (pa_cons (pv 3) (pa_cons (pv 6) (pa_cons (pe_okf o__law_dig (hr.mono (by decide)) (pa_cons (pv 0) (pa_cons pe_int pa_nil))) pa_nil))))) (pa_cons (pe_okf o__law_laid (hr.mono (by decide)) (pa_cons (pv 0) (pa_cons (pv 3) (pa_cons (pv 6) (pa_cons (pe_okf o__law_dig (hr.mono (by decide)) (pa_cons (pv 0) (pa_cons pe_int pa_nil))) pa_nil))))) pa_nil))))
      (pss_cons (ps_set (i := 8) nd rfl (.inl rfl) (pe_okf o__law_many (hr.mono (by decide)) (pa_cons (pv 7) pa_nil)))
      (pss_one (ps_if (PW.pt (pw_and (pt_cmpR op_le (kIxT (K := K) rfl (pv 8) pe_int) (pv 1) (nomark _)) (pw_and1 (pt_cmpR op_le (kB (K := K) (r := fun _ _ _ => True) (r' := rMax) rfl (cr_max rfl) (E.free 73) (by decide +kernel) (pa_cons (kIxT (K := K) rfl (pv 8) pe_int) pa_nil)) (pv 2) (nomark _))))) (pss_one (ps_ret (pv 7))) pss_nil))))))))
      (pss_cons (ps_set (i := 9) nd rfl (.inl rfl) (kTy (K := K) (r' := rTupOf) rfl call_tuple_of (E.free 66) (by decide +kernel) (pa_cons (pe_lc (own := [("_law_label", 11)]) (g := gName 11) (tt := tYes)  rfl nd (kITup (K := K) rfl (pv 3)) (blkOk_by (N := ["_law_jar_here", "_law_states", "_law_most", "_law_labels", "_law_turn", "_law_same", "_law_factors", "_law_plans", "_law_told", "_law_sorts", "_law_bare", "_law_label"]) (sc := defScope (top 104)) (by decide +kernel)) (fun _ _ _ _ _ => (pg_name (i := 11) nd rfl (.inl rfl))) (fun _ _ _ _ _ => pts_nil) (fun _ _ _ _ _ => (pe_tup (pa_cons (pv 11) (pa_cons pe_int (pa_cons (pe_tup (pa_cons (pe_tup (pa_cons pe_str (pa_cons pe_int (pa_cons pe_int (pa_cons pe_str (pa_cons pe_int pa_nil)))))) pa_nil)) pa_nil)))))) pa_nil)))
      (pss_cons (ps_set (i := 10) nd rfl (.inl rfl) (kTy (K := K) (r' := rTupOf) rfl call_tuple_of (E.free 66) (by decide +kernel) (pa_cons (pe_lc (own := [("_law_label", 11)]) (g := gName 11) (tt := tYes)  rfl nd (kITup (K := K) rfl (pv 3)) (blkOk_by (N := ["_law_jar_here", "_law_states", "_law_most", "_law_labels", "_law_turn", "_law_same", "_law_factors", "_law_plans", "_law_told", "_law_sorts", "_law_bare", "_law_label"]) (sc := defScope (top 104)) (by decide +kernel)) (fun _ _ _ _ _ => (pg_name (i := 11) nd rfl (.inl rfl))) (fun _ _ _ _ _ => pts_nil) (fun _ _ _ _ _ => (pe_tup (pa_cons (pv 11) (pa_cons pe_int (pa_cons (pe_tup pa_nil) pa_nil)))))) pa_nil)))
      (pss_one (ps_ret (pe_lst (pa_cons (pe_tup (pa_cons (pv 9) (pa_cons (pe_tup (pa_cons (pe_tup pa_nil) pa_nil)) (pa_cons (pe_tup pa_nil) pa_nil)))) (pa_cons (pe_tup (pa_cons (pv 10) (pa_cons (pe_tup (pa_cons (pe_tup pa_nil) pa_nil)) (pa_cons (pe_tup (pa_cons (pe_tup (pa_cons pe_str (pa_cons pe_int (pa_cons pe_int (pa_cons pe_str (pa_cons pe_int pa_nil)))))) pa_nil)) pa_nil)))) pa_nil))))))))), ?_⟩
  have e1 : ∀ {a : Str} {σ : St} {H : Hp}, Ev (tTup (tCons (tC (.str a)) tNil)) σ H (Dt K (strsD [a])) := ev_tup (K := K) (l := [.str _]) (da_cons ev_c da_nil) (show 1 ≤ 100000 by decide)
  have e2 : ∀ {a b : Str} {σ : St} {H : Hp}, Ev (tTup (tCons (tC (.str a)) (tCons (tC (.str b)) tNil))) σ H (Dt K (strsD [a, b])) := ev_tup (K := K) (l := [.str _, .str _]) (da_cons ev_c (da_cons ev_c da_nil)) (show 2 ≤ 100000 by decide)
  have ed : ∀ {σ : St} {H : Hp}, σ[0]? = some (some (.ref p)) → EvJ p (tCall (spDig K) [] E0 (tCons (tVar 0) (tCons (tC (.int 3)) tNil))) σ H (DigP 3) := fun h0 => evJ_fn 3 (daJ_cons (d := .ref p) (evJ_of fun _ _ _ => ev_v h0) rfl (daJ_cons (d := .int 3) (evJ_of fun _ _ _ => ev_c) rfl daJ_nil)) (by decide)
  have ef : ∀ {σ : St} {H : Hp}, σ[0]? = some (some (.ref p)) → EvJ p (tCall (spFac K) [] E0 (tCons (tVar 0) tNil)) σ H (DX K IsFac) := fun h0 => evJ_fn () (daJ_cons (d := .ref p) (evJ_of fun _ _ _ => ev_v h0) rfl daJ_nil) trivial
  refine qJ_asg (evJ_take (l := labOpts.map strsD) rfl (evJ_newL (fun H1 _ _ => ev_lst (da_cons e1 (da_cons e2 (da_cons e1 (da_cons e2 (da_cons e1 da_nil))))) (by decide)) rfl) ⟨(by decide), (by decide)⟩) j fun lv H1 o1 j1 ⟨_, hd, tl, rl⟩ => ?_
  obtain ⟨ls, hls, rfl⟩ := List.mem_map.mp hd
  refine q_for (it_range1 (K := K) (n := 6) (da_cons ev_c da_nil) (by decide) (by decide)) fun H2 G s2 eG hB => ⟨fun i σ' H' => Oth p H H' ∧ JarOk H' p ∧ KeepT H1 H' ∧ ∃ x4 x5 x6 x7 x8 x9 x10 x11, σ' = [some (.ref p), some (.int 40), some (.int 24), some lv, x4, x5, x6, x7, x8, x9, x10, x11], ⟨o1.same s2, j1.same s2, Same.keepT s2, _, _, _, _, _, _, _, _, rfl⟩, fun i σ' H' k => hB H', ?_, ?_⟩
  · rintro i d x σ' H' H'' hd ⟨o, j', kt, x4, x5, x6, x7, x8, x9, x10, x11, rfl⟩ s3 rd
    refine qJ_asg (ef rfl) (j'.same s3) fun fv H3 o3 j3 ⟨_, ⟨f, hf, rfl⟩, tf, rf⟩ => ?_
    have kt3 : KeepT H1 H3 := (kt.trans (Same.keepT s3)).trans (o3.keepT (j'.same s3))
    have rl3 := Rep.keepT kt3 tl rl
    have oo3 := (o.same s3).trans o3
    refine qJ_asg (P := fun v H => ∃ fs, LabOk ls fs ∧ LstJ p K (fs.map fD) v H) ((evJ_newL (l := ls.map fun _ => fD f) (fun H4 o4 j4 => ev_lc1 (j := 11) D.str (fun _ => fD f) (it_tup (ds := ls.map D.str) (ev_d rfl (Rep.keepT (o4.keepT j3) tl rl3)) (tups_strs ls)) ?_ (fun _ => rfl) (fun _ _ => rfl) fun a x H5 ha s5 rx => ev_d rfl (Rep.same s5 (Rep.keepT (o4.keepT j3) rfl rf))) ?_).imp fun v H4 j4 L => ⟨ls.map fun _ => f, labOk hls (List.length_map ..) (fun g hg => ?_), ?_⟩) j3 fun fv H4 o4 j4 ⟨fs0, hL0, L0⟩ => ?_
    · have := (labOk (fs := ls.map fun _ => (1, 2)) hls (List.length_map ..) (fun g hg => by obtain ⟨_, _, rfl⟩ := List.mem_map.mp hg; decide)).few
      omega
    · rw [show (ls.map fun _ => fD f) = (ls.map fun _ => f).map fD from by rw [List.map_map]; rfl]
      exact fD_tups _
    · obtain ⟨_, _, rfl⟩ := List.mem_map.mp hg
      exact hf
    · rw [List.map_map]
      exact L
    · have kt4 := kt3.trans (o4.keepT j3)
      have rl4 := Rep.keepT kt4 tl rl
      have oo4 := oo3.trans o4
      refine qJ_ifA (P := fun v H => ∃ fs, LabOk ls fs ∧ LstJ p K (fs.map fD) v H) (evJ_op2 (P1 := DigP 3) (P2 := Is (.int 0)) (ed rfl) evJ_c (fun _ _ _ _ _ h => h) fun x y H5 ⟨d, _, e1⟩ e2 => (ev_eqB (ev_tC (P := Is (.int (d : Int))) e1 mono_is) (ev_tC (P := Is (.int 0)) e2 mono_is) rfl rfl).imp fun v _ _ e => ⟨_, e⟩) j4 rfl ⟨fs0, hL0, L0⟩ (fun v H H' e jj ⟨fs, h1, h2⟩ => ⟨fs, h1, monoJ_L _ _ _ e jj h2⟩) (fun H5 o5 j5 => ?_) (fun fv2 H5 o5 j5 ⟨fs, hL, L⟩ => ?_)
      · refine (evJ_lcT (C := fun _ => IsFac) (fun H6 o6 j6 => ev_d (d := .tup (ls.map D.str)) rfl (Rep.keepT ((o5.keepT j4).trans (o6.keepT j5)) tl rl4)) (tups_strs ls) (by rw [List.length_map]; have := hL0.few; omega) (fun _ => rfl) fun i d x H6 hd o6 j6 rx => ef rfl).imp fun v H6 j6 ⟨l, hl, L⟩ => ?_
        rw [List.length_map] at hl
        obtain ⟨fs, h1, h2, h3⟩ := facs_of hl
        subst h3
        exact ⟨fs, labOk hls h1 h2, L⟩
      · have kt5 := kt4.trans (o5.keepT j4)
        have rl5 := Rep.keepT kt5 tl rl
        have oo5 := oo4.trans o5
        refine qJ_asg (evX_lst (R := fun l => ∃ A B, Laid ls fs A ∧ Laid ls fs B ∧ l = [planD A, planD B]) (eaX_imp (eaX_cons (evJ_laid rfl rfl rfl rl5 L (ed rfl) hL j5) (eaX_cons (evJ_laid rfl rfl rfl rl5 L (ed rfl) hL j5) eaX_nil)) ?_) ?_) j5 fun pv H6 o6 j6 ⟨_, ⟨A, B, hA, hB, rfl⟩, LP⟩ => ?_
        · rintro l ⟨_, _, rfl, ⟨A, hA, rfl⟩, _, _, rfl, ⟨B, hB, rfl⟩, rfl⟩
          exact ⟨A, B, hA, hB, rfl⟩
        · rintro l ⟨A, B, _, _, rfl⟩
          exact (by decide : 2 ≤ 1000)
        · have kA := hA.ok hL
          have kB := hB.ok hL
          refine q_asg (P := Dt K (.tup [.int (manySt A B : Int), natsL (manyAm A B)])) (ev_fn (A, B) (da_cons (ev_d rfl LP.rep) da_nil) ⟨kA, kB⟩) fun tv H7 s7 rt => ?_
          obtain ⟨m, hm, hx⟩ := max_of _ (many_ne hL.some hA.names hB.names)
          refine s_if (b := decide ((manySt A B : Int) ≤ 40) && decide ((m : Int) ≤ 24)) (et_and (et_t (ev_I0 (ev_ixT (n := 0) (d := .int (manySt A B : Int)) (ev_d rfl rt) ev_c rfl) (ev_v rfl))) fun _ => et_t (ev_I0 (ev_max (K := K) (ns := (manyAm A B).map fun (n : Nat) => (n : Int)) (da_cons (ev_ixT (n := 1) (d := .lst (((manyAm A B).map fun (n : Nat) => (n : Int)).map D.int)) (ev_d rfl rt) ev_c ?_) da_nil) (List.mem_map.mpr ⟨m, hm, rfl⟩) ?_) (ev_v rfl))) (fun c H8 s8 => ?_) (fun c H8 s8 => ?_)
          · rw [List.map_map]; rfl
          · rintro y hy
            obtain ⟨n, hn, rfl⟩ := List.mem_map.mp hy
            have := hx n hn
            exact Int.ofNat_le.mpr this
          · obtain ⟨c1, c2⟩ := Bool.and_eq_true_iff.mp c
            have c1 := of_decide_eq_true c1
            have c2 := of_decide_eq_true c2
            exact s_retv (ev_v rfl) fun H9 s9 => h2 _ H9 ((((oo5.trans o6).same s7).same s8).same s9) (((j6.same s7).same s8).same s9) ⟨A, B, ⟨⟨ls, fs, hL, hA, hB⟩, by omega, fun n hn => by have := hx n hn; omega⟩, LP.same ((s7.trans s8).trans s9)⟩
          · exact ⟨((oo5.trans o6).same s7).same s8, (j6.same s7).same s8, ((kt5.trans (o6.keepT j5)).trans (Same.keepT s7)).trans (Same.keepT s8), _, _, _, _, _, _, _, _, rfl⟩
  · rintro σ' H' ⟨o, j', kt, x4, x5, x6, x7, x8, x9, x10, x11, rfl⟩
    obtain ⟨A, B, hS, a1, a2, a3, b1, b2, b3⟩ := fallback ls hls
    have rl' : Rep K H' (.tup (ls.map D.str)) lv := Rep.keepT kt tl rl
    have lf : ls.length ≤ 50000 := by
      have := (labOk (fs := ls.map fun _ => (1, 2)) hls (List.length_map ..) (fun g hg => by obtain ⟨_, _, rfl⟩ := List.mem_map.mp hg; decide)).few
      omega
    refine q_asg (P := Dt K (sortsD A.sorts)) (by
      rw [a1]
      exact ev_tupOf (da_cons (NewL.dt (ev_lc1 (j := 11) D.str (fun l => .tup [.str l, .int 0, .tup [.tup [.str "times", .int 1, .int 2, .str "up", .int 1]]]) (it_tup (ds := ls.map D.str) (ev_d rfl rl') (tups_strs ls)) lf (fun _ => rfl) (fun _ _ => rfl) fun a x H5 ha s5 rx => by
        have rx : x = .str a := rx
        subst rx
        exact ev_tup (K := K) (da_cons (ev_v rfl) (da_cons ev_c (da_cons (ev_tup (K := K) (da_cons (ev_tup (K := K) (da_cons ev_c (da_cons ev_c (da_cons ev_c (da_cons ev_c (da_cons ev_c da_nil))))) (show 5 ≤ 100000 by decide)) da_nil) (show 1 ≤ 100000 by decide)) da_nil))) (show 3 ≤ 100000 by decide))) da_nil)) fun sv H3 s3 rs => ?_
    refine q_asg (P := Dt K (sortsD B.sorts)) (by
      rw [b1]
      exact ev_tupOf (da_cons (NewL.dt (ev_lc1 (j := 11) D.str (fun l => .tup [.str l, .int 0, .tup []]) (it_tup (ds := ls.map D.str) (ev_d rfl (Rep.same s3 rl')) (tups_strs ls)) lf (fun _ => rfl) (fun _ _ => rfl) fun a x H5 ha s5 rx => by
        have rx : x = .str a := rx
        subst rx
        exact ev_tup (K := K) (da_cons (ev_v rfl) (da_cons ev_c (da_cons (ev_tup (K := K) da_nil (show 0 ≤ 100000 by decide)) da_nil))) (show 3 ≤ 100000 by decide))) da_nil)) fun bv H4 s4 rb => ?_
    refine sJ_ret (P := LstJ p K [planD A, planD B]) (evJ_newL (fun H5 o5 j5 => ?_) ?_) ((j'.same s3).same s4) fun v H5 o5 j5 L => h2 v H5 (((o.same s3).same s4).trans o5) j5 ⟨A, B, hS, L⟩
    · have rs5 : Rep K H5 (sortsD A.sorts) sv := Rep.keepT ((Same.keepT s4).trans (o5.keepT ((j'.same s3).same s4))) (sortsD_tups _) rs
      have rb5 : Rep K H5 (sortsD B.sorts) bv := Rep.keepT (o5.keepT ((j'.same s3).same s4)) (sortsD_tups _) rb
      have e0 : ∀ {σ : St} {H : Hp}, Ev (tTup tNil) σ H (Dt K (.tup [])) := ev_tup (K := K) da_nil (show 0 ≤ 100000 by decide)
      unfold planD
      rw [a2, a3, b2, b3]
      exact ev_lst (da_cons (ev_tup (K := K) (da_cons (ev_d rfl rs5) (da_cons (ev_tup (K := K) (da_cons e0 da_nil) (show 1 ≤ 100000 by decide)) (da_cons e0 da_nil))) (show 3 ≤ 100000 by decide)) (da_cons (ev_tup (K := K) (da_cons (ev_d rfl rb5) (da_cons (ev_tup (K := K) (da_cons e0 da_nil) (show 1 ≤ 100000 by decide)) (da_cons (ev_tup (K := K) (da_cons (ev_tup (K := K) (da_cons ev_c (da_cons ev_c (da_cons ev_c (da_cons ev_c (da_cons ev_c da_nil))))) (show 5 ≤ 100000 by decide)) da_nil) (show 1 ≤ 100000 by decide)) da_nil))) (show 3 ≤ 100000 by decide)) da_nil)) (show 2 ≤ 100000 by decide)
    · show ((planD A).tupsOnly && ((planD B).tupsOnly && true)) = true
      rw [planD_tups, planD_tups]; rfl
end
end LC
end
section
set_option Elab.async false
set_option linter.all false
set_option maxRecDepth 100000
set_option maxHeartbeats 2000000
/-! _law_books -/
namespace LC
open PySem PySem.Spec L2
def KeepI (H H' : Hp) : Prop := ∀ a C dx fs, H a = some (.ins C dx fs) → H' a = some (.ins C dx fs)
theorem BookAt.keep {K : PySem.W.Frag} {H H' : Hp} {p : Addr} {b : Bk} (i : KeepI H H') (t : KeepT H H') : BookAt K H p b → BookAt K H' p b := fun ⟨dx, vs, vh, vl, vw, h⟩ => ⟨dx, vs, vh, vl, vw, i _ _ _ _ h.ins, Rep.keepT t (sortsD_tups _) h.sorts, Rep.keepT t (heapsD_tups _) h.heaps, Rep.keepT t (stD_tups _) h.last⟩
theorem BookAt.othJ {K : PySem.W.Frag} {H H' : Hp} {p q : Addr} {b : Bk} (e : Oth p H H') (j : JarOk H p) : BookAt K H q b → BookAt K H' q b := BookAt.keep (fun a C dx fs h => e a _ (jar_neq j h fun _ _ _ z => nomatch z) h) (e.keepT j)
def spBooks (K : PySem.W.Frag) : Sp := fun vs H Q _ => ∃ (v : V) (A B : Bk), vs = [v] ∧ A.ok ∧ B.ok ∧ Rep K H (.lst [planD A, planD B]) v ∧ ∀ v' H2, Same H H2 → (∃ a b, Rep K H2 (.lst [.ref a, .ref b]) v' ∧ BookAt K H2 a A ∧ BookAt K H2 b B) → Q v' H2
theorem spBooks_len {K : PySem.W.Frag} : ∀ vs H Q E, spBooks K vs H Q E → vs.length = 1 := fun vs H Q E ⟨v, A, B, e, _⟩ => by rw [e]; rfl
abbrev spRight (K : PySem.W.Frag) : Sp := spJ K (fun _ : Unit => []) (fun _ => True) fun _ => Is (.bl true)
section
variable {P : Program} {w : World} {K : PySem.W.Frag} {mg : Str → Option Value} {base : Heap}
theorem refs_rep {K : PySem.W.Frag} {H : Hp} : ∀ (as : List Addr), RepAll K H (as.map D.ref) (as.map V.ref)
  | [] => rfl
  | a :: as => ⟨_, _, rfl, rfl, refs_rep as⟩
/-- books, one for each plan -/
theorem ev_lcBooks {σ : St} {H : Hp} {t0 te : TE} {vs : List Nat} {i j m : Nat} {l : List Bk} (h : Ev t0 σ H (Dt K (.lst (l.map planD)))) (hl : l.length ≤ 50000) (hw : ∀ x y z, wipe ((((wipe σ vs).set i (some x)).set j (some y)).set m (some z)) vs = wipe σ vs)
    (hb : ∀ b x y z H1, b ∈ l → Rep K H1 (sortsD b.sorts) x → Rep K H1 (heapsD b.heaps) y → Rep K H1 (stD b.last) z → Ev te ((((wipe σ vs).set i (some x)).set j (some y)).set m (some z)) H1 (BkP K b)) :
    Ev (tLc (iList K t0) (gTup K 3 (gCons (gName i) (gCons (gName j) (gCons (gName m) gNil)))) tYes te vs) σ H (fun v H' => ∃ as : List Addr, as.length = l.length ∧ Rep K H' (.lst (as.map D.ref)) v ∧ ∀ (n : Nat) a b, as[n]? = some a → l[n]? = some b → BookAt K H' a b) := fun H0 e0 Q q =>
  it_lst h H0 e0 _ fun J H2 G e1 e2 hB w Dl hD => by
    rw [List.length_map] at w
    refine lc_it w (fun n H' => Same H2 H' ∧ ∃ as : List Addr, H' Dl = some (.lst (as.map V.ref)) ∧ as.length = n ∧ ∀ (k : Nat) a b, as[k]? = some a → l[k]? = some b → BookAt K H' a b) ⟨same_new hD, [], upd_same, rfl, fun k a b z => by simp at z⟩ (fun n H' _ p => e2 H' p.1) (fun n x H' H'' hn p y => ?_) (fun H' p => ?_)
    · obtain ⟨s2, as, hx, hlen, hbk⟩ := p
      obtain ⟨y1, d, y2, y3⟩ := y
      obtain ⟨b, yb, rfl⟩ := map_at y2
      refine g_tup3 y3 fun x y z rx ry rz => ⟨hw x y z, ?_⟩
      show te _ H'' _
      refine hb b x y z H'' (List.mem_of_getElem? yb) rx ry rz H'' (Same.refl _) _ fun v H3 s3 ⟨a, ea, hA⟩ => ?_
      subst ea
      have hx3 : H3 Dl = some (.lst (as.map V.ref)) := s3 _ _ (y1 _ _ hx)
      have ki : KeepI H3 (upd H3 Dl (.lst (as.map V.ref ++ [.ref a]))) := fun c C dx fs hc => by
        rw [upd_ne (fun z => by rw [z, hx3] at hc; cases hc)]; exact hc
      have kt : KeepT H3 (upd H3 Dl (.lst (as.map V.ref ++ [.ref a]))) := keepT_updL hx3
      refine ⟨as.map V.ref, hx3, szl (by rw [List.length_map]; omega), same_mut ((s2.trans y1).trans s3) hD, as ++ [a], ?_, ?_, ?_⟩
      · rw [List.map_append]; exact upd_same
      · rw [List.length_append, hlen]; rfl
      · intro k a' b' h1 h2
        by_cases c : k < as.length
        · rw [List.getElem?_append_left c] at h1
          exact BookAt.keep ki kt (BookAt.same (y1.trans s3) (hbk k a' b' h1 h2))
        · rw [List.getElem?_append_right (by omega)] at h1
          have e : k - as.length = 0 := by
            cases e : k - as.length with
            | zero => rfl
            | succ m => rw [e] at h1; simp at h1
          have e2 : k = n := by omega
          rw [e] at h1
          have e3 : a = a' := by simpa using h1
          rw [e2, yb] at h2
          rw [← e3, ← Option.some.inj h2]
          exact BookAt.keep ki kt hA
    · obtain ⟨s2, as, hx, hlen, hbk⟩ := p
      exact q _ _ (e1.trans s2) ⟨as, hlen, ⟨Dl, _, rfl, SqL.of hx, refs_rep as⟩, hbk⟩
-- _law_plans 0 _law_sorts 1 _law_heaps 2 _law_last 3
theorem sc__law_books : FnScope ["_law_plans", "_law_sorts", "_law_heaps", "_law_last"] ["_law_plans"] (defScope (top 105)) := ⟨rfl, rfl, rfl, by decide +kernel, rfl, by decide +kernel, by decide +kernel⟩
theorem ok__law_books (E : Env P w K mg base) (c_Book : Okc P w K mg base 8 "Book" ["self", "kinds", "groups", "whole"] (spBookNew K)) : Okf P w K mg base 10 "_law_books" ["_law_plans"] (spBooks K) :=
  okf_mk E 58 58 rfl rfl sc__law_books (fun _ _ _ _ _ _ us hl => match us, hl with | [_], _ => rfl) spBooks_len fun cdv A outer s H vs Q E0 hr h => by
  obtain ⟨v, A, B, rfl, kA, kB, r, h2⟩ := h
  have nd := sc__law_books.nd
  refine ⟨_, (pss_one (ps_ret (pe_lc (own := [("_law_sorts", 1), ("_law_heaps", 2), ("_law_last", 3)]) (g := gTup K 3 (gCons (gName 1) (gCons (gName 2) (gCons (gName 3) gNil)))) (tt := tYes)  rfl nd (kIList (K := K) rfl (pv 0)) (blkOk_by (N := ["_law_plans", "_law_sorts", "_law_heaps", "_law_last"]) (sc := defScope (top 105)) (by decide +kernel)) (fun _ _ _ _ _ => (kGTup (K := K) (n := 3) rfl rfl (pgs_cons (pg_name (i := 1) nd rfl (.inl rfl)) (pgs_cons (pg_name (i := 2) nd rfl (.inl rfl)) (pgs_cons (pg_name (i := 3) nd rfl (.inl rfl)) pgs_nil))))) (fun _ _ _ _ _ => pts_nil) (fun _ _ _ _ _ => (kMake (K := K) rfl c_Book (hr.mono (by decide)) (pa_cons (pv 1) (pa_cons (pv 2) (pa_cons (pv 3) pa_nil)))))))), ?_⟩
  refine s_ret (ev_lcBooks (K := K) (l := [A, B]) (ev_d rfl r) (show 2 ≤ 50000 by decide) (fun _ _ _ => rfl) fun b x y z H1 hb rx ry rz => ev_book (b := b) (da_cons (ev_d rfl rx) (da_cons (ev_d rfl ry) (da_cons (ev_d rfl rz) da_nil))) ?_) fun v' H2 s2 ⟨as, hlen, rr, hbk⟩ => ?_
  · rcases List.mem_cons.mp hb with e | hb
    · rw [e]; exact kA
    · rw [List.mem_singleton.mp hb]; exact kB
  · match as, hlen with
    | [a, b], _ => exact h2 v' H2 s2 ⟨a, b, rr, hbk 0 a A rfl rfl, hbk 1 b B rfl rfl⟩
end
end LC
end
section
set_option Elab.async false
set_option linter.all false
set_option maxRecDepth 100000
set_option maxHeartbeats 2000000
/-! law -/
namespace LC
open PySem PySem.Spec L2
theorem spLawM_len {K : PySem.W.Frag} : ∀ vs H Q E, spLawM K vs H Q E → vs.length = 1 := fun vs H Q E ⟨a, ns, e, _⟩ => by rw [e]; rfl
section
variable {P : Program} {w : World} {K : PySem.W.Frag} {mg : Str → Option Value} {base : Heap}
/-- a call of _law_right with a new jar changes nothing else -/
theorem ev_right {σ : St} {H : Hp} {l : List Int} {n : Nat} {ta : TA} (h : EA ta σ H (Da K [.lst (l.map D.int), .int (n : Int)])) (hl : l.length ≤ 1000) : Ev (tCall (spRight K) [] E0 (tCons (tCall (spJar K) [] E0 ta) tNil)) σ H (Is (.bl true)) := fun H1 s1 Q q =>
  h H1 s1 _ fun vs H2 s2 r => by
    show spJar K (vs ++ []) H2 _ E0
    rw [List.append_nil]
    refine ⟨(l, n), r, hl, fun p H3 s3 hp j => ?_⟩
    show spRight K ([.ref p] ++ []) H3 Q E0
    refine ⟨p, (), ⟨_, _, rfl, rfl, rfl⟩, j, trivial, fun v H4 o4 j4 e => q v H4 (fun a o ha => ?_) e⟩
    have ne : a ≠ p := fun z => by
      rw [← z] at hp
      rw [s2 _ _ ha] at hp; cases hp
    exact o4 a o ne (s3 _ _ (s2 _ _ ha))

theorem sc_law : FnScope ["_law_cells", "_law_k"] ["_law_cells"] (defScope (top 107)) := ⟨rfl, rfl, rfl, by decide +kernel, rfl, by decide +kernel, by decide +kernel⟩
theorem body_law (E : Env P w K mg base) (o__law_right : Okf P w K mg base 12 "_law_right" ["_law_jar_here"] (spRight K)) (o__law_jar : Okf P w K mg base 2 "_law_jar" ["_law_cells", "_law_spot"] (spJar K)) : BodyBy P w K mg base ["_law_cells", "_law_k"] 12 (spLawM K) "law" (top 107) (He.ga K "law") := fun cdv A outer s H vs Q E0 hr h => by
  obtain ⟨a, ns, rfl, hS, hl, h2⟩ := h
  have r : Rep K H (.lst (ns.map D.int)) (.ref a) := ⟨a, _, rfl, hS, RepAll.ints ns⟩
  have nd := sc_law.nd
  refine ⟨_, (pss_one (ps_ret (kB (K := K) (r := fun _ _ _ => True) (r' := rAll) rfl (cr_all rfl) (E.free 67) (by decide +kernel) (pa_cons (pe_lc (own := [("_law_k", 1)]) (g := gName 1) (tt := tYes)  rfl nd (pi_range1 (by rfl) (E.free 75) (pa_cons (pe_callB (call_max2 rfl) (by rfl) (E.free 73) (by decide +kernel) (pa_cons pe_int (pa_cons (pe_callB (call_min2 rfl) (by rfl) (E.free 74) (by decide +kernel) (pa_cons (kLen (K := K) rfl (E.free 61) (pa_cons (pv 0) pa_nil)) (pa_cons pe_int pa_nil))) pa_nil))) pa_nil)) (blkOk_by (N := ["_law_cells", "_law_k"]) (sc := defScope (top 107)) (by decide +kernel)) (fun _ _ _ _ _ => (pg_name (i := 1) nd rfl (.inl rfl))) (fun _ _ _ _ _ => pts_nil) (fun _ _ _ _ _ => (pe_okf o__law_right (hr.mono (by decide)) (pa_cons (pe_okf o__law_jar (hr.mono (by decide)) (pa_cons (pv 0) (pa_cons (pv 1) pa_nil))) pa_nil)))) pa_nil)))), ?_⟩
  obtain ⟨m, hm, hm0, hm1⟩ : ∃ m : Nat, (if (if (4 : Int) < (ns.length : Int) then (4 : Int) else (ns.length : Int)) > 2 then (if (4 : Int) < (ns.length : Int) then (4 : Int) else (ns.length : Int)) else 2) = (m : Int) ∧ 2 ≤ m ∧ m ≤ 4 := by
    by_cases c : (4 : Int) < (ns.length : Int)
    · exact ⟨4, by rw [if_pos c]; rfl, by decide, by decide⟩
    · rw [if_neg c]
      by_cases d : (ns.length : Int) > 2
      · exact ⟨ns.length, by rw [if_pos d], by omega, by omega⟩
      · exact ⟨2, by rw [if_neg d]; rfl, by decide, by decide⟩
  refine s_retv (v := .bl true) ((ev_all (K := K) (bs := (List.range m).map fun _ => true) (da_cons (NewL.dt (Ev.imp (ev_lc1 (j := 1) (l := List.range m) (fun (i : Nat) => .int (i : Int)) (fun _ => .bl true) (it_range1 (K := K) (n := (m : Int)) (da_cons ((ev_max2 (K := K) (da_cons ev_c (da_cons (ev_min2 (K := K) (da_cons ((ev_len (K := K) false (l := ns.map D.int) (da_cons (ev_d rfl r) da_nil)).is (by rw [List.length_map])) (da_cons ev_c da_nil))) da_nil))).is (by rw [hm])) da_nil) (by omega) (by omega)) (by rw [List.length_range]; omega) (fun _ => rfl) (fun _ _ => rfl) fun i x H1 hi s1 rx => ?_) ?_)) da_nil)).is ?_) fun H' _ => h2 H'
  · have rx : x = .int (i : Int) := rx
    subst rx
    exact ev_right (l := ns) (n := i) (da_cons (ev_d rfl (Rep.same s1 r)) (da_cons (ev_v rfl) da_nil)) (by omega)
  · intro v H2 _ h
    rw [List.map_map]
    exact h
  · congr 1
    simp
end
end LC
end
section
set_option Elab.async false
set_option linter.all false
set_option maxRecDepth 100000
set_option maxHeartbeats 1000000
/-! rows in a list; facts asked of the plain math -/
namespace LC
open PySem PySem.Spec L2
def Bk.dear (b : Bk) (c : Int) : Bk := ⟨b.sorts, b.heaps, b.last ++ [.plus c]⟩
structure Facts (A B : Bk) (c : Int) (n1 n2 n3 n4 : Nat) : Prop where
  ok : (A.dear c).ok
  one : PairOk A B
  two : PairOk (A.dear c) B
  g1 : (mkSts A B).good n1
  g2 : (mkSts (A.dear c) B).good n2
  g3 : (mkSts B A).good n3
  g4 : (mkSts B (A.dear c)).good n4
  r1 : ((mkSts A B).row n1).ok
  r2 : ((mkSts (A.dear c) B).row n2).ok
  r3 : ((mkSts B A).row n3).turn.ok
  r4 : ((mkSts B (A.dear c)).row n4).turn.ok
  r5 : ((mkSts B A).row n3).ok
  r6 : ((mkSts B (A.dear c)).row n4).ok
  s1 : ∀ k, ((mkSts (A.dear c) B).row n2).at k - ((mkSts A B).row n1).at k = c
  s2 : ∀ k, ((mkSts B (A.dear c)).row n4).turn.at k - ((mkSts B A).row n3).turn.at k = c
  s3 : ∀ k, ((mkSts B A).row n3).at k - ((mkSts B (A.dear c)).row n4).at k = c
def AllFacts : Prop := ∀ (A B : Bk) (c : Int), Sel A B → A.last.length ≠ 2 → -1000 ≤ c → c ≤ 1000 → ∃ n1 n2 n3 n4, Facts A B c n1 n2 n3 n4
abbrev AR (K : PySem.W.Frag) (rs : List Rw) : List V → Hp → Prop := fun vs H => ∃ l : List (Addr × Rw), l.map (·.2) = rs ∧ vs = l.map (fun q => V.ref q.1) ∧ ∀ q, q ∈ l → RowAt K H q.1 q.2
abbrev RL (K : PySem.W.Frag) (rs : List Rw) : PV := fun v H => ∃ (a : Addr) (l : List (Addr × Rw)), v = .ref a ∧ H a = some (.lst (l.map fun q => V.ref q.1)) ∧ l.map (·.2) = rs ∧ ∀ q, q ∈ l → RowAt K H q.1 q.2
theorem RowAt.keep {K : PySem.W.Frag} {H H' : Hp} {p : Addr} {r : Rw} (i : KeepI H H') (t : KeepT H H') : RowAt K H p r → RowAt K H' p r := fun ⟨dx, v, u, h1, h2, h3⟩ => ⟨dx, v, u, i _ _ _ _ h1, Rep.keepT t (tups_ints _) h2, Rep.keepT t (tups_ints _) h3⟩
theorem RowAt.othJ {K : PySem.W.Frag} {H H' : Hp} {p q : Addr} {r : Rw} (e : Oth p H H') (j : JarOk H p) : RowAt K H q r → RowAt K H' q r := RowAt.keep (fun a C dx fs h => e a _ (jar_neq j h fun _ _ _ z => nomatch z) h) (e.keepT j)
section
variable {p : Addr} {K : PySem.W.Frag} {σ : St} {H : Hp} {te ta tb : TE} {tr : TA} {P : PV} {E : Ends} {z t : TS} {g : TG} {rs ss : List Rw} {r : Rw}
theorem mono_RL : Mono (RL K rs) := fun _ _ _ s ⟨a, l, e, h, e2, k⟩ => ⟨a, l, e, s _ _ h, e2, fun q hq => (k q hq).same s⟩
theorem mono_RwP : Mono (RwP K r) := fun _ _ _ s ⟨a, e, h⟩ => ⟨a, e, h.same s⟩
theorem ar_nil : EA tNil σ H (AR K []) := fun H1 _ Q q => q [] H1 (Same.refl _) ⟨[], rfl, rfl, fun _ z => absurd z List.not_mem_nil⟩
theorem ar_cons (h : Ev ta σ H (RwP K r)) (hr : EA tr σ H (AR K rs)) : EA (tCons ta tr) σ H (AR K (r :: rs)) := fun H1 s _ q =>
  ea_cons h mono_RwP hr H1 s _ fun vs H2 s2 ⟨v, w, e1, ⟨a, e2, h1⟩, l, e3, e4, h2⟩ => q vs H2 s2 ⟨(a, r) :: l, by rw [List.map_cons, e3], by rw [e1, e2, e4]; rfl, fun x hx => by
    rcases List.mem_cons.mp hx with e | hx
    · rw [e]; exact h1
    · exact h2 x hx⟩
theorem ev_lstR (h : EA tr σ H (AR K rs)) (hl : rs.length ≤ 1000) : Ev (tLst tr) σ H (RL K rs) := fun H1 s Q q =>
  h H1 s _ fun vs H2 s2 ⟨l, e1, e2, k⟩ => ⟨sz (by rw [e2, List.length_map, ← List.length_map (f := (·.2)) (as := l), e1]; omega), fun a ha => q _ _ (s2.trans (same_new ha)) ⟨a, l, rfl, by rw [e2]; exact upd_same, e1, fun x hx => (k x hx).same (same_new ha)⟩⟩
theorem ev_catR (h1 : Ev ta σ H (RL K rs)) (h2 : Ev tb σ H (RL K ss)) (hl : rs.length + ss.length ≤ 1000) : Ev (tOp rCat ta tb) σ H (RL K (rs ++ ss)) :=
  ev_op h1 h2 mono_RL fun x y H1 _ ⟨a, l, e1, g1, m1, k1⟩ ⟨b, l2, e2, g2, m2, k2⟩ Q q =>
    ⟨a, b, _, _, e1, e2, g1, g2, by
      have z1 : l.length = rs.length := by rw [← m1, List.length_map]
      have z2 : l2.length = ss.length := by rw [← m2, List.length_map]
      rw [List.length_map, List.length_map, z1, z2]; exact Nat.le_trans hl (by decide), fun c hc => q _ _ (same_new hc) ⟨c, l ++ l2, rfl, by rw [List.map_append]; exact upd_same, by rw [List.map_append, m1, m2], fun x hx => by
        rcases List.mem_append.mp hx with hx | hx
        · exact (k1 x hx).same (same_new hc)
        · exact (k2 x hx).same (same_new hc)⟩⟩
theorem q_forC (h : EvJ p te σ H P) (j : JarOk H p) (k : ∀ v H1, Oth p H H1 → JarOk H1 p → P v H1 → tSeq (tFor (iList K (tC v)) g t) z E σ H1) : tSeq (tFor (iList K te) g t) z E σ H := h H (Oth.refl _) j _ fun v H1 o j1 pv => k v H1 o j1 pv
theorem g_lst2 {i j : Nat} {x : V} {d e : LC.D} {Q : St → Hp → Prop} (h : Rep K H (.lst [d, e]) x) (k : ∀ v w, Rep K H d v → Rep K H e w → Q ((σ.set i (some v)).set j (some w)) H) : gLst K 2 (gCons (gName i) (gCons (gName j) gNil)) x σ H Q := by
  obtain ⟨a, xs, h1, h2, v, r, h3, h4, w, r2, h5, h6, h7⟩ := h
  have h7 : r2 = [] := h7
  subst h7 h5 h3
  exact ⟨a, _, h1, h2, rfl, v, _, rfl, w, _, rfl, rfl, k v w h4 h6⟩
end
section
variable {X : Cx} {K : PySem.W.Frag} {es : List Expr} {ts : TGs} {pos : Pos}
theorem kGLst {n : Nat} {ts : TGs} {kk : Nat} (hK : X.K = K) (hc : X.calm = true) (h : PGs X es ts) (hn : (assignEach es X.env).length = n := by rfl) (hst : (assignEach es X.env).findIdx? (·.1) = none := by rfl) : PG X (.Tuple es kk pos) (gLst K n ts) := hK ▸ pg_lst hc h (hn := hn) (hst := hst)
end
end LC
end
section
set_option Elab.async false
set_option linter.all false
set_option maxRecDepth 100000
set_option maxHeartbeats 4000000
/-! _law_right, given the plain facts -/
namespace LC
open PySem PySem.Spec L2
section
variable {p : Addr} {K : PySem.W.Frag} {σ : St} {H : Hp} {te ta tb : TE}
theorem evJ_pair (h0 : σ[0]? = some (some (.ref p))) : EvJ p (tCall (spPair K) [] E0 (tCons (tVar 0) (tCons (tC (.int 40)) (tCons (tC (.int 24)) tNil)))) σ H (fun v H => ∃ A B, Sel A B ∧ LstJ p K [planD A, planD B] v H) :=
  evJ_call (eaJ_cons (evJ_v h0) monoJ_is (eaJ_cons evJ_c (fun _ _ _ _ _ h => h) (eaJ_cons evJ_c (fun _ _ _ _ _ h => h) eaJ_nil))) fun vs H1 _ j1 ⟨a, r, e1, e2, b, r2, e3, e4, c, r3, e5, e6, e7⟩ Q q => by
    have e2 : a = .ref p := e2
    have e4 : b = .int 40 := e4
    have e6 : c = .int 24 := e6
    subst e7 e6 e5 e4 e3 e2 e1
    exact ⟨p, rfl, j1, q⟩
theorem ev_lstRg : Ev (tLstRg (tRg1 (tC (.int 30)))) σ H (NewL K H ((List.range 30).map fun (n : Nat) => D.int (n : Int))) := fun H1 s Q q =>
  ⟨30, rfl, RgOk.of_le (by decide) (by decide) (by decide) (by decide), fun a ha => q _ _ (same_new ha) ⟨a, _, rfl, fresh_back s ha, upd_same, by
    have e : ∀ n : Nat, rgV 0 (n : Int) = ((List.range n).map fun (n : Nat) => (n : Int)).map V.int := fun n => by
      unfold rgV
      rw [List.map_map, Int.sub_zero, Int.toNat_natCast]
      refine List.map_congr_left fun i _ => ?_
      show V.int (0 + (i : Int)) = V.int (i : Int)
      rw [Int.zero_add]
    have e30 := e 30
    rw [show ((30 : Nat) : Int) = 30 from rfl] at e30
    rw [e30, show ((List.range 30).map fun (n : Nat) => D.int (n : Int)) = ((List.range 30).map fun (n : Nat) => (n : Int)).map D.int from by rw [List.map_map]; rfl]
    exact RepAll.ints _⟩⟩
theorem evJ_cat {l1 : List D} {C : List D → Prop} (h1 : EvJ p ta σ H (LstJ p K l1)) (h2 : EvJ p tb σ H (fun v H => ∃ l, C l ∧ LstJ p K l v H)) (hl : ∀ l, C l → l1.length + l.length ≤ 1000) : EvJ p (tOp rCat ta tb) σ H (fun v H => ∃ l, C l ∧ LstJ p K (l1 ++ l) v H) :=
  evJ_op h1 h2 monoJ_L fun x y H1 j ⟨a, xs, e1, _, hx, t1, r1⟩ ⟨l, cl, b, ys, e2, _, hy, t2, r2⟩ Q q =>
    ⟨a, b, xs, ys, e1, e2, hx, hy, by rw [r1.length, r2.length]; exact Nat.le_trans (hl l cl) (by decide), fun c hc => q _ _ (same_new hc) ⟨l, cl, c, _, rfl, jar_ne j hc, upd_same, tupsOnlys_append t1 t2, RepAll.same (same_new hc) (RepAll.append r1 r2)⟩⟩
theorem ev_books {A B : Bk} (h : EA (tCons ta tNil) σ H (Da K [.lst [planD A, planD B]])) (kA : A.ok) (kB : B.ok) : Ev (tCall (spBooks K) [] E0 (tCons ta tNil)) σ H (fun v H2 => ∃ a b, Rep K H2 (.lst [.ref a, .ref b]) v ∧ BookAt K H2 a A ∧ BookAt K H2 b B) :=
  ev_call h fun vs H1 s r Q q => by
    obtain ⟨v, rfl, rv⟩ := one_of r
    exact ⟨v, A, B, rfl, kA, kB, rv, q⟩
end
section
variable {P : Program} {w : World} {K : PySem.W.Frag} {mg : Str → Option Value} {base : Heap}
variable (af : AllFacts)
-- _law_jar_here 0 _law_plans 1 _law_mine 2 _law_rival 3 _law_sorts 4 _law_heaps 5 _law_last 6 _law_charge 7 _law_dear 8 _law_rows 9 _law_k 10 _law_told 11 _law_row 12
theorem sc__law_right : FnScope ["_law_jar_here", "_law_plans", "_law_mine", "_law_rival", "_law_sorts", "_law_heaps", "_law_last", "_law_charge", "_law_dear", "_law_rows", "_law_k", "_law_told", "_law_row"] ["_law_jar_here"] (defScope (top 106)) := ⟨rfl, rfl, rfl, by decide +kernel, rfl, by decide +kernel, by decide +kernel⟩
include af in
theorem ok__law_right (E : Env P w K mg base) (o__law_pair : Okf P w K mg base 6 "_law_pair" ["_law_jar_here", "_law_states", "_law_most"] (spPair K)) (o__law_books : Okf P w K mg base 10 "_law_books" ["_law_plans"] (spBooks K)) (o__law_dig : Okf P w K mg base 1 "_law_dig" ["_law_jar_here", "_law_many_here"] (spDig K)) (c_Book : Okc P w K mg base 8 "Book" ["self", "kinds", "groups", "whole"] (spBookNew K)) (o_greatest : Okf P w K mg base 11 "greatest" ["one", "other"] (spGreatest K)) (o_least : Okf P w K mg base 11 "least" ["one", "other"] (spLeast K)) (m_Row_at : Okm P w K mg base 4 "Row" "at" ["self", "lines"] (spAt K)) : Okf P w K mg base 12 "_law_right" ["_law_jar_here"] (spRight K) :=
  okf_mk E 59 59 rfl rfl sc__law_right (fun _ _ _ _ _ _ us hl => match us, hl with | [_], _ => rfl) (spJ_len fun _ => rfl) fun cdv A outer s H vs Q E0 hr h => by
  obtain ⟨p, _, h1, j, _, h2⟩ := h
  obtain ⟨_, rfl, rfl⟩ := one_of h1
  have nd := sc__law_right.nd
  refine ⟨_, (pss_cons (ps_set (i := 1) nd rfl (.inl rfl) (pe_okf o__law_pair (hr.mono (by decide)) (pa_cons (pv 0) (pa_cons pe_int (pa_cons pe_int pa_nil)))))
      (pss_cons (ps_asg (pe_okf o__law_books (hr.mono (by decide)) (pa_cons (pv 1) pa_nil)) (kGLst (K := K) (n := 2) rfl rfl (pgs_cons (pg_name (i := 2) nd rfl (.inl rfl)) (pgs_cons (pg_name (i := 3) nd rfl (.inl rfl)) pgs_nil))))
      (pss_cons (ps_asg (kIxL (K := K) rfl (pv 1) pe_int) (kGTup (K := K) (n := 3) rfl rfl (pgs_cons (pg_name (i := 4) nd rfl (.inl rfl)) (pgs_cons (pg_name (i := 5) nd rfl (.inl rfl)) (pgs_cons (pg_name (i := 6) nd rfl (.inl rfl)) pgs_nil)))))
      (pss_cons (ps_if (pt_cmpR op_eq (kLen (K := K) rfl (E.free 61) (pa_cons (pv 6) pa_nil)) pe_int (nomark _)) (pss_one (ps_ret pe_bl)) pss_nil)
      (pss_cons (ps_set (i := 7) nd rfl (.inl rfl) (pe_op op_sub (pe_okf o__law_dig (hr.mono (by decide)) (pa_cons (pv 0) (pa_cons pe_int pa_nil))) pe_int))
      (pss_cons (ps_set (i := 8) nd rfl (.inl rfl) (kMake (K := K) rfl c_Book (hr.mono (by decide)) (pa_cons (pv 4) (pa_cons (pv 5) (pa_cons (kCatT (K := K) rfl (pv 6) (pe_tup (pa_cons (pe_tup (pa_cons pe_str (pa_cons (pv 7) pa_nil))) pa_nil))) pa_nil)))))
      (pss_cons (ps_set (i := 9) nd rfl (.inl rfl) (pe_lst (pa_cons (pe_okf o_greatest (hr.mono (by decide)) (pa_cons (pv 2) (pa_cons (pv 3) pa_nil))) (pa_cons (pe_okf o_greatest (hr.mono (by decide)) (pa_cons (pv 8) (pa_cons (pv 3) pa_nil))) (pa_cons (pe_okf o_least (hr.mono (by decide)) (pa_cons (pv 2) (pa_cons (pv 3) pa_nil))) (pa_cons (pe_okf o_least (hr.mono (by decide)) (pa_cons (pv 8) (pa_cons (pv 3) pa_nil))) pa_nil))))))
      (pss_cons (ps_set (i := 9) nd rfl (.inl rfl) (pe_op op_cat (pv 9) (pe_lst (pa_cons (pe_okf o_greatest (hr.mono (by decide)) (pa_cons (pv 3) (pa_cons (pv 2) pa_nil))) (pa_cons (pe_okf o_greatest (hr.mono (by decide)) (pa_cons (pv 3) (pa_cons (pv 8) pa_nil))) pa_nil)))))
      (pss_cons (ps_for PassesOwn.never rfl (kIList (K := K) rfl (pe_op op_cat (pe_listRg rfl (by rfl) (E.free 76) (prg_1 (by rfl) (E.free 75) pe_int)) (pe_lst (pa_cons (pe_op op_add (pe_op op_pow pe_int pe_int) (pe_okf o__law_dig (hr.mono (by decide)) (pa_cons (pv 0) (pa_cons pe_int pa_nil)))) pa_nil)))) (pg_name (i := 10) nd rfl (.inr rfl)) (pss_cons (ps_setLc (i := 11) (own := [("_law_row", 12)]) (g := gName 12) (tt := tYes)  rfl nd rfl rfl (sw_true rfl rfl rfl (by decide +kernel)) (kIList (K := K) rfl (pv 9)) (blkOk_by (N := ["_law_jar_here", "_law_plans", "_law_mine", "_law_rival", "_law_sorts", "_law_heaps", "_law_last", "_law_charge", "_law_dear", "_law_rows", "_law_k", "_law_told", "_law_row"]) (sc := defScope (top 106)) (by decide +kernel)) (fun _ _ _ _ _ => (pg_name (i := 12) nd rfl (.inl rfl))) (fun _ _ _ _ _ => pts_nil) (fun _ _ _ _ _ => (kMeth (K := K) rfl m_Row_at (hr.mono (by decide)) (pv 12) (pa_cons (pv 10) pa_nil))))
      (pss_one (ps_if (PW.pt (pw_or (pt_cmpR op_ne (pe_op op_sub (kIxL (K := K) rfl (pv 11) pe_int) (kIxL (K := K) rfl (pv 11) pe_int)) (pv 7) (nomark _)) (pw_or (pt_cmpR op_ne (pe_op op_sub (kIxL (K := K) rfl (pv 11) pe_int) (kIxL (K := K) rfl (pv 11) pe_int)) (pv 7) (nomark _)) (pw_or1 (pt_cmpR op_ne (pe_op op_sub (kIxL (K := K) rfl (pv 11) pe_int) (kIxL (K := K) rfl (pv 11) pe_int)) (pv 7) (nomark _)))))) (pss_one (ps_ret pe_bl)) pss_nil))))
      (pss_one (ps_ret pe_bl))))))))))), ?_⟩
  refine qJ_asg (evJ_pair rfl) j fun pv H1 o1 j1 ⟨A, B, hS, LP⟩ => ?_
  obtain ⟨ls, fs, hL, lA, lB⟩ := hS.laid
  have kA := lA.ok hL
  have kB := lB.ok hL
  refine q_asgG (ev_books (K := K) (A := A) (B := B) (da_cons (ev_d rfl LP.rep) da_nil) kA kB) fun bv H2 s2 ⟨a, b, rb, bA, bB⟩ => g_lst2 rb fun v1 v2 e1 e2 => ?_
  have e1 : v1 = .ref a := e1
  have e2 : v2 = .ref b := e2
  subst e1 e2
  refine q_asgG (P := Dt K (planD A)) (ev_ixL (n := 0) (l := [planD A, planD B]) (ev_d rfl (LP.same s2).rep) ev_c rfl) fun plv H3 s3 rp => g_tup3 rp fun sv hv lv rs rh rl => ?_
  have o3 := (o1.same s2).same s3
  have j3 := (j1.same s2).same s3
  refine q_if (et_t (ev_eqB (ev_len (K := K) true (l := A.last.map Stp.d) (da_cons (ev_d rfl rl) da_nil)) ev_c rfl dInt)) (fun c H4 s4 => ?_) (fun c H4 s4 => ?_)
  · exact s_retv ev_c fun H5 s5 => h2 _ H5 ((o3.same s4).same s5) ((j3.same s4).same s5) rfl
  · have hne : A.last.length ≠ 2 := fun z => by
      have c := of_decide_eq_false c
      rw [List.length_map, z] at c
      exact c rfl
    have bA4 := (bA.same s3).same s4
    have bB4 := (bB.same s3).same s4
    have j4 := j3.same s4
    refine qJ_asg (P := fun v _ => ∃ c : Int, (-1000 ≤ c ∧ c ≤ 1000) ∧ v = .int c) (evJ_op2 (P1 := DigP 2001) (P2 := Is (.int 1000)) (evJ_fn 2001 (daJ_cons (d := .ref p) (evJ_of fun _ _ _ => ev_v rfl) rfl (daJ_cons (d := .int 2001) (evJ_of fun _ _ _ => ev_c) rfl daJ_nil)) (by decide)) evJ_c (fun _ _ _ _ _ h => h) fun x y H5 ⟨d, d2, e1⟩ e2 => (ev_I0 (ev_tC (P := Is (.int (d : Int))) e1 mono_is) (ev_tC (P := Is (.int 1000)) e2 mono_is)).imp fun v _ _ e => ⟨(d : Int) - 1000, by omega, e⟩) j4 fun cv H5 o5 j5 ⟨ch, hch, ec⟩ => ?_
    subst ec
    obtain ⟨n1, n2, n3, n4, F⟩ := af A B ch hS hne hch.1 hch.2
    have kt5 := (Same.keepT s4).trans (o5.keepT j4)
    have rs5 : Rep K H5 (sortsD A.sorts) sv := Rep.keepT kt5 (sortsD_tups _) rs
    have rh5 : Rep K H5 (heapsD A.heaps) hv := Rep.keepT kt5 (heapsD_tups _) rh
    have rl5 : Rep K H5 (stD A.last) lv := Rep.keepT kt5 (stD_tups _) rl
    have bA5 := bA4.othJ o5 j4
    have bB5 := bB4.othJ o5 j4
    have o5' := (o3.same s4).trans o5
    refine q_asg (P := BkP K (A.dear ch)) (ev_book (b := A.dear ch) (da_cons (ev_d rfl rs5) (da_cons (ev_d rfl rh5) (da_cons (by
      show Ev _ _ _ (Dt K (.tup ((A.last ++ [Stp.plus ch]).map Stp.d)))
      rw [List.map_append]
      exact ev_catT (ev_d rfl rl5) (ev_tup (K := K) (l := [(Stp.plus ch).d]) (da_cons (ev_tup (K := K) (l := [.str "plus", .int ch]) (da_cons ev_c (da_cons (ev_v rfl) da_nil)) (show 2 ≤ 100000 by decide)) da_nil) (show 1 ≤ 100000 by decide)) (by rw [List.length_map]; have := kA.last_ok.1; show _ + 1 ≤ _; omega)) da_nil))) F.ok) fun dv H6 s6 ⟨dp, ed, bD⟩ => ?_
    subst ed
    have bA6 := bA5.same s6
    have bB6 := bB5.same s6
    refine q_asg (P := RL K [(mkSts A B).row n1, (mkSts (A.dear ch) B).row n2, ((mkSts B A).row n3).turn, ((mkSts B (A.dear ch)).row n4).turn]) (ev_lstR (ar_cons (ev_fnH ((((a, A), (b, B)), n1) : Two × Nat) (da_cons (ev_v rfl) (da_cons (ev_v rfl) da_nil)) fun H7 s7 => ⟨⟨bA6.same s7, bB6.same s7, F.one⟩, F.g1⟩) (ar_cons (ev_fnH ((((dp, A.dear ch), (b, B)), n2) : Two × Nat) (da_cons (ev_v rfl) (da_cons (ev_v rfl) da_nil)) fun H7 s7 => ⟨⟨bD.same s7, bB6.same s7, F.two⟩, F.g2⟩) (ar_cons (ev_fnH ((((a, A), (b, B)), n3) : Two × Nat) (da_cons (ev_v rfl) (da_cons (ev_v rfl) da_nil)) fun H7 s7 => ⟨⟨bA6.same s7, bB6.same s7, F.one⟩, F.g3⟩) (ar_cons (ev_fnH ((((dp, A.dear ch), (b, B)), n4) : Two × Nat) (da_cons (ev_v rfl) (da_cons (ev_v rfl) da_nil)) fun H7 s7 => ⟨⟨bD.same s7, bB6.same s7, F.two⟩, F.g4⟩) ar_nil)))) (show 4 ≤ 1000 by decide)) fun rv H7 s7 hr7 => ?_
    have bA7 := bA6.same s7
    have bB7 := bB6.same s7
    have bD7 := bD.same s7
    refine q_asg (P := RL K ([(mkSts A B).row n1, (mkSts (A.dear ch) B).row n2, ((mkSts B A).row n3).turn, ((mkSts B (A.dear ch)).row n4).turn] ++ [(mkSts B A).row n3, (mkSts B (A.dear ch)).row n4])) (ev_catR ((ev_v rfl).imp fun v H8 s8 e => by rw [show v = rv from e]; exact mono_RL _ _ _ s8 hr7) (ev_lstR (ar_cons (ev_fnH ((((b, B), (a, A)), n3) : Two × Nat) (da_cons (ev_v rfl) (da_cons (ev_v rfl) da_nil)) fun H7 s7 => ⟨⟨bB7.same s7, bA7.same s7, F.one.symm⟩, F.g3⟩) (ar_cons (ev_fnH ((((b, B), (dp, A.dear ch)), n4) : Two × Nat) (da_cons (ev_v rfl) (da_cons (ev_v rfl) da_nil)) fun H7 s7 => ⟨⟨bB7.same s7, bD7.same s7, F.two.symm⟩, F.g4⟩) ar_nil)) (show 2 ≤ 1000 by decide)) (show 4 + 2 ≤ 1000 by decide)) fun rv H8 s8 hr8 => ?_
    obtain ⟨ra, l, er, hra, hl, hrow⟩ := hr8
    subst er
    have o8 := ((o5'.same s6).same s7).same s8
    have j8 := ((j5.same s6).same s7).same s8
    refine q_forC (P := fun v H => ∃ l : List D, (∃ d : Nat, d < 99 ∧ l = [.int ((10 ^ 20 + d : Nat) : Int)]) ∧ LstJ p K (((List.range 30).map fun (n : Nat) => D.int (n : Int)) ++ l) v H) ?_ j8 fun iv H9 o9 j9 hq => ?_
    · refine evJ_cat (evJ_newL (fun H1 _ _ => ev_lstRg) (by decide)) (evX_lst (R := fun l => ∃ d : Nat, d < 99 ∧ l = [.int ((10 ^ 20 + d : Nat) : Int)]) (eaX_imp (eaX_cons (C := fun x => ∃ d : Nat, d < 99 ∧ x = .int ((10 ^ 20 + d : Nat) : Int)) (evJ_op2 (P1 := Is (.int (10 ^ 20))) (P2 := DigP 99) (evJ_of fun _ _ _ => ev_I ev_c ev_c ⟨by decide, by decide, by decide⟩) (evJ_fn 99 (daJ_cons (d := .ref p) (evJ_of fun _ _ _ => ev_v rfl) rfl (daJ_cons (d := .int 99) (evJ_of fun _ _ _ => ev_c) rfl daJ_nil)) (by decide)) monoJ_is fun x y H5 e1 ⟨d, d2, e2⟩ => (ev_I0 (ev_tC (P := Is (.int (10 ^ 20))) e1 mono_is) (ev_tC (P := Is (.int (d : Int))) e2 mono_is)).imp fun v _ _ e => ⟨.int ((10 ^ 20 + d : Nat) : Int), ⟨d, d2, rfl⟩, rfl, e⟩) eaX_nil) ?_) ?_) ?_
      · rintro l ⟨_, _, rfl, ⟨d, hd, rfl⟩, rfl⟩; exact ⟨d, hd, rfl⟩
      · rintro l ⟨d, hd, rfl⟩; exact (by decide : 1 ≤ 1000)
      · rintro l ⟨d, hd, rfl⟩; exact (show 30 + 1 ≤ 1000 by decide)
    · obtain ⟨_, ⟨d, _, rfl⟩, LI⟩ := hq
      have hrow9 : ∀ q, q ∈ l → RowAt K H9 q.1 q.2 := fun q hq => (hrow q hq).othJ o9 j8
      have hra9 : H9 ra = some (.lst (l.map fun q => V.ref q.1)) := by
        refine o9 _ _ (jar_neq j8 hra fun x y w z => ?_) hra
        have z : (l.map fun q => V.ref q.1) = [V.int x, V.int y, V.int w] := by injection z
        cases l with
        | nil => cases z
        | cons q l => injection z with z1 z2; cases z1
      have hlen : l.length = 6 := by rw [← List.length_map (f := (·.2)), hl]; rfl
      have hok : ∀ q, q ∈ l → q.2.ok := fun q hq => by
        have : q.2 ∈ l.map (·.2) := List.mem_map.mpr ⟨q, hq, rfl⟩
        rw [hl] at this
        have : q.2 = (mkSts A B).row n1 ∨ q.2 = (mkSts (A.dear ch) B).row n2 ∨ q.2 = ((mkSts B A).row n3).turn ∨ q.2 = ((mkSts B (A.dear ch)).row n4).turn ∨ q.2 = (mkSts B A).row n3 ∨ q.2 = (mkSts B (A.dear ch)).row n4 := by simpa using this
        rcases this with e | e | e | e | e | e <;> rw [e]
        · exact F.r1
        · exact F.r2
        · exact F.r3
        · exact F.r4
        · exact F.r5
        · exact F.r6
      refine q_for (it_lst (ev_tC LI.rep mono_dt)) fun H10 G s10 eG hB => ⟨fun i σ' H' => Same H10 H' ∧ ∃ x10 x11 x12, σ' = [some (.ref p), some pv, some (.ref a), some (.ref b), some sv, some hv, some lv, some (.int ch), some (.ref dp), some (.ref ra), x10, x11, x12], ⟨Same.refl _, _, _, _, rfl⟩, fun i σ' H' k => hB H' k.1, ?_, ?_⟩
      · rintro i d0 x σ' H' H'' hd ⟨s11, x10, x11, x12, rfl⟩ s12 rd
        obtain ⟨n, rfl⟩ : ∃ n : Nat, d0 = .int (n : Int) := by
          have := List.mem_of_getElem? hd
          rcases List.mem_append.mp this with h | h
          · obtain ⟨n, _, e⟩ := List.mem_map.mp h; exact ⟨n, e.symm⟩
          · exact ⟨_, List.mem_singleton.mp h⟩
        have rd : x = .int (n : Int) := rd
        subst rd
        have st := (s10.trans s11).trans s12
        refine q_asg (P := Dt K (.lst [.int (((mkSts A B).row n1).at n), .int (((mkSts (A.dear ch) B).row n2).at n), .int (((mkSts B A).row n3).turn.at n), .int (((mkSts B (A.dear ch)).row n4).turn.at n), .int (((mkSts B A).row n3).at n), .int (((mkSts B (A.dear ch)).row n4).at n)])) (NewL.dt (Ev.imp (ev_lc1 (j := 12) (l := l) (fun q : Addr × Rw => .ref q.1) (fun q => .int (q.2.at n)) (it_lst (ev_d (d := .lst (l.map fun q => .ref q.1)) rfl ⟨ra, _, rfl, SqL.of (st _ _ hra9), ?_⟩)) (by omega) (fun _ => rfl) (fun _ _ => rfl) fun q y H13 hq s13 ry => ?_) ?_)) fun tv H14 s14 rt => ?_
        · have : ∀ l : List (Addr × Rw), RepAll K H'' (l.map fun q => D.ref q.1) (l.map fun q => V.ref q.1) := fun l => by
            induction l with
            | nil => exact rfl
            | cons q l ih => exact ⟨_, _, rfl, rfl, ih⟩
          exact this l
        · have ry : y = .ref q.1 := ry
          subst ry
          have hr13 := ((hrow9 q hq).same st).same s13
          obtain ⟨dx, w1, w2, hp, _, _⟩ := id hr13
          exact ev_mfnH ((q, n) : (Addr × Rw) × Nat) (ev_v rfl) hp rfl (da_cons (ev_v rfl) da_nil) rfl fun H15 s15 => ⟨hr13.same s15, hok q hq⟩
        · intro v H15 _ h
          have e : (l.map fun q => D.int (q.2.at n)) = (l.map (·.2)).map fun r => D.int (r.at n) := by rw [List.map_map]; rfl
          obtain ⟨q, xs, g1, _, g2, g3⟩ := h
          rw [e, hl] at g3
          exact ⟨q, xs, g1, ‹_›, g2, g3⟩
        · refine s_if (b := false || (false || false)) (et_or (et_t (ev_neB (ev_I0 (ev_ixL (n := 1) (ev_d rfl rt) ev_c rfl) (ev_ixL (n := 0) (ev_d rfl rt) ev_c rfl)) (ev_v rfl) rfl (decide_eq_true (congrArg V.int (F.s1 n))))) fun _ => et_or (et_t (ev_neB (ev_I0 (ev_ixL (n := 3) (ev_d rfl rt) ev_c rfl) (ev_ixL (n := 2) (ev_d rfl rt) ev_c rfl)) (ev_v rfl) rfl (decide_eq_true (congrArg V.int (F.s2 n))))) fun _ => et_t (ev_neB (ev_I0 (ev_ixL (n := 4) (ev_d rfl rt) ev_c rfl) (ev_ixL (n := 5) (ev_d rfl rt) ev_c rfl)) (ev_v rfl) rfl (decide_eq_true (congrArg V.int (F.s3 n))))) (fun z => nomatch z) fun _ H15 s15 => ⟨((s11.trans s12).trans s14).trans s15, _, _, _, rfl⟩
      · rintro σ' H' ⟨s11, x10, x11, x12, rfl⟩
        exact s_retv ev_c fun H5 s5 => h2 _ H5 ((((o8.trans o9).same s10).same s11).same s5) (((j9.same s10).same s11).same s5) rfl
end
end LC
end
section
set_option Elab.async false
set_option linter.all false
set_option maxRecDepth 100000
set_option maxHeartbeats 2000000
/-! all walks in a row -/
namespace LC
open PySem PySem.Spec L2
theorem left_of (af : AllFacts) (P : Program) : Left P := fun w K mg h hK hns c => by
  obtain ⟨fd, F⟩ := c.dg 60 rfl
  refine ⟨13, fd, by decide, fun s v => F.bindsA (ps := ["_law_cells"]) (fun _ _ _ _ _ _ us hl => match us, hl with | [_], _ => rfl) s [v] rfl, fun base hb1 hb2 => fd_ok F sc_law spLawM_len ?_⟩
  have E : Env P w K mg base := ⟨c, base, hb1, hb2⟩
  have o_is_integer := ok_is_integer E 
  have o_is_between := ok_is_between E o_is_integer
  have o_check_number := ok_check_number E o_is_between
  have o_common_divisor := ok_common_divisor E 
  have o_common_multiple := ok_common_multiple E o_common_divisor
  have o_fraction := ok_fraction E o_common_divisor
  have o_times := ok_times E o_fraction
  have o_less := ok_less E o_fraction
  have o_is_step := ok_is_step E o_is_between
  have o_wrong_step := ok_wrong_step E o_is_step
  have o_is_row_of_steps := ok_is_row_of_steps E o_wrong_step
  have o_rounded := ok_rounded E 
  have o_led := ok_led E o_rounded
  have o_rate_of := ok_rate_of E o_times o_fraction
  have o_period_of := ok_period_of E o_common_divisor
  have o_text_of_step := ok_text_of_step E 
  have o_text_of_steps := ok_text_of_steps E o_text_of_step
  have o_is_name := ok_is_name E 
  have o_is_kind := ok_is_kind E o_is_name o_is_between o_is_row_of_steps
  have o_check_kinds := ok_check_kinds E o_is_kind
  have o_check_groups := ok_check_groups E o_is_row_of_steps
  have o_check_places := ok_check_places E 
  have o_check_whole := ok_check_whole E o_wrong_step
  have o_text_of := ok_text_of E o_text_of_steps
  have o_is_line := ok_is_line E o_is_between
  have o_check_bill := ok_check_bill E o_is_line
  have o_check_book := ok_check_book E 
  have o_check_two := ok_check_two E o_check_book
  have p_Book_kinds := ok_Book_kinds E 
  have p_Book_groups := ok_Book_groups E 
  have p_Book_names := ok_Book_names E 
  have o_check_fit := ok_check_fit E p_Book_names
  have m_Book_kind_at := ok_Book_kind_at E 
  have m_Book_rate := ok_Book_rate E m_Book_kind_at o_rate_of
  have m_Book_share := ok_Book_share E m_Book_kind_at o_rate_of
  have m_Book_period := ok_Book_period E m_Book_kind_at o_period_of
  have m_Book_periods := ok_Book_periods E o_period_of
  have m_Book_size := ok_Book_size E m_Book_periods
  have m_Book_value := ok_Book_value E m_Book_kind_at o_check_number o_led
  have m_Book_ask_of_sums := ok_Book_ask_of_sums E o_led
  have m_Book_sums := ok_Book_sums E o_check_bill p_Book_names m_Book_kind_at o_led
  have c_Book := ok_Book_init E o_check_kinds o_check_groups o_check_places o_check_whole o_text_of
  have o_check_integers := ok_check_integers E o_is_integer
  have o_goes_on := ok_goes_on E 
  have c_Row := ok_Row_init E o_check_integers o_is_integer o_goes_on
  have p_Row_early := ok_Row_early E 
  have p_Row_again := ok_Row_again E 
  have p_Row_rise := ok_Row_rise E 
  have m_Row_at := ok_Row_at E o_check_number
  have o_turned := ok_turned E c_Row p_Row_early p_Row_again p_Row_rise
  have c_States := ok_States_init E m_Book_periods p_Book_names o_common_multiple m_Book_share
  have m_States_empty := ok_States_empty E 
  have m_States_reduced := ok_States_reduced E 
  have m_States_added := ok_States_added E 
  have m_States_move := ok_States_move E m_Book_sums
  have m_States_weight := ok_States_weight E m_Book_share m_Book_value
  have m_States_gap := ok_States_gap E p_Book_groups m_Book_ask_of_sums
  have m_States_share_of_group := ok_States_share_of_group E p_Book_kinds m_Book_share
  have m_States_base := ok_States_base E m_States_gap p_Book_groups m_States_share_of_group
  have m_States_order := ok_States_order E o_common_multiple o_common_divisor
  have o_amounts_of := ok_amounts_of E o_common_multiple m_Book_period
  have m_States_lines := ok_States_lines E p_Book_names o_amounts_of m_States_reduced m_States_move m_States_weight
  have m_States_best_lines := ok_States_best_lines E m_States_lines
  have o_sides_of := ok_sides_of E 
  have o_first_greater := ok_first_greater E p_Book_names o_less m_Book_rate
  have o_check_rates := ok_check_rates E o_first_greater
  have o_check_size := ok_check_size E m_Book_size p_Book_names o_amounts_of
  have o_check_greatest := ok_check_greatest E o_check_fit o_check_rates o_check_size
  have o_greatest_gap := ok_greatest_gap E m_States_base
  have o_is_led_on := ok_is_led_on E m_States_added
  have o_one_more := ok_one_more E m_States_added
  have o_row_of := ok_row_of E c_States o_sides_of m_States_best_lines m_States_empty o_one_more o_is_led_on o_greatest_gap m_States_order m_States_added c_Row
  have o_greatest := ok_greatest E o_check_two o_check_greatest o_row_of
  have o_least := ok_least E o_check_two o_check_greatest o_turned o_row_of
  have o__law_common := ok__law_common E 
  have o__law_span := ok__law_span E o__law_common
  have o__law_fit := ok__law_fit E o__law_span
  have o__law_many := ok__law_many E o__law_fit o__law_common
  have o__law_cell := ok__law_cell E 
  have o__law_jar := ok__law_jar E o__law_cell
  have o__law_dig := ok__law_dig E 
  have o__law_take := ok__law_take E o__law_dig
  have o__law_way := ok__law_way E o__law_take
  have o__law_factor := ok__law_factor E o__law_take
  have o__law_step := ok__law_step E o__law_take o__law_way
  have o__law_extra := ok__law_extra E o__law_take o__law_way o__law_dig
  have o__law_laid := ok__law_laid E o__law_extra o__law_step
  have o__law_pair := ok__law_pair E o__law_take o__law_factor o__law_dig o__law_laid o__law_many
  have o__law_books := ok__law_books E c_Book
  have o__law_right := ok__law_right af E o__law_pair o__law_books o__law_dig c_Book o_greatest o_least m_Row_at
  exact body_law E o__law_right o__law_jar
end LC
end
section
set_option Elab.async false
set_option linter.all false
set_option maxRecDepth 100000
set_option maxHeartbeats 1000000
/-! plain math: association lists; boxes -/
namespace LC
section
variable {β : Type}
def kysA (es : As β) : List (List Int) := es.map (·.1)
theorem getA_nil (k : List Int) : getA ([] : As β) k = none := rfl
theorem getA_cons (e : List Int × β) (es : As β) (k : List Int) : getA (e :: es) k = if e.1 = k then some e.2 else getA es k := by
  unfold getA
  rw [List.find?_cons]
  by_cases c : e.1 = k
  · rw [decide_eq_true c, if_pos c]; rfl
  · rw [decide_eq_false c, if_neg c]
theorem getA_none {es : As β} {k : List Int} : getA es k = none ↔ k ∉ kysA es := by
  induction es with
  | nil => exact Iff.intro (fun _ => List.not_mem_nil) (fun _ => rfl)
  | cons e es ih =>
    rw [getA_cons]
    by_cases c : e.1 = k
    · rw [if_pos c]
      exact ⟨fun h => (nomatch h), fun h => absurd (by show k ∈ e.1 :: kysA es; rw [c]; exact List.mem_cons_self ..) h⟩
    · rw [if_neg c, ih]
      exact ⟨fun h m => (List.mem_cons.mp m).elim (fun z => c z.symm) h, fun h m => h (List.mem_cons_of_mem _ m)⟩
theorem mem_kys {es : As β} {k : List Int} : k ∈ kysA es ↔ ∃ v, getA es k = some v := by
  constructor
  · intro h
    cases e : getA es k with
    | none => exact absurd h (getA_none.mp e)
    | some v => exact ⟨v, rfl⟩
  · intro ⟨v, h⟩
    by_cases c : k ∈ kysA es
    · exact c
    · rw [getA_none.mpr c] at h; cases h
theorem getA_mem {es : As β} {k : List Int} {v : β} (h : getA es k = some v) : (k, v) ∈ es := by
  induction es with
  | nil => cases h
  | cons e es ih =>
    rw [getA_cons] at h
    by_cases c : e.1 = k
    · rw [if_pos c] at h
      cases h
      rw [← c]; exact List.mem_cons_self ..
    · rw [if_neg c] at h; exact List.mem_cons_of_mem _ (ih h)
theorem getA_of {es : As β} {e : List Int × β} (hn : (kysA es).Nodup) (h : e ∈ es) : getA es e.1 = some e.2 := by
  induction es with
  | nil => cases h
  | cons a es ih =>
    have hn : (a.1 :: kysA es).Nodup := hn
    obtain ⟨h1, h2⟩ := List.nodup_cons.mp hn
    rw [getA_cons]
    rcases List.mem_cons.mp h with z | z
    · rw [z, if_pos rfl]
    · have : a.1 ≠ e.1 := fun q => h1 (by rw [q]; exact List.mem_map.mpr ⟨e, z, rfl⟩)
      rw [if_neg this]; exact ih h2 z
theorem getA_app (es : As β) (k k' : List Int) (b : β) : getA (es ++ [(k, b)]) k' = match getA es k' with
    | some x => some x
    | none => if k = k' then some b else none := by
  induction es with
  | nil => show getA [(k, b)] k' = _; rw [getA_cons]; rfl
  | cons e es ih =>
    rw [List.cons_append, getA_cons, getA_cons]
    by_cases c : e.1 = k'
    · rw [if_pos c, if_pos c]
    · rw [if_neg c, if_neg c]; exact ih
theorem getA_mp (es : As β) (k k' : List Int) (b : β) : getA (es.map fun e => if e.1 = k then (e.1, b) else e) k' = if k = k' then (getA es k').map (fun _ => b) else getA es k' := by
  induction es with
  | nil => show none = _; split <;> rfl
  | cons e es ih =>
    rw [List.map_cons, getA_cons, getA_cons, ih]
    by_cases c : e.1 = k
    · rw [if_pos c]
      by_cases d : k = k'
      · rw [if_pos (c.trans d), if_pos (c.trans d), if_pos d]; rfl
      · rw [if_neg d, if_neg fun z => d (c.symm.trans z), if_neg fun z => d (c.symm.trans z)]
        rw [if_neg d]
    · rw [if_neg c]
      by_cases d : e.1 = k'
      · rw [if_pos d, if_neg fun z => c (d.trans z.symm), if_pos d]
      · rw [if_neg d, if_neg d]
theorem getA_put (es : As β) (k k' : List Int) (b : β) : getA (putA es k b) k' = if k = k' then some b else getA es k' := by
  unfold putA
  cases h : getA es k with
  | some v =>
    rw [if_pos (by rfl), getA_mp]
    by_cases d : k = k'
    · rw [if_pos d, if_pos d, ← d, h]; rfl
    · rw [if_neg d, if_neg d]
  | none =>
    rw [if_neg (by simp), getA_app]
    by_cases d : k = k'
    · rw [if_pos d, ← d, h]; simp
    · rw [if_neg d]
      cases getA es k' <;> simp [d]
theorem mem_put {es : As β} {k k' : List Int} {b : β} : k' ∈ kysA (putA es k b) ↔ k' ∈ kysA es ∨ k' = k := by
  rw [mem_kys, getA_put]
  by_cases d : k = k'
  · rw [if_pos d]; exact ⟨fun _ => .inr d.symm, fun _ => ⟨b, rfl⟩⟩
  · rw [if_neg d, ← mem_kys]; exact ⟨.inl, fun h => h.elim (fun x => x) fun z => absurd z.symm d⟩
theorem nodup_put {es : As β} {k : List Int} {b : β} (h : (kysA es).Nodup) : (kysA (putA es k b)).Nodup := by
  unfold putA
  cases e : getA es k with
  | some v =>
    rw [if_pos (by rfl)]
    have : kysA (es.map fun e => if e.1 = k then (e.1, b) else e) = kysA es := by
      unfold kysA
      rw [List.map_map]
      refine List.map_congr_left fun x _ => ?_
      show (if x.1 = k then (x.1, b) else x).1 = x.1
      split <;> rfl
    rw [this]; exact h
  | none =>
    rw [if_neg (by simp)]
    have : kysA (es ++ [(k, b)]) = kysA es ++ [k] := by unfold kysA; rw [List.map_append]; rfl
    rw [this, List.nodup_append]
    refine ⟨h, by simp, fun a ha c hc q => ?_⟩
    rw [List.mem_singleton.mp hc] at q
    rw [q] at ha
    exact getA_none.mp e ha
theorem put_ne (es : As β) (k : List Int) (b : β) : putA es k b ≠ [] := fun h => by
  have : k ∈ kysA (putA es k b) := mem_put.mpr (.inr rfl)
  rw [h] at this; cases this
end
/-! the greatest of each key -/
theorem getA_upd (es : As Int) (k k' : List Int) (t : Int) : getA (updA es k t) k' = if k = k' then some (match getA es k with
    | some u => if u < t then t else u
    | none => t) else getA es k' := by
  unfold updA
  cases e : getA es k with
  | none => exact getA_put ..
  | some u =>
    show getA (if u < t then putA es k t else es) k' = if k = k' then some (if u < t then t else u) else getA es k'
    by_cases c : u < t
    · rw [if_pos c, if_pos c]; exact getA_put ..
    · rw [if_neg c, if_neg c]
      by_cases d : k = k'
      · rw [if_pos d, ← d, e]
      · rw [if_neg d]
theorem nodup_upd {es : As Int} {k : List Int} {t : Int} (h : (kysA es).Nodup) : (kysA (updA es k t)).Nodup := by
  unfold updA
  cases e : getA es k with
  | none => exact nodup_put h
  | some u =>
    show (kysA (if u < t then putA es k t else es)).Nodup
    split
    · exact nodup_put h
    · exact h
def foldU (ups : As Int) (es : As Int) : As Int := ups.foldl (fun f p => updA f p.1 p.2) es
theorem up_keep {k : List Int} : ∀ (ups es : As Int) (v : Int), getA es k = some v → ∃ v', getA (foldU ups es) k = some v' ∧ v ≤ v'
  | [], es, v, h => ⟨v, h, Int.le_refl _⟩
  | p :: ups, es, v, h => by
    show ∃ v', getA (foldU ups (updA es p.1 p.2)) k = some v' ∧ v ≤ v'
    have q := getA_upd es p.1 k p.2
    by_cases c : p.1 = k
    · rw [if_pos c, c, h] at q
      have q : getA (updA es k p.2) k = some (if v < p.2 then p.2 else v) := q
      obtain ⟨v', h1, h2⟩ := up_keep ups _ _ q
      rw [← c] at h1 ⊢
      refine ⟨v', h1, Int.le_trans ?_ h2⟩
      split <;> omega
    · rw [if_neg c, h] at q; exact up_keep ups _ _ q
theorem up_all {k : List Int} {t : Int} : ∀ (ups es : As Int), (k, t) ∈ ups → ∃ v', getA (foldU ups es) k = some v' ∧ t ≤ v'
  | p :: ups, es, h => by
    show ∃ v', getA (foldU ups (updA es p.1 p.2)) k = some v' ∧ t ≤ v'
    rcases List.mem_cons.mp h with z | z
    · subst z
      have q := getA_upd es k k t
      rw [if_pos rfl] at q
      obtain ⟨v', h1, h2⟩ := up_keep ups _ _ q
      refine ⟨v', h1, Int.le_trans ?_ h2⟩
      cases getA es k with
      | none => exact Int.le_refl _
      | some u => show t ≤ if u < t then t else u; split <;> omega
    · exact up_all ups _ z
theorem up_from {k : List Int} {v : Int} : ∀ (ups es : As Int), getA (foldU ups es) k = some v → getA es k = some v ∨ (k, v) ∈ ups
  | [], es, h => .inl h
  | p :: ups, es, h => by
    rcases up_from ups (updA es p.1 p.2) h with z | z
    · rw [getA_upd] at z
      by_cases c : p.1 = k
      · rw [if_pos c] at z
        have z := Option.some.inj z
        cases e : getA es p.1 with
        | none =>
          rw [e] at z
          have z : p.2 = v := z
          exact .inr (by rw [← c, ← z]; exact List.mem_cons_self ..)
        | some u =>
          rw [e] at z
          have z : (if u < p.2 then p.2 else u) = v := z
          by_cases d : u < p.2
          · rw [if_pos d] at z; exact .inr (by rw [← c, ← z]; exact List.mem_cons_self ..)
          · rw [if_neg d] at z; exact .inl (by rw [← c, e, z])
      · rw [if_neg c] at z; exact .inl z
    · exact .inr (List.mem_cons_of_mem _ z)
theorem up_nodup : ∀ (ups es : As Int), (kysA es).Nodup → (kysA (foldU ups es)).Nodup
  | [], es, h => h
  | p :: ups, es, h => up_nodup ups _ (nodup_upd h)
/-! ### boxes -/
def InB : List Nat → List Int → Prop
  | [], k => k = []
  | n :: sp, k => ∃ x t, k = x :: t ∧ (0 ≤ x ∧ x < (n : Int)) ∧ InB sp t
def boxL : List Nat → List (List Int)
  | [] => [[]]
  | n :: sp => (List.range n).flatMap fun a => (boxL sp).map fun t => ((a : Nat) : Int) :: t
theorem fm_len {α γ : Type} {f : α → List γ} {c : Nat} (h : ∀ a, (f a).length = c) : ∀ l : List α, (l.flatMap f).length = l.length * c
  | [] => by simp
  | a :: l => by rw [List.flatMap_cons, List.length_append, h, fm_len h l, List.length_cons, Nat.succ_mul]; omega
theorem foldl_mul : ∀ (l : List Nat) (t : Nat), l.foldl (· * ·) t = t * l.foldl (· * ·) 1
  | [], t => (Nat.mul_one t).symm
  | a :: l, t => by rw [List.foldl_cons, List.foldl_cons, foldl_mul l (t * a), foldl_mul l (1 * a), Nat.one_mul, Nat.mul_assoc]
theorem boxL_len : ∀ sp : List Nat, (boxL sp).length = sp.foldl (· * ·) 1
  | [] => rfl
  | n :: sp => by
    show ((List.range n).flatMap _).length = _
    rw [fm_len (c := (boxL sp).length) (fun a => List.length_map ..), List.length_range, List.foldl_cons, foldl_mul sp (1 * n), Nat.one_mul, boxL_len sp]
theorem inB_mem : ∀ {sp : List Nat} {k : List Int}, InB sp k → k ∈ boxL sp
  | [], k, h => by rw [show k = [] from h]; exact List.mem_cons_self ..
  | n :: sp, _, ⟨x, t, rfl, ⟨h1, h2⟩, h3⟩ => by
    show x :: t ∈ (List.range n).flatMap _
    rw [List.mem_flatMap]
    refine ⟨x.toNat, List.mem_range.mpr (by omega), List.mem_map.mpr ⟨t, inB_mem h3, ?_⟩⟩
    show ((x.toNat : Nat) : Int) :: t = x :: t
    rw [Int.toNat_of_nonneg h1]
theorem inB_len : ∀ {sp : List Nat} {k : List Int}, InB sp k → k.length = sp.length
  | [], k, h => by rw [show k = [] from h]; rfl
  | n :: sp, _, ⟨x, t, rfl, _, h3⟩ => by rw [List.length_cons, List.length_cons, inB_len h3]
theorem inB_pos : ∀ {sp : List Nat} {k : List Int}, InB sp k → ∀ x, x ∈ k → 0 ≤ x
  | [], k, h, x, hx => by rw [show k = [] from h] at hx; cases hx
  | n :: sp, _, ⟨x, t, rfl, h1, h3⟩, y, hy => (List.mem_cons.mp hy).elim (fun e => by rw [e]; exact h1.1) (inB_pos h3 y)
theorem nodup_le {α : Type} [DecidableEq α] : ∀ {l m : List α}, l.Nodup → (∀ x, x ∈ l → x ∈ m) → l.length ≤ m.length
  | [], m, _, _ => Nat.zero_le _
  | a :: l, m, h, k => by
    obtain ⟨h1, h2⟩ := List.nodup_cons.mp h
    have ha := k a (List.mem_cons_self ..)
    have q := nodup_le (l := l) (m := m.erase a) h2 fun x hx => (List.mem_erase_of_ne (show x ≠ a from fun e => h1 (by rw [← e]; exact hx))).mpr (k x (List.mem_cons_of_mem _ hx))
    rw [List.length_erase_of_mem ha] at q
    have := List.length_pos_of_mem ha
    rw [List.length_cons]; omega
theorem box_le {sp : List Nat} {l : List (List Int)} (h : l.Nodup) (k : ∀ x, x ∈ l → InB sp x) : l.length ≤ sp.foldl (· * ·) 1 := by
  rw [← boxL_len]; exact nodup_le h fun x hx => inB_mem (k x hx)
def addF (sp : List Nat) (a m : List Int) : List Int := (List.zip a (List.zip m sp)).map fun q => (q.1 + q.2.1) % (q.2.2 : Int)
def redF (sp : List Nat) (ns : List Int) : List Int := (List.zip ns sp).map fun q => q.1 % (q.2 : Int)
def itF (sp : List Nat) (m : List Int) (j : Int) (a : List Int) : List Int := (List.zip a (List.zip m sp)).map fun q => (q.1 + j * q.2.1) % (q.2.2 : Int)
theorem emod_in {x y : Int} {n : Nat} (h : 0 ≤ x ∧ x < (n : Int)) : 0 ≤ y % (n : Int) ∧ y % (n : Int) < (n : Int) := ⟨Int.emod_nonneg _ (by omega), Int.emod_lt_of_pos _ (by omega)⟩
theorem addF_in : ∀ {sp : List Nat} {a m : List Int}, InB sp a → InB sp m → InB sp (addF sp a m)
  | [], a, m, h, _ => by rw [show a = [] from h]; rfl
  | n :: sp, _, _, ⟨x, t, rfl, h1, h2⟩, ⟨y, u, rfl, _, g2⟩ => ⟨_, _, rfl, emod_in h1, addF_in h2 g2⟩
theorem redF_in : ∀ {sp : List Nat} {ns : List Int}, (∀ n, n ∈ sp → 0 < n) → sp.length ≤ ns.length → InB sp (redF sp ns)
  | [], ns, _, _ => by show (List.zip ns ([] : List Nat)).map _ = []; rw [List.zip_nil_right]; rfl
  | n :: sp, [], _, h => by simp at h
  | n :: sp, x :: ns, h, k => by
    have := h n (List.mem_cons_self ..)
    exact ⟨_, _, rfl, ⟨Int.emod_nonneg _ (by omega), Int.emod_lt_of_pos _ (by omega)⟩, redF_in (fun m hm => h m (List.mem_cons_of_mem _ hm)) (by rw [List.length_cons, List.length_cons] at k; omega)⟩
theorem zero_in : ∀ {sp : List Nat}, (∀ n, n ∈ sp → 0 < n) → InB sp (List.replicate sp.length 0)
  | [], _ => rfl
  | n :: sp, h => ⟨0, _, rfl, ⟨Int.le_refl _, by have := h n (List.mem_cons_self ..); omega⟩, zero_in fun m hm => h m (List.mem_cons_of_mem _ hm)⟩
theorem itF_in : ∀ {sp : List Nat} {a m : List Int} {j : Int}, InB sp a → InB sp m → InB sp (itF sp m j a)
  | [], a, m, _, h, _ => by rw [show a = [] from h]; rfl
  | n :: sp, _, _, _, ⟨x, t, rfl, h1, h2⟩, ⟨y, u, rfl, _, g2⟩ => ⟨_, _, rfl, emod_in h1, itF_in h2 g2⟩
theorem emod_cong {a b p : Int} (c : Int) (h : a % p = b % p) : (a + c) % p = (b + c) % p := by rw [Int.add_emod, h, ← Int.add_emod]
theorem emod_l (a c p : Int) : (a % p + c) % p = (a + c) % p := by rw [Int.add_emod, Int.emod_emod, ← Int.add_emod]
theorem emod_eq {x : Int} {n : Nat} (h : 0 ≤ x ∧ x < (n : Int)) : x % (n : Int) = x := Int.emod_eq_of_lt h.1 h.2
theorem itF_zero : ∀ {sp : List Nat} {a m : List Int}, InB sp a → InB sp m → itF sp m 0 a = a
  | [], a, m, h, _ => by rw [show a = [] from h]; rfl
  | n :: sp, _, _, ⟨x, t, rfl, h1, h2⟩, ⟨y, u, rfl, _, g2⟩ => by
    show (x + 0 * y) % (n : Int) :: itF sp u 0 t = x :: t
    rw [itF_zero h2 g2, Int.zero_mul, Int.add_zero, emod_eq h1]
theorem itF_succ : ∀ {sp : List Nat} {a m : List Int} {j : Int}, InB sp a → InB sp m → itF sp m (j + 1) a = addF sp (itF sp m j a) m
  | [], a, m, _, h, _ => by rw [show a = [] from h]; rfl
  | n :: sp, _, _, j, ⟨x, t, rfl, h1, h2⟩, ⟨y, u, rfl, _, g2⟩ => by
    show (x + (j + 1) * y) % (n : Int) :: itF sp u (j + 1) t = ((x + j * y) % (n : Int) + y) % (n : Int) :: addF sp (itF sp u j t) u
    rw [itF_succ h2 g2, emod_l, Int.add_mul, Int.one_mul, Int.add_assoc]
theorem itF_back : ∀ {sp : List Nat} {a m : List Int} {j : Int}, InB sp a → InB sp m → itF sp m j (itF sp m (-j) a) = a
  | [], a, m, _, h, _ => by rw [show a = [] from h]; rfl
  | n :: sp, _, _, j, ⟨x, t, rfl, h1, h2⟩, ⟨y, u, rfl, _, g2⟩ => by
    show ((x + -j * y) % (n : Int) + j * y) % (n : Int) :: itF sp u j (itF sp u (-j) t) = x :: t
    rw [itF_back h2 g2, emod_l, Int.add_assoc, ← Int.add_mul, Int.add_left_neg, Int.zero_mul, Int.add_zero, emod_eq h1]
theorem itF_move : ∀ {sp : List Nat} {a b m m0 : List Int} {i j : Int}, InB sp a → InB sp b → InB sp m → InB sp m0 → addF sp (itF sp m0 i a) m = addF sp (itF sp m0 i b) m0 → addF sp (itF sp m0 j a) m = addF sp (itF sp m0 j b) m0
  | [], a, b, m, m0, _, _, ha, hb, _, _, _ => by rw [show a = [] from ha, show b = [] from hb]; rfl
  | n :: sp, _, _, _, _, i, j, ⟨x, t, rfl, _, h2⟩, ⟨x', t', rfl, _, h2'⟩, ⟨z, w, rfl, _, f2⟩, ⟨y, u, rfl, _, g2⟩, h => by
    have h : ((x + i * y) % (n : Int) + z) % (n : Int) :: addF sp (itF sp u i t) w = ((x' + i * y) % (n : Int) + y) % (n : Int) :: addF sp (itF sp u i t') u := h
    obtain ⟨e1, e2⟩ := List.cons.inj h
    show ((x + j * y) % (n : Int) + z) % (n : Int) :: addF sp (itF sp u j t) w = ((x' + j * y) % (n : Int) + y) % (n : Int) :: addF sp (itF sp u j t') u
    rw [itF_move (j := j) h2 h2' f2 g2 e2, emod_l, emod_l]
    rw [emod_l, emod_l] at e1
    have e3 := emod_cong ((j - i) * y) e1
    rw [Int.sub_mul] at e3
    rw [show x + i * y + z + (j * y - i * y) = x + j * y + z by omega, show x' + i * y + y + (j * y - i * y) = x' + j * y + y by omega] at e3
    rw [e3]
theorem addF_inj : ∀ {sp : List Nat} {a b m : List Int}, InB sp a → InB sp b → InB sp m → addF sp a m = addF sp b m → a = b
  | [], a, b, m, ha, hb, _, _ => by rw [show a = [] from ha, show b = [] from hb]
  | n :: sp, _, _, _, ⟨x, t, rfl, h1, h2⟩, ⟨x', t', rfl, h1', h2'⟩, ⟨z, w, rfl, _, f2⟩, h => by
    have h : (x + z) % (n : Int) :: addF sp t w = (x' + z) % (n : Int) :: addF sp t' w := h
    obtain ⟨e1, e2⟩ := List.cons.inj h
    have e3 := emod_cong (-z) e1
    rw [show x + z + -z = x by omega, show x' + z + -z = x' by omega, emod_eq h1, emod_eq h1'] at e3
    rw [e3, addF_inj h2 h2' f2 e2]
end LC
end
section
set_option Elab.async false
set_option linter.all false
set_option maxRecDepth 100000
set_option maxHeartbeats 1000000
/-! plain math: the loop ends -/
namespace LC
/-! ### chains -/
structure Walks (Dm : List Int → Prop) (g : Nat → List Int → Option Int) : Prop where
  mono : ∀ n k v, Dm k → g n k = some v → ∃ v', g (n + 1) k = some v' ∧ v ≤ v'
  pred : ∀ n k v, Dm k → g (n + 1) k = some v → ∃ k' v', Dm k' ∧ g n k' = some v' ∧ v ≤ v' ∧ ∀ m u, g m k' = some u → ∃ x, g (m + 1) k = some x ∧ u + (v - v') ≤ x
def Imp (g : Nat → List Int → Option Int) (n : Nat) (k : List Int) (v : Int) : Prop := g n k = some v ∧ ∀ m, n = m + 1 → ∀ u, g m k = some u → u < v
section
variable {Dm : List Int → Prop} {g : Nat → List Int → Option Int}
theorem Walks.le (w : Walks Dm g) {i n : Nat} (h : i ≤ n) {k : List Int} (hk : Dm k) : ∀ {v : Int}, g i k = some v → ∃ v', g n k = some v' ∧ v ≤ v' := by
  induction h with
  | refl => exact fun e => ⟨_, e, Int.le_refl _⟩
  | step h ih =>
    intro v e
    obtain ⟨v1, e1, h1⟩ := ih e
    obtain ⟨v2, e2, h2⟩ := w.mono _ _ _ hk e1
    exact ⟨v2, e2, Int.le_trans h1 h2⟩
theorem Walks.chain (w : Walks Dm g) : ∀ (n : Nat) (k : List Int) (v : Int), Dm k → Imp g n k v → ∃ l : List (List Int), l.length = n + 1 ∧ l.Nodup ∧ ∀ x, x ∈ l → Dm x ∧ ∃ i v', i ≤ n ∧ g i x = some v' ∧ v ≤ v'
  | 0, k, v, hk, h => ⟨[k], rfl, by simp, fun x hx => by
      rw [List.mem_singleton.mp hx]
      exact ⟨hk, 0, v, Nat.le_refl _, h.1, Int.le_refl _⟩⟩
  | n + 1, k, v, hk, h => by
    obtain ⟨k', v', hk', e1, h1, h2⟩ := w.pred n k v hk h.1
    have hi : Imp g n k' v' := ⟨e1, fun m em u eu => by
      obtain ⟨x, ex, hx⟩ := h2 m u eu
      have := h.2 n rfl x (em ▸ ex)
      omega⟩
    obtain ⟨l, l1, l2, l3⟩ := w.chain n k' v' hk' hi
    refine ⟨k :: l, by rw [List.length_cons, l1], List.nodup_cons.mpr ⟨fun hk => ?_, l2⟩, fun x hx => ?_⟩
    · obtain ⟨_, i, v2, hi, e2, h3⟩ := l3 k hk
      obtain ⟨v3, e3, h4⟩ := w.le hi (by assumption) e2
      have := h.2 n rfl v3 e3
      omega
    · rcases List.mem_cons.mp hx with z | z
      · rw [z]; exact ⟨hk, n + 1, v, Nat.le_refl _, h.1, Int.le_refl _⟩
      · obtain ⟨hx, i, v2, hi, e2, h3⟩ := l3 x z
        exact ⟨hx, i, v2, by omega, e2, by omega⟩
end
theorem least_of (p : Nat → Bool) (n : Nat) (h : p n = true) : ∃ N, N ≤ n ∧ p N = true ∧ ∀ j, j < N → p j = false := by
  induction n using Nat.strongRecOn with
  | ind n ih =>
    by_cases c : ∃ j, j < n ∧ p j = true
    · obtain ⟨j, hj, hp⟩ := c
      obtain ⟨N, h1, h2⟩ := ih j hj hp
      exact ⟨N, by omega, h2⟩
    · refine ⟨n, Nat.le_refl _, h, fun j hj => ?_⟩
      cases e : p j with
      | false => rfl
      | true => exact absurd ⟨j, hj, e⟩ c
/-! ### the greatest of a list -/
def gr (a b : Int) : Int := if b > a then b else a
theorem gr_fold : ∀ (l : List Int) (a : Int), a ≤ l.foldl gr a ∧ (∀ x, x ∈ l → x ≤ l.foldl gr a) ∧ (l.foldl gr a = a ∨ l.foldl gr a ∈ l)
  | [], a => ⟨Int.le_refl _, fun _ h => (nomatch h), .inl rfl⟩
  | b :: l, a => by
    obtain ⟨h1, h2, h3⟩ := gr_fold l (gr a b)
    have h4 : a ≤ gr a b ∧ b ≤ gr a b ∧ (gr a b = a ∨ gr a b = b) := by unfold gr; split <;> refine ⟨by omega, by omega, ?_⟩ <;> first | exact .inl rfl | exact .inr rfl
    rw [List.foldl_cons]
    refine ⟨by omega, fun x hx => ?_, ?_⟩
    · rcases List.mem_cons.mp hx with z | z
      · omega
      · exact h2 x z
    · rcases h3 with z | z
      · rcases h4.2.2 with y | y
        · exact .inl (z.trans y)
        · exact .inr (by rw [z, y]; exact List.mem_cons_self ..)
      · exact .inr (List.mem_cons_of_mem _ z)
theorem maxI_eq (l : List Int) : maxI l = l.foldl gr (l.headD 0) := rfl
theorem maxI_ge {l : List Int} {x : Int} (h : x ∈ l) : x ≤ maxI l := (gr_fold l _).2.1 x h
theorem maxI_mem {l : List Int} (h : l ≠ []) : maxI l ∈ l := by
  rcases (gr_fold l (l.headD 0)).2.2 with z | z
  · rw [maxI_eq, z]
    cases l with
    | nil => exact absurd rfl h
    | cons a l => exact List.mem_cons_self ..
  · exact z
/-! ### the best lines -/
theorem put_mem {β : Type} {es : As β} {k : List Int} {b : β} {e : List Int × β} (h : e ∈ putA es k b) : e ∈ es ∨ e = (k, b) := by
  unfold putA at h
  split at h
  · obtain ⟨x, hx, rfl⟩ := List.mem_map.mp h
    split
    · rename_i c; exact .inr (by rw [c])
    · exact .inl hx
  · rcases List.mem_append.mp h with z | z
    · exact .inl z
    · exact .inr (List.mem_singleton.mp z)
theorem best_cases (es : As Tl) (l : Ln) : (bestStep es l = es ∧ es ≠ []) ∨ bestStep es l = putA es l.2.2.1 (l.2.2.2, l.1, l.2.1) := by
  unfold bestStep
  cases e : getA es l.2.2.1 with
  | none => exact .inr rfl
  | some t =>
    show ((if t.1 < l.2.2.2 then _ else es) = es ∧ _) ∨ (if t.1 < l.2.2.2 then _ else es) = _
    split
    · exact .inr rfl
    · exact .inl ⟨rfl, fun z => by rw [z] at e; cases e⟩
def FromL (ls : List Ln) (es : As Tl) : Prop := (kysA es).Nodup ∧ ∀ e, e ∈ es → ∃ l, l ∈ ls ∧ e.1 = l.2.2.1 ∧ e.2.1 = l.2.2.2
theorem best_inv {L : List Ln} : ∀ (ls : List Ln) (es : As Tl), (∀ l, l ∈ ls → l ∈ L) → FromL L es → FromL L (ls.foldl bestStep es)
  | [], _, _, h => h
  | l :: ls, es, hl, h => by
    rw [List.foldl_cons]
    refine best_inv ls _ (fun x hx => hl x (List.mem_cons_of_mem _ hx)) ?_
    rcases best_cases es l with z | z
    · rw [z.1]; exact h
    · rw [z]
      refine ⟨nodup_put h.1, fun e he => ?_⟩
      rcases put_mem he with y | y
      · exact h.2 e y
      · exact ⟨l, hl l (List.mem_cons_self ..), by rw [y], by rw [y]⟩
theorem best_ne : ∀ (ls : List Ln) (es : As Tl), ls ≠ [] ∨ es ≠ [] → ls.foldl bestStep es ≠ []
  | [], _, h => h.elim (fun z => absurd rfl z) fun z => z
  | l :: ls, es, _ => by
    rw [List.foldl_cons]
    refine best_ne ls _ (.inr ?_)
    rcases best_cases es l with z | z
    · rw [z.1]; exact z.2
    · rw [z]; exact put_ne _ _ _
structure Sts.grp (S : Sts) : Prop where
  pos : ∀ n, n ∈ S.spans → 0 < n
  any : S.lines ≠ []
  box : ∀ l, l ∈ S.lines → InB S.spans l.2.2.1
section
variable {S : Sts}
theorem Sts.best_from (S : Sts) : FromL S.lines S.best := best_inv S.lines [] (fun _ h => h) ⟨List.nodup_nil, fun _ h => nomatch h⟩
theorem Sts.grp.best_ne (h : S.grp) : S.best ≠ [] := LC.best_ne _ _ (.inl h.any)
theorem Sts.grp.best_in (h : S.grp) {e : List Int × Tl} (he : e ∈ S.best) : InB S.spans e.1 := by
  obtain ⟨l, hl, e1, _⟩ := S.best_from.2 e he
  rw [e1]; exact h.box l hl
theorem Sts.most_ge {e : List Int × Tl} (he : e ∈ S.best) : e.2.1 ≤ S.most := maxI_ge (List.mem_map.mpr ⟨e, he, rfl⟩)
theorem Sts.grp.mv_of (h : S.grp) : ∃ e, e ∈ S.best ∧ e.1 = S.mv ∧ e.2.1 = S.most := by
  have hm : S.most ∈ S.best.map fun e => e.2.1 := maxI_mem fun z => h.best_ne (List.map_eq_nil_iff.mp z)
  obtain ⟨e, he, h1⟩ := List.mem_map.mp hm
  have hf : e ∈ S.best.filter fun e => decide (e.2.1 = S.most) := List.mem_filter.mpr ⟨he, decide_eq_true h1⟩
  unfold Sts.mv
  cases q : S.best.filter fun e => decide (e.2.1 = S.most) with
  | nil => rw [q] at hf; cases hf
  | cons a l =>
    have ha : a ∈ S.best.filter fun e => decide (e.2.1 = S.most) := by rw [q]; exact List.mem_cons_self ..
    obtain ⟨h2, h3⟩ := List.mem_filter.mp ha
    exact ⟨a, h2, rfl, of_decide_eq_true h3⟩
theorem Sts.grp.mv_in (h : S.grp) : InB S.spans S.mv := by
  obtain ⟨e, he, e1, _⟩ := h.mv_of
  rw [← e1]; exact h.best_in he
theorem Sts.grp.best_len (h : S.grp) : S.best.length ≤ S.spans.foldl (· * ·) 1 := by
  have q := box_le (sp := S.spans) S.best_from.1 fun x hx => by
    obtain ⟨e, he, rfl⟩ := List.mem_map.mp hx
    exact h.best_in he
  unfold kysA at q
  rw [List.length_map] at q
  exact q
/-! ### sums -/
def Sts.ups (S : Sts) (sums : As Int) : As Int := sums.flatMap fun s => S.best.map fun m => (S.added s.1 m.1, s.2 + m.2.1)
theorem more_eq (S : Sts) (best : As Tl) : ∀ (sums es : As Int), sums.foldl (fun f s => best.foldl (fun f m => updA f (S.added s.1 m.1) (s.2 + m.2.1)) f) es = foldU (sums.flatMap fun s => best.map fun m => (S.added s.1 m.1, s.2 + m.2.1)) es
  | [], es => rfl
  | s :: sums, es => by
    rw [List.foldl_cons, List.flatMap_cons, more_eq S best sums]
    unfold foldU
    rw [List.foldl_append, List.foldl_map]
theorem Sts.sums_succ (S : Sts) (n : Nat) : S.sums (n + 1) = foldU (S.ups (S.sums n)) [] := more_eq S S.best (S.sums n) []
theorem Sts.ups_mem {sums : As Int} {p : List Int × Int} : p ∈ S.ups sums ↔ ∃ s m, s ∈ sums ∧ m ∈ S.best ∧ p = (S.added s.1 m.1, s.2 + m.2.1) := by
  unfold Sts.ups
  rw [List.mem_flatMap]
  constructor
  · intro ⟨s, hs, h⟩
    obtain ⟨m, hm, e⟩ := List.mem_map.mp h
    exact ⟨s, m, hs, hm, e.symm⟩
  · intro ⟨s, m, hs, hm, e⟩
    exact ⟨s, hs, List.mem_map.mpr ⟨m, hm, e.symm⟩⟩
theorem added_eq (S : Sts) (a m : List Int) : S.added a m = addF S.spans a m := rfl
structure GoodA (sp : List Nat) (es : As Int) : Prop where
  once : (kysA es).Nodup
  box : ∀ e, e ∈ es → InB sp e.1
  ne : es ≠ []
theorem GoodA.len {sp : List Nat} {es : As Int} (h : GoodA sp es) : es.length ≤ sp.foldl (· * ·) 1 := by
  have q := box_le (sp := sp) h.once fun x hx => by
    obtain ⟨e, he, rfl⟩ := List.mem_map.mp hx
    exact h.box e he
  unfold kysA at q
  rw [List.length_map] at q
  exact q
theorem ne_mem {α : Type} {l : List α} (h : l ≠ []) : ∃ x, x ∈ l := by
  cases l with
  | nil => exact absurd rfl h
  | cons a l => exact ⟨a, List.mem_cons_self ..⟩
theorem Sts.grp.sums_ok (h : S.grp) : ∀ n, GoodA S.spans (S.sums n)
  | 0 => ⟨by show [S.empty].Nodup; simp, fun e he => by rw [List.mem_singleton.mp he]; exact zero_in h.pos, fun z => nomatch z⟩
  | n + 1 => by
    have ih := h.sums_ok n
    have nd : (kysA (foldU (S.ups (S.sums n)) [])).Nodup := up_nodup _ [] List.nodup_nil
    rw [S.sums_succ]
    refine ⟨nd, fun e he => ?_, fun z => ?_⟩
    · rcases up_from _ [] (getA_of nd he) with z | z
      · cases z
      · obtain ⟨s, m, hs, hm, e1⟩ := Sts.ups_mem.mp z
        rw [(Prod.mk.inj e1).1]
        exact addF_in (ih.box s hs) (h.best_in hm)
    · obtain ⟨s, hs⟩ := ne_mem ih.ne
      obtain ⟨m, hm⟩ := ne_mem h.best_ne
      obtain ⟨v, hv, _⟩ := up_all (S.ups (S.sums n)) [] (Sts.ups_mem.mpr ⟨s, m, hs, hm, rfl⟩)
      rw [z] at hv; cases hv
theorem shift_ok {sp : List Nat} {m : List Int} {t : Int} (hm : InB sp m) : ∀ (l es : As Int), (∀ e, e ∈ l → InB sp e.1) → (kysA es).Nodup → (∀ e, e ∈ es → InB sp e.1) → l ≠ [] ∨ es ≠ [] → GoodA sp (l.foldl (fun f e => putA f (addF sp e.1 m) (e.2 + t)) es)
  | [], es, _, h1, h2, h3 => ⟨h1, h2, h3.elim (fun z => absurd rfl z) fun z => z⟩
  | a :: l, es, hl, h1, h2, h3 => by
    rw [List.foldl_cons]
    refine shift_ok hm l _ (fun e he => hl e (List.mem_cons_of_mem _ he)) (nodup_put h1) (fun e he => ?_) (.inr (put_ne _ _ _))
    rcases put_mem he with z | z
    · exact h2 e z
    · rw [z]; exact addF_in (hl a (List.mem_cons_self ..)) hm
theorem Sts.grp.shift_ok (h : S.grp) {sums : As Int} (k : GoodA S.spans sums) : ∀ i, GoodA S.spans (S.shifted sums i)
  | 0 => k
  | i + 1 => LC.shift_ok h.mv_in (S.shifted sums i) [] (h.shift_ok k i).box List.nodup_nil (fun _ z => nomatch z) (.inl (h.shift_ok k i).ne)
/-! ### the walk of the sums, seen from the best move -/
def Sts.g (S : Sts) (n : Nat) (k : List Int) : Option Int := (getA (S.sums n) (itF S.spans S.mv (n : Int) k)).map fun v => v - (n : Int) * S.most
theorem g_of {n : Nat} {k : List Int} {v : Int} (h : getA (S.sums n) (itF S.spans S.mv (n : Int) k) = some v) : S.g n k = some (v - (n : Int) * S.most) := by unfold Sts.g; rw [h]; rfl
theorem g_to {n : Nat} {k : List Int} {v : Int} (h : S.g n k = some v) : getA (S.sums n) (itF S.spans S.mv (n : Int) k) = some (v + (n : Int) * S.most) := by
  unfold Sts.g at h
  cases e : getA (S.sums n) (itF S.spans S.mv (n : Int) k) with
  | none => rw [e] at h; cases h
  | some u =>
    rw [e] at h
    have h : u - (n : Int) * S.most = v := Option.some.inj h
    rw [← h, Int.sub_add_cancel]
theorem cast_s (n : Nat) : ((n + 1 : Nat) : Int) = (n : Int) + 1 := rfl
theorem mul_s (n : Nat) (t : Int) : ((n : Int) + 1) * t = (n : Int) * t + t := by rw [Int.add_mul, Int.one_mul]
theorem Sts.grp.up (h : S.grp) {n : Nat} {k k' : List Int} {m : List Int × Tl} {u : Int} (hk : InB S.spans k) (hm : m ∈ S.best) (e : addF S.spans (itF S.spans S.mv (n : Int) k') m.1 = addF S.spans (itF S.spans S.mv (n : Int) k) S.mv) (hu : S.g n k' = some u) : ∃ x, S.g (n + 1) k = some x ∧ u + (m.2.1 - S.most) ≤ x := by
  obtain ⟨v, h1, h2⟩ := up_all (S.ups (S.sums n)) [] (Sts.ups_mem.mpr ⟨_, m, getA_mem (g_to hu), hm, rfl⟩)
  rw [← S.sums_succ, added_eq, e, ← itF_succ hk h.mv_in, ← cast_s] at h1
  refine ⟨_, g_of h1, ?_⟩
  have h2 : u + (n : Int) * S.most + m.2.1 ≤ v := h2
  rw [cast_s, mul_s]
  omega
theorem Sts.grp.walks (h : S.grp) : Walks (InB S.spans) S.g := by
  refine ⟨fun n k v hk hv => ?_, fun n k v hk hv => ?_⟩
  · obtain ⟨m, hm, e1, e2⟩ := h.mv_of
    obtain ⟨x, h1, h2⟩ := h.up hk hm (by rw [e1]) hv
    exact ⟨x, h1, by omega⟩
  · have q := g_to hv
    rw [S.sums_succ] at q
    rcases up_from _ [] q with z | z
    · cases z
    · obtain ⟨s, m, hs, hm, e1⟩ := Sts.ups_mem.mp z
      obtain ⟨e2, e3⟩ := Prod.mk.inj e1
      have hs2 := (h.sums_ok n).box s hs
      have e4 := itF_back (j := (n : Int)) hs2 h.mv_in
      have e5 : getA (S.sums n) (itF S.spans S.mv (n : Int) (itF S.spans S.mv (-(n : Int)) s.1)) = some s.2 := by rw [e4]; exact getA_of (h.sums_ok n).once hs
      rw [cast_s, itF_succ hk h.mv_in, added_eq] at e2
      rw [cast_s, mul_s] at e3
      have := Sts.most_ge hm
      refine ⟨itF S.spans S.mv (-(n : Int)) s.1, s.2 - (n : Int) * S.most, itF_in hs2 h.mv_in, g_of e5, by omega, fun j u hu => ?_⟩
      have e6 := itF_move (i := (n : Int)) (j := (j : Int)) (itF_in (j := -(n : Int)) hs2 h.mv_in) hk (h.best_in hm) h.mv_in (by rw [e4]; exact e2.symm)
      obtain ⟨x, x1, x2⟩ := h.up hk hm e6 hu
      exact ⟨x, x1, by omega⟩
theorem Sts.grp.not_led (h : S.grp) {n : Nat} (c : S.ledAt n = false) : ∃ k v, InB S.spans k ∧ Imp S.g (n + 1) k v := by
  have ok1 := h.sums_ok n
  have ok2 := h.sums_ok (n + 1)
  have hm := h.mv_in
  by_cases a : ∃ e, e ∈ S.sums n ∧ getA (S.sums (n + 1)) (S.added e.1 S.mv) ≠ some (e.2 + S.most)
  · obtain ⟨e, he, ne⟩ := a
    have hb := ok1.box e he
    have e4 := itF_back (j := (n : Int)) hb hm
    have hk := itF_in (j := -(n : Int)) hb hm
    have g1 : S.g n (itF S.spans S.mv (-(n : Int)) e.1) = some (e.2 - (n : Int) * S.most) := g_of (by rw [e4]; exact getA_of ok1.once he)
    obtain ⟨v, g2, hv⟩ := h.walks.mono n _ _ hk g1
    refine ⟨_, v, hk, g2, fun m em u hu => ?_⟩
    have em : n = m := Nat.succ.inj em
    subst em
    rw [g1] at hu
    have hu := Option.some.inj hu
    have q := g_to g2
    rw [cast_s, itF_succ hk hm, e4, ← added_eq, mul_s] at q
    have : v + ((n : Int) * S.most + S.most) ≠ e.2 + S.most := fun z => ne (by rw [q, z])
    omega
  · have all : ∀ e, e ∈ S.sums n → getA (S.sums (n + 1)) (S.added e.1 S.mv) = some (e.2 + S.most) := fun e he => Classical.byContradiction fun z => a ⟨e, he, z⟩
    have hl : (S.sums n).length ≠ (S.sums (n + 1)).length := fun z => by
      have : S.ledAt n = true := by
        unfold Sts.ledAt Sts.led
        rw [decide_eq_true z, Bool.true_and, List.all_eq_true]
        exact fun e he => decide_eq_true (all e he)
      rw [this] at c; cases c
    have nd : ((kysA (S.sums n)).map fun k => addF S.spans k S.mv).Nodup := by
      refine List.Pairwise.map _ (fun x y hxy => hxy) ?_
      have p := ok1.once
      have := List.Pairwise.and_mem.mp p
      refine List.Pairwise.imp (fun {x y} ⟨hx, hy, hne⟩ z => ?_) this
      obtain ⟨e1, h1, rfl⟩ := List.mem_map.mp hx
      obtain ⟨e2, h2, rfl⟩ := List.mem_map.mp hy
      exact hne (addF_inj (ok1.box _ h1) (ok1.box _ h2) hm z)
    have ll : ((kysA (S.sums n)).map fun k => addF S.spans k S.mv).length = (S.sums n).length := by unfold kysA; rw [List.length_map, List.length_map]
    have l2 : (kysA (S.sums (n + 1))).length = (S.sums (n + 1)).length := by unfold kysA; rw [List.length_map]
    have le1 : (S.sums n).length ≤ (S.sums (n + 1)).length := by
      rw [← ll, ← l2]
      refine nodup_le nd fun x hx => ?_
      obtain ⟨k, hk, rfl⟩ := List.mem_map.mp hx
      obtain ⟨e, he, rfl⟩ := List.mem_map.mp hk
      exact mem_kys.mpr ⟨_, all e he⟩
    have ex : ∃ k, k ∈ kysA (S.sums (n + 1)) ∧ k ∉ (kysA (S.sums n)).map fun k => addF S.spans k S.mv := Classical.byContradiction fun z => by
      have : (kysA (S.sums (n + 1))).length ≤ ((kysA (S.sums n)).map fun k => addF S.spans k S.mv).length := nodup_le ok2.once fun x hx => Classical.byContradiction fun y => z ⟨x, hx, y⟩
      omega
    obtain ⟨k, hk, nk⟩ := ex
    obtain ⟨v, hv⟩ := mem_kys.mp hk
    have hb : InB S.spans k := ok2.box _ (getA_mem hv)
    have e4 := itF_back (j := ((n + 1 : Nat) : Int)) hb hm
    have hi := itF_in (j := -((n + 1 : Nat) : Int)) hb hm
    refine ⟨itF S.spans S.mv (-((n + 1 : Nat) : Int)) k, _, hi, g_of (by rw [e4]; exact hv), fun m em u hu => ?_⟩
    have em : n = m := Nat.succ.inj em
    subst em
    refine absurd (List.mem_map.mpr ⟨_, mem_kys.mpr ⟨_, g_to hu⟩, ?_⟩) nk
    rw [← itF_succ hi hm, ← cast_s, e4]
theorem Sts.grp.ends (h : S.grp) : ∃ N, N ≤ S.spans.foldl (· * ·) 1 ∧ S.ledAt N = true ∧ ∀ j, j < N → S.ledAt j = false := by
  refine least_of _ _ ?_
  cases c : S.ledAt (S.spans.foldl (· * ·) 1) with
  | true => rfl
  | false =>
    obtain ⟨k, v, hk, hi⟩ := h.not_led c
    obtain ⟨l, l1, l2, l3⟩ := h.walks.chain _ k v hk hi
    have := box_le l2 fun x hx => (l3 x hx).1
    omega
end
end LC
end
section
set_option Elab.async false
set_option linter.all false
set_option maxRecDepth 100000
set_option maxHeartbeats 1000000
/-! plain math: the states of two books are good -/
namespace LC
open PySem
theorem lcmN_eq (a b : Nat) : lcmN a b = Nat.lcm a b := by
  unfold lcmN Nat.lcm
  rw [Nat.div_mul_right_comm (Nat.gcd_dvd_left a b)]
theorem lcmN_comm (a b : Nat) : lcmN a b = lcmN b a := by rw [lcmN_eq, lcmN_eq, Nat.lcm_comm]
theorem lcmN_one (a : Nat) : lcmN 1 a = a := by rw [lcmN_eq, Nat.lcm_one_left]
theorem dvd_60 {n : Nat} (h0 : 0 < n) (h : n ≤ 5) : n ∣ 60 := by
  have : n = 1 ∨ n = 2 ∨ n = 3 ∨ n = 4 ∨ n = 5 := by omega
  rcases this with e | e | e | e | e <;> rw [e] <;> decide
theorem bot_names {s : Str → Nat} : ∀ (l : List Str) (t : Nat), t ∣ 60 → 0 < t → (∀ z, z ∈ l → 0 < s z ∧ s z ≤ 5) → l.foldl (fun t z => lcmN t (s z)) t ∣ 60 ∧ 0 < l.foldl (fun t z => lcmN t (s z)) t
  | [], t, h1, h2, _ => ⟨h1, h2⟩
  | z :: l, t, h1, h2, h => by
    obtain ⟨a, b⟩ := h z (List.mem_cons_self ..)
    rw [List.foldl_cons]
    exact bot_names l _ (by rw [lcmN_eq]; exact Nat.lcm_dvd h1 (dvd_60 a b)) (lcmN_pos h2 a) fun y hy => h y (List.mem_cons_of_mem _ hy)
theorem order_le : ∀ (sp : List Nat) (m : List Int) (t : Nat), 0 < t → (∀ n, n ∈ sp → 0 < n) → 0 < (List.zip m sp).foldl (fun t q => lcmN t (q.2 / Nat.gcd q.1.toNat q.2)) t ∧ (List.zip m sp).foldl (fun t q => lcmN t (q.2 / Nat.gcd q.1.toNat q.2)) t ≤ t * sp.foldl (· * ·) 1
  | [], m, t, h, _ => by
    rw [List.zip_nil_right]
    exact ⟨h, by show t ≤ t * 1; omega⟩
  | n :: sp, [], t, h, k => ⟨h, Nat.le_mul_of_pos_right t (by
      have : ∀ (l : List Nat) (t : Nat), 0 < t → (∀ n, n ∈ l → 0 < n) → 0 < l.foldl (· * ·) t := by
        intro l
        induction l with
        | nil => exact fun t h _ => h
        | cons a l ih => exact fun t h k => ih (t * a) (Nat.mul_pos h (k a (List.mem_cons_self ..))) fun n hn => k n (List.mem_cons_of_mem _ hn)
      exact this _ _ (by decide) k)⟩
  | n :: sp, x :: m, t, h, k => by
    have hn := k n (List.mem_cons_self ..)
    have p : 0 < n / Nat.gcd x.toNat n := Nat.div_pos (Nat.le_of_dvd hn (Nat.gcd_dvd_right _ _)) (Nat.gcd_pos_of_pos_right _ hn)
    obtain ⟨h1, h2⟩ := order_le sp m (lcmN t (n / Nat.gcd x.toNat n)) (lcmN_pos h p) fun y hy => k y (List.mem_cons_of_mem _ hy)
    rw [List.zip_cons_cons, List.foldl_cons, List.foldl_cons, foldl_mul sp (1 * n), Nat.one_mul, ← Nat.mul_assoc]
    refine ⟨h1, Nat.le_trans h2 (Nat.mul_le_mul_right _ (Nat.le_trans (lcmN_le _ _) (Nat.mul_le_mul_left t (Nat.div_le_self _ _))))⟩
theorem bsums_len (b : Bk) (z : Str) (n : Nat) : (b.sums z n).length = b.heaps.length := by unfold Bk.sums; rw [List.length_set, List.length_replicate]
section
variable {A B : Bk}
theorem mk_spans : (mkSts A B).spans = A.periods ++ B.periods := by
  show A.periods ++ (B.periods ++ []) = _
  rw [List.append_nil]
theorem mk_prod : (mkSts A B).spans.foldl (· * ·) 1 = A.size * B.size := by
  rw [mk_spans, List.foldl_append, foldl_mul B.periods]; rfl
theorem mk_names : (mkSts A B).names = A.names := rfl
theorem mk_books : (mkSts A B).books = [A, B] := rfl
theorem PairOk.per_pos (h : PairOk A B) {z : Str} (hz : z ∈ A.names) : 0 < A.period z ∧ 0 < B.period z :=
  ⟨(perS_ok (Bk.whole_ok h.fa.ok hz)).2, (perS_ok (Bk.whole_ok h.fb.ok (h.names ▸ hz))).2⟩
theorem amounts_two (z : Str) : amounts [A, B] z = lcmN (A.period z) (B.period z) := by
  show lcmN (lcmN 1 (A.period z)) (B.period z) = _
  rw [lcmN_one]
theorem PairOk.bottom (h : PairOk A B) : (mkSts A B).bottom ∣ 60 ∧ 0 < (mkSts A B).bottom := by
  have f : ∀ {b : Bk}, b.fine → ∀ z, z ∈ b.names → 0 < (b.share z).2 ∧ (b.share z).2 ≤ 5 := fun hb z hz => ⟨(rateS_ok (Bk.tail_ok hb.ok hz)).2.2, hb.share z hz⟩
  obtain ⟨h1, h2⟩ := bot_names A.names 1 (by decide) (by decide) (f h.fa)
  exact bot_names B.names _ h1 h2 (f h.fb)
theorem PairOk.bot_le (h : PairOk A B) : (mkSts A B).bottom ≤ 60 := Nat.le_of_dvd (by decide) h.bottom.1
theorem PairOk.sides (h : PairOk A B) {s : Bk × Int} (hs : s ∈ (mkSts A B).sides) : s.1.fine ∧ s.1.names = A.names ∧ (s.2 = 1 ∨ s.2 = -1) := by
  have hs : s ∈ [(A, (1 : Int)), (B, (-1 : Int))] := hs
  rcases List.mem_cons.mp hs with e | hs
  · rw [e]; exact ⟨h.fa, rfl, .inl rfl⟩
  · rw [List.mem_singleton.mp hs]; exact ⟨h.fb, h.names.symm, .inr rfl⟩
theorem PairOk.sok (h : PairOk A B) : (mkSts A B).ok := ⟨rfl, fun s hs => (h.sides hs).1, rfl, h.bottom.2, Nat.lt_of_le_of_lt h.bot_le (by decide), fun s hs => (h.sides hs).2.1, fun z hz => h.many z hz⟩
theorem PairOk.names_ne (h : PairOk A B) : 0 < A.names.length := by
  show 0 < (A.sorts.map (·.1)).length
  rw [List.length_map]; exact List.length_pos_iff.mpr h.fa.ok.some
theorem PairOk.grp (h : PairOk A B) : (mkSts A B).grp := by
  refine ⟨fun n hn => (h.sok.spans_ok n hn).1, fun e => ?_, fun l hl => ?_⟩
  · have hz : (A.names.getD 0 "") ∈ A.names := by
      have := h.names_ne
      cases e : A.names with
      | nil => rw [e] at this; simp at this
      | cons a l => exact List.mem_cons_self ..
    obtain ⟨p1, p2⟩ := h.per_pos hz
    have hl : (0, 0, (mkSts A B).reduced ((mkSts A B).move (A.names.getD 0 "") 0), (mkSts A B).weight (A.names.getD 0 "") 0) ∈ (mkSts A B).lines := by
      refine List.mem_flatMap.mpr ⟨0, List.mem_range.mpr h.names_ne, List.mem_map.mpr ⟨0, List.mem_range.mpr ?_, rfl⟩⟩
      show 0 < amounts [A, B] (A.names.getD 0 "")
      rw [amounts_two]; exact lcmN_pos p1 p2
    rw [e] at hl; cases hl
  · obtain ⟨i, _, hi⟩ := List.mem_flatMap.mp hl
    obtain ⟨n, _, rfl⟩ := List.mem_map.mp hi
    show InB (mkSts A B).spans (redF (mkSts A B).spans ((mkSts A B).move ((mkSts A B).names.getD i "") n))
    refine redF_in (fun n hn => (h.sok.spans_ok n hn).1) ?_
    rw [mk_spans]
    show _ ≤ (A.sums ((mkSts A B).names.getD i "") n ++ (B.sums ((mkSts A B).names.getD i "") n ++ [])).length
    rw [List.append_nil, List.length_append, List.length_append, bsums_len, bsums_len, per_len, per_len]
    exact Nat.le_refl _
theorem PairOk.order_ok (h : PairOk A B) (m : List Int) : 0 < (mkSts A B).order m ∧ (mkSts A B).order m ≤ 200 := by
  obtain ⟨h1, h2⟩ := order_le (mkSts A B).spans m 1 (by decide) fun n hn => (h.sok.spans_ok n hn).1
  rw [mk_prod, Nat.one_mul] at h2
  exact ⟨h1, Nat.le_trans h2 h.states⟩
theorem GoodA.keys {sp : List Nat} {es : As Int} (h : GoodA sp es) (k : sp.length ≤ 6) : ∀ e, e ∈ es → e.1.length ≤ 100 := fun e he => by
  rw [inB_len (h.box e he)]; omega
theorem PairOk.good (h : PairOk A B) : ∃ N, (mkSts A B).good N := by
  have hg := h.grp
  obtain ⟨N, n1, n2, n3⟩ := hg.ends
  have hs := h.sok.spans_len.2
  have hp := h.states
  have bl := hg.best_len
  rw [mk_prod] at n1 bl
  have sl : ∀ n, ((mkSts A B).sums n).length ≤ 200 := fun n => by
    have := (hg.sums_ok n).len
    rw [mk_prod] at this; omega
  refine ⟨N, h.sok, n2, n3, by omega, hg.best_ne, inB_pos hg.mv_in, fun n => ⟨(hg.sums_ok n).ne, Nat.le_trans (sl n) (by decide), Nat.le_trans (Nat.mul_le_mul (sl n) (Nat.le_trans bl hp)) (by decide), (hg.sums_ok n).keys hs⟩, ⟨(h.order_ok _).1, Nat.le_trans (h.order_ok _).2 (by decide)⟩, fun i => ?_⟩
  have q := hg.shift_ok (hg.sums_ok N) i
  have := q.len
  rw [mk_prod] at this
  exact ⟨q.ne, by omega, q.keys hs⟩
end
end LC
end
section
set_option Elab.async false
set_option linter.all false
set_option maxRecDepth 100000
set_option maxHeartbeats 1000000
/-! plain math: a charge shifts the rows -/
namespace LC
open PySem
/-! ### rows -/
def Rw.shift (r : Rw) (c : Int) : Rw := ⟨r.head.map (· + c), r.cycle.map (· + c), r.step⟩
theorem getD_mp {f : Int → Int} {l : List Int} {i : Nat} {d : Int} (h : i < l.length) : (l.map f).getD i d = f (l.getD i d) := by
  rw [List.getD_eq_getElem?_getD, List.getD_eq_getElem?_getD, List.getElem?_map, List.getElem?_eq_getElem h]; rfl
theorem longer_shift (m : List Int) (r c : Int) : longer (m.map (· + c)) r = (longer m r).map (· + c) := by
  unfold longer
  rw [List.map_append, List.map_map, List.map_map]
  congr 1
  refine List.map_congr_left fun x _ => ?_
  show x + c + r = x + r + c
  omega
theorem goesOn_shift {m : List Int} {r c : Int} {p : Nat} (hp : p ≤ m.length) : goesOn (m.map (· + c)) r p = goesOn m r p := by
  unfold goesOn
  rw [List.length_map, longer_shift]
  have ll : (longer m r).length = m.length + m.length := by unfold longer; rw [List.length_append, List.length_map]
  by_cases h : r * (p : Int) % (m.length : Int) ≠ 0
  · rw [if_pos h, if_pos h]
  · rw [if_neg h, if_neg h]
    rw [Bool.eq_iff_iff, List.all_eq_true, List.all_eq_true]
    refine forall_congr' fun a => forall_congr' fun ha => ?_
    have ha := List.mem_range.mp ha
    rw [decide_eq_true_iff, decide_eq_true_iff, getD_mp (by omega), getD_mp (by omega)]
    omega
theorem partOf_shift (m : List Int) (r c : Int) : partOf (m.map (· + c)) r = partOf m r := by
  unfold partOf
  rw [List.length_map]
  congr 1
  refine List.filter_congr fun p hp => ?_
  obtain ⟨j, hj, rfl⟩ := List.mem_map.mp hp
  have := List.mem_range.mp hj
  rw [goesOn_shift (by omega)]
theorem trim_shift (e : List Int) (s c : Int) : ∀ (n : Nat) (cyc : List Int), n ≤ e.length → 0 < cyc.length → trim (e.map (· + c)) s n (cyc.map (· + c)) = ((trim e s n cyc).1, (trim e s n cyc).2.map (· + c))
  | 0, cyc, _, _ => rfl
  | n + 1, cyc, h, k => by
    unfold trim
    rw [List.length_map, getD_mp (by omega), getD_mp (by omega)]
    by_cases q : e.getD n 0 = cyc.getD (cyc.length - 1) 0 - s
    · rw [if_pos q, if_pos (by omega)]
      have e1 : (e.getD n 0 + c) :: (cyc.map (· + c)).take (cyc.length - 1) = (e.getD n 0 :: cyc.take (cyc.length - 1)).map (· + c) := by rw [List.map_cons, List.map_take]
      rw [e1]
      exact trim_shift e s c n _ (by omega) (by rw [List.length_cons]; omega)
    · rw [if_neg q, if_neg (by omega)]
theorem mkRow_shift {l m : List Int} {r : Int} (c : Int) (h : 0 < m.length) : mkRow (l.map (· + c)) (m.map (· + c)) r = (mkRow l m r).shift c := by
  have e1 : rowStep (m.map (· + c)) r = rowStep m r := by unfold rowStep; rw [partOf_shift, List.length_map]
  obtain ⟨p1, p2, _⟩ := partOf_ok (r := r) h
  have hl : 0 < (m.take (partOf m r)).length := by rw [List.length_take]; omega
  unfold mkRow
  rw [e1, partOf_shift, List.length_map, ← List.map_take, trim_shift l (rowStep m r) c _ _ (Nat.le_refl _) hl]
  show Rw.mk _ _ _ = Rw.mk _ _ _
  rw [List.map_take]
theorem at_shift {r : Rw} (h : 0 < r.cycle.length) (c : Int) (k : Nat) : (r.shift c).at k = r.at k + c := by
  unfold Rw.at Rw.shift
  show (if k < (r.head.map (· + c)).length then _ else _) = _
  rw [List.length_map, List.length_map]
  by_cases q : k < r.head.length
  · rw [if_pos q, if_pos q, getD_mp q]
  · rw [if_neg q, if_neg q, getD_mp (Nat.mod_lt _ h)]
    exact Int.add_right_comm ..
theorem turn_shift {r : Rw} (h : 0 < r.cycle.length) (c : Int) : (r.shift c).turn = r.turn.shift (-c) := by
  have e : ∀ l : List Int, (l.map (· + c)).map (- ·) = (l.map (- ·)).map (· + -c) := fun l => by
    rw [List.map_map, List.map_map]
    refine List.map_congr_left fun x _ => ?_
    show -(x + c) = -x + -c
    omega
  unfold Rw.turn
  show mkRow ((r.head.map (· + c)).map (- ·)) ((r.cycle.map (· + c)).map (- ·)) (-r.step) = _
  rw [e, e, mkRow_shift (-c) (by rw [List.length_map]; exact h)]
/-! ### states that differ in the gap alone -/
structure Alike (S T : Sts) (c : Int) : Prop where
  spans : T.spans = S.spans
  bottom : T.bottom = S.bottom
  lines : T.lines = S.lines
  base : ∀ st, T.base st = S.base st + c * (S.bottom : Int)
theorem maxI_shift (d : Int) : ∀ {l : List Int}, l ≠ [] → maxI (l.map (· + d)) = maxI l + d := by
  have key : ∀ (l : List Int) (a : Int), (l.map (· + d)).foldl gr (a + d) = l.foldl gr a + d := by
    intro l
    induction l with
    | nil => exact fun _ => rfl
    | cons b l ih =>
      intro a
      rw [List.map_cons, List.foldl_cons, List.foldl_cons, ← ih]
      congr 1
      unfold gr
      split <;> split <;> omega
  intro l h
  cases l with
  | nil => exact absurd rfl h
  | cons a l => exact key (a :: l) a
section
variable {S T : Sts} {c : Int}
theorem Alike.added (h : Alike S T c) : T.added = S.added := by
  funext a m
  unfold Sts.added
  rw [h.spans]
theorem Alike.best (h : Alike S T c) : T.best = S.best := by unfold Sts.best; rw [h.lines]
theorem Alike.most (h : Alike S T c) : T.most = S.most := by unfold Sts.most; rw [h.best]
theorem Alike.mv (h : Alike S T c) : T.mv = S.mv := by unfold Sts.mv; rw [h.best, h.most]
theorem Alike.sums (h : Alike S T c) : ∀ n, T.sums n = S.sums n
  | 0 => by
    show [(T.empty, (0 : Int))] = [(S.empty, 0)]
    unfold Sts.empty
    rw [h.spans]
  | n + 1 => by
    show T.more T.best (T.sums n) = S.more S.best (S.sums n)
    rw [h.sums n, h.best]
    unfold Sts.more
    rw [h.added]
theorem Alike.ledAt (h : Alike S T c) (n : Nat) : T.ledAt n = S.ledAt n := by
  unfold Sts.ledAt Sts.led
  rw [h.sums, h.sums, h.mv, h.most, h.added]
theorem Alike.order (h : Alike S T c) (m : List Int) : T.order m = S.order m := by unfold Sts.order; rw [h.spans]
theorem Alike.shifted (h : Alike S T c) (l : As Int) : ∀ i, T.shifted l i = S.shifted l i
  | 0 => rfl
  | i + 1 => by
    show T.shift T.mv T.most (T.shifted l i) = S.shift S.mv S.most (S.shifted l i)
    rw [h.shifted l i, h.mv, h.most]
    unfold Sts.shift
    rw [h.added]
theorem Alike.greatest (h : Alike S T c) (hb : 0 < S.bottom) {l : As Int} (hl : l ≠ []) : T.greatest l = S.greatest l + c := by
  unfold Sts.greatest
  have e : (l.map fun e => e.2 + T.base e.1) = (l.map fun e => e.2 + S.base e.1).map (· + c * (S.bottom : Int)) := by
    rw [List.map_map]
    refine List.map_congr_left fun x _ => ?_
    show x.2 + T.base x.1 = x.2 + S.base x.1 + c * (S.bottom : Int)
    rw [h.base]; omega
  rw [e, maxI_shift _ (fun z => hl (List.map_eq_nil_iff.mp z)), h.bottom, Int.add_mul_ediv_right _ _ (by omega)]
theorem Alike.row (h : Alike S T c) {N : Nat} (g : S.good N) : T.row N = (S.row N).shift c := by
  unfold Sts.row
  have e1 : ((List.range N).map fun i => T.greatest (T.sums i)) = ((List.range N).map fun i => S.greatest (S.sums i)).map (· + c) := by
    rw [List.map_map]
    refine List.map_congr_left fun i _ => ?_
    show T.greatest (T.sums i) = S.greatest (S.sums i) + c
    rw [h.sums, h.greatest g.ok.bot0 (g.sums i).1]
  have e2 : ((List.range (T.order T.mv)).map fun i => T.greatest (T.shifted (T.sums N) i)) = ((List.range (S.order S.mv)).map fun i => S.greatest (S.shifted (S.sums N) i)).map (· + c) := by
    rw [List.map_map, h.mv, h.order]
    refine List.map_congr_left fun i _ => ?_
    show T.greatest (T.shifted (T.sums N) i) = S.greatest (S.shifted (S.sums N) i) + c
    rw [h.sums, h.shifted, h.greatest g.ok.bot0 (g.shift i).1]
  rw [e1, e2, h.mv, h.order, h.most, h.bottom]
  exact mkRow_shift c (by rw [List.length_map, List.length_range]; exact g.ord.1)
theorem Alike.turns (h : Alike S T c) {N M : Nat} (g : S.good N) (k : T.good M) : M = N := by
  rcases Nat.lt_trichotomy M N with q | q | q
  · have a := g.not M q
    rw [← h.ledAt, k.led] at a; cases a
  · exact q
  · have a := k.not N q
    rw [h.ledAt, g.led] at a; cases a
end
/-! ### books that differ in what they ask alone -/
structure Kin (X X' : Bk) (c : Int) : Prop where
  sorts : X'.sorts = X.sorts
  len : X'.heaps.length = X.heaps.length
  share : ∀ z, X'.share z = X.share z
  period : ∀ z, X'.period z = X.period z
  periods : X'.periods = X.periods
  ask : ∀ s, X'.ask s = X.ask s + c
theorem Kin.refl (X : Bk) : Kin X X 0 := ⟨rfl, rfl, fun _ => rfl, fun _ => rfl, rfl, fun _ => (Int.add_zero _).symm⟩
theorem rateS_plus (l : List Stp) (c : Int) : rateS (l ++ [.plus c]) = rateS l := by
  unfold rateS
  rw [List.foldl_append]; rfl
theorem perS_plus (l : List Stp) (c : Int) : perS (l ++ [.plus c]) = perS l := by
  unfold perS
  rw [List.foldl_append]; rfl
theorem kin_dear (A : Bk) (c : Int) : Kin A (A.dear c) c := by
  refine ⟨rfl, rfl, fun z => ?_, fun z => ?_, ?_, fun s => ?_⟩
  · show rateS (A.heap (A.kind z).2.1 ++ (A.last ++ [.plus c])) = _
    rw [← List.append_assoc, rateS_plus]; rfl
  · show perS ((A.kind z).2.2 ++ (A.heap (A.kind z).2.1 ++ (A.last ++ [.plus c]))) = _
    rw [← List.append_assoc, ← List.append_assoc, List.append_assoc (A.kind z).2.2, perS_plus]; rfl
  · show (A.heaps.map fun s => perS (s ++ (A.last ++ [.plus c]))) = A.heaps.map fun s => perS (s ++ A.last)
    refine List.map_congr_left fun s _ => ?_
    rw [← List.append_assoc, perS_plus]
  · show ledS (A.last ++ [.plus c]) ((List.zipWith ledS A.heaps s).sum) = _
    unfold ledS
    rw [List.foldl_append]; rfl
section
variable {X X' : Bk} {c : Int}
theorem Kin.names (h : Kin X X' c) : X'.names = X.names := by unfold Bk.names; rw [h.sorts]
theorem Kin.kind (h : Kin X X' c) (z : Str) : X'.kind z = X.kind z := by unfold Bk.kind; rw [h.sorts]
theorem Kin.value (h : Kin X X' c) (z : Str) (n : Nat) : X'.value z n = X.value z n := by unfold Bk.value; rw [h.kind]
theorem Kin.sums (h : Kin X X' c) (z : Str) (n : Nat) : X'.sums z n = X.sums z n := by unfold Bk.sums; rw [h.kind, h.value, h.len]
theorem Kin.size (h : Kin X X' c) : X'.size = X.size := by unfold Bk.size; rw [h.periods]
theorem Kin.low {S T : Sts} (h : Kin X X' c) (e : T.bottom = S.bottom) (z : Str) : T.low X' z = S.low X z := by unfold Sts.low; rw [e, h.share]
theorem Kin.shares {S T : Sts} (h : Kin X X' c) (e : T.bottom = S.bottom) : T.shares X' = S.shares X := by
  unfold Sts.shares
  rw [h.len]
  refine List.map_congr_left fun g _ => ?_
  unfold Sts.shareG
  rw [h.sorts]
  cases X.sorts.find? fun k => decide (k.2.1 = g) with
  | none => rfl
  | some k =>
    show ((X'.share k.1).1 : Int) * (T.low X' k.1 : Int) = ((X.share k.1).1 : Int) * (S.low X k.1 : Int)
    rw [h.share, h.low e]
end
theorem sub_fold {α : Type} (f : α → Int) (d : Int) : ∀ (l : List α) (t : Int), l.foldl (fun u q => u - f q) (t + d) = l.foldl (fun u q => u - f q) t + d
  | [], t => rfl
  | a :: l, t => by
    rw [List.foldl_cons, List.foldl_cons, ← sub_fold f d l, show t + d - f a = t - f a + d by omega]
theorem mk_bottom (A B : Bk) : (mkSts A B).bottom = B.names.foldl (fun t z => lcmN t (B.share z).2) (A.names.foldl (fun t z => lcmN t (A.share z).2) 1) := rfl
theorem mk_move (A B : Bk) (z : Str) (n : Nat) : (mkSts A B).move z n = A.sums z n ++ (B.sums z n ++ []) := rfl
theorem mk_weight (A B : Bk) (z : Str) (n : Nat) : (mkSts A B).weight z n = 0 + 1 * A.value z n * ((A.share z).1 : Int) * ((mkSts A B).low A z : Int) + -1 * B.value z n * ((B.share z).1 : Int) * ((mkSts A B).low B z : Int) := rfl
theorem mk_gap (A B : Bk) (ns : List Int) : (mkSts A B).gap ns = 0 + 1 * A.ask ((ns.drop 0).take A.heaps.length) + -1 * B.ask ((ns.drop (0 + A.heaps.length)).take B.heaps.length) := rfl
theorem mk_base (A B : Bk) (st : List Int) : (mkSts A B).base st = (List.zip ((mkSts A B).shares B) (st.drop (0 + A.heaps.length))).foldl (fun u q => u - -1 * q.1 * q.2) ((List.zip ((mkSts A B).shares A) (st.drop 0)).foldl (fun u q => u - 1 * q.1 * q.2) ((mkSts A B).gap st * ((mkSts A B).bottom : Int))) := rfl
theorem mk_lines (A B : Bk) : (mkSts A B).lines = (List.range A.names.length).flatMap fun i => (List.range (amounts [A, B] (A.names.getD i ""))).map fun n => (i, n, redF (mkSts A B).spans ((mkSts A B).move (A.names.getD i "") n), (mkSts A B).weight (A.names.getD i "") n) := rfl
theorem Kin.alike {A A' B B' : Bk} {c d : Int} (h : Kin A A' c) (k : Kin B B' d) : Alike (mkSts A B) (mkSts A' B') (c - d) := by
  have eb : (mkSts A' B').bottom = (mkSts A B).bottom := by
    rw [mk_bottom, mk_bottom, h.names, k.names]
    have e1 : (fun (t : Nat) z => lcmN t (A'.share z).2) = fun t z => lcmN t (A.share z).2 := by funext t z; rw [h.share]
    have e2 : (fun (t : Nat) z => lcmN t (B'.share z).2) = fun t z => lcmN t (B.share z).2 := by funext t z; rw [k.share]
    rw [e1, e2]
  have es : (mkSts A' B').spans = (mkSts A B).spans := by rw [mk_spans, mk_spans, h.periods, k.periods]
  refine ⟨es, eb, ?_, fun st => ?_⟩
  · rw [mk_lines, mk_lines, h.names]
    congr 1
    funext i
    rw [amounts_two, amounts_two, h.period, k.period]
    refine List.map_congr_left fun n _ => ?_
    rw [es, mk_move, mk_move, h.sums, k.sums, mk_weight, mk_weight, h.value, k.value, h.share, k.share, h.low eb, k.low eb]
  · rw [mk_base, mk_base, h.shares eb, k.shares eb, h.len, eb, mk_gap, mk_gap, h.len, k.len, h.ask, k.ask]
    have e1 : ∀ x y : Int, (0 + 1 * (x + c) + -1 * (y + d)) * ((mkSts A B).bottom : Int) = (0 + 1 * x + -1 * y) * ((mkSts A B).bottom : Int) + (c - d) * ((mkSts A B).bottom : Int) := fun x y => by
      rw [← Int.add_mul]
      congr 1
      omega
    rw [e1, sub_fold (fun q : Int × Int => 1 * q.1 * q.2), sub_fold (fun q : Int × Int => -1 * q.1 * q.2)]
end LC
end
section
set_option Elab.async false
set_option linter.all false
set_option maxRecDepth 100000
set_option maxHeartbeats 1000000
/-! plain math: the drawn books are a pair -/
namespace LC
open PySem
def Neut (s : Stp) : Prop := (∃ c, s = .plus c) ∨ ∃ w u, s = .times 1 1 w u
theorem neut_fold : ∀ {l : List Stp} {f : Nat × Nat}, (∀ s, s ∈ l → Neut s) → mulF f (frac 1 1) = f → l.foldl rate1 f = f
  | [], f, _, _ => rfl
  | s :: l, f, h, k => by
    have e : rate1 f s = f := by
      rcases h s (List.mem_cons_self ..) with ⟨c, rfl⟩ | ⟨w, u, rfl⟩
      · rfl
      · exact k
    rw [List.foldl_cons, e]
    exact neut_fold (fun x hx => h x (List.mem_cons_of_mem _ hx)) k
theorem ExL.neut {l : List Stp} (h : ExL l) : ∀ s, s ∈ l → Neut s := fun s hs => by
  rcases h with e | ⟨c, _, _, e⟩ | ⟨w, u, _, _, _, e⟩
  · rw [e] at hs; cases hs
  · rw [e] at hs; exact .inl ⟨c, List.mem_singleton.mp hs⟩
  · rw [e] at hs; exact .inr ⟨w, u, List.mem_singleton.mp hs⟩
theorem neut_app {l m : List Stp} (h : ∀ s, s ∈ l → Neut s) (k : ∀ s, s ∈ m → Neut s) : ∀ s, s ∈ l ++ m → Neut s := fun s hs => (List.mem_append.mp hs).elim (h s) (k s)
theorem one_red : mulF (1, 1) (frac 1 1) = (1, 1) := by decide +kernel
theorem fac_red : (facs.all fun f => decide (mulF (frac f.1 f.2) (frac 1 1) = frac f.1 f.2 ∧ mulF (1, 1) (frac f.1 f.2) = frac f.1 f.2 ∧ (frac f.1 f.2).2 ≤ 5)) = true := by decide +kernel
theorem rate_none {l : List Stp} (h : ∀ s, s ∈ l → Neut s) : rateS l = (1, 1) := neut_fold h one_red
theorem rate_one {l m : List Stp} {s : Stp} {f : Nat × Nat} (h : ∀ s, s ∈ l → Neut s) (hs : StpF f s) (hf : f ∈ facs) (k : ∀ s, s ∈ m → Neut s) : rateS (l ++ s :: m) = frac f.1 f.2 := by
  obtain ⟨w, u, _, rfl⟩ := hs
  obtain ⟨e1, e2, _⟩ := of_decide_eq_true (List.all_eq_true.mp fac_red f hf)
  unfold rateS
  rw [List.foldl_append, neut_fold h one_red, List.foldl_cons]
  show m.foldl rate1 (mulF (1, 1) (frac f.1 f.2)) = _
  rw [e2, neut_fold k e1]
theorem kind_index {b : Bk} {z : Str} (hn : b.names.Nodup) {i : Nat} (h : b.names[i]? = some z) : b.sorts[i]? = some (b.kind z) := by
  obtain ⟨h1, h2⟩ := Bk.kind_mem (List.mem_of_getElem? h)
  obtain ⟨j, hj⟩ := List.getElem?_of_mem h1
  have e : b.names[j]? = some z := by
    show (b.sorts.map (·.1))[j]? = some z
    rw [List.getElem?_map, hj, ← h2]
    show some (b.kind (b.kind z).1).1 = some (b.kind z).1
    rw [h2, h2]
  have : i = j := (List.getElem?_inj (List.getElem?_eq_some_iff.mp h).1 hn).mp (h.trans e.symm)
  rw [this]; exact hj
theorem Laid.rates {ls : List Str} {fs : List (Nat × Nat)} {b : Bk} (hL : LabOk ls fs) (h : Laid ls fs b) {j : Nat} {z : Str} {f : Nat × Nat} (hz : ls[j]? = some z) (hf : fs[j]? = some f) : b.rate z = frac f.1 f.2 ∧ (b.share z).2 ≤ 5 := by
  have hn := h.names
  have hk : b.sorts[j]? = some (b.kind z) := kind_index (by rw [hn]; exact hL.once) (by rw [hn]; exact hz)
  have ff := hL.facs f (List.mem_of_getElem? hf)
  have f5 : (frac f.1 f.2).2 ≤ 5 := (of_decide_eq_true (List.all_eq_true.mp fac_red f ff)).2.2
  cases h with
  | apart ks e la h1 h2 h3 =>
    obtain ⟨l, f', s, e', g1, g2, g3, g4, g5⟩ := h1.2 j _ hk
    rw [hf] at g2
    cases g2
    have e1 : (Bk.mk ks [e] la).whole z = [] ++ s :: (e' ++ (e ++ la)) := by
      unfold Bk.whole
      rw [g5]; rfl
    have e2 : (Bk.mk ks [e] la).share z = rateS (e ++ la) := by
      unfold Bk.share
      rw [g5]; rfl
    unfold Bk.rate
    rw [e1, e2, rate_none (neut_app h2.neut h3.neut)]
    exact ⟨rate_one (l := []) (fun _ z => (nomatch z)) g3 ff (neut_app g4.neut (neut_app h2.neut h3.neut)), show 1 ≤ 5 by decide⟩
  | each ks hs la h1 h2 h3 =>
    obtain ⟨l, e', g1, g2, g5⟩ := h1.2 j _ hk
    have hj : j < hs.length := by rw [h2.1]; exact (List.getElem?_eq_some_iff.mp hz).1
    obtain ⟨f', s, k1, k2, k3⟩ := h2.2 j _ (List.getElem?_eq_getElem hj)
    rw [hf] at k1
    cases k1
    have eh : (Bk.mk ks hs la).heap j = [s] := by
      unfold Bk.heap
      show hs.getD j [] = [s]
      rw [List.getD_eq_getElem?_getD, List.getElem?_eq_getElem hj, k3]; rfl
    have e1 : (Bk.mk ks hs la).whole z = e' ++ s :: la := by
      unfold Bk.whole
      rw [g5]
      show e' ++ ((Bk.mk ks hs la).heap j ++ la) = _
      rw [eh]; rfl
    have e2 : (Bk.mk ks hs la).share z = rateS ([] ++ s :: la) := by
      unfold Bk.share
      rw [g5]
      show rateS ((Bk.mk ks hs la).heap j ++ la) = _
      rw [eh]; rfl
    unfold Bk.rate
    refine ⟨by rw [e1]; exact rate_one g2.neut k2 ff h3.neut, ?_⟩
    rw [e2, rate_one (l := []) (fun _ z => (nomatch z)) k2 ff h3.neut]
    exact f5
  | all ks e la f' s h1 h2 h3 h4 h5 =>
    obtain ⟨l, e', g1, g2, g5⟩ := h1.2 j _ hk
    have := h4 f (List.mem_of_getElem? hf)
    subst this
    have e1 : (Bk.mk ks [e] (s :: la)).whole z = (e' ++ e) ++ s :: la := by
      unfold Bk.whole
      rw [g5, List.append_assoc]; rfl
    have e2 : (Bk.mk ks [e] (s :: la)).share z = rateS (e ++ s :: la) := by
      unfold Bk.share
      rw [g5]; rfl
    unfold Bk.rate
    rw [e1, e2, rate_one h2.neut h5 ff h3.neut]
    exact ⟨rate_one (neut_app g2.neut h2.neut) h5 ff h3.neut, f5⟩
theorem owns_at {b : Bk} {z : Str} (hn : b.names.Nodup) {i : Nat} (h : b.names[i]? = some z) : b.owns[i]? = some (b.period z) := by
  unfold Bk.owns
  rw [List.getElem?_map, kind_index hn h]; rfl
theorem amB_at {b : Bk} {l : List Nat} {i t p : Nat} (h : l[i]? = some t) (k : b.owns[i]? = some p) : (amB l b)[i]? = some (lcmN t p) := by
  unfold amB
  have : (List.zip l b.owns)[i]? = some (t, p) := List.getElem?_zip_eq_some.mpr ⟨h, k⟩
  rw [List.getElem?_map, this]; rfl
section
variable {A B : Bk}
theorem Sel.both (h : Sel A B) : A.ok ∧ B.ok ∧ A.names = B.names := by
  obtain ⟨ls, fs, hL, hA, hB⟩ := h.laid
  exact ⟨hA.ok hL, hB.ok hL, hA.names.trans hB.names.symm⟩
theorem Sel.at (h : Sel A B) {z : Str} (hz : z ∈ A.names) : A.rate z = B.rate z ∧ (A.share z).2 ≤ 5 ∧ (B.share z).2 ≤ 5 := by
  obtain ⟨ls, fs, hL, hA, hB⟩ := h.laid
  rw [hA.names] at hz
  obtain ⟨j, hj⟩ := List.getElem?_of_mem hz
  have hl := (List.getElem?_eq_some_iff.mp hj).1
  rw [← hL.same] at hl
  have hf := List.getElem?_eq_getElem hl
  obtain ⟨a1, a2⟩ := hA.rates hL hj hf
  obtain ⟨b1, b2⟩ := hB.rates hL hj hf
  exact ⟨a1.trans b1.symm, a2, b2⟩
theorem Sel.size (h : Sel A B) : A.size * B.size ≤ 40 := by
  have q := h.states
  have e : manySt A B = A.size * B.size := by
    show B.periods.foldl (· * ·) (A.periods.foldl (· * ·) 1) = _
    rw [foldl_mul B.periods]; rfl
  rw [← e]; exact q
theorem Sel.many (h : Sel A B) {z : Str} (hz : z ∈ A.names) : lcmN (A.period z) (B.period z) ≤ 24 := by
  obtain ⟨hA, hB, hn⟩ := h.both
  obtain ⟨i, hi⟩ := List.getElem?_of_mem hz
  have oA := owns_at (b := A) hA.once hi
  have oB := owns_at (b := B) hB.once (hn ▸ hi)
  have hl : i < A.sorts.length := by
    have : i < (A.sorts.map (·.1)).length := (List.getElem?_eq_some_iff.mp hi).1
    rw [List.length_map] at this; exact this
  have h0 : (List.replicate A.sorts.length 1)[i]? = some 1 := by rw [List.getElem?_replicate, if_pos hl]
  have q := h.amounts _ (List.mem_of_getElem? (amB_at (amB_at h0 oA) oB))
  rw [lcmN_one] at q
  exact q
theorem Sel.pair (h : Sel A B) : PairOk A B := by
  obtain ⟨hA, hB, hn⟩ := h.both
  refine ⟨⟨hA, fun z hz => (h.at hz).2.1⟩, ⟨hB, fun z hz => (h.at (hn ▸ hz)).2.2⟩, hn, fun z hz => (h.at hz).1, Nat.le_trans h.size (by decide), fun z hz => ?_, fun z hz => ?_⟩
  · rw [amounts_two]; exact Nat.le_trans (h.many hz) (by decide)
  · rw [amounts_two, lcmN_comm]; exact Nat.le_trans (h.many hz) (by decide)
theorem dear_ok {c : Int} (h : A.ok) (k : A.last.length ≠ 2) (c1 : -1000 ≤ c) (c2 : c ≤ 1000) : (A.dear c).ok := by
  refine ⟨h.some, h.few, h.kinds, h.once, h.hsome, h.hfew, h.heaps_ok, ?_, fun s hs => ?_⟩
  · show (A.last ++ [Stp.plus c]).length ≤ 2
    have := h.last_ok.1
    rw [List.length_append]
    show A.last.length + 1 ≤ 2
    omega
  · rcases List.mem_append.mp hs with z | z
    · exact h.last_ok.2 s z
    · rw [List.mem_singleton.mp z]; exact ⟨c1, c2⟩
theorem rate_dear (A : Bk) (c : Int) (z : Str) : (A.dear c).rate z = A.rate z := by
  show rateS ((A.kind z).2.2 ++ (A.heap (A.kind z).2.1 ++ (A.last ++ [.plus c]))) = _
  rw [← List.append_assoc, ← List.append_assoc, List.append_assoc (A.kind z).2.2, rateS_plus]; rfl
theorem PairOk.dear {c : Int} (h : PairOk A B) (k : (A.dear c).ok) : PairOk (A.dear c) B := by
  have q := kin_dear A c
  refine ⟨⟨k, fun z hz => ?_⟩, h.fb, h.names, fun z hz => ?_, ?_, fun z hz => ?_, fun z hz => ?_⟩
  · rw [q.share]; exact h.fa.share z hz
  · rw [rate_dear]; exact h.rates z hz
  · rw [q.size]; exact h.states
  · have := h.many z hz
    rw [amounts_two] at this ⊢
    rw [q.period]; exact this
  · have := h.manyB z hz
    rw [amounts_two] at this ⊢
    rw [q.period]; exact this
end
end LC
end
section
set_option Elab.async false
set_option linter.all false
set_option maxRecDepth 100000
set_option maxHeartbeats 1000000
/-! plain math: rows are small; all facts -/
namespace LC
open PySem
theorem ledS_le {l : List Stp} (h : OkS 2 l) {v : Int} (hv : v.natAbs ≤ 400) : (ledS l v).natAbs ≤ 106000 := by
  obtain ⟨h1, h2⟩ := h
  match l, h1, h2 with
  | [], _, _ => show v.natAbs ≤ 106000; omega
  | [a], _, h2 =>
    have := led1_le (v := v) (h2 a (List.mem_cons_self ..))
    show (led1 v a).natAbs ≤ 106000
    omega
  | [a, b], _, h2 =>
    have q := led1_le (v := v) (h2 a (List.mem_cons_self ..))
    have := led1_le (v := led1 v a) (h2 b (List.mem_cons_of_mem _ (List.mem_cons_self ..)))
    show (led1 (led1 v a) b).natAbs ≤ 106000
    omega
  | a :: b :: c :: l, h1, _ => simp at h1
theorem part_le {b : Bk} (hb : b.fine) {z : Str} (hz : z ∈ b.names) {n lo : Nat} (hn : n ≤ 400) (hl : lo ≤ 60) : (b.value z n * ((b.share z).1 : Int) * (lo : Int)).natAbs ≤ 99375000000 := by
  have h1 := ledS_le (Bk.kind_ok hb.ok hz).steps (v := (n : Int)) hn
  have h2 : (b.share z).1 ≤ 15625 := Nat.le_trans (rateS_ok (Bk.tail_ok hb.ok hz)).1 (by decide)
  rw [Int.natAbs_mul, Int.natAbs_mul]
  have h1 : (b.value z n).natAbs ≤ 106000 := h1
  exact Nat.le_trans (Nat.mul_le_mul (Nat.mul_le_mul h1 h2) hl) (by decide)
section
variable {A B : Bk}
theorem PairOk.low_le (h : PairOk A B) (b : Bk) (z : Str) : (mkSts A B).low b z ≤ 60 := Nat.le_trans (Nat.div_le_self _ _) h.bot_le
theorem PairOk.weight_le (h : PairOk A B) {l : Ln} (hl : l ∈ (mkSts A B).lines) : l.2.2.2.natAbs ≤ 198750000000 := by
  rw [mk_lines] at hl
  obtain ⟨i, hi, hl⟩ := List.mem_flatMap.mp hl
  obtain ⟨n, hn, rfl⟩ := List.mem_map.mp hl
  have hi := List.mem_range.mp hi
  have hn := List.mem_range.mp hn
  have hz : A.names.getD i "" ∈ A.names := by
    rw [List.getD_eq_getElem?_getD, List.getElem?_eq_getElem hi]
    exact List.getElem_mem hi
  have := h.many _ hz
  have w := mk_weight A B (A.names.getD i "") n
  show ((mkSts A B).weight (A.names.getD i "") n).natAbs ≤ _
  rw [w, Int.one_mul, Int.neg_mul, Int.one_mul, Int.neg_mul, Int.neg_mul]
  have a := part_le h.fa hz (show n ≤ 400 by omega) (h.low_le A (A.names.getD i ""))
  have hzB : A.names.getD i "" ∈ B.names := by rw [← h.names]; exact hz
  have b := part_le h.fb hzB (show n ≤ 400 by omega) (h.low_le B (A.names.getD i ""))
  omega
theorem PairOk.most_le (h : PairOk A B) : (mkSts A B).most.natAbs ≤ 198750000000 := by
  obtain ⟨e, he, _, e1⟩ := h.grp.mv_of
  obtain ⟨l, hl, _, e2⟩ := (mkSts A B).best_from.2 e he
  rw [← e1, e2]; exact h.weight_le hl
theorem rowStep_le {m : List Int} {r : Int} {k : Nat} (h : 0 < m.length) (h2 : m.length ≤ 200) (hr : r.natAbs ≤ k) : (rowStep m r).natAbs ≤ k * 200 := by
  obtain ⟨p1, p2, _⟩ := partOf_ok (r := r) h
  unfold rowStep
  refine Nat.le_trans (Int.natAbs_ediv_le_natAbs _ _) ?_
  rw [Int.natAbs_mul]
  exact Nat.mul_le_mul hr (show partOf m r ≤ 200 by omega)
theorem PairOk.rows (h : PairOk A B) {N : Nat} (g : (mkSts A B).good N) : ((mkSts A B).row N).ok ∧ ((mkSts A B).row N).turn.ok := by
  obtain ⟨l1, l2, l3⟩ := row_len g
  obtain ⟨o1, o2⟩ := h.order_ok (mkSts A B).mv
  have ll : ((List.range ((mkSts A B).order (mkSts A B).mv)).map fun i => (mkSts A B).greatest ((mkSts A B).shifted ((mkSts A B).sums N) i)).length = (mkSts A B).order (mkSts A B).mv := by rw [List.length_map, List.length_range]
  have c200 : ((mkSts A B).row N).cycle.length ≤ 200 := by
    have q := (mkRow_len (l := (List.range N).map fun i => (mkSts A B).greatest ((mkSts A B).sums i)) (r := ((mkSts A B).order (mkSts A B).mv : Int) * (mkSts A B).most / ((mkSts A B).bottom : Int)) (m := (List.range ((mkSts A B).order (mkSts A B).mv)).map fun i => (mkSts A B).greatest ((mkSts A B).shifted ((mkSts A B).sums N) i)) (by rw [ll]; exact o1)).2.2
    rw [ll] at q
    exact Nat.le_trans q o2
  have rise : (((mkSts A B).order (mkSts A B).mv : Int) * (mkSts A B).most / ((mkSts A B).bottom : Int)).natAbs ≤ 200 * 198750000000 := by
    refine Nat.le_trans (Int.natAbs_ediv_le_natAbs _ _) ?_
    rw [Int.natAbs_mul]
    exact Nat.mul_le_mul o2 h.most_le
  have s1 : ((mkSts A B).row N).step.natAbs ≤ 200 * 198750000000 * 200 := rowStep_le (by rw [ll]; exact o1) (by rw [ll]; exact o2) rise
  have s2 : ((mkSts A B).row N).turn.step.natAbs ≤ 200 * 198750000000 * 200 * 200 := rowStep_le (m := ((mkSts A B).row N).cycle.map (- ·)) (by rw [List.length_map]; exact l2) (by rw [List.length_map]; exact c200) (by rw [Int.natAbs_neg]; exact s1)
  have t := mkRow_len (l := ((mkSts A B).row N).head.map (- ·)) (m := ((mkSts A B).row N).cycle.map (- ·)) (r := -((mkSts A B).row N).step) (by rw [List.length_map]; exact l2)
  rw [List.length_map, List.length_map] at t
  exact ⟨⟨l1, l2, l3, Nat.lt_of_le_of_lt s1 (by decide)⟩, ⟨Nat.le_trans t.1 l1, t.2.1, Nat.le_trans t.2.2 l3, Nat.lt_of_le_of_lt s2 (by decide)⟩⟩
end
theorem allFacts : AllFacts := fun A B c h hl c1 c2 => by
  have one := h.pair
  have dok : (A.dear c).ok := dear_ok one.fa.ok hl c1 c2
  have two : PairOk (A.dear c) B := one.dear dok
  obtain ⟨n1, g1⟩ := one.good
  obtain ⟨n2, g2⟩ := two.good
  obtain ⟨n3, g3⟩ := one.symm.good
  obtain ⟨n4, g4⟩ := two.symm.good
  have a1 := (kin_dear A c).alike (Kin.refl B)
  have a2 := (Kin.refl B).alike (kin_dear A c)
  have e1 := a1.turns g1 g2
  have e2 := a2.turns g3 g4
  subst e1 e2
  have w1 := a1.row g1
  have w2 := a2.row g3
  obtain ⟨r1, _⟩ := one.rows g1
  obtain ⟨r2, _⟩ := two.rows g2
  obtain ⟨r5, r3⟩ := one.symm.rows g3
  obtain ⟨r6, r4⟩ := two.symm.rows g4
  refine ⟨_, _, _, _, dok, one, two, g1, g2, g3, g4, r1, r2, r3, r4, r5, r6, fun k => ?_, fun k => ?_, fun k => ?_⟩
  · rw [w1, at_shift r1.some]; omega
  · rw [w2, turn_shift r5.some, at_shift r3.some]; omega
  · rw [w2, at_shift r5.some]; omega
end LC
end
namespace LC
theorem the_law : PySem.Challenge.rw_linecents_k38_whole_charges_shift_rows.Holds := fin_of (left_of allFacts _)
end LC
theorem PySem.Challenge.cw_linecents_k38_whole_charges_shift_rows_holds : PySem.Challenge.rw_linecents_k38_whole_charges_shift_rows.Holds := by
  exact LC.the_law
