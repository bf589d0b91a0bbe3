import PyProof.Rows.All
import Wide.All
import OpenK.AllK
import Wide.FinOn
import KE.KStateDown
import HandS.ForMost
import HandS.Defaults
import HandS.Head0
import HandS.Head1
import HandS.Head2
import HandS.HeadEnd
import HandS.HeadHook1
import HandS.HeadHook2
import PySem.Challenge.RW_gatetown_k52_whole_any_program
import HandS.IsInst
import HandS.NoneIn
import HandS.Rev
import HandS.Zip
import HandS.Evl
import PySem.Str
import HandS.More
import HandS.DeepEq
import PyProof.NeKinds
import HandS.DictComp
import Lean
import HandS.Base
import HandS.Call
import HandS.Ends
import HandS.Words
import HandS.WordsExc
set_option Elab.async false
set_option linter.all false
set_option maxRecDepth 100000
set_option maxHeartbeats 4000000
namespace GT
open PySem PySem.Spec PyProof.Rows L2
def top (i : Nat) : Stmt := PySem.Challenge.pw_gatetown_k52_whole_any_program.main.body.getD i (.Pass ⟨0, 0, 0, 0⟩)
abbrev s_signed : Stmt := top 4
abbrev s_item_of : Stmt := top 5
abbrev s_joined : Stmt := top 6
abbrev s_worth : Stmt := top 7
abbrev s_copied_cells : Stmt := top 8
abbrev s_numbered : Stmt := top 9
abbrev s_g_init : Stmt := inClass (top 10) 0
abbrev s_g_begin : Stmt := inClass (top 10) 1
abbrev s_g_next_given : Stmt := inClass (top 10) 2
abbrev s_do_put : Stmt := top 11
abbrev s_do_plain : Stmt := top 12
abbrev s_do_if : Stmt := top 13
abbrev s_do_while : Stmt := top 14
abbrev s_do_rows : Stmt := top 15
abbrev s_meant : Stmt := top 16
abbrev s_l_cell_at : Stmt := top 18
abbrev s_l_mixed : Stmt := top 19
abbrev s_l_stream : Stmt := top 20
abbrev s_l_take : Stmt := top 21
abbrev s_l_vars : Stmt := top 22
abbrev s_l_of_kind : Stmt := top 23
abbrev s_l_num : Stmt := top 24
abbrev s_l_flag : Stmt := top 25
abbrev s_l_plain : Stmt := top 26
abbrev s_l_rows : Stmt := top 27
abbrev s_l_close : Stmt := top 28
abbrev s_l_tree : Stmt := top 29
abbrev s_l_lay : Stmt := top 30
abbrev s_l_code : Stmt := top 31
abbrev s_l_parts_of : Stmt := top 32
abbrev s_l_op : Stmt := top 33
abbrev s_l_worth : Stmt := top 34
abbrev s_l_copy : Stmt := top 35
abbrev s_l_did : Stmt := top 36
abbrev s_l_due : Stmt := top 37
abbrev s_l_same : Stmt := top 38
abbrev s_l_given : Stmt := top 39
abbrev s_l_long_loops : Stmt := top 40
abbrev s_law : Stmt := top 41
abbrev FnP (K : PySem.W.Frag) (x q : Str) (st : Stmt) (f : Addr) (fd : FuncData) : Prop := FunD K x q (defArgs st) (defBody st) (defScope st) [] [] f fd
/-! ### the head's facts -/
def d_signed : He.DefD := ⟨("signed", none), "signed", "signed", defArgs s_signed, defBody s_signed, defScope s_signed, [], []⟩
def d_item_of : He.DefD := ⟨("item_of", none), "item_of", "item_of", defArgs s_item_of, defBody s_item_of, defScope s_item_of, [], []⟩
def d_joined : He.DefD := ⟨("joined", none), "joined", "joined", defArgs s_joined, defBody s_joined, defScope s_joined, [], []⟩
def d_worth : He.DefD := ⟨("worth", none), "worth", "worth", defArgs s_worth, defBody s_worth, defScope s_worth, [], []⟩
def d_copied_cells : He.DefD := ⟨("copied_cells", none), "copied_cells", "copied_cells", defArgs s_copied_cells, defBody s_copied_cells, defScope s_copied_cells, [], []⟩
def d_numbered : He.DefD := ⟨("numbered", none), "numbered", "numbered", defArgs s_numbered, defBody s_numbered, defScope s_numbered, [], []⟩
def d_g_init : He.DefD := ⟨("Going", some "__init__"), "__init__", "Going.__init__", defArgs s_g_init, defBody s_g_init, defScope s_g_init, [], []⟩
def d_g_begin : He.DefD := ⟨("Going", some "begin"), "begin", "Going.begin", defArgs s_g_begin, defBody s_g_begin, defScope s_g_begin, [], []⟩
def d_g_next_given : He.DefD := ⟨("Going", some "next_given"), "next_given", "Going.next_given", defArgs s_g_next_given, defBody s_g_next_given, defScope s_g_next_given, [], []⟩
def d_do_put : He.DefD := ⟨("do_put", none), "do_put", "do_put", defArgs s_do_put, defBody s_do_put, defScope s_do_put, [], []⟩
def d_do_plain : He.DefD := ⟨("do_plain", none), "do_plain", "do_plain", defArgs s_do_plain, defBody s_do_plain, defScope s_do_plain, [], []⟩
def d_do_if : He.DefD := ⟨("do_if", none), "do_if", "do_if", defArgs s_do_if, defBody s_do_if, defScope s_do_if, [], []⟩
def d_do_while : He.DefD := ⟨("do_while", none), "do_while", "do_while", defArgs s_do_while, defBody s_do_while, defScope s_do_while, [], []⟩
def d_do_rows : He.DefD := ⟨("do_rows", none), "do_rows", "do_rows", defArgs s_do_rows, defBody s_do_rows, defScope s_do_rows, [], []⟩
def d_meant : He.DefD := ⟨("meant", none), "meant", "meant", defArgs s_meant, defBody s_meant, defScope s_meant, [], []⟩
def d_l_cell_at : He.DefD := ⟨("_law_cell_at", none), "_law_cell_at", "_law_cell_at", defArgs s_l_cell_at, defBody s_l_cell_at, defScope s_l_cell_at, [], []⟩
def d_l_mixed : He.DefD := ⟨("_law_mixed", none), "_law_mixed", "_law_mixed", defArgs s_l_mixed, defBody s_l_mixed, defScope s_l_mixed, [], []⟩
def d_l_stream : He.DefD := ⟨("_law_stream", none), "_law_stream", "_law_stream", defArgs s_l_stream, defBody s_l_stream, defScope s_l_stream, [], []⟩
def d_l_take : He.DefD := ⟨("_law_take", none), "_law_take", "_law_take", defArgs s_l_take, defBody s_l_take, defScope s_l_take, [], []⟩
def d_l_vars : He.DefD := ⟨("_law_vars", none), "_law_vars", "_law_vars", defArgs s_l_vars, defBody s_l_vars, defScope s_l_vars, [], []⟩
def d_l_of_kind : He.DefD := ⟨("_law_of_kind", none), "_law_of_kind", "_law_of_kind", defArgs s_l_of_kind, defBody s_l_of_kind, defScope s_l_of_kind, [], []⟩
def d_l_num : He.DefD := ⟨("_law_num", none), "_law_num", "_law_num", defArgs s_l_num, defBody s_l_num, defScope s_l_num, [], []⟩
def d_l_flag : He.DefD := ⟨("_law_flag", none), "_law_flag", "_law_flag", defArgs s_l_flag, defBody s_l_flag, defScope s_l_flag, [], []⟩
def d_l_plain : He.DefD := ⟨("_law_plain", none), "_law_plain", "_law_plain", defArgs s_l_plain, defBody s_l_plain, defScope s_l_plain, [], []⟩
def d_l_rows : He.DefD := ⟨("_law_rows", none), "_law_rows", "_law_rows", defArgs s_l_rows, defBody s_l_rows, defScope s_l_rows, [], []⟩
def d_l_close : He.DefD := ⟨("_law_close", none), "_law_close", "_law_close", defArgs s_l_close, defBody s_l_close, defScope s_l_close, [], []⟩
def d_l_tree : He.DefD := ⟨("_law_tree", none), "_law_tree", "_law_tree", defArgs s_l_tree, defBody s_l_tree, defScope s_l_tree, [], []⟩
def d_l_lay : He.DefD := ⟨("_law_lay", none), "_law_lay", "_law_lay", defArgs s_l_lay, defBody s_l_lay, defScope s_l_lay, [], []⟩
def d_l_code : He.DefD := ⟨("_law_code", none), "_law_code", "_law_code", defArgs s_l_code, defBody s_l_code, defScope s_l_code, [], []⟩
def d_l_parts_of : He.DefD := ⟨("_law_parts_of", none), "_law_parts_of", "_law_parts_of", defArgs s_l_parts_of, defBody s_l_parts_of, defScope s_l_parts_of, [], []⟩
def d_l_op : He.DefD := ⟨("_law_op", none), "_law_op", "_law_op", defArgs s_l_op, defBody s_l_op, defScope s_l_op, [], []⟩
def d_l_worth : He.DefD := ⟨("_law_worth", none), "_law_worth", "_law_worth", defArgs s_l_worth, defBody s_l_worth, defScope s_l_worth, [], []⟩
def d_l_copy : He.DefD := ⟨("_law_copy", none), "_law_copy", "_law_copy", defArgs s_l_copy, defBody s_l_copy, defScope s_l_copy, [], []⟩
def d_l_did : He.DefD := ⟨("_law_did", none), "_law_did", "_law_did", defArgs s_l_did, defBody s_l_did, defScope s_l_did, [], []⟩
def d_l_due : He.DefD := ⟨("_law_due", none), "_law_due", "_law_due", defArgs s_l_due, defBody s_l_due, defScope s_l_due, [], []⟩
def d_l_same : He.DefD := ⟨("_law_same", none), "_law_same", "_law_same", defArgs s_l_same, defBody s_l_same, defScope s_l_same, [], []⟩
def d_l_given : He.DefD := ⟨("_law_given", none), "_law_given", "_law_given", defArgs s_l_given, defBody s_l_given, defScope s_l_given, [], []⟩
def d_l_long_loops : He.DefD := ⟨("_law_long_loops", none), "_law_long_loops", "_law_long_loops", defArgs s_l_long_loops, defBody s_l_long_loops, defScope s_l_long_loops, [], []⟩
def d_law : He.DefD := ⟨("law", none), "law", "law", defArgs s_law, defBody s_law, defScope s_law, [], []⟩
def fnA : List He.DefD := [d_signed, d_item_of, d_joined, d_worth, d_copied_cells, d_numbered, d_g_init, d_g_begin, d_g_next_given, d_do_put, d_do_plain, d_do_if, d_do_while, d_do_rows, d_meant, d_l_cell_at, d_l_mixed, d_l_stream, d_l_take, d_l_vars]
def fnB : List He.DefD := [d_l_of_kind, d_l_num, d_l_flag, d_l_plain, d_l_rows, d_l_close, d_l_tree, d_l_lay, d_l_code, d_l_parts_of, d_l_op, d_l_worth, d_l_copy, d_l_did, d_l_due, d_l_same, d_l_given, d_l_long_loops, d_law]
def fn : List He.DefD := fnA ++ fnB
def faA : List He.Fa := [.glo "signed", .glo "item_of", .glo "joined", .glo "worth", .glo "copied_cells", .glo "numbered", .glo "do_put", .glo "do_plain", .glo "do_if", .glo "do_while", .glo "do_rows", .glo "meant", .glo "_law_cell_at", .glo "_law_mixed", .glo "_law_stream", .glo "_law_take", .glo "_law_vars", .glo "_law_of_kind", .glo "_law_num", .glo "_law_flag"]
def faB : List He.Fa := [.glo "_law_plain", .glo "_law_rows", .glo "_law_close", .glo "_law_tree", .glo "_law_lay", .glo "_law_code", .glo "_law_parts_of", .glo "_law_op", .glo "_law_worth", .glo "_law_copy", .glo "_law_did", .glo "_law_due", .glo "_law_same", .glo "_law_given", .glo "_law_long_loops", .glo "law", .glo "Going"]
def faC : List He.Fa := [.free "len", .free "int", .free "isinstance", .free "list", .free "reversed", .free "abs", .free "sum", .free "range", .free "sorted", .free "all", .free "zip", .free "dict", .free "str", .free "tuple", .free "bool"]
def faD : List He.Fa := [.int "ROUND" 65536, .int "HALF" 32768, .int "LACKING" 65535, .cls "Going", .noat "Going" "cells", .noat "Going" "told", .noat "Going" "left", .noat "Going" "most", .noat "Going" "steps", .noat "Going" "parts", .noat "Going" "main", .meth "Going" "begin", .meth "Going" "next_given", .mkr "Going"]
def fa : List He.Fa := faA ++ faB ++ faC ++ faD
def nmA : List Str := ["ROUND", "HALF", "LACKING", "signed", "item_of", "joined", "worth", "copied_cells", "numbered", "do_put", "do_plain", "do_if", "do_while", "do_rows", "meant", "_law_cell_at", "_law_mixed", "_law_stream", "_law_take", "_law_vars"]
def nmB : List Str := ["_law_of_kind", "_law_num", "_law_flag", "_law_plain", "_law_rows", "_law_close", "_law_tree", "_law_lay", "_law_code", "_law_parts_of", "_law_op", "_law_worth", "_law_copy", "_law_did", "_law_due", "_law_same", "_law_given", "_law_long_loops", "Going"]
def loose : List Str := nmA ++ nmB
/-! ### what the walks ask of the top -/
/-- a def of the text, behind the top -/
structure Df (K : PySem.W.Frag) (mg : Str → Option Value) (x : Str) (st : Stmt) : Prop where
  ex : ∃ f fd, FnP K x x st f fd ∧ mg x = some (.ref f)
/-- a method -/
structure Dm (K : PySem.W.Frag) (C : Addr) (m q : Str) (st : Stmt) : Prop where
  ex : ∃ f fd, FnP K m q st f fd ∧ Meth K C m f
structure Di (K : PySem.W.Frag) (C : Addr) (q : Str) (st : Stmt) : Prop where
  ex : ∃ f fd, FnP K "__init__" q st f fd ∧ Mk K C f
structure Top (K : PySem.W.Frag) (mg : Str → Option Value) (C : Addr) : Prop where
  len_ : mg "len" = none
  int_ : mg "int" = none
  isinstance_ : mg "isinstance" = none
  list_ : mg "list" = none
  reversed_ : mg "reversed" = none
  abs_ : mg "abs" = none
  sum_ : mg "sum" = none
  range_ : mg "range" = none
  sorted_ : mg "sorted" = none
  all_ : mg "all" = none
  zip_ : mg "zip" = none
  dict_ : mg "dict" = none
  str_ : mg "str" = none
  tuple_ : mg "tuple" = none
  bool_ : mg "bool" = none
  ROUND_ : ∃ t, mg "ROUND" = some (.int 65536 t)
  HALF_ : ∃ t, mg "HALF" = some (.int 32768 t)
  LACKING_ : ∃ t, mg "LACKING" = some (.int 65535 t)
  going : mg "Going" = some (.ref C)
  cls : Cls K C
  n_cells : NoAttr K C "cells"
  n_told : NoAttr K C "told"
  n_left : NoAttr K C "left"
  n_most : NoAttr K C "most"
  n_steps : NoAttr K C "steps"
  n_parts : NoAttr K C "parts"
  n_main : NoAttr K C "main"
  d_g_begin : Dm K C "begin" "Going.begin" s_g_begin
  d_g_next_given : Dm K C "next_given" "Going.next_given" s_g_next_given
  d_g_init : Di K C "Going.__init__" s_g_init
  d_signed : Df K mg "signed" s_signed
  d_item_of : Df K mg "item_of" s_item_of
  d_joined : Df K mg "joined" s_joined
  d_worth : Df K mg "worth" s_worth
  d_copied_cells : Df K mg "copied_cells" s_copied_cells
  d_numbered : Df K mg "numbered" s_numbered
  d_do_put : Df K mg "do_put" s_do_put
  d_do_plain : Df K mg "do_plain" s_do_plain
  d_do_if : Df K mg "do_if" s_do_if
  d_do_while : Df K mg "do_while" s_do_while
  d_do_rows : Df K mg "do_rows" s_do_rows
  d_meant : Df K mg "meant" s_meant
  d_l_cell_at : Df K mg "_law_cell_at" s_l_cell_at
  d_l_mixed : Df K mg "_law_mixed" s_l_mixed
  d_l_stream : Df K mg "_law_stream" s_l_stream
  d_l_take : Df K mg "_law_take" s_l_take
  d_l_vars : Df K mg "_law_vars" s_l_vars
  d_l_of_kind : Df K mg "_law_of_kind" s_l_of_kind
  d_l_num : Df K mg "_law_num" s_l_num
  d_l_flag : Df K mg "_law_flag" s_l_flag
  d_l_plain : Df K mg "_law_plain" s_l_plain
  d_l_rows : Df K mg "_law_rows" s_l_rows
  d_l_close : Df K mg "_law_close" s_l_close
  d_l_tree : Df K mg "_law_tree" s_l_tree
  d_l_lay : Df K mg "_law_lay" s_l_lay
  d_l_code : Df K mg "_law_code" s_l_code
  d_l_parts_of : Df K mg "_law_parts_of" s_l_parts_of
  d_l_op : Df K mg "_law_op" s_l_op
  d_l_worth : Df K mg "_law_worth" s_l_worth
  d_l_copy : Df K mg "_law_copy" s_l_copy
  d_l_did : Df K mg "_law_did" s_l_did
  d_l_due : Df K mg "_law_due" s_l_due
  d_l_same : Df K mg "_law_same" s_l_same
  d_l_given : Df K mg "_law_given" s_l_given
  d_l_long_loops : Df K mg "_law_long_loops" s_l_long_loops
  d_law : Df K mg "law" s_law
theorem top_of {K : PySem.W.Frag} {h : Heap} {mg : Str → Option Value} (X : K.In h) (G : h.Ns mainGlobals mg) (c : He.SaysD fa fn K) : Top K mg (He.ga K "Going") where
  len_ := He.free_ok X G (c.fact 37 (f := .free "len") rfl)
  int_ := He.free_ok X G (c.fact 38 (f := .free "int") rfl)
  isinstance_ := He.free_ok X G (c.fact 39 (f := .free "isinstance") rfl)
  list_ := He.free_ok X G (c.fact 40 (f := .free "list") rfl)
  reversed_ := He.free_ok X G (c.fact 41 (f := .free "reversed") rfl)
  abs_ := He.free_ok X G (c.fact 42 (f := .free "abs") rfl)
  sum_ := He.free_ok X G (c.fact 43 (f := .free "sum") rfl)
  range_ := He.free_ok X G (c.fact 44 (f := .free "range") rfl)
  sorted_ := He.free_ok X G (c.fact 45 (f := .free "sorted") rfl)
  all_ := He.free_ok X G (c.fact 46 (f := .free "all") rfl)
  zip_ := He.free_ok X G (c.fact 47 (f := .free "zip") rfl)
  dict_ := He.free_ok X G (c.fact 48 (f := .free "dict") rfl)
  str_ := He.free_ok X G (c.fact 49 (f := .free "str") rfl)
  tuple_ := He.free_ok X G (c.fact 50 (f := .free "tuple") rfl)
  bool_ := He.free_ok X G (c.fact 51 (f := .free "bool") rfl)
  ROUND_ := He.int_ok X G (c.fact 52 (f := .int "ROUND" 65536) rfl)
  HALF_ := He.int_ok X G (c.fact 53 (f := .int "HALF" 32768) rfl)
  LACKING_ := He.int_ok X G (c.fact 54 (f := .int "LACKING" 65535) rfl)
  going := He.glo_ok X G (c.fact 36 (f := .glo "Going") rfl)
  cls := He.cls_ok (c.fact 55 (f := .cls "Going") rfl)
  n_cells := He.noat_ok (c.fact 56 (f := .noat "Going" "cells") rfl)
  n_told := He.noat_ok (c.fact 57 (f := .noat "Going" "told") rfl)
  n_left := He.noat_ok (c.fact 58 (f := .noat "Going" "left") rfl)
  n_most := He.noat_ok (c.fact 59 (f := .noat "Going" "most") rfl)
  n_steps := He.noat_ok (c.fact 60 (f := .noat "Going" "steps") rfl)
  n_parts := He.noat_ok (c.fact 61 (f := .noat "Going" "parts") rfl)
  n_main := He.noat_ok (c.fact 62 (f := .noat "Going" "main") rfl)
  d_g_begin := ⟨let ⟨fd, F⟩ := c.def_ 7 (d := d_g_begin) rfl; ⟨_, fd, F, He.meth_ok (c.fact 63 (f := .meth "Going" "begin") rfl)⟩⟩
  d_g_next_given := ⟨let ⟨fd, F⟩ := c.def_ 8 (d := d_g_next_given) rfl; ⟨_, fd, F, He.meth_ok (c.fact 64 (f := .meth "Going" "next_given") rfl)⟩⟩
  d_g_init := ⟨let ⟨fd, F⟩ := c.def_ 6 (d := d_g_init) rfl; ⟨_, fd, F, He.mkr_ok (c.fact 65 (f := .mkr "Going") rfl)⟩⟩
  d_signed := ⟨let ⟨fd, F⟩ := c.def_ 0 (d := d_signed) rfl; ⟨_, fd, F, He.glo_ok X G (c.fact 0 (f := .glo "signed") rfl)⟩⟩
  d_item_of := ⟨let ⟨fd, F⟩ := c.def_ 1 (d := d_item_of) rfl; ⟨_, fd, F, He.glo_ok X G (c.fact 1 (f := .glo "item_of") rfl)⟩⟩
  d_joined := ⟨let ⟨fd, F⟩ := c.def_ 2 (d := d_joined) rfl; ⟨_, fd, F, He.glo_ok X G (c.fact 2 (f := .glo "joined") rfl)⟩⟩
  d_worth := ⟨let ⟨fd, F⟩ := c.def_ 3 (d := d_worth) rfl; ⟨_, fd, F, He.glo_ok X G (c.fact 3 (f := .glo "worth") rfl)⟩⟩
  d_copied_cells := ⟨let ⟨fd, F⟩ := c.def_ 4 (d := d_copied_cells) rfl; ⟨_, fd, F, He.glo_ok X G (c.fact 4 (f := .glo "copied_cells") rfl)⟩⟩
  d_numbered := ⟨let ⟨fd, F⟩ := c.def_ 5 (d := d_numbered) rfl; ⟨_, fd, F, He.glo_ok X G (c.fact 5 (f := .glo "numbered") rfl)⟩⟩
  d_do_put := ⟨let ⟨fd, F⟩ := c.def_ 9 (d := d_do_put) rfl; ⟨_, fd, F, He.glo_ok X G (c.fact 6 (f := .glo "do_put") rfl)⟩⟩
  d_do_plain := ⟨let ⟨fd, F⟩ := c.def_ 10 (d := d_do_plain) rfl; ⟨_, fd, F, He.glo_ok X G (c.fact 7 (f := .glo "do_plain") rfl)⟩⟩
  d_do_if := ⟨let ⟨fd, F⟩ := c.def_ 11 (d := d_do_if) rfl; ⟨_, fd, F, He.glo_ok X G (c.fact 8 (f := .glo "do_if") rfl)⟩⟩
  d_do_while := ⟨let ⟨fd, F⟩ := c.def_ 12 (d := d_do_while) rfl; ⟨_, fd, F, He.glo_ok X G (c.fact 9 (f := .glo "do_while") rfl)⟩⟩
  d_do_rows := ⟨let ⟨fd, F⟩ := c.def_ 13 (d := d_do_rows) rfl; ⟨_, fd, F, He.glo_ok X G (c.fact 10 (f := .glo "do_rows") rfl)⟩⟩
  d_meant := ⟨let ⟨fd, F⟩ := c.def_ 14 (d := d_meant) rfl; ⟨_, fd, F, He.glo_ok X G (c.fact 11 (f := .glo "meant") rfl)⟩⟩
  d_l_cell_at := ⟨let ⟨fd, F⟩ := c.def_ 15 (d := d_l_cell_at) rfl; ⟨_, fd, F, He.glo_ok X G (c.fact 12 (f := .glo "_law_cell_at") rfl)⟩⟩
  d_l_mixed := ⟨let ⟨fd, F⟩ := c.def_ 16 (d := d_l_mixed) rfl; ⟨_, fd, F, He.glo_ok X G (c.fact 13 (f := .glo "_law_mixed") rfl)⟩⟩
  d_l_stream := ⟨let ⟨fd, F⟩ := c.def_ 17 (d := d_l_stream) rfl; ⟨_, fd, F, He.glo_ok X G (c.fact 14 (f := .glo "_law_stream") rfl)⟩⟩
  d_l_take := ⟨let ⟨fd, F⟩ := c.def_ 18 (d := d_l_take) rfl; ⟨_, fd, F, He.glo_ok X G (c.fact 15 (f := .glo "_law_take") rfl)⟩⟩
  d_l_vars := ⟨let ⟨fd, F⟩ := c.def_ 19 (d := d_l_vars) rfl; ⟨_, fd, F, He.glo_ok X G (c.fact 16 (f := .glo "_law_vars") rfl)⟩⟩
  d_l_of_kind := ⟨let ⟨fd, F⟩ := c.def_ 20 (d := d_l_of_kind) rfl; ⟨_, fd, F, He.glo_ok X G (c.fact 17 (f := .glo "_law_of_kind") rfl)⟩⟩
  d_l_num := ⟨let ⟨fd, F⟩ := c.def_ 21 (d := d_l_num) rfl; ⟨_, fd, F, He.glo_ok X G (c.fact 18 (f := .glo "_law_num") rfl)⟩⟩
  d_l_flag := ⟨let ⟨fd, F⟩ := c.def_ 22 (d := d_l_flag) rfl; ⟨_, fd, F, He.glo_ok X G (c.fact 19 (f := .glo "_law_flag") rfl)⟩⟩
  d_l_plain := ⟨let ⟨fd, F⟩ := c.def_ 23 (d := d_l_plain) rfl; ⟨_, fd, F, He.glo_ok X G (c.fact 20 (f := .glo "_law_plain") rfl)⟩⟩
  d_l_rows := ⟨let ⟨fd, F⟩ := c.def_ 24 (d := d_l_rows) rfl; ⟨_, fd, F, He.glo_ok X G (c.fact 21 (f := .glo "_law_rows") rfl)⟩⟩
  d_l_close := ⟨let ⟨fd, F⟩ := c.def_ 25 (d := d_l_close) rfl; ⟨_, fd, F, He.glo_ok X G (c.fact 22 (f := .glo "_law_close") rfl)⟩⟩
  d_l_tree := ⟨let ⟨fd, F⟩ := c.def_ 26 (d := d_l_tree) rfl; ⟨_, fd, F, He.glo_ok X G (c.fact 23 (f := .glo "_law_tree") rfl)⟩⟩
  d_l_lay := ⟨let ⟨fd, F⟩ := c.def_ 27 (d := d_l_lay) rfl; ⟨_, fd, F, He.glo_ok X G (c.fact 24 (f := .glo "_law_lay") rfl)⟩⟩
  d_l_code := ⟨let ⟨fd, F⟩ := c.def_ 28 (d := d_l_code) rfl; ⟨_, fd, F, He.glo_ok X G (c.fact 25 (f := .glo "_law_code") rfl)⟩⟩
  d_l_parts_of := ⟨let ⟨fd, F⟩ := c.def_ 29 (d := d_l_parts_of) rfl; ⟨_, fd, F, He.glo_ok X G (c.fact 26 (f := .glo "_law_parts_of") rfl)⟩⟩
  d_l_op := ⟨let ⟨fd, F⟩ := c.def_ 30 (d := d_l_op) rfl; ⟨_, fd, F, He.glo_ok X G (c.fact 27 (f := .glo "_law_op") rfl)⟩⟩
  d_l_worth := ⟨let ⟨fd, F⟩ := c.def_ 31 (d := d_l_worth) rfl; ⟨_, fd, F, He.glo_ok X G (c.fact 28 (f := .glo "_law_worth") rfl)⟩⟩
  d_l_copy := ⟨let ⟨fd, F⟩ := c.def_ 32 (d := d_l_copy) rfl; ⟨_, fd, F, He.glo_ok X G (c.fact 29 (f := .glo "_law_copy") rfl)⟩⟩
  d_l_did := ⟨let ⟨fd, F⟩ := c.def_ 33 (d := d_l_did) rfl; ⟨_, fd, F, He.glo_ok X G (c.fact 30 (f := .glo "_law_did") rfl)⟩⟩
  d_l_due := ⟨let ⟨fd, F⟩ := c.def_ 34 (d := d_l_due) rfl; ⟨_, fd, F, He.glo_ok X G (c.fact 31 (f := .glo "_law_due") rfl)⟩⟩
  d_l_same := ⟨let ⟨fd, F⟩ := c.def_ 35 (d := d_l_same) rfl; ⟨_, fd, F, He.glo_ok X G (c.fact 32 (f := .glo "_law_same") rfl)⟩⟩
  d_l_given := ⟨let ⟨fd, F⟩ := c.def_ 36 (d := d_l_given) rfl; ⟨_, fd, F, He.glo_ok X G (c.fact 33 (f := .glo "_law_given") rfl)⟩⟩
  d_l_long_loops := ⟨let ⟨fd, F⟩ := c.def_ 37 (d := d_l_long_loops) rfl; ⟨_, fd, F, He.glo_ok X G (c.fact 34 (f := .glo "_law_long_loops") rfl)⟩⟩
  d_law := ⟨let ⟨fd, F⟩ := c.def_ 38 (d := d_law) rfl; ⟨_, fd, F, He.glo_ok X G (c.fact 35 (f := .glo "law") rfl)⟩⟩
end GT
/-! The base of the walks: a def that keeps its promise, by its name (Cal); heaps. -/
namespace GT
open PySem PySem.Spec PyProof.Rows L2
structure Cal (P : Program) (w : World) (K : PySem.W.Frag) (mg : Str → Option Value) (base : Heap) (x : Str) (ps : List Str) (k : Nat) (sp : Sp) : Prop where
  ex : ∃ f fd, FnOk P w K mg base CX0 k f fd ps sp ∧ PySem.W.keepIn K (.ref f) = true ∧ Binds K fd ps [] ∧ mg x = some (.ref f)
structure CalM (P : Program) (w : World) (K : PySem.W.Frag) (mg : Str → Option Value) (base : Heap) (C : Addr) (m : Str) (ps : List Str) (k : Nat) (sp : Sp) : Prop where
  ex : ∃ f fd, FnOk P w K mg base CX0 k f fd ps sp ∧ Binds K fd ps [] ∧ Meth K C m f
structure CalI (P : Program) (w : World) (K : PySem.W.Frag) (mg : Str → Option Value) (base : Heap) (C : Addr) (ps : List Str) (k : Nat) (sp : Sp) : Prop where
  ex : ∃ f fd, FnOk P w K mg base CX0 k f fd ps sp ∧ Binds K fd ps [] ∧ Mk K C f
section
variable {P : Program} {w : World} {K : PySem.W.Frag} {mg : Str → Option Value} {base : Heap} {x : Str} {ps : List Str} {j k : Nat} {sp sp' : Sp} {C : Addr} {m : Str}
theorem Cal.mono (c : Cal P w K mg base x ps j sp) (h : j ≤ k) : Cal P w K mg base x ps k sp := let ⟨f, fd, F, r⟩ := c.ex; ⟨f, fd, F.mono h, r⟩
theorem CalM.mono (c : CalM P w K mg base C m ps j sp) (h : j ≤ k) : CalM P w K mg base C m ps k sp := let ⟨f, fd, F, r⟩ := c.ex; ⟨f, fd, F.mono h, r⟩
theorem CalI.mono (c : CalI P w K mg base C ps j sp) (h : j ≤ k) : CalI P w K mg base C ps k sp := let ⟨f, fd, F, r⟩ := c.ex; ⟨f, fd, F.mono h, r⟩
abbrev BindW (x q : Str) (st : Stmt) (ps : List Str) : Prop := ∀ (kV doc pm : Value) (an : Option Addr) (cdv ct : Value) (us : List Value), us.length = ps.length →
  bindArgs (PySem.W.fnOf x q (defArgs st) (defBody st) (defScope st) .none kV doc pm an cdv ct) ⟨us, []⟩ = pure (ps.zip us)
abbrev BodyOk (P : Program) (w : World) (K : PySem.W.Frag) (mg : Str → Option Value) (base : Heap) (N : List Str) (q : Str) (st : Stmt) (f : Addr) (k : Nat) (sp : Sp) : Prop :=
  ∀ (cdv : Value) (A : Around) (outer : List Env) (s : Shared) (H : Hp) (vs : List V) (Q : VK) (E : XK), Room k (A.deeper (envOfC q (defScope st) s.heap.objs.size f cdv)) → sp vs H Q E →
      ∃ t, PSs (cxOf CX0 P w K mg base N q (defScope st) f cdv A outer s H E).nox (defBody st) t ∧ t { nx := fun _ H' => Q .non H', rt := Q } (start N vs) H
theorem Df.ok {st : Stmt} {N : List Str} (D : Df K mg x st) (S : FnScope N ps (defScope st)) (hb : BindW x x st ps) (len : ∀ vs H Q E, sp vs H Q E → vs.length = ps.length)
    (hbody : ∀ f : Addr, BodyOk P w K mg base N x st f k sp) : Cal P w K mg base x ps (k + 1) sp := by
  obtain ⟨f, fd, F, hm⟩ := D.ex
  refine ⟨f, fd, FunD.ok F S len (fun cdv A outer s H vs Q E hr hsp => ?_), F.kp, F.bindsN hb, hm⟩
  obtain ⟨t, h, q⟩ := hbody f cdv A outer s H vs Q E hr hsp
  exact ⟨t, h.nox, q⟩
theorem Dm.ok {st : Stmt} {N : List Str} {q : Str} (D : Dm K C m q st) (S : FnScope N ps (defScope st)) (hb : BindW m q st ps) (len : ∀ vs H Q E, sp vs H Q E → vs.length = ps.length)
    (hbody : ∀ f : Addr, BodyOk P w K mg base N q st f k sp) : CalM P w K mg base C m ps (k + 1) sp := by
  obtain ⟨f, fd, F, hm⟩ := D.ex
  refine ⟨f, fd, FunD.ok F S len (fun cdv A outer s H vs Q E hr hsp => ?_), F.bindsN hb, hm⟩
  obtain ⟨t, h, q⟩ := hbody f cdv A outer s H vs Q E hr hsp
  exact ⟨t, h.nox, q⟩
theorem Di.ok {st : Stmt} {N : List Str} {q : Str} (D : Di K C q st) (S : FnScope N ps (defScope st)) (hb : BindW "__init__" q st ps) (len : ∀ vs H Q E, sp vs H Q E → vs.length = ps.length)
    (hbody : ∀ f : Addr, BodyOk P w K mg base N q st f k sp) : CalI P w K mg base C ps (k + 1) sp := by
  obtain ⟨f, fd, F, hm⟩ := D.ex
  refine ⟨f, fd, FunD.ok F S len (fun cdv A outer s H vs Q E hr hsp => ?_), F.bindsN hb, hm⟩
  obtain ⟨t, h, q⟩ := hbody f cdv A outer s H vs Q E hr hsp
  exact ⟨t, h.nox, q⟩
/-- a promise that nobody can ask -/
theorem Df.no {st : Stmt} (D : Df K mg x st) (hb : BindW x x st ps) (no : ∀ vs H Q E, ¬ sp vs H Q E) : Cal P w K mg base x ps k sp := by
  obtain ⟨f, fd, F, hm⟩ := D.ex
  exact ⟨f, fd, ⟨fun vs H Q E h => absurd h (no vs H Q E), fun A outer s H args us vs Q E _ _ _ _ h => absurd h (no vs H Q E)⟩, F.kp, F.bindsN hb, hm⟩
theorem Cal.imp (c : Cal P w K mg base x ps k sp) (h : ∀ vs H Q E, sp' vs H Q E → sp vs H Q E) : Cal P w K mg base x ps k sp' := by
  obtain ⟨f, fd, F, r⟩ := c.ex
  exact ⟨f, fd, F.imp h, r⟩
end
section
variable {X : Cx} {x : Str} {ps : List Str} {k : Nat} {sp : Sp} {e : Expr} {es : List Expr} {t : TA} {p pos : Pos} {C : Addr} {m : Str} {o : Expr} {ta : TE} {apos : Pos}
theorem pe_cl (c : Cal X.prog X.w X.K X.mg X.base x ps k sp) (hr : Room k X.A) (hg : Gl X x) (ha : PA X (e :: es) t) (hdb : (x == ("__debug__" : Str)) = false := by decide) (he : starEach (e :: es) X.env = (false, eval e X.env) :: starEach es X.env := by rfl)
    (hpl : (backTo pos (starEach es X.env)).any (·.1) = false := by rfl) : PE X (.Call (.Name x p) (e :: es) [] pos) (tCall sp [] E0 t) := by
  obtain ⟨f, fd, F, kp, b, hm⟩ := c.ex
  exact pe_call F hr hg hm kp b .nil pass0 ha hdb he hpl
theorem pe_ml {pl : Sem Bool} (he : PE X o ta) (cl : Cls X.K C) (c : CalM X.prog X.w X.K X.mg X.base C m ps k sp) (hr : Room k X.A) (ha : PA X (e :: es) t)
    (hst : starEach (e :: es) X.env = (false, eval e X.env) :: starEach es X.env := by rfl) (hpl : (backTo pos (starEach es X.env)).any (·.1) = false := by rfl)
    (ht : eval (.Call (.Attribute o m apos) (e :: es) [] pos) X.env = (do
      let ov ← eval o X.env
      standAt apos.atName
      let (f, first) ← holding [ov] (getMethod ov m pl)
      callWith pos f first (backTo pos (starEach (e :: es) X.env)) (backToKw pos (keywordEach [] X.env))) := by rfl) :
    PE X (.Call (.Attribute o m apos) (e :: es) [] pos) (tMeth C m sp [] E0 ta t) := by
  obtain ⟨f, fd, F, b, M⟩ := c.ex
  exact pe_meth he cl M F hr b .nil pass0 ha hst hpl ht
theorem pe_ml0 {pl : Sem Bool} (he : PE X o ta) (cl : Cls X.K C) (c : CalM X.prog X.w X.K X.mg X.base C m ps k sp) (hr : Room k X.A)
    (ht : eval (.Call (.Attribute o m apos) [] [] pos) X.env = (do
      let ov ← eval o X.env
      standAt apos.atName
      let (f, first) ← holding [ov] (getMethod ov m pl)
      callWith pos f first [] (backToKw pos (keywordEach [] X.env))) := by rfl) :
    PE X (.Call (.Attribute o m apos) [] [] pos) (tMeth C m sp [] E0 ta tNil) := by
  obtain ⟨f, fd, F, b, M⟩ := c.ex
  exact pe_meth0 he cl M F hr b .nil pass0 ht
theorem pe_mk (c : CalI X.prog X.w X.K X.mg X.base C ps k sp) (hr : Room (k + 1) X.A) (hg : Gl X x) (hm : X.mg x = some (.ref C)) (ha : PA X (e :: es) t) (hdb : (x == ("__debug__" : Str)) = false := by decide)
    (he : starEach (e :: es) X.env = (false, eval e X.env) :: starEach es X.env := by rfl) (hpl : (backTo pos (starEach es X.env)).any (·.1) = false := by rfl) : PE X (.Call (.Name x p) (e :: es) [] pos) (tMake C sp [] E0 t) := by
  obtain ⟨f, fd, F, b, M⟩ := c.ex
  exact pe_make M F hr hg hm b .nil pass0 ha hdb he hpl
end
theorem ixTk {X : Cx} {K : PySem.W.Frag} (h : X.K = K) : IxR X (rIxT K) := by rw [← h]; exact ix_tup
theorem ixLk {X : Cx} {K : PySem.W.Frag} (h : X.K = K) : IxR X (rIxL K) := by rw [← h]; exact ix_list
/-! ### heaps -/
theorem same_new {H : Hp} {p : Addr} (h : H p = none) (o : HO) : Same H (upd H p o) := fun b u q => by rw [upd_ne (ne_of_none q h)]; exact q
theorem same_upd {H H' : Hp} {p : Addr} (e : Same H H') (h : H p = none) (o : HO) : Same H (upd H' p o) := fun b u q => by rw [upd_ne (ne_of_none q h)]; exact e b u q
/-- all but what stands in M is as it was -/
def But (M : List Addr) (H H' : Hp) : Prop := ∀ b o, ¬ b ∈ M → H b = some o → H' b = some o
theorem But.refl (M : List Addr) (H : Hp) : But M H H := fun _ _ _ h => h
theorem But.trans {M : List Addr} {H H1 H2 : Hp} (a : But M H H1) (b : But M H1 H2) : But M H H2 := fun c o n h => b c o n (a c o n h)
theorem But.of_same {M : List Addr} {H H' : Hp} (h : Same H H') : But M H H' := fun b o _ q => h b o q
theorem But.put {M : List Addr} {H H' : Hp} {p : Addr} (e : But M H H') (h : p ∈ M) (o : HO) : But M H (L2.upd H' p o) := fun b u n q => by
  have n2 : b ≠ p := fun z => n (by rw [z]; exact h)
  rw [upd_ne n2]; exact e b u n q
theorem But.new {M : List Addr} {H H' : Hp} {p : Addr} (e : But M H H') (h : H p = none) (o : HO) : But M H (L2.upd H' p o) := fun b u n q => by
  rw [upd_ne (ne_of_none q h)]; exact e b u n q
theorem But.same {M : List Addr} {H H' : Hp} (e : But M H H') (h : ∀ m ∈ M, H m = none) : Same H H' := fun b o q => e b o (fun z => by rw [h b z] at q; cases q) q
theorem But.mono {M M' : List Addr} {H H' : Hp} (e : But M H H') (h : ∀ m ∈ M, m ∈ M') : But M' H H' := fun b o n q => e b o (fun z => n (h b z)) q
/-- the heap without what stands in M -/
def Wo (M : List Addr) (H : Hp) : Hp := fun b => if b ∈ M then none else H b
theorem wo_in {M : List Addr} {H : Hp} {b : Addr} (h : b ∈ M) : Wo M H b = none := if_pos h
theorem wo_out {M : List Addr} {H : Hp} {b : Addr} (h : ¬ b ∈ M) : Wo M H b = H b := if_neg h
theorem wo_sub {M : List Addr} {H : Hp} : Same (Wo M H) H := fun b o q => by
  unfold Wo at q
  split at q
  · cases q
  · exact q
theorem But.wo {M : List Addr} {H H' : Hp} (e : But M H H') : Same (Wo M H) (Wo M H') := fun b o q => by
  unfold Wo at q ⊢
  split at q
  · cases q
  · rename_i n
    rw [if_neg n]
    exact e b o n q
theorem wo_less {M M' : List Addr} {H : Hp} (h : ∀ m ∈ M', m ∈ M) : Same (Wo M H) (Wo M' H) := fun b o q => by
  unfold Wo at q ⊢
  split at q
  · cases q
  · rename_i n
    rw [if_neg fun z => n (h b z)]
    exact q
theorem Same.wo {M : List Addr} {H H' : Hp} (e : Same H H') : Same (Wo M H) (Wo M H') := (But.of_same e).wo
theorem wo_at {M : List Addr} {H : Hp} {b : Addr} {o : HO} (h : H b = some o) (n : ¬ b ∈ M) : Wo M H b = some o := (wo_out n).trans h
theorem but1 {H H' : Hp} {x b : Addr} {o : HO} (h : But [x] H H') (n : b ≠ x) (e : H b = some o) : H' b = some o := h b o (fun z => n (List.mem_singleton.mp z)) e
theorem free1 {H H' : Hp} {x b : Addr} (h : But [x] H H') (n : b ≠ x) (e : H' b = none) : H b = none := by
  cases q : H b with
  | none => rfl
  | some o => rw [but1 h n q] at e; cases e
/-! ### tests -/
theorem ifD {c : Prop} [Decidable c] {A B : Prop} (h1 : c → A) (h2 : ¬ c → B) : if decide c = true then A else B := by
  by_cases h : c
  · rw [if_pos (decide_eq_true h)]; exact h1 h
  · rw [if_neg (by rw [decide_eq_false h]; exact Bool.false_ne_true)]; exact h2 h
theorem ifDT {c : Prop} [Decidable c] {A B : Prop} (hc : c) (h1 : A) : if decide c = true then A else B := by
  rw [if_pos (decide_eq_true hc)]; exact h1
theorem ifDF {c : Prop} [Decidable c] {A B : Prop} (hc : ¬ c) (h2 : B) : if decide c = true then A else B := by
  rw [if_neg (by rw [decide_eq_false hc]; exact Bool.false_ne_true)]; exact h2
theorem ifB {b : Bool} {A B : Prop} (h1 : b = true → A) (h2 : b = false → B) : if b = true then A else B := by
  cases b with
  | true => exact h1 rfl
  | false => exact h2 rfl
theorem ifND {c : Prop} [Decidable c] {A B : Prop} (h1 : ¬ c → A) (h2 : c → B) : if (!decide c) = true then A else B := by
  by_cases h : c
  · rw [decide_eq_true h]; exact h2 h
  · rw [decide_eq_false h]; exact h1 h
theorem str_ne {a b : Str} (h : a ≠ b) : ¬ V.str a = V.str b := fun z => h (V.str.inj z)
theorem str_eq {a : Str} : V.str a = V.str a := rfl
theorem int_ne {a b : Int} (h : a ≠ b) : ¬ V.int a = V.int b := fun z => h (V.int.inj z)
end GT
/-! The mathematics, no program in sight: trees, what expressions are worth, the statements' relation Run, the law's row of places (Halts), and that they agree. -/
namespace GT
abbrev Nm := PySem.Str
inductive Op where | add | sub | and | lt | eq
inductive Ex where
  | num (n : Int)
  | flag (b : Bool)
  | name (x : Nm)
  | item (x : Nm) (e : Ex)
  | op (o : Op) (a b : Ex)
  | neg (e : Ex)
inductive Cell where
  | one (n : Int)
  | many (l : List Int)
abbrev Cells := List (Nm × Cell)
inductive Kd where | num | flag | list
  deriving DecidableEq
abbrev Env := List (Nm × Kd)
def get (cs : Cells) (x : Nm) : Option Cell := (cs.find? fun p => decide (p.1 = x)).map (·.2)
def put (cs : Cells) (x : Nm) (c : Cell) : Cells := cs.map fun p => if p.1 = x then (p.1, c) else p
def kd (G : Env) (x : Nm) : Option Kd := (G.find? fun p => decide (p.1 = x)).map (·.2)
theorem get_pos {y x : Nm} {c : Cell} {r : Cells} (e : y = x) : get ((y, c) :: r) x = some c := by simp [get, e]
theorem get_neg {y x : Nm} {c : Cell} {r : Cells} (e : ¬ y = x) : get ((y, c) :: r) x = get r x := by simp [get, e]
theorem kd_pos {y x : Nm} {c : Kd} {r : Env} (e : y = x) : kd ((y, c) :: r) x = some c := by simp [kd, e]
theorem kd_neg {y x : Nm} {c : Kd} {r : Env} (e : ¬ y = x) : kd ((y, c) :: r) x = kd r x := by simp [kd, e]
def In16 (n : Int) : Prop := 0 ≤ n ∧ n < 65536
def CellOk : Kd → Cell → Prop
  | .num, .one n => In16 n
  | .flag, .one n => n = 0 ∨ n = 1
  | .list, .many l => l.length ≤ 99 ∧ ∀ v ∈ l, In16 v
  | _, _ => False
def CsOk : Env → Cells → Prop
  | [], [] => True
  | (y, k) :: G, (x, c) :: r => y = x ∧ CellOk k c ∧ CsOk G r
  | _, _ => False
theorem cs_get : ∀ {G : Env} {cs : Cells} {x : Nm} {k : Kd}, CsOk G cs → kd G x = some k → ∃ c, get cs x = some c ∧ CellOk k c
  | [], _, _, _, _, h => by simp [kd] at h
  | (y, k') :: G, [], _, _, h, _ => h.elim
  | (y, k') :: G, (z, c) :: r, x, k, h, hk => by
    obtain ⟨e, ok, h⟩ := h
    by_cases q : y = x
    · rw [kd_pos q] at hk
      cases hk
      exact ⟨c, get_pos (e ▸ q), ok⟩
    · rw [kd_neg q] at hk
      rw [get_neg (e ▸ q)]
      exact cs_get h hk
theorem put_pos {y x : Nm} {c d : Cell} {r : Cells} (e : y = x) : put ((y, c) :: r) x d = (y, d) :: put r x d := by simp [put, e]
theorem put_neg {y x : Nm} {c d : Cell} {r : Cells} (e : ¬ y = x) : put ((y, c) :: r) x d = (y, c) :: put r x d := by simp [put, e]
theorem put_out : ∀ {G : Env} {cs : Cells} {x : Nm} {c : Cell}, CsOk G cs → ¬ x ∈ G.map (·.1) → CsOk G (put cs x c)
  | [], [], _, _, _, _ => True.intro
  | [], _ :: _, _, _, h, _ => h.elim
  | (y, k') :: G, [], _, _, h, _ => h.elim
  | (y, k') :: G, (z, c) :: r, x, d, h, hn => by
    obtain ⟨e, ok, h⟩ := h
    have n1 : ¬ z = x := fun q => hn (by simp [e, q])
    rw [put_neg n1]
    exact ⟨e, ok, put_out h fun q => hn (List.mem_cons_of_mem _ q)⟩
theorem cs_put : ∀ {G : Env} {cs : Cells} {x : Nm} {k : Kd} {c : Cell}, (G.map (·.1)).Nodup → CsOk G cs → kd G x = some k → CellOk k c → CsOk G (put cs x c)
  | [], _, _, _, _, _, _, h, _ => by simp [kd] at h
  | (y, k') :: G, [], _, _, _, _, h, _, _ => h.elim
  | (y, k') :: G, (z, c) :: r, x, k, d, hN, h, hk, ok' => by
    obtain ⟨e, ok, h⟩ := h
    have hN' : (y :: G.map (·.1)).Nodup := hN
    obtain ⟨n1, n2⟩ := List.nodup_cons.mp hN'
    by_cases q : y = x
    · rw [kd_pos q] at hk
      cases hk
      rw [put_pos (e ▸ q)]
      exact ⟨e, ok', put_out h (q ▸ n1)⟩
    · rw [kd_neg q] at hk
      rw [put_neg (e ▸ q)]
      exact ⟨e, ok, cs_put n2 h hk ok'⟩
/-! ### expressions -/
def signed (n : Int) : Int := if n < 32768 then n else n - 65536
def joined : Op → Int → Int → Int
  | .add, a, b => (a + b) % 65536
  | .sub, a, b => (a - b) % 65536
  | .and, a, b => ((a.toNat &&& b.toNat : Nat) : Int)
  | .lt, a, b => if signed a < signed b then 1 else 0
  | .eq, a, b => if a = b then 1 else 0
def itemOf (l : List Int) (i : Int) : Option Int := l[i.toNat]?
def worth (cs : Cells) : Ex → Option Int
  | .num n => some n
  | .flag b => some (if b then 1 else 0)
  | .name x => match get cs x with
    | some (.one n) => some n
    | _ => none
  | .item x e => match get cs x, worth cs e with
    | some (.many l), some i => itemOf l i
    | _, _ => none
  | .op o a b => match worth cs a, worth cs b with
    | some u, some v => some (joined o u v)
    | _, _ => none
  | .neg e => match worth cs e with
    | some u => some (1 - u)
    | none => none
/-- isFlag, the expression -/
def WT (G : Env) : Bool → Ex → Prop
  | false, .num n => In16 n
  | true, .flag _ => True
  | false, .name x => kd G x = some .num
  | true, .name x => kd G x = some .flag
  | false, .item x e => kd G x = some .list ∧ WT G false e
  | false, .op .add a b => WT G false a ∧ WT G false b
  | false, .op .sub a b => WT G false a ∧ WT G false b
  | false, .op .and a b => WT G false a ∧ WT G false b
  | true, .op .lt a b => WT G false a ∧ WT G false b
  | true, .op .eq a b => WT G false a ∧ WT G false b
  | true, .neg e => WT G true e
  | _, _ => False
def hgt : Ex → Nat
  | .num _ => 0
  | .flag _ => 0
  | .name _ => 0
  | .item _ e => hgt e + 1
  | .op _ a b => max (hgt a) (hgt b) + 1
  | .neg e => hgt e + 1
def Vok (f : Bool) (v : Int) : Prop := In16 v ∧ (f = true → v = 0 ∨ v = 1)
theorem vok_bit {f : Bool} {p : Prop} [Decidable p] : Vok f (if p then 1 else 0) := by
  unfold Vok In16
  split
  · exact ⟨⟨by decide, by decide⟩, fun _ => .inr rfl⟩
  · exact ⟨⟨by decide, by decide⟩, fun _ => .inl rfl⟩
theorem joined_ok {G : Env} {f : Bool} {o : Op} {a b : Ex} (h : WT G f (.op o a b)) {u v : Int} (hu : In16 u) (hv : In16 v) : Vok f (joined o u v) := by
  cases f <;> cases o <;> first | exact h.elim | skip
  · exact ⟨⟨Int.emod_nonneg _ (by decide), Int.emod_lt_of_pos _ (by decide)⟩, fun z => nomatch z⟩
  · exact ⟨⟨Int.emod_nonneg _ (by decide), Int.emod_lt_of_pos _ (by decide)⟩, fun z => nomatch z⟩
  · refine ⟨⟨Int.natCast_nonneg _, ?_⟩, fun z => nomatch z⟩
    have h1 : u.toNat &&& v.toNat ≤ u.toNat := Nat.and_le_left
    obtain ⟨h2, h3⟩ := hu
    show ((u.toNat &&& v.toNat : Nat) : Int) < 65536
    omega
  · exact vok_bit
  · exact vok_bit
theorem WT.two {G : Env} {f : Bool} {o : Op} {a b : Ex} (h : WT G f (.op o a b)) : WT G false a ∧ WT G false b := by
  cases f <;> cases o <;> first | exact h.elim | exact h
theorem worth_ok {G : Env} {cs : Cells} (hc : CsOk G cs) : ∀ {e : Ex} {f : Bool} {v : Int}, WT G f e → worth cs e = some v → Vok f v
  | .num n, f, v, h, q => by
    cases f with
    | true => exact h.elim
    | false =>
      cases q
      exact ⟨h, fun z => nomatch z⟩
  | .flag b, f, v, h, q => by
    cases f with
    | false => exact h.elim
    | true =>
      cases q
      exact vok_bit
  | .name x, f, v, h, q => by
    cases f with
    | false =>
      obtain ⟨c, hg, ok⟩ := cs_get hc (show kd G x = some .num from h)
      cases c with
      | many l => exact ok.elim
      | one n =>
        simp only [worth, hg] at q
        cases q
        exact ⟨ok, fun z => nomatch z⟩
    | true =>
      obtain ⟨c, hg, ok⟩ := cs_get hc (show kd G x = some .flag from h)
      cases c with
      | many l => exact ok.elim
      | one n =>
        simp only [worth, hg] at q
        cases q
        have ok' : v = 0 ∨ v = 1 := ok
        exact ⟨⟨by omega, by omega⟩, fun _ => ok'⟩
  | .item x e, f, v, h, q => by
    cases f with
    | true => exact h.elim
    | false =>
      obtain ⟨c, hg, ok⟩ := cs_get hc h.1
      cases c with
      | one n => exact ok.elim
      | many l =>
        simp only [worth, hg] at q
        cases w : worth cs e with
        | none => rw [w] at q; cases q
        | some i =>
          rw [w] at q
          exact ⟨ok.2 v (List.mem_of_getElem? q), fun z => nomatch z⟩
  | .op o a b, f, v, h, q => by
    simp only [worth] at q
    cases wa : worth cs a with
    | none => rw [wa] at q; cases q
    | some u =>
      cases wb : worth cs b with
      | none => rw [wa, wb] at q; cases q
      | some u' =>
        rw [wa, wb] at q
        cases q
        exact joined_ok h (worth_ok hc h.two.1 wa).1 (worth_ok hc h.two.2 wb).1
  | .neg e, f, v, h, q => by
    cases f with
    | false => exact h.elim
    | true =>
      simp only [worth] at q
      cases w : worth cs e with
      | none => rw [w] at q; cases q
      | some u =>
        rw [w] at q
        cases q
        have h1 := (worth_ok hc (e := e) (f := true) h w).2 rfl
        exact ⟨⟨by omega, by omega⟩, fun _ => by omega⟩
/-! ### the law's pile of parts -/
inductive Pt where
  | num (n : Int)
  | flag (b : Bool)
  | name (x : Nm)
  | item (x : Nm)
  | op (o : Op)
  | neg
def partsOf : Ex → List Pt
  | .num n => [.num n]
  | .flag b => [.flag b]
  | .name x => [.name x]
  | .item x e => partsOf e ++ [.item x]
  | .op o a b => partsOf a ++ partsOf b ++ [.op o]
  | .neg e => partsOf e ++ [.neg]
theorem parts_len : ∀ e : Ex, (partsOf e).length + 1 ≤ 2 ^ (hgt e + 1)
  | .num n => by simp [partsOf, hgt]
  | .flag b => by simp [partsOf, hgt]
  | .name x => by simp [partsOf, hgt]
  | .item x e => by
    have h := parts_len e
    simp only [partsOf, hgt, List.length_append, List.length_singleton]
    rw [Nat.pow_succ 2 (hgt e + 1)]
    omega
  | .neg e => by
    have h := parts_len e
    simp only [partsOf, hgt, List.length_append, List.length_singleton]
    rw [Nat.pow_succ 2 (hgt e + 1)]
    omega
  | .op o a b => by
    have h1 := parts_len a
    have h2 := parts_len b
    have e1 : 2 ^ (hgt a + 1) ≤ 2 ^ (max (hgt a) (hgt b) + 1) := Nat.pow_le_pow_right (by decide) (by omega)
    have e2 : 2 ^ (hgt b + 1) ≤ 2 ^ (max (hgt a) (hgt b) + 1) := Nat.pow_le_pow_right (by decide) (by omega)
    simp only [partsOf, hgt, List.length_append, List.length_singleton]
    rw [Nat.pow_succ 2 (max (hgt a) (hgt b) + 1)]
    omega
def bitsOf (a b : Int) : Nat → List Int
  | 0 => []
  | n + 1 => bitsOf a b n ++ (if (a / 2 ^ n % 2 = 1) ∧ (b / 2 ^ n % 2 = 1) then [2 ^ n] else [])
def lawOp : Op → Int → Int → Int
  | .add, a, b => (a + b) % 65536
  | .sub, a, b => (a + 65536 - b) % 65536
  | .and, a, b => (bitsOf a b 16).sum
  | .lt, a, b => if (a + 32768) % 65536 < (b + 32768) % 65536 then 1 else 0
  | .eq, a, b => if a = b then 1 else 0
theorem bits_and (a b : Nat) : ∀ n : Nat, (bitsOf a b n).sum = (((a % 2 ^ n) &&& (b % 2 ^ n) : Nat) : Int)
  | 0 => by simp [bitsOf, Nat.mod_one]
  | n + 1 => by
    have ih := bits_and a b n
    have key : ((a % 2 ^ (n + 1)) &&& (b % 2 ^ (n + 1)) : Nat) = ((a % 2 ^ n) &&& (b % 2 ^ n)) + (if (a / 2 ^ n % 2 = 1) ∧ (b / 2 ^ n % 2 = 1) then 2 ^ n else 0) := by
      apply Nat.eq_of_testBit_eq
      intro i
      have lt1 : (a % 2 ^ n) &&& (b % 2 ^ n) < 2 ^ n := Nat.lt_of_le_of_lt Nat.and_le_left (Nat.mod_lt _ (Nat.two_pow_pos n))
      have ta : a.testBit n = decide (a / 2 ^ n % 2 = 1) := by rw [Nat.testBit_eq_decide_div_mod_eq]
      have tb : b.testBit n = decide (b / 2 ^ n % 2 = 1) := by rw [Nat.testBit_eq_decide_div_mod_eq]
      split
      · rename_i h
        have eo : ((a % 2 ^ n) &&& (b % 2 ^ n)) + 2 ^ n = 2 ^ n ||| ((a % 2 ^ n) &&& (b % 2 ^ n)) := by
          have q := Nat.two_pow_add_eq_or_of_lt lt1 1
          rw [Nat.mul_one] at q
          rw [Nat.add_comm, q]
        rw [eo, Nat.testBit_or, Nat.testBit_two_pow]
        rw [Nat.testBit_and, Nat.testBit_mod_two_pow, Nat.testBit_mod_two_pow, Nat.testBit_and, Nat.testBit_mod_two_pow, Nat.testBit_mod_two_pow]
        by_cases e : n = i
        · subst e
          simp [ta, tb, h.1, h.2]
        · by_cases l : i < n
          · have l2 : i < n + 1 := by omega
            simp [l, l2, e]
          · have l2 : ¬ i < n + 1 := by omega
            simp [l, l2, e]
      · rename_i h
        rw [show ((a % 2 ^ n &&& b % 2 ^ n) + 0 : Nat) = a % 2 ^ n &&& b % 2 ^ n from rfl]
        rw [Nat.testBit_and, Nat.testBit_mod_two_pow, Nat.testBit_mod_two_pow, Nat.testBit_and, Nat.testBit_mod_two_pow, Nat.testBit_mod_two_pow]
        by_cases e : n = i
        · subst e
          have h2 : ¬ (a.testBit n = true ∧ b.testBit n = true) := by
            rw [ta, tb]
            simpa using h
          cases h3 : a.testBit n <;> cases h4 : b.testBit n <;> simp [h3, h4] at h2 ⊢
        · by_cases l : i < n
          · have l2 : i < n + 1 := by omega
            simp [l, l2]
          · have l2 : ¬ i < n + 1 := by omega
            simp [l, l2]
    have c1 : ((a : Int) / 2 ^ n % 2 = 1) ↔ (a / 2 ^ n % 2 = 1) := by
      have : ((a : Int) / 2 ^ n % 2) = ((a / 2 ^ n % 2 : Nat) : Int) := by simp
      rw [this]; omega
    have c2 : ((b : Int) / 2 ^ n % 2 = 1) ↔ (b / 2 ^ n % 2 = 1) := by
      have : ((b : Int) / 2 ^ n % 2) = ((b / 2 ^ n % 2 : Nat) : Int) := by simp
      rw [this]; omega
    rw [key]
    unfold bitsOf
    rw [List.sum_append, ih]
    by_cases h : (a / 2 ^ n % 2 = 1) ∧ (b / 2 ^ n % 2 = 1)
    · rw [if_pos (by rw [c1, c2]; exact h), if_pos h]
      simp
    · rw [if_neg (by rw [c1, c2]; exact h), if_neg h]
      simp
theorem lawOp_eq {o : Op} {u v : Int} (hu : In16 u) (hv : In16 v) : lawOp o u v = joined o u v := by
  obtain ⟨h1, h2⟩ := hu
  obtain ⟨h3, h4⟩ := hv
  cases o with
  | add => rfl
  | sub =>
    show (u + 65536 - v) % 65536 = (u - v) % 65536
    omega
  | and =>
    obtain ⟨a, rfl⟩ : ∃ a : Nat, u = (a : Int) := ⟨u.toNat, by omega⟩
    obtain ⟨b, rfl⟩ : ∃ b : Nat, v = (b : Int) := ⟨v.toNat, by omega⟩
    have e := bits_and a b 16
    show (bitsOf a b 16).sum = _
    rw [e]
    have e1 : a % 2 ^ 16 = a := Nat.mod_eq_of_lt (by omega)
    have e2 : b % 2 ^ 16 = b := Nat.mod_eq_of_lt (by omega)
    rw [e1, e2]
    rfl
  | lt =>
    show (if (u + 32768) % 65536 < (v + 32768) % 65536 then (1 : Int) else 0) = if signed u < signed v then 1 else 0
    unfold signed
    split <;> split <;> split <;> split <;> omega
  | eq => rfl
/-- the pile (its top ahead) is run through to r (none: a fault); safe all the way -/
inductive PRun (cs : Cells) : List Pt → List Int → Option (List Int) → Prop
  | nil {p} : PRun cs [] p (some p)
  | num {n ts p r} : PRun cs ts (n :: p) r → PRun cs (.num n :: ts) p r
  | flag {b ts p r} : PRun cs ts ((if b = true then 1 else 0) :: p) r → PRun cs (.flag b :: ts) p r
  | name {x n ts p r} : get cs x = some (.one n) → PRun cs ts (n :: p) r → PRun cs (.name x :: ts) p r
  | out {x i l ts p} : get cs x = some (.many l) → 0 ≤ i → (l.length : Int) ≤ i → PRun cs (.item x :: ts) (i :: p) none
  | item {x i l v ts p r} : get cs x = some (.many l) → 0 ≤ i → i < (l.length : Int) → l[i.toNat]? = some v → PRun cs ts (v :: p) r → PRun cs (.item x :: ts) (i :: p) r
  | op {o a b ts p r} : In16 a → In16 b → PRun cs ts (lawOp o a b :: p) r → PRun cs (.op o :: ts) (b :: a :: p) r
  | neg {a ts p r} : PRun cs ts ((1 - a) :: p) r → PRun cs (.neg :: ts) (a :: p) r
theorem prun_of {G : Env} {cs : Cells} (hc : CsOk G cs) : ∀ {e : Ex} {f : Bool}, WT G f e → ∀ (ts : List Pt) (p : List Int),
    (worth cs e = none → PRun cs (partsOf e ++ ts) p none) ∧ ∀ v r, worth cs e = some v → PRun cs ts (v :: p) r → PRun cs (partsOf e ++ ts) p r
  | .num n, f, h, ts, p => ⟨(fun q => nomatch q), fun v r q k => by cases q; exact .num k⟩
  | .flag b, f, h, ts, p => ⟨(fun q => nomatch q), fun v r q k => by cases q; exact .flag k⟩
  | .name x, f, h, ts, p => by
    have hk : ∃ k, kd G x = some k ∧ (k = .num ∨ k = .flag) := by
      cases f with
      | false => exact ⟨.num, h, .inl rfl⟩
      | true => exact ⟨.flag, h, .inr rfl⟩
    obtain ⟨k, hk, hkk⟩ := hk
    obtain ⟨c, hg, ok⟩ := cs_get hc hk
    cases c with
    | many l => rcases hkk with rfl | rfl <;> exact ok.elim
    | one n =>
      simp only [worth, hg]
      exact ⟨(fun q => nomatch q), fun v r q k => by cases q; exact .name hg k⟩
  | .item x e, f, h, ts, p => by
    cases f with
    | true => exact h.elim
    | false =>
      obtain ⟨c, hg, ok⟩ := cs_get hc h.1
      cases c with
      | one n => exact ok.elim
      | many l =>
        have ih := prun_of hc h.2 (.item x :: ts) p
        simp only [worth, hg, partsOf, List.append_assoc, List.singleton_append]
        cases w : worth cs e with
        | none => exact ⟨fun _ => ih.1 w, fun v r q _ => nomatch q⟩
        | some i =>
          have ok2 := (worth_ok hc h.2 w).1.1
          by_cases hi : i < (l.length : Int)
          · have hlt : i.toNat < l.length := by omega
            have e1 : itemOf l i = some l[i.toNat] := List.getElem?_eq_getElem hlt
            refine ⟨fun q => ?_, fun v r q k => ih.2 i r w (.item hg ok2 hi q k)⟩
            rw [show (match some (Cell.many l), some i with | some (.many l), some i => itemOf l i | _, _ => none) = itemOf l i from rfl, e1] at q
            cases q
          · have e1 : itemOf l i = none := List.getElem?_eq_none (by omega)
            refine ⟨fun _ => ih.2 i none w (.out hg ok2 (by omega)), fun v r q k => ?_⟩
            rw [show (match some (Cell.many l), some i with | some (.many l), some i => itemOf l i | _, _ => none) = itemOf l i from rfl, e1] at q
            cases q
  | .op o a b, f, h, ts, p => by
    simp only [worth, partsOf, List.append_assoc, List.singleton_append]
    cases wa : worth cs a with
    | none =>
      have ih := prun_of hc h.two.1 (partsOf b ++ .op o :: ts) p
      exact ⟨fun _ => ih.1 wa, fun v r q _ => nomatch q⟩
    | some u =>
      have iha := prun_of hc h.two.1 (partsOf b ++ .op o :: ts) p
      have ihb := prun_of hc h.two.2 (.op o :: ts) (u :: p)
      have oa := (worth_ok hc h.two.1 wa).1
      cases wb : worth cs b with
      | none => exact ⟨fun _ => iha.2 u none wa (ihb.1 wb), fun v r q _ => nomatch q⟩
      | some u' =>
        have ob := (worth_ok hc h.two.2 wb).1
        refine ⟨(fun q => nomatch q), fun v r q k => ?_⟩
        have q' : joined o u u' = v := Option.some.inj q
        exact iha.2 u r wa (ihb.2 u' r wb (.op oa ob (by rw [lawOp_eq oa ob, q']; exact k)))
  | .neg e, f, h, ts, p => by
    cases f with
    | false => exact h.elim
    | true =>
      have ih := prun_of hc (e := e) (f := true) h (.neg :: ts) p
      simp only [worth, partsOf, List.append_assoc, List.singleton_append]
      cases w : worth cs e with
      | none => exact ⟨fun _ => ih.1 w, fun v r q _ => nomatch q⟩
      | some u =>
        refine ⟨(fun q => nomatch q), fun v r q k => ?_⟩
        have q' : 1 - u = v := Option.some.inj q
        exact ih.2 u r w (.neg (by rw [q']; exact k))
/-- what the law's worth answers -/
theorem prun_all {G : Env} {cs : Cells} (hc : CsOk G cs) {e : Ex} {f : Bool} (h : WT G f e) : PRun cs (partsOf e) [] ((worth cs e).map fun v => [v]) := by
  have k := prun_of hc h [] []
  rw [List.append_nil] at k
  cases w : worth cs e with
  | none => exact k.1 w
  | some v => exact k.2 v _ w .nil
end GT
/-! Statements: the relation Run (the program's meaning), the law's row of places (lay, Halts), and that they agree. -/
namespace GT
inductive Pl where
  | set (x : Nm) (e : Ex)
  | put (x : Nm) (i e : Ex)
  | tell (e : Ex)
  | ask (x : Nm)
  | way
  | stop
inductive Rows where
  | nil
  | plain (p : Pl) (r : Rows)
  | call (x : Nm) (r : Rows)
  | ife (c : Ex) (a b r : Rows)
  | whl (c : Ex) (a r : Rows)
/-- all statements, those within too -/
def count : Rows → Nat
  | .nil => 0
  | .plain _ r => 1 + count r
  | .call _ r => 1 + count r
  | .ife _ a b r => 1 + count a + count b + count r
  | .whl _ a r => 1 + count a + count r
/-- how many stand in the row itself -/
def wide : Rows → Nat
  | .nil => 0
  | .plain _ r => 1 + wide r
  | .call _ r => 1 + wide r
  | .ife _ _ _ r => 1 + wide r
  | .whl _ _ r => 1 + wide r
def deep : Rows → Nat
  | .nil => 0
  | .plain _ r => deep r
  | .call _ r => deep r
  | .ife _ a b r => max (max (deep a) (deep b) + 1) (deep r)
  | .whl _ a r => max (deep a + 1) (deep r)
structure Part where
  ix : Nat
  r : Rows
  n : Nat
structure Sta where
  cs : Cells
  told : List Int
  left : List Int
  steps : List (Nat × Cells × List Int)
inductive End where | go | ended | fault | going
  deriving DecidableEq
def mark (n : Nat) (s : Sta) : Sta := { s with steps := s.steps ++ [(n, s.cs, s.told)] }
/-- a plain statement -/
def act : Pl → Sta → End × Sta
  | .set x e, s => match worth s.cs e with
    | some v => (.go, { s with cs := put s.cs x (.one v) })
    | none => (.fault, s)
  | .put x i e, s => match worth s.cs e, worth s.cs i, get s.cs x with
    | some v, some j, some (.many l) => if j.toNat < l.length then (.go, { s with cs := put s.cs x (.many (l.set j.toNat v)) }) else (.fault, s)
    | _, _, _ => (.fault, s)
  | .tell e, s => match worth s.cs e with
    | some v => (.go, { s with told := s.told ++ [v] })
    | none => (.fault, s)
  | .ask x, s => match s.left with
    | [] => (.go, { s with cs := put s.cs x (.one 65535) })
    | v :: l => (.go, { s with cs := put s.cs x (.one v), left := l })
  | .way, s => (.go, s)
  | .stop, s => (.ended, s)
inductive Tk where
  | rows (r : Rows) (n : Nat)
  | loop (c : Ex) (a : Rows) (n : Nat)
section
variable (T : Nm → Option Part) (most : Nat)
inductive Run : Tk → Sta → End → Sta → Prop
  | nil {n s} : Run (.rows .nil n) s .go s
  | full {r n s} : r ≠ .nil → s.steps.length = most → Run (.rows r n) s .going s
  | plainGo {p r n s s1 e s'} : s.steps.length ≠ most → act p (mark n s) = (.go, s1) → Run (.rows r (n + 1)) s1 e s' → Run (.rows (.plain p r) n) s e s'
  | plainEnd {p r n s e s'} : s.steps.length ≠ most → act p (mark n s) = (e, s') → e ≠ .go → Run (.rows (.plain p r) n) s e s'
  | callGo {x q r n s s1 e s'} : s.steps.length ≠ most → T x = some q → Run (.rows q.r q.n) (mark n s) .go s1 → Run (.rows r (n + 1)) s1 e s' → Run (.rows (.call x r) n) s e s'
  | callEnd {x q r n s e s'} : s.steps.length ≠ most → T x = some q → Run (.rows q.r q.n) (mark n s) e s' → e ≠ .go → Run (.rows (.call x r) n) s e s'
  | ifFault {c a b r n s} : s.steps.length ≠ most → worth s.cs c = none → Run (.rows (.ife c a b r) n) s .fault (mark n s)
  | ifYes {c a b r n s s1 e s'} : s.steps.length ≠ most → worth s.cs c = some 1 → Run (.rows a (n + 1)) (mark n s) .go s1 → Run (.rows r (n + 1 + count a + count b)) s1 e s' → Run (.rows (.ife c a b r) n) s e s'
  | ifYesEnd {c a b r n s e s'} : s.steps.length ≠ most → worth s.cs c = some 1 → Run (.rows a (n + 1)) (mark n s) e s' → e ≠ .go → Run (.rows (.ife c a b r) n) s e s'
  | ifNo {c a b r n s v s1 e s'} : s.steps.length ≠ most → worth s.cs c = some v → v ≠ 1 → Run (.rows b (n + 1 + count a)) (mark n s) .go s1 → Run (.rows r (n + 1 + count a + count b)) s1 e s' → Run (.rows (.ife c a b r) n) s e s'
  | ifNoEnd {c a b r n s v e s'} : s.steps.length ≠ most → worth s.cs c = some v → v ≠ 1 → Run (.rows b (n + 1 + count a)) (mark n s) e s' → e ≠ .go → Run (.rows (.ife c a b r) n) s e s'
  | whGo {c a r n s s1 e s'} : s.steps.length ≠ most → Run (.loop c a n) (mark n s) .go s1 → Run (.rows r (n + 1 + count a)) s1 e s' → Run (.rows (.whl c a r) n) s e s'
  | whEnd {c a r n s e s'} : s.steps.length ≠ most → Run (.loop c a n) (mark n s) e s' → e ≠ .go → Run (.rows (.whl c a r) n) s e s'
  | loopFault {c a n s} : worth s.cs c = none → Run (.loop c a n) s .fault s
  | loopOut {c a n s v} : worth s.cs c = some v → v ≠ 1 → Run (.loop c a n) s .go s
  | loopEnd {c a n s e s'} : worth s.cs c = some 1 → Run (.rows a (n + 1)) s e s' → e ≠ .go → Run (.loop c a n) s e s'
  | loopFull {c a n s s1} : worth s.cs c = some 1 → Run (.rows a (n + 1)) s .go s1 → s1.steps.length = most → Run (.loop c a n) s .going s1
  | loopGo {c a n s s1 e s'} : worth s.cs c = some 1 → Run (.rows a (n + 1)) s .go s1 → s1.steps.length ≠ most → Run (.loop c a n) (mark n s1) e s' → Run (.loop c a n) s e s'
end
theorem mark_len {n : Nat} {s : Sta} : (mark n s).steps.length = s.steps.length + 1 := by simp [mark]
theorem act_steps {p : Pl} {s s1 : Sta} {e : End} (h : act p s = (e, s1)) : s1.steps = s.steps := by
  cases p with
  | set x ex => simp only [act] at h; split at h <;> cases h <;> rfl
  | put x i ex =>
    simp only [act] at h
    split at h
    · split at h <;> cases h <;> rfl
    · cases h; rfl
  | tell ex => simp only [act] at h; split at h <;> cases h <;> rfl
  | ask x => simp only [act] at h; split at h <;> cases h <;> rfl
  | way => cases h; rfl
  | stop => cases h; rfl
theorem run_grows {T : Nm → Option Part} {most : Nat} {k : Tk} {s s' : Sta} {e : End} (h : Run T most k s e s') : s.steps.length ≤ s'.steps.length := by
  induction h with
  | nil => omega
  | full => omega
  | plainGo _ h1 _ ih => have h2 := act_steps h1; have h3 := @mark_len; rw [h2, h3] at ih; omega
  | plainEnd _ h1 _ => have h2 := act_steps h1; have h3 := @mark_len; rw [h2, h3]; omega
  | callGo _ _ _ _ i1 i2 => rw [mark_len] at i1; omega
  | callEnd _ _ _ _ i1 => rw [mark_len] at i1; omega
  | ifFault => rw [mark_len]; omega
  | ifYes _ _ _ _ i1 i2 => rw [mark_len] at i1; omega
  | ifYesEnd _ _ _ _ i1 => rw [mark_len] at i1; omega
  | ifNo _ _ _ _ _ i1 i2 => rw [mark_len] at i1; omega
  | ifNoEnd _ _ _ _ _ i1 => rw [mark_len] at i1; omega
  | whGo _ _ _ i1 i2 => rw [mark_len] at i1; omega
  | whEnd _ _ _ i1 => rw [mark_len] at i1; omega
  | loopFault => omega
  | loopOut => omega
  | loopEnd _ _ _ i1 => exact i1
  | loopFull _ _ _ i1 => exact i1
  | loopGo _ _ _ _ i1 i2 => rw [mark_len] at i2; omega
theorem run_most {T : Nm → Option Part} {most : Nat} {k : Tk} {s s' : Sta} {e : End} (h : Run T most k s e s') : s.steps.length ≤ most → s'.steps.length ≤ most := by
  induction h with
  | nil => exact id
  | full => exact id
  | plainGo hm h1 _ ih => intro h0; have h2 := act_steps h1; have h3 := @mark_len; rw [h2, h3] at ih; exact ih (by omega)
  | plainEnd hm h1 _ => intro h0; have h2 := act_steps h1; have h3 := @mark_len; rw [h2, h3]; omega
  | callGo hm _ _ _ i1 i2 => intro h0; rw [mark_len] at i1; exact i2 (i1 (by omega))
  | callEnd hm _ _ _ i1 => intro h0; rw [mark_len] at i1; exact i1 (by omega)
  | ifFault hm _ => intro h0; rw [mark_len]; omega
  | ifYes hm _ _ _ i1 i2 => intro h0; rw [mark_len] at i1; exact i2 (i1 (by omega))
  | ifYesEnd hm _ _ _ i1 => intro h0; rw [mark_len] at i1; exact i1 (by omega)
  | ifNo hm _ _ _ _ i1 i2 => intro h0; rw [mark_len] at i1; exact i2 (i1 (by omega))
  | ifNoEnd hm _ _ _ _ i1 => intro h0; rw [mark_len] at i1; exact i1 (by omega)
  | whGo hm _ _ i1 i2 => intro h0; rw [mark_len] at i1; exact i2 (i1 (by omega))
  | whEnd hm _ _ i1 => intro h0; rw [mark_len] at i1; exact i1 (by omega)
  | loopFault => exact id
  | loopOut => exact id
  | loopEnd _ _ _ i1 => exact i1
  | loopFull _ _ _ i1 => exact i1
  | loopGo _ _ hm _ i1 i2 => intro h0; rw [mark_len] at i2; exact i2 (by have := i1 h0; omega)
/-! ### typed -/
def PlOk (G : Env) : Pl → Prop
  | .set x e => ∃ f, WT G f e ∧ kd G x = some (if f = true then .flag else .num) ∧ hgt e ≤ 6
  | .put x i e => kd G x = some .list ∧ WT G false i ∧ WT G false e ∧ hgt i ≤ 6 ∧ hgt e ≤ 6
  | .tell e => WT G false e ∧ hgt e ≤ 6
  | .ask x => kd G x = some .num
  | .way => True
  | .stop => True
/-- statements that fit; parts called stand below k -/
def RowsOk (G : Env) (T : Nm → Option Part) (k : Nat) : Rows → Prop
  | .nil => True
  | .plain p r => PlOk G p ∧ RowsOk G T k r
  | .call x r => (∃ q, T x = some q ∧ q.ix < k) ∧ RowsOk G T k r
  | .ife c a b r => WT G true c ∧ hgt c ≤ 6 ∧ RowsOk G T k a ∧ RowsOk G T k b ∧ RowsOk G T k r
  | .whl c a r => WT G true c ∧ hgt c ≤ 6 ∧ RowsOk G T k a ∧ RowsOk G T k r
def TabOk (G : Env) (T : Nm → Option Part) : Prop := ∀ x q, T x = some q → RowsOk G T q.ix q.r
def TkOk (G : Env) (T : Nm → Option Part) (k : Nat) : Tk → Prop
  | .rows r _ => RowsOk G T k r
  | .loop c a _ => WT G true c ∧ hgt c ≤ 6 ∧ RowsOk G T k a
structure SOk (G : Env) (s : Sta) : Prop where
  cs : CsOk G s.cs
  nd : (G.map (·.1)).Nodup
  left : ∀ v ∈ s.left, In16 v
  told : s.told.length ≤ s.steps.length
theorem SOk.mark {G : Env} {s : Sta} {n : Nat} (h : SOk G s) : SOk G (mark n s) := ⟨h.cs, h.nd, h.left, by rw [mark_len]; have := h.told; show s.told.length ≤ _; omega⟩
theorem act_ok {G : Env} {p : Pl} {s s1 : Sta} {e : End} {n : Nat} (hp : PlOk G p) (h : SOk G s) (q : act p (mark n s) = (e, s1)) : SOk G s1 := by
  have hm := h.mark (n := n)
  cases p with
  | set x ex =>
    obtain ⟨f, h1, h2, _⟩ := hp
    simp only [act] at q
    cases w : worth (GT.mark n s).cs ex with
    | none => rw [w] at q; cases q; exact hm
    | some v =>
      rw [w] at q; cases q
      have ok := worth_ok hm.cs h1 w
      refine ⟨cs_put hm.nd hm.cs h2 ?_, hm.nd, hm.left, hm.told⟩
      cases f with
      | true => exact ok.2 rfl
      | false => exact ok.1
  | put x i ex =>
    obtain ⟨h1, h2, h3, _⟩ := hp
    obtain ⟨c, hg, okc⟩ := cs_get hm.cs h1
    cases c with
    | one k => exact okc.elim
    | many l =>
      simp only [act, hg] at q
      cases w : worth (GT.mark n s).cs ex with
      | none => rw [w] at q; cases q; exact hm
      | some v =>
        cases w2 : worth (GT.mark n s).cs i with
        | none => rw [w, w2] at q; cases q; exact hm
        | some j =>
          rw [w, w2] at q
          have q : (if j.toNat < l.length then ((End.go, { GT.mark n s with cs := put (GT.mark n s).cs x (.many (l.set j.toNat v)) }) : End × Sta) else (.fault, GT.mark n s)) = (e, s1) := q
          split at q
          · cases q
            refine ⟨cs_put hm.nd hm.cs h1 ⟨by rw [List.length_set]; exact okc.1, fun u hu => ?_⟩, hm.nd, hm.left, hm.told⟩
            rcases List.mem_or_eq_of_mem_set hu with z | z
            · exact okc.2 u z
            · rw [z]; exact (worth_ok hm.cs h3 w).1
          · cases q; exact hm
  | tell ex =>
    simp only [act] at q
    cases w : worth (GT.mark n s).cs ex with
    | none => rw [w] at q; cases q; exact hm
    | some v =>
      rw [w] at q; cases q
      refine ⟨hm.cs, hm.nd, hm.left, ?_⟩
      have := h.told
      show (s.told ++ [v]).length ≤ (GT.mark n s).steps.length
      rw [mark_len, List.length_append, List.length_singleton]; omega
  | ask x =>
    simp only [act] at q
    cases w : (GT.mark n s).left with
    | nil =>
      rw [w] at q; cases q
      exact ⟨cs_put hm.nd hm.cs hp (show In16 65535 from ⟨by decide, by decide⟩), hm.nd, (fun u hu => nomatch hu), hm.told⟩
    | cons v l =>
      rw [w] at q; cases q
      have hv : ∀ u ∈ v :: l, In16 u := fun u hu => hm.left u (by rw [w]; exact hu)
      exact ⟨cs_put hm.nd hm.cs hp (hv v List.mem_cons_self), hm.nd, fun u hu => hv u (List.mem_cons_of_mem _ hu), hm.told⟩
  | way => cases q; exact hm
  | stop => cases q; exact hm
theorem run_ok {G : Env} {T : Nm → Option Part} (hT : TabOk G T) {most : Nat} {k : Tk} {s s' : Sta} {e : End} (h : Run T most k s e s') : ∀ m, TkOk G T m k → SOk G s → SOk G s' := by
  induction h with
  | nil => intro m _ o; exact o
  | full => intro m _ o; exact o
  | plainGo _ h1 _ ih => intro m hk o; exact ih m hk.2 (act_ok hk.1 o h1)
  | plainEnd _ h1 _ => intro m hk o; exact act_ok hk.1 o h1
  | @callGo x q r n s s1 e s' _ hx _ _ i1 i2 => intro m hk o; exact i2 m hk.2 (i1 q.ix (hT x q hx) o.mark)
  | @callEnd x q r n s e s' _ hx _ _ i1 => intro m hk o; exact i1 q.ix (hT x q hx) o.mark
  | ifFault => intro m hk o; exact o.mark
  | ifYes _ _ _ _ i1 i2 => intro m hk o; obtain ⟨_, _, ha, hb, hr⟩ := hk; exact i2 m hr (i1 m ha o.mark)
  | ifYesEnd _ _ _ _ i1 => intro m hk o; obtain ⟨_, _, ha, hb, hr⟩ := hk; exact i1 m ha o.mark
  | ifNo _ _ _ _ _ i1 i2 => intro m hk o; obtain ⟨_, _, ha, hb, hr⟩ := hk; exact i2 m hr (i1 m hb o.mark)
  | ifNoEnd _ _ _ _ _ i1 => intro m hk o; obtain ⟨_, _, ha, hb, hr⟩ := hk; exact i1 m hb o.mark
  | whGo _ _ _ i1 i2 => intro m hk o; obtain ⟨hc, hh, ha, hr⟩ := hk; exact i2 m hr (i1 m ⟨hc, hh, ha⟩ o.mark)
  | whEnd _ _ _ i1 => intro m hk o; obtain ⟨hc, hh, ha, hr⟩ := hk; exact i1 m ⟨hc, hh, ha⟩ o.mark
  | loopFault => intro m hk o; exact o
  | loopOut => intro m hk o; exact o
  | loopEnd _ _ _ i1 => intro m hk o; exact i1 m hk.2.2 o
  | loopFull _ _ _ i1 => intro m hk o; exact i1 m hk.2.2 o
  | loopGo _ _ _ _ i1 i2 => intro m hk o; exact i2 m hk (i1 m hk.2.2 o).mark
/-! ### it always comes to an end -/
def Ends_ (T : Nm → Option Part) (most : Nat) (k : Tk) (s : Sta) : Prop := ∃ e s', Run T most k s e s'
theorem total {G : Env} {T : Nm → Option Part} (hT : TabOk G T) {most : Nat} : ∀ (rem : Nat) (s : Sta), s.steps.length ≤ most → most - s.steps.length ≤ rem → ∀ m k, TkOk G T m k → Ends_ T most k s := by
  intro rem
  induction rem using Nat.strongRecOn with
  | ind rem ih =>
    -- anything at a state with a smaller rest
    have next : ∀ s s1 : Sta, s.steps.length < s1.steps.length → s1.steps.length ≤ most → most - s.steps.length ≤ rem → ∀ m k, TkOk G T m k → Ends_ T most k s1 := fun s s1 h1 h2 h3 m k hk =>
      ih (most - s1.steps.length) (by omega) s1 h2 (Nat.le_refl _) m k hk
    have rows : ∀ (r : Rows) (n : Nat) (s : Sta), s.steps.length ≤ most → most - s.steps.length ≤ rem → ∀ m, RowsOk G T m r → Ends_ T most (.rows r n) s := by
      intro r n s hs hr m hk
      by_cases hnil : r = .nil
      · subst hnil; exact ⟨_, _, .nil⟩
      by_cases hf : s.steps.length = most
      · exact ⟨_, _, .full hnil hf⟩
      have hml : ∀ n, (mark n s).steps.length = s.steps.length + 1 := fun n => mark_len
      cases r with
      | nil => exact absurd rfl hnil
      | plain p r =>
        cases ha : act p (mark n s) with
        | mk e s1 =>
          by_cases he : e = .go
          · subst he
            have h1 := act_steps ha
            obtain ⟨e', s', q⟩ := next s s1 (by rw [h1, hml]; omega) (by rw [h1, hml]; omega) hr m (.rows r (n + 1)) hk.2
            exact ⟨e', s', .plainGo hf ha q⟩
          · exact ⟨e, s1, .plainEnd hf ha he⟩
      | call x r =>
        obtain ⟨⟨q, hx, _⟩, hk2⟩ := hk
        obtain ⟨e1, s1, q1⟩ := next s (mark n s) (by rw [hml]; omega) (by rw [hml]; omega) hr q.ix (.rows q.r q.n) (hT x q hx)
        by_cases he : e1 = .go
        · subst he
          have g := run_grows q1
          have g2 := run_most q1 (by rw [hml]; omega)
          rw [hml] at g
          obtain ⟨e', s', q2⟩ := next s s1 (by omega) g2 hr m (.rows r (n + 1)) hk2
          exact ⟨e', s', .callGo hf hx q1 q2⟩
        · exact ⟨e1, s1, .callEnd hf hx q1 he⟩
      | ife c a b r =>
        obtain ⟨_, _, ka, kb, kr⟩ := hk
        cases hw : worth s.cs c with
        | none => exact ⟨_, _, .ifFault hf hw⟩
        | some v =>
          by_cases hv : v = 1
          · subst hv
            obtain ⟨e1, s1, q1⟩ := next s (mark n s) (by rw [hml]; omega) (by rw [hml]; omega) hr m (.rows a (n + 1)) ka
            by_cases he : e1 = .go
            · subst he
              have g := run_grows q1
              have g2 := run_most q1 (by rw [hml]; omega)
              rw [hml] at g
              obtain ⟨e', s', q2⟩ := next s s1 (by omega) g2 hr m (.rows r (n + 1 + count a + count b)) kr
              exact ⟨e', s', .ifYes hf hw q1 q2⟩
            · exact ⟨e1, s1, .ifYesEnd hf hw q1 he⟩
          · obtain ⟨e1, s1, q1⟩ := next s (mark n s) (by rw [hml]; omega) (by rw [hml]; omega) hr m (.rows b (n + 1 + count a)) kb
            by_cases he : e1 = .go
            · subst he
              have g := run_grows q1
              have g2 := run_most q1 (by rw [hml]; omega)
              rw [hml] at g
              obtain ⟨e', s', q2⟩ := next s s1 (by omega) g2 hr m (.rows r (n + 1 + count a + count b)) kr
              exact ⟨e', s', .ifNo hf hw hv q1 q2⟩
            · exact ⟨e1, s1, .ifNoEnd hf hw hv q1 he⟩
      | whl c a r =>
        obtain ⟨kc, kh, ka, kr⟩ := hk
        obtain ⟨e1, s1, q1⟩ := next s (mark n s) (by rw [hml]; omega) (by rw [hml]; omega) hr m (.loop c a n) ⟨kc, kh, ka⟩
        by_cases he : e1 = .go
        · subst he
          have g := run_grows q1
          have g2 := run_most q1 (by rw [hml]; omega)
          rw [hml] at g
          obtain ⟨e', s', q2⟩ := next s s1 (by omega) g2 hr m (.rows r (n + 1 + count a)) kr
          exact ⟨e', s', .whGo hf q1 q2⟩
        · exact ⟨e1, s1, .whEnd hf q1 he⟩
    intro s hs hr m k hk
    cases k with
    | rows r n => exact rows r n s hs hr m hk
    | loop c a n =>
      obtain ⟨kc, kh, ka⟩ := hk
      cases hw : worth s.cs c with
      | none => exact ⟨_, _, .loopFault hw⟩
      | some v =>
        by_cases hv : v = 1
        · subst hv
          obtain ⟨e1, s1, q1⟩ := rows a (n + 1) s hs hr m ka
          by_cases he : e1 = .go
          · subst he
            have g := run_grows q1
            have g2 := run_most q1 hs
            by_cases hf : s1.steps.length = most
            · exact ⟨_, _, .loopFull hw q1 hf⟩
            · obtain ⟨e', s', q2⟩ := next s (mark n s1) (by rw [mark_len]; omega) (by rw [mark_len]; omega) hr m (.loop c a n) ⟨kc, kh, ka⟩
              exact ⟨e', s', .loopGo hw q1 hf q2⟩
          · exact ⟨e1, s1, .loopEnd hw q1 he⟩
        · exact ⟨_, _, .loopOut hw hv⟩
/-! ### the law's way: all laid in one row -/
inductive In where
  | fin
  | back
  | jump (t : Nat)
  | look (n : Nat) (c : Ex) (t : Nat)
  | plain (n : Nat) (p : Pl)
  | call (n : Nat) (x : Nm)
def size : Rows → Nat
  | .nil => 0
  | .plain _ r => 1 + size r
  | .call _ r => 1 + size r
  | .ife _ a b r => 2 + size a + size b + size r
  | .whl _ a r => 2 + size a + size r
/-- the places of rows that stand from pos on, numbered from n on -/
def lay : Rows → Nat → Nat → List In
  | .nil, _, _ => []
  | .plain p r, pos, n => .plain n p :: lay r (pos + 1) (n + 1)
  | .call x r, pos, n => .call n x :: lay r (pos + 1) (n + 1)
  | .ife c a b r, pos, n => .look n c (pos + 2 + size a) :: (lay a (pos + 1) (n + 1) ++ .jump (pos + 2 + size a + size b) :: (lay b (pos + 2 + size a) (n + 1 + count a) ++ lay r (pos + 2 + size a + size b) (n + 1 + count a + count b)))
  | .whl c a r, pos, n => .look n c (pos + 2 + size a) :: (lay a (pos + 1) (n + 1) ++ .jump pos :: lay r (pos + 2 + size a) (n + 1 + count a))
theorem lay_len : ∀ (r : Rows) (pos n : Nat), (lay r pos n).length = size r
  | .nil, _, _ => rfl
  | .plain p r, pos, n => by simp only [lay, size, List.length_cons, lay_len r]; omega
  | .call x r, pos, n => by simp only [lay, size, List.length_cons, lay_len r]; omega
  | .ife c a b r, pos, n => by simp only [lay, size, List.length_cons, List.length_append, lay_len a, lay_len b, lay_len r]; omega
  | .whl c a r, pos, n => by simp only [lay, size, List.length_cons, List.length_append, lay_len a, lay_len r]; omega
/-- from pos on stand these -/
def At (code : List In) (pos : Nat) (l : List In) : Prop := ∀ i x, l[i]? = some x → code[pos + i]? = some x
theorem At.head {code : List In} {pos : Nat} {x : In} {l : List In} (h : At code pos (x :: l)) : code[pos]? = some x := h 0 x rfl
theorem At.tail {code : List In} {pos : Nat} {x : In} {l : List In} (h : At code pos (x :: l)) : At code (pos + 1) l := fun i y e => by
  have q := h (i + 1) y e
  rw [show pos + 1 + i = pos + (i + 1) by omega]
  exact q
theorem At.left {code : List In} {pos : Nat} {a b : List In} (h : At code pos (a ++ b)) : At code pos a := fun i x e => h i x (by rw [List.getElem?_append_left (List.getElem?_eq_some_iff.mp e).1]; exact e)
theorem At.right {code : List In} {pos n : Nat} {a b : List In} (h : At code pos (a ++ b)) (e : a.length = n) : At code (pos + n) b := fun i x q => by
  have z := h (n + i) x (by rw [List.getElem?_append_right (by omega), show n + i - a.length = i by omega]; exact q)
  rw [show pos + n + i = pos + (n + i) by omega]
  exact z
section
variable (code : List In) (bg : Nm → Option Nat) (most : Nat)
/-- from a place, with places to come back to (the last one ahead), so many turns lead to an end -/
inductive Halts : Nat → Nat → List Nat → Sta → End → Sta → Prop
  | fin {p bs s} : code[p]? = some .fin → Halts 0 p bs s .ended s
  | back {m p b bs s e s'} : code[p]? = some .back → Halts m b bs s e s' → Halts (m + 1) p (b :: bs) s e s'
  | jump {m p t bs s e s'} : code[p]? = some (.jump t) → Halts m t bs s e s' → Halts (m + 1) p bs s e s'
  | lookFull {p n c t bs s} : code[p]? = some (.look n c t) → s.steps.length = most → Halts 0 p bs s .going s
  | lookFault {p n c t bs s} : code[p]? = some (.look n c t) → s.steps.length ≠ most → worth s.cs c = none → Halts 0 p bs s .fault (mark n s)
  | lookYes {m p n c t bs s e s'} : code[p]? = some (.look n c t) → s.steps.length ≠ most → worth s.cs c = some 1 → Halts m (p + 1) bs (mark n s) e s' → Halts (m + 1) p bs s e s'
  | lookNo {m p n c t bs s v e s'} : code[p]? = some (.look n c t) → s.steps.length ≠ most → worth s.cs c = some v → v ≠ 1 → Halts m t bs (mark n s) e s' → Halts (m + 1) p bs s e s'
  | plainFull {p n q bs s} : code[p]? = some (.plain n q) → s.steps.length = most → Halts 0 p bs s .going s
  | plainEnd {p n q bs s e s'} : code[p]? = some (.plain n q) → s.steps.length ≠ most → act q (mark n s) = (e, s') → e ≠ .go → Halts 0 p bs s e s'
  | plainGo {m p n q bs s s1 e s'} : code[p]? = some (.plain n q) → s.steps.length ≠ most → act q (mark n s) = (.go, s1) → Halts m (p + 1) bs s1 e s' → Halts (m + 1) p bs s e s'
  | callFull {p n x bs s} : code[p]? = some (.call n x) → s.steps.length = most → Halts 0 p bs s .going s
  | callGo {m p n x t bs s e s'} : code[p]? = some (.call n x) → s.steps.length ≠ most → bg x = some t → Halts m t ((p + 1) :: bs) (mark n s) e s' → Halts (m + 1) p bs s e s'
end
def HaltsX (code : List In) (bg : Nm → Option Nat) (most : Nat) (p : Nat) (bs : List Nat) (s : Sta) (e : End) (s' : Sta) : Prop := ∃ m, Halts code bg most m p bs s e s'
def BegOk (code : List In) (bg : Nm → Option Nat) (T : Nm → Option Part) : Prop := ∀ x q, T x = some q → ∃ p, bg x = some p ∧ At code p (lay q.r p q.n ++ [.back])
/-- what stands at pos leads where Run leads -/
def Lead (code : List In) (bg : Nm → Option Nat) (most : Nat) (pos out : Nat) (s : Sta) (e : End) (s' : Sta) : Prop :=
  ∀ bs, (e = .go → ∀ e2 s2, HaltsX code bg most out bs s' e2 s2 → HaltsX code bg most pos bs s e2 s2) ∧ (e ≠ .go → HaltsX code bg most pos bs s e s')
def LeadTk (code : List In) (bg : Nm → Option Nat) (most : Nat) (k : Tk) (s : Sta) (e : End) (s' : Sta) : Prop := match k with
  | .rows r n => ∀ pos, At code pos (lay r pos n) → Lead code bg most pos (pos + size r) s e s'
  | .loop c a n => ∀ pos, At code pos (.look n c (pos + 2 + size a) :: (lay a (pos + 1) (n + 1) ++ [.jump pos])) → ∀ s0, s = mark n s0 → s0.steps.length ≠ most → Lead code bg most pos (pos + 2 + size a) s0 e s'
theorem HaltsX.back {code : List In} {bg : Nm → Option Nat} {most : Nat} {p b : Nat} {bs : List Nat} {s : Sta} {e : End} {s' : Sta} (h : code[p]? = some .back) (k : HaltsX code bg most b bs s e s') : HaltsX code bg most p (b :: bs) s e s' := let ⟨m, q⟩ := k; ⟨m + 1, .back h q⟩
theorem HaltsX.jump {code : List In} {bg : Nm → Option Nat} {most : Nat} {p t : Nat} {bs : List Nat} {s : Sta} {e : End} {s' : Sta} (h : code[p]? = some (.jump t)) (k : HaltsX code bg most t bs s e s') : HaltsX code bg most p bs s e s' := let ⟨m, q⟩ := k; ⟨m + 1, .jump h q⟩
theorem lead_of {code : List In} {bg : Nm → Option Nat} {T : Nm → Option Part} {most : Nat} (hB : BegOk code bg T) {k : Tk} {s s' : Sta} {e : End} (h : Run T most k s e s') : LeadTk code bg most k s e s' := by
  induction h with
  | nil => exact fun pos _ bs => ⟨fun _ e2 s2 q => q, fun n => absurd rfl n⟩
  | @full r n s hn hf =>
    intro pos hA bs
    refine ⟨fun q => (nomatch q), fun _ => ?_⟩
    cases r with
    | nil => exact absurd rfl hn
    | plain p r => exact ⟨0, .plainFull hA.head hf⟩
    | call x r => exact ⟨0, .callFull hA.head hf⟩
    | ife c a b r => exact ⟨0, .lookFull hA.head hf⟩
    | whl c a r => exact ⟨0, .lookFull hA.head hf⟩
  | @plainGo p r n s s1 e s' hm ha _ ih =>
    intro pos hA bs
    have k := ih (pos + 1) hA.tail bs
    rw [show pos + 1 + size r = pos + size (.plain p r) by simp only [size]; omega] at k
    have go : ∀ e2 s2, HaltsX code bg most (pos + 1) bs s1 e2 s2 → HaltsX code bg most pos bs s e2 s2 := fun e2 s2 ⟨m, q⟩ => ⟨m + 1, .plainGo hA.head hm ha q⟩
    exact ⟨fun he e2 s2 q => go e2 s2 (k.1 he e2 s2 q), fun he => go _ _ (k.2 he)⟩
  | @plainEnd p r n s e s' hm ha he =>
    intro pos hA bs
    exact ⟨fun q => absurd q he, fun _ => ⟨0, .plainEnd hA.head hm ha he⟩⟩
  | @callGo x q r n s s1 e s' hm hx _ _ i1 i2 =>
    intro pos hA bs
    obtain ⟨t, hb, hA2⟩ := hB x q hx
    have k2 := i2 (pos + 1) hA.tail bs
    rw [show pos + 1 + size r = pos + size (.call x r) by simp only [size]; omega] at k2
    have k1 := (i1 t hA2.left ((pos + 1) :: bs)).1 rfl
    have hback : code[t + size q.r]? = some .back := (hA2.right (lay_len _ _ _)).head
    have go : ∀ e2 s2, HaltsX code bg most (pos + 1) bs s1 e2 s2 → HaltsX code bg most pos bs s e2 s2 := fun e2 s2 z => by
      obtain ⟨m, z2⟩ := k1 e2 s2 (.back hback z)
      exact ⟨m + 1, .callGo hA.head hm hb z2⟩
    exact ⟨fun he e2 s2 q => go e2 s2 (k2.1 he e2 s2 q), fun he => go _ _ (k2.2 he)⟩
  | @callEnd x q r n s e s' hm hx _ he i1 =>
    intro pos hA bs
    obtain ⟨t, hb, hA2⟩ := hB x q hx
    obtain ⟨m, z2⟩ := (i1 t hA2.left ((pos + 1) :: bs)).2 he
    exact ⟨fun q => absurd q he, fun _ => ⟨m + 1, .callGo hA.head hm hb z2⟩⟩
  | @ifFault c a b r n s hm hw =>
    intro pos hA bs
    exact ⟨fun q => (nomatch q), fun _ => ⟨0, .lookFault hA.head hm hw⟩⟩
  | @ifYes c a b r n s s1 e s' hm hw _ _ i1 i2 =>
    intro pos hA bs
    have hT := hA.tail
    have k1 := (i1 (pos + 1) hT.left bs).1 rfl
    have hJ := hT.right (lay_len a (pos + 1) (n + 1))
    rw [show pos + 1 + size a = pos + 1 + size a from rfl] at hJ
    have hR := hJ.tail
    have e1 : pos + 1 + size a + 1 = pos + 2 + size a := by omega
    rw [e1] at hR
    have hR2 := hR.right (lay_len b (pos + 2 + size a) (n + 1 + count a))
    have k2 := i2 (pos + 2 + size a + size b) hR2 bs
    rw [show pos + 2 + size a + size b + size r = pos + size (.ife c a b r) by simp only [size]; omega] at k2
    have go : ∀ e2 s2, HaltsX code bg most (pos + 2 + size a + size b) bs s1 e2 s2 → HaltsX code bg most pos bs s e2 s2 := fun e2 s2 z => by
      obtain ⟨m, z2⟩ := k1 e2 s2 (.jump hJ.head z)
      exact ⟨m + 1, .lookYes hA.head hm hw z2⟩
    exact ⟨fun he e2 s2 q => go e2 s2 (k2.1 he e2 s2 q), fun he => go _ _ (k2.2 he)⟩
  | @ifYesEnd c a b r n s e s' hm hw _ he i1 =>
    intro pos hA bs
    obtain ⟨m, z2⟩ := (i1 (pos + 1) hA.tail.left bs).2 he
    exact ⟨fun q => absurd q he, fun _ => ⟨m + 1, .lookYes hA.head hm hw z2⟩⟩
  | @ifNo c a b r n s v s1 e s' hm hw hv _ _ i1 i2 =>
    intro pos hA bs
    have hJ := hA.tail.right (lay_len a (pos + 1) (n + 1))
    have hR := hJ.tail
    have e1 : pos + 1 + size a + 1 = pos + 2 + size a := by omega
    rw [e1] at hR
    have k1 := (i1 (pos + 2 + size a) hR.left bs).1 rfl
    have hR2 := hR.right (lay_len b (pos + 2 + size a) (n + 1 + count a))
    have k2 := i2 (pos + 2 + size a + size b) hR2 bs
    rw [show pos + 2 + size a + size b + size r = pos + size (.ife c a b r) by simp only [size]; omega] at k2
    have go : ∀ e2 s2, HaltsX code bg most (pos + 2 + size a + size b) bs s1 e2 s2 → HaltsX code bg most pos bs s e2 s2 := fun e2 s2 z => by
      obtain ⟨m, z2⟩ := k1 e2 s2 z
      exact ⟨m + 1, .lookNo hA.head hm hw hv z2⟩
    exact ⟨fun he e2 s2 q => go e2 s2 (k2.1 he e2 s2 q), fun he => go _ _ (k2.2 he)⟩
  | @ifNoEnd c a b r n s v e s' hm hw hv _ he i1 =>
    intro pos hA bs
    have hJ := hA.tail.right (lay_len a (pos + 1) (n + 1))
    have hR := hJ.tail
    have e1 : pos + 1 + size a + 1 = pos + 2 + size a := by omega
    rw [e1] at hR
    obtain ⟨m, z2⟩ := (i1 (pos + 2 + size a) hR.left bs).2 he
    exact ⟨fun q => absurd q he, fun _ => ⟨m + 1, .lookNo hA.head hm hw hv z2⟩⟩
  | @whGo c a r n s s1 e s' hm _ _ i1 i2 =>
    intro pos hA bs
    have hJ := hA.tail.right (lay_len a (pos + 1) (n + 1))
    have e1 : pos + 1 + size a + 1 = pos + 2 + size a := by omega
    have hR := hJ.tail
    rw [e1] at hR
    have hL : At code pos (.look n c (pos + 2 + size a) :: (lay a (pos + 1) (n + 1) ++ [.jump pos])) := fun i x q => hA i x (by
      have e2 : In.look n c (pos + 2 + size a) :: (lay a (pos + 1) (n + 1) ++ .jump pos :: lay r (pos + 2 + size a) (n + 1 + count a)) = (In.look n c (pos + 2 + size a) :: (lay a (pos + 1) (n + 1) ++ [.jump pos])) ++ lay r (pos + 2 + size a) (n + 1 + count a) := by simp
      show (In.look n c (pos + 2 + size a) :: (lay a (pos + 1) (n + 1) ++ .jump pos :: lay r (pos + 2 + size a) (n + 1 + count a)))[i]? = some x
      rw [e2, List.getElem?_append_left (List.getElem?_eq_some_iff.mp q).1]
      exact q)
    have k1 := (i1 pos hL s rfl hm bs).1 rfl
    have k2 := i2 (pos + 2 + size a) hR bs
    rw [show pos + 2 + size a + size r = pos + size (.whl c a r) by simp only [size]; omega] at k2
    exact ⟨fun he e2 s2 q => k1 e2 s2 (k2.1 he e2 s2 q), fun he => k1 _ _ (k2.2 he)⟩
  | @whEnd c a r n s e s' hm _ he i1 =>
    intro pos hA bs
    have hL : At code pos (.look n c (pos + 2 + size a) :: (lay a (pos + 1) (n + 1) ++ [.jump pos])) := fun i x q => hA i x (by
      have e2 : In.look n c (pos + 2 + size a) :: (lay a (pos + 1) (n + 1) ++ .jump pos :: lay r (pos + 2 + size a) (n + 1 + count a)) = (In.look n c (pos + 2 + size a) :: (lay a (pos + 1) (n + 1) ++ [.jump pos])) ++ lay r (pos + 2 + size a) (n + 1 + count a) := by simp
      show (In.look n c (pos + 2 + size a) :: (lay a (pos + 1) (n + 1) ++ .jump pos :: lay r (pos + 2 + size a) (n + 1 + count a)))[i]? = some x
      rw [e2, List.getElem?_append_left (List.getElem?_eq_some_iff.mp q).1]
      exact q)
    exact ⟨fun q => absurd q he, fun _ => (i1 pos hL s rfl hm bs).2 he⟩
  | @loopFault c a n s hw =>
    intro pos hA s0 es hm bs
    subst es
    exact ⟨fun q => (nomatch q), fun _ => ⟨0, .lookFault hA.head hm hw⟩⟩
  | @loopOut c a n s v hw hv =>
    intro pos hA s0 es hm bs
    subst es
    exact ⟨fun _ e2 s2 ⟨m, q⟩ => ⟨m + 1, .lookNo hA.head hm hw hv q⟩, fun q => absurd rfl q⟩
  | @loopEnd c a n s e s' hw _ he i1 =>
    intro pos hA s0 es hm bs
    subst es
    obtain ⟨m, z⟩ := (i1 (pos + 1) hA.tail.left bs).2 he
    exact ⟨fun q => absurd q he, fun _ => ⟨m + 1, .lookYes hA.head hm hw z⟩⟩
  | @loopFull c a n s s1 hw _ hf i1 =>
    intro pos hA s0 es hm bs
    subst es
    have hJ := hA.tail.right (lay_len a (pos + 1) (n + 1))
    obtain ⟨m, z⟩ := (i1 (pos + 1) hA.tail.left bs).1 rfl .going s1 (.jump hJ.head ⟨0, .lookFull hA.head hf⟩)
    exact ⟨fun q => (nomatch q), fun _ => ⟨m + 1, .lookYes hA.head hm hw z⟩⟩
  | @loopGo c a n s s1 e s' hw _ hf _ i1 i2 =>
    intro pos hA s0 es hm bs
    subst es
    have hJ := hA.tail.right (lay_len a (pos + 1) (n + 1))
    have k2 := i2 pos hA s1 rfl hf bs
    have go : ∀ e2 s2, HaltsX code bg most pos bs s1 e2 s2 → HaltsX code bg most pos bs s0 e2 s2 := fun e2 s2 z => by
      obtain ⟨m, z2⟩ := (i1 (pos + 1) hA.tail.left bs).1 rfl e2 s2 (.jump hJ.head z)
      exact ⟨m + 1, .lookYes hA.head hm hw z2⟩
    exact ⟨fun he e2 s2 q => go e2 s2 (k2.1 he e2 s2 q), fun he => go _ _ (k2.2 he)⟩
def fin : End → End
  | .go => .ended
  | e => e
/-- main stands at pos, the end's place behind it -/
theorem halts_of {code : List In} {bg : Nm → Option Nat} {T : Nm → Option Part} {most : Nat} (hB : BegOk code bg T) {r : Rows} {n pos : Nat} {s s' : Sta} {e : End} (h : Run T most (.rows r n) s e s') (hA : At code pos (lay r pos n ++ [.fin])) :
    HaltsX code bg most pos [] s (fin e) s' := by
  have k := lead_of hB h pos hA.left []
  have hE : code[pos + size r]? = some .fin := (hA.right (lay_len _ _ _)).head
  by_cases he : e = .go
  · subst he
    exact k.1 rfl .ended s' ⟨0, .fin hE⟩
  · have ef : fin e = e := by cases e <;> first | rfl | exact absurd rfl he
    rw [ef]
    exact k.2 he
end GT
/-! How trees, cells, states stand in a heap. -/
namespace GT
open PySem PySem.Spec PyProof.Rows L2
def opS : Op → Str
  | .add => "+"
  | .sub => "-"
  | .and => "&"
  | .lt => "<"
  | .eq => "="
def TupV (H : Hp) (v : V) (xs : List V) : Prop := ∃ p, v = .ref p ∧ H p = some (.tup xs)
theorem TupV.mono {H H' : Hp} {v : V} {xs : List V} (e : Same H H') (h : TupV H v xs) : TupV H' v xs := let ⟨p, h1, h2⟩ := h; ⟨p, h1, e _ _ h2⟩
def LstV (H : Hp) (v : V) (xs : List V) : Prop := ∃ p, v = .ref p ∧ H p = some (.lst xs)
theorem LstV.mono {H H' : Hp} {v : V} {xs : List V} (e : Same H H') (h : LstV H v xs) : LstV H' v xs := let ⟨p, h1, h2⟩ := h; ⟨p, h1, e _ _ h2⟩
/-- an expression's tuple -/
def ExV (H : Hp) : Ex → V → Prop
  | .num n, v => TupV H v [.str "num", .int n]
  | .flag b, v => TupV H v [.str "flag", .bl b]
  | .name x, v => TupV H v [.str "name", .str x]
  | .item x e, v => ∃ u, TupV H v [.str "at", .str x, u] ∧ ExV H e u
  | .op o a b, v => ∃ u w, TupV H v [.str (opS o), u, w] ∧ ExV H a u ∧ ExV H b w
  | .neg e, v => ∃ u, TupV H v [.str "not", u] ∧ ExV H e u
theorem ExV.mono {H H' : Hp} (s : Same H H') : ∀ {e : Ex} {v : V}, ExV H e v → ExV H' e v
  | .num _, _, h => TupV.mono s h
  | .flag _, _, h => TupV.mono s h
  | .name _, _, h => TupV.mono s h
  | .item _ e, _, h => let ⟨u, h1, h2⟩ := h; ⟨u, h1.mono s, ExV.mono s (e := e) h2⟩
  | .op _ a b, _, h => let ⟨u, w, h1, h2, h3⟩ := h; ⟨u, w, h1.mono s, ExV.mono s (e := a) h2, ExV.mono s (e := b) h3⟩
  | .neg e, _, h => let ⟨u, h1, h2⟩ := h; ⟨u, h1.mono s, ExV.mono s (e := e) h2⟩
abbrev il (l : List Int) : List V := l.map V.int
/-- a cell's value -/
def CellV (H : Hp) : Cell → V → Prop
  | .one n, v => v = .int n
  | .many l, v => LstV H v (il l)
theorem CellV.mono {H H' : Hp} {c : Cell} {v : V} (s : Same H H') (h : CellV H c v) : CellV H' c v := by
  cases c with
  | one n => exact h
  | many l => exact LstV.mono s h
def KvsV (H : Hp) : Cells → List (Key × V) → Prop
  | [], [] => True
  | (x, c) :: r, (k, v) :: t => k = .inr x ∧ CellV H c v ∧ KvsV H r t
  | _, _ => False
theorem KvsV.mono {H H' : Hp} (s : Same H H') : ∀ {cs : Cells} {kvs : List (Key × V)}, KvsV H cs kvs → KvsV H' cs kvs
  | [], [], _ => True.intro
  | [], _ :: _, h => h.elim
  | (x, c) :: r, [], h => h.elim
  | (x, c) :: r, (k, v) :: t, h => ⟨h.1, h.2.1.mono s, KvsV.mono s h.2.2⟩
theorem KvsV.len {H : Hp} : ∀ {cs : Cells} {kvs : List (Key × V)}, KvsV H cs kvs → kvs.length = cs.length
  | [], [], _ => rfl
  | [], _ :: _, h => h.elim
  | (x, c) :: r, [], h => h.elim
  | (x, c) :: r, (k, v) :: t, h => congrArg (· + 1) (KvsV.len h.2.2)
/-- the dict of the cells -/
def CsV (H : Hp) (c : Addr) (cs : Cells) : Prop := ∃ kvs, H c = some (.dK kvs) ∧ KvsV H cs kvs
theorem CsV.mono {H H' : Hp} {c : Addr} {cs : Cells} (s : Same H H') (h : CsV H c cs) : CsV H' c cs := let ⟨kvs, h1, h2⟩ := h; ⟨kvs, s _ _ h1, h2.mono s⟩
theorem kvs_get {H : Hp} {x : Nm} {c : Cell} : ∀ {cs : Cells} {kvs : List (Key × V)}, KvsV H cs kvs → get cs x = some c → ∃ v, valV kvs (.inr x) = some v ∧ CellV H c v
  | [], [], _, g => by simp [get] at g
  | [], _ :: _, h, _ => h.elim
  | (y, d) :: r, [], h, _ => h.elim
  | (y, d) :: r, (k, v) :: t, h, g => by
    obtain ⟨rfl, h2, h3⟩ := h
    by_cases e : y = x
    · rw [get_pos e] at g
      cases g
      exact ⟨v, valV_pos (congrArg Sum.inr e), h2⟩
    · rw [get_neg e] at g
      rw [valV_neg (fun z => e (Sum.inr.inj z))]
      exact kvs_get h3 g
theorem cs_get_v {H : Hp} {c : Addr} {cs : Cells} {x : Nm} {d : Cell} (h : CsV H c cs) (g : get cs x = some d) : ∃ v, DGet H c (.str x) (some v) ∧ CellV H d v := by
  obtain ⟨kvs, h1, h2⟩ := h
  obtain ⟨v, h3, h4⟩ := kvs_get h2 g
  exact ⟨v, .inl ⟨kvs, .inr x, .inl h1, rfl, h3.symm⟩, h4⟩
def oV : Option Int → V
  | none => .non
  | some i => .int i
theorem put_map {cs : Cells} {x : Nm} {c : Cell} : put cs x c = cs.map fun p => if p.1 = x then (p.1, c) else p := rfl
theorem kvs_putM {H : Hp} {x : Nm} {c : Cell} {v : V} (hv : CellV H c v) : ∀ {cs : Cells} {kvs : List (Key × V)}, KvsV H cs kvs → KvsV H (put cs x c) (kvs.map fun kv => if kv.1 = .inr x then (kv.1, v) else kv)
  | [], [], _ => True.intro
  | [], _ :: _, h => h.elim
  | (y, d) :: r, [], h => h.elim
  | (y, d) :: r, (k, u) :: t, h => by
    obtain ⟨rfl, h2, h3⟩ := h
    by_cases e : y = x
    · rw [put_pos e]
      simp only [List.map_cons]
      rw [if_pos (congrArg Sum.inr e)]
      exact ⟨rfl, hv, kvs_putM hv h3⟩
    · rw [put_neg e]
      simp only [List.map_cons]
      rw [if_neg (fun z => e (Sum.inr.inj z))]
      exact ⟨rfl, h2, kvs_putM hv h3⟩
theorem putK_has {kvs : List (Key × V)} {k : Key} {v u : V} (h : valV kvs k = some u) : putK kvs k v = kvs.map fun kv => if kv.1 = k then (kv.1, v) else kv := by
  unfold putK
  rw [valV_any, h]
  rfl
/-- a store at a name that is there -/
theorem kvs_put {H : Hp} {x : Nm} {c d : Cell} {v : V} {cs : Cells} {kvs : List (Key × V)} (hv : CellV H c v) (h : KvsV H cs kvs) (g : get cs x = some d) : KvsV H (put cs x c) (putK kvs (.inr x) v) := by
  obtain ⟨u, h1, _⟩ := kvs_get h g
  rw [putK_has h1]
  exact kvs_putM hv h
theorem cs_len : ∀ {G : Env} {cs : Cells}, CsOk G cs → cs.length = G.length
  | [], [], _ => rfl
  | [], _ :: _, h => h.elim
  | _ :: _, [], h => h.elim
  | (_, _) :: G, (_, _) :: r, h => congrArg (· + 1) (cs_len (G := G) h.2.2)
theorem sz {n : Nat} (h : n ≤ 100000) : n ≤ sizeLine := Nat.le_trans h (by decide)
theorem szl {n : Nat} (h : n < 100000) : n < sizeLine := Nat.lt_of_lt_of_le h (by decide)
end GT
/-! Loops over anything that takes n turns; comprehensions too. -/
namespace GT
open PySem PySem.Spec PyProof.Rows L2
theorem for_any {J : It} {n : Nat} {g : TG} {tb : TS} {D : Ends} {σ : L2.St} {H : Hp} (Pv : Nat → L2.St → Hp → Prop) (h0 : Pv 0 σ H)
    (hs : ∀ i σ H, i < n → Pv i σ H → J.go i H ∧ ∀ v H', J.yld i H v H' → g v σ H' fun σ2 H2 => tb { D with nx := Pv (i + 1), ct := Pv (i + 1), bk := D.nx } σ2 H2)
    (hd : ∀ σ H, Pv n σ H → J.stop n H ∧ D.nx σ H) :
    ∃ W : Nat → Nat → L2.St → Hp → Prop, (∃ m, W 0 m σ H) ∧ ∀ i m σ H, W i m σ H →
      (J.stop i H ∧ D.nx σ H) ∨ (J.go i H ∧ ∃ N : L2.St → Hp → Prop, (∀ σ' H', N σ' H' → ∃ m', m' < m ∧ W (i + 1) m' σ' H') ∧ ∀ v H', J.yld i H v H' → g v σ H' fun σ2 H2 => tb { D with nx := N, ct := N, bk := D.nx } σ2 H2) := by
  refine ⟨fun i m σ H => m + i = n ∧ Pv i σ H, ⟨n, rfl, h0⟩, ?_⟩
  rintro i m σ H ⟨hm, p⟩
  rcases Nat.lt_or_ge i n with hlt | hge
  · obtain ⟨h1, h2⟩ := hs i σ H hlt p
    exact Or.inr ⟨h1, fun σ' H' => Pv (i + 1) σ' H', fun σ' H' p' => ⟨m - 1, by omega, by omega, p'⟩, fun v H' y => h2 v H' y⟩
  · have e : i = n := by omega
    subst e
    exact Or.inl (hd σ H p)
theorem lc_any {J : It} {n : Nat} {g : TG} {tt : TT} {te : TE} {vs : List Nat} {σ : L2.St} {H1 : Hp} {D : Addr} {Qd : Hp → Prop} (Pv : Nat → Hp → Prop) (h0 : Pv 0 (upd H1 D (.lst [])))
    (hs : ∀ i H, i < n → Pv i H → J.go i H ∧ ∀ v H', J.yld i H v H' → g v (wipe σ vs) H' fun σ2 H2 => wipe σ2 vs = wipe σ vs ∧ tt σ2 H2 fun b H3 =>
      if b = true then te σ2 H3 fun y H4 => ∃ acc, H4 D = some (.lst acc) ∧ acc.length < sizeLine ∧ Pv (i + 1) (upd H4 D (.lst (acc ++ [y]))) else Pv (i + 1) H3)
    (hd : ∀ H, Pv n H → J.stop n H ∧ Qd H) :
    ∃ W : Nat → Nat → Hp → Prop, (∃ m, W 0 m (upd H1 D (.lst []))) ∧ ∀ i m H, W i m H →
      (J.stop i H ∧ Qd H) ∨ (J.go i H ∧ ∃ Nx : Hp → Prop, (∀ H', Nx H' → ∃ m', m' < m ∧ W (i + 1) m' H') ∧ ∀ x H', J.yld i H x H' → g x (wipe σ vs) H' fun σ2 H2 => wipe σ2 vs = wipe σ vs ∧ tt σ2 H2 fun b H3 =>
        if b = true then te σ2 H3 fun y H4 => ∃ acc, H4 D = some (.lst acc) ∧ acc.length < sizeLine ∧ Nx (upd H4 D (.lst (acc ++ [y]))) else Nx H3) := by
  refine ⟨fun i m H => m + i = n ∧ Pv i H, ⟨n, rfl, h0⟩, ?_⟩
  rintro i m H ⟨hm, p⟩
  rcases Nat.lt_or_ge i n with hlt | hge
  · obtain ⟨h1, h2⟩ := hs i H hlt p
    exact Or.inr ⟨h1, fun H' => Pv (i + 1) H', fun H' p' => ⟨m - 1, by omega, by omega, p'⟩, fun v H' y => h2 v H' y⟩
  · have e : i = n := by omega
    subst e
    exact Or.inl (hd H p)
/-- a list, a tuple that stands still -/
theorem for_lst {K : PySem.W.Frag} {a : Addr} {xs : List V} {g : TG} {tb : TS} {D : Ends} {σ : L2.St} {H : Hp} (Pv : Nat → L2.St → Hp → Prop) (h0 : Pv 0 σ H) (hl : ∀ i σ H, Pv i σ H → SqL K H a xs)
    (hs : ∀ i x σ H, i < xs.length → xs[i]? = some x → Pv i σ H → g x σ H fun σ2 H2 => tb { D with nx := Pv (i + 1), ct := Pv (i + 1), bk := D.nx } σ2 H2) (hd : ∀ σ H, Pv xs.length σ H → D.nx σ H) :
    ∃ W : Nat → Nat → L2.St → Hp → Prop, (∃ m, W 0 m σ H) ∧ ∀ i m σ H, W i m σ H →
      ((Itl K a).stop i H ∧ D.nx σ H) ∨ ((Itl K a).go i H ∧ ∃ N : L2.St → Hp → Prop, (∀ σ' H', N σ' H' → ∃ m', m' < m ∧ W (i + 1) m' σ' H') ∧ ∀ v H', (Itl K a).yld i H v H' → g v σ H' fun σ2 H2 => tb { D with nx := N, ct := N, bk := D.nx } σ2 H2) :=
  for_list (K := K) (a := a) (xs := xs) Pv h0 (fun i σ H _ p => hl i σ H p) (fun i x σ H hx p => hs i x σ H (List.getElem?_eq_some_iff.mp hx).1 hx p) hd
theorem KvsV.lst {H H' : Hp} (s : ∀ a xs, H a = some (.lst xs) → H' a = some (.lst xs)) : ∀ {cs : Cells} {kvs : List (Key × V)}, KvsV H cs kvs → KvsV H' cs kvs
  | [], [], _ => True.intro
  | [], _ :: _, h => h.elim
  | (x, c) :: r, [], h => h.elim
  | (x, c) :: r, (k, v) :: t, h => ⟨h.1, (match c, h.2.1 with
    | .one n, h2 => h2
    | .many l, ⟨p, h1, h2⟩ => ⟨p, h1, s _ _ h2⟩), KvsV.lst s h.2.2⟩
theorem KvsV.snoc {H : Hp} {x : Nm} {c : Cell} {v : V} (hv : CellV H c v) : ∀ {cs : Cells} {kvs : List (Key × V)}, KvsV H cs kvs → KvsV H (cs ++ [(x, c)]) (kvs ++ [(.inr x, v)])
  | [], [], _ => ⟨rfl, hv, True.intro⟩
  | [], _ :: _, h => h.elim
  | (x, c) :: r, [], h => h.elim
  | (y, d) :: r, (k, u) :: t, h => ⟨h.1, h.2.1, KvsV.snoc hv h.2.2⟩
theorem kvs_at {H : Hp} : ∀ {cs : Cells} {kvs : List (Key × V)} {i : Nat} {k : Key} {v : V}, KvsV H cs kvs → kvs[i]? = some (k, v) → ∃ x c, cs[i]? = some (x, c) ∧ k = .inr x ∧ CellV H c v
  | [], [], i, k, v, _, e => by simp at e
  | [], _ :: _, _, _, _, h, _ => h.elim
  | (x, c) :: r, [], _, _, _, h, _ => h.elim
  | (x, c) :: r, (k', u) :: t, 0, k, v, h, e => by
    have e' : (k', u) = (k, v) := Option.some.inj e
    cases e'
    exact ⟨x, c, rfl, h.1, h.2.1⟩
  | (x, c) :: r, (k', u) :: t, i + 1, k, v, h, e => kvs_at (i := i) h.2.2 e
/-- no key of it -/
theorem kvs_no {H : Hp} {x : Nm} : ∀ {cs : Cells} {kvs : List (Key × V)}, KvsV H cs kvs → ¬ x ∈ cs.map (·.1) → valV kvs (.inr x) = none
  | [], [], _, _ => rfl
  | [], _ :: _, h, _ => h.elim
  | (y, c) :: r, [], h, _ => h.elim
  | (y, c) :: r, (k, v) :: t, h, n => by
    obtain ⟨rfl, h2, h3⟩ := h
    have n1 : ¬ y = x := fun z => n (by simp [z])
    rw [valV_neg (fun z => n1 (Sum.inr.inj z))]
    exact kvs_no h3 fun z => n (List.mem_cons_of_mem _ z)
theorem putK_snoc {kvs : List (Key × V)} {k : Key} {u v : V} (h : valV kvs k = none) : putK (kvs ++ [(k, u)]) k v = kvs ++ [(k, v)] := by
  have h1 : valV (kvs ++ [(k, u)]) k = some u := by
    rw [valV_snoc k k u kvs h, if_pos rfl]
  rw [putK_has h1, List.map_append]
  have e : kvs.map (fun kv => if kv.1 = k then (kv.1, v) else kv) = kvs := by
    clear h1
    induction kvs with
    | nil => rfl
    | cons p r ih =>
      have np : ¬ p.1 = k := fun z => by rw [valV_pos z] at h; cases h
      rw [valV_neg np] at h
      rw [List.map_cons, if_neg np, ih h]
  rw [e]
  simp
theorem take_snoc {α : Type} {l : List α} {i : Nat} {x : α} (h : l[i]? = some x) : l.take (i + 1) = l.take i ++ [x] := by
  rw [List.take_succ, h]
  rfl
/-- what is new in H' -/
def Nw (H H' : Hp) : Hp := fun b => match H b with
  | none => H' b
  | some _ => none
theorem nw_at {H H' : Hp} {b : Addr} {o : HO} (h : H b = none) (e : H' b = some o) : Nw H H' b = some o := by
  unfold Nw
  rw [h]
  exact e
theorem of_nw {H H' : Hp} {b : Addr} {o : HO} (e : Nw H H' b = some o) : H b = none ∧ H' b = some o := by
  unfold Nw at e
  cases h : H b with
  | none => rw [h] at e; exact ⟨rfl, e⟩
  | some u => rw [h] at e; cases e
theorem nw_wo {M : List Addr} {H H' : Hp} (al : ∀ m ∈ M, ∃ o, H m = some o) : Same (Nw H H') (Wo M H') := fun b o e => by
  obtain ⟨e1, e2⟩ := of_nw e
  exact wo_at e2 fun hm => let ⟨u, q⟩ := al b hm; by rw [e1] at q; cases q
end GT
/-! How statements stand in a heap, numbered ones too. -/
namespace GT
open PySem PySem.Spec PyProof.Rows L2
def app : Rows → Rows → Rows
  | .nil, s => s
  | .plain p r, s => .plain p (app r s)
  | .call x r, s => .call x (app r s)
  | .ife c a b r, s => .ife c a b (app r s)
  | .whl c a r, s => .whl c a (app r s)
def hd : Rows → Rows
  | .nil => .nil
  | .plain p _ => .plain p .nil
  | .call x _ => .call x .nil
  | .ife c a b _ => .ife c a b .nil
  | .whl c a _ => .whl c a .nil
def tl : Rows → Rows
  | .nil => .nil
  | .plain _ r => r
  | .call _ r => r
  | .ife _ _ _ r => r
  | .whl _ _ r => r
theorem app_nil : ∀ r : Rows, app r .nil = r
  | .nil => rfl
  | .plain p r => congrArg (Rows.plain p) (app_nil r)
  | .call x r => congrArg (Rows.call x) (app_nil r)
  | .ife c a b r => congrArg (Rows.ife c a b) (app_nil r)
  | .whl c a r => congrArg (Rows.whl c a) (app_nil r)
theorem app_assoc (s t : Rows) : ∀ r : Rows, app (app r s) t = app r (app s t)
  | .nil => rfl
  | .plain p r => congrArg (Rows.plain p) (app_assoc s t r)
  | .call x r => congrArg (Rows.call x) (app_assoc s t r)
  | .ife c a b r => congrArg (Rows.ife c a b) (app_assoc s t r)
  | .whl c a r => congrArg (Rows.whl c a) (app_assoc s t r)
theorem hd_tl (r : Rows) : app (hd r) (tl r) = r := by cases r <;> rfl
theorem count_app (s : Rows) : ∀ r : Rows, count (app r s) = count r + count s
  | .nil => by simp [app, count]
  | .plain p r => by simp only [app, count, count_app s r]; omega
  | .call x r => by simp only [app, count, count_app s r]; omega
  | .ife c a b r => by simp only [app, count, count_app s r]; omega
  | .whl c a r => by simp only [app, count, count_app s r]; omega
theorem wide_app (s : Rows) : ∀ r : Rows, wide (app r s) = wide r + wide s
  | .nil => by simp [app, wide]
  | .plain p r => by simp only [app, wide, wide_app s r]; omega
  | .call x r => by simp only [app, wide, wide_app s r]; omega
  | .ife c a b r => by simp only [app, wide, wide_app s r]; omega
  | .whl c a r => by simp only [app, wide, wide_app s r]; omega
theorem deep_app (s : Rows) : ∀ r : Rows, deep (app r s) = max (deep r) (deep s)
  | .nil => by simp [app, deep]
  | .plain p r => by simp only [app, deep, deep_app s r]
  | .call x r => by simp only [app, deep, deep_app s r]
  | .ife c a b r => by simp only [app, deep, deep_app s r]; omega
  | .whl c a r => by simp only [app, deep, deep_app s r]; omega
theorem size_app (s : Rows) : ∀ r : Rows, size (app r s) = size r + size s
  | .nil => by simp [app, size]
  | .plain p r => by simp only [app, size, size_app s r]; omega
  | .call x r => by simp only [app, size, size_app s r]; omega
  | .ife c a b r => by simp only [app, size, size_app s r]; omega
  | .whl c a r => by simp only [app, size, size_app s r]; omega
theorem lay_app (s : Rows) : ∀ (r : Rows) (pos n : Nat), lay (app r s) pos n = lay r pos n ++ lay s (pos + size r) (n + count r)
  | .nil, pos, n => by simp [app, lay, size, count]
  | .plain p r, pos, n => by
    simp only [app, lay, lay_app s r, size, count, List.cons_append]
    rw [show pos + 1 + size r = pos + (1 + size r) by omega, show n + 1 + count r = n + (1 + count r) by omega]
  | .call x r, pos, n => by
    simp only [app, lay, lay_app s r, size, count, List.cons_append]
    rw [show pos + 1 + size r = pos + (1 + size r) by omega, show n + 1 + count r = n + (1 + count r) by omega]
  | .ife c a b r, pos, n => by
    simp only [app, lay, lay_app s r, size, count, List.cons_append, List.append_assoc]
    rw [show pos + 2 + size a + size b + size r = pos + (2 + size a + size b + size r) by omega, show n + 1 + count a + count b + count r = n + (1 + count a + count b + count r) by omega]
  | .whl c a r, pos, n => by
    simp only [app, lay, lay_app s r, size, count, List.cons_append, List.append_assoc]
    rw [show pos + 2 + size a + size r = pos + (2 + size a + size r) by omega, show n + 1 + count a + count r = n + (1 + count a + count r) by omega]
theorem rowsOk_app {G : Env} {T : Nm → Option Part} {k : Nat} {s : Rows} : ∀ {r : Rows}, RowsOk G T k (app r s) ↔ RowsOk G T k r ∧ RowsOk G T k s
  | .nil => by simp [app, RowsOk]
  | .plain p r => by simp only [app, RowsOk, rowsOk_app (r := r), and_assoc]
  | .call x r => by simp only [app, RowsOk, rowsOk_app (r := r), and_assoc]
  | .ife c a b r => by simp only [app, RowsOk, rowsOk_app (r := r), and_assoc]
  | .whl c a r => by simp only [app, RowsOk, rowsOk_app (r := r), and_assoc]
/-! ### in a heap -/
def PlV (H : Hp) : Pl → V → Prop
  | .set x e, v => ∃ u, TupV H v [.str "set", .str x, u] ∧ ExV H e u
  | .put x i e, v => ∃ u t, TupV H v [.str "put", .str x, u, t] ∧ ExV H i u ∧ ExV H e t
  | .tell e, v => ∃ u, TupV H v [.str "tell", u] ∧ ExV H e u
  | .ask x, v => TupV H v [.str "ask", .str x]
  | .way, v => TupV H v [.str "way"]
  | .stop, v => TupV H v [.str "stop"]
theorem PlV.mono {H H' : Hp} (s : Same H H') : ∀ {p : Pl} {v : V}, PlV H p v → PlV H' p v
  | .set _ _, _, ⟨u, h1, h2⟩ => ⟨u, h1.mono s, h2.mono s⟩
  | .put _ _ _, _, ⟨u, t, h1, h2, h3⟩ => ⟨u, t, h1.mono s, h2.mono s, h3.mono s⟩
  | .tell _, _, ⟨u, h1, h2⟩ => ⟨u, h1.mono s, h2.mono s⟩
  | .ask _, _, h => TupV.mono s h
  | .way, _, h => TupV.mono s h
  | .stop, _, h => TupV.mono s h
def RowsV (H : Hp) : Rows → List V → Prop
  | .nil, vs => vs = []
  | .plain p r, vs => ∃ v t, vs = v :: t ∧ PlV H p v ∧ RowsV H r t
  | .call x r, vs => ∃ v t, vs = v :: t ∧ TupV H v [.str "do", .str x] ∧ RowsV H r t
  | .ife c a b r, vs => ∃ v t u la lb va vb, vs = v :: t ∧ TupV H v [.str "if", u, .ref la, .ref lb] ∧ ExV H c u ∧ H la = some (.lst va) ∧ H lb = some (.lst vb) ∧ RowsV H a va ∧ RowsV H b vb ∧ RowsV H r t
  | .whl c a r, vs => ∃ v t u la va, vs = v :: t ∧ TupV H v [.str "while", u, .ref la] ∧ ExV H c u ∧ H la = some (.lst va) ∧ RowsV H a va ∧ RowsV H r t
theorem RowsV.mono {H H' : Hp} (s : Same H H') : ∀ {r : Rows} {vs : List V}, RowsV H r vs → RowsV H' r vs
  | .nil, _, h => h
  | .plain p r, _, ⟨v, t, h1, h2, h3⟩ => ⟨v, t, h1, h2.mono s, RowsV.mono s (r := r) h3⟩
  | .call x r, _, ⟨v, t, h1, h2, h3⟩ => ⟨v, t, h1, h2.mono s, RowsV.mono s (r := r) h3⟩
  | .ife c a b r, _, ⟨v, t, u, la, lb, va, vb, h1, h2, h3, h4, h5, h6, h7, h8⟩ => ⟨v, t, u, la, lb, va, vb, h1, h2.mono s, h3.mono s, s _ _ h4, s _ _ h5, RowsV.mono s (r := a) h6, RowsV.mono s (r := b) h7, RowsV.mono s (r := r) h8⟩
  | .whl c a r, _, ⟨v, t, u, la, va, h1, h2, h3, h4, h5, h6⟩ => ⟨v, t, u, la, va, h1, h2.mono s, h3.mono s, s _ _ h4, RowsV.mono s (r := a) h5, RowsV.mono s (r := r) h6⟩
theorem RowsV.len {H : Hp} : ∀ {r : Rows} {vs : List V}, RowsV H r vs → vs.length = wide r
  | .nil, _, h => by rw [show _ = [] from h]; rfl
  | .plain p r, _, ⟨v, t, h1, h2, h3⟩ => by rw [h1, List.length_cons, RowsV.len (r := r) h3]; simp only [wide]; omega
  | .call x r, _, ⟨v, t, h1, h2, h3⟩ => by rw [h1, List.length_cons, RowsV.len (r := r) h3]; simp only [wide]; omega
  | .ife c a b r, _, ⟨v, t, u, la, lb, va, vb, h1, h2, h3, h4, h5, h6, h7, h8⟩ => by rw [h1, List.length_cons, RowsV.len (r := r) h8]; simp only [wide]; omega
  | .whl c a r, _, ⟨v, t, u, la, va, h1, h2, h3, h4, h5, h6⟩ => by rw [h1, List.length_cons, RowsV.len (r := r) h6]; simp only [wide]; omega
theorem RowsV.app {H : Hp} {s : Rows} {us : List V} (hs : RowsV H s us) : ∀ {r : Rows} {vs : List V}, RowsV H r vs → RowsV H (GT.app r s) (vs ++ us)
  | .nil, _, h => by rw [show _ = [] from h]; exact hs
  | .plain p r, _, ⟨v, t, h1, h2, h3⟩ => ⟨v, t ++ us, by rw [h1]; rfl, h2, RowsV.app hs (r := r) h3⟩
  | .call x r, _, ⟨v, t, h1, h2, h3⟩ => ⟨v, t ++ us, by rw [h1]; rfl, h2, RowsV.app hs (r := r) h3⟩
  | .ife c a b r, _, ⟨v, t, u, la, lb, va, vb, h1, h2, h3, h4, h5, h6, h7, h8⟩ => ⟨v, t ++ us, u, la, lb, va, vb, by rw [h1]; rfl, h2, h3, h4, h5, h6, h7, RowsV.app hs (r := r) h8⟩
  | .whl c a r, _, ⟨v, t, u, la, va, h1, h2, h3, h4, h5, h6⟩ => ⟨v, t ++ us, u, la, va, by rw [h1]; rfl, h2, h3, h4, h5, RowsV.app hs (r := r) h6⟩
/-- the first one, and the others -/
theorem RowsV.uncons {H : Hp} {r : Rows} {v : V} {t : List V} (h : RowsV H r (v :: t)) : r ≠ .nil ∧ RowsV H (hd r) [v] ∧ RowsV H (tl r) t := by
  cases r with
  | nil => cases (show v :: t = [] from h)
  | plain p r =>
    obtain ⟨v', t', h1, h2, h3⟩ := h
    cases h1
    exact ⟨(fun z => nomatch z), ⟨v, [], rfl, h2, rfl⟩, h3⟩
  | call x r =>
    obtain ⟨v', t', h1, h2, h3⟩ := h
    cases h1
    exact ⟨(fun z => nomatch z), ⟨v, [], rfl, h2, rfl⟩, h3⟩
  | ife c a b r =>
    obtain ⟨v', t', u, la, lb, va, vb, h1, h2, h3, h4, h5, h6, h7, h8⟩ := h
    cases h1
    exact ⟨(fun z => nomatch z), ⟨v, [], u, la, lb, va, vb, rfl, h2, h3, h4, h5, h6, h7, rfl⟩, h8⟩
  | whl c a r =>
    obtain ⟨v', t', u, la, va, h1, h2, h3, h4, h5, h6⟩ := h
    cases h1
    exact ⟨(fun z => nomatch z), ⟨v, [], u, la, va, rfl, h2, h3, h4, h5, rfl⟩, h6⟩
/-- numbered: (number, row, inner) -/
def NumV (H : Hp) : Rows → Nat → List V → Prop
  | .nil, _, vs => vs = []
  | .plain p r, n, vs => ∃ v t rv i, vs = v :: t ∧ TupV H v [.int n, rv, .ref i] ∧ PlV H p rv ∧ NumV H r (n + 1) t
  | .call x r, n, vs => ∃ v t rv i, vs = v :: t ∧ TupV H v [.int n, rv, .ref i] ∧ TupV H rv [.str "do", .str x] ∧ NumV H r (n + 1) t
  | .ife c a b r, n, vs => ∃ v t rv i u x y la lb va vb, vs = v :: t ∧ TupV H v [.int n, rv, .ref i] ∧ TupV H rv [.str "if", u, x, y] ∧ ExV H c u ∧ H i = some (.lst [.ref la, .ref lb]) ∧ H la = some (.lst va) ∧ H lb = some (.lst vb) ∧
      NumV H a (n + 1) va ∧ NumV H b (n + 1 + count a) vb ∧ NumV H r (n + 1 + count a + count b) t
  | .whl c a r, n, vs => ∃ v t rv i u x la va, vs = v :: t ∧ TupV H v [.int n, rv, .ref i] ∧ TupV H rv [.str "while", u, x] ∧ ExV H c u ∧ H i = some (.lst [.ref la]) ∧ H la = some (.lst va) ∧ NumV H a (n + 1) va ∧ NumV H r (n + 1 + count a) t
theorem NumV.mono {H H' : Hp} (s : Same H H') : ∀ {r : Rows} {n : Nat} {vs : List V}, NumV H r n vs → NumV H' r n vs
  | .nil, _, _, h => h
  | .plain p r, _, _, ⟨v, t, rv, i, h1, h2, h3, h4⟩ => ⟨v, t, rv, i, h1, h2.mono s, h3.mono s, NumV.mono s (r := r) h4⟩
  | .call x r, _, _, ⟨v, t, rv, i, h1, h2, h3, h4⟩ => ⟨v, t, rv, i, h1, h2.mono s, h3.mono s, NumV.mono s (r := r) h4⟩
  | .ife c a b r, _, _, ⟨v, t, rv, i, u, x, y, la, lb, va, vb, h1, h2, h3, h4, h5, h6, h7, h8, h9, h10⟩ =>
    ⟨v, t, rv, i, u, x, y, la, lb, va, vb, h1, h2.mono s, h3.mono s, h4.mono s, s _ _ h5, s _ _ h6, s _ _ h7, NumV.mono s (r := a) h8, NumV.mono s (r := b) h9, NumV.mono s (r := r) h10⟩
  | .whl c a r, _, _, ⟨v, t, rv, i, u, x, la, va, h1, h2, h3, h4, h5, h6, h7, h8⟩ => ⟨v, t, rv, i, u, x, la, va, h1, h2.mono s, h3.mono s, h4.mono s, s _ _ h5, s _ _ h6, NumV.mono s (r := a) h7, NumV.mono s (r := r) h8⟩
theorem NumV.len {H : Hp} : ∀ {r : Rows} {n : Nat} {vs : List V}, NumV H r n vs → vs.length = wide r
  | .nil, _, _, h => by rw [show _ = [] from h]; rfl
  | .plain p r, _, _, ⟨v, t, rv, i, h1, h2, h3, h4⟩ => by rw [h1, List.length_cons, NumV.len (r := r) h4]; simp only [wide]; omega
  | .call x r, _, _, ⟨v, t, rv, i, h1, h2, h3, h4⟩ => by rw [h1, List.length_cons, NumV.len (r := r) h4]; simp only [wide]; omega
  | .ife c a b r, _, _, ⟨v, t, rv, i, u, x, y, la, lb, va, vb, h1, h2, h3, h4, h5, h6, h7, h8, h9, h10⟩ => by rw [h1, List.length_cons, NumV.len (r := r) h10]; simp only [wide]; omega
  | .whl c a r, _, _, ⟨v, t, rv, i, u, x, la, va, h1, h2, h3, h4, h5, h6, h7, h8⟩ => by rw [h1, List.length_cons, NumV.len (r := r) h8]; simp only [wide]; omega
theorem NumV.app {H : Hp} {s : Rows} {us : List V} : ∀ {r : Rows} {n : Nat} {vs : List V}, NumV H r n vs → NumV H s (n + count r) us → NumV H (GT.app r s) n (vs ++ us)
  | .nil, n, _, h, hs => by rw [show _ = [] from h]; exact hs
  | .plain p r, n, _, ⟨v, t, rv, i, h1, h2, h3, h4⟩, hs => ⟨v, t ++ us, rv, i, by rw [h1]; rfl, h2, h3, NumV.app (r := r) h4 (by rw [show n + 1 + count r = n + count (.plain p r) by simp only [count]; omega]; exact hs)⟩
  | .call x r, n, _, ⟨v, t, rv, i, h1, h2, h3, h4⟩, hs => ⟨v, t ++ us, rv, i, by rw [h1]; rfl, h2, h3, NumV.app (r := r) h4 (by rw [show n + 1 + count r = n + count (.call x r) by simp only [count]; omega]; exact hs)⟩
  | .ife c a b r, n, _, ⟨v, t, rv, i, u, x, y, la, lb, va, vb, h1, h2, h3, h4, h5, h6, h7, h8, h9, h10⟩, hs =>
    ⟨v, t ++ us, rv, i, u, x, y, la, lb, va, vb, by rw [h1]; rfl, h2, h3, h4, h5, h6, h7, h8, h9, NumV.app (r := r) h10 (by rw [show n + 1 + count a + count b + count r = n + count (.ife c a b r) by simp only [count]; omega]; exact hs)⟩
  | .whl c a r, n, _, ⟨v, t, rv, i, u, x, la, va, h1, h2, h3, h4, h5, h6, h7, h8⟩, hs =>
    ⟨v, t ++ us, rv, i, u, x, la, va, by rw [h1]; rfl, h2, h3, h4, h5, h6, h7, NumV.app (r := r) h8 (by rw [show n + 1 + count a + count r = n + count (.whl c a r) by simp only [count]; omega]; exact hs)⟩
/-! ### what may change -/
def Al (M : List Addr) (H : Hp) : Prop := ∀ m ∈ M, ∃ o, H m = some o
theorem Al.same {M : List Addr} {H H' : Hp} (h : Al M H) (s : Same H H') : Al M H' := fun m hm => let ⟨o, e⟩ := h m hm; ⟨o, s _ _ e⟩
theorem Al.out {M : List Addr} {H : Hp} (h : Al M H) {p : Addr} (hp : H p = none) : ¬ p ∈ M := fun hm => by
  obtain ⟨o, e⟩ := h p hm
  rw [hp] at e
  cases e
theorem Al.but {M N : List Addr} {H H' : Hp} (h : Al M H) (s : But N H H') (hN : ∀ m ∈ N, ∃ o, H' m = some o) : Al M H' := fun m hm => by
  by_cases z : m ∈ N
  · exact hN m z
  · obtain ⟨o, e⟩ := h m hm
    exact ⟨o, s m o z e⟩
/-- a new thing is not among what may change -/
theorem wo_new {M : List Addr} {H H' : Hp} (h : Al M H) {p : Addr} (hp : H p = none) {o : HO} (e : H' p = some o) : Wo M H' p = some o := wo_at e (h.out hp)
end GT
/-! The object that runs: where its parts stand. -/
namespace GT
open PySem PySem.Spec PyProof.Rows L2
/-! ### fields -/
theorem lk {k x : Str} {v : V} {r : List (Str × V)} : ((k, v) :: r).lookup x = if x = k then some v else r.lookup x := by
  rw [List.lookup_cons]
  by_cases h : x = k
  · rw [if_pos h, beq_iff_eq.mpr h]
  · rw [if_neg h, beq_eq_false_iff_ne.mpr h]
theorem putF_nil {f : Str} {v : V} : putF f v [] = [(f, v)] := rfl
theorem putF_skip {f k : Str} {u v : V} {r : List (Str × V)} (h : k ≠ f) : putF f v ((k, u) :: r) = (k, u) :: putF f v r := by
  show (if k = f then (k, v) :: r else (k, u) :: putF f v r) = _
  rw [if_neg h]
structure Gd where
  g : Addr
  dx : Addr
  c : Addr
  t : Addr
  l : Addr
  most : Nat
  st : Addr
  pt : Addr
  mn : Addr
def gf (d : Gd) : List (Str × V) := [("cells", .ref d.c), ("told", .ref d.t), ("left", .ref d.l), ("most", .int d.most), ("steps", .ref d.st), ("parts", .ref d.pt), ("main", .ref d.mn)]
theorem gf_cells (d : Gd) : (gf d).lookup ("cells" : Str) = some (.ref d.c) := by unfold gf; rw [lk, if_pos rfl]
theorem gf_told (d : Gd) : (gf d).lookup ("told" : Str) = some (.ref d.t) := by unfold gf; rw [lk, if_neg (by decide +kernel), lk, if_pos rfl]
theorem gf_left (d : Gd) : (gf d).lookup ("left" : Str) = some (.ref d.l) := by unfold gf; rw [lk, if_neg (by decide +kernel), lk, if_neg (by decide +kernel), lk, if_pos rfl]
theorem gf_most (d : Gd) : (gf d).lookup ("most" : Str) = some (.int d.most) := by unfold gf; rw [lk, if_neg (by decide +kernel), lk, if_neg (by decide +kernel), lk, if_neg (by decide +kernel), lk, if_pos rfl]
theorem gf_steps (d : Gd) : (gf d).lookup ("steps" : Str) = some (.ref d.st) := by
  unfold gf; rw [lk, if_neg (by decide +kernel), lk, if_neg (by decide +kernel), lk, if_neg (by decide +kernel), lk, if_neg (by decide +kernel), lk, if_pos rfl]
theorem gf_parts (d : Gd) : (gf d).lookup ("parts" : Str) = some (.ref d.pt) := by
  unfold gf; rw [lk, if_neg (by decide +kernel), lk, if_neg (by decide +kernel), lk, if_neg (by decide +kernel), lk, if_neg (by decide +kernel), lk, if_neg (by decide +kernel), lk, if_pos rfl]
theorem gf_main (d : Gd) : (gf d).lookup ("main" : Str) = some (.ref d.mn) := by
  unfold gf; rw [lk, if_neg (by decide +kernel), lk, if_neg (by decide +kernel), lk, if_neg (by decide +kernel), lk, if_neg (by decide +kernel), lk, if_neg (by decide +kernel), lk, if_neg (by decide +kernel), lk, if_pos rfl]
theorem gf_no (d : Gd) {x : Str} (h : (["cells", "told", "left", "most", "steps", "parts", "main"] : List Str).all (fun y => decide (x ≠ y)) = true) : (gf d).lookup x = none := by
  have h' := fun y hy => of_decide_eq_true (List.all_eq_true.mp h y hy)
  unfold gf
  rw [lk, if_neg (h' _ (by simp)), lk, if_neg (h' _ (by simp)), lk, if_neg (h' _ (by simp)), lk, if_neg (h' _ (by simp)), lk, if_neg (h' _ (by simp)), lk, if_neg (h' _ (by simp)), lk, if_neg (h' _ (by simp))]
  rfl
/-! ### the cells, their lists at as -/
def KvA (H : Hp) : Cells → List (Key × V) → List Addr → Prop
  | [], kvs, as => kvs = [] ∧ as = []
  | (x, .one n) :: r, kvs, as => ∃ t, kvs = (.inr x, .int n) :: t ∧ KvA H r t as
  | (x, .many l) :: r, kvs, as => ∃ t a bs, kvs = (.inr x, .ref a) :: t ∧ as = a :: bs ∧ H a = some (.lst (il l)) ∧ KvA H r t bs
theorem KvA.mono {H H' : Hp} : ∀ {cs : Cells} {kvs : List (Key × V)} {as : List Addr}, (∀ a ∈ as, ∀ o, H a = some o → H' a = some o) → KvA H cs kvs as → KvA H' cs kvs as
  | [], _, _, _, h => h
  | (x, .one n) :: r, _, _, s, ⟨t, h1, h2⟩ => ⟨t, h1, KvA.mono s h2⟩
  | (x, .many l) :: r, _, as, s, ⟨t, a, bs, h1, h2, h3, h4⟩ => ⟨t, a, bs, h1, h2, s a (by rw [h2]; exact List.mem_cons_self) _ h3, KvA.mono (fun b hb => s b (by rw [h2]; exact List.mem_cons_of_mem _ hb)) h4⟩
theorem KvA.kvs {H : Hp} : ∀ {cs : Cells} {kvs : List (Key × V)} {as : List Addr}, KvA H cs kvs as → KvsV H cs kvs
  | [], _, _, h => by rw [h.1]; trivial
  | (x, .one n) :: r, _, _, ⟨t, h1, h2⟩ => by rw [h1]; exact ⟨rfl, rfl, KvA.kvs h2⟩
  | (x, .many l) :: r, _, _, ⟨t, a, bs, h1, h2, h3, h4⟩ => by rw [h1]; exact ⟨rfl, ⟨a, rfl, h3⟩, KvA.kvs h4⟩
/-- a list's place -/
theorem KvA.many {H : Hp} {x : Nm} {l : List Int} : ∀ {cs : Cells} {kvs : List (Key × V)} {as : List Addr}, KvA H cs kvs as → get cs x = some (.many l) → ∃ a, a ∈ as ∧ valV kvs (.inr x) = some (.ref a) ∧ H a = some (.lst (il l))
  | [], _, _, _, g => by simp [get] at g
  | (y, .one n) :: r, _, as, ⟨t, h1, h2⟩, g => by
    have e : ¬ y = x := fun z => by rw [get_pos z] at g; cases g
    rw [get_neg e] at g
    obtain ⟨a, k1, k2, k3⟩ := KvA.many h2 g
    exact ⟨a, k1, by rw [h1, valV_neg (fun z => e (Sum.inr.inj z))]; exact k2, k3⟩
  | (y, .many m) :: r, _, as, ⟨t, a, bs, h1, h2, h3, h4⟩, g => by
    by_cases e : y = x
    · rw [get_pos e] at g
      cases g
      exact ⟨a, by rw [h2]; exact List.mem_cons_self, by rw [h1, valV_pos (congrArg Sum.inr e)], h3⟩
    · rw [get_neg e] at g
      obtain ⟨b, k1, k2, k3⟩ := KvA.many h4 g
      exact ⟨b, by rw [h2]; exact List.mem_cons_of_mem _ k1, by rw [h1, valV_neg (fun z => e (Sum.inr.inj z))]; exact k2, k3⟩
theorem put_none {x : Nm} {c : Cell} : ∀ {cs : Cells}, ¬ x ∈ cs.map (·.1) → put cs x c = cs
  | [], _ => rfl
  | (y, d) :: r, h => by
    have e : ¬ y = x := fun z => h (by simp [z])
    rw [put_neg e, put_none fun z => h (List.mem_cons_of_mem _ z)]
theorem map_none {k : Key} {v : V} : ∀ {kvs : List (Key × V)}, ¬ k ∈ kvs.map (·.1) → kvs.map (fun kv => if kv.1 = k then (kv.1, v) else kv) = kvs
  | [], _ => rfl
  | (y, d) :: r, h => by
    have e : ¬ y = k := fun z => h (by simp [z])
    rw [List.map_cons, map_none fun z => h (List.mem_cons_of_mem _ z)]
    show (if y = k then (y, v) else (y, d)) :: r = (y, d) :: r
    rw [if_neg e]
theorem KvA.keys {H : Hp} : ∀ {cs : Cells} {kvs : List (Key × V)} {as : List Addr}, KvA H cs kvs as → kvs.map (·.1) = cs.map fun p => (.inr p.1 : Key)
  | [], _, _, h => by rw [h.1]; rfl
  | (x, .one n) :: r, _, _, ⟨t, h1, h2⟩ => by rw [h1]; exact congrArg (List.cons (Sum.inr x)) (KvA.keys h2)
  | (x, .many l) :: r, _, _, ⟨t, a, bs, h1, h2, h3, h4⟩ => by rw [h1]; exact congrArg (List.cons (Sum.inr x)) (KvA.keys h4)
theorem KvA.nokey {H : Hp} {cs : Cells} {kvs : List (Key × V)} {as : List Addr} (h : KvA H cs kvs as) {x : Nm} (n : ¬ x ∈ cs.map (·.1)) : ¬ (.inr x : Key) ∈ kvs.map (·.1) := fun m => by
  rw [h.keys] at m
  obtain ⟨p, hp, e⟩ := List.mem_map.mp m
  exact n (List.mem_map.mpr ⟨p, hp, Sum.inr.inj e⟩)
/-- a number stored at a number's name -/
theorem KvA.setM {H : Hp} {x : Nm} {i v : Int} : ∀ {cs : Cells} {kvs : List (Key × V)} {as : List Addr}, (cs.map (·.1)).Nodup → KvA H cs kvs as → get cs x = some (.one i) → KvA H (put cs x (.one v)) (kvs.map fun kv => if kv.1 = .inr x then (kv.1, .int v) else kv) as
  | [], _, _, _, _, g => by simp [get] at g
  | (y, .one n) :: r, _, as, hn, ⟨t, h1, h2⟩, g => by
    have hn' : (y :: r.map (·.1)).Nodup := hn
    obtain ⟨n1, n2⟩ := List.nodup_cons.mp hn'
    rw [h1, List.map_cons]
    by_cases e : y = x
    · subst e
      rw [put_pos rfl, put_none n1, if_pos rfl, map_none (h2.nokey n1)]
      exact ⟨t, rfl, h2⟩
    · rw [get_neg e] at g
      rw [put_neg e, if_neg (fun z => e (Sum.inr.inj z))]
      exact ⟨_, rfl, KvA.setM n2 h2 g⟩
  | (y, .many m) :: r, _, as, hn, ⟨t, a, bs, h1, h2, h3, h4⟩, g => by
    have hn' : (y :: r.map (·.1)).Nodup := hn
    obtain ⟨n1, n2⟩ := List.nodup_cons.mp hn'
    have e : ¬ y = x := fun z => by rw [get_pos z] at g; cases g
    rw [get_neg e] at g
    rw [h1, List.map_cons, put_neg e, if_neg (fun z => e (Sum.inr.inj z))]
    exact ⟨_, a, bs, rfl, h2, h3, KvA.setM n2 h4 g⟩
theorem KvA.set {H : Hp} {x : Nm} {i v : Int} {cs : Cells} {kvs : List (Key × V)} {as : List Addr} (hn : (cs.map (·.1)).Nodup) (h : KvA H cs kvs as) (g : get cs x = some (.one i)) : KvA H (put cs x (.one v)) (putK kvs (.inr x) (.int v)) as := by
  obtain ⟨u, h1, _⟩ := kvs_get h.kvs g
  rw [putK_has h1]
  exact h.setM hn g
/-- a list changed at its place -/
theorem KvA.lst {H : Hp} {x : Nm} {l l' : List Int} {a : Addr} : ∀ {cs : Cells} {kvs : List (Key × V)} {as : List Addr}, (cs.map (·.1)).Nodup → as.Nodup → KvA H cs kvs as → get cs x = some (.many l) → valV kvs (.inr x) = some (.ref a) →
    KvA (upd H a (.lst (il l'))) (put cs x (.many l')) kvs as
  | [], _, _, _, _, _, g, _ => by simp [get] at g
  | (y, .one n) :: r, _, as, hn, ha, ⟨t, h1, h2⟩, g, hv => by
    have hn' : (y :: r.map (·.1)).Nodup := hn
    obtain ⟨n1, n2⟩ := List.nodup_cons.mp hn'
    have e : ¬ y = x := fun z => by rw [get_pos z] at g; cases g
    rw [get_neg e] at g
    rw [h1, valV_neg (fun z => e (Sum.inr.inj z))] at hv
    rw [put_neg e]
    exact ⟨t, h1, KvA.lst n2 ha h2 g hv⟩
  | (y, .many m) :: r, _, as, hn, ha, ⟨t, b, bs, h1, h2, h3, h4⟩, g, hv => by
    have hn' : (y :: r.map (·.1)).Nodup := hn
    obtain ⟨n1, n2⟩ := List.nodup_cons.mp hn'
    rw [h2] at ha
    obtain ⟨a1, a2⟩ := List.nodup_cons.mp ha
    by_cases e : y = x
    · subst e
      rw [h1, valV_pos rfl] at hv
      cases hv
      rw [put_pos rfl, put_none n1]
      exact ⟨t, _, bs, h1, h2, upd_same, h4.mono fun q hq o ho => by rw [upd_ne (fun z => a1 (by rw [← z]; exact hq))]; exact ho⟩
    · rw [get_neg e] at g
      rw [h1, valV_neg (fun z => e (Sum.inr.inj z))] at hv
      rw [put_neg e]
      have hm : a ∈ bs := by
        obtain ⟨q, k1, k2, _⟩ := h4.many g
        rw [hv] at k2
        cases k2
        exact k1
      exact ⟨t, b, bs, h1, h2, by rw [upd_ne (fun z => a1 (by rw [z]; exact hm))]; exact h3, KvA.lst n2 a2 h4 g hv⟩
/-! ### the steps told -/
def StepsV (S : Hp) : List (Nat × Cells × List Int) → List V → Prop
  | [], vs => vs = []
  | (n, cs, told) :: r, vs => ∃ v t c l, vs = v :: t ∧ TupV S v [.int n, .ref c, .ref l] ∧ CsV S c cs ∧ S l = some (.lst (il told)) ∧ StepsV S r t
theorem StepsV.mono {S S' : Hp} (s : Same S S') : ∀ {r : List (Nat × Cells × List Int)} {vs : List V}, StepsV S r vs → StepsV S' r vs
  | [], _, h => h
  | (n, cs, told) :: r, _, ⟨v, t, c, l, h1, h2, h3, h4, h5⟩ => ⟨v, t, c, l, h1, h2.mono s, h3.mono s, s _ _ h4, StepsV.mono s h5⟩
theorem StepsV.len {S : Hp} : ∀ {r : List (Nat × Cells × List Int)} {vs : List V}, StepsV S r vs → vs.length = r.length
  | [], _, h => by rw [show _ = [] from h]; rfl
  | (n, cs, told) :: r, _, ⟨v, t, c, l, h1, h2, h3, h4, h5⟩ => by rw [h1, List.length_cons, StepsV.len h5, List.length_cons]
theorem StepsV.snoc {S : Hp} {n : Nat} {cs : Cells} {told : List Int} {v : V} {c l : Addr} (h2 : TupV S v [.int n, .ref c, .ref l]) (h3 : CsV S c cs) (h4 : S l = some (.lst (il told))) :
    ∀ {r : List (Nat × Cells × List Int)} {vs : List V}, StepsV S r vs → StepsV S (r ++ [(n, cs, told)]) (vs ++ [v])
  | [], _, h => by rw [show _ = [] from h]; exact ⟨v, [], c, l, rfl, h2, h3, h4, rfl⟩
  | (n', cs', told') :: r, _, ⟨v', t, c', l', k1, k2, k3, k4, k5⟩ => ⟨v', t ++ [v], c', l', by rw [k1]; rfl, k2, k3, k4, StepsV.snoc h2 h3 h4 k5⟩
/-! ### the object -/
def muts (d : Gd) (as : List Addr) : List Addr := d.g :: d.c :: d.t :: d.l :: d.st :: as
structure GoAt (C : Addr) (d : Gd) (as : List Addr) (H : Hp) (s : Sta) : Prop where
  ob : H d.g = some (.ins C d.dx (gf d))
  cs : ∃ kvs, H d.c = some (.dK kvs) ∧ KvA H s.cs kvs as
  told : H d.t = some (.lst (il s.told))
  left : H d.l = some (.lst (il s.left))
  stp : ∃ vs, H d.st = some (.lst vs) ∧ StepsV (Wo (muts d as) H) s.steps vs
  nd : (muts d as).Nodup
  as_ : ∀ a ∈ as, ∃ l, H a = some (.lst l)
section
variable {C : Addr} {d : Gd} {as : List Addr} {H H' : Hp} {s : Sta}
theorem m_g : d.g ∈ muts d as := by simp [muts]
theorem m_c : d.c ∈ muts d as := by simp [muts]
theorem m_t : d.t ∈ muts d as := by simp [muts]
theorem m_l : d.l ∈ muts d as := by simp [muts]
theorem m_st : d.st ∈ muts d as := by simp [muts]
theorem m_as {a : Addr} (h : a ∈ as) : a ∈ muts d as := by simp [muts, h]
theorem GoAt.al (h : GoAt C d as H s) : Al (muts d as) H := fun m hm => by
  obtain ⟨kvs, hc, _⟩ := h.cs
  obtain ⟨vs, hs, _⟩ := h.stp
  simp only [muts, List.mem_cons] at hm
  rcases hm with rfl | rfl | rfl | rfl | rfl | hm
  · exact ⟨_, h.ob⟩
  · exact ⟨_, hc⟩
  · exact ⟨_, h.told⟩
  · exact ⟨_, h.left⟩
  · exact ⟨_, hs⟩
  · obtain ⟨l, e⟩ := h.as_ m hm
    exact ⟨_, e⟩
theorem GoAt.same (h : GoAt C d as H s) (e : Same H H') : GoAt C d as H' s := by
  obtain ⟨kvs, hc, hk⟩ := h.cs
  obtain ⟨vs, hs, hv⟩ := h.stp
  exact ⟨e _ _ h.ob, ⟨kvs, e _ _ hc, hk.mono fun a _ o q => e _ _ q⟩, e _ _ h.told, e _ _ h.left, ⟨vs, e _ _ hs, hv.mono (Same.wo e)⟩, h.nd, fun a ha => let ⟨l, q⟩ := h.as_ a ha; ⟨l, e _ _ q⟩⟩
theorem GoAt.csv (h : GoAt C d as H s) : CsV H d.c s.cs := let ⟨kvs, hc, hk⟩ := h.cs; ⟨kvs, hc, hk.kvs⟩
/-- two of those that may change are not one -/
theorem GoAt.ne (h : GoAt C d as H s) : d.g ≠ d.c ∧ d.g ≠ d.t ∧ d.g ≠ d.l ∧ d.g ≠ d.st ∧ d.c ≠ d.t ∧ d.c ≠ d.l ∧ d.c ≠ d.st ∧ d.t ≠ d.l ∧ d.t ≠ d.st ∧ d.l ≠ d.st ∧ (∀ a ∈ as, a ≠ d.g ∧ a ≠ d.c ∧ a ≠ d.t ∧ a ≠ d.l ∧ a ≠ d.st) ∧ as.Nodup := by
  have n := h.nd
  simp only [muts, List.nodup_cons, List.mem_cons, not_or] at n
  obtain ⟨⟨a1, a2, a3, a4, a5⟩, ⟨b2, b3, b4, b5⟩, ⟨c3, c4, c5⟩, ⟨e4, e5⟩, f5, g⟩ := n
  exact ⟨a1, a2, a3, a4, b2, b3, b4, c3, c4, e4, fun a ha => ⟨fun z => a5 (z ▸ ha), fun z => b5 (z ▸ ha), fun z => c5 (z ▸ ha), fun z => e5 (z ▸ ha), fun z => f5 (z ▸ ha)⟩, g⟩
theorem GoAt.tell (h : GoAt C d as H s) (v : Int) : GoAt C d as (upd H d.t (.lst (il s.told ++ [.int v]))) { s with told := s.told ++ [v] } := by
  obtain ⟨kvs, hc, hk⟩ := h.cs
  obtain ⟨vs, hs, hv⟩ := h.stp
  obtain ⟨n1, n2, n3, n4, n5, n6, n7, n8, n9, n10, na, _⟩ := h.ne
  have w := (But.put (But.refl (muts d as) H) m_t (.lst (il s.told ++ [.int v]))).wo
  refine ⟨by rw [upd_ne n2]; exact h.ob, ⟨kvs, by rw [upd_ne n5]; exact hc, hk.mono fun a ha o q => by rw [upd_ne (na a ha).2.2.1]; exact q⟩, ?_, by rw [upd_ne n8.symm]; exact h.left, ⟨vs, by rw [upd_ne n9.symm]; exact hs, hv.mono w⟩, h.nd,
    fun a ha => let ⟨l, q⟩ := h.as_ a ha; ⟨l, by rw [upd_ne (na a ha).2.2.1]; exact q⟩⟩
  rw [upd_same]
  show _ = some (HO.lst (il (s.told ++ [v])))
  rw [il, il, List.map_append]
  rfl
theorem GoAt.leave (h : GoAt C d as H s) (l : List Int) : GoAt C d as (upd H d.l (.lst (il l))) { s with left := l } := by
  obtain ⟨kvs, hc, hk⟩ := h.cs
  obtain ⟨vs, hs, hv⟩ := h.stp
  obtain ⟨n1, n2, n3, n4, n5, n6, n7, n8, n9, n10, na, _⟩ := h.ne
  have w := (But.put (But.refl (muts d as) H) m_l (.lst (il l))).wo
  exact ⟨by rw [upd_ne n3]; exact h.ob, ⟨kvs, by rw [upd_ne n6]; exact hc, hk.mono fun a ha o q => by rw [upd_ne (na a ha).2.2.2.1]; exact q⟩, by rw [upd_ne n8]; exact h.told, upd_same, ⟨vs, by rw [upd_ne n10.symm]; exact hs, hv.mono w⟩, h.nd,
    fun a ha => let ⟨l, q⟩ := h.as_ a ha; ⟨l, by rw [upd_ne (na a ha).2.2.2.1]; exact q⟩⟩
/-- a number's cell is set -/
theorem GoAt.set (h : GoAt C d as H s) {x : Nm} {i v : Int} (hn : (s.cs.map (·.1)).Nodup) (g : get s.cs x = some (.one i)) {kvs : List (Key × V)} (hc : H d.c = some (.dK kvs)) :
    GoAt C d as (upd H d.c (.dK (putK kvs (.inr x) (.int v)))) { s with cs := put s.cs x (.one v) } := by
  obtain ⟨kvs', hc', hk⟩ := h.cs
  have ek : kvs' = kvs := by rw [hc] at hc'; cases hc'; rfl
  subst ek
  obtain ⟨vs, hs, hv⟩ := h.stp
  obtain ⟨n1, n2, n3, n4, n5, n6, n7, n8, n9, n10, na, _⟩ := h.ne
  have w := (But.put (But.refl (muts d as) H) m_c (.dK (putK kvs' (.inr x) (.int v)))).wo
  exact ⟨by rw [upd_ne n1]; exact h.ob, ⟨_, upd_same, (hk.set hn g).mono fun a ha o q => by rw [upd_ne (na a ha).2.1]; exact q⟩, by rw [upd_ne n5.symm]; exact h.told, by rw [upd_ne n6.symm]; exact h.left, ⟨vs, by rw [upd_ne n7.symm]; exact hs, hv.mono w⟩, h.nd,
    fun a ha => let ⟨l, q⟩ := h.as_ a ha; ⟨l, by rw [upd_ne (na a ha).2.1]; exact q⟩⟩
theorem GoAt.lst (h : GoAt C d as H s) {x : Nm} {l l' : List Int} {a : Addr} (hn : (s.cs.map (·.1)).Nodup) (g : get s.cs x = some (.many l)) {kvs : List (Key × V)} (hc : H d.c = some (.dK kvs)) (hv : valV kvs (.inr x) = some (.ref a)) :
    a ∈ as ∧ H a = some (.lst (il l)) ∧ GoAt C d as (upd H a (.lst (il l'))) { s with cs := put s.cs x (.many l') } := by
  obtain ⟨kvs', hc', hk⟩ := h.cs
  have ek : kvs' = kvs := by rw [hc] at hc'; cases hc'; rfl
  subst ek
  obtain ⟨vs, hs, hv'⟩ := h.stp
  obtain ⟨n1, n2, n3, n4, n5, n6, n7, n8, n9, n10, na, hnd⟩ := h.ne
  obtain ⟨b, hb, hb2, hb3⟩ := hk.many g
  rw [hv] at hb2
  cases hb2
  obtain ⟨q1, q2, q3, q4, q5⟩ := na a hb
  have w := (But.put (But.refl (muts d as) H) (m_as hb) (.lst (il l'))).wo
  refine ⟨hb, hb3, by rw [upd_ne q1.symm]; exact h.ob, ⟨kvs', by rw [upd_ne q2.symm]; exact hc, hk.lst hn hnd g hv⟩, by rw [upd_ne q3.symm]; exact h.told, by rw [upd_ne q4.symm]; exact h.left, ⟨vs, by rw [upd_ne q5.symm]; exact hs, hv'.mono w⟩, h.nd, fun b hb => ?_⟩
  by_cases z : b = a
  · subst z
    exact ⟨_, upd_same⟩
  · rw [upd_ne z]
    exact h.as_ b hb
/-- a step is noted: new things at p (the cells), q (what was told), r (the step) -/
theorem GoAt.mark (h : GoAt C d as H s) {n : Nat} {p q r : Addr} {vs : List V} (e : Same H H') (hst : H d.st = some (.lst vs)) (hp : H p = none) (hq : H q = none) (hr : H r = none) (kp : CsV (Wo (muts d as) H') p s.cs) (kq : H' q = some (.lst (il s.told))) (kr : H' r = some (.tup [.int n, .ref p, .ref q])) :
    GoAt C d as (upd H' d.st (.lst (vs ++ [.ref r]))) (GT.mark n s) := by
  have h' := h.same e
  obtain ⟨kvs, hc, hk⟩ := h'.cs
  obtain ⟨vs', hs, hv⟩ := h'.stp
  have ev : vs' = vs := by rw [e _ _ hst] at hs; cases hs; rfl
  subst ev
  obtain ⟨n1, n2, n3, n4, n5, n6, n7, n8, n9, n10, na, _⟩ := h.ne
  have w := (But.put (But.refl (muts d as) H') m_st (.lst (vs' ++ [.ref r]))).wo
  have al := h.al
  refine ⟨by rw [upd_ne n4]; exact h'.ob, ⟨kvs, by rw [upd_ne n7]; exact hc, hk.mono fun a ha o q => by rw [upd_ne (na a ha).2.2.2.2]; exact q⟩, by rw [upd_ne n9]; exact h'.told, by rw [upd_ne n10]; exact h'.left, ⟨_, upd_same, ?_⟩, h.nd,
    fun a ha => let ⟨l, q⟩ := h'.as_ a ha; ⟨l, by rw [upd_ne (na a ha).2.2.2.2]; exact q⟩⟩
  exact StepsV.snoc ⟨r, rfl, w _ _ (wo_at kr (al.out hr))⟩ (kp.mono w) (w _ _ (wo_at kq (al.out hq))) (hv.mono w)
end
end GT
/-! == of lists of numbers. -/
namespace GT
open PySem PySem.Spec PyProof.Rows L2
abbrev dI (l : List Int) : List PyData := l.map PyData.int
theorem dp_il {K : PySem.W.Frag} {H : Hp} : ∀ l : List Int, DpAll K H (il l) (dI l)
  | [] => .nil
  | i :: l => .cons (.int i) (dp_il l)
theorem lay_il : ∀ l : List Int, PyData.canLayAll0 (dI l) = true
  | [] => by simp [PyData.canLayAll0]
  | i :: l => by
    show PyData.canLayAll0 (PyData.int i :: dI l) = true
    rw [PyData.canLayAll0, lay_il l]
    simp [PyData.canLay0]
theorem dep_il : ∀ l : List Int, PyData.depthAll (dI l) ≤ 1
  | [] => by simp [PyData.depthAll]
  | i :: l => by
    have h := dep_il l
    show PyData.depthAll (PyData.int i :: dI l) ≤ 1
    rw [PyData.depthAll]
    simp only [PyData.depth]
    omega
theorem shaped_il (l : List Int) : SeqAt.shaped (.list (dI l)) = true := by
  unfold SeqAt.shaped
  rw [Bool.and_eq_true]
  refine ⟨by rw [PyData.canLay0]; exact lay_il l, decide_eq_true ?_⟩
  have h := dep_il l
  rw [PyData.depth]
  omega
theorem eqv_il : ∀ l m : List Int, PyData.eqvAll (dI l) (dI m) = decide (l = m)
  | [], [] => by simp [PyData.eqvAll]
  | [], j :: m => by simp [PyData.eqvAll]
  | i :: l, [] => by simp [PyData.eqvAll]
  | i :: l, j :: m => by
    show PyData.eqvAll (PyData.int i :: dI l) (PyData.int j :: dI m) = _
    rw [PyData.eqvAll, eqv_il l m, PyData.eqv]
    by_cases h1 : i = j
    · subst h1
      by_cases h2 : l = m
      · subst h2
        simp
      · simp [h2]
    · simp [h1]
theorem eqv_l (l m : List Int) : PyData.eqv (.list (dI l)) (.list (dI m)) = decide (l = m) := by rw [PyData.eqv, eqv_il]
end GT
/-! Whole trees: variables, parts, main. -/
namespace GT
open PySem PySem.Spec PyProof.Rows L2
def rSetD : V → V → V → Hp → (Hp → Prop) → Prop := fun o i v H Q => ∃ a H', o = .ref a ∧ DPut H a i v H' ∧ Q H'
theorem set_dict {X : Cx} (hu : X.A.units + 1 < cLine) : PSet X rSetD := fun pins s σ H o i v ov iv u Q I ro ri rv ⟨a, H', e, g, q⟩ => by
  subst e
  obtain rfl : ov = Value.ref a := ro
  exact d_setItem hu I g ri rv fun s' I' => ⟨H', I', q⟩
structure Decl where
  kd : Kd
  name : Nm
  size : Nat
def kdS : Kd → Str
  | .num => "num"
  | .flag => "flag"
  | .list => "list"
def cell0 (d : Decl) : Cell := match d.kd with
  | .list => .many (List.replicate d.size 0)
  | _ => .one 0
def initc (D : List Decl) : Cells := D.map fun d => (d.name, cell0 d)
def envOf (D : List Decl) : Env := D.map fun d => (d.name, d.kd)
theorem init_ok : ∀ {D : List Decl}, (∀ d ∈ D, d.size ≤ 99) → CsOk (envOf D) (initc D)
  | [], _ => trivial
  | d :: D, h => by
    refine ⟨rfl, ?_, init_ok fun e he => h e (List.mem_cons_of_mem _ he)⟩
    have h1 := h d List.mem_cons_self
    unfold cell0
    cases d.kd with
    | num => exact ⟨by decide, by decide⟩
    | flag => exact .inl rfl
    | list => exact ⟨by rw [List.length_replicate]; exact h1, fun v hv => by rw [(List.mem_replicate.mp hv).2]; exact ⟨by decide, by decide⟩⟩
def DeclsV (S : Hp) : List Decl → List V → Prop
  | [], vs => vs = []
  | d :: D, vs => ∃ v t, vs = v :: t ∧ TupV S v [.str (kdS d.kd), .str d.name, .int d.size] ∧ DeclsV S D t
theorem DeclsV.mono {S S' : Hp} (s : Same S S') : ∀ {D : List Decl} {vs : List V}, DeclsV S D vs → DeclsV S' D vs
  | [], _, h => h
  | d :: D, _, ⟨v, t, h1, h2, h3⟩ => ⟨v, t, h1, h2.mono s, h3.mono s⟩
theorem DeclsV.len {S : Hp} : ∀ {D : List Decl} {vs : List V}, DeclsV S D vs → vs.length = D.length
  | [], _, h => by rw [show _ = [] from h]; rfl
  | d :: D, _, ⟨v, t, h1, h2, h3⟩ => by rw [h1, List.length_cons, h3.len, List.length_cons]
theorem DeclsV.at_ {S : Hp} : ∀ {D : List Decl} {vs : List V} {i : Nat} {x : V}, DeclsV S D vs → vs[i]? = some x → ∃ d p, D[i]? = some d ∧ x = .ref p ∧ S p = some (.tup [.str (kdS d.kd), .str d.name, .int d.size])
  | [], _, i, x, h, e => by rw [show _ = [] from h] at e; simp at e
  | d :: D, _, 0, x, ⟨v, t, h1, ⟨p, h2, h3⟩, h4⟩, e => by
    rw [h1] at e
    cases Option.some.inj e
    exact ⟨d, p, rfl, h2, h3⟩
  | d :: D, _, i + 1, x, ⟨v, t, h1, h2, h3⟩, e => by
    rw [h1] at e
    exact DeclsV.at_ (i := i) h3 e
def PartsV (S : Hp) : List (Nm × Rows) → List V → Prop
  | [], vs => vs = []
  | (x, r) :: ps, vs => ∃ v t l xs, vs = v :: t ∧ TupV S v [.str x, .ref l] ∧ S l = some (.lst xs) ∧ RowsV S r xs ∧ PartsV S ps t
theorem PartsV.mono {S S' : Hp} (s : Same S S') : ∀ {ps : List (Nm × Rows)} {vs : List V}, PartsV S ps vs → PartsV S' ps vs
  | [], _, h => h
  | (x, r) :: ps, _, ⟨v, t, l, xs, h1, h2, h3, h4, h5⟩ => ⟨v, t, l, xs, h1, h2.mono s, s _ _ h3, h4.mono s, h5.mono s⟩
theorem PartsV.len {S : Hp} : ∀ {ps : List (Nm × Rows)} {vs : List V}, PartsV S ps vs → vs.length = ps.length
  | [], _, h => by rw [show _ = [] from h]; rfl
  | (x, r) :: ps, _, ⟨v, t, l, xs, h1, h2, h3, h4, h5⟩ => by rw [h1, List.length_cons, h5.len, List.length_cons]
theorem PartsV.at_ {S : Hp} : ∀ {ps : List (Nm × Rows)} {vs : List V} {i : Nat} {x : V}, PartsV S ps vs → vs[i]? = some x → ∃ y r p l xs, ps[i]? = some (y, r) ∧ x = .ref p ∧ S p = some (.tup [.str y, .ref l]) ∧ S l = some (.lst xs) ∧ RowsV S r xs
  | [], _, i, x, h, e => by rw [show _ = [] from h] at e; simp at e
  | (y, r) :: ps, _, 0, x, ⟨v, t, l, xs, h1, ⟨p, h2, h2'⟩, h3, h4, h5⟩, e => by
    rw [h1] at e
    cases Option.some.inj e
    exact ⟨y, r, p, l, xs, rfl, h2, h2', h3, h4⟩
  | (y, r) :: ps, _, i + 1, x, ⟨v, t, l, xs, h1, h2, h3, h4, h5⟩, e => by
    rw [h1] at e
    exact PartsV.at_ (i := i) h5 e
theorem PartsV.snoc {S : Hp} {x : Nm} {r : Rows} {v : V} {l : Addr} {xs : List V} (h2 : TupV S v [.str x, .ref l]) (h3 : S l = some (.lst xs)) (h4 : RowsV S r xs) : ∀ {ps : List (Nm × Rows)} {vs : List V}, PartsV S ps vs → PartsV S (ps ++ [(x, r)]) (vs ++ [v])
  | [], _, h => by rw [show _ = [] from h]; exact ⟨v, [], l, xs, rfl, h2, h3, h4, rfl⟩
  | (y, q) :: ps, _, ⟨v', t, l', xs', k1, k2, k3, k4, k5⟩ => ⟨v', t ++ [v], l', xs', by rw [k1]; rfl, k2, k3, k4, PartsV.snoc h2 h3 h4 k5⟩
structure Tree where
  D : List Decl
  ps : List (Nm × Rows)
  main : Rows
def TreeV (S : Hp) (v : V) (t : Tree) : Prop := ∃ lv lp lm dv pv mv, TupV S v [.ref lv, .ref lp, .ref lm] ∧ S lv = some (.lst dv) ∧ DeclsV S t.D dv ∧ S lp = some (.lst pv) ∧ PartsV S t.ps pv ∧ S lm = some (.lst mv) ∧ RowsV S t.main mv
theorem TreeV.mono {S S' : Hp} (s : Same S S') {v : V} {t : Tree} (h : TreeV S v t) : TreeV S' v t := by
  obtain ⟨lv, lp, lm, dv, pv, mv, h1, h2, h3, h4, h5, h6, h7⟩ := h
  exact ⟨lv, lp, lm, dv, pv, mv, h1.mono s, s _ _ h2, h3.mono s, s _ _ h4, h5.mono s, s _ _ h6, h7.mono s⟩
/-- the parts by name: their place, their rows, the number of their first statement -/
def tabOf : List (Nm × Rows) → Nat → Nat → Nm → Option Part
  | [], _, _, _ => none
  | (y, r) :: ps, n, i, x => if y = x then some ⟨i, r, n⟩ else tabOf ps (n + count r) (i + 1) x
def allOf (ps : List (Nm × Rows)) : Nat := match ps with
  | [] => 0
  | (_, r) :: ps => count r + allOf ps
theorem allOf_snoc (x : Nm) (r : Rows) : ∀ ps : List (Nm × Rows), allOf (ps ++ [(x, r)]) = allOf ps + count r
  | [] => by simp [allOf]
  | (y, q) :: ps => by simp only [List.cons_append, allOf, allOf_snoc x r ps]; omega
theorem tab_no : ∀ {ps : List (Nm × Rows)} {n i : Nat} {x : Nm}, ¬ x ∈ ps.map (·.1) → tabOf ps n i x = none
  | [], _, _, _, _ => rfl
  | (y, r) :: ps, n, i, x, h => by
    have e : ¬ y = x := fun z => h (by simp [z])
    simp only [tabOf, if_neg e]
    exact tab_no fun z => h (List.mem_cons_of_mem _ z)
theorem tab_snoc {y : Nm} {r : Rows} : ∀ {ps : List (Nm × Rows)} {n i : Nat} {x : Nm}, ¬ y ∈ ps.map (·.1) → tabOf (ps ++ [(y, r)]) n i x = if y = x then some ⟨i + ps.length, r, n + allOf ps⟩ else tabOf ps n i x
  | [], n, i, x, _ => by simp [tabOf, allOf]
  | (z, q) :: ps, n, i, x, h => by
    have ih := tab_snoc (y := y) (r := r) (ps := ps) (n := n + count q) (i := i + 1) (x := x) fun z => h (List.mem_cons_of_mem _ z)
    have e : ¬ z = y := fun w => h (by simp [w])
    simp only [List.cons_append, tabOf, ih, allOf, List.length_cons]
    by_cases h1 : z = x
    · have h2 : ¬ y = x := fun w => e (h1.trans w.symm)
      rw [if_pos h1, if_neg h2, if_pos h1]
    · rw [if_neg h1, if_neg h1]
      by_cases h2 : y = x
      · rw [if_pos h2, if_pos h2, show i + 1 + ps.length = i + (ps.length + 1) by omega, show n + count q + allOf ps = n + (count q + allOf ps) by omega]
      · rw [if_neg h2, if_neg h2]
theorem tab_mem : ∀ {ps : List (Nm × Rows)} {n i : Nat} {x : Nm} {q : Part}, tabOf ps n i x = some q → (x, q.r) ∈ ps
  | [], _, _, _, _, h => by simp [tabOf] at h
  | (y, r) :: ps, n, i, x, q, h => by
    simp only [tabOf] at h
    by_cases e : y = x
    · rw [if_pos e] at h
      cases h
      rw [e]
      exact List.mem_cons_self
    · rw [if_neg e] at h
      exact List.mem_cons_of_mem _ (tab_mem h)
abbrev tabT (t : Tree) : Nm → Option Part := tabOf t.ps 0 0
structure TreeOk (t : Tree) : Prop where
  nd : (t.D.map (·.name)).Nodup
  len : t.D.length ≤ 40
  sz : ∀ d ∈ t.D, d.size ≤ 99
  pnd : (t.ps.map (·.1)).Nodup
  pne : ∀ p ∈ t.ps, p.1 ≠ ""
  tab : TabOk (envOf t.D) (tabT t)
  main : RowsOk (envOf t.D) (tabT t) t.ps.length t.main
  deep : deep t.main ≤ 8 ∧ ∀ p ∈ t.ps, deep p.2 ≤ 8
  pl : t.ps.length ≤ 3
  cnt : count t.main ≤ 1000 ∧ ∀ p ∈ t.ps, count p.2 ≤ 1000
  lay : ∀ d ∈ t.D, PyData.canLay0 (.str d.name) = true
theorem TreeOk.env {t : Tree} (h : TreeOk t) : ((envOf t.D).map (·.1)).Nodup := by
  have e : (envOf t.D).map (·.1) = t.D.map (·.name) := by unfold envOf; rw [List.map_map]; rfl
  rw [e]
  exact h.nd
/-! ### the cells at first -/
theorem KvA.snoc1 {H : Hp} {x : Nm} {n : Int} : ∀ {cs : Cells} {kvs : List (Key × V)} {as : List Addr}, KvA H cs kvs as → KvA H (cs ++ [(x, .one n)]) (kvs ++ [(.inr x, .int n)]) as
  | [], _, _, h => by rw [h.1]; exact ⟨[], rfl, rfl, h.2⟩
  | (y, .one m) :: r, _, _, ⟨t, h1, h2⟩ => ⟨t ++ [(.inr x, .int n)], by rw [h1]; rfl, KvA.snoc1 h2⟩
  | (y, .many l) :: r, _, _, ⟨t, a, bs, h1, h2, h3, h4⟩ => ⟨t ++ [(.inr x, .int n)], a, bs, by rw [h1]; rfl, h2, h3, KvA.snoc1 h4⟩
theorem KvA.snocL {H : Hp} {x : Nm} {l : List Int} {a : Addr} (ha : H a = some (.lst (il l))) : ∀ {cs : Cells} {kvs : List (Key × V)} {as : List Addr}, KvA H cs kvs as → KvA H (cs ++ [(x, .many l)]) (kvs ++ [(.inr x, .ref a)]) (as ++ [a])
  | [], _, _, h => by rw [h.1, h.2]; exact ⟨[], a, [], rfl, rfl, ha, rfl, rfl⟩
  | (y, .one m) :: r, _, _, ⟨t, h1, h2⟩ => ⟨t ++ [(.inr x, .ref a)], by rw [h1]; rfl, KvA.snocL ha h2⟩
  | (y, .many m) :: r, _, _, ⟨t, b, bs, h1, h2, h3, h4⟩ => ⟨t ++ [(.inr x, .ref a)], b, bs ++ [a], by rw [h1]; rfl, by rw [h2]; rfl, h3, KvA.snocL ha h4⟩
theorem KvA.mem {H : Hp} : ∀ {cs : Cells} {kvs : List (Key × V)} {as : List Addr}, KvA H cs kvs as → ∀ a ∈ as, ∃ l, H a = some (.lst l)
  | [], _, _, h, a, ha => by rw [h.2] at ha; cases ha
  | (y, .one m) :: r, _, _, ⟨t, h1, h2⟩, a, ha => KvA.mem h2 a ha
  | (y, .many m) :: r, _, _, ⟨t, b, bs, h1, h2, h3, h4⟩, a, ha => by
    rw [h2] at ha
    rcases List.mem_cons.mp ha with rfl | ha
    · exact ⟨_, h3⟩
    · exact KvA.mem h4 a ha
structure Ini (H : Hp) (c : Addr) (D : List Decl) (i : Nat) (H' : Hp) (kvs : List (Key × V)) (as : List Addr) : Prop where
  free : H c = none
  dict : H' c = some (.dK kvs)
  kva : KvA H' (initc (D.take i)) kvs as
  new : ∀ a ∈ as, H a = none
  nd : as.Nodup
theorem init_snoc {D : List Decl} {i : Nat} {d : Decl} (h : D[i]? = some d) : initc (D.take (i + 1)) = initc (D.take i) ++ [(d.name, cell0 d)] := by
  rw [take_snoc h, initc, initc, List.map_append]
  rfl
section
variable {H H' H2 : Hp} {c : Addr} {D : List Decl} {i : Nat} {kvs : List (Key × V)} {as : List Addr} {d : Decl}
theorem Ini.ne (h : Ini H c D i H' kvs as) {a : Addr} (ha : a ∈ as) : a ≠ c := fun z => by
  obtain ⟨l, e⟩ := h.kva.mem a ha
  rw [z, h.dict] at e
  cases e
theorem Ini.one (h : Ini H c D i H' kvs as) (hd : D[i]? = some d) (hk : d.kd ≠ .list) (s : ∀ b l, b ≠ c → H' b = some (.lst l) → H2 b = some (.lst l)) (e : H2 c = some (.dK (kvs ++ [(.inr d.name, .int 0)]))) : Ini H c D (i + 1) H2 (kvs ++ [(.inr d.name, .int 0)]) as := by
  refine ⟨h.free, e, ?_, h.new, h.nd⟩
  have ec : cell0 d = .one 0 := by
    unfold cell0
    cases hh : d.kd with
    | list => exact absurd hh hk
    | _ => rfl
  rw [init_snoc hd, ec]
  refine KvA.snoc1 (h.kva.mono fun a ha o q => ?_)
  obtain ⟨l, q2⟩ := h.kva.mem a ha
  rw [q2] at q
  cases q
  exact s a l (h.ne ha) q2
theorem Ini.lst (h : Ini H c D i H' kvs as) (hd : D[i]? = some d) (hk : d.kd = .list) {a : Addr} (ha : H a = none) (hn : H' a = none) (s : ∀ b l, b ≠ c → H' b = some (.lst l) → H2 b = some (.lst l)) (ea : H2 a = some (.lst (il (List.replicate d.size 0)))) (e : H2 c = some (.dK (kvs ++ [(.inr d.name, .ref a)]))) :
    Ini H c D (i + 1) H2 (kvs ++ [(.inr d.name, .ref a)]) (as ++ [a]) := by
  refine ⟨h.free, e, ?_, fun b hb => ?_, nd_snoc h.nd fun z => ?_⟩
  · have ec : cell0 d = .many (List.replicate d.size 0) := by
      unfold cell0
      rw [hk]
    rw [init_snoc hd, ec]
    refine KvA.snocL ea (h.kva.mono fun a ha o q => ?_)
    obtain ⟨l, q2⟩ := h.kva.mem a ha
    rw [q2] at q
    cases q
    exact s a l (h.ne ha) q2
  · rcases List.mem_append.mp hb with q | q
    · exact h.new b q
    · rw [List.mem_singleton.mp q]; exact ha
  · obtain ⟨l, q⟩ := h.kva.mem a z
    rw [hn] at q
    cases q
theorem Ini.no (h : Ini H c D i H' kvs as) (hN : (D.map (·.name)).Nodup) (hd : D[i]? = some d) : valV kvs (.inr d.name) = none := by
  refine kvs_no h.kva.kvs fun m => ?_
  have e : (initc (D.take i)).map (·.1) = (D.map (·.name)).take i := by
    rw [initc, List.map_map, List.map_take]
    rfl
  rw [e] at m
  obtain ⟨j, hj⟩ := List.mem_iff_getElem?.mp m
  have hlt : j < i := by
    have := (List.getElem?_eq_some_iff.mp hj).1
    rw [List.length_take] at this
    omega
  rw [List.getElem?_take_of_lt hlt] at hj
  have hi : (D.map (·.name))[i]? = some d.name := by rw [List.getElem?_map, hd]; rfl
  have := nd_ix hN hj hi
  omega
theorem Ini.len (h : Ini H c D i H' kvs as) : kvs.length ≤ D.length := by
  rw [h.kva.kvs.len, initc, List.length_map, List.length_take]
  omega
end
theorem rep_il (n : Nat) : (List.replicate ((n : Int)).toNat [V.int 0]).flatten = il (List.replicate n 0) := by
  rw [show ((n : Int)).toNat = n from rfl]
  induction n with
  | zero => rfl
  | succ n ih =>
    rw [List.replicate_succ, List.flatten_cons, ih, List.replicate_succ]
    rfl
end GT
/-! Sorted texts; what _law_same calls the same. -/
namespace GT
open PySem PySem.Spec PyProof.Rows L2
abbrev leS (a b : Str) : Prop := a.cps.toList ≤ b.cps.toList
theorem leS_of {a b : Str} (h : (!ltCps b.cps.toList a.cps.toList) = true) : leS a b := by
  rw [ltCps_eq] at h
  simpa using h
theorem leS_trans {a b c : Str} (h : leS a b) (k : leS b c) : leS a c := List.le_trans h k
theorem leS_antisymm {a b : Str} (h : leS a b) (k : leS b a) : a = b := by
  have e := List.le_antisymm h k
  cases a; cases b
  congr 1
  exact Array.toList_inj.mp e
theorem rising_pw : ∀ {l : List Str} {p : Str}, risingS p l = true → (p :: l).Pairwise leS
  | [], p, _ => List.pairwise_singleton _ _
  | x :: r, p, h => by
    have h' : (!ltCps x.cps.toList p.cps.toList) = true ∧ risingS x r = true := by
      have : (!ltCps x.cps.toList p.cps.toList && risingS x r) = true := h
      rwa [Bool.and_eq_true] at this
    have ih := rising_pw h'.2
    have hpx := leS_of h'.1
    refine List.pairwise_cons.mpr ⟨fun c hc => ?_, ih⟩
    rcases List.mem_cons.mp hc with rfl | hc
    · exact hpx
    · exact leS_trans hpx ((List.pairwise_cons.mp ih).1 c hc)
theorem sorted_pw : ∀ {l : List Str}, sortedS l = true → l.Pairwise leS
  | [], _ => List.Pairwise.nil
  | x :: r, h => rising_pw h
theorem sorted_eq {xs ys : List Str} (p : xs.Perm ys) (hx : sortedS xs = true) (hy : sortedS ys = true) : xs = ys :=
  List.Perm.eq_of_pairwise (le := leS) (fun a b _ _ h k => leS_antisymm h k) (sorted_pw hx) (sorted_pw hy) p
theorem dp_strs {K : PySem.W.Frag} {H : Hp} : ∀ ns : List Nm, DpAll K H (ns.map V.str) (ns.map PyData.str)
  | [] => .nil
  | x :: ns => .cons (.str x) (dp_strs ns)
theorem lay_strs : ∀ ns : List Nm, (∀ x ∈ ns, PyData.canLay0 (.str x) = true) → PyData.canLayAll0 (ns.map PyData.str) = true ∧ PyData.depthAll (ns.map PyData.str) ≤ 1
  | [], _ => by simp [PyData.canLayAll0, PyData.depthAll]
  | x :: ns, h => by
    obtain ⟨h1, h2⟩ := lay_strs ns fun y hy => h y (List.mem_cons_of_mem _ hy)
    rw [List.map_cons, PyData.canLayAll0, PyData.depthAll, h x List.mem_cons_self, h1]
    refine ⟨rfl, ?_⟩
    simp only [PyData.depth]
    omega
theorem shaped_strs {ns : List Nm} (h : ∀ x ∈ ns, PyData.canLay0 (.str x) = true) : SeqAt.shaped (.list (ns.map PyData.str)) = true := by
  obtain ⟨h1, h2⟩ := lay_strs ns h
  unfold SeqAt.shaped
  rw [Bool.and_eq_true]
  refine ⟨by rw [PyData.canLay0]; exact h1, decide_eq_true ?_⟩
  rw [PyData.depth]
  omega
theorem eqv_strs : ∀ ns : List Nm, PyData.eqvAll (ns.map PyData.str) (ns.map PyData.str) = true
  | [] => by simp [PyData.eqvAll]
  | x :: ns => by
    rw [List.map_cons, PyData.eqvAll, eqv_strs ns]
    simp [PyData.eqv]
/-- a cell's two values -/
def FlatV (H : Hp) (x y : V) : Prop := (∃ i : Int, x = .int i ∧ y = .int i) ∨ ∃ p q l, x = .ref p ∧ y = .ref q ∧ H p = some (.lst (il l)) ∧ H q = some (.lst (il l)) ∧ l.length ≤ 5000
/-- the same, down to n -/
def SameV (H : Hp) : Nat → V → V → Prop
  | 0, _, _ => False
  | n + 1, x, y => (∃ i : Int, x = .int i ∧ y = .int i) ∨ (∃ z : Str, x = .str z ∧ y = .str z) ∨
    (∃ p q xs ys, x = .ref p ∧ y = .ref q ∧ H p = some (.lst xs) ∧ H q = some (.lst ys) ∧ xs.length = ys.length ∧ xs.length ≤ 5000 ∧ ∀ (i : Nat) a b, xs[i]? = some a → ys[i]? = some b → SameV H n a b) ∨
    (∃ p q xs ys, x = .ref p ∧ y = .ref q ∧ H p = some (.tup xs) ∧ H q = some (.tup ys) ∧ xs.length = ys.length ∧ xs.length ≤ 5000 ∧ ∀ (i : Nat) a b, xs[i]? = some a → ys[i]? = some b → SameV H n a b) ∨
    (2 ≤ n ∧ ∃ (p q : Addr) (ks ls : List (Key × V)) (ns : List Nm), x = .ref p ∧ y = .ref q ∧ H p = some (.dK ks) ∧ H q = some (.dK ls) ∧ ks.map (·.1) = ns.map Sum.inr ∧ ls.map (·.1) = ns.map Sum.inr ∧ ns.Nodup ∧ ns.length < 64 ∧ (∀ x ∈ ns, PyData.canLay0 (.str x) = true) ∧
      ∀ (z : Nm) a b, valV ks (.inr z) = some a → valV ls (.inr z) = some b → FlatV H a b)
theorem FlatV.mono {H H' : Hp} (s : ∀ a l, H a = some (.lst l) → H' a = some (.lst l)) {x y : V} (h : FlatV H x y) : FlatV H' x y := by
  rcases h with h | ⟨p, q, l, h1, h2, h3, h4, h5⟩
  · exact .inl h
  · exact .inr ⟨p, q, l, h1, h2, s _ _ h3, s _ _ h4, h5⟩
theorem FlatV.same {H : Hp} {n : Nat} {x y : V} (h : FlatV H x y) : SameV H (n + 2) x y := by
  rcases h with h | ⟨p, q, l, h1, h2, h3, h4, h5⟩
  · exact .inl h
  · refine .inr (.inr (.inl ⟨p, q, _, _, h1, h2, h3, h4, rfl, by rw [List.length_map]; exact h5, fun i a b ha hb => ?_⟩))
    rw [ha] at hb
    cases hb
    rw [List.getElem?_map] at ha
    cases hx : l[i]? with
    | none => rw [hx] at ha; cases ha
    | some z =>
      rw [hx] at ha
      cases ha
      exact .inl ⟨z, rfl, rfl⟩
theorem SameV.mono {H H' : Hp} (s : Same H H') : ∀ {n : Nat} {x y : V}, SameV H n x y → SameV H' n x y
  | 0, _, _, h => h
  | n + 1, x, y, h => by
    rcases h with h | h | ⟨p, q, xs, ys, h1, h2, h3, h4, h5, h6, h7⟩ | ⟨p, q, xs, ys, h1, h2, h3, h4, h5, h6, h7⟩ | ⟨hn, p, q, ks, ls, ns, h1, h2, h3, h4, h5, h6, h7, h8, h9, h10⟩
    · exact .inl h
    · exact .inr (.inl h)
    · exact .inr (.inr (.inl ⟨p, q, xs, ys, h1, h2, s _ _ h3, s _ _ h4, h5, h6, fun i a b ha hb => SameV.mono s (h7 i a b ha hb)⟩))
    · exact .inr (.inr (.inr (.inl ⟨p, q, xs, ys, h1, h2, s _ _ h3, s _ _ h4, h5, h6, fun i a b ha hb => SameV.mono s (h7 i a b ha hb)⟩)))
    · exact .inr (.inr (.inr (.inr ⟨hn, p, q, ks, ls, ns, h1, h2, s _ _ h3, s _ _ h4, h5, h6, h7, h8, h9, fun z a b ha hb => (h10 z a b ha hb).mono fun a l => s a _⟩)))
end GT
/-! _law_cell_at, _law_mixed, _law_stream, _law_take, _law_of_kind -/
namespace GT
open PySem PySem.Spec PyProof.Rows L2
theorem sc_l_cell_at : FnScope ["_law_script", "_law_k"] ["_law_script", "_law_k"] (defScope s_l_cell_at) := ⟨rfl, rfl, rfl, by decide +kernel, rfl, by decide +kernel, by decide +kernel⟩
theorem sc_l_mixed : FnScope ["_law_number", "_law_k", "_law_once", "_law_twice"] ["_law_number", "_law_k"] (defScope s_l_mixed) := ⟨rfl, rfl, rfl, by decide +kernel, rfl, by decide +kernel, by decide +kernel⟩
theorem sc_l_stream : FnScope ["_law_cell"] ["_law_cell"] (defScope s_l_stream) := ⟨rfl, rfl, rfl, by decide +kernel, rfl, by decide +kernel, by decide +kernel⟩
theorem sc_l_take : FnScope ["_law_stream_here", "_law_size", "_law_found"] ["_law_stream_here", "_law_size"] (defScope s_l_take) := ⟨rfl, rfl, rfl, by decide +kernel, rfl, by decide +kernel, by decide +kernel⟩
theorem sc_l_of_kind : FnScope ["_law_known", "_law_kind", "_law_one"] ["_law_known", "_law_kind"] (defScope s_l_of_kind) := ⟨rfl, rfl, rfl, by decide +kernel, rfl, by decide +kernel, by decide +kernel⟩
section
variable {P : Program} {w : World} {K : PySem.W.Frag} {mg : Str → Option Value} {base : Heap} {C : Addr}
def spCellAt (K : PySem.W.Frag) : Sp := fun vs H Q _ => ∃ (a : Addr) (ns : List Int) (k : Int), vs = [.ref a, .int k] ∧ SqL K H a (il ns) ∧ 0 ≤ k ∧ ∀ v : Int, Q (.int v) H
theorem ok_l_cell_at (T0 : Top K mg C) (k : Nat) : Cal P w K mg base "_law_cell_at" ["_law_script", "_law_k"] (k + 1) (spCellAt K) := by
  have T := T0
  refine T.d_l_cell_at.ok sc_l_cell_at (fun _ _ _ _ _ _ us hl => match us, hl with | [_, _], _ => rfl) (fun vs H Q E h => ?_) (fun f cdv A outer s0 H vs Q E hr h => ?_)
  · obtain ⟨a, ns, k, rfl, _⟩ := h
    rfl
  · obtain ⟨a, ns, k, rfl, hS, h0, q⟩ := h
    refine ⟨_, (pss_cons (ps_if (pt_cmpR op_lt (pv 1) (pe_callB call_len_seq rfl T.len_ (by decide +kernel) (pa_cons (pv 0) pa_nil)) (nomark _)) (pss_one (ps_ret (pe_ix ix_list (pv 0) (pv 1) (fun _ _ => rfl)))) pss_nil)
      (pss_one (ps_ret pe_int))), ?_⟩
    have hl : (il ns).length = ns.length := List.length_map _
    refine ⟨_, rfl, _, rfl, a, _, rfl, .inl hS, _, _, rfl, rfl, _, rfl, ifD (fun c => ?_) (fun c => ?_)⟩
    · have hk : k.toNat < ns.length := by rw [hl] at c; omega
      have e : k = ((k.toNat : Nat) : Int) := by omega
      have ha : atI (il ns) k = some (.int ns[k.toNat]) := at_of e (by rw [List.getElem?_map, List.getElem?_eq_getElem hk]; rfl)
      exact ⟨_, rfl, _, rfl, a, _, _, _, rfl, rfl, hS, ha, q _⟩
    · exact q 0
def spMixed : Sp := fun vs H Q _ => ∃ (n k : Int), vs = [.int n, .int k] ∧ ∀ r : Int, 0 ≤ r → r < 2147483629 → Q (.int r) H
theorem ok_l_mixed (T0 : Top K mg C) (k : Nat) : Cal P w K mg base "_law_mixed" ["_law_number", "_law_k"] (k + 1) spMixed := by
  have T := T0
  refine T.d_l_mixed.ok sc_l_mixed (fun _ _ _ _ _ _ us hl => match us, hl with | [_, _], _ => rfl) (fun vs H Q E h => ?_) (fun f cdv A outer s0 H vs Q E hr h => ?_)
  · obtain ⟨n, k, rfl, _⟩ := h
    rfl
  · obtain ⟨n, k, rfl, q⟩ := h
    refine ⟨_, (pss_cons (ps_set (i := 2) sc_l_mixed.nd rfl (Or.inl rfl) (pe_op op_mod (pe_op op_mul (pe_op op_add (pe_op op_add (pe_op op_mod (pv 0) pe_int) (pe_op op_mul pe_int (pv 1))) pe_int) pe_int) pe_int))
      (pss_cons (ps_set (i := 3) sc_l_mixed.nd rfl (Or.inl rfl) (pe_op op_mod (pe_op op_mul (pv 2) (pe_op op_add (pe_op op_add (pe_op op_mod (pv 2) pe_int) (pv 1)) pe_int)) pe_int))
      (pss_one (ps_ret (pe_op op_mod (pe_op op_add (pe_op op_mul (pv 3) pe_int) (pv 2)) pe_int))))), ?_⟩
    refine ⟨_, rfl, _, _, rfl, rfl, (by show (0 : Int) < 1000000007; decide), _, rfl, _, _, rfl, rfl, .inl ⟨by decide, by decide⟩, _, _, rfl, rfl, _, _, rfl, rfl, _, _, rfl, rfl, .inr ⟨by decide, by decide⟩, _, _, rfl, rfl, (by show (0 : Int) < 2147483647; decide), ?_⟩
    generalize hm : ((n % 1000000007 + 7 * k + 1) * 48271 % 2147483647 : Int) = m
    have m0 : 0 ≤ m := by rw [← hm]; exact Int.emod_nonneg _ (by decide)
    have m1 : m < 2147483647 := by rw [← hm]; exact Int.emod_lt_of_pos _ (by decide)
    refine ⟨_, rfl, _, rfl, _, _, rfl, rfl, (by show (0 : Int) < 1009; decide), _, rfl, _, _, rfl, rfl, _, _, rfl, rfl, _, _, rfl, rfl, .inl ⟨by omega, by omega⟩, _, _, rfl, rfl, (by show (0 : Int) < 998244353; decide), ?_⟩
    exact ⟨_, rfl, _, _, rfl, rfl, .inr ⟨by decide, by decide⟩, _, rfl, _, _, rfl, rfl, _, _, rfl, rfl, (by show (0 : Int) < 2147483629; decide), q _ (Int.emod_nonneg _ (by decide)) (Int.emod_lt_of_pos _ (by decide))⟩
/-- a stream of draws -/
def StrV (H : Hp) (p : Addr) : Prop := ∃ a b m c : Int, H p = some (.lst [.int a, .int b, .int m, .int c])
theorem StrV.lst {H : Hp} {p : Addr} (h : StrV H p) : ∃ xs, H p = some (.lst xs) := let ⟨_, _, _, _, e⟩ := h; ⟨_, e⟩
def spStream : Sp := fun vs H Q _ => ∃ c : Int, vs = [.int c] ∧ ∀ p H', Same H H' → H p = none → StrV H' p → Q (.ref p) H'
theorem ok_l_stream (T0 : Top K mg C) (k : Nat) : Cal P w K mg base "_law_stream" ["_law_cell"] (k + 1) spStream := by
  have T := T0
  refine T.d_l_stream.ok sc_l_stream (fun _ _ _ _ _ _ us hl => match us, hl with | [_], _ => rfl) (fun vs H Q E h => ?_) (fun f cdv A outer s0 H vs Q E hr h => ?_)
  · obtain ⟨c, rfl, _⟩ := h
    rfl
  · obtain ⟨c, rfl, q⟩ := h
    refine ⟨_, (pss_one (ps_ret (pe_lst (pa_cons (pe_callB call_abs rfl T.abs_ (by decide +kernel) (pa_cons (pv 0) pa_nil)) (pa_cons (pe_callTy call_int1 rfl T.int_ (by decide +kernel) (pa_cons (pe_cmpR op_lt (pe_callB call_abs rfl T.abs_ (by decide +kernel) (pa_cons (pv 0) pa_nil)) (pe_op op_pow pe_int pe_int) (nomark _)) pa_nil)) (pa_cons pe_int (pa_cons (pv 0) pa_nil))))))), ?_⟩
    refine ⟨_, rfl, _, rfl, _, rfl, _, rfl, _, _, rfl, rfl, (by show (0 : Int) ≤ 18 ∧ (18 : Int) ≤ 1000000 ∧ ((10 : Int)).natAbs < 2 ^ 64; decide), _, _, rfl, rfl, .inr ⟨_, rfl, _, rfl, (by show 4 ≤ sizeLine; decide), fun p hp => ?_⟩⟩
    exact q p _ (same_new hp _) hp ⟨_, _, _, _, upd_same⟩
def spTake : Sp := fun vs H Q _ => ∃ (p : Addr) (n : Int), vs = [.ref p, .int n] ∧ StrV H p ∧ 0 < n ∧ n < 1073741824 ∧ ∀ i H', 0 ≤ i → i < n → But [p] H H' → StrV H' p → Q (.int i) H'
theorem ok_l_take (T0 : Top K mg C) {k : Nat} (c_l_mixed : Cal P w K mg base "_law_mixed" ["_law_number", "_law_k"] k spMixed) : Cal P w K mg base "_law_take" ["_law_stream_here", "_law_size"] (k + 1) spTake := by
  have T := T0
  refine T.d_l_take.ok sc_l_take (fun _ _ _ _ _ _ us hl => match us, hl with | [_, _], _ => rfl) (fun vs H Q E h => ?_) (fun f cdv A outer s0 H vs Q E hr h => ?_)
  · obtain ⟨p, n, rfl, _⟩ := h
    rfl
  · obtain ⟨p, n, rfl, ⟨a, b, m, c, h⟩, n0, n1, q⟩ := h
    refine ⟨_, (pss_cons (ps_asg (pe_op op_add (pe_ix ix_list (pv 0) pe_int (fun _ _ => rfl)) pe_int) (pg_sub (pv 0) pe_int set_list))
      (Evl.pss_cut (ps_if (PW.pt (pw_and (pt_cmpR op_eq (pe_ix ix_list (pv 0) pe_int (fun _ _ => rfl)) pe_int (nomark _)) (pw_and1 (pt_cmpR op_eq (pe_ix ix_list (pv 0) pe_int (fun _ _ => rfl)) pe_int (nomark _))))) (pss_cons (ps_asg pe_int (pg_sub (pv 0) pe_int set_list))
      (pss_one (ps_asg (pe_cl c_l_mixed hr rfl (pa_cons (pe_ix ix_list (pv 0) pe_int (fun _ _ => rfl)) (pa_cons pe_int pa_nil))) (pg_sub (pv 0) pe_int set_list)))) pss_nil)
      (pss_cons (ps_if (pt_cmpR op_eq (pe_ix ix_list (pv 0) pe_int (fun _ _ => rfl)) pe_int (nomark _)) (pss_cons (ps_set (i := 2) sc_l_take.nd rfl (Or.inl rfl) (pe_op op_mod (pe_ix ix_list (pv 0) pe_int (fun _ _ => rfl)) (pv 1)))
      (pss_cons (ps_asg (pe_op op_fdiv (pe_ix ix_list (pv 0) pe_int (fun _ _ => rfl)) (pv 1)) (pg_sub (pv 0) pe_int set_list))
      (pss_one (ps_ret (pv 2))))) pss_nil)
      (pss_cons (ps_asg (pe_cl c_l_mixed hr rfl (pa_cons (pe_ix ix_list (pv 0) pe_int (fun _ _ => rfl)) (pa_cons (pe_ix ix_list (pv 0) pe_int (fun _ _ => rfl)) pa_nil))) (pg_sub (pv 0) pe_int set_list))
      (pss_one (ps_ret (pe_op op_mod (pe_op op_fdiv (pe_ix ix_list (pv 0) pe_int (fun _ _ => rfl)) pe_int) (pv 1)))))))), ?_⟩
    refine ⟨_, rfl, p, _, _, _, rfl, rfl, SqL.of h, rfl, _, _, rfl, rfl, _, rfl, p, _, _, 2, rfl, rfl, h, rfl, ?_⟩
    have b1 : But [p] H (upd H p (.lst [.int a, .int b, .int (m + 1), .int c])) := (But.refl _ _).put List.mem_cons_self _
    have h1 : (upd H p (.lst [.int a, .int b, .int (m + 1), .int c])) p = some (.lst [.int a, .int b, .int (m + 1), .int c]) := upd_same
    show (fun H' => _) (upd H p (.lst [.int a, .int b, .int (m + 1), .int c]))
    generalize upd H p (.lst [.int a, .int b, .int (m + 1), .int c]) = H1 at b1 h1 ⊢
    refine ⟨fun σ' H' => ∃ a' b' : Int, σ' = [some (.ref p), some (.int n), none] ∧ But [p] H H' ∧ H' p = some (.lst [.int a', .int b', .int (m + 1), .int c]), ?_, ?_⟩
    · refine ⟨_, rfl, p, _, _, _, rfl, rfl, SqL.of h1, rfl, rfl, _, rfl, ifD (fun c1 => ?_) (fun c1 => ?_)⟩
      · refine ⟨_, rfl, p, _, _, _, rfl, rfl, SqL.of h1, rfl, rfl, _, rfl, ifD (fun c2 => ?_) (fun c2 => ?_)⟩
        · refine ⟨_, rfl, p, _, _, 1, rfl, rfl, h1, rfl, ?_⟩
          have h2 : (upd H1 p (.lst [.int a, .int 1, .int (m + 1), .int c])) p = some (.lst [.int a, .int 1, .int (m + 1), .int c]) := upd_same
          have b2 : But [p] H (upd H1 p (.lst [.int a, .int 1, .int (m + 1), .int c])) := b1.put List.mem_cons_self _
          show (fun H' => _) (upd H1 p (.lst [.int a, .int 1, .int (m + 1), .int c]))
          generalize upd H1 p (.lst [.int a, .int 1, .int (m + 1), .int c]) = H2 at b2 h2 ⊢
          refine ⟨_, rfl, p, _, _, _, rfl, rfl, SqL.of h2, rfl, _, _, rfl, fun r _ _ => ?_⟩
          refine ⟨_, rfl, p, _, _, 0, rfl, rfl, h2, rfl, ?_⟩
          exact ⟨r, 1, rfl, b2.put List.mem_cons_self _, upd_same⟩
        · exact ⟨a, b, rfl, b1, h1⟩
      · exact ⟨a, b, rfl, b1, h1⟩
    · rintro σ' H2 ⟨a', b', rfl, b2, h2⟩
      refine ⟨_, rfl, p, _, _, _, rfl, rfl, SqL.of h2, rfl, rfl, _, rfl, ifD (fun c1 => ?_) (fun c1 => ?_)⟩
      · refine ⟨_, rfl, p, _, _, _, rfl, rfl, SqL.of h2, rfl, _, rfl, _, _, rfl, rfl, n0, ?_⟩
        refine ⟨_, rfl, p, _, _, _, rfl, rfl, SqL.of h2, rfl, _, rfl, _, _, rfl, rfl, ⟨n0, n1⟩, _, rfl, p, _, _, 0, rfl, rfl, h2, rfl, ?_⟩
        exact ⟨_, rfl, q _ _ (Int.emod_nonneg _ (by omega)) (Int.emod_lt_of_pos _ n0) (b2.put List.mem_cons_self _) ⟨_, _, _, _, upd_same⟩⟩
      · refine ⟨_, rfl, p, _, _, _, rfl, rfl, SqL.of h2, rfl, _, rfl, p, _, _, _, rfl, rfl, SqL.of h2, rfl, _, _, rfl, fun r _ _ => ?_⟩
        refine ⟨_, rfl, p, _, _, 0, rfl, rfl, h2, rfl, ?_⟩
        have h3 : (upd H2 p (.lst [.int r, .int b', .int (m + 1), .int c])) p = some (.lst [.int r, .int b', .int (m + 1), .int c]) := upd_same
        have b3 : But [p] H (upd H2 p (.lst [.int r, .int b', .int (m + 1), .int c])) := b2.put List.mem_cons_self _
        show (fun H' => _) (upd H2 p (.lst [.int r, .int b', .int (m + 1), .int c]))
        generalize upd H2 p (.lst [.int r, .int b', .int (m + 1), .int c]) = H3 at b3 h3 ⊢
        refine ⟨_, rfl, p, _, _, _, rfl, rfl, SqL.of h3, rfl, _, _, rfl, rfl, (by show (0 : Int) < 64 ∧ (64 : Int) < 1073741824; decide), _, rfl, _, _, rfl, rfl, n0, ?_⟩
        exact q _ _ (Int.emod_nonneg _ (by omega)) (Int.emod_lt_of_pos _ n0) b3 ⟨_, _, _, _, h3⟩
def nmK (k : Kd) (D : List Decl) : List Nm := (D.filter fun d => decide (d.kd = k)).map (·.name)
theorem nmK_snoc {k : Kd} {D : List Decl} {i : Nat} {d : Decl} (h : D[i]? = some d) : nmK k (D.take (i + 1)) = nmK k (D.take i) ++ if d.kd = k then [d.name] else [] := by
  rw [take_snoc h, nmK, nmK, List.filter_append, List.map_append]
  by_cases c : d.kd = k
  · rw [if_pos c, List.filter_cons, if_pos (decide_eq_true c)]
    rfl
  · rw [if_neg c, List.filter_cons, if_neg (by simp [c])]
    rfl
theorem nmK_len (k : Kd) (D : List Decl) : (nmK k D).length ≤ D.length := by
  rw [nmK, List.length_map]
  exact List.length_filter_le _ _
theorem kdS_inj {a b : Kd} (h : kdS a = kdS b) : a = b := by
  cases a <;> cases b <;> first | rfl | exact absurd h (by decide +kernel)
def spOfKind : Sp := fun vs H Q _ => ∃ (a : Addr) (k : Kd) (D : List Decl) (dv : List V), vs = [.ref a, .str (kdS k)] ∧ H a = some (.lst dv) ∧ DeclsV H D dv ∧ D.length ≤ 1000 ∧ ∀ p H', Same H H' → H p = none → H' p = some (.lst ((nmK k D).map V.str)) → Q (.ref p) H'
theorem ok_l_of_kind (T0 : Top K mg C) (k : Nat) : Cal P w K mg base "_law_of_kind" ["_law_known", "_law_kind"] (k + 1) spOfKind := by
  have T := T0
  refine T.d_l_of_kind.ok sc_l_of_kind (fun _ _ _ _ _ _ us hl => match us, hl with | [_, _], _ => rfl) (fun vs H Q E h => ?_) (fun f cdv A outer s0 H vs Q E hr h => ?_)
  · obtain ⟨a, k, D, dv, rfl, _⟩ := h
    rfl
  · obtain ⟨a, kk, D, dv, rfl, ha, hdv, hD, q⟩ := h
    refine ⟨_, (pss_one (ps_ret (pe_lc (own := [("_law_one", 2)]) rfl sc_l_of_kind.nd (pi_list (pv 0)) (blkOk_by (own := [("_law_one", 2)]) (N := ["_law_known", "_law_kind", "_law_one"]) (sc := defScope s_l_of_kind) (by decide +kernel)) (fun _ _ _ _ _ => (pg_name (i := 2) sc_l_of_kind.nd rfl (Or.inl rfl))) (fun _ _ _ _ _ => (pts_one (pt_cmpR op_eq (pe_ix (ixTk (K := K) rfl) (pv 2) pe_int (fun _ _ => rfl)) (pv 1) (nomark _)))) (fun _ _ _ _ _ => (pe_ix (ixTk (K := K) rfl) (pv 2) pe_int (fun _ _ => rfl)))))), ?_⟩
    have hlen := hdv.len
    refine ⟨_, rfl, a, rfl, ⟨_, SqL.of ha⟩, fun r hr2 => lc_list (K := K) (a := a) (xs := dv) (fun i H' => Same H H' ∧ H' r = some (.lst ((nmK kk (D.take i)).map V.str))) ⟨same_new hr2 _, upd_same⟩ (fun i H' _ h => SqL.of (h.1 _ _ ha)) (fun i x H' hx h => ?_) (fun H' h => ?_)⟩
    · obtain ⟨s, h1⟩ := h
      obtain ⟨d, p, hd, rfl, hp⟩ := hdv.at_ hx
      have hi : i < D.length := (List.getElem?_eq_some_iff.mp hd).1
      have sn := nmK_snoc (k := kk) hd
      refine ⟨rfl, _, rfl, p, _, _, _, rfl, rfl, SqT.of (s _ _ hp), rfl, _, rfl, rfl, _, rfl, ifD (fun c => ?_) (fun c => ?_)⟩
      · have ck : d.kd = kk := kdS_inj (V.str.inj c)
        rw [if_pos ck] at sn
        have hz := nmK_len kk (D.take i)
        rw [List.length_take] at hz
        refine ⟨_, rfl, p, _, _, _, rfl, rfl, SqT.of (s _ _ hp), rfl, _, h1, szl (by rw [List.length_map]; omega), same_upd s hr2 _, ?_⟩
        rw [upd_same, sn, List.map_append]
        rfl
      · have ck : ¬ d.kd = kk := fun z => c (by rw [z])
        rw [if_neg ck, List.append_nil] at sn
        exact ⟨s, by rw [sn]; exact h1⟩
    · obtain ⟨s, h1⟩ := h
      rw [hlen, List.take_length] at h1
      exact q r H' s hr2 h1
end
end GT
/-! _law_vars -/
namespace GT
open PySem PySem.Spec PyProof.Rows L2
theorem sc_l_vars : FnScope ["_law_cell", "_law_stream_here", "_law_some", "_law_names", "_law_found", "_law_name", "_law_turn"] ["_law_cell"] (defScope s_l_vars) := ⟨rfl, rfl, rfl, by decide +kernel, rfl, by decide +kernel, by decide +kernel⟩
/-- all tuples stay -/
def Tps (H H' : Hp) : Prop := ∀ q xs, H q = some (.tup xs) → H' q = some (.tup xs)
theorem Tps.refl (H : Hp) : Tps H H := fun _ _ h => h
theorem Tps.trans {H H1 H2 : Hp} (a : Tps H H1) (b : Tps H1 H2) : Tps H H2 := fun q xs h => b q xs (a q xs h)
theorem Tps.same {H H' : Hp} (s : Same H H') : Tps H H' := fun q xs h => s _ _ h
theorem Tps.lst {H : Hp} {p : Addr} {xs : List V} {o : HO} (h : H p = some (.lst xs)) : Tps H (upd H p o) := fun q ys e => by
  rw [upd_ne (fun z => by rw [z, h] at e; cases e)]
  exact e
theorem Tps.but {H H' : Hp} {M : List Addr} (b : But M H H') (h : ∀ m ∈ M, ∃ xs, H m = some (.lst xs)) : Tps H H' := fun q ys e => b q _ (fun z => by
  obtain ⟨xs, h1⟩ := h q z
  rw [h1] at e
  cases e) e
theorem TupV.tps {H H' : Hp} (s : Tps H H') {v : V} {xs : List V} (h : TupV H v xs) : TupV H' v xs := let ⟨p, h1, h2⟩ := h; ⟨p, h1, s _ _ h2⟩
theorem DeclsV.tps {S S' : Hp} (s : Tps S S') : ∀ {D : List Decl} {vs : List V}, DeclsV S D vs → DeclsV S' D vs
  | [], _, h => h
  | d :: D, _, ⟨v, t, h1, h2, h3⟩ => ⟨v, t, h1, h2.tps s, h3.tps s⟩
theorem DeclsV.snoc {S : Hp} {d : Decl} {v : V} (h : TupV S v [.str (kdS d.kd), .str d.name, .int d.size]) : ∀ {D : List Decl} {vs : List V}, DeclsV S D vs → DeclsV S (D ++ [d]) (vs ++ [v])
  | [], _, e => by rw [show _ = [] from e]; exact ⟨v, [], rfl, h, rfl⟩
  | e :: D, _, ⟨v', t, h1, h2, h3⟩ => ⟨v', t ++ [v], by rw [h1]; rfl, h2, DeclsV.snoc h h3⟩
theorem DeclsV.app {S : Hp} {E : List Decl} {us : List V} (h : DeclsV S E us) : ∀ {D : List Decl} {vs : List V}, DeclsV S D vs → DeclsV S (D ++ E) (vs ++ us)
  | [], _, e => by rw [show _ = [] from e]; exact h
  | e :: D, _, ⟨v', t, h1, h2, h3⟩ => ⟨v', t ++ us, by rw [h1]; rfl, h2, DeclsV.app h h3⟩
theorem DeclsV.split {S : Hp} : ∀ (n : Nat) {D : List Decl} {vs : List V}, DeclsV S D vs → DeclsV S (D.take n) (vs.take n) ∧ DeclsV S (D.drop n) (vs.drop n)
  | 0, _, _, h => ⟨rfl, h⟩
  | n + 1, [], _, h => by rw [show _ = [] from h]; exact ⟨rfl, rfl⟩
  | n + 1, e :: D, _, ⟨v', t, h1, h2, h3⟩ => by
    obtain ⟨k1, k2⟩ := DeclsV.split n h3
    rw [h1]
    exact ⟨⟨v', t.take n, rfl, h2, k1⟩, k2⟩
structure VarsOk (D : List Decl) : Prop where
  nd : (D.map (·.name)).Nodup
  len : D.length ≤ 40
  sz : ∀ d ∈ D, d.size ≤ 99
  has : ∀ k, ∃ d ∈ D, d.kd = k
  good : ∀ d ∈ D, PyData.canLay0 (.str d.name) = true
theorem cut_to {xs : List V} {k : Nat} (h : k ≤ xs.length) : cutV xs none (some (k : Int)) = xs.take k := by
  unfold cutV
  rw [HT.sIx_none, HT.sIx_nat, Nat.min_eq_left h]
  rfl
theorem cut_from {xs : List V} {k : Nat} (h : k ≤ xs.length) : cutV xs (some (k : Int)) none = xs.drop k := by
  unfold cutV
  rw [HT.sIx_none, HT.sIx_nat, Nat.min_eq_left h, List.take_of_length_le]
  rw [List.length_drop]
  exact Nat.le_refl _
theorem cut_mid {xs : List V} {j k : Nat} (h : j ≤ k) (h2 : k ≤ xs.length) : cutV xs (some (j : Int)) (some (k : Int)) = (xs.drop j).take (k - j) := by
  unfold cutV
  rw [HT.sIx_nat, HT.sIx_nat, Nat.min_eq_left (Nat.le_trans h h2), Nat.min_eq_left h2]
def names7 (b : Bool) : List Nm := if b = true then ["xaz", "xbz", "xcz", "xdz", "xez", "xfz", "xgz"] else ["a", "ab", "abc", "b", "ba", "c", "bb"]
def pick7 (b : Bool) (i j l : Nat) : List Nm := (names7 b).take (1 + i) ++ ((names7 b).drop 3).take (1 + j) ++ ((names7 b).drop 5).take (1 + l)
theorem nd7 : ∀ (b : Bool) (i j l : Nat), i < 3 → j < 2 → l < 2 → (pick7 b i j l).Nodup := by
  intro b i j l hi hj hl
  have hi' : i = 0 ∨ i = 1 ∨ i = 2 := by omega
  have hj' : j = 0 ∨ j = 1 := by omega
  have hl' : l = 0 ∨ l = 1 := by omega
  cases b <;> rcases hi' with rfl | rfl | rfl <;> rcases hj' with rfl | rfl <;> rcases hl' with rfl | rfl <;> decide +kernel
theorem good7 : ∀ (b : Bool), ∀ x ∈ names7 b, PyData.canLay0 (.str x) = true := by
  intro b x hx
  have h : ((names7 b).all fun x => PyData.canLay0 (.str x)) = true := by cases b <;> decide +kernel
  exact List.all_eq_true.mp h x hx
def dcl (k : Kd) (n : Nm) : Decl := ⟨k, n, 1⟩
section
variable {P : Program} {w : World} {K : PySem.W.Frag} {mg : Str → Option Value} {base : Heap} {C : Addr}
def spVars : Sp := fun vs H Q _ => ∃ c : Int, vs = [.int c] ∧ ∀ p D dv H', Same H H' → H p = none → H' p = some (.lst dv) → DeclsV H' D dv → VarsOk D → Q (.ref p) H'
theorem ok_l_vars (T0 : Top K mg C) {k : Nat} (c_l_stream : Cal P w K mg base "_law_stream" ["_law_cell"] k spStream) (c_l_take : Cal P w K mg base "_law_take" ["_law_stream_here", "_law_size"] k spTake) : Cal P w K mg base "_law_vars" ["_law_cell"] (k + 1) spVars := by
  have T := T0
  refine T.d_l_vars.ok sc_l_vars (fun _ _ _ _ _ _ us hl => match us, hl with | [_], _ => rfl) (fun vs H Q E h => ?_) (fun f cdv A outer s0 H vs Q E hr h => ?_)
  · obtain ⟨c, rfl, _⟩ := h
    rfl
  · obtain ⟨c, rfl, q⟩ := h
    refine ⟨_, (pss_cons (ps_set (i := 1) sc_l_vars.nd rfl (Or.inl rfl) (pe_cl c_l_stream hr rfl (pa_cons (pv 0) pa_nil)))
      (pss_cons (ps_set (i := 2) sc_l_vars.nd rfl (Or.inl rfl) (pe_lst (pa_cons (pe_lst (pa_cons pe_str (pa_cons pe_str (pa_cons pe_str (pa_cons pe_str (pa_cons pe_str (pa_cons pe_str (pa_cons pe_str pa_nil)))))))) (pa_cons (pe_lst (pa_cons pe_str (pa_cons pe_str (pa_cons pe_str (pa_cons pe_str (pa_cons pe_str (pa_cons pe_str (pa_cons pe_str pa_nil)))))))) pa_nil))))
      (pss_cons (ps_set (i := 3) sc_l_vars.nd rfl (Or.inl rfl) (pe_ix ix_list (pv 2) (pe_cl c_l_take hr rfl (pa_cons (pv 1) (pa_cons pe_int pa_nil))) (fun _ _ => rfl)))
      (pss_cons (ps_setLc (i := 4) (own := [("_law_name", 5)]) rfl sc_l_vars.nd rfl rfl (sw_true rfl rfl rfl (by decide +kernel)) (pi_list (pe_slice sl_list (pv 3) po_none (po_some (pe_op op_add pe_int (pe_cl c_l_take hr rfl (pa_cons (pv 1) (pa_cons pe_int pa_nil))))))) (blkOk_by (own := [("_law_name", 5)]) (N := ["_law_cell", "_law_stream_here", "_law_some", "_law_names", "_law_found", "_law_name", "_law_turn"]) (sc := defScope s_l_vars) (by decide +kernel)) (fun _ _ _ _ _ => (pg_name (i := 5) sc_l_vars.nd rfl (Or.inl rfl))) (fun _ _ _ _ _ => pts_nil) (fun _ _ _ _ _ => (pe_tup (pa_cons pe_str (pa_cons (pv 5) (pa_cons pe_int pa_nil))))))
      (pss_cons (ps_expr (pe_bm PySem.F.plainAttrs_list PySem.F.slot_list_extend PySem.F.type_list_extend mt_extend (pv 4) (pa_cons (pe_lc (own := [("_law_name", 5)]) rfl sc_l_vars.nd (pi_list (pe_slice sl_list (pv 3) (po_some pe_int) (po_some (pe_op op_add pe_int (pe_cl c_l_take hr rfl (pa_cons (pv 1) (pa_cons pe_int pa_nil))))))) (blkOk_by (own := [("_law_name", 5)]) (N := ["_law_cell", "_law_stream_here", "_law_some", "_law_names", "_law_found", "_law_name", "_law_turn"]) (sc := defScope s_l_vars) (by decide +kernel)) (fun _ _ _ _ _ => (pg_name (i := 5) sc_l_vars.nd rfl (Or.inl rfl))) (fun _ _ _ _ _ => pts_nil) (fun _ _ _ _ _ => (pe_tup (pa_cons pe_str (pa_cons (pv 5) (pa_cons pe_int pa_nil)))))) pa_nil)))
      (pss_cons (ps_for PassesOwn.never rfl (pi_list (pe_slice sl_list (pv 3) (po_some pe_int) (po_some (pe_op op_add pe_int (pe_cl c_l_take hr rfl (pa_cons (pv 1) (pa_cons pe_int pa_nil))))))) (pg_name (i := 5) sc_l_vars.nd rfl (Or.inl rfl)) (pss_one (ps_expr (pe_bm PySem.F.plainAttrs_list PySem.F.slot_list_append PySem.F.type_list_append mt_append (pv 4) (pa_cons (pe_tup (pa_cons pe_str (pa_cons (pv 5) (pa_cons (pe_ix ix_list (pe_lst (pa_cons pe_int (pa_cons pe_int (pa_cons pe_int (pa_cons pe_int pa_nil))))) (pe_cl c_l_take hr rfl (pa_cons (pv 1) (pa_cons pe_int pa_nil))) (fun _ _ => rfl)) pa_nil)))) pa_nil)))))
      (pss_cons (ps_set (i := 6) sc_l_vars.nd rfl (Or.inl rfl) (pe_cl c_l_take hr rfl (pa_cons (pv 1) (pa_cons (pe_callB call_len_seq rfl T.len_ (by decide +kernel) (pa_cons (pv 4) pa_nil)) pa_nil))))
      (pss_one (ps_ret (pe_op op_cat (pe_slice sl_list (pv 4) (po_some (pv 6)) po_none) (pe_slice sl_list (pv 4) po_none (po_some (pv 6))))))))))))), ?_⟩
    refine ⟨_, rfl, c, rfl, fun p H1 s1 hp hst => ?_⟩
    refine ⟨(by show 7 ≤ sizeLine; decide), fun l1 hl1 => ⟨(by show 7 ≤ sizeLine; decide), fun l2 hl2 => ⟨(by show 2 ≤ sizeLine; decide), fun so hso => ?_⟩⟩⟩
    have t1 := same_new hl1 (.lst ((names7 false).map V.str))
    have t2 := same_new hl2 (.lst ((names7 true).map V.str))
    have t3 := same_new hso (.lst [.ref l1, .ref l2])
    have e1 : (upd (upd (upd H1 l1 (.lst ((names7 false).map V.str))) l2 (.lst ((names7 true).map V.str))) so (.lst [.ref l1, .ref l2])) l1 = some (.lst ((names7 false).map V.str)) := t3 _ _ (t2 _ _ upd_same)
    have e2 : (upd (upd (upd H1 l1 (.lst ((names7 false).map V.str))) l2 (.lst ((names7 true).map V.str))) so (.lst [.ref l1, .ref l2])) l2 = some (.lst ((names7 true).map V.str)) := t3 _ _ upd_same
    have e3 : (upd (upd (upd H1 l1 (.lst ((names7 false).map V.str))) l2 (.lst ((names7 true).map V.str))) so (.lst [.ref l1, .ref l2])) so = some (.lst [.ref l1, .ref l2]) := upd_same
    have s2 : Same H1 (upd (upd (upd H1 l1 (.lst ((names7 false).map V.str))) l2 (.lst ((names7 true).map V.str))) so (.lst [.ref l1, .ref l2])) := (t1.trans t2).trans t3
    show (fun H' => _) (upd (upd (upd H1 l1 (.lst ((names7 false).map V.str))) l2 (.lst ((names7 true).map V.str))) so (.lst [.ref l1, .ref l2]))
    generalize upd (upd (upd H1 l1 (.lst ((names7 false).map V.str))) l2 (.lst ((names7 true).map V.str))) so (.lst [.ref l1, .ref l2]) = H2 at e1 e2 e3 s2 ⊢
    obtain ⟨sa, sb, sm, sc, hst1⟩ := id hst
    have hst2 : StrV H2 p := ⟨sa, sb, sm, sc, s2 _ _ hst1⟩
    have b2 : Same H H2 := s1.trans s2
    have l1p : l1 ≠ p := fun z => by rw [z, hst1] at hl1; cases hl1
    -- names
    refine ⟨_, rfl, _, rfl, p, 2, rfl, hst2, by decide, by decide, fun i H3 i0 i1 b3 hst3 => ?_⟩
    have sop : so ≠ p := fun z => by
      obtain ⟨_, _, _, _, y⟩ := hst2
      rw [z, y] at e3; cases e3
    have l2p : l2 ≠ p := fun z => by
      obtain ⟨_, _, _, _, y⟩ := hst2
      rw [z, y] at e2; cases e2
    have f3 := but1 b3 sop e3
    obtain ⟨ln, bb, hat, hln, lnp⟩ : ∃ ln bb, atI [V.ref l1, V.ref l2] i = some (.ref ln) ∧ H3 ln = some (.lst ((names7 bb).map V.str)) ∧ ln ≠ p := by
      have hi : i = 0 ∨ i = 1 := by omega
      rcases hi with rfl | rfl
      · exact ⟨l1, false, rfl, but1 b3 l1p e1, l1p⟩
      · exact ⟨l2, true, rfl, but1 b3 l2p e2, l2p⟩
    refine ⟨so, _, _, _, rfl, rfl, SqL.of f3, hat, ?_⟩
    have n7 : (names7 bb).length = 7 := by cases bb <;> rfl
    have n7' : ((names7 bb).map V.str).length = 7 := by rw [List.length_map, n7]
    have bh3 : But [p] H H3 := (But.of_same b2).trans b3
    -- found = [("num", ..)]
    refine ⟨_, rfl, _, rfl, p, 3, rfl, hst3, by decide, by decide, fun i1' H4 j0 j1 b4 hst4 => ?_⟩
    obtain ⟨i, rfl⟩ : ∃ i : Nat, i1' = (i : Int) := ⟨i1'.toNat, by omega⟩
    have hln4 := but1 b4 lnp hln
    refine ⟨_, _, rfl, rfl, _, rfl, ln, _, rfl, SqL.of hln4, fun cl hcl => ?_⟩
    rw [show ((1 : Int) + (i : Int)) = ((1 + i : Nat) : Int) by omega, cut_to (by rw [n7']; omega), ← List.map_take]
    refine ⟨cl, rfl, ⟨_, SqL.of upd_same⟩, fun fd hfd => ?_⟩
    have clf : cl ≠ fd := fun z => by rw [z, upd_same] at hfd; cases hfd
    refine lc_list (K := K) (a := cl) (xs := (List.take (1 + i) (names7 bb)).map V.str) (fun j H' => Same (upd H4 cl (.lst ((List.take (1 + i) (names7 bb)).map V.str))) H' ∧ ∃ dv, H' fd = some (.lst dv) ∧ DeclsV H' (((List.take (1 + i) (names7 bb)).take j).map (dcl .num)) dv) ⟨same_new hfd _, [], upd_same, rfl⟩ (fun j H' _ h => SqL.of (h.1 _ _ upd_same)) (fun j x H' hx h => ?_) (fun H5 h => ?_)
    · obtain ⟨s, dv, h1, h2⟩ := h
      rw [List.getElem?_map] at hx
      cases hn : (List.take (1 + i) (names7 bb))[j]? with
      | none => rw [hn] at hx; cases hx
      | some nm =>
        rw [hn] at hx
        cases Option.some.inj hx
        have hdl := h2.len
        rw [List.length_map, List.length_take, List.length_take] at hdl
        refine ⟨rfl, _, rfl, (by show 3 ≤ sizeLine; decide), fun t ht => ?_⟩
        have ft : fd ≠ t := ne_of_none h1 ht
        have st := same_new ht (.tup [.str "num", .str nm, .int 1])
        refine ⟨dv, st _ _ h1, szl (by omega), same_upd (s.trans st) hfd _, _, upd_same, ?_⟩
        rw [take_snoc hn, List.map_append]
        have tp : Tps H' (upd (upd H' t (.tup [.str "num", .str nm, .int 1])) fd (.lst (dv ++ [.ref t]))) := (Tps.same st).trans (Tps.lst (st _ _ h1))
        exact (h2.tps tp).snoc (d := dcl .num nm) ⟨t, rfl, by rw [upd_ne ft.symm]; exact upd_same⟩
    obtain ⟨s5, dv5, h5, g5⟩ := h
    rw [List.length_map, List.take_length] at g5
    have s45 : Same H4 H5 := (same_new hcl _).trans s5
    have fd4 : H4 fd = none := by rw [upd_ne clf.symm] at hfd; exact hfd
    obtain ⟨ya, yb, ym, yc, hy4⟩ := id hst4
    have fdp : fd ≠ p := fun z => by rw [z, hy4] at fd4; cases fd4
    have b5 : But [p] H H5 := (bh3.trans b4).trans (But.of_same s45)
    have hst5 : StrV H5 p := ⟨ya, yb, ym, yc, s45 _ _ hy4⟩
    have hln5 := s45 _ _ hln4
    have fdn : H fd = none := by
      cases e : H fd with
      | none => rfl
      | some o => rw [but1 (bh3.trans b4) fdp e] at fd4; cases fd4
    have fdl : fd ≠ ln := fun z => by rw [z, hln4] at fd4; cases fd4
    -- found.extend([("flag", ..)])
    refine ⟨_, rfl, .inl ⟨rfl, _, SqL.of h5⟩, _, rfl, _, rfl, _, rfl, p, 2, rfl, hst5, by decide, by decide, fun j1' H6 k0 k1 b6 hst6 => ?_⟩
    obtain ⟨j, rfl⟩ : ∃ j : Nat, j1' = (j : Int) := ⟨j1'.toNat, by omega⟩
    have hln6 := but1 b6 lnp hln5
    have h6 := but1 b6 fdp h5
    have tp6 : Tps H5 H6 := Tps.but b6 fun m hm => by rw [List.mem_singleton.mp hm]; exact hst5.lst
    have g6 := g5.tps tp6
    refine ⟨_, _, rfl, rfl, _, rfl, ln, _, rfl, SqL.of hln6, fun cl2 hcl2 => ?_⟩
    rw [show ((4 : Int) + (j : Int)) = ((4 + j : Nat) : Int) by omega, show (some (3 : Int)) = some ((3 : Nat) : Int) from rfl, cut_mid (by omega) (by rw [n7']; omega), ← List.map_drop, ← List.map_take, show 4 + j - 3 = 1 + j by omega]
    refine ⟨cl2, rfl, ⟨_, SqL.of upd_same⟩, fun fe hfe => ?_⟩
    have clf2 : cl2 ≠ fe := fun z => by rw [z, upd_same] at hfe; cases hfe
    refine lc_list (K := K) (a := cl2) (xs := (List.take (1 + j) (List.drop 3 (names7 bb))).map V.str) (fun j' H' => Same (upd H6 cl2 (.lst ((List.take (1 + j) (List.drop 3 (names7 bb))).map V.str))) H' ∧ ∃ dv, H' fe = some (.lst dv) ∧ DeclsV H' (((List.take (1 + j) (List.drop 3 (names7 bb))).take j').map (dcl .flag)) dv) ⟨same_new hfe _, [], upd_same, rfl⟩ (fun j H' _ h => SqL.of (h.1 _ _ upd_same)) (fun j x H' hx h => ?_) (fun H7 h => ?_)
    · obtain ⟨s, dv, h1, h2⟩ := h
      rw [List.getElem?_map] at hx
      rename_i jj
      cases hn : (List.take (1 + jj) (List.drop 3 (names7 bb)))[j]? with
      | none => rw [hn] at hx; cases hx
      | some nm =>
        rw [hn] at hx
        cases Option.some.inj hx
        have hdl := h2.len
        rw [List.length_map, List.length_take, List.length_take] at hdl
        refine ⟨rfl, _, rfl, (by show 3 ≤ sizeLine; decide), fun t ht => ?_⟩
        have ft : fe ≠ t := ne_of_none h1 ht
        have st := same_new ht (.tup [.str "flag", .str nm, .int 1])
        refine ⟨dv, st _ _ h1, szl (by omega), same_upd (s.trans st) hfe _, _, upd_same, ?_⟩
        rw [take_snoc hn, List.map_append]
        have tp : Tps H' (upd (upd H' t (.tup [.str "flag", .str nm, .int 1])) fe (.lst (dv ++ [.ref t]))) := (Tps.same st).trans (Tps.lst (st _ _ h1))
        exact (h2.tps tp).snoc (d := dcl .flag nm) ⟨t, rfl, by rw [upd_ne ft.symm]; exact upd_same⟩
    obtain ⟨s7, dv7, h7, g7⟩ := h
    rw [List.length_map, List.take_length] at g7
    have s67 : Same H6 H7 := (same_new hcl2 _).trans s7
    have h57 := s67 _ _ h6
    have d5l := g5.len
    have d7l := g7.len
    rw [List.length_map, List.length_take] at d5l d7l
    refine ⟨fd, fe, dv5, dv7, rfl, rfl, h57, h7, sz (by omega), ?_⟩
    have h8 : (upd H7 fd (.lst (dv5 ++ dv7))) fd = some (.lst (dv5 ++ dv7)) := upd_same
    have tp8 : Tps H7 (upd H7 fd (.lst (dv5 ++ dv7))) := Tps.lst h57
    have g8 := ((g7.tps tp8).app ((g6.mono s67).tps tp8))
    obtain ⟨xa, xb, xm, xc, hx6⟩ := id hst6
    have hst8 : StrV (upd H7 fd (.lst (dv5 ++ dv7))) p := ⟨xa, xb, xm, xc, by rw [upd_ne fdp.symm]; exact s67 _ _ hx6⟩
    have hln8 : (upd H7 fd (.lst (dv5 ++ dv7))) ln = some (.lst ((names7 bb).map V.str)) := by rw [upd_ne fdl.symm]; exact s67 _ _ hln6
    have b8 : But [p] H (upd H7 fd (.lst (dv5 ++ dv7))) := ((b5.trans b6).trans (But.of_same s67)).new fdn _
    show (fun H' => _) (upd H7 fd (.lst (dv5 ++ dv7)))
    generalize upd H7 fd (.lst (dv5 ++ dv7)) = H8 at h8 tp8 g8 hst8 hln8 b8 ⊢
    -- for name in names[5:..]
    refine ⟨_, rfl, _, rfl, _, rfl, p, 2, rfl, hst8, by decide, by decide, fun l1' H9 m0 m1 b9 hst9 => ?_⟩
    obtain ⟨l, rfl⟩ : ∃ l : Nat, l1' = (l : Int) := ⟨l1'.toNat, by omega⟩
    have hln9 := but1 b9 lnp hln8
    have h9 := but1 b9 fdp h8
    have tp9 : Tps H8 H9 := Tps.but b9 fun m hm => by rw [List.mem_singleton.mp hm]; exact hst8.lst
    refine ⟨_, _, rfl, rfl, _, rfl, ln, _, rfl, SqL.of hln9, fun cl3 hcl3 => ?_⟩
    rw [show ((6 : Int) + (l : Int)) = ((6 + l : Nat) : Int) by omega, show (some (5 : Int)) = some ((5 : Nat) : Int) from rfl, cut_mid (by omega) (by rw [n7']; omega), ← List.map_drop, ← List.map_take, show 6 + l - 5 = 1 + l by omega]
    have s9 := same_new hcl3 (.lst ((List.take (1 + l) (List.drop 5 (names7 bb))).map V.str))
    have c3p : cl3 ≠ p := fun z => by
      obtain ⟨_, _, _, _, y⟩ := hst9
      rw [z, y] at hcl3; cases hcl3
    have c3f : cl3 ≠ fd := fun z => by rw [z, h9] at hcl3; cases hcl3
    refine ⟨cl3, rfl, ⟨_, SqL.of upd_same⟩, for_lst (K := K) (a := cl3) (xs := (List.take (1 + l) (List.drop 5 (names7 bb))).map V.str)
      (fun i' σ H' => ∃ (x5 : Option V) (dv : List V) (E : List Decl), σ = [some (.int c), some (.ref p), some (.ref so), some (.ref ln), some (.ref fd), x5, none] ∧ But [p] H H' ∧ H' cl3 = some (.lst ((List.take (1 + l) (List.drop 5 (names7 bb))).map V.str)) ∧ StrV H' p ∧ H' fd = some (.lst dv) ∧
        DeclsV H' (((List.take (1 + i) (names7 bb)).map (dcl .num) ++ (List.take (1 + j) (List.drop 3 (names7 bb))).map (dcl .flag)) ++ E) dv ∧ E.map (·.name) = (List.take (1 + l) (List.drop 5 (names7 bb))).take i' ∧ ∀ d ∈ E, d.kd = .list ∧ d.size ≤ 99) ?_ ?_ ?_ ?_⟩
    · obtain ⟨za, zb, zm, zc, hz9⟩ := id hst9
      refine ⟨none, dv5 ++ dv7, [], rfl, (b8.trans b9).trans (But.of_same s9), upd_same, ⟨za, zb, zm, zc, s9 _ _ hz9⟩, s9 _ _ h9, ?_, rfl, fun d hd => nomatch hd⟩
      rw [List.append_nil]
      exact (g8.tps tp9).mono s9
    · rintro i' σ H' ⟨x5, dv, E, rfl, _, h, _⟩
      exact SqL.of h
    · rintro i' x σ H' hi' hx ⟨x5, dv, E, rfl, bH, hc3, hst', hfd', hD, hE, hEk⟩
      rw [List.getElem?_map] at hx
      cases hn : (List.take (1 + l) (List.drop 5 (names7 bb)))[i']? with
      | none => rw [hn] at hx; cases hx
      | some nm =>
        rw [hn] at hx
        cases Option.some.inj hx
        have hdl := hD.len
        have hEl : E.length ≤ 2 := by
          have := congrArg List.length hE
          rw [List.length_map, List.length_take, List.length_take, List.length_drop, n7] at this
          omega
        rw [List.length_append, List.length_append, List.length_map, List.length_map, List.length_take, List.length_take, List.length_drop, n7] at hdl
        refine ⟨_, rfl, .inl ⟨rfl, _, SqL.of hfd'⟩, _, rfl, (by show 4 ≤ sizeLine; decide), fun mn hmn => ?_⟩
        have smn := same_new hmn (.lst [.int 1, .int 2, .int 5, .int 99])
        have mnp : mn ≠ p := fun z => by
          obtain ⟨_, _, _, _, y⟩ := hst'
          rw [z, y] at hmn; cases hmn
        obtain ⟨qa, qb, qm, qc, hq'⟩ := id hst'
        refine ⟨_, rfl, p, 4, rfl, ⟨qa, qb, qm, qc, smn _ _ hq'⟩, by decide, by decide, fun m H10 u0 u1 b10 hst10 => ?_⟩
        have hmn10 := but1 b10 mnp (show (upd H' mn (.lst [.int 1, .int 2, .int 5, .int 99])) mn = _ from upd_same)
        obtain ⟨sz', hsz', hsat⟩ : ∃ z : Nat, z ≤ 99 ∧ atI [V.int 1, V.int 2, V.int 5, V.int 99] m = some (.int z) := by
          have hm : m = 0 ∨ m = 1 ∨ m = 2 ∨ m = 3 := by omega
          rcases hm with rfl | rfl | rfl | rfl
          · exact ⟨1, by decide, rfl⟩
          · exact ⟨2, by decide, rfl⟩
          · exact ⟨5, by decide, rfl⟩
          · exact ⟨99, by decide, rfl⟩
        refine ⟨mn, _, _, _, rfl, rfl, SqL.of hmn10, hsat, (by show 3 ≤ sizeLine; decide), fun t ht => ?_⟩
        have hfd10 := but1 b10 fdp (smn _ _ hfd')
        have st := same_new ht (.tup [.str "list", .str nm, .int sz'])
        have ft : fd ≠ t := ne_of_none hfd10 ht
        have tpt : Tps H' H10 := (Tps.same smn).trans (Tps.but b10 fun m hm => by rw [List.mem_singleton.mp hm]; exact ⟨_, smn _ _ hq'⟩)
        have tpu : Tps H10 (upd (upd H10 t (.tup [.str "list", .str nm, .int sz'])) fd (.lst (dv ++ [.ref t]))) := (Tps.same st).trans (Tps.lst (st _ _ hfd10))
        refine ⟨fd, dv, _, rfl, rfl, st _ _ hfd10, szl (by omega), ?_⟩
        obtain ⟨wa, wb, wm, wc, hw10⟩ := id hst10
        have c3m : cl3 ≠ mn := fun z => by rw [z, hmn] at hc3; cases hc3
        refine ⟨some (.str nm), dv ++ [.ref t], E ++ [⟨.list, nm, sz'⟩], rfl, (((bH.trans (But.of_same smn)).trans b10).trans (But.of_same st)).new fdn _, ?_, ⟨wa, wb, wm, wc, by rw [upd_ne fdp.symm]; exact st _ _ hw10⟩, upd_same, ?_, ?_, ?_⟩
        · rw [upd_ne c3f]
          exact st _ _ (but1 b10 c3p (smn _ _ hc3))
        · rw [← List.append_assoc]
          exact ((hD.tps tpt).tps tpu).snoc (d := ⟨.list, nm, sz'⟩) ⟨t, rfl, by rw [upd_ne ft.symm]; exact upd_same⟩
        · rw [List.map_append, hE, take_snoc hn]
          rfl
        · intro d hd
          rcases List.mem_append.mp hd with z | z
          · exact hEk d z
          · rw [List.mem_singleton.mp z]
            exact ⟨rfl, hsz'⟩
    · rintro σ H' ⟨x5, dv, E, rfl, bH, hc3, hst', hfd', hD, hE, hEk⟩
      rw [List.length_map, List.take_length] at hE
      -- the law's own list of variables
      have hDn : ((((List.take (1 + i) (names7 bb)).map (dcl .num) ++ (List.take (1 + j) (List.drop 3 (names7 bb))).map (dcl .flag)) ++ E).map (·.name)) = pick7 bb i j l := by
        rw [List.map_append, List.map_append, List.map_map, List.map_map, hE, pick7]
        show List.map (fun x => x) _ ++ List.map (fun x => x) _ ++ _ = _
        rw [List.map_id', List.map_id']
      generalize hDD : (((List.take (1 + i) (names7 bb)).map (dcl .num) ++ (List.take (1 + j) (List.drop 3 (names7 bb))).map (dcl .flag)) ++ E) = D at hD hDn
      have hnd : (D.map (·.name)).Nodup := by rw [hDn]; exact nd7 bb i j l (by omega) (by omega) (by omega)
      have hlen : D.length = (pick7 bb i j l).length := by rw [← hDn, List.length_map]
      have hl7 : D.length ≤ 7 ∧ 3 ≤ D.length := by
        rw [hlen, pick7, List.length_append, List.length_append, List.length_take, List.length_take, List.length_take, List.length_drop, List.length_drop, n7]
        omega
      have hsz : ∀ d ∈ D, d.size ≤ 99 := by
        intro d hd
        rw [← hDD] at hd
        rcases List.mem_append.mp hd with z | z
        · rcases List.mem_append.mp z with z | z
          · obtain ⟨x, _, rfl⟩ := List.mem_map.mp z; show 1 ≤ 99; decide
          · obtain ⟨x, _, rfl⟩ := List.mem_map.mp z; show 1 ≤ 99; decide
        · exact (hEk d z).2
      have hhas : ∀ k, ∃ d ∈ D, d.kd = k := by
        have h0 : ∃ n0 t0, names7 bb = n0 :: t0 := by cases bb <;> exact ⟨_, _, rfl⟩
        have h3 : ∃ n0 t0, List.drop 3 (names7 bb) = n0 :: t0 := by cases bb <;> exact ⟨_, _, rfl⟩
        intro k
        rw [← hDD]
        cases k with
        | num =>
          obtain ⟨n0, t0, e⟩ := h0
          refine ⟨dcl .num n0, ?_, rfl⟩
          rw [e, Nat.add_comm 1 i]
          simp
        | flag =>
          obtain ⟨n0, t0, e⟩ := h3
          refine ⟨dcl .flag n0, ?_, rfl⟩
          rw [e, Nat.add_comm 1 j]
          simp
        | list =>
          have hEne : E ≠ [] := fun z => by
            rw [z] at hE
            have h5 : ∃ n0 t0, List.drop 5 (names7 bb) = n0 :: t0 := by cases bb <;> exact ⟨_, _, rfl⟩
            obtain ⟨n0, t0, e⟩ := h5
            rw [e, Nat.add_comm 1 l] at hE
            cases hE
          cases E with
          | nil => exact absurd rfl hEne
          | cons d t => exact ⟨d, by simp, (hEk d List.mem_cons_self).1⟩
      have hgood : ∀ d ∈ D, PyData.canLay0 (.str d.name) = true := by
        intro d hd
        have hm : d.name ∈ pick7 bb i j l := by rw [← hDn]; exact List.mem_map.mpr ⟨d, hd, rfl⟩
        refine good7 bb d.name ?_
        rw [pick7] at hm
        rcases List.mem_append.mp hm with z | z
        · rcases List.mem_append.mp z with z | z
          · exact List.mem_of_mem_take z
          · exact List.mem_of_mem_drop (List.mem_of_mem_take z)
        · exact List.mem_of_mem_drop (List.mem_of_mem_take z)
      have hdl := hD.len
      refine ⟨_, rfl, _, rfl, fd, _, rfl, .inl (SqL.of hfd'), p, _, rfl, hst', by omega, by omega, fun t H11 t0 t1 b11 hst11 => ?_⟩
      obtain ⟨n, rfl⟩ : ∃ n : Nat, t = (n : Int) := ⟨t.toNat, by omega⟩
      have hfd11 := but1 b11 fdp hfd'
      have tp11 : Tps H' H11 := Tps.but b11 fun m hm => by rw [List.mem_singleton.mp hm]; exact hst'.lst
      refine ⟨_, rfl, _, rfl, _, rfl, fd, _, rfl, SqL.of hfd11, fun x hx => ?_⟩
      rw [cut_from (by omega)]
      have sx := same_new hx (.lst (dv.drop n))
      refine ⟨_, rfl, _, rfl, _, rfl, fd, _, rfl, SqL.of (sx _ _ hfd11), fun y hy => ?_⟩
      rw [cut_to (by omega)]
      have sy := same_new hy (.lst (dv.take n))
      refine ⟨x, y, _, _, rfl, rfl, sy _ _ upd_same, upd_same, sz (by rw [List.length_drop, List.length_take]; omega), fun r hr3 => ?_⟩
      have sr := same_new hr3 (.lst (dv.drop n ++ dv.take n))
      have sAll : Same H11 (upd (upd (upd H11 x (.lst (dv.drop n))) y (.lst (dv.take n))) r (.lst (dv.drop n ++ dv.take n))) := (sx.trans sy).trans sr
      obtain ⟨k1, k2⟩ := ((hD.tps tp11).mono sAll).split n
      have bF : But [p] H (upd (upd (upd H11 x (.lst (dv.drop n))) y (.lst (dv.take n))) r (.lst (dv.drop n ++ dv.take n))) := (bH.trans b11).trans (But.of_same sAll)
      have hrn : H r = none := by
        have r11 : H11 r = none := (sx.trans sy).free hr3
        have rp : r ≠ p := fun z => by
          obtain ⟨_, _, _, _, y⟩ := hst11
          rw [z, y] at r11; cases r11
        exact free1 (bH.trans b11) rp r11
      have pm : (D.drop n ++ D.take n).Perm D := by
        have z := List.perm_append_comm (l₁ := D.drop n) (l₂ := D.take n)
        rw [List.take_append_drop] at z
        exact z
      refine q r (D.drop n ++ D.take n) _ _ (bF.same fun m hm => by rw [List.mem_singleton.mp hm]; exact hp) hrn upd_same (k1.app k2) ?_
      refine ⟨(pm.map _).nodup_iff.mpr hnd, by rw [pm.length_eq]; omega, fun d hd => hsz d (pm.mem_iff.mp hd), fun k => ?_, fun d hd => hgood d (pm.mem_iff.mp hd)⟩
      obtain ⟨d, hd, e⟩ := hhas k
      exact ⟨d, pm.mem_iff.mpr hd, e⟩
end
end GT
/-! _law_num, _law_flag -/
namespace GT
open PySem PySem.Spec PyProof.Rows L2
theorem sc_l_num : FnScope ["_law_stream_here", "_law_known", "_law_depth", "_law_which", "_law_nums", "_law_more", "_law_lists", "_law_name", "_law_one"] ["_law_stream_here", "_law_known", "_law_depth"] (defScope s_l_num) := ⟨rfl, rfl, rfl, by decide +kernel, rfl, by decide +kernel, by decide +kernel⟩
theorem sc_l_flag : FnScope ["_law_stream_here", "_law_known", "_law_depth", "_law_which", "_law_flags", "_law_one"] ["_law_stream_here", "_law_known", "_law_depth"] (defScope s_l_flag) := ⟨rfl, rfl, rfl, by decide +kernel, rfl, by decide +kernel, by decide +kernel⟩
theorem ExV.tps {H H' : Hp} (s : Tps H H') : ∀ {e : Ex} {v : V}, ExV H e v → ExV H' e v
  | .num _, _, h => TupV.tps s h
  | .flag _, _, h => TupV.tps s h
  | .name _, _, h => TupV.tps s h
  | .item _ e, _, h => let ⟨u, h1, h2⟩ := h; ⟨u, h1.tps s, ExV.tps s (e := e) h2⟩
  | .op _ a b, _, h => let ⟨u, w, h1, h2, h3⟩ := h; ⟨u, w, h1.tps s, ExV.tps s (e := a) h2, ExV.tps s (e := b) h3⟩
  | .neg e, _, h => let ⟨u, h1, h2⟩ := h; ⟨u, h1.tps s, ExV.tps s (e := e) h2⟩
theorem kd_in : ∀ {D : List Decl} {d : Decl}, (D.map (·.name)).Nodup → d ∈ D → kd (envOf D) d.name = some d.kd
  | [], _, _, h => nomatch h
  | e :: D, d, hn, h => by
    have hn' : (e.name :: D.map (·.name)).Nodup := hn
    obtain ⟨n1, n2⟩ := List.nodup_cons.mp hn'
    rcases List.mem_cons.mp h with z | h
    · rw [z]
      exact kd_pos rfl
    · have ne : ¬ e.name = d.name := fun z => n1 (by rw [z]; exact List.mem_map.mpr ⟨d, h, rfl⟩)
      show kd ((e.name, e.kd) :: envOf D) d.name = _
      rw [kd_neg ne]
      exact kd_in n2 h
theorem nm_kd {D : List Decl} {k : Kd} {x : Nm} (hn : (D.map (·.name)).Nodup) (h : x ∈ nmK k D) : kd (envOf D) x = some k := by
  obtain ⟨d, hd, rfl⟩ := List.mem_map.mp h
  obtain ⟨h1, h2⟩ := List.mem_filter.mp hd
  rw [kd_in hn h1, of_decide_eq_true h2]
theorem nm_ne {D : List Decl} (hv : VarsOk D) (k : Kd) : 0 < (nmK k D).length := by
  obtain ⟨d, hd, e⟩ := hv.has k
  have : d.name ∈ nmK k D := List.mem_map.mpr ⟨d, List.mem_filter.mpr ⟨hd, decide_eq_true e⟩, rfl⟩
  exact List.length_pos_of_mem this
/-- a test of a known answer -/
theorem st_test {c : TT} {t u : TS} {D : Ends} {σ : L2.St} {H : Hp} (b : Bool) (h : ∀ Q : Bool → Hp → Prop, Q b H → c σ H Q) (k : if b = true then t D σ H else u D σ H) : tIfS c t u D σ H := h _ k
/-- a stream and the known variables -/
structure Kn (H : Hp) (p a : Addr) (D : List Decl) : Prop where
  str : StrV H p
  kn : ∃ dv, H a = some (.lst dv) ∧ DeclsV H D dv
  ne : a ≠ p
theorem Kn.tps {H H' : Hp} {p a : Addr} {D : List Decl} (h : Kn H p a D) (b : But [p] H H') : Tps H H' := Tps.but b fun m hm => by rw [List.mem_singleton.mp hm]; exact h.str.lst
theorem Kn.but {H H' : Hp} {p a : Addr} {D : List Decl} (h : Kn H p a D) (b : But [p] H H') (s : StrV H' p) : Kn H' p a D :=
  ⟨s, let ⟨dv, h1, h2⟩ := h.kn; ⟨dv, but1 b h.ne h1, h2.tps (h.tps b)⟩, h.ne⟩
theorem Kn.same {H H' : Hp} {p a : Addr} {D : List Decl} (h : Kn H p a D) (s : Same H H') : Kn H' p a D :=
  ⟨let ⟨x, y, m, c, e⟩ := h.str; ⟨x, y, m, c, s _ _ e⟩, let ⟨dv, h1, h2⟩ := h.kn; ⟨dv, s _ _ h1, h2.mono s⟩, h.ne⟩
theorem Kn.new {H : Hp} {p a q : Addr} {D : List Decl} (h : Kn H p a D) (e : H q = none) : q ≠ p := fun z => by
  obtain ⟨_, _, _, _, y⟩ := h.str
  rw [z, y] at e; cases e
theorem pick_str {ns : List Nm} {i : Int} (h0 : 0 ≤ i) (h : i < (ns.length : Int)) : ∃ x, x ∈ ns ∧ atI (ns.map V.str) i = some (.str x) := by
  have hi : i.toNat < ns.length := by omega
  exact ⟨ns[i.toNat], List.getElem_mem hi, at_of (j := i.toNat) (by omega) (by rw [List.getElem?_map, List.getElem?_eq_getElem hi]; rfl)⟩
section
variable {P : Program} {w : World} {K : PySem.W.Frag} {mg : Str → Option Value} {base : Heap} {C : Addr}
def spNumG (n : Nat) : Sp := fun vs H Q _ => ∃ (p a : Addr) (dep : Nat) (D : List Decl), vs = [.ref p, .ref a, .int dep] ∧ Kn H p a D ∧ VarsOk D ∧ dep < n ∧
  ∀ v e H', But [p] H H' → StrV H' p → ExV H' e v → WT (envOf D) false e → hgt e ≤ dep + 1 → Q v H'
theorem ok_l_num (T0 : Top K mg C) {k : Nat} (c_l_take0 : ∀ n : Nat, Cal P w K mg base "_law_take" ["_law_stream_here", "_law_size"] (k + n) spTake) (c_l_of_kind0 : ∀ n : Nat, Cal P w K mg base "_law_of_kind" ["_law_known", "_law_kind"] (k + n) spOfKind) :
    ∀ n : Nat, Cal P w K mg base "_law_num" ["_law_stream_here", "_law_known", "_law_depth"] (k + n) (spNumG n)
  | 0 => T0.d_l_num.no (fun _ _ _ _ _ _ us hl => match us, hl with | [_, _, _], _ => rfl) fun vs H Q E h => by obtain ⟨p, a, dep, D, _, _, _, h, _⟩ := h; omega
  | n + 1 => by
    have T := T0
    have c_l_num := ok_l_num T0 c_l_take0 c_l_of_kind0 n
    have c_l_take := c_l_take0 n
    have c_l_of_kind := c_l_of_kind0 n
    refine T.d_l_num.ok sc_l_num (fun _ _ _ _ _ _ us hl => match us, hl with | [_, _, _], _ => rfl) (fun vs H Q E h => ?_) (fun f cdv A outer s0 H vs Q E hr h => ?_)
    · obtain ⟨p, a, dep, D, rfl, _⟩ := h
      rfl
    · obtain ⟨p, a, dep, D, rfl, kn, hv, hdep, q⟩ := h
      refine ⟨_, (pss_cons (ps_set (i := 3) sc_l_num.nd rfl (Or.inl rfl) (pe_cl c_l_take hr rfl (pa_cons (pv 0) (pa_cons pe_int pa_nil))))
      (Evl.pss_cut (ps_if (pt_cmpR op_eq (pv 2) pe_int (nomark _)) (pss_one (ps_set (i := 3) sc_l_num.nd rfl (Or.inl rfl) (pe_op op_mod (pv 3) pe_int))) pss_nil)
      (pss_cons (ps_set (i := 4) sc_l_num.nd rfl (Or.inl rfl) (pe_cl c_l_of_kind hr rfl (pa_cons (pv 1) (pa_cons pe_str pa_nil))))
      (pss_cons (ps_if (pt_cmpR op_eq (pv 3) pe_int (nomark _)) (pss_cons (ps_set (i := 5) sc_l_num.nd rfl (Or.inl rfl) (pe_cl c_l_take hr rfl (pa_cons (pv 0) (pa_cons pe_int pa_nil))))
      (pss_one (ps_ret (pe_tup (pa_cons pe_str (pa_cons (pe_ix ix_list (pe_lst (pa_cons pe_int (pa_cons pe_int (pa_cons pe_int (pa_cons pe_int (pa_cons (pe_cl c_l_take hr rfl (pa_cons (pv 0) (pa_cons pe_int pa_nil))) pa_nil)))))) (pv 5) (fun _ _ => rfl)) pa_nil)))))) pss_nil)
      (pss_cons (ps_if (PW.pt (pw_or (pt_cmpR op_eq (pv 3) pe_int (nomark _)) (pw_or1 (pt_cmpR op_eq (pv 3) pe_int (nomark _))))) (pss_cons (ps_set (i := 6) sc_l_num.nd rfl (Or.inl rfl) (pe_cl c_l_of_kind hr rfl (pa_cons (pv 1) (pa_cons pe_str pa_nil))))
      (pss_cons (ps_set (i := 7) sc_l_num.nd rfl (Or.inl rfl) (pe_ix ix_list (pv 6) (pe_cl c_l_take hr rfl (pa_cons (pv 0) (pa_cons (pe_callB call_len_seq rfl T.len_ (by decide +kernel) (pa_cons (pv 6) pa_nil)) pa_nil))) (fun _ _ => rfl)))
      (pss_cons (ps_if (PW.pt (pw_or (pt_cmpR op_eq (pv 2) pe_int (nomark _)) (pw_or1 (pt_cmpR op_eq (pv 3) pe_int (nomark _))))) (pss_one (ps_ret (pe_tup (pa_cons pe_str (pa_cons (pv 7) (pa_cons (pe_tup (pa_cons pe_str (pa_cons (pe_cl c_l_take hr rfl (pa_cons (pv 0) (pa_cons (pe_ix ix_list (pe_lst (pa_cons pe_int (pa_cons pe_int (pa_cons pe_int pa_nil)))) (pe_cl c_l_take hr rfl (pa_cons (pv 0) (pa_cons pe_int pa_nil))) (fun _ _ => rfl)) pa_nil))) pa_nil))) pa_nil)))))) pss_nil)
      (pss_one (ps_ret (pe_tup (pa_cons pe_str (pa_cons (pv 7) (pa_cons (pe_cl c_l_num hr rfl (pa_cons (pv 0) (pa_cons (pv 1) (pa_cons (pe_op op_sub (pv 2) pe_int) pa_nil)))) pa_nil))))))))) pss_nil)
      (pss_cons (ps_if (pt_chain op_le op_le pe_int (pv 3) pe_int) (pss_cons (ps_set (i := 8) sc_l_num.nd rfl (Or.inl rfl) (pe_cl c_l_num hr rfl (pa_cons (pv 0) (pa_cons (pv 1) (pa_cons (pe_op op_sub (pv 2) pe_int) pa_nil)))))
      (pss_one (ps_ret (pe_tup (pa_cons (pe_ix ix_list (pe_lst (pa_cons pe_str (pa_cons pe_str (pa_cons pe_str pa_nil)))) (pe_op op_sub (pv 3) pe_int) (fun _ _ => rfl)) (pa_cons (pv 8) (pa_cons (pe_cl c_l_num hr rfl (pa_cons (pv 0) (pa_cons (pv 1) (pa_cons (pe_op op_sub (pv 2) pe_int) pa_nil)))) pa_nil))))))) pss_nil)
      (pss_one (ps_ret (pe_tup (pa_cons pe_str (pa_cons (pe_ix ix_list (pv 4) (pe_cl c_l_take hr rfl (pa_cons (pv 0) (pa_cons (pe_callB call_len_seq rfl T.len_ (by decide +kernel) (pa_cons (pv 4) pa_nil)) pa_nil))) (fun _ _ => rfl)) pa_nil))))))))))), ?_⟩
      have hDl := hv.len
      refine ⟨_, rfl, p, 9, rfl, kn.str, by decide, by decide, fun w0 H1 w1 w2 b1 st1 => ?_⟩
      have kn1 := kn.but b1 st1
      refine ⟨fun σ' H' => ∃ wh : Int, σ' = [some (.ref p), some (.ref a), some (.int dep), some (.int wh), none, none, none, none, none] ∧ H' = H1 ∧ 0 ≤ wh ∧ wh < 9 ∧ (dep = 0 → wh < 3), ?_, ?_⟩
      · refine ⟨_, rfl, rfl, _, rfl, ifD (fun c => ?_) (fun c => ?_)⟩
        · refine ⟨_, rfl, _, _, rfl, rfl, (by show (0 : Int) < 3; decide), ?_⟩
          exact ⟨w0 % 3, rfl, rfl, Int.emod_nonneg _ (by decide), by have := Int.emod_lt_of_pos w0 (show (0 : Int) < 3 by decide); omega, fun _ => Int.emod_lt_of_pos _ (by decide)⟩
        · exact ⟨w0, rfl, rfl, w1, w2, fun z => absurd (by rw [z]; rfl) c⟩
      · rintro σ' H' ⟨wh, rfl, rfl, wh0, wh9, wh3⟩
        obtain ⟨dv, hdv, hdd⟩ := kn1.kn
        refine ⟨_, rfl, a, .num, D, dv, rfl, hdv, hdd, by omega, fun nl H2 s2 nl0 hnl => ?_⟩
        have kn2 := kn1.same s2
        have nlp := kn1.new nl0
        have b2 : But [p] H H2 := b1.trans (But.of_same s2)
        have nlen := nmK_len .num D
        refine ⟨_, rfl, rfl, _, rfl, ifD (fun c => ?_) (fun c => ?_)⟩
        · -- which == 0
          refine ⟨_, rfl, p, 5, rfl, kn2.str, by decide, by decide, fun mo H3 mo0 mo1 b3 st3 => ?_⟩
          refine ⟨_, rfl, p, 4096, rfl, st3, by decide, by decide, fun r H4 r0 r1 b4 st4 => ⟨(by show 5 ≤ sizeLine; decide), fun l hl => ?_⟩⟩
          have sl := same_new hl (.lst [.int 0, .int 1, .int 4095, .int 2, .int r])
          obtain ⟨z, hz, hat⟩ : ∃ z : Int, In16 z ∧ atI [V.int 0, V.int 1, V.int 4095, V.int 2, V.int r] mo = some (.int z) := by
            have hm : mo = 0 ∨ mo = 1 ∨ mo = 2 ∨ mo = 3 ∨ mo = 4 := by omega
            rcases hm with rfl | rfl | rfl | rfl | rfl
            · exact ⟨0, ⟨by decide, by decide⟩, rfl⟩
            · exact ⟨1, ⟨by decide, by decide⟩, rfl⟩
            · exact ⟨4095, ⟨by decide, by decide⟩, rfl⟩
            · exact ⟨2, ⟨by decide, by decide⟩, rfl⟩
            · exact ⟨r, ⟨r0, by omega⟩, rfl⟩
          refine ⟨_, rfl, l, _, _, _, rfl, rfl, SqL.of upd_same, hat, (by show 2 ≤ sizeLine; decide), fun t ht => ?_⟩
          have st := same_new ht (.tup [.str "num", .int z])
          obtain ⟨ya, yb, ym, yc, y4⟩ := st4
          exact q _ (.num z) _ (((b2.trans b3).trans b4).trans (But.of_same (sl.trans st))) ⟨ya, yb, ym, yc, st _ _ (sl _ _ y4)⟩ ⟨t, rfl, upd_same⟩ hz (Nat.zero_le _)
        · have wne : wh ≠ 0 := fun z => c (by rw [z])
          dsimp only [tNext, gName, tSeq]
          refine st_test (decide (wh = 2 ∨ wh = 6)) (fun Q2 q2 => ?_) (ifD (fun c26 => ?_) (fun c26 => ?_))
          · by_cases c2 : wh = 2
            · refine ⟨_, rfl, rfl, _, rfl, ifDT (by rw [c2]) ?_⟩
              rw [decide_eq_true (Or.inl c2)] at q2
              exact q2
            · refine ⟨_, rfl, rfl, _, rfl, ifDF (int_ne c2) ?_⟩
              refine ⟨_, rfl, rfl, _, rfl, ?_⟩
              have e : decide (V.int wh = V.int 6) = decide (wh = 2 ∨ wh = 6) := by simp [c2]
              rw [e]
              exact q2
          · -- a list's place
            obtain ⟨dv2, hdv2, hdd2⟩ := kn2.kn
            refine ⟨_, rfl, a, .list, D, dv2, rfl, hdv2, hdd2, by omega, fun ll H3 s3 ll0 hll => ?_⟩
            have kn3 := kn2.same s3
            have llp := kn2.new ll0
            have llen : ((nmK .list D).map V.str).length = (nmK .list D).length := List.length_map _
            have lpos := nm_ne hv .list
            have llen2 := nmK_len .list D
            refine ⟨_, rfl, _, rfl, _, rfl, ll, _, rfl, .inl (SqL.of hll), p, _, rfl, kn3.str, by omega, by omega, fun i H4 i0 i1 b4 st4 => ?_⟩
            rw [llen] at i1
            obtain ⟨x, hx, hat⟩ := pick_str i0 i1
            have hll4 := but1 b4 llp hll
            refine ⟨ll, _, _, _, rfl, rfl, SqL.of hll4, hat, ?_⟩
            have kn4 := kn3.but b4 st4
            have hkd := nm_kd hv.nd hx
            have b24 : But [p] H H4 := (b2.trans (But.of_same s3)).trans b4
            dsimp only [tNext, gName, tSeq]
            refine st_test (decide (dep = 0 ∨ wh = 6)) (fun Q2 q2 => ?_) (ifD (fun c06 => ?_) (fun c06 => ?_))
            · by_cases c2 : dep = 0
              · refine ⟨_, rfl, rfl, _, rfl, ifDT (by rw [c2]; rfl) ?_⟩
                rw [decide_eq_true (Or.inl c2)] at q2
                exact q2
              · refine ⟨_, rfl, rfl, _, rfl, ifDF (int_ne (by omega)) ?_⟩
                refine ⟨_, rfl, rfl, _, rfl, ?_⟩
                have e : decide (V.int wh = V.int 6) = decide (dep = 0 ∨ wh = 6) := by simp [c2]
                rw [e]
                exact q2
            · refine ⟨_, rfl, _, rfl, (by show 3 ≤ sizeLine; decide), fun l hl => ?_⟩
              have sl := same_new hl (.lst [.int 2, .int 4, .int 101])
              have lp := kn4.new hl
              refine ⟨_, rfl, p, 3, rfl, (kn4.same sl).str, by decide, by decide, fun j H5 j0 j1 b5 st5 => ?_⟩
              have hl5 := but1 b5 lp (show (upd H4 l (.lst [.int 2, .int 4, .int 101])) l = _ from upd_same)
              obtain ⟨z, hz, hz2⟩ : ∃ z : Int, (0 < z ∧ z ≤ 101) ∧ atI [V.int 2, V.int 4, V.int 101] j = some (.int z) := by
                have hm : j = 0 ∨ j = 1 ∨ j = 2 := by omega
                rcases hm with rfl | rfl | rfl
                · exact ⟨2, ⟨by decide, by decide⟩, rfl⟩
                · exact ⟨4, ⟨by decide, by decide⟩, rfl⟩
                · exact ⟨101, ⟨by decide, by decide⟩, rfl⟩
              refine ⟨l, _, _, _, rfl, rfl, SqL.of hl5, hz2, p, z, rfl, st5, hz.1, by omega, fun r H6 r0 r1 b6 st6 => ⟨(by show 2 ≤ sizeLine; decide), fun t ht => ⟨(by show 3 ≤ sizeLine; decide), fun t2 ht2 => ?_⟩⟩⟩
              have sa := same_new ht (.tup [.str "num", .int r])
              have sb := same_new ht2 (.tup [.str "at", .str x, .ref t])
              obtain ⟨ya, yb, ym, yc, y6⟩ := st6
              refine q _ (.item x (.num r)) _ ((((b24.trans (But.of_same sl)).trans b5).trans b6).trans (But.of_same (sa.trans sb))) ⟨ya, yb, ym, yc, sb _ _ (sa _ _ y6)⟩ ⟨.ref t, ⟨t2, rfl, upd_same⟩, ⟨t, rfl, sb _ _ upd_same⟩⟩ ⟨hkd, r0, by omega⟩ ?_
              show 0 + 1 ≤ dep + 1
              omega
            · have d0 : dep ≠ 0 := fun z => c06 (.inl z)
              refine ⟨_, rfl, _, rfl, _, rfl, _, rfl, _, _, rfl, rfl, p, a, dep - 1, D, by rw [show ((dep - 1 : Nat) : Int) = (dep : Int) - 1 by omega]; rfl, kn4, hv, by omega, fun v e H5 b5 st5 he hw hh => ⟨(by show 3 ≤ sizeLine; decide), fun t2 ht2 => ?_⟩⟩
              have sb := same_new ht2 (.tup [.str "at", .str x, v])
              obtain ⟨ya, yb, ym, yc, y6⟩ := st5
              refine q _ (.item x e) _ ((b24.trans b5).trans (But.of_same sb)) ⟨ya, yb, ym, yc, sb _ _ y6⟩ ⟨v, ⟨t2, rfl, upd_same⟩, he.mono sb⟩ ⟨hkd, hw⟩ ?_
              show hgt e + 1 ≤ dep + 1
              omega
          · dsimp only [tNext, gName, tSeq]
            refine st_test (decide (3 ≤ wh ∧ wh ≤ 5)) (fun Q2 q2 => ?_) (ifD (fun c35 => ?_) (fun c35 => ?_))
            · refine ⟨_, rfl, _, _, rfl, rfl, _, rfl, ?_⟩
              by_cases c3 : 3 ≤ wh
              · rw [decide_eq_true c3]
                have e : decide (wh ≤ 5) = decide (3 ≤ wh ∧ wh ≤ 5) := by simp [c3]
                refine iteT ?_
                refine ⟨_, _, rfl, rfl, _, rfl, ?_⟩
                rw [e]
                exact q2
              · rw [decide_eq_false c3]
                rw [decide_eq_false (fun z => c3 z.1)] at q2
                exact ⟨false, rfl, q2⟩
            · -- two joined
              obtain ⟨c3, c5⟩ := c35
              have d0 : dep ≠ 0 := fun z => by have := wh3 z; omega
              refine ⟨_, rfl, _, rfl, _, rfl, _, _, rfl, rfl, p, a, dep - 1, D, by rw [show ((dep - 1 : Nat) : Int) = (dep : Int) - 1 by omega]; rfl, kn2, hv, by omega, fun v e H3 b3 st3 he hw hh => ?_⟩
              have kn3 := kn2.but b3 st3
              refine ⟨(by show 3 ≤ sizeLine; decide), fun l hl => ?_⟩
              have sl := same_new hl (.lst [.str "+", .str "-", .str "&"])
              obtain ⟨o, ho, hat⟩ : ∃ o : Op, (o = .add ∨ o = .sub ∨ o = .and) ∧ atI [V.str "+", V.str "-", V.str "&"] (wh - 3) = some (.str (opS o)) := by
                have hm : wh = 3 ∨ wh = 4 ∨ wh = 5 := by omega
                rcases hm with rfl | rfl | rfl
                · exact ⟨.add, .inl rfl, rfl⟩
                · exact ⟨.sub, .inr (.inl rfl), rfl⟩
                · exact ⟨.and, .inr (.inr rfl), rfl⟩
              refine ⟨_, rfl, _, _, rfl, rfl, l, _, _, _, rfl, rfl, SqL.of upd_same, hat, _, rfl, ?_⟩
              have kn4 := kn3.same sl
              refine ⟨_, rfl, _, rfl, _, rfl, _, _, rfl, rfl, p, a, dep - 1, D, by rw [show ((dep - 1 : Nat) : Int) = (dep : Int) - 1 by omega]; rfl, kn4, hv, by omega, fun v2 e2 H5 b5 st5 he2 hw2 hh2 => ⟨(by show 3 ≤ sizeLine; decide), fun t2 ht2 => ?_⟩⟩
              have sb := same_new ht2 (.tup [.str (opS o), v, v2])
              obtain ⟨ya, yb, ym, yc, y6⟩ := st5
              refine q _ (.op o e e2) _ ((((b2.trans b3).trans (But.of_same sl)).trans b5).trans (But.of_same sb)) ⟨ya, yb, ym, yc, sb _ _ y6⟩ ⟨v, v2, ⟨t2, rfl, upd_same⟩, ((he.mono sl).tps (kn4.tps b5)).mono sb, he2.mono sb⟩ ?_ ?_
              · rcases ho with rfl | rfl | rfl <;> exact ⟨hw, hw2⟩
              · show max (hgt e) (hgt e2) + 1 ≤ dep + 1
                omega
            · -- a name
              have npos := nm_ne hv .num
              have nl2 : ((nmK .num D).map V.str).length = (nmK .num D).length := List.length_map _
              refine ⟨_, rfl, _, rfl, _, rfl, nl, _, rfl, .inl (SqL.of hnl), p, _, rfl, kn2.str, by omega, by omega, fun i H3 i0 i1 b3 st3 => ?_⟩
              rw [nl2] at i1
              obtain ⟨x, hx, hat⟩ := pick_str i0 i1
              refine ⟨nl, _, _, _, rfl, rfl, SqL.of (but1 b3 nlp hnl), hat, (by show 2 ≤ sizeLine; decide), fun t2 ht2 => ?_⟩
              have sb := same_new ht2 (.tup [.str "name", .str x])
              obtain ⟨ya, yb, ym, yc, y6⟩ := st3
              exact q _ (.name x) _ ((b2.trans b3).trans (But.of_same sb)) ⟨ya, yb, ym, yc, sb _ _ y6⟩ ⟨t2, rfl, upd_same⟩ (nm_kd hv.nd hx) (Nat.zero_le _)
def spFlagG (n : Nat) : Sp := fun vs H Q _ => ∃ (p a : Addr) (dep : Nat) (D : List Decl), vs = [.ref p, .ref a, .int dep] ∧ Kn H p a D ∧ VarsOk D ∧ dep < n ∧
  ∀ v e H', But [p] H H' → StrV H' p → ExV H' e v → WT (envOf D) true e → hgt e ≤ dep + 1 → Q v H'
theorem ok_l_flag (T0 : Top K mg C) {k : Nat} (c_l_take0 : ∀ n : Nat, Cal P w K mg base "_law_take" ["_law_stream_here", "_law_size"] (k + n) spTake) (c_l_of_kind0 : ∀ n : Nat, Cal P w K mg base "_law_of_kind" ["_law_known", "_law_kind"] (k + n) spOfKind) (c_l_num0 : ∀ n : Nat, Cal P w K mg base "_law_num" ["_law_stream_here", "_law_known", "_law_depth"] (k + n) (spNumG 4)) :
    ∀ n : Nat, n ≤ 4 → Cal P w K mg base "_law_flag" ["_law_stream_here", "_law_known", "_law_depth"] (k + n) (spFlagG n)
  | 0, _ => T0.d_l_flag.no (fun _ _ _ _ _ _ us hl => match us, hl with | [_, _, _], _ => rfl) fun vs H Q E h => by obtain ⟨p, a, dep, D, _, _, _, h, _⟩ := h; omega
  | n + 1, hn4 => by
    have T := T0
    have c_l_flag := ok_l_flag T0 c_l_take0 c_l_of_kind0 c_l_num0 n (by omega)
    have c_l_take := c_l_take0 n
    have c_l_of_kind := c_l_of_kind0 n
    have c_l_num := c_l_num0 n
    refine T.d_l_flag.ok sc_l_flag (fun _ _ _ _ _ _ us hl => match us, hl with | [_, _, _], _ => rfl) (fun vs H Q E h => ?_) (fun f cdv A outer s0 H vs Q E hr h => ?_)
    · obtain ⟨p, a, dep, D, rfl, _⟩ := h
      rfl
    · obtain ⟨p, a, dep, D, rfl, kn, hv, hdep, q⟩ := h
      refine ⟨_, (pss_cons (ps_set (i := 3) sc_l_flag.nd rfl (Or.inl rfl) (pe_cl c_l_take hr rfl (pa_cons (pv 0) (pa_cons pe_int pa_nil))))
      (pss_cons (ps_set (i := 4) sc_l_flag.nd rfl (Or.inl rfl) (pe_cl c_l_of_kind hr rfl (pa_cons (pv 1) (pa_cons pe_str pa_nil))))
      (pss_cons (ps_if (PW.pt (pw_and (pt_cmpR op_gt (pv 2) pe_int (nomark _)) (pw_and (pt_cmpR op_lt (pv 3) pe_int (nomark _)) (pw_and1 (pt_cmpR op_gt (pv 3) pe_int (nomark _)))))) (pss_cons (ps_if (pt_cmpR op_eq (pv 3) pe_int (nomark _)) (pss_one (ps_ret (pe_tup (pa_cons pe_str (pa_cons (pe_cl c_l_flag hr rfl (pa_cons (pv 0) (pa_cons (pv 1) (pa_cons (pe_op op_sub (pv 2) pe_int) pa_nil)))) pa_nil))))) pss_nil)
      (pss_cons (ps_set (i := 5) sc_l_flag.nd rfl (Or.inl rfl) (pe_cl c_l_num hr rfl (pa_cons (pv 0) (pa_cons (pv 1) (pa_cons (pe_op op_sub (pv 2) pe_int) pa_nil)))))
      (pss_one (ps_ret (pe_tup (pa_cons (pe_ix ix_list (pe_lst (pa_cons pe_str (pa_cons pe_str pa_nil))) (pe_op op_sub (pv 3) pe_int) (fun _ _ => rfl)) (pa_cons (pv 5) (pa_cons (pe_cl c_l_num hr rfl (pa_cons (pv 0) (pa_cons (pv 1) (pa_cons (pe_op op_sub (pv 2) pe_int) pa_nil)))) pa_nil)))))))) pss_nil)
      (pss_cons (ps_if (pt_cmpR op_eq (pv 3) pe_int (nomark _)) (pss_one (ps_ret (pe_tup (pa_cons pe_str (pa_cons (pe_cmpR op_eq (pe_cl c_l_take hr rfl (pa_cons (pv 0) (pa_cons pe_int pa_nil))) pe_int (nomark _)) pa_nil))))) pss_nil)
      (pss_one (ps_ret (pe_tup (pa_cons pe_str (pa_cons (pe_ix ix_list (pv 4) (pe_cl c_l_take hr rfl (pa_cons (pv 0) (pa_cons (pe_callB call_len_seq rfl T.len_ (by decide +kernel) (pa_cons (pv 4) pa_nil)) pa_nil))) (fun _ _ => rfl)) pa_nil))))))))), ?_⟩
      have hDl := hv.len
      refine ⟨_, rfl, p, 6, rfl, kn.str, by decide, by decide, fun wh H1 wh0 wh6 b1 st1 => ?_⟩
      have kn1 := kn.but b1 st1
      obtain ⟨dv, hdv, hdd⟩ := kn1.kn
      refine ⟨_, rfl, a, .flag, D, dv, rfl, hdv, hdd, by omega, fun nl H2 s2 nl0 hnl => ?_⟩
      have kn2 := kn1.same s2
      have nlp := kn1.new nl0
      have b2 : But [p] H H2 := b1.trans (But.of_same s2)
      have nlen := nmK_len .flag D
      dsimp only [tNext, gName, tSeq]
      refine st_test (decide (dep > 0 ∧ wh < 4 ∧ wh > 0)) (fun Q2 q2 => ?_) (ifD (fun c => ?_) (fun c => ?_))
      · refine ⟨_, rfl, _, _, rfl, rfl, _, rfl, ?_⟩
        by_cases c1 : dep > 0
        · have c1' : (0 : Int) < (dep : Int) := by omega
          rw [decide_eq_true c1']
          refine iteT ?_
          refine ⟨_, rfl, _, _, rfl, rfl, _, rfl, ?_⟩
          by_cases c2 : wh < 4
          · rw [decide_eq_true c2]
            refine iteT ?_
            refine ⟨_, rfl, _, _, rfl, rfl, _, rfl, ?_⟩
            have e : decide ((0 : Int) < wh) = decide (dep > 0 ∧ wh < 4 ∧ wh > 0) := by simp [c1, c2]
            rw [e]
            exact q2
          · rw [decide_eq_false c2]
            rw [decide_eq_false (fun z => c2 z.2.1)] at q2
            exact iteF q2
        · have c1' : ¬ (0 : Int) < (dep : Int) := by omega
          rw [decide_eq_false c1']
          rw [decide_eq_false (fun z => c1 z.1)] at q2
          exact iteF q2
      · obtain ⟨c1, c2, c3⟩ := c
        refine ⟨_, rfl, rfl, _, rfl, ifD (fun c => ?_) (fun c => ?_)⟩
        · refine ⟨_, rfl, _, rfl, _, rfl, _, _, rfl, rfl, p, a, dep - 1, D, by rw [show ((dep - 1 : Nat) : Int) = (dep : Int) - 1 by omega]; rfl, kn2, hv, by omega, fun v e H3 b3 st3 he hw hh => ⟨(by show 2 ≤ sizeLine; decide), fun t2 ht2 => ?_⟩⟩
          have sb := same_new ht2 (.tup [.str "not", v])
          obtain ⟨ya, yb, ym, yc, y6⟩ := st3
          refine q _ (.neg e) _ ((b2.trans b3).trans (But.of_same sb)) ⟨ya, yb, ym, yc, sb _ _ y6⟩ ⟨v, ⟨t2, rfl, upd_same⟩, he.mono sb⟩ hw ?_
          show hgt e + 1 ≤ dep + 1
          omega
        · have c4 : wh ≠ 3 := fun z => c (by rw [z])
          refine ⟨_, rfl, _, rfl, _, rfl, _, _, rfl, rfl, p, a, dep - 1, D, by rw [show ((dep - 1 : Nat) : Int) = (dep : Int) - 1 by omega]; rfl, kn2, hv, by omega, fun v e H3 b3 st3 he hw hh => ?_⟩
          have kn3 := kn2.but b3 st3
          refine ⟨(by show 2 ≤ sizeLine; decide), fun l hl => ?_⟩
          have sl := same_new hl (.lst [.str "<", .str "="])
          obtain ⟨o, ho, hat⟩ : ∃ o : Op, (o = .lt ∨ o = .eq) ∧ atI [V.str "<", V.str "="] (wh - 1) = some (.str (opS o)) := by
            have hm : wh = 1 ∨ wh = 2 := by omega
            rcases hm with rfl | rfl
            · exact ⟨.lt, .inl rfl, rfl⟩
            · exact ⟨.eq, .inr rfl, rfl⟩
          refine ⟨_, rfl, _, _, rfl, rfl, l, _, _, _, rfl, rfl, SqL.of upd_same, hat, _, rfl, ?_⟩
          have kn4 := kn3.same sl
          refine ⟨_, rfl, _, rfl, _, rfl, _, _, rfl, rfl, p, a, dep - 1, D, by rw [show ((dep - 1 : Nat) : Int) = (dep : Int) - 1 by omega]; rfl, kn4, hv, by omega, fun v2 e2 H5 b5 st5 he2 hw2 hh2 => ⟨(by show 3 ≤ sizeLine; decide), fun t2 ht2 => ?_⟩⟩
          have sb := same_new ht2 (.tup [.str (opS o), v, v2])
          obtain ⟨ya, yb, ym, yc, y6⟩ := st5
          refine q _ (.op o e e2) _ ((((b2.trans b3).trans (But.of_same sl)).trans b5).trans (But.of_same sb)) ⟨ya, yb, ym, yc, sb _ _ y6⟩ ⟨v, v2, ⟨t2, rfl, upd_same⟩, ((he.mono sl).tps (kn4.tps b5)).mono sb, he2.mono sb⟩ ?_ ?_
          · rcases ho with rfl | rfl <;> exact ⟨hw, hw2⟩
          · show max (hgt e) (hgt e2) + 1 ≤ dep + 1
            omega
      · refine ⟨_, rfl, rfl, _, rfl, ifD (fun c => ?_) (fun c => ?_)⟩
        · refine ⟨_, rfl, p, 2, rfl, kn2.str, by decide, by decide, fun r H3 r0 r1 b3 st3 => ⟨rfl, (by show 2 ≤ sizeLine; decide), fun t2 ht2 => ?_⟩⟩
          have sb := same_new ht2 (.tup [.str "flag", .bl (decide (V.int r = V.int 1))])
          obtain ⟨ya, yb, ym, yc, y6⟩ := st3
          exact q _ (.flag (decide (V.int r = V.int 1))) _ ((b2.trans b3).trans (But.of_same sb)) ⟨ya, yb, ym, yc, sb _ _ y6⟩ ⟨t2, rfl, upd_same⟩ trivial (Nat.zero_le _)
        · have npos := nm_ne hv .flag
          have nl2 : ((nmK .flag D).map V.str).length = (nmK .flag D).length := List.length_map _
          refine ⟨_, rfl, _, rfl, _, rfl, nl, _, rfl, .inl (SqL.of hnl), p, _, rfl, kn2.str, by omega, by omega, fun i H3 i0 i1 b3 st3 => ?_⟩
          rw [nl2] at i1
          obtain ⟨x, hx, hat⟩ := pick_str i0 i1
          refine ⟨nl, _, _, _, rfl, rfl, SqL.of (but1 b3 nlp hnl), hat, (by show 2 ≤ sizeLine; decide), fun t2 ht2 => ?_⟩
          have sb := same_new ht2 (.tup [.str "name", .str x])
          obtain ⟨ya, yb, ym, yc, y6⟩ := st3
          exact q _ (.name x) _ ((b2.trans b3).trans (But.of_same sb)) ⟨ya, yb, ym, yc, sb _ _ y6⟩ ⟨t2, rfl, upd_same⟩ (nm_kd hv.nd hx) (Nat.zero_le _)
end
end GT
/-! The pile of opened ifs and whiles, in a heap. -/
namespace GT
open PySem PySem.Spec PyProof.Rows L2
/-- rows as the law draws them: parts called are among ns -/
def RowsG (D : List Decl) (ns : List Nm) : Rows → Prop
  | .nil => True
  | .plain p r => PlOk (envOf D) p ∧ RowsG D ns r
  | .call x r => x ∈ ns ∧ RowsG D ns r
  | .ife c a b r => WT (envOf D) true c ∧ hgt c ≤ 6 ∧ RowsG D ns a ∧ RowsG D ns b ∧ RowsG D ns r
  | .whl c a r => WT (envOf D) true c ∧ hgt c ≤ 6 ∧ RowsG D ns a ∧ RowsG D ns r
theorem RowsG.app {D : List Decl} {ns : List Nm} {s : Rows} (hs : RowsG D ns s) : ∀ {r : Rows}, RowsG D ns r → RowsG D ns (GT.app r s)
  | .nil, _ => hs
  | .plain p r, h => ⟨h.1, RowsG.app hs h.2⟩
  | .call x r, h => ⟨h.1, RowsG.app hs h.2⟩
  | .ife c a b r, h => ⟨h.1, h.2.1, h.2.2.1, h.2.2.2.1, RowsG.app hs h.2.2.2.2⟩
  | .whl c a r, h => ⟨h.1, h.2.1, h.2.2.1, RowsG.app hs h.2.2.2⟩
theorem RowsG.ok {D : List Decl} {ns : List Nm} {T : Nm → Option Part} {k : Nat} (hT : ∀ x ∈ ns, ∃ q, T x = some q ∧ q.ix < k) : ∀ {r : Rows}, RowsG D ns r → RowsOk (envOf D) T k r
  | .nil, _ => trivial
  | .plain p r, h => ⟨h.1, RowsG.ok hT h.2⟩
  | .call x r, h => ⟨hT x h.1, RowsG.ok hT h.2⟩
  | .ife c a b r, h => ⟨h.1, h.2.1, RowsG.ok hT h.2.2.1, RowsG.ok hT h.2.2.2.1, RowsG.ok hT h.2.2.2.2⟩
  | .whl c a r, h => ⟨h.1, h.2.1, RowsG.ok hT h.2.2.1, RowsG.ok hT h.2.2.2⟩
structure Fr where
  f : Addr
  rl : Addr
  word : Str
  fl : V
  c : Ex
  r : Rows
  first : Option (Addr × Rows)
def fstV : Option (Addr × Rows) → V
  | none => .non
  | some p => .ref p.1
def fstR : Option (Addr × Rows) → Rows
  | none => .nil
  | some p => p.2
def muS (o : Addr) (frs : List Fr) : List Addr := o :: frs.flatMap fun x => [x.f, x.rl]
theorem mu_mem {o m : Addr} {frs : List Fr} : m ∈ muS o frs ↔ m = o ∨ ∃ x ∈ frs, m = x.f ∨ m = x.rl := by
  simp [muS, List.mem_flatMap]
theorem wo_chg {M M' : List Addr} {H H' : Hp} (h : ∀ b ∈ M', b ∈ M ∨ H b = none) (b : But M H H') : Same (Wo M H) (Wo M' H') := fun q o e => by
  have e0 := wo_sub _ _ e
  have n : ¬ q ∈ M := fun z => by rw [wo_in z] at e; cases e
  refine wo_at (b q o n e0) fun z => ?_
  rcases h q z with y | y
  · exact n y
  · rw [y] at e0; cases e0
structure FrOk (M : List Addr) (H : Hp) (D : List Decl) (ns : List Nm) (x : Fr) : Prop where
  fr : H x.f = some (.lst [.str x.word, x.fl, .ref x.rl, fstV x.first])
  rl : ∃ vs, H x.rl = some (.lst vs) ∧ RowsV (Wo M H) x.r vs
  fst : ∀ a ra, x.first = some (a, ra) → x.word = "if" ∧ RowsG D ns ra ∧ ∃ va, Wo M H a = some (.lst va) ∧ RowsV (Wo M H) ra va
  flag : x.word = "main" ∨ ((x.word = "if" ∨ x.word = "while") ∧ ExV (Wo M H) x.c x.fl ∧ WT (envOf D) true x.c ∧ hgt x.c ≤ 6)
  ok : RowsG D ns x.r
theorem FrOk.go {M M' : List Addr} {H H' : Hp} {D : List Decl} {ns : List Nm} {x : Fr} (h : FrOk M H D ns x) (e1 : H' x.f = H x.f) (e2 : H' x.rl = H x.rl) (s : Same (Wo M H) (Wo M' H')) : FrOk M' H' D ns x := by
  obtain ⟨vs, k1, k2⟩ := h.rl
  refine ⟨by rw [e1]; exact h.fr, ⟨vs, by rw [e2]; exact k1, k2.mono s⟩, fun a ra e => ?_, ?_, h.ok⟩
  · obtain ⟨j1, j2, va, j3, j4⟩ := h.fst a ra e
    exact ⟨j1, j2, va, s _ _ j3, j4.mono s⟩
  · rcases h.flag with j | ⟨j1, j2, j3⟩
    · exact .inl j
    · exact .inr ⟨j1, j2.mono s, j3⟩
structure Stk (E : List Addr) (H : Hp) (o : Addr) (D : List Decl) (ns : List Nm) (frs : List Fr) : Prop where
  op : H o = some (.lst (frs.map fun x => V.ref x.f))
  nd : (muS o frs).Nodup
  fr : ∀ x ∈ frs, FrOk (E ++ muS o frs) H D ns x
  dep : ∀ (i : Nat) (x : Fr), frs[i]? = some x → deep x.r ≤ 7 - i ∧ deep (fstR x.first) ≤ 7 - i
  main : ∃ x t, frs = x :: t ∧ x.word = "main" ∧ x.first = none ∧ ∀ y ∈ t, y.word = "if" ∨ y.word = "while"
  len : frs.length ≤ 8
def tally : List Fr → Nat
  | [] => 0
  | x :: t => count x.r + count (fstR x.first) + 1 + tally t
theorem tally_app (b : List Fr) : ∀ a : List Fr, tally (a ++ b) = tally a + tally b
  | [] => by simp [tally]
  | x :: t => by simp only [List.cons_append, tally, tally_app b t]; omega
section
variable {E E' : List Addr} {H H' : Hp} {o : Addr} {D : List Decl} {ns : List Nm} {frs pre : List Fr} {x y : Fr}
theorem Stk.al (h : Stk E H o D ns frs) : ∀ m ∈ muS o frs, ∃ xs, H m = some (.lst xs) := fun m hm => by
  rcases mu_mem.mp hm with rfl | ⟨x, hx, rfl | rfl⟩
  · exact ⟨_, h.op⟩
  · exact ⟨_, (h.fr x hx).fr⟩
  · obtain ⟨vs, e, _⟩ := (h.fr x hx).rl
    exact ⟨_, e⟩
/-- other things change -/
theorem Stk.go (h : Stk E H o D ns frs) (b : But (E ++ muS o frs) H H') (hk : ∀ m ∈ muS o frs, H' m = H m) (hE : ∀ e ∈ E', e ∈ E ∨ H e = none) : Stk E' H' o D ns frs := by
  have s : Same (Wo (E ++ muS o frs) H) (Wo (E' ++ muS o frs) H') := wo_chg (fun q hq => by
    rcases List.mem_append.mp hq with z | z
    · rcases hE q z with y | y
      · exact .inl (List.mem_append_left _ y)
      · exact .inr y
    · exact .inl (List.mem_append_right _ z)) b
  refine ⟨by rw [hk o (mu_mem.mpr (.inl rfl))]; exact h.op, h.nd, fun x hx => (h.fr x hx).go (hk _ (mu_mem.mpr (.inr ⟨x, hx, .inl rfl⟩))) (hk _ (mu_mem.mpr (.inr ⟨x, hx, .inr rfl⟩))) s, h.dep, h.main, h.len⟩
/-- a new stream comes, or things are made -/
theorem Stk.same (h : Stk E H o D ns frs) (s : Same H H') (hE : ∀ e ∈ E', e ∈ E ∨ H e = none) : Stk E' H' o D ns frs :=
  h.go (But.of_same s) (fun m hm => let ⟨xs, e⟩ := h.al m hm; by rw [e, s _ _ e]) hE
/-- a stream turns -/
theorem Stk.turn {p : Addr} (h : Stk (p :: E) H o D ns frs) (b : But [p] H H') (hp : ¬ p ∈ muS o frs) : Stk (p :: E) H' o D ns frs :=
  h.go (b.mono fun m hm => by rw [List.mem_singleton.mp hm]; exact List.mem_cons_self) (fun m hm => by
    obtain ⟨xs, e⟩ := h.al m hm
    rw [e]
    exact b _ _ (fun z => hp (by rw [← List.mem_singleton.mp z]; exact hm)) e) (fun e he => .inl he)
theorem mu_split : muS o (pre ++ [x]) = muS o pre ++ [x.f, x.rl] := by simp [muS]
/-- the addresses of the last one are no other's -/
theorem Stk.apart (h : Stk E H o D ns (pre ++ [x])) : x.f ≠ x.rl ∧ ¬ x.f ∈ muS o pre ∧ ¬ x.rl ∈ muS o pre := by
  have n := h.nd
  rw [mu_split, List.nodup_append] at n
  obtain ⟨n1, n2, n3⟩ := n
  refine ⟨fun z => ?_, fun z => n3 _ z _ (by simp) rfl, fun z => n3 _ z _ (by simp) rfl⟩
  rw [List.nodup_cons] at n2
  exact n2.1 (by rw [z]; simp)
/-- a statement more in the last one's rows -/
theorem Stk.add {s : Rows} {v : V} {vs : List V} (h : Stk E H o D ns (pre ++ [x])) (hvs : H x.rl = some (.lst vs)) (hv : RowsV (Wo (E ++ muS o (pre ++ [x])) H) s [v]) (hg : RowsG D ns s) (hd : deep s ≤ 7 - pre.length) :
    Stk E (upd H x.rl (.lst (vs ++ [v]))) o D ns (pre ++ [{ x with r := app x.r s }]) := by
  obtain ⟨a1, a2, a3⟩ := h.apart
  have em : muS o (pre ++ [{ x with r := app x.r s }]) = muS o (pre ++ [x]) := by rw [mu_split, mu_split]
  have hrl : x.rl ∈ E ++ muS o (pre ++ [x]) := List.mem_append_right _ (mu_mem.mpr (.inr ⟨x, by simp, .inr rfl⟩))
  have w : Same (Wo (E ++ muS o (pre ++ [x])) H) (Wo (E ++ muS o (pre ++ [x])) (upd H x.rl (.lst (vs ++ [v])))) := ((But.refl _ _).put hrl _).wo
  have ho : o ≠ x.rl := fun z => a3 (mu_mem.mpr (.inl z.symm))
  refine ⟨?_, by rw [em]; exact h.nd, fun y hy => ?_, fun i y hy => ?_, ?_, ?_⟩
  · rw [upd_ne ho, h.op, List.map_append, List.map_append]
    rfl
  · rw [em]
    rcases List.mem_append.mp hy with z | z
    · refine (h.fr y (List.mem_append_left _ z)).go (upd_ne fun q => a3 (mu_mem.mpr (.inr ⟨y, z, .inl q.symm⟩))) (upd_ne fun q => a3 (mu_mem.mpr (.inr ⟨y, z, .inr q.symm⟩))) w
    · rw [List.mem_singleton.mp z]
      have k := h.fr x (by simp)
      obtain ⟨vs', k1, k2⟩ := k.rl
      have ev : vs' = vs := by rw [hvs] at k1; cases k1; rfl
      subst ev
      refine ⟨by show (upd H x.rl _) x.f = _; rw [upd_ne a1]; exact k.fr, ⟨vs' ++ [v], upd_same, RowsV.app (hv.mono w) (k2.mono w)⟩, fun a ra e => ?_, ?_, RowsG.app hg k.ok⟩
      · obtain ⟨j1, j2, va, j3, j4⟩ := k.fst a ra e
        exact ⟨j1, j2, va, w _ _ j3, j4.mono w⟩
      · rcases k.flag with j | ⟨j1, j2, j3⟩
        · exact .inl j
        · exact .inr ⟨j1, j2.mono w, j3⟩
  · rcases Nat.lt_or_ge i pre.length with hi | hi
    · rw [List.getElem?_append_left hi] at hy
      exact h.dep i y (by rw [List.getElem?_append_left hi]; exact hy)
    · have hi2 : i < (pre ++ [{ x with r := app x.r s }]).length := (List.getElem?_eq_some_iff.mp hy).1
      rw [List.length_append, List.length_singleton] at hi2
      have ei : i = pre.length := by omega
      subst ei
      rw [List.getElem?_append_right (Nat.le_refl _), Nat.sub_self] at hy
      cases Option.some.inj hy
      have k := h.dep pre.length x (by rw [List.getElem?_append_right (Nat.le_refl _), Nat.sub_self]; rfl)
      refine ⟨?_, k.2⟩
      show deep (app x.r s) ≤ _
      rw [deep_app]
      omega
  · obtain ⟨x0, t, e, m1, m2, m3⟩ := h.main
    cases pre with
    | nil =>
      have e1 : x = x0 ∧ [] = t := by
        have e' : x :: [] = x0 :: t := e
        injection e' with q1 q2
        exact ⟨q1, q2⟩
      obtain ⟨rfl, rfl⟩ := e1
      exact ⟨_, [], rfl, m1, m2, fun y hy => nomatch hy⟩
    | cons z pre =>
      have e1 : z = x0 ∧ pre ++ [x] = t := by
        have e' : z :: (pre ++ [x]) = x0 :: t := e
        injection e' with q1 q2
        exact ⟨q1, q2⟩
      obtain ⟨rfl, rfl⟩ := e1
      refine ⟨z, pre ++ [{ x with r := app x.r s }], rfl, m1, m2, fun y hy => ?_⟩
      rcases List.mem_append.mp hy with q | q
      · exact m3 y (List.mem_append_left _ q)
      · rw [List.mem_singleton.mp q]
        exact m3 x (by simp)
  · have := h.len
    rw [List.length_append] at this ⊢
    exact this
/-- one opened more -/
theorem Stk.push {f rl : Addr} {wd : Str} {fl : V} {c : Ex} (h : Stk E H o D ns frs) (hl : frs.length < 8) (s : Same H H') (hf : H f = none) (hr : H rl = none) (hfr : f ≠ rl) (ef : H' f = some (.lst [.str wd, fl, .ref rl, .non])) (er : H' rl = some (.lst []))
    (hw : wd = "if" ∨ wd = "while") (hfl : ExV H' c fl) (wt : WT (envOf D) true c) (hh : hgt c ≤ 6) (hE : ∀ e ∈ E, ∃ xs, H e = some (.lst xs)) :
    Stk E (upd H' o (.lst ((frs.map fun x => V.ref x.f) ++ [.ref f]))) o D ns (frs ++ [⟨f, rl, wd, fl, c, .nil, none⟩]) := by
  have om : o ∈ E ++ muS o frs := List.mem_append_right _ (mu_mem.mpr (.inl rfl))
  have nf : ∀ m ∈ muS o frs, m ≠ f ∧ m ≠ rl := fun m hm => by
    obtain ⟨xs, e⟩ := h.al m hm
    exact ⟨ne_of_none e hf, ne_of_none e hr⟩
  have w : Same (Wo (E ++ muS o frs) H) (Wo (E ++ muS o (frs ++ [⟨f, rl, wd, fl, c, .nil, none⟩])) (upd H' o (.lst ((frs.map fun x => V.ref x.f) ++ [.ref f])))) := wo_chg (fun q hq => by
    rw [mu_split, ← List.append_assoc] at hq
    rcases List.mem_append.mp hq with z | z
    · exact .inl z
    · simp only [List.mem_cons, List.not_mem_nil, or_false] at z
      rcases z with rfl | rfl
      · exact .inr hf
      · exact .inr hr) ((But.of_same s).put om _)
  have of_ : f ≠ o := fun z => (nf o (mu_mem.mpr (.inl rfl))).1 z.symm
  have or_ : rl ≠ o := fun z => (nf o (mu_mem.mpr (.inl rfl))).2 z.symm
  have on : ∀ x ∈ frs, x.f ≠ o ∧ x.rl ≠ o := fun x hx => by
    have n := h.nd
    unfold muS at n
    rw [List.nodup_cons] at n
    refine ⟨fun z => n.1 ?_, fun z => n.1 ?_⟩
    · rw [← z]; exact List.mem_flatMap.mpr ⟨x, hx, by simp⟩
    · rw [← z]; exact List.mem_flatMap.mpr ⟨x, hx, by simp⟩
  refine ⟨by rw [upd_same, List.map_append]; rfl, ?_, fun y hy => ?_, fun i y hy => ?_, ?_, by rw [List.length_append, List.length_singleton]; omega⟩
  · rw [mu_split, List.nodup_append]
    refine ⟨h.nd, ?_, fun a ha b hb => ?_⟩
    · rw [List.nodup_cons]
      exact ⟨by simpa using hfr, by simp⟩
    · simp only [List.mem_cons, List.not_mem_nil, or_false] at hb
      rcases hb with rfl | rfl
      · exact (nf a ha).1
      · exact (nf a ha).2
  · rcases List.mem_append.mp hy with z | z
    · have k := h.fr y z
      obtain ⟨vs, k1, _⟩ := k.rl
      obtain ⟨o1, o2⟩ := on y z
      exact k.go (by rw [upd_ne o1, k.fr, s _ _ k.fr]) (by rw [upd_ne o2, k1, s _ _ k1]) w
    · rw [List.mem_singleton.mp z]
      refine ⟨by show (upd H' o _) f = _; rw [upd_ne of_]; exact ef, ⟨[], by show (upd H' o _) rl = _; rw [upd_ne or_]; exact er, rfl⟩, (fun a ra e => nomatch e), .inr ⟨hw, ?_, wt, hh⟩, trivial⟩
      refine hfl.tps fun q xs e => ?_
      have hq : ∀ m, (∃ ys, H' m = some (.lst ys)) → q ≠ m := fun m ⟨ys, k⟩ z => by rw [z, k] at e; cases e
      have qo : q ≠ o := hq o ⟨_, s _ _ h.op⟩
      refine wo_at (by rw [upd_ne qo]; exact e) fun z => ?_
      rcases List.mem_append.mp z with z | z
      · obtain ⟨ys, k⟩ := hE q z
        exact hq q ⟨ys, s _ _ k⟩ rfl
      · rw [mu_split] at z
        rcases List.mem_append.mp z with z | z
        · obtain ⟨ys, k⟩ := h.al q z
          exact hq q ⟨ys, s _ _ k⟩ rfl
        · simp only [List.mem_cons, List.not_mem_nil, or_false] at z
          rcases z with rfl | rfl
          · exact hq q ⟨_, ef⟩ rfl
          · exact hq q ⟨_, er⟩ rfl
  · rcases Nat.lt_or_ge i frs.length with hi | hi
    · rw [List.getElem?_append_left hi] at hy
      exact h.dep i y hy
    · have hi2 : i < (frs ++ [(⟨f, rl, wd, fl, c, .nil, none⟩ : Fr)]).length := (List.getElem?_eq_some_iff.mp hy).1
      rw [List.length_append, List.length_singleton] at hi2
      have ei : i = frs.length := by omega
      subst ei
      rw [List.getElem?_append_right (Nat.le_refl _), Nat.sub_self] at hy
      cases Option.some.inj hy
      exact ⟨Nat.zero_le _, Nat.zero_le _⟩
  · obtain ⟨x0, t, rfl, m1, m2, m3⟩ := h.main
    refine ⟨x0, t ++ [_], rfl, m1, m2, fun y hy => ?_⟩
    rcases List.mem_append.mp hy with q | q
    · exact m3 y q
    · rw [List.mem_singleton.mp q]
      exact hw
/-- else: what stood so far is the first rows; new rows at q -/
theorem Stk.els {q : Addr} (h : Stk E H o D ns (pre ++ [x])) (hx : x.word = "if") (hfi : x.first = none) (hq : H q = none) (b : But [x.f] H H') (ef : H' x.f = some (.lst [.str x.word, x.fl, .ref q, .ref x.rl])) (eq : H' q = some (.lst [])) (hE : ¬ x.rl ∈ E) :
    Stk E H' o D ns (pre ++ [{ x with rl := q, r := .nil, first := some (x.rl, x.r) }]) := by
  obtain ⟨a1, a2, a3⟩ := h.apart
  have xm : x.f ∈ E ++ muS o (pre ++ [x]) := List.mem_append_right _ (mu_mem.mpr (.inr ⟨x, by simp, .inl rfl⟩))
  have nq : ∀ m ∈ muS o (pre ++ [x]), m ≠ q := fun m hm => by
    obtain ⟨xs, e⟩ := h.al m hm
    exact ne_of_none e hq
  have w : Same (Wo (E ++ muS o (pre ++ [x])) H) (Wo (E ++ muS o (pre ++ [{ x with rl := q, r := .nil, first := some (x.rl, x.r) }])) H') := wo_chg (fun z hz => by
    rw [mu_split, ← List.append_assoc] at hz
    rcases List.mem_append.mp hz with y | y
    · refine .inl ?_
      rw [mu_split, ← List.append_assoc]
      exact List.mem_append_left _ y
    · simp only [List.mem_cons, List.not_mem_nil, or_false] at y
      rcases y with rfl | rfl
      · exact .inl xm
      · exact .inr hq) (b.mono fun m hm => by rw [List.mem_singleton.mp hm]; exact xm)
  have kp : ∀ m, m ∈ muS o pre → H' m = H m := fun m hm => by
    obtain ⟨xs, e⟩ := h.al m (by rw [mu_split]; exact List.mem_append_left _ hm)
    rw [e]
    exact b _ _ (fun z => a2 (by rw [← List.mem_singleton.mp z]; exact hm)) e
  have k := h.fr x (by simp)
  obtain ⟨vs, k1, k2⟩ := k.rl
  have hrl' : H' x.rl = some (.lst vs) := b _ _ (fun z => a1 (List.mem_singleton.mp z).symm) k1
  refine ⟨?_, ?_, fun y hy => ?_, fun i y hy => ?_, ?_, by have := h.len; rw [List.length_append] at this ⊢; exact this⟩
  · rw [kp o (mu_mem.mpr (.inl rfl)), h.op, List.map_append, List.map_append]
    rfl
  · have n := h.nd
    rw [mu_split, List.nodup_append] at n ⊢
    obtain ⟨n1, n2, n3⟩ := n
    refine ⟨n1, ?_, fun a ha b hb => ?_⟩
    · rw [List.nodup_cons]
      refine ⟨?_, by simp⟩
      have := nq x.f (mu_mem.mpr (.inr ⟨x, by simp, .inl rfl⟩))
      simpa using this
    · simp only [List.mem_cons, List.not_mem_nil, or_false] at hb
      rcases hb with rfl | rfl
      · exact n3 a ha _ (by simp)
      · exact nq a (by rw [mu_split]; exact List.mem_append_left _ ha)
  · rcases List.mem_append.mp hy with z | z
    · exact (h.fr y (List.mem_append_left _ z)).go (kp _ (mu_mem.mpr (.inr ⟨y, z, .inl rfl⟩))) (kp _ (mu_mem.mpr (.inr ⟨y, z, .inr rfl⟩))) w
    · rw [List.mem_singleton.mp z]
      refine ⟨ef, ⟨[], eq, rfl⟩, fun a ra e => ?_, ?_, trivial⟩
      · cases e
        refine ⟨hx, k.ok, vs, wo_at hrl' fun y => ?_, k2.mono w⟩
        rcases List.mem_append.mp y with y | y
        · exact hE y
        · rw [mu_split] at y
          rcases List.mem_append.mp y with y | y
          · exact a3 y
          · simp only [List.mem_cons, List.not_mem_nil, or_false] at y
            rcases y with y | y
            · exact a1 y.symm
            · exact nq x.rl (mu_mem.mpr (.inr ⟨x, by simp, .inr rfl⟩)) y
      · rcases k.flag with j | ⟨j1, j2, j3⟩
        · exact .inl j
        · exact .inr ⟨j1, j2.mono w, j3⟩
  · rcases Nat.lt_or_ge i pre.length with hi | hi
    · rw [List.getElem?_append_left hi] at hy
      exact h.dep i y (by rw [List.getElem?_append_left hi]; exact hy)
    · have hi2 : i < (pre ++ [({ x with rl := q, r := .nil, first := some (x.rl, x.r) } : Fr)]).length := (List.getElem?_eq_some_iff.mp hy).1
      rw [List.length_append, List.length_singleton] at hi2
      have ei : i = pre.length := by omega
      subst ei
      rw [List.getElem?_append_right (Nat.le_refl _), Nat.sub_self] at hy
      cases Option.some.inj hy
      have k := h.dep pre.length x (by rw [List.getElem?_append_right (Nat.le_refl _), Nat.sub_self]; rfl)
      exact ⟨Nat.zero_le _, k.1⟩
  · obtain ⟨x0, t, e, m1, m2, m3⟩ := h.main
    cases pre with
    | nil =>
      have e1 : x = x0 ∧ [] = t := by
        have e' : x :: [] = x0 :: t := e
        injection e' with q1 q2
        exact ⟨q1, q2⟩
      obtain ⟨rfl, rfl⟩ := e1
      rw [m1] at hx
      exact absurd hx (by decide +kernel)
    | cons z pre =>
      have e1 : z = x0 ∧ pre ++ [x] = t := by
        have e' : z :: (pre ++ [x]) = x0 :: t := e
        injection e' with q1 q2
        exact ⟨q1, q2⟩
      obtain ⟨rfl, rfl⟩ := e1
      refine ⟨z, pre ++ [_], rfl, m1, m2, fun y hy => ?_⟩
      rcases List.mem_append.mp hy with q | q
      · exact m3 y (List.mem_append_left _ q)
      · rw [List.mem_singleton.mp q]
        exact m3 x (by simp)
/-- the last one is taken off -/
theorem Stk.pop (h : Stk E H o D ns (pre ++ [x] ++ [y])) (hE : ¬ y.rl ∈ E) :
    Stk E (upd H o (.lst ((pre ++ [x]).map fun z => V.ref z.f))) o D ns (pre ++ [x]) ∧
      Same (Wo (E ++ muS o (pre ++ [x] ++ [y])) H) (Wo (E ++ muS o (pre ++ [x])) (upd H o (.lst ((pre ++ [x]).map fun z => V.ref z.f)))) ∧
      (∀ vs, H y.rl = some (.lst vs) → Wo (E ++ muS o (pre ++ [x])) (upd H o (.lst ((pre ++ [x]).map fun z => V.ref z.f))) y.rl = some (.lst vs)) := by
  obtain ⟨a1, a2, a3⟩ := h.apart
  have om : o ∈ E ++ muS o (pre ++ [x] ++ [y]) := List.mem_append_right _ (mu_mem.mpr (.inl rfl))
  have w : Same (Wo (E ++ muS o (pre ++ [x] ++ [y])) H) (Wo (E ++ muS o (pre ++ [x])) (upd H o (.lst ((pre ++ [x]).map fun z => V.ref z.f)))) := wo_chg (fun z hz => by
    refine .inl ?_
    rw [mu_split, ← List.append_assoc]
    exact List.mem_append_left _ hz) ((But.refl _ _).put om _)
  have nd2 : (muS o (pre ++ [x])).Nodup := by
    have n := h.nd
    rw [mu_split, List.nodup_append] at n
    exact n.1
  have on : ∀ z ∈ pre ++ [x], z.f ≠ o ∧ z.rl ≠ o := fun z hz => by
    have n := nd2
    unfold muS at n
    rw [List.nodup_cons] at n
    refine ⟨fun q => n.1 ?_, fun q => n.1 ?_⟩
    · rw [← q]; exact List.mem_flatMap.mpr ⟨z, hz, by simp⟩
    · rw [← q]; exact List.mem_flatMap.mpr ⟨z, hz, by simp⟩
  refine ⟨⟨upd_same, nd2, fun z hz => ?_, fun i z hz => ?_, ?_, by have := h.len; rw [List.length_append] at this; omega⟩, w, fun vs e => ?_⟩
  · obtain ⟨o1, o2⟩ := on z hz
    exact (h.fr z (List.mem_append_left _ hz)).go (upd_ne o1) (upd_ne o2) w
  · refine h.dep i z ?_
    rw [List.getElem?_append_left (List.getElem?_eq_some_iff.mp hz).1]
    exact hz
  · obtain ⟨x0, t, e, m1, m2, m3⟩ := h.main
    cases pre with
    | nil =>
      have e1 : x = x0 ∧ [y] = t := by
        have e' : x :: [y] = x0 :: t := e
        injection e' with q1 q2
        exact ⟨q1, q2⟩
      obtain ⟨rfl, rfl⟩ := e1
      exact ⟨x, [], rfl, m1, m2, fun y hy => nomatch hy⟩
    | cons z pre =>
      have e1 : z = x0 ∧ pre ++ [x] ++ [y] = t := by
        have e' : z :: (pre ++ [x] ++ [y]) = x0 :: t := e
        injection e' with q1 q2
        exact ⟨q1, q2⟩
      obtain ⟨rfl, rfl⟩ := e1
      exact ⟨z, pre ++ [x], rfl, m1, m2, fun y hy => m3 y (List.mem_append_left _ hy)⟩
  · have yo : y.rl ≠ o := fun z => a3 (mu_mem.mpr (.inl z))
    refine wo_at (by rw [upd_ne yo]; exact e) fun z => ?_
    rcases List.mem_append.mp z with z | z
    · exact hE z
    · exact a3 z
end
end GT
/-! _law_plain -/
namespace GT
open PySem PySem.Spec PyProof.Rows L2
theorem sc_l_plain : FnScope ["_law_stream_here", "_law_known", "_law_ended", "_law_which", "_law_nums", "_law_flags", "_law_lists", "_law_name", "_law_place"] ["_law_stream_here", "_law_known", "_law_ended", "_law_which"] (defScope s_l_plain) := ⟨rfl, rfl, rfl, by decide +kernel, rfl, by decide +kernel, by decide +kernel⟩
structure NsOk (ns : List Nm) : Prop where
  len : ns.length ≤ 10
  nm : ∀ x ∈ ns, x = "p" ∨ x = "pp" ∨ x = "go"
theorem dp_str {K : PySem.W.Frag} {H : Hp} : ∀ ns : List Nm, DpAll K H (ns.map V.str) (ns.map PyData.str)
  | [] => .nil
  | x :: ns => .cons (.str x) (dp_str ns)
theorem lay_ns : ∀ ns : List Nm, (∀ x ∈ ns, x = "p" ∨ x = "pp" ∨ x = "go") → PyData.canLayAll0 (ns.map PyData.str) = true ∧ PyData.depthAll (ns.map PyData.str) ≤ 1
  | [], _ => by simp [PyData.canLayAll0, PyData.depthAll]
  | x :: ns, h => by
    obtain ⟨h1, h2⟩ := lay_ns ns fun y hy => h y (List.mem_cons_of_mem _ hy)
    have hx : PyData.canLay0 (.str x) = true := by rcases h x List.mem_cons_self with rfl | rfl | rfl <;> decide +kernel
    rw [List.map_cons, PyData.canLayAll0, PyData.depthAll, hx, h1]
    refine ⟨rfl, ?_⟩
    simp only [PyData.depth]
    omega
theorem shaped_ns {ns : List Nm} (h : NsOk ns) : SeqAt.shaped (.list (ns.map PyData.str)) = true := by
  obtain ⟨h1, h2⟩ := lay_ns ns h.nm
  unfold SeqAt.shaped
  rw [Bool.and_eq_true]
  refine ⟨by rw [PyData.canLay0]; exact h1, decide_eq_true ?_⟩
  rw [PyData.depth]
  omega
theorem eqv_ns : ∀ ns : List Nm, PyData.eqv (.list (ns.map PyData.str)) (.list []) = decide (ns = [])
  | [] => by simp [PyData.eqv, PyData.eqvAll]
  | x :: ns => by simp [PyData.eqv, PyData.eqvAll]
section
variable {P : Program} {w : World} {K : PySem.W.Frag} {mg : Str → Option Value} {base : Heap} {C : Addr}
def spPlainG : Sp := fun vs H Q _ => ∃ (p a en : Addr) (wh : Int) (D : List Decl) (ns : List Nm), vs = [.ref p, .ref a, .ref en, .int wh] ∧ Kn H p a D ∧ VarsOk D ∧ NsOk ns ∧ H en = some (.lst (ns.map V.str)) ∧ en ≠ p ∧
  ∀ v r H', But [p] H H' → StrV H' p → RowsV H' r [v] → RowsG D ns r → deep r = 0 → count r = 1 → Q v H'
theorem ok_l_plain (T0 : Top K mg C) {k : Nat} (c_l_take : Cal P w K mg base "_law_take" ["_law_stream_here", "_law_size"] k spTake) (c_l_of_kind : Cal P w K mg base "_law_of_kind" ["_law_known", "_law_kind"] k spOfKind) (c_l_num : Cal P w K mg base "_law_num" ["_law_stream_here", "_law_known", "_law_depth"] k (spNumG 4)) (c_l_flag : Cal P w K mg base "_law_flag" ["_law_stream_here", "_law_known", "_law_depth"] k (spFlagG 4)) :
    Cal P w K mg base "_law_plain" ["_law_stream_here", "_law_known", "_law_ended", "_law_which"] (k + 1) spPlainG := by
  have T := T0
  refine T.d_l_plain.ok sc_l_plain (fun _ _ _ _ _ _ us hl => match us, hl with | [_, _, _, _], _ => rfl) (fun vs H Q E h => ?_) (fun f cdv A outer s0 H vs Q E hr h => ?_)
  · obtain ⟨p, a, en, wh, D, ns, rfl, _⟩ := h
    rfl
  · obtain ⟨p, a, en, wh, D, ns, rfl, kn, hv, hns, hen, enp, q⟩ := h
    refine ⟨_, (pss_cons (ps_set (i := 4) sc_l_plain.nd rfl (Or.inl rfl) (pe_cl c_l_of_kind hr rfl (pa_cons (pv 1) (pa_cons pe_str pa_nil))))
      (pss_cons (ps_set (i := 5) sc_l_plain.nd rfl (Or.inl rfl) (pe_cl c_l_of_kind hr rfl (pa_cons (pv 1) (pa_cons pe_str pa_nil))))
      (pss_cons (ps_set (i := 6) sc_l_plain.nd rfl (Or.inl rfl) (pe_cl c_l_of_kind hr rfl (pa_cons (pv 1) (pa_cons pe_str pa_nil))))
      (pss_cons (ps_if (pt_cmpR op_eq (pv 3) pe_int (nomark _)) (pss_one (ps_ret (pe_tup (pa_cons pe_str (pa_cons (pe_ix ix_list (pv 4) (pe_cl c_l_take hr rfl (pa_cons (pv 0) (pa_cons (pe_callB call_len_seq rfl T.len_ (by decide +kernel) (pa_cons (pv 4) pa_nil)) pa_nil))) (fun _ _ => rfl)) (pa_cons (pe_cl c_l_num hr rfl (pa_cons (pv 0) (pa_cons (pv 1) (pa_cons pe_int pa_nil)))) pa_nil)))))) pss_nil)
      (pss_cons (ps_if (pt_cmpR op_eq (pv 3) pe_int (nomark _)) (pss_one (ps_ret (pe_tup (pa_cons pe_str (pa_cons (pe_ix ix_list (pv 5) (pe_cl c_l_take hr rfl (pa_cons (pv 0) (pa_cons (pe_callB call_len_seq rfl T.len_ (by decide +kernel) (pa_cons (pv 5) pa_nil)) pa_nil))) (fun _ _ => rfl)) (pa_cons (pe_cl c_l_flag hr rfl (pa_cons (pv 0) (pa_cons (pv 1) (pa_cons pe_int pa_nil)))) pa_nil)))))) pss_nil)
      (pss_cons (ps_if (pt_cmpR op_eq (pv 3) pe_int (nomark _)) (pss_cons (ps_set (i := 7) sc_l_plain.nd rfl (Or.inl rfl) (pe_ix ix_list (pv 6) (pe_cl c_l_take hr rfl (pa_cons (pv 0) (pa_cons (pe_callB call_len_seq rfl T.len_ (by decide +kernel) (pa_cons (pv 6) pa_nil)) pa_nil))) (fun _ _ => rfl)))
      (pss_cons (ps_set (i := 8) sc_l_plain.nd rfl (Or.inl rfl) (pe_cl c_l_num hr rfl (pa_cons (pv 0) (pa_cons (pv 1) (pa_cons (pe_cl c_l_take hr rfl (pa_cons (pv 0) (pa_cons pe_int pa_nil))) pa_nil)))))
      (pss_one (ps_ret (pe_tup (pa_cons pe_str (pa_cons (pv 7) (pa_cons (pv 8) (pa_cons (pe_cl c_l_num hr rfl (pa_cons (pv 0) (pa_cons (pv 1) (pa_cons pe_int pa_nil)))) pa_nil))))))))) pss_nil)
      (pss_cons (ps_if (pt_cmpR op_eq (pv 3) pe_int (nomark _)) (pss_one (ps_ret (pe_tup (pa_cons pe_str (pa_cons (pe_ix ix_list (pv 4) (pe_cl c_l_take hr rfl (pa_cons (pv 0) (pa_cons (pe_callB call_len_seq rfl T.len_ (by decide +kernel) (pa_cons (pv 4) pa_nil)) pa_nil))) (fun _ _ => rfl)) pa_nil))))) pss_nil)
      (Evl.pss_cut (ps_if (PW.pt (pw_and (pt_cmpR op_eq (pv 3) pe_int (nomark _)) (pw_and1 (pt_cmpR (op_neD hr.units) (pv 2) (pe_lst pa_nil) (nomark _))))) (pss_one (ps_ret (pe_tup (pa_cons pe_str (pa_cons (pe_ix ix_list (pv 2) (pe_cl c_l_take hr rfl (pa_cons (pv 0) (pa_cons (pe_callB call_len_seq rfl T.len_ (by decide +kernel) (pa_cons (pv 2) pa_nil)) pa_nil))) (fun _ _ => rfl)) pa_nil))))) pss_nil)
      (Evl.pss_cut (ps_if (PW.pt (pw_and (pt_cmpR op_eq (pv 3) pe_int (nomark _)) (pw_and1 (pt_cmpR op_eq (pe_cl c_l_take hr rfl (pa_cons (pv 0) (pa_cons pe_int pa_nil))) pe_int (nomark _))))) (pss_one (ps_ret (pe_tup (pa_cons pe_str pa_nil)))) pss_nil)
      (Evl.pss_cut (ps_if (PW.pt (pw_and (pt_cmpR op_eq (pv 3) pe_int (nomark _)) (pw_and1 (pt_cmpR op_eq (pe_cl c_l_take hr rfl (pa_cons (pv 0) (pa_cons pe_int pa_nil))) pe_int (nomark _))))) (pss_one (ps_ret (pe_tup (pa_cons pe_str pa_nil)))) pss_nil)
      (pss_one (ps_ret (pe_tup (pa_cons pe_str (pa_cons (pe_cl c_l_num hr rfl (pa_cons (pv 0) (pa_cons (pv 1) (pa_cons pe_int pa_nil)))) pa_nil))))))))))))))), ?_⟩
    have hDl := hv.len
    obtain ⟨dv, hdv, hdd⟩ := kn.kn
    refine ⟨_, rfl, a, .num, D, dv, rfl, hdv, hdd, by omega, fun nl H1 s1 nl0 hnl1 => ?_⟩
    refine ⟨_, rfl, a, .flag, D, dv, rfl, s1 _ _ hdv, hdd.mono s1, by omega, fun fl H2 s2 fl0 hfl2 => ?_⟩
    refine ⟨_, rfl, a, .list, D, dv, rfl, s2 _ _ (s1 _ _ hdv), (hdd.mono s1).mono s2, by omega, fun ll H3 s3 ll0 hll => ?_⟩
    have s13 : Same H H3 := (s1.trans s2).trans s3
    have kn3 := kn.same s13
    have hnl := s3 _ _ (s2 _ _ hnl1)
    have hfl := s3 _ _ hfl2
    have nlp := kn.new nl0
    have flp := (kn.same s1).new fl0
    have llp := (kn.same (s1.trans s2)).new ll0
    have hen3 := s13 _ _ hen
    have b3 : But [p] H H3 := But.of_same s13
    have np := nm_ne hv .num
    have fp := nm_ne hv .flag
    have lp := nm_ne hv .list
    have nn := nmK_len .num D
    have fn := nmK_len .flag D
    have ln := nmK_len .list D
    have nl2 : ((nmK .num D).map V.str).length = (nmK .num D).length := List.length_map _
    have fl2 : ((nmK .flag D).map V.str).length = (nmK .flag D).length := List.length_map _
    have ll2 : ((nmK .list D).map V.str).length = (nmK .list D).length := List.length_map _
    have ns2 : (ns.map V.str).length = ns.length := List.length_map _
    refine ⟨_, rfl, rfl, _, rfl, ifD (fun c => ?_) (fun c0 => ?_)⟩
    · -- set a number
      refine ⟨_, rfl, _, rfl, _, rfl, nl, _, rfl, .inl (SqL.of hnl), p, _, rfl, kn3.str, by omega, by omega, fun i H4 i0 i1 b4 st4 => ?_⟩
      rw [nl2] at i1
      obtain ⟨x, hx, hat⟩ := pick_str i0 i1
      have kn4 := kn3.but b4 st4
      refine ⟨nl, _, _, _, rfl, rfl, SqL.of (but1 b4 nlp hnl), hat, _, rfl, _, rfl, p, a, 3, D, rfl, kn4, hv, by omega, fun v e H5 b5 st5 he hw hh => ⟨(by show 3 ≤ sizeLine; decide), fun t ht => ?_⟩⟩
      have sb := same_new ht (.tup [.str "set", .str x, v])
      obtain ⟨ya, yb, ym, yc, y6⟩ := st5
      exact q _ (.plain (.set x e) .nil) _ (((b3.trans b4).trans b5).trans (But.of_same sb)) ⟨ya, yb, ym, yc, sb _ _ y6⟩ ⟨_, [], rfl, ⟨v, ⟨t, rfl, upd_same⟩, he.mono sb⟩, rfl⟩ ⟨⟨false, hw, nm_kd hv.nd hx, by omega⟩, trivial⟩ rfl rfl
    refine ⟨_, rfl, rfl, _, rfl, ifD (fun c => ?_) (fun c1 => ?_)⟩
    · -- set a flag
      refine ⟨_, rfl, _, rfl, _, rfl, fl, _, rfl, .inl (SqL.of hfl), p, _, rfl, kn3.str, by omega, by omega, fun i H4 i0 i1 b4 st4 => ?_⟩
      rw [fl2] at i1
      obtain ⟨x, hx, hat⟩ := pick_str i0 i1
      have kn4 := kn3.but b4 st4
      refine ⟨fl, _, _, _, rfl, rfl, SqL.of (but1 b4 flp hfl), hat, _, rfl, _, rfl, p, a, 3, D, rfl, kn4, hv, by omega, fun v e H5 b5 st5 he hw hh => ⟨(by show 3 ≤ sizeLine; decide), fun t ht => ?_⟩⟩
      have sb := same_new ht (.tup [.str "set", .str x, v])
      obtain ⟨ya, yb, ym, yc, y6⟩ := st5
      exact q _ (.plain (.set x e) .nil) _ (((b3.trans b4).trans b5).trans (But.of_same sb)) ⟨ya, yb, ym, yc, sb _ _ y6⟩ ⟨_, [], rfl, ⟨v, ⟨t, rfl, upd_same⟩, he.mono sb⟩, rfl⟩ ⟨⟨true, hw, nm_kd hv.nd hx, by omega⟩, trivial⟩ rfl rfl
    refine ⟨_, rfl, rfl, _, rfl, ifD (fun c => ?_) (fun c2 => ?_)⟩
    · -- put
      refine ⟨_, rfl, _, rfl, _, rfl, ll, _, rfl, .inl (SqL.of hll), p, _, rfl, kn3.str, by omega, by omega, fun i H4 i0 i1 b4 st4 => ?_⟩
      rw [ll2] at i1
      obtain ⟨x, hx, hat⟩ := pick_str i0 i1
      have kn4 := kn3.but b4 st4
      refine ⟨ll, _, _, _, rfl, rfl, SqL.of (but1 b4 llp hll), hat, ?_⟩
      refine ⟨_, rfl, _, rfl, _, rfl, p, 3, rfl, kn4.str, by decide, by decide, fun j H5 j0 j1 b5 st5 => ?_⟩
      have kn5 := kn4.but b5 st5
      refine ⟨p, a, j.toNat, D, by rw [show ((j.toNat : Nat) : Int) = j by omega]; rfl, kn5, hv, by omega, fun u i2 H6 b6 st6 hi hwi hhi => ?_⟩
      have kn6 := kn5.but b6 st6
      refine ⟨_, rfl, _, rfl, _, rfl, _, rfl, p, a, 2, D, rfl, kn6, hv, by omega, fun v e H7 b7 st7 he hw hh => ⟨(by show 4 ≤ sizeLine; decide), fun t ht => ?_⟩⟩
      have sb := same_new ht (.tup [.str "put", .str x, u, v])
      obtain ⟨ya, yb, ym, yc, y6⟩ := st7
      exact q _ (.plain (.put x i2 e) .nil) _ (((((b3.trans b4).trans b5).trans b6).trans b7).trans (But.of_same sb)) ⟨ya, yb, ym, yc, sb _ _ y6⟩ ⟨_, [], rfl, ⟨u, v, ⟨t, rfl, upd_same⟩, (hi.tps (kn6.tps b7)).mono sb, he.mono sb⟩, rfl⟩ ⟨⟨nm_kd hv.nd hx, hwi, hw, by omega, by omega⟩, trivial⟩ rfl rfl
    refine ⟨_, rfl, rfl, _, rfl, ifD (fun c => ?_) (fun c3 => ?_)⟩
    · -- ask
      refine ⟨_, rfl, _, rfl, _, rfl, nl, _, rfl, .inl (SqL.of hnl), p, _, rfl, kn3.str, by omega, by omega, fun i H4 i0 i1 b4 st4 => ?_⟩
      rw [nl2] at i1
      obtain ⟨x, hx, hat⟩ := pick_str i0 i1
      refine ⟨nl, _, _, _, rfl, rfl, SqL.of (but1 b4 nlp hnl), hat, (by show 2 ≤ sizeLine; decide), fun t ht => ?_⟩
      have sb := same_new ht (.tup [.str "ask", .str x])
      obtain ⟨ya, yb, ym, yc, y6⟩ := st4
      exact q _ (.plain (.ask x) .nil) _ ((b3.trans b4).trans (But.of_same sb)) ⟨ya, yb, ym, yc, sb _ _ y6⟩ ⟨_, [], rfl, ⟨t, rfl, upd_same⟩, rfl⟩ ⟨nm_kd hv.nd hx, trivial⟩ rfl rfl
    refine ⟨fun σ' H' => σ' = [some (.ref p), some (.ref a), some (.ref en), some (.int wh), some (.ref nl), some (.ref fl), some (.ref ll), none, none] ∧ But [p] H H' ∧ Kn H' p a D, ?_, ?_⟩
    · refine ⟨_, rfl, rfl, _, rfl, ifD (fun c => ?_) (fun c4 => ?_)⟩
      · refine ⟨_, rfl, (by show 0 ≤ sizeLine; decide), fun l hl => ?_⟩
        have sl := same_new hl (.lst [])
        have kn4 := kn3.same sl
        refine ⟨.list (ns.map PyData.str), .list [], .lst (SqL.of (sl _ _ hen3)) (dp_str ns), .lst (SqL.of upd_same) .nil, shaped_ns hns, by decide +kernel, ?_⟩
        rw [eqv_ns]
        refine ⟨_, rfl, ifND (fun e => ?_) (fun e => ?_)⟩
        · have nspos : 0 < ns.length := List.length_pos_iff.mpr e
          have nsl := hns.len
          refine ⟨_, rfl, _, rfl, _, rfl, en, _, rfl, .inl (SqL.of (sl _ _ hen3)), p, _, rfl, kn4.str, by omega, by omega, fun i H4 i0 i1 b4 st4 => ?_⟩
          rw [ns2] at i1
          obtain ⟨x, hx, hat⟩ := pick_str i0 i1
          refine ⟨en, _, _, _, rfl, rfl, SqL.of (but1 b4 enp (sl _ _ hen3)), hat, (by show 2 ≤ sizeLine; decide), fun t ht => ?_⟩
          have sb := same_new ht (.tup [.str "do", .str x])
          obtain ⟨ya, yb, ym, yc, y6⟩ := st4
          exact q _ (.call x .nil) _ (((b3.trans (But.of_same sl)).trans b4).trans (But.of_same sb)) ⟨ya, yb, ym, yc, sb _ _ y6⟩ ⟨_, [], rfl, ⟨t, rfl, upd_same⟩, rfl⟩ ⟨hx, trivial⟩ rfl rfl
        · exact ⟨rfl, b3.trans (But.of_same sl), kn4⟩
      · exact ⟨rfl, b3, kn3⟩
    · rintro σ' H4 ⟨rfl, b4, kn4⟩
      refine ⟨fun σ' H' => σ' = [some (.ref p), some (.ref a), some (.ref en), some (.int wh), some (.ref nl), some (.ref fl), some (.ref ll), none, none] ∧ But [p] H H' ∧ Kn H' p a D, ?_, ?_⟩
      · refine ⟨_, rfl, rfl, _, rfl, ifD (fun c => ?_) (fun c4 => ?_)⟩
        · refine ⟨_, rfl, p, 4, rfl, kn4.str, by decide, by decide, fun i H5 i0 i1 b5 st5 => ⟨rfl, _, rfl, ifD (fun c => ?_) (fun c => ?_)⟩⟩
          · refine ⟨(by show 1 ≤ sizeLine; decide), fun t ht => ?_⟩
            have sb := same_new ht (.tup [.str "stop"])
            obtain ⟨ya, yb, ym, yc, y6⟩ := st5
            exact q _ (.plain .stop .nil) _ ((b4.trans b5).trans (But.of_same sb)) ⟨ya, yb, ym, yc, sb _ _ y6⟩ ⟨_, [], rfl, ⟨t, rfl, upd_same⟩, rfl⟩ ⟨trivial, trivial⟩ rfl rfl
          · exact ⟨rfl, b4.trans b5, kn4.but b5 st5⟩
        · exact ⟨rfl, b4, kn4⟩
      · rintro σ' H5 ⟨rfl, b5, kn5⟩
        refine ⟨fun σ' H' => σ' = [some (.ref p), some (.ref a), some (.ref en), some (.int wh), some (.ref nl), some (.ref fl), some (.ref ll), none, none] ∧ But [p] H H' ∧ Kn H' p a D, ?_, ?_⟩
        · refine ⟨_, rfl, rfl, _, rfl, ifD (fun c => ?_) (fun c4 => ?_)⟩
          · refine ⟨_, rfl, p, 2, rfl, kn5.str, by decide, by decide, fun i H6 i0 i1 b6 st6 => ⟨rfl, _, rfl, ifD (fun c => ?_) (fun c => ?_)⟩⟩
            · refine ⟨(by show 1 ≤ sizeLine; decide), fun t ht => ?_⟩
              have sb := same_new ht (.tup [.str "way"])
              obtain ⟨ya, yb, ym, yc, y6⟩ := st6
              exact q _ (.plain .way .nil) _ ((b5.trans b6).trans (But.of_same sb)) ⟨ya, yb, ym, yc, sb _ _ y6⟩ ⟨_, [], rfl, ⟨t, rfl, upd_same⟩, rfl⟩ ⟨trivial, trivial⟩ rfl rfl
            · exact ⟨rfl, b5.trans b6, kn5.but b6 st6⟩
          · exact ⟨rfl, b5, kn5⟩
        · rintro σ' H6 ⟨rfl, b6, kn6⟩
          refine ⟨_, rfl, _, rfl, p, a, 3, D, rfl, kn6, hv, by omega, fun v e H7 b7 st7 he hw hh => ⟨(by show 2 ≤ sizeLine; decide), fun t ht => ?_⟩⟩
          have sb := same_new ht (.tup [.str "tell", v])
          obtain ⟨ya, yb, ym, yc, y6⟩ := st7
          exact q _ (.plain (.tell e) .nil) _ ((b6.trans b7).trans (But.of_same sb)) ⟨ya, yb, ym, yc, sb _ _ y6⟩ ⟨_, [], rfl, ⟨v, ⟨t, rfl, upd_same⟩, he.mono sb⟩, rfl⟩ ⟨⟨hw, by omega⟩, trivial⟩ rfl rfl
end
end GT
/-! numbered -/
namespace GT
open PySem PySem.Spec PyProof.Rows L2
theorem sc_numbered : FnScope ["rows", "first", "found", "at", "row", "number", "inner", "some", "within"] ["rows", "first"] (defScope s_numbered) := ⟨rfl, rfl, rfl, by decide +kernel, rfl, by decide +kernel, by decide +kernel⟩
def tot : List Rows → Nat
  | [] => 0
  | a :: r => count a + tot r
theorem tot_snoc (a : Rows) : ∀ r : List Rows, tot (r ++ [a]) = tot r + count a
  | [] => by simp [tot]
  | b :: r => by simp only [List.cons_append, tot, tot_snoc a r]; omega
def RowsL (S : Hp) : List Rows → List V → Prop
  | [], vs => vs = []
  | a :: rs, vs => ∃ l va t, vs = .ref l :: t ∧ S l = some (.lst va) ∧ RowsV S a va ∧ RowsL S rs t
def SubN (S : Hp) : List Rows → Nat → List V → Prop
  | [], _, vs => vs = []
  | a :: rs, n, vs => ∃ l va t, vs = .ref l :: t ∧ S l = some (.lst va) ∧ NumV S a n va ∧ SubN S rs (n + count a) t
theorem SubN.mono {S S' : Hp} (s : Same S S') : ∀ {rs : List Rows} {n : Nat} {vs : List V}, SubN S rs n vs → SubN S' rs n vs
  | [], _, _, h => h
  | a :: rs, n, _, ⟨l, va, t, h1, h2, h3, h4⟩ => ⟨l, va, t, h1, s _ _ h2, h3.mono s, SubN.mono s h4⟩
theorem SubN.snoc {S : Hp} {a : Rows} {l : Addr} {va : List V} (h2 : S l = some (.lst va)) : ∀ {rs : List Rows} {n : Nat} {vs : List V}, SubN S rs n vs → NumV S a (n + tot rs) va → SubN S (rs ++ [a]) n (vs ++ [.ref l])
  | [], n, _, h, h3 => by rw [show _ = [] from h]; exact ⟨l, va, [], rfl, h2, h3, rfl⟩
  | b :: rs, n, _, ⟨q, vb, t, k1, k2, k3, k4⟩, h3 => ⟨q, vb, t ++ [.ref l], by rw [k1]; rfl, k2, k3, SubN.snoc h2 k4 (by rw [show n + count b + tot rs = n + tot (b :: rs) by simp only [tot]; omega]; exact h3)⟩
theorem SubN.len {S : Hp} : ∀ {rs : List Rows} {n : Nat} {vs : List V}, SubN S rs n vs → vs.length = rs.length
  | [], _, _, h => by rw [show _ = [] from h]; rfl
  | a :: rs, n, _, ⟨l, va, t, h1, h2, h3, h4⟩ => by rw [h1, List.length_cons, h4.len, List.length_cons]
theorem RowsL.len {S : Hp} : ∀ {rs : List Rows} {vs : List V}, RowsL S rs vs → vs.length = rs.length
  | [], _, h => by rw [show _ = [] from h]; rfl
  | a :: rs, _, ⟨l, va, t, h1, h2, h3, h4⟩ => by rw [h1, List.length_cons, h4.len, List.length_cons]
theorem at0 {x : V} {z : List V} : atI (x :: z) 0 = some x := atI_nat (j := 0) rfl
theorem at1 {x y : V} {z : List V} : atI (x :: y :: z) 1 = some y := atI_nat (j := 1) rfl
theorem at2 {x y u : V} {z : List V} : atI (x :: y :: u :: z) 2 = some u := atI_nat (j := 2) rfl
theorem cut2 (a b : V) (us : List V) : cutV (a :: b :: us) (some 2) none = us := by
  unfold cutV
  rw [show HT.sIx (a :: b :: us).length 0 (some 2) = min 2 (a :: b :: us).length from HT.sIx_nat _ 0 2, HT.sIx_none]
  rw [show min 2 (a :: b :: us).length = 2 by simp only [List.length_cons]; omega]
  show List.take (us.length + 1 + 1 - 2) us = us
  rw [show us.length + 1 + 1 - 2 = us.length by omega, List.take_length]
theorem cut2_ok (a b : V) (us : List V) : ¬ (HT.sIx (a :: b :: us).length 0 (some 2) = 0 ∧ HT.sIx (a :: b :: us).length (a :: b :: us).length none = (a :: b :: us).length) := fun z => by
  have h := z.1
  rw [show HT.sIx (a :: b :: us).length 0 (some 2) = min 2 (a :: b :: us).length from HT.sIx_nat _ 0 2] at h
  simp only [List.length_cons] at h
  omega
theorem RowsL.at_ {S : Hp} : ∀ {rs : List Rows} {vs : List V} {j : Nat} {x : V}, RowsL S rs vs → vs[j]? = some x → ∃ a l va, rs[j]? = some a ∧ x = .ref l ∧ S l = some (.lst va) ∧ RowsV S a va
  | [], _, j, x, h, e => by rw [show _ = [] from h] at e; simp at e
  | a :: rs, _, 0, x, ⟨l, va, t, h1, h2, h3, h4⟩, e => by
    rw [h1] at e
    exact ⟨a, l, va, rfl, (Option.some.inj e).symm, h2, h3⟩
  | a :: rs, _, j + 1, x, ⟨l, va, t, h1, h2, h3, h4⟩, e => by
    rw [h1] at e
    exact RowsL.at_ (j := j) h4 e
/-- the list within a numbered statement is as it should be -/
def InnerOk (S : Hp) (h : Rows) (N : Nat) (inn : Addr) : Prop := match h with
  | .ife c a b _ => ∃ vs, S inn = some (.lst vs) ∧ SubN S [a, b] (N + 1) vs
  | .whl c a _ => ∃ vs, S inn = some (.lst vs) ∧ SubN S [a] (N + 1) vs
  | _ => True
theorem InnerOk.mono {S S' : Hp} (s : Same S S') {h : Rows} {N : Nat} {inn : Addr} (k : InnerOk S h N inn) : InnerOk S' h N inn := by
  cases h with
  | ife c a b r => obtain ⟨vs, h1, h2⟩ := k; exact ⟨vs, s _ _ h1, h2.mono s⟩
  | whl c a r => obtain ⟨vs, h1, h2⟩ := k; exact ⟨vs, s _ _ h1, h2.mono s⟩
  | nil => trivial
  | plain p r => trivial
  | call x r => trivial
theorem num_one {S : Hp} {r : Rows} (hne : r ≠ .nil) {N : Nat} {x v : V} {inn : Addr} (h : RowsV S (hd r) [x]) (k : InnerOk S (hd r) N inn) (hv : TupV S v [.int N, x, .ref inn]) : NumV S (hd r) N [v] := by
  cases r with
  | nil => exact absurd rfl hne
  | plain p r =>
    obtain ⟨v', t', h1, h2, h3⟩ := h
    cases h1
    exact ⟨v, [], x, inn, rfl, hv, h2, rfl⟩
  | call y r =>
    obtain ⟨v', t', h1, h2, h3⟩ := h
    cases h1
    exact ⟨v, [], x, inn, rfl, hv, h2, rfl⟩
  | ife c a b r =>
    obtain ⟨v', t', u, la, lb, va, vb, h1, h2, h3, _⟩ := h
    cases h1
    obtain ⟨vs, k1, qa, wa, t1, rfl, k3, k4, qb, wb, t2, rfl, k6, k7, k8⟩ := k
    have k8' : t2 = [] := k8
    subst k8'
    exact ⟨v, [], x, inn, u, .ref la, .ref lb, qa, qb, wa, wb, rfl, hv, h2, h3, k1, k3, k6, k4, k7, rfl⟩
  | whl c a r =>
    obtain ⟨v', t', u, la, va, h1, h2, h3, _⟩ := h
    cases h1
    obtain ⟨vs, k1, qa, wa, t1, rfl, k3, k4, k8⟩ := k
    have k8' : t1 = [] := k8
    subst k8'
    exact ⟨v, [], x, inn, u, .ref la, qa, wa, rfl, hv, h2, h3, k1, k3, k4, rfl⟩
theorem wide_le : ∀ r : Rows, wide r ≤ count r
  | .nil => Nat.le_refl _
  | .plain p r => by have := wide_le r; simp only [wide, count]; omega
  | .call x r => by have := wide_le r; simp only [wide, count]; omega
  | .ife c a b r => by have := wide_le r; simp only [wide, count]; omega
  | .whl c a r => by have := wide_le r; simp only [wide, count]; omega
theorem ifBF {b : Bool} {A B : Prop} (h : b = false) (k : B) : if b = true then A else B := by rw [h]; exact iteF k
theorem ifBT {b : Bool} {A B : Prop} (h : b = true) (k : A) : if b = true then A else B := by rw [h]; exact iteT k
section
variable {P : Program} {w : World} {K : PySem.W.Frag} {mg : Str → Option Value} {base : Heap} {C : Addr}
def spNum (m : Nat) : Sp := fun vs H Q _ => ∃ (M : List Addr) (l : Addr) (xs : List V) (r : Rows) (n : Nat), vs = [.ref l, .int n] ∧ Al M H ∧ Wo M H l = some (.lst xs) ∧ RowsV (Wo M H) r xs ∧ deep r < m ∧ count r ≤ 1000 ∧
  ∀ H' p la vl, Same H H' → Wo M H' p = some (.tup [.ref la, .int ((n + count r : Nat) : Int)]) → Wo M H' la = some (.lst vl) → NumV (Wo M H') r n vl → Q (.ref p) H'
/-- the source stands still behind all that is new -/
theorem stat {M : List Addr} {H H5 : Hp} {fnd inn : Addr} (s : Same H H5) (h1 : H fnd = none) (h2 : H inn = none) : Same (Wo M H) (Wo (inn :: fnd :: M) H5) := fun b o e => by
  have e2 := wo_sub _ _ e
  refine wo_at (s _ _ e2) fun z => ?_
  rcases List.mem_cons.mp z with rfl | z
  · rw [h2] at e2; cases e2
  · rcases List.mem_cons.mp z with rfl | z
    · rw [h1] at e2; cases e2
    · rw [wo_in z] at e; cases e
theorem ok_numbered (T : Top K mg C) (k : Nat) : ∀ m : Nat, Cal P w K mg base "numbered" ["rows", "first"] (k + m) (spNum m)
  | 0 => T.d_numbered.no (fun _ _ _ _ _ _ us hl => match us, hl with | [_, _], _ => rfl) fun vs H Q E h => by obtain ⟨M, l, xs, r, n, _, _, _, _, h, _⟩ := h; omega
  | m + 1 => by
    have c_numbered := ok_numbered T k m
    refine T.d_numbered.ok sc_numbered (fun _ _ _ _ _ _ us hl => match us, hl with | [_, _], _ => rfl) (fun vs H Q E h => ?_) (fun f cdv A outer s H vs Q E hr h => ?_)
    · obtain ⟨M, l, xs, r, n, rfl, _⟩ := h
      rfl
    · obtain ⟨M, l, xs, r, n, rfl, hAl, hl, hrv, hdp, hct, q⟩ := h
      refine ⟨_, (pss_cons (ps_set (i := 2) sc_numbered.nd rfl (Or.inl rfl) (pe_lst pa_nil))
      (pss_cons (ps_set (i := 3) sc_numbered.nd rfl (Or.inl rfl) (pv 1))
      (pss_cons (ps_for PassesOwn.never rfl (pi_list (pv 0)) (pg_name (i := 4) sc_numbered.nd rfl (Or.inl rfl)) (pss_cons (ps_set (i := 5) sc_numbered.nd rfl (Or.inl rfl) (pv 3))
      (pss_cons (ps_aug (i := 3) sc_numbered.nd rfl (.inl rfl) pe_int ip_add)
      (pss_cons (ps_set (i := 6) sc_numbered.nd rfl (Or.inl rfl) (pe_lst pa_nil))
      (Evl.pss_cut (ps_if (pt_cmpR op_in_seq (pe_ix ix_tup (pv 4) pe_int (fun _ _ => rfl)) (pe_tup (pa_cons pe_str (pa_cons pe_str pa_nil))) rfl) (pss_one (ps_for PassesOwn.never rfl (pi_tup (pe_slice sl_tup (pv 4) (po_some pe_int) po_none)) (pg_name (i := 7) sc_numbered.nd rfl (Or.inl rfl)) (pss_cons (ps_asg (pe_cl c_numbered hr rfl (pa_cons (pv 7) (pa_cons (pv 3) pa_nil))) (pg_tup rfl (pgs_cons (pg_name (i := 8) sc_numbered.nd rfl (Or.inl rfl)) (pgs_cons (pg_name (i := 3) sc_numbered.nd rfl (Or.inl rfl)) pgs_nil))))
      (pss_one (ps_expr (pe_bm PySem.F.plainAttrs_list PySem.F.slot_list_append PySem.F.type_list_append mt_append (pv 6) (pa_cons (pv 8) pa_nil))))))) pss_nil)
      (pss_one (ps_expr (pe_bm PySem.F.plainAttrs_list PySem.F.slot_list_append PySem.F.type_list_append mt_append (pv 2) (pa_cons (pe_tup (pa_cons (pv 5) (pa_cons (pv 4) (pa_cons (pv 6) pa_nil)))) pa_nil)))))))))
      (pss_one (ps_ret (pe_tup (pa_cons (pv 2) (pa_cons (pv 3) pa_nil)))))))), ?_⟩
      have hwd := wide_le r
      have hxl := hrv.len
      refine ⟨(by show 0 ≤ sizeLine; decide), fun fnd hf => ?_⟩
      have hl0 : H l = some (.lst xs) := wo_sub _ _ hl
      have hlf : l ≠ fnd := ne_of_none hl0 hf
      refine ⟨_, rfl, _, rfl, l, rfl, ⟨_, SqL.of (by rw [upd_ne hlf]; exact hl0)⟩, for_lst (K := K) (a := l) (xs := xs)
        (fun i σ H' => ∃ (pre rest : Rows) (vd : List V) (x4 x5 x6 x7 x8 : Option V), σ = [some (.ref l), some (.int n), some (.ref fnd), some (.int ((n + count pre : Nat) : Int)), x4, x5, x6, x7, x8] ∧ app pre rest = r ∧ Same H H' ∧ H' fnd = some (.lst vd) ∧
          NumV (Wo (fnd :: M) H') pre n vd ∧ RowsV (Wo M H) rest (xs.drop i) ∧ vd.length = i) ?_ ?_ ?_ ?_⟩
      · exact ⟨.nil, r, [], none, none, none, none, none, rfl, rfl, same_new hf _, upd_same, rfl, hrv, rfl⟩
      · rintro i σ H' ⟨pre, rest, vd, x4, x5, x6, x7, x8, rfl, e, s, h1, h2, h3, h4⟩
        exact SqL.of (s _ _ hl0)
      · rintro i x σ H' hi hx ⟨pre, rest, vd, x4, x5, x6, x7, x8, rfl, e, s, h1, h2, h3, h4⟩
        have ed : xs.drop i = x :: xs.drop (i + 1) := by
          rw [List.drop_eq_getElem_cons hi]
          rw [List.getElem?_eq_getElem hi] at hx
          rw [Option.some.inj hx]
        rw [ed] at h3
        obtain ⟨hne, h5, h6⟩ := h3.uncons
        have hAl' : Al (fnd :: M) H' := fun m hm => by
          rcases List.mem_cons.mp hm with rfl | hm
          · exact ⟨_, h1⟩
          · exact (hAl.same s) m hm
        -- number = at; at += 1; inner = []
        refine ⟨_, rfl, _, rfl, _, _, rfl, rfl, (by show 0 ≤ sizeLine; decide), fun inn hinn => ?_⟩
        have hinn0 : H inn = none := s.free hinn
        have s2 : Same H (upd H' inn (.lst [])) := same_upd s hinn0 _
        have hfi : fnd ≠ inn := ne_of_none h1 hinn
        have hAl2 : Al (inn :: fnd :: M) (upd H' inn (.lst [])) := fun m hm => by
          rcases List.mem_cons.mp hm with rfl | hm
          · exact ⟨_, upd_same⟩
          · exact (hAl'.same (same_new hinn _)) m hm
        refine ⟨fun σ' H4 => ∃ y7 y8, σ' = [some (.ref l), some (.int n), some (.ref fnd), some (.int ((n + count pre + count (hd rest) : Nat) : Int)), some x, some (.int ((n + count pre : Nat) : Int)), some (.ref inn), y7, y8] ∧ Same H' H4 ∧ InnerOk (Wo (fnd :: M) H4) (hd rest) (n + count pre) inn, ?_, ?_⟩
        · -- row[0] in ('if', 'while')
          have hs0 : Same (Wo M H) (upd H' inn (.lst [])) := fun b o e2 => s2 _ _ (wo_sub _ _ e2)
          have kind : (∃ p z s0, x = .ref p ∧ (Wo M H) p = some (.tup (.str s0 :: z)) ∧ inV (.str s0) [.str "if", .str "while"] = false ∧ count (hd rest) = 1 ∧ ∀ S : Hp, InnerOk S (hd rest) (n + count pre) inn) ∨
              ∃ p u us s0 rs, x = .ref p ∧ (Wo M H) p = some (.tup (.str s0 :: u :: us)) ∧ inV (.str s0) [.str "if", .str "while"] = true ∧ RowsL (Wo M H) rs us ∧ count (hd rest) = 1 + tot rs ∧ rs.length ≤ 2 ∧ (∀ a ∈ rs, deep a < m ∧ count a ≤ 1000) ∧
                ∀ (S : Hp) (ws : List V), S inn = some (.lst ws) → SubN S rs (n + count pre + 1) ws → InnerOk S (hd rest) (n + count pre) inn := by
            have hd1 : deep rest < m + 1 := by
              have := deep_app rest pre
              rw [e] at this
              omega
            have hc1 : count rest ≤ 1000 := by
              have := count_app rest pre
              rw [e] at this
              omega
            cases rest with
            | nil => exact absurd rfl hne
            | plain pl rest =>
              obtain ⟨v', t', hv', hp', _⟩ := h5
              cases hv'
              refine .inl ?_
              cases pl with
              | set y e => obtain ⟨u, ⟨p, rfl, hp⟩, _⟩ := hp'; exact ⟨p, _, _, rfl, hp, by decide +kernel, rfl, fun _ => trivial⟩
              | put y i e => obtain ⟨u, t, ⟨p, rfl, hp⟩, _⟩ := hp'; exact ⟨p, _, _, rfl, hp, by decide +kernel, rfl, fun _ => trivial⟩
              | tell e => obtain ⟨u, ⟨p, rfl, hp⟩, _⟩ := hp'; exact ⟨p, _, _, rfl, hp, by decide +kernel, rfl, fun _ => trivial⟩
              | ask y => obtain ⟨p, rfl, hp⟩ := hp'; exact ⟨p, _, _, rfl, hp, by decide +kernel, rfl, fun _ => trivial⟩
              | way => obtain ⟨p, rfl, hp⟩ := hp'; exact ⟨p, _, _, rfl, hp, by decide +kernel, rfl, fun _ => trivial⟩
              | stop => obtain ⟨p, rfl, hp⟩ := hp'; exact ⟨p, _, _, rfl, hp, by decide +kernel, rfl, fun _ => trivial⟩
            | call y rest =>
              obtain ⟨v', t', hv', ⟨p, rfl, hp⟩, _⟩ := h5
              cases hv'
              exact .inl ⟨p, _, _, rfl, hp, by decide +kernel, rfl, fun _ => trivial⟩
            | ife c a b rest =>
              obtain ⟨v', t', u, la, lb, va, vb, hv', ⟨p, rfl, hp⟩, k3, k4, k5, k6, k7, _⟩ := h5
              cases hv'
              simp only [deep] at hd1
              simp only [count] at hc1
              refine .inr ⟨p, u, [.ref la, .ref lb], _, [a, b], rfl, hp, by decide +kernel, ⟨la, va, _, rfl, k4, k6, lb, vb, _, rfl, k5, k7, rfl⟩, ?_, Nat.le_refl _, ?_, fun S ws hw hk => ⟨ws, hw, hk⟩⟩
              · simp only [hd, count, tot]; omega
              · intro a' ha'
                rcases List.mem_cons.mp ha' with rfl | ha'
                · exact ⟨by omega, by omega⟩
                · rw [List.mem_singleton] at ha'
                  subst ha'
                  exact ⟨by omega, by omega⟩
            | whl c a rest =>
              obtain ⟨v', t', u, la, va, hv', ⟨p, rfl, hp⟩, k3, k4, k6, _⟩ := h5
              cases hv'
              simp only [deep] at hd1
              simp only [count] at hc1
              refine .inr ⟨p, u, [.ref la], _, [a], rfl, hp, by decide +kernel, ⟨la, va, _, rfl, k4, k6, rfl⟩, ?_, (by show 1 ≤ 2; omega), ?_, fun S ws hw hk => ⟨ws, hw, hk⟩⟩
              · simp only [hd, count, tot]; omega
              · intro a' ha'
                rw [List.mem_singleton] at ha'
                subst ha'
                exact ⟨by omega, by omega⟩
          rcases kind with ⟨p, z, s0, rfl, hp, hb, hct1, hin⟩ | ⟨p, u, us, s0, rs, rfl, hp, hb, hrl, hct1, hrs, hda, hin⟩
          · refine ⟨_, rfl, p, _, _, _, rfl, rfl, SqT.of (hs0 _ _ hp), at0, (by show 2 ≤ sizeLine; decide), fun tp htp => ?_⟩
            refine ⟨tp, _, rfl, .inr (SqT.of upd_same), rfl, rfl, _, rfl, ifBF hb ?_⟩
            rw [hct1]
            exact ⟨_, _, rfl, (same_new hinn _).trans (same_new htp _), hin _⟩
          · refine ⟨_, rfl, p, _, _, _, rfl, rfl, SqT.of (hs0 _ _ hp), at0, (by show 2 ≤ sizeLine; decide), fun tp htp => ?_⟩
            refine ⟨tp, _, rfl, .inr (SqT.of upd_same), rfl, rfl, _, rfl, ifBT hb ?_⟩
            -- for some in row[2:]
            have sT := same_new htp (.tup [.str "if", .str "while"])
            refine ⟨_, rfl, _, rfl, p, _, rfl, SqT.of (sT _ _ (hs0 _ _ hp)), cut2_ok _ _ _, fun sl hsl => ?_⟩
            rw [cut2]
            have hsl' : upd (upd (upd H' inn (.lst [])) tp (.tup [.str "if", .str "while"])) sl (.tup us) sl = some (.tup us) := upd_same
            have sS : Same (upd H' inn (.lst [])) (upd (upd (upd H' inn (.lst [])) tp (.tup [.str "if", .str "while"])) sl (.tup us)) := sT.trans (same_new hsl _)
            refine ⟨sl, rfl, ⟨_, SqT.of hsl'⟩, for_tup (K := K) (a := sl) (xs := us)
              (fun j σ H5 => ∃ (vin : List V) (y7 y8 : Option V), σ = [some (.ref l), some (.int n), some (.ref fnd), some (.int ((n + count pre + 1 + tot (rs.take j) : Nat) : Int)), some (.ref p), some (.int ((n + count pre : Nat) : Int)), some (.ref inn), y7, y8] ∧
                But [inn] (upd (upd (upd H' inn (.lst [])) tp (.tup [.str "if", .str "while"])) sl (.tup us)) H5 ∧ H5 inn = some (.lst vin) ∧ SubN (Wo (inn :: fnd :: M) H5) (rs.take j) (n + count pre + 1) vin) ?_ ?_ ?_ ?_⟩
            · exact ⟨[], x7, x8, rfl, But.refl _ _, sS _ _ upd_same, rfl⟩
            · rintro j σ H5 _ ⟨vin, y7, y8, rfl, b5, _⟩
              refine SqT.of (b5 _ _ (fun z => ?_) hsl')
              rw [List.mem_singleton.mp z, sT _ _ upd_same] at hsl
              cases hsl
            · rintro j y σ H5 hj ⟨vin, y7, y8, rfl, b5, h5i, h5s⟩
              obtain ⟨a, la, va, ha, rfl, hla, hra⟩ := hrl.at_ hj
              have s5 : Same H H5 := fun b o e2 => by
                have n1 : ¬ b ∈ [inn] := fun z => by rw [List.mem_singleton.mp z, hinn0] at e2; cases e2
                exact b5 _ _ n1 (sS _ _ (s2 _ _ e2))
              have hAl5 : Al (inn :: fnd :: M) H5 := (hAl2.same sS).but b5 fun q hq => ⟨.lst vin, by rw [List.mem_singleton.mp hq]; exact h5i⟩
              have st5 := stat s5 hf hinn0 (M := M)
              obtain ⟨hd2, hc2⟩ := hda a (List.mem_of_getElem? ha)
              refine ⟨_, rfl, _, rfl, inn :: fnd :: M, la, va, a, n + count pre + 1 + tot (rs.take j), rfl, hAl5, st5 _ _ hla, hra.mono st5, hd2, hc2, fun H6 p6 l6 v6 s6 e6 f6 g6 => ?_⟩
              refine ⟨p6, _, rfl, SqT.of (wo_sub _ _ e6), rfl, _, _, rfl, _, _, rfl, rfl, ?_⟩
              have h6i := s6 _ _ h5i
              have hvl := h5s.len
              refine ⟨_, rfl, .inl ⟨rfl, _, SqL.of h6i⟩, _, rfl, inn, vin, _, rfl, rfl, h6i, szl (by rw [hvl, List.length_take]; omega), ?_⟩
              have wo6 : Same (Wo (inn :: fnd :: M) H6) (Wo (inn :: fnd :: M) (upd H6 inn (.lst (vin ++ [.ref l6])))) := (But.put (But.refl _ _) List.mem_cons_self _).wo
              refine ⟨vin ++ [.ref l6], some (.ref la), some (.ref l6), ?_, (b5.trans (But.of_same s6)).put (List.mem_singleton.mpr rfl) _, upd_same, ?_⟩
              · rw [take_snoc ha, tot_snoc, ← Nat.add_assoc]
                rfl
              · rw [take_snoc ha]
                exact SubN.snoc (wo6 _ _ f6) (h5s.mono ((Same.wo s6).trans wo6)) (g6.mono wo6)
            · rintro σ' H5 ⟨vin, y7, y8, rfl, b5, h5i, h5s⟩
              have hul : rs.take us.length = rs := List.take_of_length_le (by rw [hrl.len]; exact Nat.le_refl _)
              rw [hul] at h5s ⊢
              have s45 : Same H' H5 := fun b o e2 => by
                have n1 : ¬ b ∈ [inn] := fun z => by rw [List.mem_singleton.mp z, hinn] at e2; cases e2
                exact b5 _ _ n1 (sS _ _ (same_new hinn _ _ _ e2))
              refine ⟨y7, y8, ?_, s45, ?_⟩
              · rw [hct1, Nat.add_assoc (n + count pre)]
              · have hio : ¬ inn ∈ fnd :: M := hAl'.out hinn
                exact hin _ vin (wo_at h5i hio) (h5s.mono (wo_less fun q hq => List.mem_cons_of_mem _ hq))
        · -- found.append((number, row, inner))
          rintro σ' H4 ⟨y7, y8, rfl, s4, hok⟩
          have h14 := s4 _ _ h1
          refine ⟨_, rfl, .inl ⟨rfl, _, SqL.of h14⟩, _, rfl, _, rfl, _, rfl, (by show 3 ≤ sizeLine; decide), fun t ht => ?_⟩
          have hft : fnd ≠ t := ne_of_none h14 ht
          refine ⟨fnd, _, _, rfl, rfl, by rw [upd_ne hft]; exact h14, szl (by omega), ?_⟩
          have s5 : Same H (upd (upd H4 t (.tup [.int ((n + count pre : Nat) : Int), x, .ref inn])) fnd (.lst (vd ++ [.ref t]))) := same_upd ((s.trans s4).trans (same_new ht _)) hf _
          have w4 : Same (Wo (fnd :: M) H4) (Wo (fnd :: M) (upd (upd H4 t (.tup [.int ((n + count pre : Nat) : Int), x, .ref inn])) fnd (.lst (vd ++ [.ref t])))) :=
            (But.put (But.of_same (same_new ht _)) List.mem_cons_self _).wo
          have wt : Wo (fnd :: M) (upd (upd H4 t (.tup [.int ((n + count pre : Nat) : Int), x, .ref inn])) fnd (.lst (vd ++ [.ref t]))) t = some (.tup [.int ((n + count pre : Nat) : Int), x, .ref inn]) :=
            wo_new (hAl'.same s4) ht (by rw [upd_ne hft.symm]; exact upd_same)
          have w0 : Same (Wo M H) (Wo (fnd :: M) (upd (upd H4 t (.tup [.int ((n + count pre : Nat) : Int), x, .ref inn])) fnd (.lst (vd ++ [.ref t])))) := fun b o e2 => by
            have e3 := wo_sub _ _ e2
            refine wo_at (s5 _ _ e3) fun z => ?_
            rcases List.mem_cons.mp z with rfl | z
            · rw [hf] at e3; cases e3
            · rw [wo_in z] at e2; cases e2
          refine ⟨app pre (hd rest), tl rest, vd ++ [.ref t], some x, some (.int ((n + count pre : Nat) : Int)), some (.ref inn), y7, y8, ?_, ?_, s5, upd_same, ?_, h6, by rw [List.length_append, h4]; rfl⟩
          · rw [count_app, Nat.add_assoc]
          · rw [app_assoc, hd_tl, e]
          · exact NumV.app (h2.mono ((Same.wo s4).trans w4)) (num_one hne (h5.mono w0) (hok.mono w4) ⟨t, rfl, wt⟩)
      · rintro σ H' ⟨pre, rest, vd, x4, x5, x6, x7, x8, rfl, e, s, h1, h2, h3, h4⟩
        have er : rest = .nil := by
          rw [List.drop_length] at h3
          cases rest with
          | nil => rfl
          | plain p r => obtain ⟨v, t, z, _⟩ := h3; cases z
          | call y r => obtain ⟨v, t, z, _⟩ := h3; cases z
          | ife c a b r => obtain ⟨v, t, u, la, lb, va, vb, z, _⟩ := h3; cases z
          | whl c a r => obtain ⟨v, t, u, la, va, z, _⟩ := h3; cases z
        subst er
        rw [app_nil] at e
        subst e
        refine ⟨_, rfl, _, rfl, (by show 2 ≤ sizeLine; decide), fun p hp => ?_⟩
        have hAl' : Al M H' := hAl.same s
        have hfM : ¬ fnd ∈ M := hAl.out hf
        refine q _ p fnd vd (s.trans (same_new hp _)) (wo_new hAl' hp upd_same) (wo_at (by rw [upd_ne (ne_of_none h1 hp)]; exact h1) hfM) ?_
        exact h2.mono ((wo_less fun m hm => List.mem_cons_of_mem _ hm).trans (Same.wo (same_new hp _)))
end
end GT
/-! _law_close, _law_rows -/
namespace GT
open PySem PySem.Spec PyProof.Rows L2
theorem sc_l_close : FnScope ["_law_opened", "_law_word", "_law_flag_here", "_law_rows_here", "_law_first", "_law_formed"] ["_law_opened"] (defScope s_l_close) := ⟨rfl, rfl, rfl, by decide +kernel, rfl, by decide +kernel, by decide +kernel⟩

theorem ixN_last {n : Nat} (h : 0 < n) : ixN n (-1) = some (n - 1) := by
  unfold ixN
  rw [if_neg (by decide), if_pos (by omega)]
  congr 1
  omega
theorem at_last {α : Type} {l : List α} {x : α} : atI (l ++ [x]) (-1) = some x := by
  unfold atI
  rw [ixN_last (by simp)]
  simp
section
variable {P : Program} {w : World} {K : PySem.W.Frag} {mg : Str → Option Value} {base : Heap} {C : Addr}
def spClose : Sp := fun vs H Q _ => ∃ (E : List Addr) (o : Addr) (D : List Decl) (ns : List Nm) (pre : List Fr) (x y : Fr), vs = [.ref o] ∧ Stk E H o D ns (pre ++ [x] ++ [y]) ∧ (∀ e ∈ E, e ≠ y.rl ∧ e ≠ o ∧ ∃ xs, H e = some (.lst xs)) ∧ tally (pre ++ [x] ++ [y]) ≤ 1000 ∧
  ∀ s H', But (muS o (pre ++ [x])) H H' → Stk E H' o D ns (pre ++ [{ x with r := app x.r s }]) → count s = tally [y] → Q .non H'
theorem ok_l_close (T0 : Top K mg C) {k : Nat} : Cal P w K mg base "_law_close" ["_law_opened"] (k + 1) spClose := by
  have T := T0
  refine T.d_l_close.ok sc_l_close (fun _ _ _ _ _ _ us hl => match us, hl with | [_], _ => rfl) (fun vs H Q E h => ?_) (fun f cdv A outer s0 H vs Q E hr h => ?_)
  · obtain ⟨E, o, D, ns, pre, x, y, rfl, _⟩ := h
    rfl
  · obtain ⟨E, o, D, ns, pre, x, y, rfl, h, hEa, ht, q⟩ := h
    refine ⟨_, (pss_cons (ps_asg (pe_bm0 PySem.F.plainAttrs_list PySem.F.slot_list_pop PySem.F.type_list_pop mt_pop (pv 0)) (pg_unl rfl (pgs_cons (pg_name (i := 1) sc_l_close.nd rfl (Or.inl rfl)) (pgs_cons (pg_name (i := 2) sc_l_close.nd rfl (Or.inl rfl)) (pgs_cons (pg_name (i := 3) sc_l_close.nd rfl (Or.inl rfl)) (pgs_cons (pg_name (i := 4) sc_l_close.nd rfl (Or.inl rfl)) pgs_nil))))))
      (pss_cons (ps_set (i := 5) sc_l_close.nd rfl (Or.inl rfl) (pe_tup (pa_cons pe_str (pa_cons (pv 2) (pa_cons (pv 3) pa_nil)))))
      (Evl.pss_cut (ps_if (pt_cmpR op_eq (pv 1) pe_str (nomark _)) (pss_cons (ps_set (i := 5) sc_l_close.nd rfl (Or.inl rfl) (pe_tup (pa_cons pe_str (pa_cons (pv 2) (pa_cons (pv 3) (pa_cons (pe_lst pa_nil) pa_nil))))))
      (pss_one (ps_if (pt_cmpR op_notN (pv 4) pe_non (nomark _)) (pss_one (ps_set (i := 5) sc_l_close.nd rfl (Or.inl rfl) (pe_tup (pa_cons pe_str (pa_cons (pv 2) (pa_cons (pv 4) (pa_cons (pv 3) pa_nil))))))) pss_nil))) pss_nil)
      (pss_one (ps_expr (pe_bm PySem.F.plainAttrs_list PySem.F.slot_list_append PySem.F.type_list_append mt_append (pe_ix ix_list (pe_ix ix_list (pv 0) (pe_un un_neg pe_int) (fun _ _ => rfl)) pe_int (fun _ _ => rfl)) (pa_cons (pv 5) pa_nil))))))), ?_⟩
    have hE : ¬ y.rl ∈ E := fun z => (hEa _ z).1 rfl
    have ky := h.fr y (by simp)
    obtain ⟨st1, w1, kp⟩ := h.pop hE
    have hlen := h.len
    simp only [List.length_append, List.length_singleton] at hlen
    obtain ⟨d1, d2⟩ := h.dep (pre.length + 1) y (by rw [List.getElem?_append_right (by simp)]; simp)
    have hw : y.word = "if" ∨ y.word = "while" := by
      obtain ⟨x0, t, e, m1, m2, m3⟩ := h.main
      cases pre with
      | nil =>
        injection (show x :: [y] = x0 :: t from e) with q1 q2
        exact m3 y (by rw [← q2]; simp)
      | cons z pre =>
        injection (show z :: (pre ++ [x] ++ [y]) = x0 :: t from e) with q1 q2
        exact m3 y (by rw [← q2]; simp)
    have yfo : y.f ≠ o := fun z => h.apart.2.1 (mu_mem.mpr (.inl z))
    obtain ⟨vy, hvy, hry⟩ := ky.rl
    have kvy := kp vy hvy
    have hry1 := hry.mono w1
    have hfl := ky.flag
    have hyf : (upd H o (.lst ((pre ++ [x]).map fun z => V.ref z.f))) y.f = some (.lst [.str y.word, y.fl, .ref y.rl, fstV y.first]) := by rw [upd_ne yfo]; exact ky.fr
    have hdr : ((pre ++ [x] ++ [y]).map fun z => V.ref z.f).dropLast = (pre ++ [x]).map fun z => V.ref z.f := by
      rw [List.map_append (l₁ := pre ++ [x])]
      exact List.dropLast_concat
    refine ⟨_, rfl, .inl ⟨rfl, _, SqL.of h.op⟩, o, _, .ref y.f, rfl, rfl, h.op, by simp, ?_⟩
    rw [hdr]
    have hE1 : ∀ e ∈ E, ∃ xs, (upd H o (.lst ((pre ++ [x]).map fun z => V.ref z.f))) e = some (.lst xs) := fun e he => by
      obtain ⟨_, n, xs, k⟩ := hEa e he
      exact ⟨xs, by rw [upd_ne n]; exact k⟩
    show (fun H1 => _) (upd H o (.lst ((pre ++ [x]).map fun z => V.ref z.f)))
    have b1 : But (muS o (pre ++ [x])) H (upd H o (.lst ((pre ++ [x]).map fun z => V.ref z.f))) := (But.refl _ _).put (mu_mem.mpr (.inl rfl)) _
    generalize upd H o (.lst ((pre ++ [x]).map fun z => V.ref z.f)) = H1 at st1 w1 kvy hry1 hyf b1 hE1 ⊢
    refine ⟨y.f, _, rfl, SqL.of hyf, rfl, _, _, rfl, _, _, rfl, _, _, rfl, _, _, rfl, rfl, ?_⟩
    refine ⟨_, rfl, _, rfl, (by show 3 ≤ sizeLine; decide), fun t0 ht0 => ?_⟩
    have s2 := same_new ht0 (.tup [.str "while", y.fl, .ref y.rl])
    have e2 : (upd H1 t0 (.tup [.str "while", y.fl, .ref y.rl])) t0 = some (.tup [.str "while", y.fl, .ref y.rl]) := upd_same
    show (fun H2 => _) (upd H1 t0 (.tup [.str "while", y.fl, .ref y.rl]))
    generalize upd H1 t0 (.tup [.str "while", y.fl, .ref y.rl]) = H2 at s2 e2 ⊢
    have hal := st1.al
    have fresh : ∀ {q : Addr}, H1 q = none → ¬ q ∈ E ++ muS o (pre ++ [x]) := fun hq hm => by
      rcases List.mem_append.mp hm with hm | hm
      · obtain ⟨xs, e⟩ := hE1 _ hm
        rw [hq] at e; cases e
      · obtain ⟨xs, e⟩ := hal _ hm
        rw [hq] at e; cases e
    refine ⟨fun σ' H' => ∃ v s, σ' = [some (.ref o), some (.str y.word), some y.fl, some (.ref y.rl), some (fstV y.first), some v] ∧ Same H1 H' ∧ RowsV (Wo (E ++ muS o (pre ++ [x])) H') s [v] ∧ RowsG D ns s ∧ deep s ≤ 7 - pre.length ∧ count s = tally [y], ?_, ?_⟩
    · refine ⟨_, rfl, rfl, _, rfl, ifD (fun c => ?_) (fun c => ?_)⟩
      · have hif : y.word = "if" := V.str.inj c
        obtain ⟨_, hfx, hwt, hhg⟩ := hfl.resolve_left fun z => by rw [z] at hif; exact absurd hif (by decide +kernel)
        have hfx1 := hfx.mono w1
        refine ⟨_, rfl, _, rfl, (by show 0 ≤ sizeLine; decide), fun lb hlb => ⟨(by show 4 ≤ sizeLine; decide), fun t1 ht1 => ?_⟩⟩
        have s3 := same_new hlb (.lst [])
        have s4 := same_new ht1 (.tup [.str "if", y.fl, .ref y.rl, .ref lb])
        have e3 : (upd (upd H2 lb (.lst [])) t1 (.tup [.str "if", y.fl, .ref y.rl, .ref lb])) lb = some (.lst []) := s4 _ _ upd_same
        have e4 : (upd (upd H2 lb (.lst [])) t1 (.tup [.str "if", y.fl, .ref y.rl, .ref lb])) t1 = some (.tup [.str "if", y.fl, .ref y.rl, .ref lb]) := upd_same
        have s14 := (s2.trans s3).trans s4
        have nlb : H1 lb = none := by
          cases z : H1 lb with
          | none => rfl
          | some u => rw [s2 _ _ z] at hlb; cases hlb
        have nt1 : H1 t1 = none := by
          cases z : H1 t1 with
          | none => rfl
          | some u => rw [(s2.trans s3) _ _ z] at ht1; cases ht1
        have w4 := Same.wo (M := E ++ muS o (pre ++ [x])) s14
        cases hf : y.first with
        | none =>
          refine ⟨_, rfl, rfl, _, rfl, ifND (fun z => absurd rfl z) (fun _ => ?_)⟩
          refine ⟨.ref t1, .ife y.c y.r .nil .nil, rfl, s14, ⟨_, [], y.fl, y.rl, lb, vy, [], rfl, ⟨t1, rfl, wo_at e4 (fresh nt1)⟩, hfx1.mono w4, w4 _ _ kvy, wo_at e3 (fresh nlb), hry1.mono w4, rfl, rfl⟩, ⟨hwt, hhg, ky.ok, trivial, trivial⟩, ?_, ?_⟩
          · simp only [deep]; omega
          · simp only [count, tally, hf, fstR]; omega
        | some ar =>
          obtain ⟨la, ra⟩ := ar
          obtain ⟨j1, j2, va, j3, j4⟩ := ky.fst la ra hf
          rw [hf] at d2
          refine ⟨_, rfl, rfl, _, rfl, ifND (fun _ => ?_) (fun z => nomatch z)⟩
          refine ⟨_, rfl, _, rfl, _, rfl, (by show 4 ≤ sizeLine; decide), fun t2 ht2 => ?_⟩
          have s5 := same_new ht2 (.tup [.str "if", y.fl, .ref la, .ref y.rl])
          have nt2 : H1 t2 = none := by
            cases z : H1 t2 with
            | none => rfl
            | some u => rw [s14 _ _ z] at ht2; cases ht2
          have w5 := w4.trans (Same.wo (M := E ++ muS o (pre ++ [x])) s5)
          refine ⟨.ref t2, .ife y.c ra y.r .nil, rfl, s14.trans s5, ⟨_, [], y.fl, la, y.rl, va, vy, rfl, ⟨t2, rfl, wo_at upd_same (fresh nt2)⟩, hfx1.mono w5, w5 _ _ (w1 _ _ j3), w5 _ _ kvy, (j4.mono w1).mono w5, hry1.mono w5, rfl⟩, ⟨hwt, hhg, j2, ky.ok, trivial⟩, ?_, ?_⟩
          · simp only [deep]
            have d2' : deep ra ≤ 7 - (pre.length + 1) := d2
            omega
          · simp only [count, tally, hf, fstR]; omega
      · have hwh : y.word = "while" := hw.resolve_left fun z => c (by rw [z])
        obtain ⟨_, hfx, hwt, hhg⟩ := hfl.resolve_left fun z => by rw [z] at hwh; exact absurd hwh (by decide +kernel)
        have hf : y.first = none := by
          cases z : y.first with
          | none => rfl
          | some ar =>
            have := (ky.fst ar.1 ar.2 z).1
            rw [hwh] at this
            exact absurd this (by decide +kernel)
        have w4 := Same.wo (M := E ++ muS o (pre ++ [x])) s2
        refine ⟨.ref t0, .whl y.c y.r .nil, rfl, s2, ⟨_, [], y.fl, y.rl, vy, rfl, ⟨t0, rfl, wo_at e2 (fresh ht0)⟩, (hfx.mono w1).mono w4, w4 _ _ kvy, hry1.mono w4, rfl⟩, ⟨hwt, hhg, ky.ok, trivial⟩, ?_, ?_⟩
        · simp only [deep]; omega
        · simp only [count, tally, hf, fstR]; omega
    · rintro σ' H3 ⟨v, s, rfl, s3, hv, hg, hd, hc⟩
      have st3 : Stk E H3 o D ns (pre ++ [x]) := st1.same s3 fun e he => .inl he
      have kx := st3.fr x (by simp)
      obtain ⟨vx, hvx, hrx⟩ := kx.rl
      have hwide := RowsV.len hrx
      have hw2 := wide_le x.r
      rw [tally_app, tally_app] at ht
      simp only [tally] at ht
      refine ⟨_, rfl, _, rfl, o, _, _, _, rfl, rfl, SqL.of st3.op, by rw [List.map_append]; exact at_last, x.f, _, _, _, rfl, rfl, SqL.of kx.fr, rfl, ?_⟩
      refine ⟨.inl ⟨rfl, _, SqL.of hvx⟩, _, rfl, x.rl, vx, v, rfl, rfl, hvx, szl (by omega), ?_⟩
      exact q s _ ((b1.trans (But.of_same s3)).put (mu_mem.mpr (.inr ⟨x, by simp, .inr rfl⟩)) _) (st3.add hvx hv hg hd) hc
end
end GT
/-! _law_rows -/
namespace GT
open PySem PySem.Spec PyProof.Rows L2
theorem sc_l_rows : FnScope ["_law_cells", "_law_known", "_law_ended", "_law_deep", "_law_opened", "_law_cell", "_law_stream_here", "_law_which"] ["_law_cells", "_law_known", "_law_ended", "_law_deep"] (defScope s_l_rows) := ⟨rfl, rfl, rfl, by decide +kernel, rfl, by decide +kernel, by decide +kernel⟩
theorem st_testP {c : TT} {t u : TS} {D : Ends} {σ : L2.St} {H : Hp} (R : Bool → Hp → Prop) (h : ∀ Q : Bool → Hp → Prop, (∀ b H', R b H' → Q b H') → c σ H Q) (k : ∀ b H', R b H' → if b = true then t D σ H' else u D σ H') : tIfS c t u D σ H := h _ k
theorem in78 {w : Int} (h0 : 0 ≤ w) (h1 : w < 11) : inV (.int w) [.int 7, .int 8] = decide (w = 7 ∨ w = 8) := by
  have hm : w = 0 ∨ w = 1 ∨ w = 2 ∨ w = 3 ∨ w = 4 ∨ w = 5 ∨ w = 6 ∨ w = 7 ∨ w = 8 ∨ w = 9 ∨ w = 10 := by omega
  rcases hm with rfl | rfl | rfl | rfl | rfl | rfl | rfl | rfl | rfl | rfl | rfl <;> decide +kernel
theorem PlV.tps {H H' : Hp} (s : Tps H H') : ∀ {p : Pl} {v : V}, PlV H p v → PlV H' p v
  | .set _ _, _, ⟨u, h1, h2⟩ => ⟨u, h1.tps s, h2.tps s⟩
  | .put _ _ _, _, ⟨u, t, h1, h2, h3⟩ => ⟨u, t, h1.tps s, h2.tps s, h3.tps s⟩
  | .tell _, _, ⟨u, h1, h2⟩ => ⟨u, h1.tps s, h2.tps s⟩
  | .ask _, _, h => TupV.tps s h
  | .way, _, h => TupV.tps s h
  | .stop, _, h => TupV.tps s h
theorem leaf_tps {H H' : Hp} (s : Tps H H') : ∀ {r : Rows} {vs : List V}, deep r = 0 → RowsV H r vs → RowsV H' r vs
  | .nil, _, _, h => h
  | .plain p r, _, hd, ⟨v, t, h1, h2, h3⟩ => ⟨v, t, h1, h2.tps s, leaf_tps s (r := r) hd h3⟩
  | .call x r, _, hd, ⟨v, t, h1, h2, h3⟩ => ⟨v, t, h1, h2.tps s, leaf_tps s (r := r) hd h3⟩
  | .ife c a b r, _, hd, _ => by simp only [deep] at hd; omega
  | .whl c a r, _, hd, _ => by simp only [deep] at hd; omega
/-- within a turn -/
structure Pil (E : List Addr) (H : Hp) (D : List Decl) (ns : List Nm) (n : Nat) (o p : Addr) (H' : Hp) (frs : List Fr) : Prop where
  same : Same H H'
  new : ∀ m ∈ muS o frs, H m = none
  stk : Stk (p :: E) H' o D ns frs
  al : ∀ e ∈ E, ∃ xs, H e = some (.lst xs)
  str : StrV H' p
  pn : H p = none
  pm : ¬ p ∈ muS o frs
  tal : tally frs ≤ n
section
variable {E : List Addr} {H H' H2 : Hp} {D : List Decl} {ns : List Nm} {n : Nat} {o p : Addr} {frs pre : List Fr} {x y : Fr}
theorem Pil.turn (h : Pil E H D ns n o p H' frs) (b : But [p] H' H2) (s : StrV H2 p) : Pil E H D ns n o p H2 frs :=
  ⟨fun q u e => b q u (fun z => by rw [List.mem_singleton.mp z, h.pn] at e; cases e) (h.same q u e), h.new, h.stk.turn b h.pm, h.al, s, h.pn, h.pm, h.tal⟩
theorem Pil.go (h : Pil E H D ns n o p H' frs) (s : Same H' H2) : Pil E H D ns n o p H2 frs :=
  ⟨h.same.trans s, h.new, h.stk.same s fun e he => .inl he, h.al, let ⟨x, y, m, c, e⟩ := h.str; ⟨x, y, m, c, s _ _ e⟩, h.pn, h.pm, h.tal⟩
theorem Pil.free (h : Pil E H D ns n o p H' frs) {q : Addr} (e : H' q = none) : H q = none := by
  cases z : H q with
  | none => rfl
  | some u => rw [h.same _ _ z] at e; cases e
theorem Pil.chg (h : Pil E H D ns n o p H' frs) (b : But (muS o frs) H' H2) : Same H H2 := fun q u e => b q u (fun z => by rw [h.new q z] at e; cases e) (h.same q u e)
/-- between turns -/
structure Pil0 (E : List Addr) (H : Hp) (D : List Decl) (ns : List Nm) (n : Nat) (o : Addr) (H' : Hp) (frs : List Fr) : Prop where
  same : Same H H'
  new : ∀ m ∈ muS o frs, H m = none
  stk : Stk E H' o D ns frs
  tal : tally frs ≤ n
theorem Pil.out (h : Same H H2) (hn : ∀ m ∈ muS o frs, H m = none) (hs : Stk (p :: E) H2 o D ns frs) (ht : tally frs ≤ n) : Pil0 E H D ns n o H2 frs :=
  ⟨h, hn, hs.same (Same.refl _) fun e he => .inl (List.mem_cons_of_mem _ he), ht⟩
theorem split_last {α : Type} {l : List α} (h : 0 < l.length) : ∃ pre x, l = pre ++ [x] := by
  refine ⟨l.dropLast, l[l.length - 1], ?_⟩
  rw [← List.getLast_eq_getElem (List.length_pos_iff.mp h)]
  exact (List.dropLast_concat_getLast _).symm
theorem Stk.pos (h : Stk E H o D ns frs) : 0 < frs.length := by
  obtain ⟨x, t, rfl, _⟩ := h.main
  simp
theorem mu_sub {a : Addr} (h : a ∈ muS o (pre ++ [x])) : a ∈ muS o (pre ++ [x] ++ [y]) := by
  rw [mu_split (pre := pre ++ [x])]
  exact List.mem_append_left _ h
end
section
variable {P : Program} {w : World} {K : PySem.W.Frag} {mg : Str → Option Value} {base : Heap} {C : Addr}
def spRowsG : Sp := fun vs H Q _ => ∃ (cl a en : Addr) (D : List Decl) (ns : List Nm) (dv : List V) (cells : List Int) (E0 : List Addr), vs = [.ref cl, .ref a, .ref en, .int 8] ∧ H cl = some (.lst (il cells)) ∧ H a = some (.lst dv) ∧ DeclsV H D dv ∧ VarsOk D ∧ NsOk ns ∧ H en = some (.lst (ns.map V.str)) ∧ cells.length ≤ 100 ∧ (∀ e ∈ E0, ∃ xs, H e = some (.lst xs)) ∧
  ∀ q xs r H', Same H H' → H q = none → H' q = some (.lst xs) → RowsV (Wo E0 H') r xs → RowsG D ns r → deep r ≤ 7 → count r ≤ cells.length → Q (.ref q) H'
theorem ok_l_rows (T0 : Top K mg C) {k : Nat} (c_l_stream : Cal P w K mg base "_law_stream" ["_law_cell"] k spStream) (c_l_take : Cal P w K mg base "_law_take" ["_law_stream_here", "_law_size"] k spTake) (c_l_flag : Cal P w K mg base "_law_flag" ["_law_stream_here", "_law_known", "_law_depth"] k (spFlagG 4)) (c_l_plain : Cal P w K mg base "_law_plain" ["_law_stream_here", "_law_known", "_law_ended", "_law_which"] k spPlainG) (c_l_close : Cal P w K mg base "_law_close" ["_law_opened"] k spClose) :
    Cal P w K mg base "_law_rows" ["_law_cells", "_law_known", "_law_ended", "_law_deep"] (k + 1) spRowsG := by
  have T := T0
  refine T.d_l_rows.ok sc_l_rows (fun _ _ _ _ _ _ us hl => match us, hl with | [_, _, _, _], _ => rfl) (fun vs H Q E h => ?_) (fun f cdv A outer s0 H vs Q E hr h => ?_)
  · obtain ⟨cl, a, en, D, ns, dv, cells, E0, rfl, _⟩ := h
    rfl
  · obtain ⟨cl, a, en, D, ns, dv, cells, E0, rfl, hcl, ha, hdd, hv, hns, hen, hcn, hE0, q⟩ := h
    refine ⟨_, (pss_cons (ps_set (i := 4) sc_l_rows.nd rfl (Or.inl rfl) (pe_lst (pa_cons (pe_lst (pa_cons pe_str (pa_cons pe_non (pa_cons (pe_lst pa_nil) (pa_cons pe_non pa_nil))))) pa_nil)))
      (pss_cons (ps_for PassesOwn.never rfl (pi_list (pv 0)) (pg_name (i := 5) sc_l_rows.nd rfl (Or.inl rfl)) (pss_cons (ps_set (i := 6) sc_l_rows.nd rfl (Or.inl rfl) (pe_cl c_l_stream hr rfl (pa_cons (pv 5) pa_nil)))
      (pss_cons (ps_set (i := 7) sc_l_rows.nd rfl (Or.inl rfl) (pe_cl c_l_take hr rfl (pa_cons (pv 6) (pa_cons pe_int pa_nil))))
      (pss_one (ps_if (PW.pt (pw_and (pt_cmpR op_in_seq (pv 7) (pe_tup (pa_cons pe_int (pa_cons pe_int pa_nil))) rfl) (pw_and1 (pt_cmpR op_lt (pe_callB call_len_seq rfl T.len_ (by decide +kernel) (pa_cons (pv 4) pa_nil)) (pv 3) (nomark _))))) (pss_one (ps_expr (pe_bm PySem.F.plainAttrs_list PySem.F.slot_list_append PySem.F.type_list_append mt_append (pv 4) (pa_cons (pe_lst (pa_cons (pe_ix ix_list (pe_lst (pa_cons pe_str (pa_cons pe_str pa_nil))) (pe_op op_sub (pv 7) pe_int) (fun _ _ => rfl)) (pa_cons (pe_cl c_l_flag hr rfl (pa_cons (pv 6) (pa_cons (pv 1) (pa_cons pe_int pa_nil)))) (pa_cons (pe_lst pa_nil) (pa_cons pe_non pa_nil))))) pa_nil)))) (pss_one (ps_if (PW.pt (pw_and (pt_cmpR op_gt (pv 7) pe_int (nomark _)) (pw_and1 (pt_cmpR op_gt (pe_callB call_len_seq rfl T.len_ (by decide +kernel) (pa_cons (pv 4) pa_nil)) pe_int (nomark _))))) (pss_one (ps_if (PW.pt (pw_and (pt_cmpR op_eq (pe_ix ix_list (pe_ix ix_list (pv 4) (pe_un un_neg pe_int) (fun _ _ => rfl)) pe_int (fun _ _ => rfl)) pe_str (nomark _)) (pw_and (pt_cmpR op_isN (pe_ix ix_list (pe_ix ix_list (pv 4) (pe_un un_neg pe_int) (fun _ _ => rfl)) pe_int (fun _ _ => rfl)) pe_non (nomark _)) (pw_and1 (pt_cmpR op_eq (pe_cl c_l_take hr rfl (pa_cons (pv 6) (pa_cons pe_int pa_nil))) pe_int (nomark _)))))) (pss_cons (ps_asg (pe_ix ix_list (pe_ix ix_list (pv 4) (pe_un un_neg pe_int) (fun _ _ => rfl)) pe_int (fun _ _ => rfl)) (pg_sub (pe_ix ix_list (pv 4) (pe_un un_neg pe_int) (fun _ _ => rfl)) pe_int set_list))
      (pss_one (ps_asg (pe_lst pa_nil) (pg_sub (pe_ix ix_list (pv 4) (pe_un un_neg pe_int) (fun _ _ => rfl)) pe_int set_list)))) (pss_one (ps_expr (pe_cl c_l_close hr rfl (pa_cons (pv 4) pa_nil)))))) (pss_one (ps_expr (pe_bm PySem.F.plainAttrs_list PySem.F.slot_list_append PySem.F.type_list_append mt_append (pe_ix ix_list (pe_ix ix_list (pv 4) (pe_un un_neg pe_int) (fun _ _ => rfl)) pe_int (fun _ _ => rfl)) (pa_cons (pe_cl c_l_plain hr rfl (pa_cons (pv 6) (pa_cons (pv 1) (pa_cons (pv 2) (pa_cons (pe_op op_mod (pv 7) pe_int) pa_nil))))) pa_nil)))))))))))
      (pss_cons (ps_while PassesOwn.never (pt_cmpR op_gt (pe_callB call_len_seq rfl T.len_ (by decide +kernel) (pa_cons (pv 4) pa_nil)) pe_int (nomark _)) (pss_one (ps_expr (pe_cl c_l_close hr rfl (pa_cons (pv 4) pa_nil)))))
      (pss_one (ps_ret (pe_ix ix_list (pe_ix ix_list (pv 4) pe_int (fun _ _ => rfl)) pe_int (fun _ _ => rfl))))))), ?_⟩
    have nE : ∀ e ∈ E0, ¬ H e = none := fun e he z => by obtain ⟨xs, k⟩ := hE0 e he; rw [z] at k; cases k
    refine ⟨(by show 0 ≤ sizeLine; decide), fun rl hrl => ⟨(by show 4 ≤ sizeLine; decide), fun f hf => ⟨(by show 1 ≤ sizeLine; decide), fun o ho => ?_⟩⟩⟩
    have s1 := same_new hrl (.lst [])
    have s2 := same_new hf (.lst [.str "main", .non, .ref rl, .non])
    have s3 := same_new ho (.lst [.ref f])
    have e3 : (upd (upd (upd H rl (.lst [])) f (.lst [.str "main", .non, .ref rl, .non])) o (.lst [.ref f])) o = some (.lst [.ref f]) := upd_same
    have e2 : (upd (upd (upd H rl (.lst [])) f (.lst [.str "main", .non, .ref rl, .non])) o (.lst [.ref f])) f = some (.lst [.str "main", .non, .ref rl, .non]) := s3 _ _ upd_same
    have e1 : (upd (upd (upd H rl (.lst [])) f (.lst [.str "main", .non, .ref rl, .non])) o (.lst [.ref f])) rl = some (.lst []) := s3 _ _ (s2 _ _ upd_same)
    have s13 := (s1.trans s2).trans s3
    have n1 : f ≠ rl := fun z => by rw [z, upd_same] at hf; cases hf
    have n2 : o ≠ f := fun z => by rw [z, upd_same] at ho; cases ho
    have n3 : o ≠ rl := fun z => by rw [z, upd_ne n1.symm, upd_same] at ho; cases ho
    have nf : H f = none := by rw [upd_ne n1] at hf; exact hf
    have no : H o = none := by rw [upd_ne n2, upd_ne n3] at ho; exact ho
    show (fun H3 => _) (upd (upd (upd H rl (.lst [])) f (.lst [.str "main", .non, .ref rl, .non])) o (.lst [.ref f]))
    generalize upd (upd (upd H rl (.lst [])) f (.lst [.str "main", .non, .ref rl, .non])) o (.lst [.ref f]) = H3 at e1 e2 e3 s13 ⊢
    have P0 : Pil0 E0 H D ns 1 o H3 [⟨f, rl, "main", .non, .num 0, .nil, none⟩] := by
      refine ⟨s13, fun m hm => ?_, ⟨e3, ?_, fun x hx => ?_, fun i x hx => ?_, ⟨_, [], rfl, rfl, rfl, fun y hy => nomatch hy⟩, by simp⟩, by simp [tally, count, fstR]⟩
      · rcases mu_mem.mp hm with rfl | ⟨x, hx, h⟩
        · exact no
        · rw [List.mem_singleton.mp hx] at h
          rcases h with rfl | rfl
          · exact nf
          · exact hrl
      · simp [muS, n1, n2, n3]
      · rw [List.mem_singleton.mp hx]
        exact ⟨e2, ⟨[], e1, rfl⟩, (fun a ra e => nomatch e), .inl rfl, trivial⟩
      · have : i = 0 := by
          have := (List.getElem?_eq_some_iff.mp hx).1
          simpa using this
        subst this
        cases Option.some.inj hx
        exact ⟨Nat.zero_le _, Nat.zero_le _⟩
    have hcl3 := s13 _ _ hcl
    refine ⟨_, rfl, cl, rfl, ⟨_, SqL.of hcl3⟩, for_lst (K := K) (a := cl) (xs := il cells)
      (fun i σ H' => ∃ c1 c2 c3 frs, σ = [some (.ref cl), some (.ref a), some (.ref en), some (.int 8), some (.ref o), c1, c2, c3] ∧ Pil0 E0 H D ns (i + 1) o H' frs) ⟨_, _, _, _, rfl, P0⟩ ?_ ?_ ?_⟩
    · rintro i σ H' ⟨c1, c2, c3, frs, rfl, h⟩
      exact SqL.of (h.same _ _ hcl)
    · rintro i x σ H' hi hx ⟨c1, c2, c3, frs, rfl, h⟩
      rw [List.length_map] at hi
      rw [List.getElem?_map, List.getElem?_eq_getElem hi] at hx
      cases hx
      refine ⟨_, rfl, _, rfl, fun p H4 s4 pn st4 => ?_⟩
      have pil : Pil E0 H D ns (i + 1) o p H4 frs := by
        refine ⟨h.same.trans s4, h.new, h.stk.same s4 (fun e he => (List.mem_cons.mp he).elim (fun z => .inr (by rw [z]; exact pn)) .inl), hE0, st4, ?_, fun z => ?_, h.tal⟩
        · cases z : H p with
          | none => rfl
          | some u => rw [h.same _ _ z] at pn; cases pn
        · obtain ⟨xs, e⟩ := h.stk.al p z
          rw [pn] at e; cases e
      have kn_ : ∀ {H' : Hp} {frs : List Fr} {n : Nat}, Pil E0 H D ns n o p H' frs → Kn H' p a D := fun h => ⟨h.str, ⟨dv, h.same _ _ ha, hdd.mono h.same⟩, fun z => by rw [z, h.pn] at ha; cases ha⟩
      have enp : en ≠ p := fun z => by rw [z, pil.pn] at hen; cases hen
      refine ⟨_, rfl, p, 11, rfl, pil.str, by decide, by decide, fun wh H5 w0 w1 b5 st5 => ?_⟩
      have pil5 := pil.turn b5 st5
      have hlen5 := pil5.stk.len
      have flen : (frs.map fun x => V.ref x.f).length = frs.length := List.length_map _
      dsimp only [tNext, gName, tSeq]
      refine st_testP (fun b H' => Pil E0 H D ns (i + 1) o p H' frs ∧ b = decide ((wh = 7 ∨ wh = 8) ∧ frs.length < 8)) (fun Q2 q2 => ?_) ?_
      · refine ⟨_, rfl, (by show 2 ≤ sizeLine; decide), fun t ht => ⟨t, _, rfl, .inr (SqT.of upd_same), rfl, rfl, _, rfl, ?_⟩⟩
        have st := same_new ht (.tup [.int 7, .int 8])
        have pil6 := pil5.go st
        show if inV (.int wh) [.int 7, .int 8] = true then _ else _
        rw [in78 w0 w1]
        refine ifD (fun c => ?_) (fun c => ?_)
        · refine ⟨_, rfl, o, _, rfl, .inl (SqL.of pil6.stk.op), _, rfl, _, _, rfl, rfl, _, rfl, ?_⟩
          refine q2 _ _ ⟨pil6, ?_⟩
          rw [flen]
          by_cases c8 : frs.length < 8
          · rw [decide_eq_true (show ((frs.length : Nat) : Int) < 8 by omega), decide_eq_true ⟨c, c8⟩]
          · rw [decide_eq_false (show ¬ ((frs.length : Nat) : Int) < 8 by omega), decide_eq_false fun z => c8 z.2]
        · exact q2 _ _ ⟨pil6, (decide_eq_false fun z => c z.1).symm⟩
      · rintro b H6 ⟨pil6, rfl⟩
        refine ifD (fun c => ?_) (fun c => ?_)
        · -- opened
          obtain ⟨c7, c8⟩ := c
          refine ⟨_, rfl, .inl ⟨rfl, _, SqL.of pil6.stk.op⟩, (by show 2 ≤ sizeLine; decide), fun l hl => ?_⟩
          have sl := same_new hl (.lst [.str "if", .str "while"])
          have pil7 := pil6.go sl
          obtain ⟨wd, hwd, hat⟩ : ∃ wd : Str, (wd = "if" ∨ wd = "while") ∧ atI [V.str "if", V.str "while"] (wh - 7) = some (.str wd) := by
            rcases c7 with rfl | rfl
            · exact ⟨"if", .inl rfl, rfl⟩
            · exact ⟨"while", .inr rfl, rfl⟩
          refine ⟨_, rfl, _, _, rfl, rfl, l, _, _, _, rfl, rfl, SqL.of upd_same, hat, _, rfl, _, rfl, p, a, 3, D, rfl, kn_ pil7, hv, by omega, fun v e H8 b8 st8 he hw hh => ?_⟩
          have pil8 := pil7.turn b8 st8
          refine ⟨(by show 0 ≤ sizeLine; decide), fun rl hrl => ⟨(by show 4 ≤ sizeLine; decide), fun f hf => ?_⟩⟩
          have sa := same_new hrl (.lst [])
          have sb := same_new hf (.lst [.str wd, v, .ref rl, .non])
          have nfr : f ≠ rl := fun z => by rw [z, upd_same] at hf; cases hf
          have nf : H8 f = none := by rw [upd_ne nfr] at hf; exact hf
          refine ⟨o, _, .ref f, rfl, rfl, sb _ _ (sa _ _ pil8.stk.op), szl (by rw [flen]; omega), ?_⟩
          have stk9 := pil8.stk.push (f := f) (rl := rl) (wd := wd) c8 (sa.trans sb) nf hrl nfr upd_same (sb _ _ upd_same) hwd ((he.mono sa).mono sb) hw (by omega) fun e he => (List.mem_cons.mp he).elim (fun z => by rw [z]; exact st8.lst) fun z => let ⟨xs, k⟩ := hE0 e z; ⟨xs, pil8.same _ _ k⟩
          refine ⟨_, _, _, _, rfl, Pil.out (pil8.chg ((But.of_same (sa.trans sb)).put (mu_mem.mpr (.inl rfl)) _)) (fun m hm => ?_) stk9 ?_⟩
          · rw [mu_split] at hm
            rcases List.mem_append.mp hm with z | z
            · exact pil8.new m z
            · simp only [List.mem_cons, List.not_mem_nil, or_false] at z
              rcases z with rfl | rfl
              · exact pil8.free nf
              · exact pil8.free hrl
          · have := pil8.tal
            rw [tally_app]
            simp only [tally, count, fstR]
            omega
        · refine st_test (decide (8 < wh ∧ 1 < frs.length)) (fun Q2 q2 => ?_) (ifD (fun c2 => ?_) (fun c2 => ?_))
          · refine ⟨_, rfl, _, _, rfl, rfl, _, rfl, ?_⟩
            by_cases c1 : 8 < wh
            · rw [decide_eq_true c1]
              refine iteT ?_
              refine ⟨_, rfl, o, _, rfl, .inl (SqL.of pil6.stk.op), _, _, rfl, rfl, _, rfl, ?_⟩
              rw [flen]
              by_cases c3 : 1 < frs.length
              · rw [decide_eq_true (show (1 : Int) < ((frs.length : Nat) : Int) by omega)]
                rw [decide_eq_true ⟨c1, c3⟩] at q2
                exact q2
              · rw [decide_eq_false (show ¬ (1 : Int) < ((frs.length : Nat) : Int) by omega)]
                rw [decide_eq_false fun z => c3 z.2] at q2
                exact q2
            · rw [decide_eq_false c1]
              rw [decide_eq_false fun z => c1 z.1] at q2
              exact iteF q2
          · obtain ⟨fs, y, rfl⟩ := split_last (l := frs) (by omega)
            obtain ⟨pre, x, rfl⟩ := split_last (l := fs) (by have := c2.2; rw [List.length_append, List.length_singleton] at this; omega)
            refine st_testP (fun b H' => Pil E0 H D ns (i + 1) o p H' (pre ++ [x] ++ [y]) ∧ (b = true → y.word = "if" ∧ y.first = none)) (fun Q2 q2 => ?_) ?_
            · have ky := pil6.stk.fr y (by simp)
              refine ⟨_, rfl, _, rfl, o, _, _, _, rfl, rfl, SqL.of pil6.stk.op, by rw [List.map_append]; exact at_last, y.f, _, _, _, rfl, rfl, SqL.of ky.fr, rfl, rfl, _, rfl, ifD (fun d => ?_) (fun d => q2 _ _ ⟨pil6, fun z => nomatch z⟩)⟩
              refine ⟨_, rfl, _, rfl, o, _, _, _, rfl, rfl, SqL.of pil6.stk.op, by rw [List.map_append]; exact at_last, y.f, _, _, _, rfl, rfl, SqL.of ky.fr, rfl, rfl, _, rfl, ifD (fun d2 => ?_) (fun d => q2 _ _ ⟨pil6, fun z => nomatch z⟩)⟩
              refine ⟨_, rfl, p, 2, rfl, pil6.str, by decide, by decide, fun j H7 j0 j1 b7 st7 => ⟨rfl, _, rfl, q2 _ _ ⟨pil6.turn b7 st7, fun _ => ⟨V.str.inj d, ?_⟩⟩⟩⟩
              cases hf : y.first with
              | none => rfl
              | some ar => rw [hf] at d2; cases d2
            · rintro b H7 ⟨pil7, hb⟩
              have ky := pil7.stk.fr y (by simp)
              cases b with
              | true =>
                obtain ⟨hw, hf⟩ := hb rfl
                have hyf := ky.fr
                rw [hf] at hyf
                have opl := pil7.stk.op
                have oyf : o ≠ y.f := fun z => pil7.stk.apart.2.1 (mu_mem.mpr (.inl z.symm))
                refine ⟨_, rfl, _, rfl, o, _, _, _, rfl, rfl, SqL.of opl, by rw [List.map_append]; exact at_last, y.f, _, _, _, rfl, rfl, SqL.of hyf, rfl, ?_⟩
                refine ⟨_, rfl, _, rfl, o, _, _, _, rfl, rfl, SqL.of opl, by rw [List.map_append]; exact at_last, ?_⟩
                refine ⟨y.f, _, _, 3, rfl, rfl, hyf, rfl, (by show 0 ≤ sizeLine; decide), fun q2 hq2 => ?_⟩
                have q2f : q2 ≠ y.f := fun z => by rw [z, upd_same] at hq2; cases hq2
                have hq7 : H7 q2 = none := by rw [upd_ne q2f] at hq2; exact hq2
                have q2o : o ≠ q2 := fun z => by rw [z, hq7] at opl; cases opl
                refine ⟨_, rfl, _, rfl, o, _, _, _, rfl, rfl, SqL.of (by rw [upd_ne q2o, upd_ne oyf]; exact opl), by rw [List.map_append]; exact at_last, ?_⟩
                refine ⟨y.f, _, _, 2, rfl, rfl, by rw [upd_ne q2f.symm]; exact upd_same, rfl, ?_⟩
                have ym : y.f ∈ muS o (pre ++ [x] ++ [y]) := mu_mem.mpr (.inr ⟨y, by simp, .inl rfl⟩)
                have bb : But [y.f] H7 (upd (upd (upd H7 y.f (.lst ([V.str y.word, y.fl, .ref y.rl, fstV none].set 3 (.ref y.rl)))) q2 (.lst [])) y.f (.lst (([V.str y.word, y.fl, .ref y.rl, fstV none].set 3 (.ref y.rl)).set 2 (.ref q2)))) :=
                  (((But.refl _ _).put (List.mem_singleton.mpr rfl) _).new hq7 _).put (List.mem_singleton.mpr rfl) _
                have stk9 := pil7.stk.els (q := q2) hw hf hq7 bb upd_same (by rw [upd_ne q2f]; exact upd_same) (fun z => (List.mem_cons.mp z).elim (fun z => pil7.pm (by rw [← z]; exact mu_mem.mpr (.inr ⟨y, by simp, .inr rfl⟩))) fun z => nE _ z (pil7.new _ (mu_mem.mpr (.inr ⟨y, by simp, .inr rfl⟩))))
                refine ⟨_, _, _, _, rfl, Pil.out (pil7.chg (bb.mono fun m hm => by rw [List.mem_singleton.mp hm]; exact ym)) (fun m hm => ?_) stk9 ?_⟩
                · rw [mu_split] at hm
                  rcases List.mem_append.mp hm with z | z
                  · exact pil7.new m (mu_split (pre := pre ++ [x]) ▸ List.mem_append_left _ z)
                  · simp only [List.mem_cons, List.not_mem_nil, or_false] at z
                    rcases z with rfl | rfl
                    · exact pil7.new _ ym
                    · exact pil7.free hq7
                · have := pil7.tal
                  rw [tally_app] at this ⊢
                  simp only [tally, count, fstR, hf] at this ⊢
                  omega
              | false =>
                refine iteF ?_
                refine ⟨_, rfl, p :: E0, o, D, ns, pre, x, y, rfl, pil7.stk, fun e he => ?_, ?_, fun s H' b8 st8 hc => ?_⟩
                · rcases List.mem_cons.mp he with z | z
                  · rw [z]
                    exact ⟨fun z => pil7.pm (mu_mem.mpr (.inr ⟨y, by simp, .inr z⟩)), fun z => pil7.pm (mu_mem.mpr (.inl z)), pil7.str.lst⟩
                  · exact ⟨fun k => nE e z (pil7.new e (mu_mem.mpr (.inr ⟨y, by simp, .inr k⟩))), fun k => nE e z (pil7.new e (mu_mem.mpr (.inl k))), let ⟨xs, k⟩ := hE0 e z; ⟨xs, pil7.same _ _ k⟩⟩
                · have := pil7.tal
                  omega
                · refine ⟨_, _, _, _, rfl, Pil.out (pil7.chg (b8.mono fun m hm => mu_sub hm)) (fun m hm => ?_) st8 ?_⟩
                  · refine pil7.new m (mu_sub ?_)
                    rw [mu_split] at hm ⊢
                    exact hm
                  · have := pil7.tal
                    rw [tally_app, tally_app] at this
                    rw [tally_app]
                    simp only [tally, count_app] at this hc ⊢
                    omega
          · obtain ⟨pre, x, rfl⟩ := split_last (l := frs) pil6.stk.pos
            have kx := pil6.stk.fr x (by simp)
            refine ⟨_, rfl, _, rfl, o, _, _, _, rfl, rfl, SqL.of pil6.stk.op, by rw [List.map_append]; exact at_last, x.f, _, _, _, rfl, rfl, SqL.of kx.fr, rfl, ?_⟩
            obtain ⟨vx0, hvx0, _⟩ := kx.rl
            refine ⟨.inl ⟨rfl, _, SqL.of hvx0⟩, _, rfl, _, rfl, _, rfl, _, rfl, _, _, rfl, rfl, (by show (0 : Int) < 7; decide), ?_⟩
            refine ⟨p, a, en, wh % 7, D, ns, rfl, kn_ pil6, hv, hns, pil6.same _ _ hen, enp, fun v r H7 b7 st7 hr7 hg hd hc => ?_⟩
            have pil7 := pil6.turn b7 st7
            have kx7 := pil7.stk.fr x (by simp)
            obtain ⟨vx, hvx, hrx⟩ := kx7.rl
            have hwide := RowsV.len hrx
            have hw2 := wide_le x.r
            have htal := pil7.tal
            rw [tally_app] at htal
            simp only [tally] at htal
            have xm : x.rl ∈ muS o (pre ++ [x]) := mu_mem.mpr (.inr ⟨x, by simp, .inr rfl⟩)
            refine ⟨x.rl, vx, v, rfl, rfl, hvx, szl (by omega), ?_⟩
            have tps : Tps H7 (Wo (p :: E0 ++ muS o (pre ++ [x])) H7) := fun q xs e => wo_at e fun z => by
              rcases List.mem_append.mp z with z | z
              · rcases List.mem_cons.mp z with z | z
                · obtain ⟨ys, k⟩ := st7.lst
                  rw [z, k] at e
                  cases e
                · obtain ⟨ys, k⟩ := hE0 q z
                  rw [pil7.same _ _ k] at e
                  cases e
              · obtain ⟨ys, k⟩ := pil7.stk.al q z
                rw [k] at e
                cases e
            have hrv := leaf_tps tps hd hr7
            have stk8 := pil7.stk.add (s := r) hvx hrv hg (by omega)
            refine ⟨_, _, _, _, rfl, Pil.out (pil7.chg ((But.refl _ _).put xm _)) (fun m hm => ?_) stk8 ?_⟩
            · refine pil7.new m ?_
              rw [mu_split] at hm ⊢
              exact hm
            · rw [tally_app]
              simp only [tally, count_app]
              omega
    · rintro σ H' ⟨c1, c2, c3, frs, rfl, h⟩
      have hlc : (il cells).length = cells.length := List.length_map _
      rw [hlc] at h
      refine ⟨fun m σ H' => ∃ frs, frs.length = m ∧ σ = [some (.ref cl), some (.ref a), some (.ref en), some (.int 8), some (.ref o), c1, c2, c3] ∧ Pil0 E0 H D ns (cells.length + 1) o H' frs, ⟨_, frs, rfl, rfl, h⟩, ?_⟩
      rintro m σ H' ⟨frs, rfl, rfl, h⟩
      have flen : (frs.map fun x => V.ref x.f).length = frs.length := List.length_map _
      have hlen := h.stk.len
      refine ⟨_, rfl, o, _, rfl, .inl (SqL.of h.stk.op), _, _, rfl, rfl, _, rfl, ?_⟩
      rw [flen]
      refine ifD (fun c => ?_) (fun c => ?_)
      · obtain ⟨fs, y, rfl⟩ := split_last (l := frs) (by omega)
        obtain ⟨pre, x, rfl⟩ := split_last (l := fs) (by rw [List.length_append, List.length_singleton] at c; omega)
        refine ⟨fun σ H' => ∃ frs, frs.length = (pre ++ [x]).length ∧ σ = [some (.ref cl), some (.ref a), some (.ref en), some (.int 8), some (.ref o), c1, c2, c3] ∧ Pil0 E0 H D ns (cells.length + 1) o H' frs, fun σ' H' ⟨frs, k1, k2, k3⟩ => ⟨(pre ++ [x]).length, by simp, frs, k1, k2, k3⟩, ?_⟩
        refine ⟨_, rfl, E0, o, D, ns, pre, x, y, rfl, h.stk, (fun e z => ⟨fun k => nE e z (h.new e (mu_mem.mpr (.inr ⟨y, by simp, .inr k⟩))), fun k => nE e z (h.new e (mu_mem.mpr (.inl k))), let ⟨xs, k⟩ := hE0 e z; ⟨xs, h.same _ _ k⟩⟩), ?_, fun s H' b8 st8 hc => ?_⟩
        · have := h.tal
          omega
        · refine ⟨_, by simp, rfl, (fun q u e => b8 q u (fun z => by rw [h.new q (mu_sub z)] at e; cases e) (h.same q u e)), fun m hm => ?_, st8, ?_⟩
          · refine h.new m (mu_sub ?_)
            rw [mu_split] at hm ⊢
            exact hm
          · have := h.tal
            rw [tally_app, tally_app] at this
            rw [tally_app]
            simp only [tally, count_app] at this hc ⊢
            omega
      · obtain ⟨x, t, rfl, m1, m2, m3⟩ := h.stk.main
        have ht : t = [] := by
          cases t with
          | nil => rfl
          | cons z t => exact absurd (by simp only [List.length_cons]; omega) c
        subst ht
        have kx := h.stk.fr x (by simp)
        obtain ⟨vx, hvx, hrx⟩ := kx.rl
        refine ⟨_, rfl, o, _, _, _, rfl, rfl, SqL.of h.stk.op, rfl, x.f, _, _, _, rfl, rfl, SqL.of kx.fr, rfl, ?_⟩
        have htal := h.tal
        simp only [tally] at htal
        exact q x.rl vx x.r _ h.same (h.new _ (mu_mem.mpr (.inr ⟨x, by simp, .inr rfl⟩))) hvx (hrx.mono (wo_less fun m hm => List.mem_append_left _ hm)) kx.ok (h.stk.dep 0 x rfl).1 (by omega)
end
end GT
/-! _law_tree, _law_given -/
namespace GT
open PySem PySem.Spec PyProof.Rows L2
theorem sc_l_tree : FnScope ["_law_cells", "_law_known", "_law_many", "_law_parts", "_law_at", "_law_k", "_law_size", "_law_rows_here", "_law_one"] ["_law_cells"] (defScope s_l_tree) := ⟨rfl, rfl, rfl, by decide +kernel, rfl, by decide +kernel, by decide +kernel⟩
theorem sc_l_given : FnScope ["_law_script", "_law_many", "_law_found", "_law_k", "_law_number"] ["_law_script", "_law_many"] (defScope s_l_given) := ⟨rfl, rfl, rfl, by decide +kernel, rfl, by decide +kernel, by decide +kernel⟩
theorem sqL_same {K : PySem.W.Frag} {H H' : Hp} {a : Addr} {xs : List V} (s : Same H H') (h : SqL K H a xs) : SqL K H' a xs := by
  rcases h with (h | ⟨o, h⟩) | h
  · exact .inl (.inl (s _ _ h))
  · exact .inl (.inr ⟨o, s _ _ h⟩)
  · exact .inr h
theorem cut_il (l : List Int) (lo hi : Option Int) : ∃ l' : List Int, cutV (il l) lo hi = il l' ∧ l'.length ≤ l.length := by
  refine ⟨(l.drop (HT.sIx l.length 0 lo)).take (HT.sIx l.length l.length hi - HT.sIx l.length 0 lo), ?_, ?_⟩
  · unfold cutV
    rw [il, List.length_map, il, ← List.map_drop, ← List.map_take]
  · rw [List.length_take, List.length_drop]
    omega
theorem RowsOk.mono {G : Env} {T T' : Nm → Option Part} {k : Nat} (h : ∀ x q, T x = some q → T' x = some q) : ∀ {r : Rows}, RowsOk G T k r → RowsOk G T' k r
  | .nil, _ => trivial
  | .plain p r, q => ⟨q.1, RowsOk.mono h q.2⟩
  | .call x r, ⟨⟨q, a, b⟩, c⟩ => ⟨⟨q, h _ _ a, b⟩, RowsOk.mono h c⟩
  | .ife c a b r, q => ⟨q.1, q.2.1, RowsOk.mono h q.2.2.1, RowsOk.mono h q.2.2.2.1, RowsOk.mono h q.2.2.2.2⟩
  | .whl c a r, q => ⟨q.1, q.2.1, RowsOk.mono h q.2.2.1, RowsOk.mono h q.2.2.2⟩
theorem tab_has : ∀ {ps : List (Nm × Rows)} {n i : Nat} {x : Nm}, x ∈ ps.map (·.1) → ∃ q, tabOf ps n i x = some q ∧ q.ix < i + ps.length
  | [], _, _, _, h => nomatch h
  | (y, r) :: ps, n, i, x, h => by
    by_cases e : y = x
    · exact ⟨⟨i, r, n⟩, by simp only [tabOf, if_pos e], by simp⟩
    · have h' : x ∈ ps.map (·.1) := by
        rcases List.mem_cons.mp h with z | z
        · exact absurd z.symm e
        · exact z
      obtain ⟨q, h1, h2⟩ := tab_has (n := n + count r) (i := i + 1) h'
      exact ⟨q, by simp only [tabOf, if_neg e]; exact h1, by rw [List.length_cons]; omega⟩
abbrev nms : List Nm := ["p", "pp", "go"]
structure TInv (H0 H' : Hp) (lp : Addr) (D : List Decl) (i : Nat) (ps : List (Nm × Rows)) (pv : List V) : Prop where
  same : Same H0 H'
  at_ : H' lp = some (.lst pv)
  vs : PartsV (Wo [lp] H') ps pv
  nm : ps.map (·.1) = nms.take i
  tab : TabOk (envOf D) (tabOf ps 0 0)
  ok : ∀ p ∈ ps, deep p.2 ≤ 7 ∧ count p.2 ≤ 63
section
variable {H0 H' H2 : Hp} {lp : Addr} {D : List Decl} {i : Nat} {ps : List (Nm × Rows)} {pv : List V}
theorem TInv.go (h : TInv H0 H' lp D i ps pv) (s : Same H' H2) : TInv H0 H2 lp D i ps pv := ⟨h.same.trans s, s _ _ h.at_, h.vs.mono (Same.wo s), h.nm, h.tab, h.ok⟩
theorem TInv.ns (h : TInv H0 H' lp D i ps pv) : NsOk (ps.map (·.1)) := by
  rw [h.nm]
  refine ⟨?_, fun x hx => ?_⟩
  · rw [List.length_take]
    have : nms.length = 3 := rfl
    omega
  · have := List.mem_of_mem_take hx
    simp only [List.mem_cons, List.not_mem_nil, or_false] at this
    exact this
theorem nms_nd : nms.Nodup := by decide +kernel
theorem TInv.snoc {y : Nm} {r : Rows} {t l : Addr} {xs : List V} (h : TInv H0 H' lp D i ps pv) (h0 : H0 lp = none) (hy : nms[i]? = some y) (ht : H' t = some (.tup [.str y, .ref l])) (hl : Wo [lp] H' l = some (.lst xs)) (hr : RowsV (Wo [lp] H') r xs) (hg : RowsG D (ps.map (·.1)) r) (hd : deep r ≤ 7) (hc : count r ≤ 63) :
    TInv H0 (upd H' lp (.lst (pv ++ [.ref t]))) lp D (i + 1) (ps ++ [(y, r)]) (pv ++ [.ref t]) := by
  have b : But [lp] H' (upd H' lp (.lst (pv ++ [.ref t]))) := (But.refl _ _).put (List.mem_singleton.mpr rfl) _
  have tl : ¬ t ∈ [lp] := fun z => by rw [List.mem_singleton.mp z, h.at_] at ht; cases ht
  have ny : ¬ y ∈ ps.map (·.1) := fun z => by
    rw [h.nm] at z
    obtain ⟨j, hj⟩ := List.mem_iff_getElem?.mp z
    have hlt : j < i := by
      have := (List.getElem?_eq_some_iff.mp hj).1
      rw [List.length_take] at this
      omega
    rw [List.getElem?_take_of_lt hlt] at hj
    have := nd_ix nms_nd hj hy
    omega
  have up : ∀ x q, tabOf ps 0 0 x = some q → tabOf (ps ++ [(y, r)]) 0 0 x = some q := fun x q e => by
    rw [tab_snoc ny]
    by_cases z : y = x
    · rw [tab_no (z ▸ ny)] at e
      cases e
    · rw [if_neg z]
      exact e
  refine ⟨same_upd h.same h0 _, upd_same, (h.vs.mono b.wo).snoc ⟨t, rfl, b.wo _ _ (wo_at ht tl)⟩ (b.wo _ _ hl) (hr.mono b.wo), ?_, fun x q e => ?_, fun p hp => ?_⟩
  · rw [List.map_append, h.nm, take_snoc hy]
    rfl
  · rw [tab_snoc ny] at e
    by_cases z : y = x
    · rw [if_pos z] at e
      cases e
      refine RowsG.ok (ns := ps.map (·.1)) (fun u hu => ?_) hg
      obtain ⟨q, h1, h2⟩ := tab_has (n := 0) (i := 0) hu
      exact ⟨q, up _ _ h1, h2⟩
    · rw [if_neg z] at e
      exact RowsOk.mono up (h.tab x q e)
  · rcases List.mem_append.mp hp with z | z
    · exact h.ok p z
    · rw [List.mem_singleton.mp z]
      exact ⟨hd, hc⟩
end
section
variable {P : Program} {w : World} {K : PySem.W.Frag} {mg : Str → Option Value} {base : Heap} {C : Addr}
def spTree : Sp := fun vs H Q _ => ∃ (c : Addr) (cells : List Int), vs = [.ref c] ∧ H c = some (.lst (il cells)) ∧ cells.length ≤ 63 ∧ ∀ v t H', Same H H' → TreeV H' v t → TreeOk t → Q v H'
theorem ok_l_tree (T0 : Top K mg C) {k : Nat} (c_l_vars : Cal P w K mg base "_law_vars" ["_law_cell"] k spVars) (c_l_mixed : Cal P w K mg base "_law_mixed" ["_law_number", "_law_k"] k spMixed) (c_l_rows : Cal P w K mg base "_law_rows" ["_law_cells", "_law_known", "_law_ended", "_law_deep"] k spRowsG) :
    Cal P w K mg base "_law_tree" ["_law_cells"] (k + 1) spTree := by
  have T := T0
  refine T.d_l_tree.ok sc_l_tree (fun _ _ _ _ _ _ us hl => match us, hl with | [_], _ => rfl) (fun vs H Q E h => ?_) (fun f cdv A outer s0 H vs Q E hr h => ?_)
  · obtain ⟨c, cells, rfl, _⟩ := h
    rfl
  · obtain ⟨c, cells, rfl, hc, hcl, q⟩ := h
    refine ⟨_, (pss_cons (ps_set (i := 1) sc_l_tree.nd rfl (Or.inl rfl) (pe_cl c_l_vars hr rfl (pa_cons (pe_ix ix_list (pe_op op_cat (pv 0) (pe_lst (pa_cons pe_int pa_nil))) pe_int (fun _ _ => rfl)) pa_nil)))
      (pss_cons (ps_set (i := 2) sc_l_tree.nd rfl (Or.inl rfl) (pe_op op_mod (pe_cl c_l_mixed hr rfl (pa_cons (pe_callB (cr_sum rfl) rfl T.sum_ (by decide +kernel) (pa_cons (pe_slice sl_list (pv 0) po_none (po_some pe_int)) pa_nil)) (pa_cons pe_int pa_nil))) pe_int))
      (pss_cons (ps_set (i := 3) sc_l_tree.nd rfl (Or.inl rfl) (pe_lst pa_nil))
      (pss_cons (ps_set (i := 4) sc_l_tree.nd rfl (Or.inl rfl) pe_int)
      (pss_cons (ps_for PassesOwn.never rfl (pi_range1 rfl T.range_ (pa_cons (pv 2) pa_nil)) (pg_name (i := 5) sc_l_tree.nd rfl (Or.inl rfl)) (pss_cons (ps_set (i := 6) sc_l_tree.nd rfl (Or.inl rfl) (pe_op op_add pe_int (pe_op op_mod (pe_cl c_l_mixed hr rfl (pa_cons (pe_callB (cr_sum rfl) rfl T.sum_ (by decide +kernel) (pa_cons (pe_slice sl_list (pv 0) po_none (po_some pe_int)) pa_nil)) (pa_cons (pe_op op_add pe_int (pv 5)) pa_nil))) pe_int)))
      (pss_cons (ps_set (i := 7) sc_l_tree.nd rfl (Or.inl rfl) (pe_cl c_l_rows hr rfl (pa_cons (pe_slice sl_list (pv 0) (po_some (pv 4)) (po_some (pe_op op_add (pv 4) (pv 6)))) (pa_cons (pv 1) (pa_cons (pe_lc (own := [("_law_one", 8)]) rfl sc_l_tree.nd (pi_list (pv 3)) (blkOk_by (own := [("_law_one", 8)]) (N := ["_law_cells", "_law_known", "_law_many", "_law_parts", "_law_at", "_law_k", "_law_size", "_law_rows_here", "_law_one"]) (sc := defScope s_l_tree) (by decide +kernel)) (fun _ _ _ _ _ => (pg_name (i := 8) sc_l_tree.nd rfl (Or.inl rfl))) (fun _ _ _ _ _ => pts_nil) (fun _ _ _ _ _ => (pe_ix (ixTk (K := K) rfl) (pv 8) pe_int (fun _ _ => rfl)))) (pa_cons pe_int pa_nil))))))
      (pss_cons (ps_expr (pe_bm PySem.F.plainAttrs_list PySem.F.slot_list_append PySem.F.type_list_append mt_append (pv 3) (pa_cons (pe_tup (pa_cons (pe_ix ix_list (pe_lst (pa_cons pe_str (pa_cons pe_str (pa_cons pe_str pa_nil)))) (pv 5) (fun _ _ => rfl)) (pa_cons (pv 7) pa_nil))) pa_nil)))
      (pss_one (ps_set (i := 4) sc_l_tree.nd rfl (Or.inl rfl) (pe_op op_add (pv 4) (pv 6))))))))
      (pss_one (ps_ret (pe_tup (pa_cons (pv 1) (pa_cons (pv 3) (pa_cons (pe_cl c_l_rows hr rfl (pa_cons (pe_slice sl_list (pv 0) (po_some (pv 4)) po_none) (pa_cons (pv 1) (pa_cons (pe_lc (own := [("_law_one", 8)]) rfl sc_l_tree.nd (pi_list (pv 3)) (blkOk_by (own := [("_law_one", 8)]) (N := ["_law_cells", "_law_known", "_law_many", "_law_parts", "_law_at", "_law_k", "_law_size", "_law_rows_here", "_law_one"]) (sc := defScope s_l_tree) (by decide +kernel)) (fun _ _ _ _ _ => (pg_name (i := 8) sc_l_tree.nd rfl (Or.inl rfl))) (fun _ _ _ _ _ => pts_nil) (fun _ _ _ _ _ => (pe_ix (ixTk (K := K) rfl) (pv 8) pe_int (fun _ _ => rfl)))) (pa_cons pe_int pa_nil))))) pa_nil))))))))))), ?_⟩
    obtain ⟨z, hz⟩ : ∃ z : Int, atI (il cells ++ [V.int 0]) 0 = some (.int z) := by
      cases cells with
      | nil => exact ⟨0, rfl⟩
      | cons z t => exact ⟨z, by rw [atI, ixN, if_pos (by decide), if_pos (by simp; omega)]; rfl⟩
    have hil : (il cells).length = cells.length := List.length_map _
    refine ⟨_, rfl, (by show 1 ≤ sizeLine; decide), fun l hl => ?_⟩
    have s1 := same_new hl (.lst [.int 0])
    refine ⟨c, l, _, _, rfl, rfl, s1 _ _ hc, upd_same, sz (by rw [hil]; show cells.length + 1 ≤ _; omega), fun m hm => ?_⟩
    have s2 := s1.trans (same_new hm (.lst (il cells ++ [.int 0])))
    refine ⟨m, _, _, _, rfl, rfl, SqL.of upd_same, hz, z, rfl, fun lv D dv H1 s3 nlv hlv hD hv => ?_⟩
    have sH1 := s2.trans s3
    have hc1 := sH1 _ _ hc
    -- many
    obtain ⟨l2, e2, _⟩ := cut_il cells none (some 2)
    refine ⟨_, rfl, _, rfl, c, _, rfl, SqL.of hc1, fun m2 hm2 => ?_⟩
    rw [e2]
    refine ⟨m2, l2, rfl, SqL.of upd_same, _, _, rfl, fun r r0 r1 => ⟨_, _, rfl, rfl, (by show (0 : Int) < 4; decide), ?_⟩⟩
    have s4 := same_new hm2 (.lst (il l2))
    have hc2 := s4 _ _ hc1
    have hlv2 := s4 _ _ hlv
    have hD2 := hD.mono s4
    have sH2 := sH1.trans s4
    show (fun H2 => _) (upd H1 m2 (.lst (il l2)))
    generalize upd H1 m2 (.lst (il l2)) = H2 at hc2 hlv2 hD2 sH2 ⊢
    have many0 := Int.emod_nonneg r (show (4 : Int) ≠ 0 by decide)
    have many4 := Int.emod_lt_of_pos r (show (0 : Int) < 4 by decide)
    refine ⟨(by show 0 ≤ sizeLine; decide), fun lp hlp => ?_⟩
    have nlpc : H2 lp = none := hlp
    have I0 : TInv H2 (upd H2 lp (.lst [])) lp D 0 [] [] := ⟨same_new hlp _, upd_same, rfl, rfl, (fun x q e => by simp [tabOf] at e), fun p hp => nomatch hp⟩
    refine ⟨_, rfl, r % 4, rfl, by omega, by omega, for_any (n := (r % 4).toNat)
      (fun i σ H' => ∃ at_ : Int, ∃ x5 x6 x7 ps pv, σ = [some (.ref c), some (.ref lv), some (.int (r % 4)), some (.ref lp), some (.int at_), x5, x6, x7, none] ∧ TInv H2 H' lp D i ps pv) ⟨1, none, none, none, [], [], rfl, I0⟩ ?_ ?_⟩
    · rintro i σ H' hi ⟨at_, x5, x6, x7, ps, pv, rfl, I⟩
      refine ⟨hi, ?_⟩
      rintro v H'' ⟨rfl, rfl⟩
      obtain ⟨l3, e3, _⟩ := cut_il cells none (some 3)
      refine ⟨_, rfl, _, rfl, c, _, rfl, SqL.of (I.same _ _ hc2), fun m3 hm3 => ?_⟩
      rw [e3]
      refine ⟨m3, l3, rfl, SqL.of upd_same, _, rfl, _, _, rfl, rfl, _, _, rfl, fun r2 r20 r21 => ⟨_, _, rfl, rfl, (by show (0 : Int) < 7; decide), _, _, rfl, rfl, ?_⟩⟩
      have I2 := I.go (same_new hm3 (.lst (il l3)))
      show (fun H2 => _) (upd H'' m3 (.lst (il l3)))
      generalize upd H'' m3 (.lst (il l3)) = H3 at I2 ⊢
      have i3 : i < 3 := by omega
      have pvl := I2.vs.len
      have psl : ps.length = i := by
        have := congrArg List.length I2.nm
        rw [List.length_map, List.length_take, show nms.length = 3 from rfl] at this
        omega
      -- the rows
      obtain ⟨l4, e4, l4n⟩ := cut_il cells (some at_) (some (at_ + (1 + r2 % 7)))
      refine ⟨_, rfl, _, rfl, _, rfl, _, rfl, _, rfl, _, _, rfl, rfl, _, rfl, c, _, rfl, SqL.of (I2.same _ _ hc2), fun m4 hm4 => ?_⟩
      rw [e4]
      have s5 := same_new hm4 (.lst (il l4))
      have I3 := I2.go s5
      have hm4' : (upd H3 m4 (.lst (il l4))) m4 = some (.lst (il l4)) := upd_same
      show (fun H2 => _) (upd H3 m4 (.lst (il l4)))
      generalize upd H3 m4 (.lst (il l4)) = H4 at I3 hm4' ⊢
      refine ⟨_, rfl, _, rfl, lp, rfl, ⟨_, SqL.of I3.at_⟩, fun en hen => ?_⟩
      have s6 := same_new hen (.lst [])
      refine lc_list (K := K) (a := lp) (xs := pv) (fun j H' => Same H4 H' ∧ H' en = some (.lst (((ps.map (·.1)).take j).map V.str))) ⟨same_new hen _, upd_same⟩ (fun j H' _ h => SqL.of (h.1 _ _ I3.at_)) (fun j x H' hx h => ?_) (fun H5 h => ?_)
      · obtain ⟨s, h1⟩ := h
        obtain ⟨y, ry, p, l, xs, hp, rfl, hp2, _⟩ := (I3.vs.mono wo_sub).at_ hx
        have hy : (ps.map (·.1))[j]? = some y := by rw [List.getElem?_map, hp]; rfl
        refine ⟨rfl, _, rfl, p, _, _, _, rfl, rfl, SqT.of (s _ _ hp2), rfl, _, h1, szl (by rw [List.length_map, List.length_take, List.length_map]; omega), same_upd s hen _, ?_⟩
        rw [upd_same, take_snoc hy, List.map_append]
        rfl
      · obtain ⟨s7, h7⟩ := h
        have I5 := I3.go s7
        rw [pvl, show ps.length = (ps.map (·.1)).length from (List.length_map _).symm, List.take_length] at h7
        refine ⟨m4, lv, en, D, ps.map (·.1), dv, l4, [lp], rfl, s7 _ _ hm4', I5.same _ _ hlv2, hD2.mono I5.same, hv, I5.ns, h7, by omega, fun e he => ⟨pv, by rw [List.mem_singleton.mp he]; exact I5.at_⟩, fun q2 xs r H6 s8 nq2 hq2 hr6 hg hd hc6 => ?_⟩
        have I6 := I5.go s8
        have q2lp : ¬ q2 ∈ [lp] := fun z => by rw [List.mem_singleton.mp z, I5.at_] at nq2; cases nq2
        obtain ⟨y, hy, hat⟩ : ∃ y, nms[i]? = some y ∧ atI [V.str "p", V.str "pp", V.str "go"] ((0 : Int) + (i : Int)) = some (.str y) := by
          have hm : i = 0 ∨ i = 1 ∨ i = 2 := by omega
          rcases hm with rfl | rfl | rfl
          · exact ⟨_, rfl, rfl⟩
          · exact ⟨_, rfl, rfl⟩
          · exact ⟨_, rfl, rfl⟩
        refine ⟨_, rfl, .inl ⟨rfl, _, SqL.of I6.at_⟩, (by show 3 ≤ sizeLine; decide), fun l hl => ?_⟩
        have sl := same_new hl (.lst [.str "p", .str "pp", .str "go"])
        refine ⟨_, rfl, l, _, _, _, rfl, rfl, SqL.of upd_same, hat, _, rfl, (by show 2 ≤ sizeLine; decide), fun t ht => ?_⟩
        have st := same_new ht (.tup [.str y, .ref q2])
        have I7 := I6.go (sl.trans st)
        refine ⟨lp, pv, .ref t, rfl, rfl, I7.at_, szl (by omega), ?_⟩
        have I8 := I7.snoc (t := t) (l := q2) (xs := xs) nlpc hy upd_same (Same.wo (sl.trans st) _ _ (wo_at hq2 q2lp)) (hr6.mono (Same.wo (sl.trans st))) hg hd (by omega)
        exact ⟨_, rfl, _, rfl, _, _, rfl, rfl, _, _, _, _, _, _, rfl, I8⟩
    · rintro σ H' ⟨at_, x5, x6, x7, ps, pv, rfl, I⟩
      refine ⟨Nat.le_refl _, ?_⟩
      have pvl := I.vs.len
      have n3 : (r % 4).toNat ≤ 3 := by omega
      have psl : ps.length = (r % 4).toNat := by
        have := congrArg List.length I.nm
        rw [List.length_map, List.length_take, show nms.length = 3 from rfl] at this
        omega
      obtain ⟨l4, e4, l4n⟩ := cut_il cells (some at_) none
      refine ⟨_, rfl, _, rfl, _, rfl, _, rfl, _, rfl, c, _, rfl, SqL.of (I.same _ _ hc2), fun m4 hm4 => ?_⟩
      rw [e4]
      have s5 := same_new hm4 (.lst (il l4))
      have I3 := I.go s5
      have hm4' : (upd H' m4 (.lst (il l4))) m4 = some (.lst (il l4)) := upd_same
      show (fun H2 => _) (upd H' m4 (.lst (il l4)))
      generalize upd H' m4 (.lst (il l4)) = H4 at I3 hm4' ⊢
      refine ⟨_, rfl, _, rfl, lp, rfl, ⟨_, SqL.of I3.at_⟩, fun en hen => ?_⟩
      refine lc_list (K := K) (a := lp) (xs := pv) (fun j H' => Same H4 H' ∧ H' en = some (.lst (((ps.map (·.1)).take j).map V.str))) ⟨same_new hen _, upd_same⟩ (fun j H' _ h => SqL.of (h.1 _ _ I3.at_)) (fun j x H' hx h => ?_) (fun H5 h => ?_)
      · obtain ⟨s, h1⟩ := h
        obtain ⟨y, ry, p, l, xs, hp, rfl, hp2, _⟩ := (I3.vs.mono wo_sub).at_ hx
        have hy : (ps.map (·.1))[j]? = some y := by rw [List.getElem?_map, hp]; rfl
        refine ⟨rfl, _, rfl, p, _, _, _, rfl, rfl, SqT.of (s _ _ hp2), rfl, _, h1, szl (by rw [List.length_map, List.length_take, List.length_map]; omega), same_upd s hen _, ?_⟩
        rw [upd_same, take_snoc hy, List.map_append]
        rfl
      · obtain ⟨s7, h7⟩ := h
        have I5 := I3.go s7
        rw [pvl, show ps.length = (ps.map (·.1)).length from (List.length_map _).symm, List.take_length] at h7
        refine ⟨m4, lv, en, D, ps.map (·.1), dv, l4, [lp], rfl, s7 _ _ hm4', I5.same _ _ hlv2, hD2.mono I5.same, hv, I5.ns, h7, by omega, fun e he => ⟨pv, by rw [List.mem_singleton.mp he]; exact I5.at_⟩, fun q2 xs r' H6 s8 nq2 hq2 hr6 hg hd hc6 => ⟨(by show 3 ≤ sizeLine; decide), fun t ht => ?_⟩⟩
        have st := same_new ht (.tup [.ref lv, .ref lp, .ref q2])
        have I6 := (I5.go s8).go st
        refine q _ ⟨D, ps, r'⟩ _ (sH2.trans I6.same) ⟨lv, lp, q2, dv, pv, xs, ⟨t, rfl, upd_same⟩, I6.same _ _ hlv2, hD2.mono I6.same, I6.at_, I6.vs.mono wo_sub, st _ _ hq2, (hr6.mono wo_sub).mono st⟩ ?_
        refine ⟨hv.nd, hv.len, hv.sz, ?_, fun p hp => ?_, I6.tab, ?_, ⟨by show deep r' ≤ 8; omega, fun p hp => by have := (I6.ok p hp).1; omega⟩, by show ps.length ≤ 3; omega, ⟨by show count r' ≤ 1000; omega, fun p hp => by have := (I6.ok p hp).2; omega⟩, hv.good⟩
        · show (ps.map (·.1)).Nodup
          rw [I6.nm]
          exact nms_nd.sublist (List.take_sublist _ _)
        · intro z
          have : p.1 ∈ ps.map (·.1) := List.mem_map.mpr ⟨p, hp, rfl⟩
          rcases I6.ns.nm _ this with h | h | h <;> rw [z] at h <;> exact absurd h (by decide +kernel)
        · refine RowsG.ok (ns := ps.map (·.1)) (fun u hu => ?_) hg
          obtain ⟨q, h1, h2⟩ := tab_has (n := 0) (i := 0) hu
          exact ⟨q, h1, by show q.ix < ps.length; omega⟩
def spGiven (K : PySem.W.Frag) : Sp := fun vs H Q _ => ∃ (a : Addr) (ns : List Int) (m : Int), vs = [.ref a, .int m] ∧ SqL K H a (il ns) ∧ 0 ≤ m ∧ m ≤ 9 ∧ ∀ p l H', Same H H' → H' p = some (.lst (il l)) → (∀ v ∈ l, In16 v) → l.length ≤ 9 → Q (.ref p) H'
theorem ok_l_given (T0 : Top K mg C) {k : Nat} (c_l_mixed : Cal P w K mg base "_law_mixed" ["_law_number", "_law_k"] k spMixed) (c_l_cell_at : Cal P w K mg base "_law_cell_at" ["_law_script", "_law_k"] k (spCellAt K)) :
    Cal P w K mg base "_law_given" ["_law_script", "_law_many"] (k + 1) (spGiven K) := by
  have T := T0
  refine T.d_l_given.ok sc_l_given (fun _ _ _ _ _ _ us hl => match us, hl with | [_, _], _ => rfl) (fun vs H Q E h => ?_) (fun f cdv A outer s0 H vs Q E hr h => ?_)
  · obtain ⟨a, ns, m, rfl, _⟩ := h
    rfl
  · obtain ⟨a, ns, m, rfl, ha, m0, m9, q⟩ := h
    refine ⟨_, (pss_cons (ps_set (i := 2) sc_l_given.nd rfl (Or.inl rfl) (pe_lst pa_nil))
      (pss_cons (ps_for PassesOwn.never rfl (pi_range1 rfl T.range_ (pa_cons (pv 1) pa_nil)) (pg_name (i := 3) sc_l_given.nd rfl (Or.inl rfl)) (pss_cons (ps_set (i := 4) sc_l_given.nd rfl (Or.inl rfl) (pe_cl c_l_mixed hr rfl (pa_cons (pe_cl c_l_cell_at hr rfl (pa_cons (pv 0) (pa_cons (pe_op op_mod (pv 3) pe_int) pa_nil))) (pa_cons (pe_op op_add pe_int (pv 3)) pa_nil))))
      (pss_one (ps_expr (pe_bm PySem.F.plainAttrs_list PySem.F.slot_list_append PySem.F.type_list_append mt_append (pv 2) (pa_cons (pe_ix ix_list (pe_lst (pa_cons (pe_op op_mod (pe_op op_fdiv (pv 4) pe_int) pe_int) (pa_cons pe_int (pa_cons pe_int (pa_cons pe_int (pa_cons (pe_op op_mod (pe_op op_fdiv (pv 4) pe_int) pe_int) (pa_cons pe_int (pa_cons pe_int (pa_cons (pe_op op_mod (pe_op op_fdiv (pv 4) pe_int) pe_int) pa_nil))))))))) (pe_op op_mod (pv 4) pe_int) (fun _ _ => rfl)) pa_nil))))))
      (pss_one (ps_ret (pv 2))))), ?_⟩
    refine ⟨(by show 0 ≤ sizeLine; decide), fun p hp => ?_⟩
    refine ⟨_, rfl, m, rfl, by omega, by omega, for_any (n := m.toNat)
      (fun i σ H' => ∃ x3 x4, ∃ l : List Int, σ = [some (.ref a), some (.int m), some (.ref p), x3, x4] ∧ Same H H' ∧ H' p = some (.lst (il l)) ∧ l.length = i ∧ ∀ v ∈ l, In16 v) ⟨none, none, [], rfl, same_new hp _, upd_same, rfl, fun v hv => nomatch hv⟩ ?_ ?_⟩
    · rintro i σ H' hi ⟨x3, x4, l, rfl, s, hpl, hl, hin⟩
      refine ⟨hi, ?_⟩
      rintro v H'' ⟨rfl, rfl⟩
      refine ⟨_, rfl, _, rfl, _, _, rfl, rfl, (by show (0 : Int) < 7; decide), a, ns, _, rfl, sqL_same s ha, Int.emod_nonneg _ (by decide), fun z => ?_⟩
      refine ⟨_, rfl, _, _, rfl, rfl, _, _, rfl, fun r r0 r1 => ?_⟩
      have d8 : (0 : Int) < 8 := by decide
      have c8 : CDiv r 8 := ⟨by decide, by decide⟩
      refine ⟨_, rfl, .inl ⟨rfl, _, SqL.of hpl⟩, _, rfl, _, _, rfl, rfl, c8, _, _, rfl, rfl, (by show (0 : Int) < 65536; decide), _, rfl, _, _, rfl, rfl, c8, _, _, rfl, rfl, (by show (0 : Int) < 9; decide), _, rfl, _, _, rfl, rfl, c8, _, _, rfl, rfl, (by show (0 : Int) < 100; decide), (by show 8 ≤ sizeLine; decide), fun o ho => ?_⟩
      obtain ⟨y, hy, hat⟩ : ∃ y : Int, In16 y ∧ atI [V.int (r / 8 % 65536), V.int 0, V.int 65535, V.int 32768, V.int (r / 8 % 9), V.int 32767, V.int 1, V.int (r / 8 % 100)] (r % 8) = some (.int y) := by
        have r80 := Int.emod_nonneg r (show (8 : Int) ≠ 0 by decide)
        have r88 := Int.emod_lt_of_pos r d8
        generalize r % 8 = j at r80 r88 ⊢
        have hm : j = 0 ∨ j = 1 ∨ j = 2 ∨ j = 3 ∨ j = 4 ∨ j = 5 ∨ j = 6 ∨ j = 7 := by omega
        rcases hm with rfl | rfl | rfl | rfl | rfl | rfl | rfl | rfl
        · exact ⟨_, ⟨by omega, by omega⟩, rfl⟩
        · exact ⟨_, ⟨by omega, by omega⟩, rfl⟩
        · exact ⟨_, ⟨by omega, by omega⟩, rfl⟩
        · exact ⟨_, ⟨by omega, by omega⟩, rfl⟩
        · exact ⟨_, ⟨by omega, by omega⟩, rfl⟩
        · exact ⟨_, ⟨by omega, by omega⟩, rfl⟩
        · exact ⟨_, ⟨by omega, by omega⟩, rfl⟩
        · exact ⟨_, ⟨by omega, by omega⟩, rfl⟩
      have so := same_new ho (.lst [V.int (r / 8 % 65536), V.int 0, V.int 65535, V.int 32768, V.int (r / 8 % 9), V.int 32767, V.int 1, V.int (r / 8 % 100)])
      refine ⟨_, rfl, _, _, rfl, rfl, d8, o, _, _, _, rfl, rfl, SqL.of upd_same, hat, p, _, .int y, rfl, rfl, so _ _ hpl, szl (by rw [List.length_map]; omega), ?_⟩
      refine ⟨_, _, l ++ [y], rfl, same_upd (s.trans so) hp _, ?_, by rw [List.length_append, List.length_singleton]; omega, fun v hv => ?_⟩
      · rw [upd_same]
        show _ = some (HO.lst ((l ++ [y]).map V.int))
        rw [List.map_append]
        rfl
      · rcases List.mem_append.mp hv with z | z
        · exact hin v z
        · rw [List.mem_singleton.mp z]
          exact hy
    · rintro σ H' ⟨x3, x4, l, rfl, s, hpl, hl, hin⟩
      exact ⟨Nat.le_refl _, _, rfl, q p l H' s hpl hin (by omega)⟩
end
end GT
/-! signed, item_of, joined, worth -/
namespace GT
open PySem PySem.Spec PyProof.Rows L2
theorem sc_signed : FnScope ["number"] ["number"] (defScope s_signed) := ⟨rfl, rfl, rfl, by decide +kernel, rfl, by decide +kernel, by decide +kernel⟩
theorem sc_item_of : FnScope ["items", "place"] ["items", "place"] (defScope s_item_of) := ⟨rfl, rfl, rfl, by decide +kernel, rfl, by decide +kernel, by decide +kernel⟩
theorem sc_joined : FnScope ["op", "one", "other"] ["op", "one", "other"] (defScope s_joined) := ⟨rfl, rfl, rfl, by decide +kernel, rfl, by decide +kernel, by decide +kernel⟩
theorem sc_worth : FnScope ["cells", "expr", "found", "part"] ["cells", "expr"] (defScope s_worth) := ⟨rfl, rfl, rfl, by decide +kernel, rfl, by decide +kernel, by decide +kernel⟩
section
variable {P : Program} {w : World} {K : PySem.W.Frag} {mg : Str → Option Value} {base : Heap} {C : Addr}
def spSigned : Sp := fun vs H Q _ => ∃ i : Int, vs = [.int i] ∧ Q (.int (signed i)) H
theorem ok_signed (T : Top K mg C) (k : Nat) : Cal P w K mg base "signed" ["number"] (k + 1) spSigned := by
  obtain ⟨tR, gROUND⟩ := T.ROUND_
  obtain ⟨tH, gHALF⟩ := T.HALF_
  refine T.d_signed.ok sc_signed (fun _ _ _ _ _ _ us hl => match us, hl with | [_], _ => rfl) (fun vs H Q E h => ?_) (fun f cdv A outer s H vs Q E hr h => ?_)
  · obtain ⟨i, rfl, _⟩ := h
    rfl
  · obtain ⟨i, rfl, q⟩ := h
    refine ⟨_, (pss_cons (ps_if (pt_cmpR op_lt (pv 0) (pe_glob (v := .int 32768) rfl gHALF ⟨_, rfl⟩) (nomark _)) (pss_one (ps_ret (pv 0))) pss_nil)
      (pss_one (ps_ret (pe_op op_sub (pv 0) (pe_glob (v := .int 65536) rfl gROUND ⟨_, rfl⟩))))), ?_⟩
    refine ⟨_, rfl, _, _, rfl, rfl, _, rfl, ifD (fun c => ?_) (fun c => ?_)⟩
    · refine ⟨_, rfl, ?_⟩
      have e : signed i = i := if_pos c
      rw [e] at q
      exact q
    · refine ⟨_, rfl, _, _, rfl, rfl, ?_⟩
      have e : signed i = i - 65536 := if_neg c
      rw [e] at q
      exact q
def spItem : Sp := fun vs H Q _ => ∃ (a : Addr) (l : List Int) (o : Option Int), vs = [.ref a, oV o] ∧ H a = some (.lst (il l)) ∧ l.length ≤ 99 ∧ (∀ i, o = some i → In16 i) ∧ Q (oV (o.bind (itemOf l))) H
theorem atI_il {l : List Int} {i v : Int} (h0 : 0 ≤ i) (h : l[i.toNat]? = some v) : atI (il l) i = some (.int v) := by
  have e : i = ((i.toNat : Nat) : Int) := by omega
  rw [e]
  exact atI_nat (by rw [List.getElem?_map]; simp [h])
theorem ok_item_of (T : Top K mg C) {k : Nat} (c_signed : Cal P w K mg base "signed" ["number"] k spSigned) : Cal P w K mg base "item_of" ["items", "place"] (k + 1) spItem := by
  refine T.d_item_of.ok sc_item_of (fun _ _ _ _ _ _ us hl => match us, hl with | [_, _], _ => rfl) (fun vs H Q E h => ?_) (fun f cdv A outer s H vs Q E hr h => ?_)
  · obtain ⟨a, l, o, rfl, _⟩ := h
    rfl
  · obtain ⟨a, l, o, rfl, ha, hl, ho, q⟩ := h
    refine ⟨_, (pss_cons (ps_if (PW.pt (pw_or (pt_cmpR op_isN (pv 1) pe_non (nomark _)) (pw_or1 (pt_not (pt_chain op_le op_lt pe_int (pe_cl c_signed hr rfl (pa_cons (pv 1) pa_nil)) (pe_callB call_len_seq rfl T.len_ (by decide +kernel) (pa_cons (pv 0) pa_nil))))))) (pss_one (ps_ret pe_non)) pss_nil)
      (pss_one (ps_ret (pe_ix ix_list (pv 0) (pv 1) (fun _ _ => rfl))))), ?_⟩
    have hlen : (il l).length = l.length := List.length_map _
    cases o with
    | none =>
      refine ⟨_, rfl, rfl, _, rfl, ifDT rfl ?_⟩
      exact q
    | some i =>
      obtain ⟨h0, h1⟩ := ho i rfl
      refine ⟨_, rfl, rfl, _, rfl, ifDF (fun z => nomatch z) ?_⟩
      refine ⟨_, rfl, i, rfl, _, _, rfl, rfl, _, rfl, ?_⟩
      have out : ¬ i < (l.length : Int) → Q .non H := fun n => by
        have e : ((some i).bind (itemOf l)) = none := List.getElem?_eq_none (by omega)
        rw [e] at q
        exact q
      refine ifD (fun c => ?_) (fun c => ?_)
      · refine ⟨_, rfl, a, _, rfl, .inl (SqL.of ha), _, _, rfl, rfl, _, rfl, ?_⟩
        by_cases c2 : signed i < (((il l).length : Nat) : Int)
        · have ei : signed i = i := by
            unfold signed at c ⊢
            split
            · rfl
            · rename_i n
              rw [if_neg n] at c
              omega
          rw [ei, hlen] at c2
          rw [decide_eq_true (by rw [ei, hlen]; exact c2)]
          refine iteF ?_
          have hlt : i.toNat < l.length := by omega
          have e : ((some i).bind (itemOf l)) = some l[i.toNat] := List.getElem?_eq_getElem hlt
          rw [e] at q
          refine ⟨_, rfl, _, rfl, a, _, i, _, rfl, rfl, SqL.of ha, atI_il h0 (List.getElem?_eq_getElem hlt), q⟩
        · rw [decide_eq_false c2]
          refine iteT ?_
          refine out fun n => c2 ?_
          have e : signed i = i := if_pos (by omega)
          rw [e, hlen]
          exact n
      · refine ⟨false, rfl, ?_⟩
        refine iteT ?_
        refine out fun n => c ?_
        have e : signed i = i := if_pos (by omega)
        rw [e]
        exact h0
theorem bitAnd_nat {a b : Int} (ha : In16 a) (hb : In16 b) : Builtin.bitAnd a b = ((a.toNat &&& b.toNat : Nat) : Int) := by
  obtain ⟨x, rfl⟩ : ∃ x : Nat, a = (x : Int) := ⟨a.toNat, by have := ha.1; omega⟩
  obtain ⟨y, rfl⟩ : ∃ y : Nat, b = (y : Int) := ⟨b.toNat, by have := hb.1; omega⟩
  first | rfl | simp [Builtin.bitAnd]
def spJoined : Sp := fun vs H Q _ => ∃ (o : Op) (a b : Int), vs = [.str (opS o), .int a, .int b] ∧ In16 a ∧ In16 b ∧ Q (.int (joined o a b)) H
theorem ok_joined (T : Top K mg C) {k : Nat} (c_signed : Cal P w K mg base "signed" ["number"] k spSigned) : Cal P w K mg base "joined" ["op", "one", "other"] (k + 1) spJoined := by
  obtain ⟨tR, gROUND⟩ := T.ROUND_
  refine T.d_joined.ok sc_joined (fun _ _ _ _ _ _ us hl => match us, hl with | [_, _, _], _ => rfl) (fun vs H Q E h => ?_) (fun f cdv A outer s H vs Q E hr h => ?_)
  · obtain ⟨o, a, b, rfl, _⟩ := h
    rfl
  · obtain ⟨o, a, b, rfl, ha, hb, q⟩ := h
    refine ⟨_, (pss_cons (ps_if (pt_cmpR op_eq (pv 0) pe_str (nomark _)) (pss_one (ps_ret (pe_op op_mod (pe_op op_add (pv 1) (pv 2)) (pe_glob (v := .int 65536) rfl gROUND ⟨_, rfl⟩)))) pss_nil)
      (pss_cons (ps_if (pt_cmpR op_eq (pv 0) pe_str (nomark _)) (pss_one (ps_ret (pe_op op_mod (pe_op op_sub (pv 1) (pv 2)) (pe_glob (v := .int 65536) rfl gROUND ⟨_, rfl⟩)))) pss_nil)
      (pss_cons (ps_if (pt_cmpR op_eq (pv 0) pe_str (nomark _)) (pss_one (ps_ret (pe_op op_and (pv 1) (pv 2)))) pss_nil)
      (pss_cons (ps_if (pt_cmpR op_eq (pv 0) pe_str (nomark _)) (pss_one (ps_ret (pe_callTy call_int1 rfl T.int_ (by decide +kernel) (pa_cons (pe_cmpR op_lt (pe_cl c_signed hr rfl (pa_cons (pv 1) pa_nil)) (pe_cl c_signed hr rfl (pa_cons (pv 2) pa_nil)) (nomark _)) pa_nil)))) pss_nil)
      (pss_one (ps_ret (pe_callTy call_int1 rfl T.int_ (by decide +kernel) (pa_cons (pe_cmpR op_eq (pv 1) (pv 2) (nomark _)) pa_nil)))))))), ?_⟩
    cases o with
    | add =>
      refine ⟨_, rfl, rfl, _, rfl, ifDT rfl ?_⟩
      exact ⟨_, rfl, _, rfl, _, _, rfl, rfl, _, _, rfl, rfl, (by show (0 : Int) < 65536; decide), q⟩
    | sub =>
      refine ⟨_, rfl, rfl, _, rfl, ifDF (str_ne (by decide +kernel)) ?_⟩
      refine ⟨_, rfl, rfl, _, rfl, ifDT rfl ?_⟩
      exact ⟨_, rfl, _, rfl, _, _, rfl, rfl, _, _, rfl, rfl, (by show (0 : Int) < 65536; decide), q⟩
    | and =>
      refine ⟨_, rfl, rfl, _, rfl, ifDF (str_ne (by decide +kernel)) ?_⟩
      refine ⟨_, rfl, rfl, _, rfl, ifDF (str_ne (by decide +kernel)) ?_⟩
      refine ⟨_, rfl, rfl, _, rfl, ifDT rfl ?_⟩
      refine ⟨_, rfl, _, rfl, _, _, rfl, rfl, ?_⟩
      have q2 : Q (.int (Builtin.bitAnd a b)) H := by rw [bitAnd_nat ha hb]; exact q
      exact q2
    | lt =>
      refine ⟨_, rfl, rfl, _, rfl, ifDF (str_ne (by decide +kernel)) ?_⟩
      refine ⟨_, rfl, rfl, _, rfl, ifDF (str_ne (by decide +kernel)) ?_⟩
      refine ⟨_, rfl, rfl, _, rfl, ifDF (str_ne (by decide +kernel)) ?_⟩
      refine ⟨_, rfl, rfl, _, rfl, ifDT rfl ?_⟩
      refine ⟨_, rfl, _, rfl, _, rfl, _, rfl, _, _, rfl, rfl, .inr ⟨_, rfl, ?_⟩⟩
      have e : (if decide (signed a < signed b) = true then (1 : Int) else 0) = joined .lt a b := by
        show _ = if signed a < signed b then (1 : Int) else 0
        by_cases c : signed a < signed b <;> simp [c]
      rw [e]
      exact q
    | eq =>
      refine ⟨_, rfl, rfl, _, rfl, ifDF (str_ne (by decide +kernel)) ?_⟩
      refine ⟨_, rfl, rfl, _, rfl, ifDF (str_ne (by decide +kernel)) ?_⟩
      refine ⟨_, rfl, rfl, _, rfl, ifDF (str_ne (by decide +kernel)) ?_⟩
      refine ⟨_, rfl, rfl, _, rfl, ifDF (str_ne (by decide +kernel)) ?_⟩
      refine ⟨_, rfl, _, rfl, rfl, .inr ⟨_, rfl, ?_⟩⟩
      have e : (if decide (V.int a = V.int b) = true then (1 : Int) else 0) = joined .eq a b := by
        show _ = if a = b then (1 : Int) else 0
        by_cases c : a = b
        · rw [if_pos (decide_eq_true (congrArg V.int c)), if_pos c]
        · rw [if_neg (by rw [decide_eq_false (int_ne c)]; exact Bool.false_ne_true), if_neg c]
      rw [e]
      exact q
def spWorth (n : Nat) : Sp := fun vs H Q _ => ∃ (c : Addr) (ve : V) (cs : Cells) (e : Ex) (G : Env) (fl : Bool), vs = [.ref c, ve] ∧ CsV H c cs ∧ ExV H e ve ∧ CsOk G cs ∧ WT G fl e ∧ hgt e < n ∧ ∀ H', Same H H' → Q (oV (worth cs e)) H'
/-- a comprehension over reversed(a tuple) -/
theorem lc_revT {a : Addr} {xs : List V} {g : TG} {tt : TT} {te : TE} {vs : List Nat} {σ : L2.St} {H1 : Hp} {D : Addr} {Qd : Hp → Prop} (Pv : Nat → Hp → Prop) (h0 : Pv 0 (upd H1 D (.lst [])))
    (hl : ∀ i H, Pv i H → SqT K H a xs)
    (hs : ∀ i x H, i < xs.length → xs[xs.length - 1 - i]? = some x → Pv i H → g x (wipe σ vs) H fun σ2 H2 => wipe σ2 vs = wipe σ vs ∧ tt σ2 H2 fun b H3 =>
      if b = true then te σ2 H3 fun y H4 => ∃ acc, H4 D = some (.lst acc) ∧ acc.length < sizeLine ∧ Pv (i + 1) (upd H4 D (.lst (acc ++ [y]))) else Pv (i + 1) H3)
    (hd : ∀ H, Pv xs.length H → Qd H) :
    ∃ W : Nat → Nat → Hp → Prop, (∃ m, W 0 m (upd H1 D (.lst []))) ∧ ∀ i m H, W i m H → ((RT.ItvT K a xs.length).stop i H ∧ Qd H) ∨
      ((RT.ItvT K a xs.length).go i H ∧ ∃ Nx : Hp → Prop, (∀ H', Nx H' → ∃ m', m' < m ∧ W (i + 1) m' H') ∧ ∀ x H', (RT.ItvT K a xs.length).yld i H x H' → g x (wipe σ vs) H' fun σ2 H2 => wipe σ2 vs = wipe σ vs ∧ tt σ2 H2 fun b H3 =>
        if b = true then te σ2 H3 fun y H4 => ∃ acc, H4 D = some (.lst acc) ∧ acc.length < sizeLine ∧ Nx (upd H4 D (.lst (acc ++ [y]))) else Nx H3) := by
  refine ⟨fun i m H => i ≤ xs.length ∧ m + i = xs.length ∧ Pv i H, ⟨xs.length, Nat.zero_le _, rfl, h0⟩, ?_⟩
  rintro i m H ⟨hi, hm, p⟩
  rcases Nat.lt_or_ge i xs.length with hlt | hge
  · have hj : xs.length - 1 - i < xs.length := by omega
    have hx := List.getElem?_eq_getElem hj
    refine Or.inr ⟨⟨hlt, xs, _, hl i H p, hx⟩, fun H' => Pv (i + 1) H', fun H' p' => ⟨m - 1, by omega, hlt, by omega, p'⟩, fun v H' y => ?_⟩
    obtain ⟨rfl, hy⟩ := y
    exact hs i v _ hlt (hy xs (hl i _ p)) p
  · have e : i = xs.length := by omega
    exact Or.inl ⟨hge, hd H (e ▸ p)⟩
/-- what the list of parts' values holds so far -/
theorem inV_o (o : Option Int) (xs : List V) : inV .non (oV o :: xs) = (o.isNone || inV .non xs) := by cases o <;> rfl
theorem ok_worth (T : Top K mg C) {k : Nat} (c_item_of : ∀ n : Nat, Cal P w K mg base "item_of" ["items", "place"] (k + n) spItem) (c_joined : ∀ n : Nat, Cal P w K mg base "joined" ["op", "one", "other"] (k + n) spJoined) :
    ∀ n : Nat, Cal P w K mg base "worth" ["cells", "expr"] (k + n) (spWorth n)
  | 0 => T.d_worth.no (fun _ _ _ _ _ _ us hl => match us, hl with | [_, _], _ => rfl) fun vs H Q E h => by obtain ⟨c, ve, cs, e, G, fl, _, _, _, _, _, h, _⟩ := h; omega
  | n + 1 => by
    have c_worth := ok_worth T c_item_of c_joined n
    have c_item_of := c_item_of n
    have c_joined := c_joined n
    refine T.d_worth.ok sc_worth (fun _ _ _ _ _ _ us hl => match us, hl with | [_, _], _ => rfl) (fun vs H Q E h => ?_) (fun f cdv A outer s H vs Q E hr h => ?_)
    · obtain ⟨c, ve, cs, e, G, fl, rfl, _⟩ := h
      rfl
    · obtain ⟨c, ve, cs, e, G, fl, rfl, hc, he, ok, wt, hh, q⟩ := h
      refine ⟨_, (pss_cons (ps_if (PW.pt (pw_or (pt_cmpR op_eq (pe_ix ix_tup (pv 1) pe_int (fun _ _ => rfl)) pe_str (nomark _)) (pw_or1 (pt_cmpR op_eq (pe_ix ix_tup (pv 1) pe_int (fun _ _ => rfl)) pe_str (nomark _))))) (pss_one (ps_ret (pe_callTy call_int1 rfl T.int_ (by decide +kernel) (pa_cons (pe_ix ix_tup (pv 1) pe_int (fun _ _ => rfl)) pa_nil)))) pss_nil)
      (pss_cons (ps_if (pt_cmpR op_eq (pe_ix ix_tup (pv 1) pe_int (fun _ _ => rfl)) pe_str (nomark _)) (pss_one (ps_ret (pe_dget (hu_of hr) (pv 0) (pe_ix ix_tup (pv 1) pe_int (fun _ _ => rfl)) (fun _ _ => rfl)))) pss_nil)
      (pss_cons (ps_if (pt_cmpR op_eq (pe_ix ix_tup (pv 1) pe_int (fun _ _ => rfl)) pe_str (nomark _)) (pss_one (ps_ret (pe_cl c_item_of hr rfl (pa_cons (pe_dget (hu_of hr) (pv 0) (pe_ix ix_tup (pv 1) pe_int (fun _ _ => rfl)) (fun _ _ => rfl)) (pa_cons (pe_cl c_worth hr rfl (pa_cons (pv 0) (pa_cons (pe_ix ix_tup (pv 1) pe_int (fun _ _ => rfl)) pa_nil))) pa_nil))))) pss_nil)
      (pss_cons (ps_setLc (i := 2) (own := [("part", 3)]) rfl sc_worth.nd rfl rfl (sw_true rfl rfl rfl (by decide +kernel)) (RT.pi_revA rfl T.reversed_ (pe_slice sl_tup (pv 1) (po_some pe_int) po_none)) (blkOk_by (own := [("part", 3)]) (N := ["cells", "expr", "found", "part"]) (sc := defScope s_worth) (by decide +kernel)) (fun _ _ _ _ _ => (pg_name (i := 3) sc_worth.nd rfl (Or.inl rfl))) (fun _ _ _ _ _ => pts_nil) (fun _ _ _ _ _ => (pe_cl c_worth hr rfl (pa_cons (pv 0) (pa_cons (pv 3) pa_nil)))))
      (pss_cons (ps_if (pt_cmpR op_in_seq pe_non (pv 2) rfl) (pss_one (ps_ret pe_non)) pss_nil)
      (pss_cons (ps_if (pt_cmpR op_eq (pe_ix ix_tup (pv 1) pe_int (fun _ _ => rfl)) pe_str (nomark _)) (pss_one (ps_ret (pe_op op_sub pe_int (pe_ix ix_list (pv 2) pe_int (fun _ _ => rfl))))) pss_nil)
      (pss_one (ps_ret (pe_cl c_joined hr rfl (pa_cons (pe_ix ix_tup (pv 1) pe_int (fun _ _ => rfl)) (pa_cons (pe_ix ix_list (pv 2) pe_int (fun _ _ => rfl)) (pa_cons (pe_ix ix_list (pv 2) pe_int (fun _ _ => rfl)) pa_nil)))))))))))), ?_⟩
      cases e with
      | num i =>
        obtain ⟨p, rfl, hp⟩ := he
        refine ⟨_, rfl, p, _, _, _, rfl, rfl, SqT.of hp, rfl, rfl, _, rfl, ?_⟩
        refine iteT ?_
        refine iteT ?_
        exact ⟨_, rfl, p, _, _, _, rfl, rfl, SqT.of hp, rfl, .inl ⟨_, rfl, q H (Same.refl H)⟩⟩
      | flag b =>
        obtain ⟨p, rfl, hp⟩ := he
        refine ⟨_, rfl, p, _, _, _, rfl, rfl, SqT.of hp, rfl, rfl, _, rfl, ifDF (str_ne (by decide +kernel)) ?_⟩
        refine ⟨_, rfl, p, _, _, _, rfl, rfl, SqT.of hp, rfl, rfl, _, rfl, ?_⟩
        refine iteT ?_
        exact ⟨_, rfl, p, _, _, _, rfl, rfl, SqT.of hp, rfl, .inr ⟨_, rfl, q H (Same.refl H)⟩⟩
      | name x =>
        obtain ⟨p, rfl, hp⟩ := he
        refine ⟨_, rfl, p, _, _, _, rfl, rfl, SqT.of hp, rfl, rfl, _, rfl, ifDF (str_ne (by decide +kernel)) ?_⟩
        refine ⟨_, rfl, p, _, _, _, rfl, rfl, SqT.of hp, rfl, rfl, _, rfl, ifDF (str_ne (by decide +kernel)) ?_⟩
        refine ⟨_, rfl, p, _, _, _, rfl, rfl, SqT.of hp, rfl, rfl, _, rfl, ifDT rfl ?_⟩
        have hk : ∃ kk n, get cs x = some (.one n) ∧ kd G x = some kk := by
          cases fl with
          | false =>
            obtain ⟨d, h1, h2⟩ := cs_get ok (show kd G x = some .num from wt)
            cases d with
            | one n => exact ⟨_, n, h1, wt⟩
            | many l => exact h2.elim
          | true =>
            obtain ⟨d, h1, h2⟩ := cs_get ok (show kd G x = some .flag from wt)
            cases d with
            | one n => exact ⟨_, n, h1, wt⟩
            | many l => exact h2.elim
        obtain ⟨kk, n, hg, _⟩ := hk
        obtain ⟨v, h1, h2⟩ := cs_get_v hc hg
        refine ⟨_, rfl, _, rfl, p, _, _, _, rfl, rfl, SqT.of hp, rfl, c, v, rfl, h1, ?_⟩
        have q2 := q H (Same.refl H)
        have e : worth cs (.name x) = some n := by simp only [worth, hg]
        rw [e] at q2
        rw [show v = .int n from h2]
        exact q2
      | item x e =>
        obtain ⟨u, ⟨p, rfl, hp⟩, he2⟩ := he
        cases fl with
        | true => exact wt.elim
        | false =>
          refine ⟨_, rfl, p, _, _, _, rfl, rfl, SqT.of hp, rfl, rfl, _, rfl, ifDF (str_ne (by decide +kernel)) ?_⟩
          refine ⟨_, rfl, p, _, _, _, rfl, rfl, SqT.of hp, rfl, rfl, _, rfl, ifDF (str_ne (by decide +kernel)) ?_⟩
          refine ⟨_, rfl, p, _, _, _, rfl, rfl, SqT.of hp, rfl, rfl, _, rfl, ifDF (str_ne (by decide +kernel)) ?_⟩
          refine ⟨_, rfl, p, _, _, _, rfl, rfl, SqT.of hp, rfl, rfl, _, rfl, ifDT rfl ?_⟩
          obtain ⟨d, hg, hd⟩ := cs_get ok wt.1
          cases d with
          | one n => exact hd.elim
          | many l =>
            obtain ⟨v, h1, ⟨b, rfl, hb⟩⟩ := cs_get_v hc hg
            refine ⟨_, rfl, _, rfl, p, _, _, _, rfl, rfl, SqT.of hp, rfl, c, _, rfl, h1, ?_⟩
            have hh2 : hgt e < n := by
              have : hgt e + 1 < n + 1 := hh
              omega
            refine ⟨_, rfl, _, rfl, p, _, _, _, rfl, rfl, SqT.of hp, rfl, c, _, cs, e, G, false, rfl, hc, he2, ok, wt.2, hh2, fun H' s => ?_⟩
            refine ⟨b, l, worth cs e, rfl, s _ _ hb, hd.1, fun i hi => (worth_ok ok wt.2 hi).1, ?_⟩
            have q2 := q H' s
            have e2 : worth cs (.item x e) = (worth cs e).bind (itemOf l) := by
              simp only [worth, hg]
              cases worth cs e <;> rfl
            rw [e2] at q2
            exact q2
      | op o a b =>
        obtain ⟨u, w2, ⟨p, rfl, hp⟩, ha, hb⟩ := he
        have hs1 : opS o ≠ "num" ∧ opS o ≠ "flag" ∧ opS o ≠ "name" ∧ opS o ≠ "at" ∧ opS o ≠ "not" := by cases o <;> exact ⟨by decide +kernel, by decide +kernel, by decide +kernel, by decide +kernel, by decide +kernel⟩
        obtain ⟨n1, n2, n3, n4, n5⟩ := hs1
        refine ⟨_, rfl, p, _, _, _, rfl, rfl, SqT.of hp, rfl, rfl, _, rfl, ifDF (str_ne n1) ?_⟩
        refine ⟨_, rfl, p, _, _, _, rfl, rfl, SqT.of hp, rfl, rfl, _, rfl, ifDF (str_ne n2) ?_⟩
        refine ⟨_, rfl, p, _, _, _, rfl, rfl, SqT.of hp, rfl, rfl, _, rfl, ifDF (str_ne n3) ?_⟩
        refine ⟨_, rfl, p, _, _, _, rfl, rfl, SqT.of hp, rfl, rfl, _, rfl, ifDF (str_ne n4) ?_⟩
        have wts := wt.two
        have hh1 : hgt a < n ∧ hgt b < n := by
          have : max (hgt a) (hgt b) + 1 < n + 1 := hh
          omega
        refine ⟨_, rfl, _, rfl, p, _, rfl, SqT.of hp, (fun z => nomatch z.1), fun r hr2 => ?_⟩
        refine ⟨r, [u, w2], rfl, .inr ⟨SqT.of upd_same, fun D hD => ?_⟩⟩
        refine lc_revT (K := K) (a := r) (xs := [u, w2]) (fun i H' => Same H H' ∧ H r = none ∧ H D = none ∧ r ≠ D ∧ H' r = some (.tup [u, w2]) ∧ H' D = some (.lst ([oV (worth cs b), oV (worth cs a)].take i))) ?_ ?_ ?_ ?_
        · have hrD : r ≠ D := by
            intro z
            rw [← z, upd_same] at hD
            cases hD
          have hD2 : H D = none := by rw [upd_ne hrD.symm] at hD; exact hD
          exact ⟨same_upd (same_new hr2 _) hD2 _, hr2, hD2, hrD, by rw [upd_ne hrD]; exact upd_same, upd_same⟩
        · rintro i H' ⟨_, _, _, _, h, _⟩
          exact SqT.of h
        · rintro i x H' hi hx ⟨s, hr3, hD3, hrD, h1, h2⟩
          have go : ∀ (e2 : Ex) (v2 : V), ExV H e2 v2 → WT G false e2 → hgt e2 < n → [oV (worth cs b), oV (worth cs a)].take i ++ [oV (worth cs e2)] = [oV (worth cs b), oV (worth cs a)].take (i + 1) → v2 = x →
              (tCall (spWorth n) [] E0 (tCons (tVar 0) (tCons (tVar 3) tNil)) (wipe [some (V.ref c), some (V.ref p), none, none] [3] |>.set 3 (some x)) H' fun y H4 => ∃ acc, H4 D = some (.lst acc) ∧ acc.length < sizeLine ∧ (Same H (upd H4 D (.lst (acc ++ [y]))) ∧ H r = none ∧ H D = none ∧ r ≠ D ∧ (upd H4 D (.lst (acc ++ [y]))) r = some (.tup [u, w2]) ∧ (upd H4 D (.lst (acc ++ [y]))) D = some (.lst ([oV (worth cs b), oV (worth cs a)].take (i + 1))))) := by
            intro e2 v2 he2 wt2 hh2 et ev
            subst ev
            refine ⟨_, rfl, _, rfl, c, _, cs, e2, G, false, rfl, hc.mono s, he2.mono s, ok, wt2, hh2, fun H4 s4 => ?_⟩
            refine ⟨_, s4 _ _ h2, szl (by rw [List.length_take]; show min i 2 < 100000; omega), same_upd (s.trans s4) hD3 _, hr3, hD3, hrD, by rw [upd_ne hrD]; exact s4 _ _ h1, ?_⟩
            rw [upd_same, et]
          refine ⟨rfl, ?_⟩
          match i, hi, hx with
          | 0, _, hx =>
            have ev : w2 = x := Option.some.inj hx
            exact go b w2 hb wts.2 hh1.2 rfl ev
          | 1, _, hx =>
            have ev : u = x := Option.some.inj hx
            exact go a u ha wts.1 hh1.1 rfl ev
          | i + 2, hi, _ => exact absurd hi (by show ¬ i + 2 < 2; omega)
        · rintro H' ⟨s, hr3, hD3, hrD, h1, h2⟩
          have h2' : H' D = some (.lst [oV (worth cs b), oV (worth cs a)]) := h2
          have ff : ([oV (worth cs b), oV (worth cs a)] : List V).all flatV = true := by cases worth cs a <;> cases worth cs b <;> rfl
          refine ⟨_, rfl, D, _, rfl, .inl (SqL.of h2'), rfl, ff, _, rfl, ?_⟩
          have q2 := q H' s
          cases wa : worth cs a with
          | none =>
            have e1 : worth cs (.op o a b) = none := by simp only [worth, wa]
            rw [e1] at q2
            cases wb : worth cs b <;> exact q2
          | some va =>
            cases wb : worth cs b with
            | none =>
              have e1 : worth cs (.op o a b) = none := by simp only [worth, wa, wb]
              rw [e1] at q2
              exact q2
            | some vb =>
              have e1 : worth cs (.op o a b) = some (joined o va vb) := by simp only [worth, wa, wb]
              rw [e1] at q2
              rw [wa, wb] at h2'
              refine iteF ?_
              refine ⟨_, rfl, p, _, _, _, rfl, rfl, SqT.of (s _ _ hp), rfl, rfl, _, rfl, ifDF (str_ne n5) ?_⟩
              refine ⟨_, rfl, p, _, _, _, rfl, rfl, SqT.of (s _ _ hp), rfl, _, rfl, D, _, _, _, rfl, rfl, SqL.of h2', rfl, _, rfl, D, _, _, _, rfl, rfl, SqL.of h2', rfl, ?_⟩
              exact ⟨o, va, vb, rfl, (worth_ok ok wts.1 wa).1, (worth_ok ok wts.2 wb).1, q2⟩
      | neg e =>
        obtain ⟨u, ⟨p, rfl, hp⟩, he2⟩ := he
        cases fl with
        | false => exact wt.elim
        | true =>
          refine ⟨_, rfl, p, _, _, _, rfl, rfl, SqT.of hp, rfl, rfl, _, rfl, ifDF (str_ne (by decide +kernel)) ?_⟩
          refine ⟨_, rfl, p, _, _, _, rfl, rfl, SqT.of hp, rfl, rfl, _, rfl, ifDF (str_ne (by decide +kernel)) ?_⟩
          refine ⟨_, rfl, p, _, _, _, rfl, rfl, SqT.of hp, rfl, rfl, _, rfl, ifDF (str_ne (by decide +kernel)) ?_⟩
          refine ⟨_, rfl, p, _, _, _, rfl, rfl, SqT.of hp, rfl, rfl, _, rfl, ifDF (str_ne (by decide +kernel)) ?_⟩
          have hh2 : hgt e < n := by
            have : hgt e + 1 < n + 1 := hh
            omega
          refine ⟨_, rfl, _, rfl, p, _, rfl, SqT.of hp, (fun z => nomatch z.1), fun r hr2 => ?_⟩
          refine ⟨r, [u], rfl, .inr ⟨SqT.of upd_same, fun D hD => ?_⟩⟩
          refine lc_revT (K := K) (a := r) (xs := [u]) (fun i H' => Same H H' ∧ H r = none ∧ H D = none ∧ r ≠ D ∧ H' r = some (.tup [u]) ∧ H' D = some (.lst ([oV (worth cs e)].take i))) ?_ ?_ ?_ ?_
          · have hrD : r ≠ D := by
              intro z
              rw [← z, upd_same] at hD
              cases hD
            have hD2 : H D = none := by rw [upd_ne hrD.symm] at hD; exact hD
            exact ⟨same_upd (same_new hr2 _) hD2 _, hr2, hD2, hrD, by rw [upd_ne hrD]; exact upd_same, upd_same⟩
          · rintro i H' ⟨_, _, _, _, h, _⟩
            exact SqT.of h
          · rintro i x H' hi hx ⟨s, hr3, hD3, hrD, h1, h2⟩
            refine ⟨rfl, ?_⟩
            match i, hi, hx with
            | 0, _, hx =>
              have ev : u = x := Option.some.inj hx
              subst ev
              refine ⟨_, rfl, _, rfl, c, _, cs, e, G, true, rfl, hc.mono s, he2.mono s, ok, wt, hh2, fun H4 s4 => ?_⟩
              refine ⟨_, s4 _ _ h2, szl (by show 0 < 100000; omega), same_upd (s.trans s4) hD3 _, hr3, hD3, hrD, by rw [upd_ne hrD]; exact s4 _ _ h1, ?_⟩
              rw [upd_same]
              rfl
            | i + 1, hi, _ => exact absurd hi (by show ¬ i + 1 < 1; omega)
          · rintro H' ⟨s, hr3, hD3, hrD, h1, h2⟩
            have h2' : H' D = some (.lst [oV (worth cs e)]) := h2
            have ff : ([oV (worth cs e)] : List V).all flatV = true := by cases worth cs e <;> rfl
            refine ⟨_, rfl, D, _, rfl, .inl (SqL.of h2'), rfl, ff, _, rfl, ?_⟩
            have q2 := q H' s
            cases wa : worth cs e with
            | none =>
              have e1 : worth cs (.neg e) = none := by simp only [worth, wa]
              rw [e1] at q2
              exact q2
            | some va =>
              have e1 : worth cs (.neg e) = some (1 - va) := by simp only [worth, wa]
              rw [e1] at q2
              rw [wa] at h2'
              refine iteF ?_
              refine ⟨_, rfl, p, _, _, _, rfl, rfl, SqT.of (s _ _ hp), rfl, rfl, _, rfl, ifDT rfl ?_⟩
              exact ⟨_, rfl, D, _, _, _, rfl, rfl, SqL.of h2', rfl, _, _, rfl, rfl, q2⟩
end
end GT
/-! _law_parts_of, _law_op -/
namespace GT
open PySem PySem.Spec PyProof.Rows L2
theorem sc_l_parts_of : FnScope ["_law_expr", "_law_found", "_law_part"] ["_law_expr"] (defScope s_l_parts_of) := ⟨rfl, rfl, rfl, by decide +kernel, rfl, by decide +kernel, by decide +kernel⟩
theorem sc_l_op : FnScope ["_law_op_here", "_law_one", "_law_other", "_law_k"] ["_law_op_here", "_law_one", "_law_other"] (defScope s_l_op) := ⟨rfl, rfl, rfl, by decide +kernel, rfl, by decide +kernel, by decide +kernel⟩
def PtV (H : Hp) : Pt → V → Prop
  | .num n, v => TupV H v [.str "num", .int n]
  | .flag b, v => TupV H v [.str "flag", .bl b]
  | .name x, v => TupV H v [.str "name", .str x]
  | .item x, v => TupV H v [.str "item", .str x]
  | .op o, v => TupV H v [.str "op", .str (opS o)]
  | .neg, v => TupV H v [.str "op", .str "not"]
theorem PtV.mono {H H' : Hp} (s : Same H H') : ∀ {p : Pt} {v : V}, PtV H p v → PtV H' p v
  | .num _, _, h => TupV.mono s h
  | .flag _, _, h => TupV.mono s h
  | .name _, _, h => TupV.mono s h
  | .item _, _, h => TupV.mono s h
  | .op _, _, h => TupV.mono s h
  | .neg, _, h => TupV.mono s h
def PtsV (H : Hp) : List Pt → List V → Prop
  | [], vs => vs = []
  | p :: ps, vs => ∃ v t, vs = v :: t ∧ PtV H p v ∧ PtsV H ps t
theorem PtsV.mono {H H' : Hp} (s : Same H H') : ∀ {ps : List Pt} {vs : List V}, PtsV H ps vs → PtsV H' ps vs
  | [], _, h => h
  | p :: ps, _, ⟨v, t, h1, h2, h3⟩ => ⟨v, t, h1, h2.mono s, h3.mono s⟩
theorem PtsV.app {H : Hp} {qs : List Pt} {us : List V} (hq : PtsV H qs us) : ∀ {ps : List Pt} {vs : List V}, PtsV H ps vs → PtsV H (ps ++ qs) (vs ++ us)
  | [], _, h => by rw [show _ = [] from h]; exact hq
  | p :: ps, _, ⟨v, t, h1, h2, h3⟩ => ⟨v, t ++ us, by rw [h1]; rfl, h2, PtsV.app hq h3⟩
theorem PtsV.len {H : Hp} : ∀ {ps : List Pt} {vs : List V}, PtsV H ps vs → vs.length = ps.length
  | [], _, h => by rw [show _ = [] from h]; rfl
  | p :: ps, _, ⟨v, t, h1, h2, h3⟩ => by rw [h1, List.length_cons, h3.len, List.length_cons]
theorem PtsV.one {H : Hp} {p : Pt} {v : V} (h : PtV H p v) : PtsV H [p] [v] := ⟨v, [], rfl, h, rfl⟩
theorem parts_le {e : Ex} (h : hgt e ≤ 6) : (partsOf e).length ≤ 127 := by
  have h1 := parts_len e
  have h2 : 2 ^ (hgt e + 1) ≤ 2 ^ 7 := Nat.pow_le_pow_right (by decide) (by omega)
  have h3 : (2 : Nat) ^ 7 = 128 := by decide
  omega
theorem iteP {b : Bool} {A B : Prop} (hb : b = true) (h : A) : if b = true then A else B := by rw [if_pos hb]; exact h
theorem iteN {b : Bool} {A B : Prop} (hb : b = false) (h : B) : if b = true then A else B := by rw [hb]; exact h
section
variable {P : Program} {w : World} {K : PySem.W.Frag} {mg : Str → Option Value} {base : Heap} {C : Addr}
def spParts (n : Nat) : Sp := fun vs H Q _ => ∃ (v : V) (e : Ex), vs = [v] ∧ ExV H e v ∧ hgt e < n ∧ hgt e ≤ 6 ∧ ∀ p pv H', Same H H' → H' p = some (.lst pv) → PtsV H' (partsOf e) pv → Q (.ref p) H'
theorem ok_l_parts_of (T0 : Top K mg C) {k : Nat} : ∀ n : Nat, Cal P w K mg base "_law_parts_of" ["_law_expr"] (k + n) (spParts n)
  | 0 => T0.d_l_parts_of.no (fun _ _ _ _ _ _ us hl => match us, hl with | [_], _ => rfl) fun vs H Q E h => by obtain ⟨v, e, _, _, h, _⟩ := h; omega
  | n + 1 => by
    have T := T0
    have c_l_parts_of := ok_l_parts_of T0 (k := k) n
    refine T.d_l_parts_of.ok sc_l_parts_of (fun _ _ _ _ _ _ us hl => match us, hl with | [_], _ => rfl) (fun vs H Q E h => ?_) (fun f cdv A outer s0 H vs Q E hr h => ?_)
    · obtain ⟨v, e, rfl, _⟩ := h
      rfl
    · obtain ⟨v, e, rfl, he, hn, h6, q⟩ := h
      refine ⟨_, (pss_cons (ps_if (pt_cmpR op_in_seq (pe_ix ix_tup (pv 0) pe_int (fun _ _ => rfl)) (pe_tup (pa_cons pe_str (pa_cons pe_str (pa_cons pe_str pa_nil)))) rfl) (pss_one (ps_ret (pe_lst (pa_cons (pv 0) pa_nil)))) pss_nil)
      (pss_cons (ps_if (pt_cmpR op_eq (pe_ix ix_tup (pv 0) pe_int (fun _ _ => rfl)) pe_str (nomark _)) (pss_one (ps_ret (pe_op op_cat (pe_cl c_l_parts_of hr rfl (pa_cons (pe_ix ix_tup (pv 0) pe_int (fun _ _ => rfl)) pa_nil)) (pe_lst (pa_cons (pe_tup (pa_cons pe_str (pa_cons (pe_ix ix_tup (pv 0) pe_int (fun _ _ => rfl)) pa_nil))) pa_nil))))) pss_nil)
      (pss_cons (ps_set (i := 1) sc_l_parts_of.nd rfl (Or.inl rfl) (pe_lst pa_nil))
      (pss_cons (ps_for PassesOwn.never rfl (pi_tup (pe_slice sl_tup (pv 0) (po_some pe_int) po_none)) (pg_name (i := 2) sc_l_parts_of.nd rfl (Or.inl rfl)) (pss_one (ps_set (i := 1) sc_l_parts_of.nd rfl (Or.inl rfl) (pe_op op_cat (pv 1) (pe_cl c_l_parts_of hr rfl (pa_cons (pv 2) pa_nil))))))
      (pss_one (ps_ret (pe_op op_cat (pv 1) (pe_lst (pa_cons (pe_tup (pa_cons pe_str (pa_cons (pe_ix ix_tup (pv 0) pe_int (fun _ _ => rfl)) pa_nil))) pa_nil))))))))), ?_⟩
      have three : (∃ (tag : Str) (x : V) (pt : Pt), TupV H v [.str tag, x] ∧ inV (.str tag) [.str "num", .str "flag", .str "name"] = true ∧ partsOf e = [pt] ∧ ∀ H', TupV H' v [.str tag, x] → PtV H' pt v) ∨
          (∃ x e' u, e = .item x e' ∧ TupV H v [.str "at", .str x, u] ∧ ExV H e' u) ∨
          (∃ (s : Str) (es : List Ex) (us : List V) (pt : Pt), TupV H v (.str s :: us) ∧ inV (.str s) [.str "num", .str "flag", .str "name"] = false ∧ s ≠ "at" ∧ partsOf e = es.flatMap partsOf ++ [pt] ∧ (∀ t H', TupV H' t [.str "op", .str s] → PtV H' pt t) ∧ us.length ≤ 2 ∧ 1 ≤ us.length ∧ es.length = us.length ∧
            ∀ (i : Nat) (u : V), us[i]? = some u → ∃ e', es[i]? = some e' ∧ ExV H e' u ∧ hgt e' < n ∧ hgt e' ≤ 6) := by
        cases e with
        | num z => exact .inl ⟨_, _, .num z, he, by decide +kernel, rfl, fun H' h => h⟩
        | flag b => exact .inl ⟨_, _, .flag b, he, by decide +kernel, rfl, fun H' h => h⟩
        | name x => exact .inl ⟨_, _, .name x, he, by decide +kernel, rfl, fun H' h => h⟩
        | item x e' =>
          obtain ⟨u, h1, h2⟩ := he
          exact .inr (.inl ⟨x, e', u, rfl, h1, h2⟩)
        | neg e' =>
          obtain ⟨u, h1, h2⟩ := he
          have hh : hgt e' + 1 < n + 1 := hn
          have hh6 : hgt e' + 1 ≤ 6 := h6
          refine .inr (.inr ⟨_, [e'], [u], .neg, h1, by decide +kernel, by decide +kernel, by simp [partsOf], fun t H' h => h, by simp, by simp, rfl, fun i v hv => ?_⟩)
          match i, hv with
          | 0, hv => cases hv; exact ⟨e', rfl, h2, by omega, by omega⟩
        | op o a b =>
          obtain ⟨u, w', h1, h2, h3⟩ := he
          have hh : max (hgt a) (hgt b) + 1 < n + 1 := hn
          have hh6 : max (hgt a) (hgt b) + 1 ≤ 6 := h6
          refine .inr (.inr ⟨_, [a, b], [u, w'], .op o, h1, by cases o <;> decide +kernel, by cases o <;> decide +kernel, by simp [partsOf], fun t H' h => h, by simp, by simp, rfl, fun i v hv => ?_⟩)
          match i, hv with
          | 0, hv => cases hv; exact ⟨a, rfl, h2, by omega, by omega⟩
          | 1, hv => cases hv; exact ⟨b, rfl, h3, by omega, by omega⟩
      have hple := parts_le h6
      rcases three with ⟨tag, x, pt, ⟨p, rfl, hp⟩, hin, hpt, hpv⟩ | ⟨x, e', u, rfl, ⟨p, rfl, hp⟩, hu⟩ | ⟨s, es, us, pt, ⟨p, rfl, hp⟩, hin, hat, hpt, hpv, hu2, hu1, hes, hall⟩
      · refine ⟨_, rfl, p, _, _, _, rfl, rfl, SqT.of hp, rfl, (by show 3 ≤ sizeLine; decide), fun t ht => ⟨t, _, rfl, .inr (SqT.of upd_same), rfl, rfl, _, rfl, ?_⟩⟩
        have st := same_new ht (.tup [.str "num", .str "flag", .str "name"])
        refine iteP hin ⟨_, rfl, (by show 1 ≤ sizeLine; decide), fun l hl => ?_⟩
        have sl := same_new hl (.lst [.ref p])
        refine q l _ _ (st.trans sl) upd_same ?_
        rw [hpt]
        exact .one (hpv _ ⟨p, rfl, (st.trans sl) _ _ hp⟩)
      · have hh : hgt e' + 1 < n + 1 := hn
        have hh6 : hgt e' + 1 ≤ 6 := h6
        refine ⟨_, rfl, p, _, _, _, rfl, rfl, SqT.of hp, rfl, (by show 3 ≤ sizeLine; decide), fun t ht => ⟨t, _, rfl, .inr (SqT.of upd_same), rfl, rfl, _, rfl, ?_⟩⟩
        have st := same_new ht (.tup [.str "num", .str "flag", .str "name"])
        refine iteN (by decide +kernel) ?_
        refine ⟨_, rfl, p, _, _, _, rfl, rfl, SqT.of (st _ _ hp), rfl, rfl, _, rfl, ifDT rfl ?_⟩
        refine ⟨_, rfl, p, _, _, _, rfl, rfl, SqT.of (st _ _ hp), rfl, u, e', rfl, hu.mono st, by omega, by omega, fun r pv H2 s2 hr2 hpv2 => ?_⟩
        have hp2 := s2 _ _ (st _ _ hp)
        have hpl := hpv2.len
        have hple2 : (partsOf e' ++ [Pt.item x]).length ≤ 127 := hple
        rw [List.length_append] at hple2
        refine ⟨_, rfl, p, _, _, _, rfl, rfl, SqT.of hp2, rfl, (by show 2 ≤ sizeLine; decide), fun t2 ht2 => ⟨(by show 1 ≤ sizeLine; decide), fun l hl => ?_⟩⟩
        have s3 := same_new ht2 (.tup [.str "item", .str x])
        have s4 := same_new hl (.lst [.ref t2])
        refine ⟨r, l, _, _, rfl, rfl, s4 _ _ (s3 _ _ hr2), upd_same, sz (by show pv.length + 1 ≤ _; omega), fun m hm => ?_⟩
        have s5 := same_new hm (.lst (pv ++ [.ref t2]))
        refine q m _ _ ((((st.trans s2).trans s3).trans s4).trans s5) upd_same ?_
        have hx : PtV (upd H2 t2 (.tup [.str "item", .str x])) (.item x) (.ref t2) := ⟨t2, rfl, upd_same⟩
        exact PtsV.app (.one ((hx.mono s4).mono s5)) (((hpv2.mono s3).mono s4).mono s5)
      · refine ⟨_, rfl, p, _, _, _, rfl, rfl, SqT.of hp, at0, (by show 3 ≤ sizeLine; decide), fun t ht => ⟨t, _, rfl, .inr (SqT.of upd_same), rfl, rfl, _, rfl, ?_⟩⟩
        have st := same_new ht (.tup [.str "num", .str "flag", .str "name"])
        refine iteN hin ?_
        refine ⟨_, rfl, p, _, _, _, rfl, rfl, SqT.of (st _ _ hp), at0, rfl, _, rfl, ifDF (str_ne hat) ?_⟩
        refine ⟨(by show 0 ≤ sizeLine; decide), fun f hf => ?_⟩
        have sf := same_new hf (.lst [])
        have s1 := st.trans sf
        refine ⟨_, rfl, _, rfl, p, _, rfl, SqT.of (s1 _ _ hp), (fun z => ?_), fun q2 hq2 => ?_⟩
        · have z1 := z.1
          rw [show (some (1 : Int)) = some ((1 : Nat) : Int) from rfl, HT.sIx_nat, List.length_cons] at z1
          omega
        · rw [show (some (1 : Int)) = some ((1 : Nat) : Int) from rfl, cut_from (by rw [List.length_cons]; omega), List.drop_succ_cons, List.drop_zero]
          have s2 := s1.trans (same_new hq2 (.tup us))
          obtain ⟨f00, ef00⟩ : ∃ f00, f00 = f := ⟨_, rfl⟩
          have nf2 : f ≠ q2 := fun z => by rw [← z, upd_same] at hq2; cases hq2
          have hfl : ∀ j, ((es.take j).flatMap partsOf).length ≤ 126 := fun j => by
            have e1 : es.flatMap partsOf = (es.take j).flatMap partsOf ++ (es.drop j).flatMap partsOf := by rw [← List.flatMap_append, List.take_append_drop]
            have e2 := congrArg List.length e1
            rw [hpt, List.length_append, List.length_singleton] at hple
            rw [List.length_append] at e2
            omega
          refine ⟨q2, rfl, ⟨_, SqT.of upd_same⟩, for_tup (K := K) (a := q2) (xs := us)
            (fun i σ H' => ∃ f x2 pv, σ = [some (.ref p), some (.ref f), x2] ∧ Same (upd (upd (upd H t (.tup [.str "num", .str "flag", .str "name"])) f00 (.lst [])) q2 (.tup us)) H' ∧ H' f = some (.lst pv) ∧ PtsV H' ((es.take i).flatMap partsOf) pv) ⟨f, none, [], rfl, (by rw [ef00]; exact Same.refl _), by rw [upd_ne nf2]; exact upd_same, rfl⟩ ?_ ?_ ?_⟩
          all_goals subst ef00
          · rintro i σ H' _ ⟨f, x2, pv, rfl, sm, _⟩
            exact SqT.of (sm _ _ upd_same)
          · rintro i x σ H' hx ⟨f, x2, pv, rfl, sm, hff, hpv2⟩
            obtain ⟨e', he', hxe, hn', h6'⟩ := hall i x hx
            refine ⟨_, rfl, _, rfl, x, e', rfl, (hxe.mono s2).mono sm, hn', h6', fun r pv2 H2 s3 hr2 hpv3 => ?_⟩
            have l1 := hpv2.len
            have l2 := hpv3.len
            have l3 := hfl (i + 1)
            have ef : (es.take (i + 1)).flatMap partsOf = (es.take i).flatMap partsOf ++ partsOf e' := by rw [take_snoc he', List.flatMap_append, List.flatMap_singleton]
            rw [ef, List.length_append] at l3
            refine ⟨f, r, _, _, rfl, rfl, s3 _ _ hff, hr2, sz (by omega), fun m hm => ?_⟩
            have s5 := same_new hm (.lst (pv ++ pv2))
            refine ⟨m, _, _, rfl, (sm.trans s3).trans s5, upd_same, ?_⟩
            rw [ef]
            exact PtsV.app (hpv3.mono s5) ((hpv2.mono s3).mono s5)
          · rintro σ H' ⟨f, x2, pv, rfl, sm, hff, hpv2⟩
            rw [← hes, List.take_length] at hpv2
            have l1 := hpv2.len
            have l3 := hfl es.length
            rw [List.take_length] at l3
            have hp2 := sm _ _ (s2 _ _ hp)
            refine ⟨_, rfl, _, rfl, p, _, _, _, rfl, rfl, SqT.of hp2, at0, (by show 2 ≤ sizeLine; decide), fun t2 ht2 => ⟨(by show 1 ≤ sizeLine; decide), fun l hl => ?_⟩⟩
            have s3 := same_new ht2 (.tup [.str "op", .str s])
            have s4 := same_new hl (.lst [.ref t2])
            refine ⟨f, l, _, _, rfl, rfl, s4 _ _ (s3 _ _ hff), upd_same, sz (by show pv.length + 1 ≤ _; omega), fun m hm => ?_⟩
            have s5 := same_new hm (.lst (pv ++ [.ref t2]))
            refine q m _ _ ((((s2.trans sm).trans s3).trans s4).trans s5) upd_same ?_
            have hx : PtV (upd H' t2 (.tup [.str "op", .str s])) pt (.ref t2) := hpv _ _ ⟨t2, rfl, upd_same⟩
            rw [hpt]
            exact PtsV.app (.one ((hx.mono s4).mono s5)) (((hpv2.mono s3).mono s4).mono s5)
def spOp : Sp := fun vs H Q _ => ∃ (o : Op) (a b : Int), vs = [.str (opS o), .int a, .int b] ∧ In16 a ∧ In16 b ∧ ∀ H', Same H H' → Q (.int (lawOp o a b)) H'
theorem and1 {a : Int} (ha : In16 a) (k : Nat) : Builtin.bitAnd (a / 2 ^ k) 1 = a / 2 ^ k % 2 := by
  obtain ⟨h1, h2⟩ := ha
  have h3 : 0 ≤ a / 2 ^ k := Int.ediv_nonneg h1 (Int.le_of_lt (Int.pow_pos (by decide)))
  have h4 : a / 2 ^ k ≤ a := Int.ediv_le_self _ h1
  rw [bitAnd_nat ⟨h3, by omega⟩ ⟨by decide, by decide⟩]
  generalize a / 2 ^ k = z at h3
  obtain ⟨n, rfl⟩ : ∃ n : Nat, z = (n : Int) := ⟨z.toNat, by omega⟩
  show ((n &&& 1 : Nat) : Int) = _
  rw [Nat.and_one_is_mod]
  omega
theorem ok_l_op (T0 : Top K mg C) {k : Nat} : Cal P w K mg base "_law_op" ["_law_op_here", "_law_one", "_law_other"] (k + 1) spOp := by
  have T := T0
  refine T.d_l_op.ok sc_l_op (fun _ _ _ _ _ _ us hl => match us, hl with | [_, _, _], _ => rfl) (fun vs H Q E h => ?_) (fun f cdv A outer s0 H vs Q E hr h => ?_)
  · obtain ⟨o, a, b, rfl, _⟩ := h
    rfl
  · obtain ⟨o, a, b, rfl, ha, hb, q⟩ := h
    refine ⟨_, (pss_cons (ps_if (pt_cmpR op_eq (pv 0) pe_str (nomark _)) (pss_one (ps_ret (pe_op op_mod (pe_op op_add (pv 1) (pv 2)) pe_int))) pss_nil)
      (pss_cons (ps_if (pt_cmpR op_eq (pv 0) pe_str (nomark _)) (pss_one (ps_ret (pe_op op_mod (pe_op op_sub (pe_op op_add (pv 1) pe_int) (pv 2)) pe_int))) pss_nil)
      (pss_cons (ps_if (pt_cmpR op_eq (pv 0) pe_str (nomark _)) (pss_one (ps_ret (pe_callB (cr_sum rfl) rfl T.sum_ (by decide +kernel) (pa_cons (pe_lc (own := [("_law_k", 3)]) rfl sc_l_op.nd (pi_range1 rfl T.range_ (pa_cons pe_int pa_nil)) (blkOk_by (own := [("_law_k", 3)]) (N := ["_law_op_here", "_law_one", "_law_other", "_law_k"]) (sc := defScope s_l_op) (by decide +kernel)) (fun _ _ _ _ _ => (pg_name (i := 3) sc_l_op.nd rfl (Or.inl rfl))) (fun _ _ _ _ _ => (pts_one (PW.pt (pw_and (pt_cmpR op_eq (pe_op op_and (pe_op op_shr (pv 1) (pv 3)) pe_int) pe_int (nomark _)) (pw_and1 (pt_cmpR op_eq (pe_op op_and (pe_op op_shr (pv 2) (pv 3)) pe_int) pe_int (nomark _))))))) (fun _ _ _ _ _ => (pe_op op_shl pe_int (pv 3)))) pa_nil)))) pss_nil)
      (pss_cons (ps_if (pt_cmpR op_eq (pv 0) pe_str (nomark _)) (pss_one (ps_ret (pe_callTy call_int1 rfl T.int_ (by decide +kernel) (pa_cons (pe_cmpR op_lt (pe_op op_mod (pe_op op_add (pv 1) pe_int) pe_int) (pe_op op_mod (pe_op op_add (pv 2) pe_int) pe_int) (nomark _)) pa_nil)))) pss_nil)
      (pss_one (ps_ret (pe_callTy call_int1 rfl T.int_ (by decide +kernel) (pa_cons (pe_cmpR op_eq (pv 1) (pv 2) (nomark _)) pa_nil)))))))), ?_⟩
    cases o with
    | add =>
      refine ⟨_, rfl, rfl, _, rfl, ifDT rfl ?_⟩
      exact ⟨_, rfl, _, rfl, _, _, rfl, rfl, _, _, rfl, rfl, (by show (0 : Int) < 65536; decide), q _ (Same.refl _)⟩
    | sub =>
      refine ⟨_, rfl, rfl, _, rfl, ifDF (str_ne (by decide +kernel)) ?_⟩
      refine ⟨_, rfl, rfl, _, rfl, ifDT rfl ?_⟩
      exact ⟨_, rfl, _, _, rfl, rfl, _, rfl, _, _, rfl, rfl, _, _, rfl, rfl, (by show (0 : Int) < 65536; decide), q _ (Same.refl _)⟩
    | and =>
      refine ⟨_, rfl, rfl, _, rfl, ifDF (str_ne (by decide +kernel)) ?_⟩
      refine ⟨_, rfl, rfl, _, rfl, ifDF (str_ne (by decide +kernel)) ?_⟩
      refine ⟨_, rfl, rfl, _, rfl, ifDT rfl ?_⟩
      have bl : ∀ n, (bitsOf a b n).length ≤ n := fun n => by
        induction n with
        | zero => exact Nat.le_refl _
        | succ n ih =>
          simp only [bitsOf, List.length_append]
          split <;> simp <;> omega
      refine ⟨16, rfl, by decide, by decide, fun r hr2 => lc_any (n := 16) (fun i H' => Same H H' ∧ H' r = some (.lst (il (bitsOf a b i)))) ⟨same_new hr2 _, upd_same⟩ (fun i H' hi h => ?_) (fun H' h => ?_)⟩
      · obtain ⟨s, h1⟩ := h
        refine ⟨hi, ?_⟩
        rintro v H'' ⟨rfl, rfl⟩
        have ei : ((0 : Int) + (i : Int)).toNat = i := by omega
        refine ⟨rfl, ?_⟩
        have hl := bl i
        have hs := bl (i + 1)
        have key : bitsOf a b (i + 1) = bitsOf a b i ++ (if (a / 2 ^ i % 2 = 1) ∧ (b / 2 ^ i % 2 = 1) then [2 ^ i] else []) := rfl
        refine ⟨_, rfl, _, rfl, _, _, rfl, rfl, (by show (0 : Int) ≤ 0 + (i : Int); omega), _, _, rfl, rfl, rfl, _, rfl, ?_⟩
        show if decide (V.int (Builtin.bitAnd (a / 2 ^ ((0 : Int) + (i : Int)).toNat) 1) = V.int 1) = true then _ else _
        rw [ei, and1 ha]
        refine ifD (fun c1 => ?_) (fun c1 => ?_)
        · have c1 := V.int.inj c1
          refine ⟨_, rfl, _, rfl, _, _, rfl, rfl, (by show (0 : Int) ≤ 0 + (i : Int); omega), _, _, rfl, rfl, rfl, _, rfl, ?_⟩
          show if decide (V.int (Builtin.bitAnd (b / 2 ^ ((0 : Int) + (i : Int)).toNat) 1) = V.int 1) = true then _ else _
          rw [ei, and1 hb]
          refine ifD (fun c2 => ?_) (fun c2 => ?_)
          · have c2 := V.int.inj c2
            refine ⟨_, rfl, _, _, rfl, rfl, ⟨by omega, by omega, by decide⟩, _, h1, szl (by rw [List.length_map]; omega), same_upd s hr2 _, ?_⟩
            rw [upd_same]
            show some (HO.lst (il (bitsOf a b i) ++ [V.int (1 * 2 ^ ((0 : Int) + (i : Int)).toNat)])) = _
            rw [ei, key, if_pos ⟨c1, c2⟩]
            show _ = some (HO.lst ((bitsOf a b i ++ [2 ^ i]).map V.int))
            rw [List.map_append, Int.one_mul]
            rfl
          · refine ⟨s, ?_⟩
            rw [key, if_neg fun z => c2 (by rw [z.2]), List.append_nil]
            exact h1
        · refine ⟨s, ?_⟩
          rw [key, if_neg fun z => c1 (by rw [z.1]), List.append_nil]
          exact h1
      · obtain ⟨s, h1⟩ := h
        refine ⟨Nat.le_refl _, r, bitsOf a b 16, rfl, SqL.of h1, q _ s⟩
    | lt =>
      refine ⟨_, rfl, rfl, _, rfl, ifDF (str_ne (by decide +kernel)) ?_⟩
      refine ⟨_, rfl, rfl, _, rfl, ifDF (str_ne (by decide +kernel)) ?_⟩
      refine ⟨_, rfl, rfl, _, rfl, ifDF (str_ne (by decide +kernel)) ?_⟩
      refine ⟨_, rfl, rfl, _, rfl, ifDT rfl ?_⟩
      refine ⟨_, rfl, _, _, rfl, rfl, _, _, rfl, rfl, (by show (0 : Int) < 65536; decide), _, rfl, _, _, rfl, rfl, _, _, rfl, rfl, (by show (0 : Int) < 65536; decide), _, _, rfl, rfl, .inr ⟨_, rfl, ?_⟩⟩
      have e : (if decide ((a + 32768) % 65536 < (b + 32768) % 65536) = true then (1 : Int) else 0) = lawOp .lt a b := by
        show _ = if (a + 32768) % 65536 < (b + 32768) % 65536 then (1 : Int) else 0
        by_cases c : (a + 32768) % 65536 < (b + 32768) % 65536 <;> simp [c]
      rw [e]
      exact q _ (Same.refl _)
    | eq =>
      refine ⟨_, rfl, rfl, _, rfl, ifDF (str_ne (by decide +kernel)) ?_⟩
      refine ⟨_, rfl, rfl, _, rfl, ifDF (str_ne (by decide +kernel)) ?_⟩
      refine ⟨_, rfl, rfl, _, rfl, ifDF (str_ne (by decide +kernel)) ?_⟩
      refine ⟨_, rfl, rfl, _, rfl, ifDF (str_ne (by decide +kernel)) ?_⟩
      refine ⟨_, rfl, _, rfl, rfl, .inr ⟨_, rfl, ?_⟩⟩
      have e : (if decide (V.int a = V.int b) = true then (1 : Int) else 0) = lawOp .eq a b := by
        show _ = if a = b then (1 : Int) else 0
        by_cases c : a = b <;> simp [c]
      rw [e]
      exact q _ (Same.refl _)
end
end GT
/-! _law_worth -/
namespace GT
open PySem PySem.Spec PyProof.Rows L2
theorem sc_l_worth : FnScope ["_law_cells", "_law_expr", "_law_pile", "_law_part", "_law_place", "_law_other"] ["_law_cells", "_law_expr"] (defScope s_l_worth) := ⟨rfl, rfl, rfl, by decide +kernel, rfl, by decide +kernel, by decide +kernel⟩
theorem PtV.tps {H H' : Hp} (s : Tps H H') : ∀ {p : Pt} {v : V}, PtV H p v → PtV H' p v
  | .num _, _, h => TupV.tps s h
  | .flag _, _, h => TupV.tps s h
  | .name _, _, h => TupV.tps s h
  | .item _, _, h => TupV.tps s h
  | .op _, _, h => TupV.tps s h
  | .neg, _, h => TupV.tps s h
theorem PtsV.at_ {H : Hp} : ∀ {ps : List Pt} {vs : List V} {i : Nat} {x : V}, PtsV H ps vs → vs[i]? = some x → ∃ pt, ps[i]? = some pt ∧ PtV H pt x
  | [], _, i, x, h, e => by rw [show _ = [] from h] at e; simp at e
  | p :: ps, _, 0, x, ⟨v, t, h1, h2, h3⟩, e => by
    rw [h1] at e
    cases Option.some.inj e
    exact ⟨p, rfl, h2⟩
  | p :: ps, _, i + 1, x, ⟨v, t, h1, h2, h3⟩, e => by
    rw [h1] at e
    exact PtsV.at_ (i := i) h3 e
theorem partsOf_ne : ∀ e : Ex, partsOf e ≠ []
  | .num _ => by simp [partsOf]
  | .flag _ => by simp [partsOf]
  | .name _ => by simp [partsOf]
  | .item _ _ => by simp [partsOf]
  | .op _ _ _ => by simp [partsOf]
  | .neg _ => by simp [partsOf]
theorem drop_at {α : Type} {l : List α} {i : Nat} {x : α} (h : l[i]? = some x) : l.drop i = x :: l.drop (i + 1) := by
  obtain ⟨hi, rfl⟩ := List.getElem?_eq_some_iff.mp h
  exact List.drop_eq_getElem_cons hi
/-- the list of a pile, its top ahead -/
abbrev pl (p : List Int) : List V := il p.reverse
theorem pl_cons (p : List Int) (n : Int) : pl p ++ [V.int n] = pl (n :: p) := by simp [pl, il]
theorem pl_top (p : List Int) (n : Int) : (pl (n :: p))[(pl (n :: p)).length - 1]? = some (.int n) := by simp [pl, il]
theorem pl_drop (p : List Int) (n : Int) : (pl (n :: p)).dropLast = pl p := by rw [← pl_cons, List.dropLast_concat]
def oL : Option Int → List Int
  | none => []
  | some v => [v]
section
variable {P : Program} {w : World} {K : PySem.W.Frag} {mg : Str → Option Value} {base : Heap} {C : Addr}
def spWorthL : Sp := fun vs H Q _ => ∃ (c : Addr) (v : V) (cs : Cells) (e : Ex) (G : Env) (fl : Bool), vs = [.ref c, v] ∧ CsV H c cs ∧ ExV H e v ∧ CsOk G cs ∧ WT G fl e ∧ hgt e ≤ 6 ∧ ∀ p H', Same H H' → H p = none → H' p = some (.lst (il (oL (worth cs e)))) → Q (.ref p) H'
theorem ok_l_worth (T0 : Top K mg C) {k : Nat} (c_l_parts_of : Cal P w K mg base "_law_parts_of" ["_law_expr"] k (spParts 7)) (c_l_op : Cal P w K mg base "_law_op" ["_law_op_here", "_law_one", "_law_other"] k spOp) :
    Cal P w K mg base "_law_worth" ["_law_cells", "_law_expr"] (k + 1) spWorthL := by
  have T := T0
  refine T.d_l_worth.ok sc_l_worth (fun _ _ _ _ _ _ us hl => match us, hl with | [_, _], _ => rfl) (fun vs H Q E h => ?_) (fun f cdv A outer s0 H vs Q E hr h => ?_)
  · obtain ⟨c, v, cs, e, G, fl, rfl, _⟩ := h
    rfl
  · obtain ⟨c, v, cs, e, G, fl, rfl, hc, he, ok, wt, h6, q⟩ := h
    refine ⟨_, (pss_cons (ps_set (i := 2) sc_l_worth.nd rfl (Or.inl rfl) (pe_lst pa_nil))
      (pss_cons (ps_for PassesOwn.never rfl (pi_list (pe_cl c_l_parts_of hr rfl (pa_cons (pv 1) pa_nil))) (pg_name (i := 3) sc_l_worth.nd rfl (Or.inl rfl)) (pss_one (ps_if (PW.pt (pw_or (pt_cmpR op_eq (pe_ix ix_tup (pv 3) pe_int (fun _ _ => rfl)) pe_str (nomark _)) (pw_or1 (pt_cmpR op_eq (pe_ix ix_tup (pv 3) pe_int (fun _ _ => rfl)) pe_str (nomark _))))) (pss_one (ps_expr (pe_bm PySem.F.plainAttrs_list PySem.F.slot_list_append PySem.F.type_list_append mt_append (pv 2) (pa_cons (pe_callTy call_int1 rfl T.int_ (by decide +kernel) (pa_cons (pe_ix ix_tup (pv 3) pe_int (fun _ _ => rfl)) pa_nil)) pa_nil)))) (pss_one (ps_if (pt_cmpR op_eq (pe_ix ix_tup (pv 3) pe_int (fun _ _ => rfl)) pe_str (nomark _)) (pss_one (ps_expr (pe_bm PySem.F.plainAttrs_list PySem.F.slot_list_append PySem.F.type_list_append mt_append (pv 2) (pa_cons (pe_dget (hu_of hr) (pv 0) (pe_ix ix_tup (pv 3) pe_int (fun _ _ => rfl)) (fun _ _ => rfl)) pa_nil)))) (pss_one (ps_if (pt_cmpR op_eq (pe_ix ix_tup (pv 3) pe_int (fun _ _ => rfl)) pe_str (nomark _)) (pss_cons (ps_set (i := 4) sc_l_worth.nd rfl (Or.inl rfl) (pe_bm0 PySem.F.plainAttrs_list PySem.F.slot_list_pop PySem.F.type_list_pop mt_pop (pv 2)))
      (pss_cons (ps_if (pt_cmpR op_ge (pv 4) (pe_callB call_len_seq rfl T.len_ (by decide +kernel) (pa_cons (pe_dget (hu_of hr) (pv 0) (pe_ix ix_tup (pv 3) pe_int (fun _ _ => rfl)) (fun _ _ => rfl)) pa_nil)) (nomark _)) (pss_one (ps_ret (pe_lst pa_nil))) pss_nil)
      (pss_one (ps_expr (pe_bm PySem.F.plainAttrs_list PySem.F.slot_list_append PySem.F.type_list_append mt_append (pv 2) (pa_cons (pe_ix ix_list (pe_dget (hu_of hr) (pv 0) (pe_ix ix_tup (pv 3) pe_int (fun _ _ => rfl)) (fun _ _ => rfl)) (pv 4) (fun _ _ => rfl)) pa_nil)))))) (pss_one (ps_if (pt_cmpR op_eq (pe_ix ix_tup (pv 3) pe_int (fun _ _ => rfl)) pe_str (nomark _)) (pss_one (ps_expr (pe_bm PySem.F.plainAttrs_list PySem.F.slot_list_append PySem.F.type_list_append mt_append (pv 2) (pa_cons (pe_op op_sub pe_int (pe_bm0 PySem.F.plainAttrs_list PySem.F.slot_list_pop PySem.F.type_list_pop mt_pop (pv 2))) pa_nil)))) (pss_cons (ps_set (i := 5) sc_l_worth.nd rfl (Or.inl rfl) (pe_bm0 PySem.F.plainAttrs_list PySem.F.slot_list_pop PySem.F.type_list_pop mt_pop (pv 2)))
      (pss_one (ps_expr (pe_bm PySem.F.plainAttrs_list PySem.F.slot_list_append PySem.F.type_list_append mt_append (pv 2) (pa_cons (pe_cl c_l_op hr rfl (pa_cons (pe_ix ix_tup (pv 3) pe_int (fun _ _ => rfl)) (pa_cons (pe_bm0 PySem.F.plainAttrs_list PySem.F.slot_list_pop PySem.F.type_list_pop mt_pop (pv 2)) (pa_cons (pv 5) pa_nil)))) pa_nil))))))))))))))
      (pss_one (ps_ret (pv 2))))), ?_⟩
    refine ⟨(by show 0 ≤ sizeLine; decide), fun fp hfp => ?_⟩
    have s1 := same_new hfp (.lst [])
    refine ⟨_, rfl, v, e, rfl, he.mono s1, by omega, h6, fun r pv H2 s2 hr2 hpv => ?_⟩
    have hfp2 := s2 _ _ (show (upd H fp (.lst [])) fp = some (.lst []) from upd_same)
    have s12 := s1.trans s2
    have hpl := hpv.len
    have hple := parts_le h6
    have rfp : r ≠ fp := fun z => by
      rw [z, hfp2] at hr2
      cases hr2
      exact partsOf_ne e (List.eq_nil_of_length_eq_zero hpl.symm)
    have back : ∀ {H' : Hp}, But [fp] H2 H' → Same H H' := fun b q u e => but1 b (fun z => by rw [z, hfp] at e; cases e) (s12 _ _ e)
    obtain ⟨res, hres⟩ : ∃ res, res = (worth cs e).map fun v => [v] := ⟨_, rfl⟩
    have hprun : PRun cs (partsOf e) [] res := by rw [hres]; exact prun_all ok wt
    refine ⟨r, rfl, ⟨_, SqL.of hr2⟩, for_lst (K := K) (a := r) (xs := pv)
      (fun i σ H' => ∃ x3 x4 x5 p, σ = [some (.ref c), some v, some (.ref fp), x3, x4, x5] ∧ But [fp] H2 H' ∧ H' fp = some (.lst (pl p)) ∧ PRun cs ((partsOf e).drop i) p res ∧ p.length ≤ i) ⟨none, none, none, [], rfl, But.refl _ _, hfp2, hprun, Nat.le_refl _⟩ ?_ ?_ ?_⟩
    · rintro i σ H' ⟨x3, x4, x5, p, rfl, b, _⟩
      exact SqL.of (but1 b rfp hr2)
    · rintro i x σ H' hi hx ⟨x3, x4, x5, p, rfl, b, hpp, hrun, hplen⟩
      obtain ⟨pt, hpt, hxv⟩ := hpv.at_ hx
      have tps : Tps H2 H' := Tps.but b fun m hm => by rw [List.mem_singleton.mp hm]; exact ⟨_, hfp2⟩
      have hxv := hxv.tps tps
      have hcH := hc.mono (back b)
      rw [drop_at hpt] at hrun
      have hll : ∀ p : List Int, (pl p).length = p.length := fun p => by simp [pl, il]
      have i127 : i < 127 := by omega
      have mput : ∀ {H3 : Hp} (o : HO), But [fp] H2 H3 → But [fp] H2 (upd H3 fp o) := fun o b => b.put (List.mem_singleton.mpr rfl) _
      cases hrun with
      | @num n ts p r hr3 =>
        obtain ⟨t, rfl, ht⟩ := hxv
        refine ⟨_, rfl, t, _, _, _, rfl, rfl, SqT.of ht, rfl, rfl, _, rfl, ifDT rfl ?_⟩
        refine iteT ?_
        refine ⟨_, rfl, .inl ⟨rfl, _, SqL.of hpp⟩, _, rfl, t, _, _, _, rfl, rfl, SqT.of ht, rfl, .inl ⟨n, rfl, fp, _, _, rfl, rfl, hpp, szl (by rw [hll]; omega), ?_⟩⟩
        exact ⟨_, _, _, n :: p, rfl, mput _ b, by rw [upd_same, pl_cons], hr3, by rw [List.length_cons]; omega⟩
      | @flag bb ts p r hr3 =>
        obtain ⟨t, rfl, ht⟩ := hxv
        refine ⟨_, rfl, t, _, _, _, rfl, rfl, SqT.of ht, rfl, rfl, _, rfl, ifDF (str_ne (by decide +kernel)) ?_⟩
        refine ⟨_, rfl, t, _, _, _, rfl, rfl, SqT.of ht, rfl, rfl, _, rfl, ifDT rfl ?_⟩
        refine ⟨_, rfl, .inl ⟨rfl, _, SqL.of hpp⟩, _, rfl, t, _, _, _, rfl, rfl, SqT.of ht, rfl, .inr ⟨bb, rfl, fp, _, _, rfl, rfl, hpp, szl (by rw [hll]; omega), ?_⟩⟩
        exact ⟨_, _, _, _ :: p, rfl, mput _ b, by rw [upd_same, pl_cons], hr3, by rw [List.length_cons]; omega⟩
      | @name x n ts p r hg hr3 =>
        obtain ⟨t, rfl, ht⟩ := hxv
        obtain ⟨u, h1, h2⟩ := cs_get_v hcH hg
        cases (show u = .int n from h2)
        refine ⟨_, rfl, t, _, _, _, rfl, rfl, SqT.of ht, rfl, rfl, _, rfl, ifDF (str_ne (by decide +kernel)) ?_⟩
        refine ⟨_, rfl, t, _, _, _, rfl, rfl, SqT.of ht, rfl, rfl, _, rfl, ifDF (str_ne (by decide +kernel)) ?_⟩
        refine ⟨_, rfl, t, _, _, _, rfl, rfl, SqT.of ht, rfl, rfl, _, rfl, ifDT rfl ?_⟩
        refine ⟨_, rfl, .inl ⟨rfl, _, SqL.of hpp⟩, _, rfl, _, rfl, t, _, _, _, rfl, rfl, SqT.of ht, rfl, c, _, rfl, h1, fp, _, _, rfl, rfl, hpp, szl (by rw [hll]; omega), ?_⟩
        exact ⟨_, _, _, n :: p, rfl, mput _ b, by rw [upd_same, pl_cons], hr3, by rw [List.length_cons]; omega⟩
      | @out x z l ts p hg h0 h1 =>
        obtain ⟨t, rfl, ht⟩ := hxv
        refine ⟨_, rfl, t, _, _, _, rfl, rfl, SqT.of ht, rfl, rfl, _, rfl, ifDF (str_ne (by decide +kernel)) ?_⟩
        refine ⟨_, rfl, t, _, _, _, rfl, rfl, SqT.of ht, rfl, rfl, _, rfl, ifDF (str_ne (by decide +kernel)) ?_⟩
        refine ⟨_, rfl, t, _, _, _, rfl, rfl, SqT.of ht, rfl, rfl, _, rfl, ifDF (str_ne (by decide +kernel)) ?_⟩
        refine ⟨_, rfl, t, _, _, _, rfl, rfl, SqT.of ht, rfl, rfl, _, rfl, ifDT rfl ?_⟩
        refine ⟨_, rfl, .inl ⟨rfl, _, SqL.of hpp⟩, fp, _, .int z, rfl, rfl, hpp, pl_top p z, ?_⟩
        rw [pl_drop]
        have tf : t ≠ fp := fun k => by rw [k, hpp] at ht; cases ht
        have ht1 : (upd H' fp (.lst (pl p))) t = some (.tup [.str "item", .str x]) := by rw [upd_ne tf]; exact ht
        have b3 := mput (.lst (pl p)) b
        obtain ⟨u, k1, ⟨la, rfl, k2⟩⟩ := cs_get_v (hc.mono (back b3)) hg
        have hl2 : (il l).length = l.length := List.length_map _
        refine ⟨_, rfl, _, rfl, _, rfl, t, _, _, _, rfl, rfl, SqT.of ht1, rfl, c, _, rfl, k1, la, _, rfl, .inl (SqL.of k2), _, _, rfl, rfl, _, rfl, ?_⟩
        rw [hl2]
        refine ifDT h1 ?_
        refine ⟨(by show 0 ≤ sizeLine; decide), fun m hm => ?_⟩
        have sm := same_new hm (.lst [])
        have hm2 : H m = none := by
          cases k : H m with
          | none => rfl
          | some u => rw [back b3 _ _ k] at hm; cases hm
        refine q m _ ((back b3).trans sm) hm2 ?_
        cases hw : worth cs e with
        | none => exact upd_same
        | some z => rw [hw] at hres; cases hres
      | @item x z l y ts p r hg h0 h1 h2 hr3 =>
        obtain ⟨t, rfl, ht⟩ := hxv
        refine ⟨_, rfl, t, _, _, _, rfl, rfl, SqT.of ht, rfl, rfl, _, rfl, ifDF (str_ne (by decide +kernel)) ?_⟩
        refine ⟨_, rfl, t, _, _, _, rfl, rfl, SqT.of ht, rfl, rfl, _, rfl, ifDF (str_ne (by decide +kernel)) ?_⟩
        refine ⟨_, rfl, t, _, _, _, rfl, rfl, SqT.of ht, rfl, rfl, _, rfl, ifDF (str_ne (by decide +kernel)) ?_⟩
        refine ⟨_, rfl, t, _, _, _, rfl, rfl, SqT.of ht, rfl, rfl, _, rfl, ifDT rfl ?_⟩
        refine ⟨_, rfl, .inl ⟨rfl, _, SqL.of hpp⟩, fp, _, .int z, rfl, rfl, hpp, pl_top p z, ?_⟩
        rw [pl_drop]
        have tf : t ≠ fp := fun k => by rw [k, hpp] at ht; cases ht
        have ht1 : (upd H' fp (.lst (pl p))) t = some (.tup [.str "item", .str x]) := by rw [upd_ne tf]; exact ht
        have b3 := mput (.lst (pl p)) b
        obtain ⟨u, k1, ⟨la, rfl, k2⟩⟩ := cs_get_v (hc.mono (back b3)) hg
        have hl2 : (il l).length = l.length := List.length_map _
        refine ⟨_, rfl, _, rfl, _, rfl, t, _, _, _, rfl, rfl, SqT.of ht1, rfl, c, _, rfl, k1, la, _, rfl, .inl (SqL.of k2), _, _, rfl, rfl, _, rfl, ?_⟩
        rw [hl2]
        refine ifDF (by omega) ?_
        have hpp3 : (upd H' fp (.lst (pl p))) fp = some (.lst (pl p)) := upd_same
        refine ⟨_, rfl, .inl ⟨rfl, _, SqL.of hpp3⟩, _, rfl, _, rfl, t, _, _, _, rfl, rfl, SqT.of ht1, rfl, c, _, rfl, k1, _, rfl, la, _, _, _, rfl, rfl, SqL.of k2, atI_il h0 h2, fp, _, _, rfl, rfl, hpp3, szl (by rw [hll]; simp only [List.length_cons] at hplen; omega), ?_⟩
        exact ⟨_, _, _, y :: p, rfl, mput _ b3, by rw [upd_same, pl_cons], hr3, by simp only [List.length_cons] at hplen ⊢; omega⟩
      | @op o y z ts p r ha hb hr3 =>
        obtain ⟨t, rfl, ht⟩ := hxv
        refine ⟨_, rfl, t, _, _, _, rfl, rfl, SqT.of ht, rfl, rfl, _, rfl, ifDF (str_ne (by decide +kernel)) ?_⟩
        refine ⟨_, rfl, t, _, _, _, rfl, rfl, SqT.of ht, rfl, rfl, _, rfl, ifDF (str_ne (by decide +kernel)) ?_⟩
        refine ⟨_, rfl, t, _, _, _, rfl, rfl, SqT.of ht, rfl, rfl, _, rfl, ifDF (str_ne (by decide +kernel)) ?_⟩
        refine ⟨_, rfl, t, _, _, _, rfl, rfl, SqT.of ht, rfl, rfl, _, rfl, ifDF (str_ne (by decide +kernel)) ?_⟩
        refine ⟨_, rfl, t, _, _, _, rfl, rfl, SqT.of ht, rfl, rfl, _, rfl, ifDF (str_ne (by cases o <;> decide +kernel)) ?_⟩
        refine ⟨_, rfl, .inl ⟨rfl, _, SqL.of hpp⟩, fp, _, .int z, rfl, rfl, hpp, pl_top _ z, ?_⟩
        rw [pl_drop]
        have tf : t ≠ fp := fun k => by rw [k, hpp] at ht; cases ht
        have ht1 : (upd H' fp (.lst (pl (y :: p)))) t = some (.tup [.str "op", .str (opS o)]) := by rw [upd_ne tf]; exact ht
        refine ⟨_, rfl, .inl ⟨rfl, _, SqL.of upd_same⟩, _, rfl, t, _, _, _, rfl, rfl, SqT.of ht1, rfl, _, rfl, .inl ⟨rfl, _, SqL.of upd_same⟩, fp, _, .int y, rfl, rfl, upd_same, pl_top p y, ?_⟩
        rw [pl_drop]
        refine ⟨_, rfl, o, y, z, rfl, ha, hb, fun H4 s4 => ?_⟩
        refine ⟨fp, _, _, rfl, rfl, s4 _ _ upd_same, szl (by rw [hll]; simp only [List.length_cons] at hplen; omega), ?_⟩
        exact ⟨_, _, _, _ :: p, rfl, mput _ ((mput _ (mput _ b)).trans (But.of_same s4)), by rw [upd_same, pl_cons], hr3, by simp only [List.length_cons] at hplen ⊢; omega⟩
      | @neg y ts p r hr3 =>
        obtain ⟨t, rfl, ht⟩ := hxv
        refine ⟨_, rfl, t, _, _, _, rfl, rfl, SqT.of ht, rfl, rfl, _, rfl, ifDF (str_ne (by decide +kernel)) ?_⟩
        refine ⟨_, rfl, t, _, _, _, rfl, rfl, SqT.of ht, rfl, rfl, _, rfl, ifDF (str_ne (by decide +kernel)) ?_⟩
        refine ⟨_, rfl, t, _, _, _, rfl, rfl, SqT.of ht, rfl, rfl, _, rfl, ifDF (str_ne (by decide +kernel)) ?_⟩
        refine ⟨_, rfl, t, _, _, _, rfl, rfl, SqT.of ht, rfl, rfl, _, rfl, ifDF (str_ne (by decide +kernel)) ?_⟩
        refine ⟨_, rfl, t, _, _, _, rfl, rfl, SqT.of ht, rfl, rfl, _, rfl, ifDT rfl ?_⟩
        refine ⟨_, rfl, .inl ⟨rfl, _, SqL.of hpp⟩, _, rfl, .inl ⟨rfl, _, SqL.of hpp⟩, fp, _, .int y, rfl, rfl, hpp, pl_top p y, ?_⟩
        rw [pl_drop]
        refine ⟨_, _, rfl, rfl, fp, _, _, rfl, rfl, upd_same, szl (by rw [hll]; simp only [List.length_cons] at hplen; omega), ?_⟩
        exact ⟨_, _, _, _ :: p, rfl, mput _ (mput _ b), by rw [upd_same, pl_cons], hr3, by simp only [List.length_cons] at hplen ⊢; omega⟩
    · rintro σ H' ⟨x3, x4, x5, p, rfl, b, hpp, hrun, hplen⟩
      rw [hpl, List.drop_length] at hrun
      refine ⟨_, rfl, q fp H' (back b) hfp ?_⟩
      cases hrun
      cases hw : worth cs e with
      | none => rw [hw] at hres; cases hres
      | some z =>
        rw [hw] at hres
        cases hres
        exact hpp
end
end GT
/-! copied_cells, _law_copy -/
namespace GT
open PySem PySem.Spec PyProof.Rows L2
theorem sc_copied_cells : FnScope ["cells", "made", "name"] ["cells"] (defScope s_copied_cells) := ⟨rfl, rfl, rfl, by decide +kernel, rfl, by decide +kernel, by decide +kernel⟩
theorem sc_l_copy : FnScope ["_law_cells", "_law_formed", "_law_name"] ["_law_cells"] (defScope s_l_copy) := ⟨rfl, rfl, rfl, by decide +kernel, rfl, by decide +kernel, by decide +kernel⟩
theorem cs_keys : ∀ {G : Env} {cs : Cells}, CsOk G cs → cs.map (·.1) = G.map (·.1)
  | [], [], _ => rfl
  | [], _ :: _, h => h.elim
  | _ :: _, [], h => h.elim
  | (y, k) :: G, (x, c) :: r, h => by
    show x :: r.map (·.1) = y :: G.map (·.1)
    rw [h.1, cs_keys h.2.2]
theorem take_no {cs : Cells} (hn : (cs.map (·.1)).Nodup) {i : Nat} {x : Nm} {c : Cell} (h : cs[i]? = some (x, c)) : ¬ x ∈ (cs.take i).map (·.1) := by
  intro m
  rw [List.map_take] at m
  obtain ⟨j, hj⟩ := List.mem_iff_getElem?.mp m
  have hlt : j < i := by
    have := (List.getElem?_eq_some_iff.mp hj).1
    rw [List.length_take] at this
    omega
  rw [List.getElem?_take_of_lt hlt] at hj
  have hi : (cs.map (·.1))[i]? = some x := by rw [List.getElem?_map, h]; rfl
  have := nd_ix hn hj hi
  omega
section
variable {P : Program} {w : World} {K : PySem.W.Frag} {mg : Str → Option Value} {base : Heap} {C : Addr}
def spCopy : Sp := fun vs H Q _ => ∃ (c : Addr) (cs : Cells), vs = [.ref c] ∧ CsV H c cs ∧ (cs.map (·.1)).Nodup ∧ cs.length ≤ 1000 ∧ ∀ p H', Same H H' → H p = none → CsV (Nw H H') p cs → Q (.ref p) H'
/-- what stands while the copy is made: the dict at c is locked, the copy at p holds i entries -/
structure Cop (H : Hp) (c p : Addr) (od : Obj) (kvs : List (Key × V)) (cs : Cells) (i : Nat) (H' : Hp) : Prop where
  same : ∀ b o, b ≠ c → H b = some o → H' b = some o
  lock : H' c = some (.frz od (.dK kvs))
  free : H p = none
  made : ∃ ks, H' p = some (.dK ks) ∧ KvsV (Nw H H') (cs.take i) ks
theorem Cop.lsts {H : Hp} {c p : Addr} {od : Obj} {kvs : List (Key × V)} {cs : Cells} {i : Nat} {H' : Hp} (h : Cop H c p od kvs cs i H') (hc : H c = some (.dK kvs)) : ∀ a xs, H a = some (.lst xs) → H' a = some (.lst xs) := fun a xs e =>
  h.same a _ (fun z => by rw [z, hc] at e; cases e) e
theorem fresh_of {H : Hp} {c p : Addr} {od : Obj} {kvs : List (Key × V)} {cs : Cells} {i : Nat} {H' : Hp} (h : Cop H c p od kvs cs i H') (hc : H c = some (.dK kvs)) {r : Addr} (hr : H' r = none) : H r = none := by
  cases e : H r with
  | none => rfl
  | some o =>
    by_cases z : r = c
    · rw [z, h.lock] at hr; cases hr
    · rw [h.same r o z e] at hr; cases hr
theorem Cop.start {H : Hp} {c p : Addr} {od : Obj} {kvs : List (Key × V)} {cs : Cells} (hc : H c = some (.dK kvs)) (hp : H p = none) : Cop H c p od kvs cs 0 (upd (upd H p (.dK [])) c (.frz od (.dK kvs))) := by
  have hne : c ≠ p := ne_of_none hc hp
  exact ⟨fun b o n e => by rw [upd_ne n, upd_ne (ne_of_none e hp)]; exact e, upd_same, hp, [], by rw [upd_ne hne.symm]; exact upd_same, True.intro⟩
/-- one entry more: H2 keeps all but p -/
theorem Cop.turn {H : Hp} {c p : Addr} {od : Obj} {kvs ks : List (Key × V)} {cs : Cells} {i : Nat} {H' H2 : Hp} {x : Nm} {d : Cell} {v : V} (h : Cop H c p od kvs cs i H') (hi : cs[i]? = some (x, d)) (hp : H' p = some (.dK ks)) (hks : KvsV (Nw H H') (cs.take i) ks)
    (s : Same H' H2) (hv : CellV (Nw H H2) d v) : Cop H c p od kvs cs (i + 1) (upd H2 p (.dK (ks ++ [(.inr x, v)]))) := by
  have hne : c ≠ p := fun z => by have := h.lock; rw [z, hp] at this; cases this
  have hl : ∀ a xs, Nw H H2 a = some (.lst xs) → Nw H (upd H2 p (.dK (ks ++ [(.inr x, v)]))) a = some (.lst xs) := fun a xs e => by
    obtain ⟨e1, e2⟩ := of_nw e
    refine nw_at e1 ?_
    rw [upd_ne (fun z => by rw [z, s _ _ hp] at e2; cases e2)]
    exact e2
  have hl2 : ∀ a xs, Nw H H' a = some (.lst xs) → Nw H H2 a = some (.lst xs) := fun a xs e => by
    obtain ⟨e1, e2⟩ := of_nw e
    exact nw_at e1 (s _ _ e2)
  refine ⟨fun b o n e => ?_, by rw [upd_ne hne]; exact s _ _ h.lock, h.free, _, upd_same, ?_⟩
  · rw [upd_ne (ne_of_none e h.free)]
    exact s _ _ (h.same b o n e)
  · rw [take_snoc hi]
    refine KvsV.snoc ?_ ((hks.lst hl2).lst hl)
    cases d with
    | one n => exact hv
    | many l =>
      obtain ⟨q, h1, h2⟩ := hv
      exact ⟨q, h1, hl _ _ h2⟩
/-- unlocked, all stands as it stood, the copy is new -/
theorem Cop.done {H : Hp} {c p : Addr} {od : Obj} {kvs : List (Key × V)} {cs : Cells} {H' : Hp} (h : Cop H c p od kvs cs cs.length H') (hc : H c = some (.dK kvs)) : Same H (upd H' c (.dK kvs)) ∧ CsV (Nw H (upd H' c (.dK kvs))) p cs := by
  have hne : c ≠ p := ne_of_none hc h.free
  obtain ⟨ks, h1, h2⟩ := h.made
  refine ⟨fun b o e => ?_, ks, nw_at h.free (by rw [upd_ne hne.symm]; exact h1), ?_⟩
  · by_cases z : b = c
    · subst z
      rw [upd_same, ← e, hc]
    · rw [upd_ne z]
      exact h.same b o z e
  · rw [List.take_length] at h2
    refine h2.lst fun a xs e => ?_
    obtain ⟨e1, e2⟩ := of_nw e
    refine nw_at e1 ?_
    rw [upd_ne (fun z => by rw [z, hc] at e1; cases e1)]
    exact e2
theorem dget_lock {H' : Hp} {c : Addr} {od : Obj} {kvs : List (Key × V)} {x : Nm} {v : V} (h : H' c = some (.frz od (.dK kvs))) (g : valV kvs (.inr x) = some v) : DGet H' c (.str x) (some v) := .inl ⟨kvs, .inr x, .inr ⟨od, h⟩, rfl, g.symm⟩
theorem val_at {κ : Type} [DecidableEq κ] : ∀ {kvs : List (κ × V)} {i : Nat} {k : κ} {v : V}, (kvs.map (·.1)).Nodup → kvs[i]? = some (k, v) → valV kvs k = some v
  | [], _, _, _, _, e => by simp at e
  | (k', u) :: t, 0, k, v, _, e => by
    have e' : (k', u) = (k, v) := Option.some.inj e
    cases e'
    exact valV_pos rfl
  | (k', u) :: t, i + 1, k, v, hn, e => by
    have hn' : (k' :: t.map (·.1)).Nodup := hn
    obtain ⟨n1, n2⟩ := List.nodup_cons.mp hn'
    have m : k ∈ t.map (·.1) := List.mem_map.mpr ⟨(k, v), List.mem_of_getElem? e, rfl⟩
    rw [valV_neg (fun z => n1 (by rw [show k' = k from z]; exact m))]
    exact val_at n2 e
theorem kvs_nd {H : Hp} : ∀ {cs : Cells} {kvs : List (Key × V)}, KvsV H cs kvs → (cs.map (·.1)).Nodup → (kvs.map (·.1)).Nodup
  | [], [], _, _ => List.nodup_nil
  | [], _ :: _, h, _ => h.elim
  | (y, c) :: r, [], h, _ => h.elim
  | (y, c) :: r, (k, v) :: t, h, hn => by
    obtain ⟨rfl, h2, h3⟩ := h
    have hn' : (y :: r.map (·.1)).Nodup := hn
    obtain ⟨n1, n2⟩ := List.nodup_cons.mp hn'
    show ((Sum.inr y : Key) :: t.map (·.1)).Nodup
    refine List.nodup_cons.mpr ⟨fun m => ?_, kvs_nd h3 n2⟩
    obtain ⟨⟨k, u⟩, hm, e⟩ := List.mem_map.mp m
    have e' : k = .inr y := e
    subst e'
    obtain ⟨i, hi⟩ := List.mem_iff_getElem?.mp hm
    obtain ⟨z, d, hz, e2, _⟩ := kvs_at h3 hi
    cases e2
    exact n1 (List.mem_map.mpr ⟨(y, d), List.mem_of_getElem? hz, rfl⟩)
theorem ok_copied_cells (T : Top K mg C) (k : Nat) : Cal P w K mg base "copied_cells" ["cells"] (k + 1) spCopy := by
  refine T.d_copied_cells.ok sc_copied_cells (fun _ _ _ _ _ _ us hl => match us, hl with | [_], _ => rfl) (fun vs H Q E h => ?_) (fun f cdv A outer s H vs Q E hr h => ?_)
  · obtain ⟨c, cs, rfl, _⟩ := h
    rfl
  · obtain ⟨c, cs, rfl, ⟨kvs, hc, hkv⟩, hnd, hlen, q⟩ := h
    refine ⟨_, (pss_cons (ps_set (i := 1) sc_copied_cells.nd rfl (Or.inl rfl) pe_dnewK)
      (pss_cons (ps_lock (ps_for PassesOwn.never rfl (pi_keys (pv 0)) (pg_name (i := 2) sc_copied_cells.nd rfl (Or.inl rfl)) (pss_cons (ps_dput (hu_of hr) (pv 1) (pv 2) (pe_dget (hu_of hr) (pv 0) (pv 2) (fun _ _ => rfl)) rfl)
      (pss_one (ps_if (pt_val (pe_callB call_isi rfl T.isinstance_ (by decide +kernel) (pa_cons (pe_dget (hu_of hr) (pv 0) (pv 2) (fun _ _ => rfl)) (pa_cons (pe_bltn (v := .ty "list") (u := .type "list") rfl T.list_ (by decide +kernel) rfl) pa_nil)))) (pss_one (ps_dput (hu_of hr) (pv 1) (pv 2) (pe_callTy call_list_of rfl T.list_ (by decide +kernel) (pa_cons (pe_dget (hu_of hr) (pv 0) (pv 2) (fun _ _ => rfl)) pa_nil)) rfl)) pss_nil)))))
      (pss_one (ps_ret (pv 1))))), ?_⟩
    have hl1 := hkv.len
    refine fun p hp => ⟨c, .dK kvs, (by rw [upd_ne (ne_of_none hc hp)]; exact hc), True.intro, fun od => ?_⟩
    refine ⟨_, rfl, c, od, rfl, .inl ⟨kvs, upd_same, for_any (n := kvs.length) (fun i σ H' => ∃ v, σ = [some (.ref c), some (.ref p), v] ∧ Cop H c p od kvs cs i H') ⟨none, rfl, Cop.start hc hp⟩ ?_ ?_⟩⟩
    · rintro i σ H' hi ⟨v, rfl, h⟩
      refine ⟨⟨h.lock, hi⟩, ?_⟩
      rintro x H2 ⟨rfl, kk, vv, hk, rfl⟩
      obtain ⟨nm, d, hcs, rfl, hd⟩ := kvs_at hkv hk
      have hg := val_at (kvs_nd hkv hnd) hk
      obtain ⟨ks, hpk, hks⟩ := h.made
      have hno : valV ks (.inr nm) = none := kvs_no hks (take_no hnd hcs)
      have hkl : ks.length < sizeLine := by
        have := hks.len
        rw [List.length_take] at this
        exact szl (by omega)
      have hcp : c ≠ p := ne_of_none hc hp
      refine ⟨_, rfl, _, rfl, c, vv, rfl, dget_lock h.lock hg, _, rfl, _, rfl, p, _, rfl, .inl ⟨ks, .inr nm, hpk, rfl, hkl, rfl⟩, ?_⟩
      have hlk : (upd H2 p (.dK (putK ks (.inr nm) vv))) c = some (.frz od (.dK kvs)) := by rw [upd_ne hcp]; exact h.lock
      refine ⟨_, rfl, _, rfl, c, vv, rfl, dget_lock hlk hg, ?_⟩
      have e1 : putK ks (.inr nm) vv = ks ++ [(.inr nm, vv)] := putK_new vv hno
      cases d with
      | one n =>
        obtain rfl : vv = .int n := hd
        refine ⟨_, _, .type "int", .type "list", false, rfl, .ty "list", .base (.int n), kit_ty (by decide +kernel), false, rfl, ?_⟩
        refine iteF ?_
        rw [e1]
        exact ⟨_, rfl, h.turn hcs hpk hks (Same.refl _) rfl⟩
      | many l =>
        obtain ⟨b, rfl, hb⟩ := hd
        have hb2 := h.lsts hc _ _ hb
        have hbp : b ≠ p := fun z => by rw [z, hp] at hb; cases hb
        have hb3 : (upd H2 p (.dK (putK ks (.inr nm) (.ref b)))) b = some (.lst (il l)) := by rw [upd_ne hbp]; exact hb2
        refine ⟨_, _, .type "list", .type "list", true, rfl, .ty "list", .base (.lst hb3), kit_ty (by decide +kernel), true, rfl, ?_⟩
        refine iteT ?_
        refine ⟨_, rfl, _, rfl, c, _, rfl, dget_lock hlk hg, b, _, rfl, .inl (SqL.of hb3), fun r hr2 => ?_⟩
        have hrp : r ≠ p := fun z => by rw [z, upd_same] at hr2; cases hr2
        have hr3 : H2 r = none := by rw [upd_ne hrp] at hr2; exact hr2
        refine ⟨_, rfl, _, rfl, p, _, rfl, .inl ⟨putK ks (.inr nm) (.ref b), .inr nm, by rw [upd_ne hrp.symm]; exact upd_same, rfl, ?_, rfl⟩, ?_⟩
        · have := length_putK ks (.inr nm) (.ref b)
          have h2 := hks.len
          rw [List.length_take] at h2
          exact szl (by omega)
        · rw [e1, putK_snoc hno]
          refine ⟨_, rfl, ?_⟩
          have hr4 : H r = none := fresh_of h hc hr3
          have t := h.turn hcs hpk hks (same_new hr3 (.lst (il l))) (v := .ref r) ⟨r, rfl, nw_at hr4 upd_same⟩
          have e2 : upd (upd (upd H2 p (.dK (ks ++ [(.inr nm, .ref b)]))) r (.lst (il l))) p (.dK (ks ++ [(.inr nm, .ref r)])) = upd (upd H2 r (.lst (il l))) p (.dK (ks ++ [(.inr nm, .ref r)])) := by
            funext z
            by_cases z1 : z = p
            · rw [z1, upd_same, upd_same]
            · rw [upd_ne z1, upd_ne z1]
              by_cases z2 : z = r
              · rw [z2, upd_same, upd_same]
              · rw [upd_ne z2, upd_ne z2, upd_ne z1]
          rw [e2]
          exact t
    · rintro σ H' ⟨v, rfl, h⟩
      refine ⟨⟨h.lock, Nat.le_refl _⟩, h.lock, ?_⟩
      rw [hl1] at h
      obtain ⟨s1, s2⟩ := h.done hc
      exact ⟨_, rfl, q p _ s1 hp s2⟩
theorem ok_l_copy (T : Top K mg C) (k : Nat) : Cal P w K mg base "_law_copy" ["_law_cells"] (k + 1) spCopy := by
  refine T.d_l_copy.ok sc_l_copy (fun _ _ _ _ _ _ us hl => match us, hl with | [_], _ => rfl) (fun vs H Q E h => ?_) (fun f cdv A outer s H vs Q E hr h => ?_)
  · obtain ⟨c, cs, rfl, _⟩ := h
    rfl
  · obtain ⟨c, cs, rfl, ⟨kvs, hc, hkv⟩, hnd, hlen, q⟩ := h
    refine ⟨_, (pss_cons (ps_set (i := 1) sc_l_copy.nd rfl (Or.inl rfl) pe_dnewK)
      (pss_cons (ps_lock (ps_for PassesOwn.never rfl (pi_keys (pv 0)) (pg_name (i := 2) sc_l_copy.nd rfl (Or.inl rfl)) (pss_one (ps_dput (hu_of hr) (pv 1) (pv 2) (pe_ifExp (pt_val (pe_callB call_isi rfl T.isinstance_ (by decide +kernel) (pa_cons (pe_dget (hu_of hr) (pv 0) (pv 2) (fun _ _ => rfl)) (pa_cons (pe_bltn (v := .ty "list") (u := .type "list") rfl T.list_ (by decide +kernel) rfl) pa_nil)))) (pe_callTy call_list_of rfl T.list_ (by decide +kernel) (pa_cons (pe_dget (hu_of hr) (pv 0) (pv 2) (fun _ _ => rfl)) pa_nil)) (pe_dget (hu_of hr) (pv 0) (pv 2) (fun _ _ => rfl))) rfl))))
      (pss_one (ps_ret (pv 1))))), ?_⟩
    have hl1 := hkv.len
    refine fun p hp => ⟨c, .dK kvs, (by rw [upd_ne (ne_of_none hc hp)]; exact hc), True.intro, fun od => ?_⟩
    refine ⟨_, rfl, c, od, rfl, .inl ⟨kvs, upd_same, for_any (n := kvs.length) (fun i σ H' => ∃ v, σ = [some (.ref c), some (.ref p), v] ∧ Cop H c p od kvs cs i H') ⟨none, rfl, Cop.start hc hp⟩ ?_ ?_⟩⟩
    · rintro i σ H' hi ⟨v, rfl, h⟩
      refine ⟨⟨h.lock, hi⟩, ?_⟩
      rintro x H2 ⟨rfl, kk, vv, hk, rfl⟩
      obtain ⟨nm, d, hcs, rfl, hd⟩ := kvs_at hkv hk
      have hg := val_at (kvs_nd hkv hnd) hk
      obtain ⟨ks, hpk, hks⟩ := h.made
      have hno : valV ks (.inr nm) = none := kvs_no hks (take_no hnd hcs)
      have hkl : ks.length < sizeLine := by
        have := hks.len
        rw [List.length_take] at this
        exact szl (by omega)
      refine ⟨_, rfl, _, rfl, c, vv, rfl, dget_lock h.lock hg, ?_⟩
      cases d with
      | one n =>
        obtain rfl : vv = .int n := hd
        refine ⟨_, _, .type "int", .type "list", false, rfl, .ty "list", .base (.int n), kit_ty (by decide +kernel), false, rfl, ?_⟩
        refine iteF ?_
        refine ⟨_, rfl, _, rfl, c, _, rfl, dget_lock h.lock hg, _, rfl, _, rfl, p, _, rfl, .inl ⟨ks, .inr nm, hpk, rfl, hkl, rfl⟩, _, rfl, ?_⟩
        rw [putK_new _ hno]
        exact h.turn hcs hpk hks (Same.refl _) rfl
      | many l =>
        obtain ⟨b, rfl, hb⟩ := hd
        have hb2 := h.lsts hc _ _ hb
        refine ⟨_, _, .type "list", .type "list", true, rfl, .ty "list", .base (.lst hb2), kit_ty (by decide +kernel), true, rfl, ?_⟩
        refine iteT ?_
        refine ⟨_, rfl, _, rfl, c, _, rfl, dget_lock h.lock hg, b, _, rfl, .inl (SqL.of hb2), fun r hr2 => ?_⟩
        have hrp : r ≠ p := fun z => by rw [z, hpk] at hr2; cases hr2
        refine ⟨_, rfl, _, rfl, p, _, rfl, .inl ⟨ks, .inr nm, by rw [upd_ne hrp.symm]; exact hpk, rfl, hkl, rfl⟩, _, rfl, ?_⟩
        rw [putK_new _ hno]
        exact h.turn hcs hpk hks (same_new hr2 (.lst (il l))) (v := .ref r) ⟨r, rfl, nw_at (fresh_of h hc hr2) upd_same⟩
    · rintro σ H' ⟨v, rfl, h⟩
      refine ⟨⟨h.lock, Nat.le_refl _⟩, h.lock, ?_⟩
      rw [hl1] at h
      obtain ⟨s1, s2⟩ := h.done hc
      exact ⟨_, rfl, q p _ s1 hp s2⟩
end
end GT
/-! begin, next_given, do_put, do_plain -/
namespace GT
open PySem PySem.Spec PyProof.Rows L2
theorem sc_g_begin : FnScope ["self", "number"] ["self", "number"] (defScope s_g_begin) := ⟨rfl, rfl, rfl, by decide +kernel, rfl, by decide +kernel, by decide +kernel⟩
theorem sc_g_next_given : FnScope ["self"] ["self"] (defScope s_g_next_given) := ⟨rfl, rfl, rfl, by decide +kernel, rfl, by decide +kernel, by decide +kernel⟩
theorem sc_do_put : FnScope ["going", "row", "items", "number", "place"] ["going", "row"] (defScope s_do_put) := ⟨rfl, rfl, rfl, by decide +kernel, rfl, by decide +kernel, by decide +kernel⟩
theorem sc_do_plain : FnScope ["going", "row", "number"] ["going", "row"] (defScope s_do_plain) := ⟨rfl, rfl, rfl, by decide +kernel, rfl, by decide +kernel, by decide +kernel⟩
section
variable {P : Program} {w : World} {K : PySem.W.Frag} {mg : Str → Option Value} {base : Heap} {C : Addr}
def spBegin (C : Addr) : Sp := fun vs H Q _ => ∃ (d : Gd) (as : List Addr) (s : Sta) (n : Nat), vs = [.ref d.g, .int n] ∧ GoAt C d as H s ∧ (s.cs.map (·.1)).Nodup ∧ s.cs.length ≤ 1000 ∧ s.steps.length ≤ 10000 ∧
  (s.steps.length = d.most → Q (.bl false) H) ∧ (s.steps.length ≠ d.most → ∀ H', GoAt C d as H' (mark n s) → But (muts d as) H H' → Q (.bl true) H')
theorem ok_g_begin (T : Top K mg C) {k : Nat} (c_copied_cells : Cal P w K mg base "copied_cells" ["cells"] k spCopy) : CalM P w K mg base C "begin" ["self", "number"] (k + 1) (spBegin C) := by
  refine T.d_g_begin.ok sc_g_begin (fun _ _ _ _ _ _ us hl => match us, hl with | [_, _], _ => rfl) (fun vs H Q E h => ?_) (fun f cdv A outer s H vs Q E hr h => ?_)
  · obtain ⟨d, as, s, n, rfl, _⟩ := h
    rfl
  · obtain ⟨d, as, s, n, rfl, h, hnd, hcl, hsl, q1, q2⟩ := h
    refine ⟨_, (pss_cons (ps_if (pt_cmpR op_eq (pe_callB call_len_seq rfl T.len_ (by decide +kernel) (pa_cons (pe_fld (pv 0) rfl) pa_nil)) (pe_fld (pv 0) rfl) (nomark _)) (pss_one (ps_ret pe_bl)) pss_nil)
      (pss_cons (ps_expr (pe_bm PySem.F.plainAttrs_list PySem.F.slot_list_append PySem.F.type_list_append mt_append (pe_fld (pv 0) rfl) (pa_cons (pe_tup (pa_cons (pv 1) (pa_cons (pe_cl c_copied_cells hr rfl (pa_cons (pe_fld (pv 0) rfl) pa_nil)) (pa_cons (pe_callTy call_list_of rfl T.list_ (by decide +kernel) (pa_cons (pe_fld (pv 0) rfl) pa_nil)) pa_nil)))) pa_nil)))
      (pss_one (ps_ret pe_bl)))), ?_⟩
    obtain ⟨vs, hs, hsv⟩ := h.stp
    have hvl := hsv.len
    refine ⟨_, rfl, d.g, C, d.dx, _, _, rfl, h.ob, T.cls, T.n_steps, gf_steps d, d.st, vs, rfl, .inl (SqL.of hs), _, rfl, d.g, C, d.dx, _, _, rfl, h.ob, T.cls, T.n_most, gf_most d, rfl, _, rfl, ifD (fun c => ?_) (fun c => ?_)⟩
    · refine q1 ?_
      have c' := V.int.inj c
      rw [hvl] at c'
      exact Int.ofNat.inj c'
    · have hne : s.steps.length ≠ d.most := fun z => c (by rw [hvl, z])
      refine ⟨_, rfl, d.g, C, d.dx, _, _, rfl, h.ob, T.cls, T.n_steps, gf_steps d, .inl ⟨rfl, _, SqL.of hs⟩, _, rfl, _, rfl, d.g, C, d.dx, _, _, rfl, h.ob, T.cls, T.n_cells, gf_cells d, ?_⟩
      refine ⟨d.c, s.cs, rfl, h.csv, hnd, hcl, fun p H1 s1 hp k1 => ?_⟩
      have h1 := h.same s1
      refine ⟨_, rfl, d.g, C, d.dx, _, _, rfl, h1.ob, T.cls, T.n_told, gf_told d, d.t, _, rfl, .inl (SqL.of h1.told), fun l hl => ⟨(by show 3 ≤ sizeLine; decide), fun r hr2 => ?_⟩⟩
      have s2 := same_new hl (.lst (il s.told))
      have s3 := same_new hr2 (.tup [.int n, .ref p, .ref l])
      have hs3 := s3 _ _ (s2 _ _ (s1 _ _ hs))
      refine ⟨d.st, vs, _, rfl, rfl, hs3, szl (by omega), ?_⟩
      refine q2 hne _ (h.mark (n := n) (p := p) (q := l) (r := r) (s1.trans (s2.trans s3)) hs hp (s1.free hl) (s1.free (s2.free hr2)) ?_ (s3 _ _ upd_same) upd_same) ?_
      · exact ((k1.mono (nw_wo h.al)).mono (Same.wo (s2.trans s3)))
      · exact (But.of_same (s1.trans (s2.trans s3))).put m_st _
def spNext (C : Addr) : Sp := fun vs H Q _ => ∃ (d : Gd) (as : List Addr) (s : Sta), vs = [.ref d.g] ∧ GoAt C d as H s ∧ (s.left = [] → ∀ H', Same H H' → Q (.int 65535) H') ∧
  (∀ v l, s.left = v :: l → ∀ H', GoAt C d as H' { s with left := l } → But (muts d as) H H' → Q (.int v) H')
theorem ok_g_next_given (T : Top K mg C) (k : Nat) : CalM P w K mg base C "next_given" ["self"] (k + 1) (spNext C) := by
  obtain ⟨tL, gLACKING⟩ := T.LACKING_
  refine T.d_g_next_given.ok sc_g_next_given (fun _ _ _ _ _ _ us hl => match us, hl with | [_], _ => rfl) (fun vs H Q E h => ?_) (fun f cdv A outer s H vs Q E hr h => ?_)
  · obtain ⟨d, as, s, rfl, _⟩ := h
    rfl
  · obtain ⟨d, as, s, rfl, h, q1, q2⟩ := h
    refine ⟨_, (pss_cons (ps_if (pt_cmpR (op_eqD hr.units) (pe_fld (pv 0) rfl) (pe_lst pa_nil) (nomark _)) (pss_one (ps_ret (pe_glob (v := .int 65535) rfl gLACKING ⟨_, rfl⟩))) pss_nil)
      (pss_one (ps_ret (pe_bm PySem.F.plainAttrs_list PySem.F.slot_list_pop PySem.F.type_list_pop mt_popAt (pe_fld (pv 0) rfl) (pa_cons pe_int pa_nil))))), ?_⟩
    refine ⟨_, rfl, d.g, C, d.dx, _, _, rfl, h.ob, T.cls, T.n_left, gf_left d, (by show 0 ≤ sizeLine; decide), fun e he => ?_⟩
    have s1 := same_new he (.lst ([] : List V))
    have h1 := h.same s1
    refine ⟨_, _, .lst (SqL.of h1.left) (dp_il _), .lst (SqL.of upd_same) (dp_il []), shaped_il _, shaped_il [], _, rfl, ?_⟩
    rw [show PyData.eqv (.list (dI s.left)) (.list (dI [])) = decide (s.left = []) from eqv_l _ _]
    refine ifD (fun c => ?_) (fun c => ?_)
    · exact q1 c _ s1
    · cases hl : s.left with
      | nil => exact absurd hl c
      | cons v l =>
        have hh := h1.left
        rw [hl] at hh
        refine ⟨_, rfl, d.g, C, d.dx, _, _, rfl, h1.ob, T.cls, T.n_left, gf_left d, .inl ⟨rfl, _, SqL.of hh⟩, d.l, _, 0, 0, _, rfl, rfl, hh, (by decide), (by decide), ?_, rfl, ?_⟩
        · show seqIndex? 0 (il (v :: l)).length = some 0
          unfold seqIndex?
          simp
        · exact q2 v l hl _ (h1.leave l) ((But.of_same s1).put m_l _)
theorem ixN_in {n : Nat} {i : Int} (h0 : 0 ≤ i) (h : i.toNat < n) : ixN n i = some i.toNat := by
  unfold ixN
  rw [if_pos h0, if_pos (by omega)]
theorem il_set (l : List Int) (j : Nat) (v : Int) : (il l).set j (.int v) = il (l.set j v) := by rw [il, il, List.map_set]
def endS : End → Str
  | .go => ""
  | .ended => "ended"
  | .fault => "fault"
  | .going => "going"
structure Typ (G : Env) (s : Sta) : Prop where
  cs : CsOk G s.cs
  nd : (G.map (·.1)).Nodup
  told : s.told.length ≤ 10000
  len : G.length ≤ 1000
theorem Typ.keys {G : Env} {s : Sta} (t : Typ G s) : (s.cs.map (·.1)).Nodup := by rw [cs_keys t.cs]; exact t.nd
def spPlain (C : Addr) : Sp := fun vs H Q _ => ∃ (d : Gd) (as : List Addr) (s : Sta) (G : Env) (p : Pl) (row : V) (T : Hp), vs = [.ref d.g, row] ∧ GoAt C d as H s ∧ Typ G s ∧ Same T H ∧ (∀ m ∈ muts d as, T m = none) ∧ PlV T p row ∧ PlOk G p ∧
  ∀ H', GoAt C d as H' (act p s).2 → But (muts d as) H H' → Q (.str (endS (act p s).1)) H'
def spPut (C : Addr) : Sp := fun vs H Q _ => ∃ (d : Gd) (as : List Addr) (s : Sta) (G : Env) (x : Nm) (i e : Ex) (row : V) (T : Hp), vs = [.ref d.g, row] ∧ GoAt C d as H s ∧ Typ G s ∧ Same T H ∧ PlV T (.put x i e) row ∧ PlOk G (.put x i e) ∧
  ∀ H', GoAt C d as H' (act (.put x i e) s).2 → But (muts d as) H H' → Q (.str (endS (act (.put x i e) s).1)) H'
theorem ok_do_put (T0 : Top K mg C) {k : Nat} (c_worth : Cal P w K mg base "worth" ["cells", "expr"] k (spWorth 7)) (c_item_of : Cal P w K mg base "item_of" ["items", "place"] k spItem) : Cal P w K mg base "do_put" ["going", "row"] (k + 1) (spPut C) := by
  have T := T0
  refine T.d_do_put.ok sc_do_put (fun _ _ _ _ _ _ us hl => match us, hl with | [_, _], _ => rfl) (fun vs H Q E h => ?_) (fun f cdv A outer s0 H vs Q E hr h => ?_)
  · obtain ⟨d, as, s, G, x, i, e, row, T1, rfl, _⟩ := h
    rfl
  · obtain ⟨d, as, s, G, x, i, e, row, T1, rfl, h, ty, sT, hp, ok, q⟩ := h
    refine ⟨_, (pss_cons (ps_set (i := 2) sc_do_put.nd rfl (Or.inl rfl) (pe_dget (hu_of hr) (pe_fld (pv 0) rfl) (pe_ix ix_tup (pv 1) pe_int (fun _ _ => rfl)) (fun _ _ => rfl)))
      (pss_cons (ps_set (i := 3) sc_do_put.nd rfl (Or.inl rfl) (pe_cl c_worth hr rfl (pa_cons (pe_fld (pv 0) rfl) (pa_cons (pe_ix ix_tup (pv 1) pe_int (fun _ _ => rfl)) pa_nil))))
      (pss_cons (ps_set (i := 4) sc_do_put.nd rfl (Or.inl rfl) (pe_cl c_worth hr rfl (pa_cons (pe_fld (pv 0) rfl) (pa_cons (pe_ix ix_tup (pv 1) pe_int (fun _ _ => rfl)) pa_nil))))
      (pss_cons (ps_if (PW.pt (pw_or (pt_cmpR op_isN (pv 3) pe_non (nomark _)) (pw_or1 (pt_cmpR op_isN (pe_cl c_item_of hr rfl (pa_cons (pv 2) (pa_cons (pv 4) pa_nil))) pe_non (nomark _))))) (pss_one (ps_ret pe_str)) pss_nil)
      (pss_cons (ps_asg (pv 3) (pg_sub (pv 2) (pv 4) set_list))
      (pss_one (ps_ret pe_str))))))), ?_⟩
    obtain ⟨ok1, ok2, ok3, ok4, ok5⟩ := ok
    obtain ⟨u, t, ⟨p, rfl, hp1⟩, hi, he⟩ := hp
    have hp0 := sT _ _ hp1
    obtain ⟨cl, hg, hcl⟩ := cs_get ty.cs ok1
    cases cl with
    | one n => exact hcl.elim
    | many l =>
      obtain ⟨kvs, hc, hk⟩ := h.cs
      obtain ⟨a, ha, hv, hal⟩ := hk.many hg
      have dg : DGet H d.c (.str x) (some (.ref a)) := .inl ⟨kvs, .inr x, .inl hc, rfl, hv.symm⟩
      refine ⟨_, rfl, d.g, C, d.dx, _, _, rfl, h.ob, T.cls, T.n_cells, gf_cells d, _, rfl, p, _, _, _, rfl, rfl, SqT.of hp0, rfl, d.c, _, rfl, dg, ?_⟩
      -- number = worth(going.cells, row[3])
      refine ⟨_, rfl, d.g, C, d.dx, _, _, rfl, h.ob, T.cls, T.n_cells, gf_cells d, _, rfl, p, _, _, _, rfl, rfl, SqT.of hp0, rfl, d.c, _, s.cs, e, G, false, rfl, h.csv, he.mono sT, ty.cs, ok3, by omega, fun H1 s1 => ?_⟩
      have h1 := h.same s1
      -- place = worth(going.cells, row[2])
      refine ⟨_, rfl, d.g, C, d.dx, _, _, rfl, h1.ob, T.cls, T.n_cells, gf_cells d, _, rfl, p, _, _, _, rfl, rfl, SqT.of (s1 _ _ hp0), rfl, d.c, _, s.cs, i, G, false, rfl, h1.csv, hi.mono (sT.trans s1), ty.cs, ok2, by omega, fun H2 s2 => ?_⟩
      have h2 := h1.same s2
      have s12 := s1.trans s2
      have fault : (act (.put x i e) s) = (.fault, s) → Q (.str "fault") H2 := fun z => by
        have q2 := q H2 (by rw [z]; exact h2) (But.of_same s12)
        rw [z] at q2
        exact q2
      cases we : worth s.cs e with
      | none =>
        refine ⟨_, rfl, rfl, _, rfl, ifDT rfl ?_⟩
        exact fault (by simp only [act, we])
      | some v =>
        refine ⟨_, rfl, rfl, _, rfl, ifDF (fun z => nomatch z) ?_⟩
        refine ⟨_, rfl, _, rfl, a, l, worth s.cs i, rfl, s12 _ _ hal, hcl.1, fun j hj => (worth_ok ty.cs ok2 hj).1, rfl, _, rfl, ?_⟩
        cases wi : worth s.cs i with
        | none =>
          refine ifDT rfl ?_
          exact fault (by simp only [act, we, wi])
        | some j =>
          obtain ⟨j0, j1⟩ := (worth_ok ty.cs ok2 wi).1
          by_cases hj : j.toNat < l.length
          · have e1 : ((some j).bind (itemOf l)) = some l[j.toNat] := List.getElem?_eq_getElem hj
            rw [e1]
            refine ifDF (fun z => nomatch z) ?_
            have hjl : j.toNat < (il l).length := by rw [List.length_map]; exact hj
            refine ⟨_, rfl, _, rfl, _, rfl, a, il l, j, j.toNat, rfl, rfl, s12 _ _ hal, ixN_in j0 hjl, ?_⟩
            have ea : act (.put x i e) s = (.go, { s with cs := put s.cs x (.many (l.set j.toNat v)) }) := by
              simp only [act, we, wi, hg]
              rw [if_pos hj]
            obtain ⟨m1, m2, m3⟩ := h2.lst (l' := l.set j.toNat v) ty.keys hg (s12 _ _ hc) hv
            have q2 := q (upd H2 a (.lst (il (l.set j.toNat v)))) (by rw [ea]; exact m3) ((But.of_same s12).put (m_as m1) _)
            rw [ea] at q2
            rw [← il_set] at q2
            exact q2
          · have e1 : ((some j).bind (itemOf l)) = none := List.getElem?_eq_none (by omega)
            rw [e1]
            refine ifDT rfl ?_
            exact fault (by simp only [act, we, wi, hg]; rw [if_neg hj])
/-- a name of a kind other than list holds a number -/
theorem one_of {G : Env} {cs : Cells} (h : CsOk G cs) {x : Nm} {k : Kd} (hk : kd G x = some k) (hl : k ≠ .list) : ∃ n, get cs x = some (.one n) := by
  obtain ⟨c, h1, h2⟩ := cs_get h hk
  cases c with
  | one n => exact ⟨n, h1⟩
  | many l => cases k <;> first | exact h2.elim | exact absurd rfl hl
theorem ok_do_plain (T0 : Top K mg C) {k : Nat} (c_worth : Cal P w K mg base "worth" ["cells", "expr"] k (spWorth 7)) (c_do_put : Cal P w K mg base "do_put" ["going", "row"] k (spPut C)) (c_next_given : CalM P w K mg base C "next_given" ["self"] k (spNext C)) :
    Cal P w K mg base "do_plain" ["going", "row"] (k + 1) (spPlain C) := by
  have T := T0
  refine T.d_do_plain.ok sc_do_plain (fun _ _ _ _ _ _ us hl => match us, hl with | [_, _], _ => rfl) (fun vs H Q E h => ?_) (fun f cdv A outer s0 H vs Q E hr h => ?_)
  · obtain ⟨d, as, s, G, p, row, T1, rfl, _⟩ := h
    rfl
  · obtain ⟨d, as, s, G, pl, row, T1, rfl, h, ty, sT, hT, hp, ok, q⟩ := h
    refine ⟨_, (pss_cons (ps_if (pt_cmpR op_eq (pe_ix ix_tup (pv 1) pe_int (fun _ _ => rfl)) pe_str (nomark _)) (pss_one (ps_ret pe_str)) pss_nil)
      (pss_cons (ps_if (pt_cmpR op_eq (pe_ix ix_tup (pv 1) pe_int (fun _ _ => rfl)) pe_str (nomark _)) (pss_one (ps_ret pe_str)) pss_nil)
      (pss_cons (ps_if (pt_cmpR op_eq (pe_ix ix_tup (pv 1) pe_int (fun _ _ => rfl)) pe_str (nomark _)) (pss_one (ps_ret (pe_cl c_do_put hr rfl (pa_cons (pv 0) (pa_cons (pv 1) pa_nil))))) pss_nil)
      (pss_cons (ps_if (pt_cmpR op_eq (pe_ix ix_tup (pv 1) pe_int (fun _ _ => rfl)) pe_str (nomark _)) (pss_cons (ps_dput (hu_of hr) (pe_fld (pv 0) rfl) (pe_ix ix_tup (pv 1) pe_int (fun _ _ => rfl)) (pe_ml0 (pv 0) T.cls c_next_given hr) rfl)
      (pss_one (ps_ret pe_str))) pss_nil)
      (pss_cons (ps_set (i := 2) sc_do_plain.nd rfl (Or.inl rfl) (pe_cl c_worth hr rfl (pa_cons (pe_fld (pv 0) rfl) (pa_cons (pe_ix ix_tup (pv 1) (pe_un un_neg pe_int) (fun _ _ => rfl)) pa_nil))))
      (pss_cons (ps_if (pt_cmpR op_isN (pv 2) pe_non (nomark _)) (pss_one (ps_ret pe_str)) pss_nil)
      (Evl.pss_cut (ps_if (pt_cmpR op_eq (pe_ix ix_tup (pv 1) pe_int (fun _ _ => rfl)) pe_str (nomark _)) (pss_one (ps_expr (pe_bm PySem.F.plainAttrs_list PySem.F.slot_list_append PySem.F.type_list_append mt_append (pe_fld (pv 0) rfl) (pa_cons (pv 2) pa_nil)))) (pss_one (ps_dput (hu_of hr) (pe_fld (pv 0) rfl) (pe_ix ix_tup (pv 1) pe_int (fun _ _ => rfl)) (pv 2) rfl)))
      (pss_one (ps_ret pe_str))))))))), ?_⟩
    have dput : ∀ (H1 : Hp) (s1 : Sta) (x : Nm) (v : Int), GoAt C d as H1 s1 → CsOk G s1.cs → But (muts d as) H H1 → (∃ n, get s1.cs x = some (.one n)) → ∃ H2, DPut H1 d.c (.str x) (.int v) H2 ∧ GoAt C d as H2 { s1 with cs := put s1.cs x (.one v) } ∧ But (muts d as) H H2 := fun H1 s1 x v h1 oc b ⟨n, hg⟩ => by
      obtain ⟨kvs, hc, hk⟩ := h1.cs
      have hl : kvs.length < sizeLine := by
        have z := hk.kvs.len
        have y := cs_len oc
        have u := ty.len
        exact szl (by omega)
      exact ⟨_, .inl ⟨kvs, .inr x, hc, rfl, hl, rfl⟩, h1.set (by rw [cs_keys oc]; exact ty.nd) hg hc, b.put m_c _⟩
    cases pl with
    | stop =>
      obtain ⟨p, rfl, hp1⟩ := hp
      have hp0 := sT _ _ hp1
      refine ⟨_, rfl, p, _, _, _, rfl, rfl, SqT.of hp0, rfl, rfl, _, rfl, ifDT rfl ?_⟩
      exact q H h (But.refl _ _)
    | way =>
      obtain ⟨p, rfl, hp1⟩ := hp
      have hp0 := sT _ _ hp1
      refine ⟨_, rfl, p, _, _, _, rfl, rfl, SqT.of hp0, rfl, rfl, _, rfl, ifDF (str_ne (by decide +kernel)) ?_⟩
      refine ⟨_, rfl, p, _, _, _, rfl, rfl, SqT.of hp0, rfl, rfl, _, rfl, ifDT rfl ?_⟩
      exact q H h (But.refl _ _)
    | put x i e =>
      obtain ⟨u, t, ⟨p, rfl, hp1⟩, hi, he⟩ := id hp
      have hp0 := sT _ _ hp1
      refine ⟨_, rfl, p, _, _, _, rfl, rfl, SqT.of hp0, rfl, rfl, _, rfl, ifDF (str_ne (by decide +kernel)) ?_⟩
      refine ⟨_, rfl, p, _, _, _, rfl, rfl, SqT.of hp0, rfl, rfl, _, rfl, ifDF (str_ne (by decide +kernel)) ?_⟩
      refine ⟨_, rfl, p, _, _, _, rfl, rfl, SqT.of hp0, rfl, rfl, _, rfl, ifDT rfl ?_⟩
      exact ⟨_, rfl, _, rfl, d, as, s, G, x, i, e, _, T1, rfl, h, ty, sT, hp, ok, q⟩
    | ask x =>
      obtain ⟨p, rfl, hp1⟩ := hp
      have hp0 := sT _ _ hp1
      refine ⟨_, rfl, p, _, _, _, rfl, rfl, SqT.of hp0, rfl, rfl, _, rfl, ifDF (str_ne (by decide +kernel)) ?_⟩
      refine ⟨_, rfl, p, _, _, _, rfl, rfl, SqT.of hp0, rfl, rfl, _, rfl, ifDF (str_ne (by decide +kernel)) ?_⟩
      refine ⟨_, rfl, p, _, _, _, rfl, rfl, SqT.of hp0, rfl, rfl, _, rfl, ifDF (str_ne (by decide +kernel)) ?_⟩
      refine ⟨_, rfl, p, _, _, _, rfl, rfl, SqT.of hp0, rfl, rfl, _, rfl, ifDT rfl ?_⟩
      have ex := one_of ty.cs ok (fun z => nomatch z)
      refine ⟨_, rfl, d.g, d.dx, _, rfl, h.ob, gf_no d (by decide +kernel), d, as, s, rfl, h, fun hl H1 s1 => ?_, fun v l hl H1 h1 b1 => ?_⟩
      · obtain ⟨H2, hd, h2, b2⟩ := dput H1 s x 65535 (h.same s1) ty.cs (But.of_same s1) ex
        refine ⟨_, rfl, d.g, C, d.dx, _, _, rfl, (h.same s1).ob, T.cls, T.n_cells, gf_cells d, _, rfl, p, _, _, _, rfl, rfl, SqT.of (s1 _ _ hp0), rfl, d.c, H2, rfl, hd, ?_⟩
        have ea : act (.ask x) s = (.go, { s with cs := put s.cs x (.one 65535) }) := by simp only [act, hl]
        have q2 := q H2 (by rw [ea]; exact h2) b2
        rw [ea] at q2
        exact q2
      · obtain ⟨H2, hd, h2, b2⟩ := dput H1 _ x v h1 ty.cs b1 ex
        have hpn : ¬ p ∈ muts d as := fun z => by rw [hT p z] at hp1; cases hp1
        refine ⟨_, rfl, d.g, C, d.dx, _, _, rfl, h1.ob, T.cls, T.n_cells, gf_cells d, _, rfl, p, _, _, _, rfl, rfl, SqT.of (b1 _ _ hpn hp0), rfl, d.c, H2, rfl, hd, ?_⟩
        have ea : act (.ask x) s = (.go, { s with cs := put s.cs x (.one v), left := l }) := by simp only [act, hl]
        have q2 := q H2 (by rw [ea]; exact h2) b2
        rw [ea] at q2
        exact q2
    | tell e =>
      obtain ⟨u, ⟨p, rfl, hp1⟩, he⟩ := hp
      have hp0 := sT _ _ hp1
      refine ⟨_, rfl, p, _, _, _, rfl, rfl, SqT.of hp0, rfl, rfl, _, rfl, ifDF (str_ne (by decide +kernel)) ?_⟩
      refine ⟨_, rfl, p, _, _, _, rfl, rfl, SqT.of hp0, rfl, rfl, _, rfl, ifDF (str_ne (by decide +kernel)) ?_⟩
      refine ⟨_, rfl, p, _, _, _, rfl, rfl, SqT.of hp0, rfl, rfl, _, rfl, ifDF (str_ne (by decide +kernel)) ?_⟩
      refine ⟨_, rfl, p, _, _, _, rfl, rfl, SqT.of hp0, rfl, rfl, _, rfl, ifDF (str_ne (by decide +kernel)) ?_⟩
      refine ⟨_, rfl, d.g, C, d.dx, _, _, rfl, h.ob, T.cls, T.n_cells, gf_cells d, _, rfl, _, rfl, p, _, _, _, rfl, rfl, SqT.of hp0, rfl, d.c, _, s.cs, e, G, false, rfl, h.csv, he.mono sT, ty.cs, ok.1, by have := ok.2; omega, fun H1 s1 => ?_⟩
      have h1 := h.same s1
      cases we : worth s.cs e with
      | none =>
        refine ⟨_, rfl, rfl, _, rfl, ifDT rfl ?_⟩
        have ea : act (.tell e) s = (.fault, s) := by simp only [act, we]
        have q2 := q H1 (by rw [ea]; exact h1) (But.of_same s1)
        rw [ea] at q2
        exact q2
      | some v =>
        refine ⟨_, rfl, rfl, _, rfl, ifDF (fun z => nomatch z) ?_⟩
        have ea : act (.tell e) s = (.go, { s with told := s.told ++ [v] }) := by simp only [act, we]
        refine ⟨fun σ' H' => GoAt C d as H' { s with told := s.told ++ [v] } ∧ But (muts d as) H H', ?_, ?_⟩
        · refine ⟨_, rfl, p, _, _, _, rfl, rfl, SqT.of (s1 _ _ hp0), rfl, rfl, _, rfl, ifDT rfl ?_⟩
          have htl : (il s.told).length = s.told.length := List.length_map _
          refine ⟨_, rfl, d.g, C, d.dx, _, _, rfl, h1.ob, T.cls, T.n_told, gf_told d, .inl ⟨rfl, _, SqL.of h1.told⟩, _, rfl, d.t, _, _, rfl, rfl, h1.told, szl (by have := ty.told; omega), ?_⟩
          exact ⟨h1.tell v, (But.of_same s1).put m_t _⟩
        · rintro σ' H' ⟨h2, b2⟩
          have q2 := q H' (by rw [ea]; exact h2) b2
          rw [ea] at q2
          exact q2
    | set x e =>
      obtain ⟨u, ⟨p, rfl, hp1⟩, he⟩ := hp
      have hp0 := sT _ _ hp1
      obtain ⟨fl, ok1, ok2, ok3⟩ := ok
      refine ⟨_, rfl, p, _, _, _, rfl, rfl, SqT.of hp0, rfl, rfl, _, rfl, ifDF (str_ne (by decide +kernel)) ?_⟩
      refine ⟨_, rfl, p, _, _, _, rfl, rfl, SqT.of hp0, rfl, rfl, _, rfl, ifDF (str_ne (by decide +kernel)) ?_⟩
      refine ⟨_, rfl, p, _, _, _, rfl, rfl, SqT.of hp0, rfl, rfl, _, rfl, ifDF (str_ne (by decide +kernel)) ?_⟩
      refine ⟨_, rfl, p, _, _, _, rfl, rfl, SqT.of hp0, rfl, rfl, _, rfl, ifDF (str_ne (by decide +kernel)) ?_⟩
      refine ⟨_, rfl, d.g, C, d.dx, _, _, rfl, h.ob, T.cls, T.n_cells, gf_cells d, _, rfl, _, rfl, p, _, _, _, rfl, rfl, SqT.of hp0, rfl, d.c, _, s.cs, e, G, fl, rfl, h.csv, he.mono sT, ty.cs, ok1, by omega, fun H1 s1 => ?_⟩
      have h1 := h.same s1
      cases we : worth s.cs e with
      | none =>
        refine ⟨_, rfl, rfl, _, rfl, ifDT rfl ?_⟩
        have ea : act (.set x e) s = (.fault, s) := by simp only [act, we]
        have q2 := q H1 (by rw [ea]; exact h1) (But.of_same s1)
        rw [ea] at q2
        exact q2
      | some v =>
        refine ⟨_, rfl, rfl, _, rfl, ifDF (fun z => nomatch z) ?_⟩
        have ea : act (.set x e) s = (.go, { s with cs := put s.cs x (.one v) }) := by simp only [act, we]
        refine ⟨fun σ' H' => GoAt C d as H' { s with cs := put s.cs x (.one v) } ∧ But (muts d as) H H', ?_, ?_⟩
        · refine ⟨_, rfl, p, _, _, _, rfl, rfl, SqT.of (s1 _ _ hp0), rfl, rfl, _, rfl, ifDF (str_ne (by decide +kernel)) ?_⟩
          obtain ⟨H2, hd, h2, b2⟩ := dput H1 s x v h1 ty.cs (But.of_same s1) (one_of ty.cs ok2 (by cases fl <;> exact fun z => nomatch z))
          refine ⟨_, rfl, _, rfl, d.g, C, d.dx, _, _, rfl, h1.ob, T.cls, T.n_cells, gf_cells d, _, rfl, p, _, _, _, rfl, rfl, SqT.of (s1 _ _ hp0), rfl, d.c, H2, rfl, hd, ?_⟩
          exact ⟨h2, b2⟩
        · rintro σ' H' ⟨h2, b2⟩
          have q2 := q H' (by rw [ea]; exact h2) b2
          rw [ea] at q2
          exact q2
end
end GT
/-! Where the law's state stands; _law_did -/
namespace GT
open PySem PySem.Spec PyProof.Rows L2
theorem sc_l_did : FnScope ["_law_state", "_law_row", "_law_cells", "_law_told", "_law_left", "_law_found", "_law_place"] ["_law_state", "_law_row"] (defScope s_l_did) := ⟨rfl, rfl, rfl, by decide +kernel, rfl, by decide +kernel, by decide +kernel⟩
structure Ld where
  g : Addr
  c : Addr
  t : Addr
  l : Addr
  st : Addr
def bl (bs : List Nat) : List V := bs.reverse.map fun n : Nat => V.int (n : Int)
/-! ### where the law's state stands -/
def muL (d : Ld) (as : List Addr) : List Addr := d.g :: d.c :: d.t :: d.l :: d.st :: as
structure LAt (d : Ld) (bs : List Nat) (as : List Addr) (H : Hp) (s : Sta) : Prop where
  ob : H d.g = some (.lst (bl bs))
  cs : ∃ kvs, H d.c = some (.dK kvs) ∧ KvA H s.cs kvs as
  told : H d.t = some (.lst (il s.told))
  left : H d.l = some (.lst (il s.left))
  stp : ∃ vs, H d.st = some (.lst vs) ∧ StepsV (Wo (muL d as) H) s.steps vs
  nd : (muL d as).Nodup
  as_ : ∀ a ∈ as, ∃ l, H a = some (.lst l)
section
variable {d : Ld} {bs : List Nat} {as : List Addr} {H H' : Hp} {s : Sta}
theorem n_g : d.g ∈ muL d as := by simp [muL]
theorem n_c : d.c ∈ muL d as := by simp [muL]
theorem n_t : d.t ∈ muL d as := by simp [muL]
theorem n_l : d.l ∈ muL d as := by simp [muL]
theorem n_st : d.st ∈ muL d as := by simp [muL]
theorem n_as {a : Addr} (h : a ∈ as) : a ∈ muL d as := by simp [muL, h]
theorem LAt.al (h : LAt d bs as H s) : Al (muL d as) H := fun m hm => by
  obtain ⟨kvs, hc, _⟩ := h.cs
  obtain ⟨vs, hs, _⟩ := h.stp
  simp only [muL, List.mem_cons] at hm
  rcases hm with rfl | rfl | rfl | rfl | rfl | hm
  · exact ⟨_, h.ob⟩
  · exact ⟨_, hc⟩
  · exact ⟨_, h.told⟩
  · exact ⟨_, h.left⟩
  · exact ⟨_, hs⟩
  · obtain ⟨l, e⟩ := h.as_ m hm
    exact ⟨_, e⟩
theorem LAt.same (h : LAt d bs as H s) (e : Same H H') : LAt d bs as H' s := by
  obtain ⟨kvs, hc, hk⟩ := h.cs
  obtain ⟨vs, hs, hv⟩ := h.stp
  exact ⟨e _ _ h.ob, ⟨kvs, e _ _ hc, hk.mono fun a _ o q => e _ _ q⟩, e _ _ h.told, e _ _ h.left, ⟨vs, e _ _ hs, hv.mono (Same.wo e)⟩, h.nd, fun a ha => let ⟨l, q⟩ := h.as_ a ha; ⟨l, e _ _ q⟩⟩
theorem LAt.csv (h : LAt d bs as H s) : CsV H d.c s.cs := let ⟨kvs, hc, hk⟩ := h.cs; ⟨kvs, hc, hk.kvs⟩
/-- two of those that may change are not one -/
theorem LAt.ne (h : LAt d bs as H s) : d.g ≠ d.c ∧ d.g ≠ d.t ∧ d.g ≠ d.l ∧ d.g ≠ d.st ∧ d.c ≠ d.t ∧ d.c ≠ d.l ∧ d.c ≠ d.st ∧ d.t ≠ d.l ∧ d.t ≠ d.st ∧ d.l ≠ d.st ∧ (∀ a ∈ as, a ≠ d.g ∧ a ≠ d.c ∧ a ≠ d.t ∧ a ≠ d.l ∧ a ≠ d.st) ∧ as.Nodup := by
  have n := h.nd
  simp only [muL, List.nodup_cons, List.mem_cons, not_or] at n
  obtain ⟨⟨a1, a2, a3, a4, a5⟩, ⟨b2, b3, b4, b5⟩, ⟨c3, c4, c5⟩, ⟨e4, e5⟩, f5, g⟩ := n
  exact ⟨a1, a2, a3, a4, b2, b3, b4, c3, c4, e4, fun a ha => ⟨fun z => a5 (z ▸ ha), fun z => b5 (z ▸ ha), fun z => c5 (z ▸ ha), fun z => e5 (z ▸ ha), fun z => f5 (z ▸ ha)⟩, g⟩
theorem LAt.tell (h : LAt d bs as H s) (v : Int) : LAt d bs as (upd H d.t (.lst (il s.told ++ [.int v]))) { s with told := s.told ++ [v] } := by
  obtain ⟨kvs, hc, hk⟩ := h.cs
  obtain ⟨vs, hs, hv⟩ := h.stp
  obtain ⟨n1, n2, n3, n4, n5, n6, n7, n8, n9, n10, na, _⟩ := h.ne
  have w := (But.put (But.refl (muL d as) H) n_t (.lst (il s.told ++ [.int v]))).wo
  refine ⟨by rw [upd_ne n2]; exact h.ob, ⟨kvs, by rw [upd_ne n5]; exact hc, hk.mono fun a ha o q => by rw [upd_ne (na a ha).2.2.1]; exact q⟩, ?_, by rw [upd_ne n8.symm]; exact h.left, ⟨vs, by rw [upd_ne n9.symm]; exact hs, hv.mono w⟩, h.nd,
    fun a ha => let ⟨l, q⟩ := h.as_ a ha; ⟨l, by rw [upd_ne (na a ha).2.2.1]; exact q⟩⟩
  rw [upd_same]
  show _ = some (HO.lst (il (s.told ++ [v])))
  rw [il, il, List.map_append]
  rfl
theorem LAt.leave (h : LAt d bs as H s) (l : List Int) : LAt d bs as (upd H d.l (.lst (il l))) { s with left := l } := by
  obtain ⟨kvs, hc, hk⟩ := h.cs
  obtain ⟨vs, hs, hv⟩ := h.stp
  obtain ⟨n1, n2, n3, n4, n5, n6, n7, n8, n9, n10, na, _⟩ := h.ne
  have w := (But.put (But.refl (muL d as) H) n_l (.lst (il l))).wo
  exact ⟨by rw [upd_ne n3]; exact h.ob, ⟨kvs, by rw [upd_ne n6]; exact hc, hk.mono fun a ha o q => by rw [upd_ne (na a ha).2.2.2.1]; exact q⟩, by rw [upd_ne n8]; exact h.told, upd_same, ⟨vs, by rw [upd_ne n10.symm]; exact hs, hv.mono w⟩, h.nd,
    fun a ha => let ⟨l, q⟩ := h.as_ a ha; ⟨l, by rw [upd_ne (na a ha).2.2.2.1]; exact q⟩⟩
/-- a number's cell is set -/
theorem LAt.set (h : LAt d bs as H s) {x : Nm} {i v : Int} (hn : (s.cs.map (·.1)).Nodup) (g : get s.cs x = some (.one i)) {kvs : List (Key × V)} (hc : H d.c = some (.dK kvs)) :
    LAt d bs as (upd H d.c (.dK (putK kvs (.inr x) (.int v)))) { s with cs := put s.cs x (.one v) } := by
  obtain ⟨kvs', hc', hk⟩ := h.cs
  have ek : kvs' = kvs := by rw [hc] at hc'; cases hc'; rfl
  subst ek
  obtain ⟨vs, hs, hv⟩ := h.stp
  obtain ⟨n1, n2, n3, n4, n5, n6, n7, n8, n9, n10, na, _⟩ := h.ne
  have w := (But.put (But.refl (muL d as) H) n_c (.dK (putK kvs' (.inr x) (.int v)))).wo
  exact ⟨by rw [upd_ne n1]; exact h.ob, ⟨_, upd_same, (hk.set hn g).mono fun a ha o q => by rw [upd_ne (na a ha).2.1]; exact q⟩, by rw [upd_ne n5.symm]; exact h.told, by rw [upd_ne n6.symm]; exact h.left, ⟨vs, by rw [upd_ne n7.symm]; exact hs, hv.mono w⟩, h.nd,
    fun a ha => let ⟨l, q⟩ := h.as_ a ha; ⟨l, by rw [upd_ne (na a ha).2.1]; exact q⟩⟩
theorem LAt.lst (h : LAt d bs as H s) {x : Nm} {l l' : List Int} {a : Addr} (hn : (s.cs.map (·.1)).Nodup) (g : get s.cs x = some (.many l)) {kvs : List (Key × V)} (hc : H d.c = some (.dK kvs)) (hv : valV kvs (.inr x) = some (.ref a)) :
    a ∈ as ∧ H a = some (.lst (il l)) ∧ LAt d bs as (upd H a (.lst (il l'))) { s with cs := put s.cs x (.many l') } := by
  obtain ⟨kvs', hc', hk⟩ := h.cs
  have ek : kvs' = kvs := by rw [hc] at hc'; cases hc'; rfl
  subst ek
  obtain ⟨vs, hs, hv'⟩ := h.stp
  obtain ⟨n1, n2, n3, n4, n5, n6, n7, n8, n9, n10, na, hnd⟩ := h.ne
  obtain ⟨b, hb, hb2, hb3⟩ := hk.many g
  rw [hv] at hb2
  cases hb2
  obtain ⟨q1, q2, q3, q4, q5⟩ := na a hb
  have w := (But.put (But.refl (muL d as) H) (n_as hb) (.lst (il l'))).wo
  refine ⟨hb, hb3, by rw [upd_ne q1.symm]; exact h.ob, ⟨kvs', by rw [upd_ne q2.symm]; exact hc, hk.lst hn hnd g hv⟩, by rw [upd_ne q3.symm]; exact h.told, by rw [upd_ne q4.symm]; exact h.left, ⟨vs, by rw [upd_ne q5.symm]; exact hs, hv'.mono w⟩, h.nd, fun b hb => ?_⟩
  by_cases z : b = a
  · subst z
    exact ⟨_, upd_same⟩
  · rw [upd_ne z]
    exact h.as_ b hb
/-- a step is noted: new things at p (the cells), q (what was told), r (the step) -/
theorem LAt.mark (h : LAt d bs as H s) {n : Nat} {p q r : Addr} {vs : List V} (e : Same H H') (hst : H d.st = some (.lst vs)) (hp : H p = none) (hq : H q = none) (hr : H r = none) (kp : CsV (Wo (muL d as) H') p s.cs) (kq : H' q = some (.lst (il s.told))) (kr : H' r = some (.tup [.int n, .ref p, .ref q])) :
    LAt d bs as (upd H' d.st (.lst (vs ++ [.ref r]))) (GT.mark n s) := by
  have h' := h.same e
  obtain ⟨kvs, hc, hk⟩ := h'.cs
  obtain ⟨vs', hs, hv⟩ := h'.stp
  have ev : vs' = vs := by rw [e _ _ hst] at hs; cases hs; rfl
  subst ev
  obtain ⟨n1, n2, n3, n4, n5, n6, n7, n8, n9, n10, na, _⟩ := h.ne
  have w := (But.put (But.refl (muL d as) H') n_st (.lst (vs' ++ [.ref r]))).wo
  have al := h.al
  refine ⟨by rw [upd_ne n4]; exact h'.ob, ⟨kvs, by rw [upd_ne n7]; exact hc, hk.mono fun a ha o q => by rw [upd_ne (na a ha).2.2.2.2]; exact q⟩, by rw [upd_ne n9]; exact h'.told, by rw [upd_ne n10]; exact h'.left, ⟨_, upd_same, ?_⟩, h.nd,
    fun a ha => let ⟨l, q⟩ := h'.as_ a ha; ⟨l, by rw [upd_ne (na a ha).2.2.2.2]; exact q⟩⟩
  exact StepsV.snoc ⟨r, rfl, w _ _ (wo_at kr (al.out hr))⟩ (kp.mono w) (w _ _ (wo_at kq (al.out hq))) (hv.mono w)
end
section
variable {d : Ld} {bs bs' : List Nat} {as : List Addr} {H H' : Hp} {s : Sta}
theorem LAt.backs (h : LAt d bs as H s) : LAt d bs' as (upd H d.g (.lst (bl bs'))) s := by
  obtain ⟨kvs, hc, hk⟩ := h.cs
  obtain ⟨vs, hs, hv⟩ := h.stp
  obtain ⟨n1, n2, n3, n4, n5, n6, n7, n8, n9, n10, na, _⟩ := h.ne
  have w := (But.put (But.refl (muL d as) H) n_g (.lst (bl bs'))).wo
  exact ⟨upd_same, ⟨kvs, by rw [upd_ne n1.symm]; exact hc, hk.mono fun a ha o q => by rw [upd_ne (na a ha).1]; exact q⟩, by rw [upd_ne n2.symm]; exact h.told, by rw [upd_ne n3.symm]; exact h.left, ⟨vs, by rw [upd_ne n4.symm]; exact hs, hv.mono w⟩, h.nd,
    fun a ha => let ⟨l, q⟩ := h.as_ a ha; ⟨l, by rw [upd_ne (na a ha).1]; exact q⟩⟩
end
theorem put_put {x : Nm} {c d : Cell} : ∀ {cs : Cells}, put (put cs x c) x d = put cs x d
  | [] => rfl
  | (y, e) :: r => by
    by_cases h : y = x
    · rw [put_pos h, put_pos h, put_pos h, put_put]
    · rw [put_neg h, put_neg h, put_neg h, put_put]
theorem get_put {x : Nm} {c d : Cell} : ∀ {cs : Cells}, get cs x = some d → get (put cs x c) x = some c
  | [], h => by simp [get] at h
  | (y, e) :: r, h => by
    by_cases k : y = x
    · rw [put_pos k, get_pos k]
    · rw [get_neg k] at h
      rw [put_neg k, get_neg k]
      exact get_put h
section
variable {P : Program} {w : World} {K : PySem.W.Frag} {mg : Str → Option Value} {base : Heap} {C : Addr}
def spDid : Sp := fun vs H Q _ => ∃ (sa : Addr) (d : Ld) (bs : List Nat) (as : List Addr) (s : Sta) (G : Env) (p : Pl) (row : V) (S : Hp), vs = [.ref sa, row] ∧ Same S H ∧ (∀ m ∈ muL d as, S m = none) ∧ S sa = some (.tup [.ref d.c, .ref d.t, .ref d.l]) ∧ LAt d bs as H s ∧ Typ G s ∧ s.left.length ≤ 1000 ∧ PlV S p row ∧ PlOk G p ∧ p ≠ .stop ∧
  ∀ b H', But (muL d as) H H' → LAt d bs as H' (act p s).2 → (act p s).1 = (if b = true then .go else .fault) → Q (.bl b) H'
theorem ok_l_did (T0 : Top K mg C) {k : Nat} (c_l_worth : Cal P w K mg base "_law_worth" ["_law_cells", "_law_expr"] k spWorthL) : Cal P w K mg base "_law_did" ["_law_state", "_law_row"] (k + 1) spDid := by
  have T := T0
  refine T.d_l_did.ok sc_l_did (fun _ _ _ _ _ _ us hl => match us, hl with | [_, _], _ => rfl) (fun vs H Q E h => ?_) (fun f cdv A outer s0 H vs Q E hr h => ?_)
  · obtain ⟨sa, d, bs, as, s, G, p, row, S, rfl, _⟩ := h
    rfl
  · obtain ⟨sa, d, bs, as, s, G, pp, row, S, rfl, sS, hS, hsa, h, ty, hleft, hp, ok, hst, q⟩ := h
    refine ⟨_, (pss_cons (ps_asg (pv 0) (pg_tup rfl (pgs_cons (pg_name (i := 2) sc_l_did.nd rfl (Or.inl rfl)) (pgs_cons (pg_name (i := 3) sc_l_did.nd rfl (Or.inl rfl)) (pgs_cons (pg_name (i := 4) sc_l_did.nd rfl (Or.inl rfl)) pgs_nil)))))
      (pss_cons (ps_if (pt_cmpR op_eq (pe_ix ix_tup (pv 1) pe_int (fun _ _ => rfl)) pe_str (nomark _)) (pss_one (ps_ret pe_bl)) pss_nil)
      (pss_cons (ps_if (pt_cmpR op_eq (pe_ix ix_tup (pv 1) pe_int (fun _ _ => rfl)) pe_str (nomark _)) (pss_cons (ps_dput (hu_of hr) (pv 2) (pe_ix ix_tup (pv 1) pe_int (fun _ _ => rfl)) pe_int rfl)
      (Evl.pss_cut (ps_if (pt_cmpR (op_neD hr.units) (pv 4) (pe_lst pa_nil) (nomark _)) (pss_one (ps_dput (hu_of hr) (pv 2) (pe_ix ix_tup (pv 1) pe_int (fun _ _ => rfl)) (pe_bm PySem.F.plainAttrs_list PySem.F.slot_list_pop PySem.F.type_list_pop mt_popAt (pv 4) (pa_cons pe_int pa_nil)) rfl)) pss_nil)
      (pss_one (ps_ret pe_bl)))) pss_nil)
      (pss_cons (ps_set (i := 5) sc_l_did.nd rfl (Or.inl rfl) (pe_cl c_l_worth hr rfl (pa_cons (pv 2) (pa_cons (pe_ix ix_tup (pv 1) (pe_un un_neg pe_int) (fun _ _ => rfl)) pa_nil))))
      (pss_cons (ps_if (pt_cmpR (op_eqD hr.units) (pv 5) (pe_lst pa_nil) (nomark _)) (pss_one (ps_ret pe_bl)) pss_nil)
      (Evl.pss_cut (ps_if (pt_cmpR op_eq (pe_ix ix_tup (pv 1) pe_int (fun _ _ => rfl)) pe_str (nomark _)) (pss_one (ps_expr (pe_bm PySem.F.plainAttrs_list PySem.F.slot_list_append PySem.F.type_list_append mt_append (pv 3) (pa_cons (pe_ix ix_list (pv 5) pe_int (fun _ _ => rfl)) pa_nil)))) (pss_one (ps_if (pt_cmpR op_eq (pe_ix ix_tup (pv 1) pe_int (fun _ _ => rfl)) pe_str (nomark _)) (pss_one (ps_dput (hu_of hr) (pv 2) (pe_ix ix_tup (pv 1) pe_int (fun _ _ => rfl)) (pe_ix ix_list (pv 5) pe_int (fun _ _ => rfl)) rfl)) (pss_cons (ps_set (i := 6) sc_l_did.nd rfl (Or.inl rfl) (pe_cl c_l_worth hr rfl (pa_cons (pv 2) (pa_cons (pe_ix ix_tup (pv 1) pe_int (fun _ _ => rfl)) pa_nil))))
      (pss_cons (ps_if (PW.pt (pw_or (pt_cmpR (op_eqD hr.units) (pv 6) (pe_lst pa_nil) (nomark _)) (pw_or1 (pt_cmpR op_ge (pe_ix ix_list (pv 6) pe_int (fun _ _ => rfl)) (pe_callB call_len_seq rfl T.len_ (by decide +kernel) (pa_cons (pe_dget (hu_of hr) (pv 2) (pe_ix ix_tup (pv 1) pe_int (fun _ _ => rfl)) (fun _ _ => rfl)) pa_nil)) (nomark _))))) (pss_one (ps_ret pe_bl)) pss_nil)
      (pss_one (ps_asg (pe_ix ix_list (pv 5) pe_int (fun _ _ => rfl)) (pg_sub (pe_dget (hu_of hr) (pv 2) (pe_ix ix_tup (pv 1) pe_int (fun _ _ => rfl)) (fun _ _ => rfl)) (pe_ix ix_list (pv 6) pe_int (fun _ _ => rfl)) set_list))))))))
      (pss_one (ps_ret pe_bl)))))))), ?_⟩
    refine ⟨_, rfl, sa, _, rfl, SqT.of (sS _ _ hsa), rfl, _, _, rfl, _, _, rfl, _, _, rfl, rfl, ?_⟩
    have dput : ∀ (H1 : Hp) (s1 : Sta) (x : Nm) (v : Int), LAt d bs as H1 s1 → CsOk G s1.cs → But (muL d as) H H1 → (∃ n, get s1.cs x = some (.one n)) → ∃ H2, DPut H1 d.c (.str x) (.int v) H2 ∧ LAt d bs as H2 { s1 with cs := put s1.cs x (.one v) } ∧ But (muL d as) H H2 := fun H1 s1 x v h1 oc b ⟨n, hg⟩ => by
      obtain ⟨kvs, hc, hk⟩ := h1.cs
      have hl : kvs.length < sizeLine := by
        have z := hk.kvs.len
        have y := cs_len oc
        have u := ty.len
        exact szl (by omega)
      exact ⟨_, .inl ⟨kvs, .inr x, hc, rfl, hl, rfl⟩, h1.set (by rw [cs_keys oc]; exact ty.nd) hg hc, b.put n_c _⟩
    have keep : ∀ {H1 : Hp} {p : Addr} {o : HO}, But (muL d as) H H1 → S p = some o → H1 p = some o := fun b e => b _ _ (fun z => by rw [hS _ z] at e; cases e) (sS _ _ e)
    cases pp with
    | stop => exact absurd rfl hst
    | way =>
      obtain ⟨p, rfl, hp1⟩ := hp
      have hp0 := sS _ _ hp1
      refine ⟨_, rfl, p, _, _, _, rfl, rfl, SqT.of hp0, rfl, rfl, _, rfl, ifDT rfl ?_⟩
      exact q true H (But.refl _ _) h rfl
    | ask x =>
      obtain ⟨p, rfl, hp1⟩ := hp
      have hp0 := sS _ _ hp1
      refine ⟨_, rfl, p, _, _, _, rfl, rfl, SqT.of hp0, rfl, rfl, _, rfl, ifDF (str_ne (by decide +kernel)) ?_⟩
      refine ⟨_, rfl, p, _, _, _, rfl, rfl, SqT.of hp0, rfl, rfl, _, rfl, ifDT rfl ?_⟩
      have ex := one_of ty.cs ok (fun z => nomatch z)
      obtain ⟨H2, hd, h2, b2⟩ := dput H s x 65535 h ty.cs (But.refl _ _) ex
      refine ⟨_, rfl, _, rfl, p, _, _, _, rfl, rfl, SqT.of hp0, rfl, d.c, H2, rfl, hd, ?_⟩
      obtain ⟨n, hg⟩ := ex
      have oc2 : CsOk G (put s.cs x (.one 65535)) := cs_put ty.nd ty.cs ok ⟨by decide, by decide⟩
      refine ⟨fun σ' H' => LAt d bs as H' (act (.ask x) s).2 ∧ But (muL d as) H H', ?_, ?_⟩
      · refine ⟨_, rfl, (by show 0 ≤ sizeLine; decide), fun l hl => ?_⟩
        have sl := same_new hl (.lst [])
        have h3 := h2.same sl
        have b3 := b2.trans (But.of_same sl)
        refine ⟨.list (dI s.left), .list [], .lst (SqL.of h3.left) (dp_il _), .lst (SqL.of upd_same) .nil, shaped_il _, by decide +kernel, ?_⟩
        rw [show PyData.eqv (.list (dI s.left)) (.list []) = decide (s.left = []) from eqv_l s.left []]
        refine ⟨_, rfl, ifND (fun e => ?_) (fun e => ?_)⟩
        · cases hleft2 : s.left with
          | nil => exact absurd hleft2 e
          | cons v l2 =>
            have hh := h3.left
            rw [show ({ s with cs := put s.cs x (.one 65535) } : Sta).left = v :: l2 from hleft2] at hh
            have h4 := h3.leave l2
            obtain ⟨H5, hd5, h5, b5⟩ := dput _ _ x v h4 oc2 (b3.put n_l _) ⟨_, get_put hg⟩
            refine ⟨_, rfl, .inl ⟨rfl, _, SqL.of hh⟩, d.l, _, 0, 0, _, rfl, rfl, hh, (by decide), (by decide), (by show seqIndex? 0 (il (v :: l2)).length = some 0; unfold seqIndex?; simp), rfl, ?_⟩
            refine ⟨_, rfl, _, rfl, p, _, _, _, rfl, rfl, SqT.of (keep (b3.put n_l _) hp1), rfl, d.c, H5, rfl, hd5, ?_⟩
            have ea : act (.ask x) s = (.go, { s with cs := put s.cs x (.one v), left := l2 }) := by simp only [act, hleft2]
            have h6 : LAt d bs as H5 { s with cs := put (put s.cs x (.one 65535)) x (.one v), left := l2 } := h5
            rw [put_put] at h6
            refine ⟨?_, b5⟩
            rw [ea]
            exact h6
        · have ea : act (.ask x) s = (.go, { s with cs := put s.cs x (.one 65535) }) := by simp only [act, e]
          refine ⟨?_, b3⟩
          rw [ea]
          exact h3
      · rintro σ' H' ⟨h7, b7⟩
        refine q true H' b7 h7 ?_
        simp only [act]
        split <;> rfl
    | tell e =>
      obtain ⟨u, ⟨p, rfl, hp1⟩, he⟩ := hp
      have hp0 := sS _ _ hp1
      refine ⟨_, rfl, p, _, _, _, rfl, rfl, SqT.of hp0, rfl, rfl, _, rfl, ifDF (str_ne (by decide +kernel)) ?_⟩
      refine ⟨_, rfl, p, _, _, _, rfl, rfl, SqT.of hp0, rfl, rfl, _, rfl, ifDF (str_ne (by decide +kernel)) ?_⟩
      refine ⟨_, rfl, _, rfl, _, rfl, p, _, _, _, rfl, rfl, SqT.of hp0, rfl, d.c, _, s.cs, e, G, false, rfl, h.csv, he.mono sS, ty.cs, ok.1, ok.2, fun r H1 s1 nr hr1 => ?_⟩
      have h1 := h.same s1
      refine ⟨_, rfl, (by show 0 ≤ sizeLine; decide), fun l hl => ?_⟩
      have sl := same_new hl (.lst [])
      have h2 := h1.same sl
      have b2 : But (muL d as) H (upd H1 l (.lst [])) := But.of_same (s1.trans sl)
      have hr2 := sl _ _ hr1
      have hp2 := keep b2 hp1
      have el2 : (upd H1 l (.lst [])) l = some (.lst []) := upd_same
      show (fun H2 => _) (upd H1 l (.lst []))
      generalize upd H1 l (.lst []) = H2 at h2 b2 hr2 hp2 el2 ⊢
      refine ⟨.list (dI (oL (worth s.cs e))), .list [], .lst (SqL.of hr2) (dp_il _), .lst (SqL.of el2) .nil, shaped_il _, by decide +kernel, ?_⟩
      rw [show PyData.eqv (.list (dI (oL (worth s.cs e)))) (.list []) = decide (oL (worth s.cs e) = []) from eqv_l _ []]
      refine ⟨_, rfl, ?_⟩
      cases we : worth s.cs e with
      | none =>
        refine ifDT rfl ?_
        have ea : act (.tell e) s = (.fault, s) := by simp only [act, we]
        refine q false H2 b2 (by rw [ea]; exact h2) (by rw [ea]; rfl)
      | some v =>
        refine ifDF (fun z => nomatch z) ?_
        have hr3 : H2 r = some (.lst [.int v]) := by rw [we] at hr2; exact hr2
        have ea : act (.tell e) s = (.go, { s with told := s.told ++ [v] }) := by simp only [act, we]
        refine ⟨fun σ' H' => LAt d bs as H' { s with told := s.told ++ [v] } ∧ But (muL d as) H H', ?_, ?_⟩
        · refine ⟨_, rfl, p, _, _, _, rfl, rfl, SqT.of hp2, rfl, rfl, _, rfl, ifDT rfl ?_⟩
          have htl : (il s.told).length = s.told.length := List.length_map _
          refine ⟨_, rfl, .inl ⟨rfl, _, SqL.of h2.told⟩, _, rfl, r, _, _, _, rfl, rfl, SqL.of hr3, rfl, d.t, _, _, rfl, rfl, h2.told, szl (by have := ty.told; omega), ?_⟩
          exact ⟨h2.tell v, b2.put n_t _⟩
        · rintro σ' H' ⟨h7, b7⟩
          exact q true H' b7 (by rw [ea]; exact h7) (by rw [ea]; rfl)
    | set x e =>
      obtain ⟨u, ⟨p, rfl, hp1⟩, he⟩ := hp
      obtain ⟨fl, hwt, hkd, hh⟩ := ok
      have hp0 := sS _ _ hp1
      refine ⟨_, rfl, p, _, _, _, rfl, rfl, SqT.of hp0, rfl, rfl, _, rfl, ifDF (str_ne (by decide +kernel)) ?_⟩
      refine ⟨_, rfl, p, _, _, _, rfl, rfl, SqT.of hp0, rfl, rfl, _, rfl, ifDF (str_ne (by decide +kernel)) ?_⟩
      refine ⟨_, rfl, _, rfl, _, rfl, p, _, _, _, rfl, rfl, SqT.of hp0, rfl, d.c, _, s.cs, e, G, fl, rfl, h.csv, he.mono sS, ty.cs, hwt, hh, fun r H1 s1 nr hr1 => ?_⟩
      have h1 := h.same s1
      refine ⟨_, rfl, (by show 0 ≤ sizeLine; decide), fun l hl => ?_⟩
      have sl := same_new hl (.lst [])
      have h2 := h1.same sl
      have b2 : But (muL d as) H (upd H1 l (.lst [])) := But.of_same (s1.trans sl)
      have hr2 := sl _ _ hr1
      have hp2 := keep b2 hp1
      have el2 : (upd H1 l (.lst [])) l = some (.lst []) := upd_same
      show (fun H2 => _) (upd H1 l (.lst []))
      generalize upd H1 l (.lst []) = H2 at h2 b2 hr2 hp2 el2 ⊢
      refine ⟨.list (dI (oL (worth s.cs e))), .list [], .lst (SqL.of hr2) (dp_il _), .lst (SqL.of el2) .nil, shaped_il _, by decide +kernel, ?_⟩
      rw [show PyData.eqv (.list (dI (oL (worth s.cs e)))) (.list []) = decide (oL (worth s.cs e) = []) from eqv_l _ []]
      refine ⟨_, rfl, ?_⟩
      cases we : worth s.cs e with
      | none =>
        refine ifDT rfl ?_
        have ea : act (.set x e) s = (.fault, s) := by simp only [act, we]
        refine q false H2 b2 (by rw [ea]; exact h2) (by rw [ea]; rfl)
      | some v =>
        refine ifDF (fun z => nomatch z) ?_
        have hr3 : H2 r = some (.lst [.int v]) := by rw [we] at hr2; exact hr2
        have ea : act (.set x e) s = (.go, { s with cs := put s.cs x (.one v) }) := by simp only [act, we]
        refine ⟨fun σ' H' => LAt d bs as H' { s with cs := put s.cs x (.one v) } ∧ But (muL d as) H H', ?_, ?_⟩
        · refine ⟨_, rfl, p, _, _, _, rfl, rfl, SqT.of hp2, rfl, rfl, _, rfl, ifDF (str_ne (by decide +kernel)) ?_⟩
          refine ⟨_, rfl, p, _, _, _, rfl, rfl, SqT.of hp2, rfl, rfl, _, rfl, ifDT rfl ?_⟩
          obtain ⟨H5, hd5, h5, b5⟩ := dput H2 s x v h2 ty.cs b2 (one_of ty.cs hkd (by cases fl <;> exact fun z => nomatch z))
          exact ⟨_, rfl, r, _, _, _, rfl, rfl, SqL.of hr3, rfl, _, rfl, _, rfl, p, _, _, _, rfl, rfl, SqT.of hp2, rfl, d.c, H5, rfl, hd5, h5, b5⟩
        · rintro σ' H' ⟨h7, b7⟩
          exact q true H' b7 (by rw [ea]; exact h7) (by rw [ea]; rfl)
    | put x i e =>
      obtain ⟨u, t, ⟨p, rfl, hp1⟩, hi, he⟩ := hp
      obtain ⟨ok1, ok2, ok3, ok4, ok5⟩ := ok
      have hp0 := sS _ _ hp1
      refine ⟨_, rfl, p, _, _, _, rfl, rfl, SqT.of hp0, rfl, rfl, _, rfl, ifDF (str_ne (by decide +kernel)) ?_⟩
      refine ⟨_, rfl, p, _, _, _, rfl, rfl, SqT.of hp0, rfl, rfl, _, rfl, ifDF (str_ne (by decide +kernel)) ?_⟩
      refine ⟨_, rfl, _, rfl, _, rfl, p, _, _, _, rfl, rfl, SqT.of hp0, rfl, d.c, _, s.cs, e, G, false, rfl, h.csv, he.mono sS, ty.cs, ok3, ok5, fun r H1 s1 nr hr1 => ?_⟩
      have h1 := h.same s1
      refine ⟨_, rfl, (by show 0 ≤ sizeLine; decide), fun l hl => ?_⟩
      have sl := same_new hl (.lst [])
      have h2 := h1.same sl
      have b2 : But (muL d as) H (upd H1 l (.lst [])) := But.of_same (s1.trans sl)
      have hr2 := sl _ _ hr1
      have hp2 := keep b2 hp1
      have el2 : (upd H1 l (.lst [])) l = some (.lst []) := upd_same
      show (fun H2 => _) (upd H1 l (.lst []))
      generalize upd H1 l (.lst []) = H2 at h2 b2 hr2 hp2 el2 ⊢
      refine ⟨.list (dI (oL (worth s.cs e))), .list [], .lst (SqL.of hr2) (dp_il _), .lst (SqL.of el2) .nil, shaped_il _, by decide +kernel, ?_⟩
      rw [show PyData.eqv (.list (dI (oL (worth s.cs e)))) (.list []) = decide (oL (worth s.cs e) = []) from eqv_l _ []]
      refine ⟨_, rfl, ?_⟩
      cases we : worth s.cs e with
      | none =>
        refine ifDT rfl ?_
        have ea : act (.put x i e) s = (.fault, s) := by simp only [act, we]
        refine q false H2 b2 (by rw [ea]; exact h2) (by rw [ea]; rfl)
      | some v =>
        refine ifDF (fun z => nomatch z) ?_
        have hr3 : H2 r = some (.lst [.int v]) := by rw [we] at hr2; exact hr2
        refine ⟨fun σ' H' => LAt d bs as H' (act (.put x i e) s).2 ∧ But (muL d as) H H' ∧ (act (.put x i e) s).1 = .go, ?_, ?_⟩
        · refine ⟨_, rfl, p, _, _, _, rfl, rfl, SqT.of hp2, rfl, rfl, _, rfl, ifDF (str_ne (by decide +kernel)) ?_⟩
          refine ⟨_, rfl, p, _, _, _, rfl, rfl, SqT.of hp2, rfl, rfl, _, rfl, ifDF (str_ne (by decide +kernel)) ?_⟩
          have sSw : Same S (Wo (muL d as) H2) := fun b o e => wo_at (keep b2 e) fun z => by rw [hS _ z] at e; cases e
          refine ⟨_, rfl, _, rfl, p, _, _, _, rfl, rfl, SqT.of hp2, rfl, d.c, _, s.cs, i, G, false, rfl, h2.csv, (hi.mono sSw).mono wo_sub, ty.cs, ok2, ok4, fun r4 H4 s4 nr4 hr4 => ?_⟩
          have h4 := h2.same s4
          have b4 := b2.trans (But.of_same s4)
          have hp4 := s4 _ _ hp2
          have hr34 := s4 _ _ hr3
          obtain ⟨cl, hg, hcl⟩ := cs_get ty.cs ok1
          cases cl with
          | one n => exact hcl.elim
          | many ll =>
            have fault : ∀ H5, Same H4 H5 → act (.put x i e) s = (.fault, s) → Q (.bl false) H5 := fun H5 s5 ea => q false H5 (b4.trans (But.of_same s5)) (by rw [ea]; exact h4.same s5) (by rw [ea]; rfl)
            have hll : (il ll).length = ll.length := List.length_map _
            dsimp only [tNext, gName, tSeq]
            refine st_testP (fun b H5 => Same H4 H5 ∧ ∀ z, b = z → (if z = true then act (.put x i e) s = (.fault, s) else ∃ j, worth s.cs i = some j ∧ 0 ≤ j ∧ j.toNat < ll.length)) (fun Q2 q2 => ?_) ?_
            · refine ⟨_, rfl, (by show 0 ≤ sizeLine; decide), fun l5 hl5 => ?_⟩
              have s5 := same_new hl5 (.lst [])
              refine ⟨.list (dI (oL (worth s.cs i))), .list [], .lst (SqL.of (s5 _ _ hr4)) (dp_il _), .lst (SqL.of upd_same) .nil, shaped_il _, by decide +kernel, ?_⟩
              rw [show PyData.eqv (.list (dI (oL (worth s.cs i)))) (.list []) = decide (oL (worth s.cs i) = []) from eqv_l _ []]
              refine ⟨_, rfl, ?_⟩
              cases wi : worth s.cs i with
              | none =>
                refine ifDT rfl ?_
                refine q2 _ _ ⟨s5, fun z ez => ?_⟩
                subst ez
                rw [if_pos rfl]
                simp only [act, we, wi]
              | some j =>
                refine ifDF (fun z => nomatch z) ?_
                obtain ⟨j0, j1⟩ := (worth_ok ty.cs ok2 wi).1
                have hr5 : (upd H4 l5 (.lst [])) r4 = some (.lst [.int j]) := by
                  have := s5 _ _ hr4
                  rw [wi] at this
                  exact this
                have h5 := h4.same s5
                obtain ⟨kvs, hc, hk⟩ := h5.cs
                obtain ⟨a, ha, hv, hal⟩ := hk.many hg
                have dg : DGet (upd H4 l5 (.lst [])) d.c (.str x) (some (.ref a)) := .inl ⟨kvs, .inr x, .inl hc, rfl, hv.symm⟩
                refine ⟨_, rfl, r4, _, _, _, rfl, rfl, SqL.of hr5, rfl, _, rfl, _, rfl, p, _, _, _, rfl, rfl, SqT.of (s5 _ _ hp4), rfl, d.c, _, rfl, dg, a, _, rfl, .inl (SqL.of hal), _, _, rfl, rfl, _, rfl, ?_⟩
                rw [hll]
                refine q2 _ _ ⟨s5, fun z ez => ?_⟩
                by_cases hj : j.toNat < ll.length
                · rw [decide_eq_false (show ¬ ((ll.length : Nat) : Int) ≤ j by omega)] at ez
                  subst ez
                  rw [if_neg (by decide)]
                  exact ⟨j, wi, j0, hj⟩
                · rw [decide_eq_true (show ((ll.length : Nat) : Int) ≤ j by omega)] at ez
                  subst ez
                  rw [if_pos rfl]
                  simp only [act, we, wi, hg]
                  rw [if_neg hj]
            · rintro b H5 ⟨s5, hb⟩
              have hb := hb b rfl
              cases b with
              | true =>
                rw [if_pos rfl] at hb
                exact iteT (fault H5 s5 hb)
              | false =>
                rw [if_neg (by decide)] at hb
                refine iteF ?_
                obtain ⟨j, wi, j0, hj⟩ := hb
                have h5 := h4.same s5
                obtain ⟨kvs, hc, hk⟩ := h5.cs
                obtain ⟨a, ha, hv, hal⟩ := hk.many hg
                have dg : DGet H5 d.c (.str x) (some (.ref a)) := .inl ⟨kvs, .inr x, .inl hc, rfl, hv.symm⟩
                have hr5 : H5 r4 = some (.lst [.int j]) := by
                  have := s5 _ _ hr4
                  rw [wi] at this
                  exact this
                have hjl : j.toNat < (il ll).length := by rw [hll]; exact hj
                refine ⟨_, rfl, r, _, _, _, rfl, rfl, SqL.of (s5 _ _ hr34), rfl, _, rfl, _, rfl, p, _, _, _, rfl, rfl, SqT.of (s5 _ _ hp4), rfl, d.c, _, rfl, dg, _, rfl, r4, _, _, _, rfl, rfl, SqL.of hr5, rfl, a, il ll, j, j.toNat, rfl, rfl, hal, ixN_in j0 hjl, ?_⟩
                have ea : act (.put x i e) s = (.go, { s with cs := put s.cs x (.many (ll.set j.toNat v)) }) := by
                  simp only [act, we, wi, hg]
                  rw [if_pos hj]
                obtain ⟨m1, m2, m3⟩ := h5.lst (l' := ll.set j.toNat v) ty.keys hg hc hv
                rw [ea, il_set]
                exact ⟨m3, (b4.trans (But.of_same s5)).put (n_as m1) _, rfl⟩
        · rintro σ' H' ⟨h7, b7, e7⟩
          exact q true H' b7 h7 (by rw [e7]; rfl)
end
end GT
/-! _law_lay -/
namespace GT
open PySem PySem.Spec PyProof.Rows L2
theorem sc_l_lay : FnScope ["_law_code_here", "_law_rows_here", "_law_numbers", "_law_row", "_law_number", "_law_begin", "_law_jump"] ["_law_code_here", "_law_rows_here", "_law_numbers"] (defScope s_l_lay) := ⟨rfl, rfl, rfl, by decide +kernel, rfl, by decide +kernel, by decide +kernel⟩
def InV (H : Hp) : In → V → Prop
  | .fin, v => LstV H v [.str "end", .int 0, .int 0, .int 0]
  | .back, v => LstV H v [.str "back", .int 0, .int 0, .int 0]
  | .jump t, v => LstV H v [.str "jump", .int 0, .int 0, .int t]
  | .look n c t, v => ∃ u, LstV H v [.str "look", .int n, u, .int t] ∧ ExV H c u
  | .plain n p, v => ∃ u, LstV H v [.str "plain", .int n, u, .int 0] ∧ PlV H p u
  | .call n x, v => ∃ u, LstV H v [.str "plain", .int n, u, .int 0] ∧ TupV H u [.str "do", .str x]
theorem InV.mono {H H' : Hp} (s : Same H H') : ∀ {p : In} {v : V}, InV H p v → InV H' p v
  | .fin, _, h => LstV.mono s h
  | .back, _, h => LstV.mono s h
  | .jump _, _, h => LstV.mono s h
  | .look _ _ _, _, ⟨u, h1, h2⟩ => ⟨u, h1.mono s, h2.mono s⟩
  | .plain _ _, _, ⟨u, h1, h2⟩ => ⟨u, h1.mono s, h2.mono s⟩
  | .call _ _, _, ⟨u, h1, h2⟩ => ⟨u, h1.mono s, h2.mono s⟩
def CodeV (H : Hp) : List In → List V → Prop
  | [], vs => vs = []
  | p :: ps, vs => ∃ v t, vs = v :: t ∧ InV H p v ∧ CodeV H ps t
theorem CodeV.mono {H H' : Hp} (s : Same H H') : ∀ {ps : List In} {vs : List V}, CodeV H ps vs → CodeV H' ps vs
  | [], _, h => h
  | p :: ps, _, ⟨v, t, h1, h2, h3⟩ => ⟨v, t, h1, h2.mono s, h3.mono s⟩
theorem CodeV.app {H : Hp} {qs : List In} {us : List V} (hq : CodeV H qs us) : ∀ {ps : List In} {vs : List V}, CodeV H ps vs → CodeV H (ps ++ qs) (vs ++ us)
  | [], _, h => by rw [show _ = [] from h]; exact hq
  | p :: ps, _, ⟨v, t, h1, h2, h3⟩ => ⟨v, t ++ us, by rw [h1]; rfl, h2, CodeV.app hq h3⟩
theorem CodeV.len {H : Hp} : ∀ {ps : List In} {vs : List V}, CodeV H ps vs → vs.length = ps.length
  | [], _, h => by rw [show _ = [] from h]; rfl
  | p :: ps, _, ⟨v, t, h1, h2, h3⟩ => by rw [h1, List.length_cons, h3.len, List.length_cons]
theorem CodeV.one {H : Hp} {p : In} {v : V} (h : InV H p v) : CodeV H [p] [v] := ⟨v, [], rfl, h, rfl⟩
theorem CodeV.cons {H : Hp} {p : In} {ps : List In} {v : V} {vs : List V} (h : InV H p v) (k : CodeV H ps vs) : CodeV H (p :: ps) (v :: vs) := ⟨v, vs, rfl, h, k⟩
theorem len1 {α : Type} {l : List α} {x : α} : (l ++ [x]).length = l.length + 1 := by simp
theorem set_mid {α : Type} {a b : List α} {x y : α} {n : Nat} (h : a.length = n) : (a ++ x :: b).set n y = a ++ y :: b := by
  subst h
  simp
theorem plv_tag {H : Hp} {v : V} : ∀ {p : Pl}, PlV H p v → ∃ q tag us, v = .ref q ∧ H q = some (.tup (.str tag :: us)) ∧ tag ≠ "if" ∧ tag ≠ "while" ∧ tag ≠ "do"
  | .set _ _, ⟨u, ⟨q, h1, h2⟩, _⟩ => ⟨q, _, _, h1, h2, by decide +kernel, by decide +kernel, by decide +kernel⟩
  | .put _ _ _, ⟨u, t, ⟨q, h1, h2⟩, _⟩ => ⟨q, _, _, h1, h2, by decide +kernel, by decide +kernel, by decide +kernel⟩
  | .tell _, ⟨u, ⟨q, h1, h2⟩, _⟩ => ⟨q, _, _, h1, h2, by decide +kernel, by decide +kernel, by decide +kernel⟩
  | .ask _, ⟨q, h1, h2⟩ => ⟨q, _, _, h1, h2, by decide +kernel, by decide +kernel, by decide +kernel⟩
  | .way, ⟨q, h1, h2⟩ => ⟨q, _, _, h1, h2, by decide +kernel, by decide +kernel, by decide +kernel⟩
  | .stop, ⟨q, h1, h2⟩ => ⟨q, _, _, h1, h2, by decide +kernel, by decide +kernel, by decide +kernel⟩
/-- what stands ahead in rows: one plain, or one with rows within -/
theorem rows_two {H : Hp} {x : V} {t : List V} : ∀ {rest : Rows}, RowsV H rest (x :: t) →
    (∃ (lf r' : Rows) (it : Nat → In) (p : Addr) (tag : Str) (us : List V), rest = app lf r' ∧ count lf = 1 ∧ size lf = 1 ∧ (∀ pos n, lay lf pos n = [it n]) ∧ x = .ref p ∧ H p = some (.tup (.str tag :: us)) ∧ tag ≠ "if" ∧ tag ≠ "while" ∧ RowsV H r' t ∧
      ∀ (n : Nat) (pp : V) (H' : Hp), Same H H' → LstV H' pp [.str "plain", .int n, x, .int 0] → InV H' (it n) pp) ∨
    (∃ (p : Addr) (tag : Str) (u : V) (la : Addr) (us : List V) (c : Ex) (a r' : Rows) (va : List V), x = .ref p ∧ H p = some (.tup (.str tag :: u :: .ref la :: us)) ∧ ExV H c u ∧ H la = some (.lst va) ∧ RowsV H a va ∧ RowsV H r' t ∧
      ((tag = "while" ∧ us = [] ∧ rest = .whl c a r') ∨ (tag = "if" ∧ ∃ (lb : Addr) (vb : List V) (b : Rows), us = [.ref lb] ∧ H lb = some (.lst vb) ∧ RowsV H b vb ∧ rest = .ife c a b r')))
  | .nil, h => nomatch h
  | .plain pl r', ⟨v, t', h1, h2, h3⟩ => by
    injection h1 with e1 e2
    subst e1; subst e2
    obtain ⟨q, tag, us, k1, k2, k3, k4, k5⟩ := plv_tag h2
    exact .inl ⟨.plain pl .nil, r', fun n => .plain n pl, q, tag, us, rfl, rfl, rfl, fun _ _ => rfl, k1, k2, k3, k4, h3, fun n pp H' s hl => ⟨_, hl, h2.mono s⟩⟩
  | .call x' r', ⟨v, t', h1, ⟨q, h2, h2'⟩, h3⟩ => by
    injection h1 with e1 e2
    subst e1; subst e2
    exact .inl ⟨.call x' .nil, r', fun n => .call n x', q, _, _, rfl, rfl, rfl, fun _ _ => rfl, h2, h2', by decide +kernel, by decide +kernel, h3, fun n pp H' s hl => ⟨_, hl, (show TupV H _ _ from ⟨q, h2, h2'⟩).mono s⟩⟩
  | .whl c a r', ⟨v, t', u, la, va, h1, ⟨q, h2, h2'⟩, h3, h4, h5, h6⟩ => by
    injection h1 with e1 e2
    subst e1; subst e2
    exact .inr ⟨q, _, u, la, [], c, a, r', va, h2, h2', h3, h4, h5, h6, .inl ⟨rfl, rfl, rfl⟩⟩
  | .ife c a b r', ⟨v, t', u, la, lb, va, vb, h1, ⟨q, h2, h2'⟩, h3, h4, h5, h6, h7, h8⟩ => by
    injection h1 with e1 e2
    subst e1; subst e2
    exact .inr ⟨q, _, u, la, _, c, a, r', va, h2, h2', h3, h4, h6, h8, .inr ⟨rfl, lb, vb, b, rfl, h5, h7, rfl⟩⟩
section
variable {P : Program} {w : World} {K : PySem.W.Frag} {mg : Str → Option Value} {base : Heap} {C : Addr}
def spLay (m : Nat) : Sp := fun vs H Q _ => ∃ (c l nu : Addr) (E0 : List Addr) (cv xs : List V) (r : Rows) (n : Nat), vs = [.ref c, .ref l, .ref nu] ∧ c ≠ nu ∧ H c = some (.lst cv) ∧ H nu = some (.lst [.int n]) ∧ (∀ e ∈ E0, ∃ o, H e = some o) ∧
  Wo (c :: nu :: E0) H l = some (.lst xs) ∧ RowsV (Wo (c :: nu :: E0) H) r xs ∧ deep r < m ∧ cv.length + size r ≤ 50000 ∧
  ∀ cv2 H', But [c, nu] H H' → H' c = some (.lst (cv ++ cv2)) → H' nu = some (.lst [.int ((n + count r : Nat) : Int)]) → CodeV (Wo (c :: nu :: E0) H') (lay r cv.length n) cv2 → Q .non H'
theorem ok_l_lay (T0 : Top K mg C) {k : Nat} : ∀ m : Nat, Cal P w K mg base "_law_lay" ["_law_code_here", "_law_rows_here", "_law_numbers"] (k + m) (spLay m)
  | 0 => T0.d_l_lay.no (fun _ _ _ _ _ _ us hl => match us, hl with | [_, _, _], _ => rfl) fun vs H Q E h => by obtain ⟨c, l, nu, E0, cv, xs, r, n, _, _, _, _, _, _, _, h, _⟩ := h; omega
  | m + 1 => by
    have T := T0
    have c_l_lay := ok_l_lay T0 (k := k) m
    refine T.d_l_lay.ok sc_l_lay (fun _ _ _ _ _ _ us hl => match us, hl with | [_, _, _], _ => rfl) (fun vs H Q E h => ?_) (fun f cdv A outer s0 H vs Q E hr h => ?_)
    · obtain ⟨c, l, nu, E0, cv, xs, r, n, rfl, _⟩ := h
      rfl
    · obtain ⟨c, l, nu, E0, cv, xs, r, n, rfl, cnu, hc, hnu, hE, hl, hrv, hdeep, hsz, q⟩ := h
      refine ⟨_, (pss_one (ps_for PassesOwn.never rfl (pi_list (pv 1)) (pg_name (i := 3) sc_l_lay.nd rfl (Or.inl rfl)) (pss_cons (ps_set (i := 4) sc_l_lay.nd rfl (Or.inl rfl) (pe_ix ix_list (pv 2) pe_int (fun _ _ => rfl)))
      (pss_cons (ps_asg (pe_op op_add (pv 4) pe_int) (pg_sub (pv 2) pe_int set_list))
      (pss_one (ps_if (PW.pt (pw_or (pt_cmpR op_eq (pe_ix ix_tup (pv 3) pe_int (fun _ _ => rfl)) pe_str (nomark _)) (pw_or1 (pt_cmpR op_eq (pe_ix ix_tup (pv 3) pe_int (fun _ _ => rfl)) pe_str (nomark _))))) (pss_cons (ps_set (i := 5) sc_l_lay.nd rfl (Or.inl rfl) (pe_callB call_len_seq rfl T.len_ (by decide +kernel) (pa_cons (pv 0) pa_nil)))
      (pss_cons (ps_expr (pe_bm PySem.F.plainAttrs_list PySem.F.slot_list_append PySem.F.type_list_append mt_append (pv 0) (pa_cons pe_non pa_nil)))
      (pss_cons (ps_expr (pe_cl c_l_lay hr rfl (pa_cons (pv 0) (pa_cons (pe_ix ix_tup (pv 3) pe_int (fun _ _ => rfl)) (pa_cons (pv 2) pa_nil)))))
      (pss_cons (ps_expr (pe_bm PySem.F.plainAttrs_list PySem.F.slot_list_append PySem.F.type_list_append mt_append (pv 0) (pa_cons (pe_lst (pa_cons pe_str (pa_cons pe_int (pa_cons pe_int (pa_cons (pv 5) pa_nil))))) pa_nil)))
      (pss_cons (ps_asg (pe_lst (pa_cons pe_str (pa_cons (pv 4) (pa_cons (pe_ix ix_tup (pv 3) pe_int (fun _ _ => rfl)) (pa_cons (pe_callB call_len_seq rfl T.len_ (by decide +kernel) (pa_cons (pv 0) pa_nil)) pa_nil))))) (pg_sub (pv 0) (pv 5) set_list))
      (pss_one (ps_if (pt_cmpR op_eq (pe_ix ix_tup (pv 3) pe_int (fun _ _ => rfl)) pe_str (nomark _)) (pss_cons (ps_set (i := 6) sc_l_lay.nd rfl (Or.inl rfl) (pe_op op_sub (pe_callB call_len_seq rfl T.len_ (by decide +kernel) (pa_cons (pv 0) pa_nil)) pe_int))
      (pss_cons (ps_expr (pe_cl c_l_lay hr rfl (pa_cons (pv 0) (pa_cons (pe_ix ix_tup (pv 3) pe_int (fun _ _ => rfl)) (pa_cons (pv 2) pa_nil)))))
      (pss_one (ps_asg (pe_callB call_len_seq rfl T.len_ (by decide +kernel) (pa_cons (pv 0) pa_nil)) (pg_sub (pe_ix ix_list (pv 0) (pv 6) (fun _ _ => rfl)) pe_int set_list))))) pss_nil))))))) (pss_one (ps_expr (pe_bm PySem.F.plainAttrs_list PySem.F.slot_list_append PySem.F.type_list_append mt_append (pv 0) (pa_cons (pe_lst (pa_cons pe_str (pa_cons (pv 4) (pa_cons (pv 3) (pa_cons pe_int pa_nil))))) pa_nil)))))))))), ?_⟩
      have hl0 := wo_sub _ _ hl
      have lM : ¬ l ∈ c :: nu :: E0 := fun z => by rw [wo_in z] at hl; cases hl
      have wof : ∀ {H' : Hp}, But [c, nu] H H' → Same (Wo (c :: nu :: E0) H) (Wo (c :: nu :: E0) H') := fun b => But.wo (b.mono fun m hm => by simp only [List.mem_cons, List.not_mem_nil, or_false] at hm ⊢; rcases hm with h | h <;> simp [h])
      refine ⟨_, rfl, l, rfl, ⟨_, SqL.of hl0⟩, for_lst (K := K) (a := l) (xs := xs)
        (fun i σ H' => ∃ x3 x4 x5 x6 done rest cv2, σ = [some (.ref c), some (.ref l), some (.ref nu), x3, x4, x5, x6] ∧ But [c, nu] H H' ∧ H' c = some (.lst (cv ++ cv2)) ∧ CodeV (Wo (c :: nu :: E0) H') (lay done cv.length n) cv2 ∧ H' nu = some (.lst [.int ((n + count done : Nat) : Int)]) ∧ app done rest = r ∧ RowsV (Wo (c :: nu :: E0) H) rest (xs.drop i))
        ⟨none, none, none, none, .nil, r, [], rfl, But.refl _ _, by rw [List.append_nil]; exact hc, rfl, hnu, rfl, hrv⟩ ?_ ?_ ?_⟩
      · rintro i σ H' ⟨x3, x4, x5, x6, done, rest, cv2, rfl, b, _⟩
        exact SqL.of (wo_sub _ _ (wof b _ _ hl))
      · rintro i x σ H' hi hx ⟨x3, x4, x5, x6, done, rest, cv2, rfl, b, hcc, hcode, hnn, happ, hrest⟩
        rw [drop_at hx] at hrest
        have hlen2 := hcode.len
        rw [lay_len] at hlen2
        have hsz2 : size done + size rest = size r := by rw [← happ, size_app]
        have hdp : max (deep done) (deep rest) = deep r := by rw [← happ, deep_app]
        refine ⟨_, rfl, nu, _, _, _, rfl, rfl, SqL.of hnn, rfl, _, rfl, _, _, rfl, rfl, _, rfl, nu, _, 0, 0, rfl, rfl, hnn, rfl, ?_⟩
        have b0 : But [c, nu] H (upd H' nu (.lst [.int (((n + count done + 1 : Nat)) : Int)])) := b.put (by simp) _
        have w0 : Same (Wo (c :: nu :: E0) H') (Wo (c :: nu :: E0) (upd H' nu (.lst [.int (((n + count done + 1 : Nat)) : Int)]))) := But.wo ((But.refl _ _).put (by simp) _)
        have hc0 : (upd H' nu (.lst [.int (((n + count done + 1 : Nat)) : Int)])) c = some (.lst (cv ++ cv2)) := by rw [upd_ne cnu]; exact hcc
        have hn0 : (upd H' nu (.lst [.int (((n + count done + 1 : Nat)) : Int)])) nu = some (.lst [.int (((n + count done + 1 : Nat)) : Int)]) := upd_same
        show (fun H0 => _) (upd H' nu (.lst [.int (((n + count done + 1 : Nat)) : Int)]))
        generalize upd H' nu (.lst [.int (((n + count done + 1 : Nat)) : Int)]) = H0 at b0 w0 hc0 hn0 ⊢
        have hcode0 := hcode.mono w0
        have wH := wof b0
        have aM : ∀ {H1 : Hp}, But [c, nu] H H1 → (∃ o, H1 c = some o) → (∃ o, H1 nu = some o) → ∀ {p : Addr}, H1 p = none → ¬ p ∈ c :: nu :: E0 := fun b1 h1 h2 p hp z => by
          rcases List.mem_cons.mp z with z | z
          · obtain ⟨o, k⟩ := h1; rw [← z, hp] at k; cases k
          · rcases List.mem_cons.mp z with z | z
            · obtain ⟨o, k⟩ := h2; rw [← z, hp] at k; cases k
            · obtain ⟨o, k⟩ := hE p z
              by_cases zc : p ∈ [c, nu]
              · simp only [List.mem_cons, List.not_mem_nil, or_false] at zc
                rcases zc with rfl | rfl
                · obtain ⟨o, k⟩ := h1; rw [hp] at k; cases k
                · obtain ⟨o, k⟩ := h2; rw [hp] at k; cases k
              · rw [b1 _ _ zc k] at hp; cases hp
        have pos : (cv ++ cv2).length = cv.length + size done := by rw [List.length_append, hlen2]
        rcases rows_two hrest with ⟨lf, r', it, p, tag, us, rfl, lf1, lf2, hlay, rfl, hp, t1, t2, hr', hin⟩ | ⟨p, tag, u, la, us, cnd, a, r', va, rfl, hp, hcnd, hla, hra, hr', hk⟩
        · have hp0 := wo_sub _ _ (wH _ _ hp)
          refine ⟨_, rfl, p, _, _, _, rfl, rfl, SqT.of hp0, at0, rfl, _, rfl, ifDF (str_ne t1) ?_⟩
          refine ⟨_, rfl, p, _, _, _, rfl, rfl, SqT.of hp0, at0, rfl, _, rfl, ifDF (str_ne t2) ?_⟩
          rw [size_app, lf2] at hsz2
          refine ⟨_, rfl, .inl ⟨rfl, _, SqL.of hc0⟩, _, rfl, _, rfl, (by show 4 ≤ sizeLine; decide), fun pp hpp => ?_⟩
          have s1 := same_new hpp (.lst [.str "plain", .int ((n + count done : Nat) : Int), .ref p, .int 0])
          have hppM := aM b0 ⟨_, hc0⟩ ⟨_, hn0⟩ hpp
          have b1 : But [c, nu] H (upd H0 pp (.lst [.str "plain", .int ((n + count done : Nat) : Int), .ref p, .int 0])) := b0.trans (But.of_same s1)
          refine ⟨c, _, .ref pp, rfl, rfl, s1 _ _ hc0, szl (by rw [pos]; omega), ?_⟩
          have w1 : Same (Wo (c :: nu :: E0) H0) (Wo (c :: nu :: E0) (upd (upd H0 pp (.lst [.str "plain", .int ((n + count done : Nat) : Int), .ref p, .int 0])) c (.lst (cv ++ cv2 ++ [.ref pp])))) := But.wo ((But.of_same s1).put (by simp) _)
          have pc : pp ≠ c := fun z => hppM (by rw [z]; simp)
          refine ⟨_, _, _, _, app done lf, r', cv2 ++ [.ref pp], rfl, b1.put (by simp) _, by rw [upd_same, List.append_assoc], ?_, ?_, by rw [app_assoc]; exact happ, hr'⟩
          · rw [lay_app, hlay]
            exact CodeV.app (.one (hin _ _ _ (wH.trans w1) ⟨pp, rfl, wo_at (by rw [upd_ne pc]; exact upd_same) hppM⟩)) (hcode0.mono w1)
          · rw [upd_ne cnu.symm, count_app, lf1]
            exact s1 _ _ hn0
        · have htag : tag = "if" ∨ tag = "while" := hk.elim (fun z => .inr z.1) fun z => .inl z.1
          have hp0 := wo_sub _ _ (wH _ _ hp)
          dsimp only [tNext, gName, tSeq]
          refine st_test true (fun Q2 q2 => ?_) (iteP rfl ?_)
          · rcases htag with rfl | rfl
            · exact ⟨_, rfl, p, _, _, _, rfl, rfl, SqT.of hp0, at0, rfl, _, rfl, ifDT rfl q2⟩
            · refine ⟨_, rfl, p, _, _, _, rfl, rfl, SqT.of hp0, at0, rfl, _, rfl, ifDF (str_ne (by decide +kernel)) ?_⟩
              exact ⟨_, rfl, p, _, _, _, rfl, rfl, SqT.of hp0, at0, rfl, _, rfl, q2⟩
          · have hsa : 2 + size a ≤ size rest ∧ deep a < m := by
              rcases hk with ⟨_, _, rfl⟩ | ⟨_, lb, vb, b, _, _, _, rfl⟩
              · simp only [size, deep] at hsz2 hdp ⊢; exact ⟨by omega, by omega⟩
              · simp only [size, deep] at hsz2 hdp ⊢; exact ⟨by omega, by omega⟩
            obtain ⟨hsa, hda⟩ := hsa
            refine ⟨_, rfl, c, _, rfl, .inl (SqL.of hc0), _, rfl, .inl ⟨rfl, _, SqL.of hc0⟩, c, _, .non, rfl, rfl, hc0, szl (by rw [pos]; omega), ?_⟩
            have b1 : But [c, nu] H (upd H0 c (.lst (cv ++ cv2 ++ [.non]))) := b0.put (by simp) _
            have w1 : Same (Wo (c :: nu :: E0) H0) (Wo (c :: nu :: E0) (upd H0 c (.lst (cv ++ cv2 ++ [.non])))) := But.wo ((But.refl _ _).put (by simp) _)
            have hc1 : (upd H0 c (.lst (cv ++ cv2 ++ [.non]))) c = some (.lst (cv ++ cv2 ++ [.non])) := upd_same
            have hn1 : (upd H0 c (.lst (cv ++ cv2 ++ [.non]))) nu = some (.lst [.int (((n + count done + 1 : Nat)) : Int)]) := by rw [upd_ne cnu.symm]; exact hn0
            show (fun H1 => _) (upd H0 c (.lst (cv ++ cv2 ++ [.non])))
            generalize upd H0 c (.lst (cv ++ cv2 ++ [.non])) = H1 at b1 w1 hc1 hn1 ⊢
            have alE : ∀ {H3 : Hp}, But [c, nu] H H3 → (∃ o, H3 c = some o) → (∃ o, H3 nu = some o) → ∀ e ∈ E0, ∃ o, H3 e = some o := fun b3 h1 h2 e he => by
              by_cases zc : e ∈ [c, nu]
              · simp only [List.mem_cons, List.not_mem_nil, or_false] at zc
                rcases zc with rfl | rfl
                · exact h1
                · exact h2
              · obtain ⟨o, k⟩ := hE e he
                exact ⟨o, b3 _ _ zc k⟩
            have wH1 := wof b1
            have hp1 := wo_sub _ _ (wH1 _ _ hp)
            refine ⟨_, rfl, _, rfl, p, _, _, _, rfl, rfl, SqT.of hp1, at2, _, rfl, c, la, nu, E0, cv ++ cv2 ++ [.non], va, a, n + count done + 1, rfl, cnu, hc1, hn1, alE b1 ⟨_, hc1⟩ ⟨_, hn1⟩, wH1 _ _ hla, hra.mono wH1, hda, by rw [List.length_append, pos]; simp only [List.length_singleton]; omega, fun cva H2 b2 hc2 hn2 hcode2 => ?_⟩
            have hlen3 := hcode2.len
            rw [lay_len] at hlen3
            have b02 := b1.trans b2
            have w02 : Same (Wo (c :: nu :: E0) H0) (Wo (c :: nu :: E0) H2) := w1.trans (But.wo (b2.mono fun m hm => by simp only [List.mem_cons, List.not_mem_nil, or_false] at hm ⊢; rcases hm with h | h <;> simp [h]))
            -- the jump
            refine ⟨_, rfl, .inl ⟨rfl, _, SqL.of hc2⟩, _, rfl, (by show 4 ≤ sizeLine; decide), fun pj hpj => ?_⟩
            have hpjM := aM b02 ⟨_, hc2⟩ ⟨_, hn2⟩ hpj
            have pjc : pj ≠ c := fun z => hpjM (by rw [z]; simp)
            have pjn : pj ≠ nu := fun z => hpjM (by rw [z]; simp)
            have s2 := same_new hpj (.lst [.str "jump", .int 0, .int 0, .int (((cv ++ cv2).length : Nat) : Int)])
            refine ⟨c, _, .ref pj, rfl, rfl, s2 _ _ hc2, szl (by rw [List.length_append, List.length_append, pos, hlen3]; simp only [List.length_singleton]; omega), ?_⟩
            have b03 : But [c, nu] H (upd (upd H2 pj (.lst [.str "jump", .int 0, .int 0, .int (((cv ++ cv2).length : Nat) : Int)])) c (.lst (cv ++ cv2 ++ [.non] ++ cva ++ [.ref pj]))) := (b02.trans (But.of_same s2)).put (by simp) _
            have hc3 : (upd (upd H2 pj (.lst [.str "jump", .int 0, .int 0, .int (((cv ++ cv2).length : Nat) : Int)])) c (.lst (cv ++ cv2 ++ [.non] ++ cva ++ [.ref pj]))) c = some (.lst (cv ++ cv2 ++ [.non] ++ cva ++ [.ref pj])) := upd_same
            have hn3 : (upd (upd H2 pj (.lst [.str "jump", .int 0, .int 0, .int (((cv ++ cv2).length : Nat) : Int)])) c (.lst (cv ++ cv2 ++ [.non] ++ cva ++ [.ref pj]))) nu = some (.lst [.int (((n + count done + 1 + count a : Nat)) : Int)]) := by rw [upd_ne cnu.symm]; exact s2 _ _ hn2
            have hj3 : (upd (upd H2 pj (.lst [.str "jump", .int 0, .int 0, .int (((cv ++ cv2).length : Nat) : Int)])) c (.lst (cv ++ cv2 ++ [.non] ++ cva ++ [.ref pj]))) pj = some (.lst [.str "jump", .int 0, .int 0, .int (((cv ++ cv2).length : Nat) : Int)]) := by rw [upd_ne pjc]; exact upd_same
            have w23 : Same (Wo (c :: nu :: E0) H2) (Wo (c :: nu :: pj :: E0) (upd (upd H2 pj (.lst [.str "jump", .int 0, .int 0, .int (((cv ++ cv2).length : Nat) : Int)])) c (.lst (cv ++ cv2 ++ [.non] ++ cva ++ [.ref pj])))) :=
              wo_chg (fun z hz => by
                simp only [List.mem_cons] at hz ⊢
                rcases hz with h | h | h | h
                · exact .inl (.inl h)
                · exact .inl (.inr (.inl h))
                · exact .inr (by rw [h]; exact hpj)
                · exact .inl (.inr (.inr h))) ((But.of_same s2).put (by simp) _)
            show (fun H3 => _) (upd (upd H2 pj (.lst [.str "jump", .int 0, .int 0, .int (((cv ++ cv2).length : Nat) : Int)])) c (.lst (cv ++ cv2 ++ [.non] ++ cva ++ [.ref pj])))
            generalize upd (upd H2 pj (.lst [.str "jump", .int 0, .int 0, .int (((cv ++ cv2).length : Nat) : Int)])) c (.lst (cv ++ cv2 ++ [.non] ++ cva ++ [.ref pj])) = H3 at b03 hc3 hn3 hj3 w23 ⊢
            -- the look
            have hp3 := wo_sub _ _ (wof b03 _ _ hp)
            refine ⟨_, rfl, _, rfl, p, _, _, _, rfl, rfl, SqT.of hp3, at1, _, rfl, c, _, rfl, .inl (SqL.of hc3), (by show 4 ≤ sizeLine; decide), fun pk hpk => ?_⟩
            have el : (cv ++ cv2 ++ [V.non] ++ cva ++ [V.ref pj]).length = (cv ++ cv2).length + 2 + size a := by simp only [List.length_append, List.length_singleton, hlen3]; omega
            rw [el]
            have hpkM := aM b03 ⟨_, hc3⟩ ⟨_, hn3⟩ hpk
            have pkc : pk ≠ c := fun z => hpkM (by rw [z]; simp)
            have pkj : pk ≠ pj := fun z => by rw [z, hj3] at hpk; cases hpk
            have s3 := same_new hpk (.lst [.str "look", .int ((n + count done : Nat) : Int), u, .int (((cv ++ cv2).length + 2 + size a : Nat) : Int)])
            have hix : ixN (cv ++ cv2 ++ [V.non] ++ cva ++ [V.ref pj]).length (((cv ++ cv2).length : Nat) : Int) = some (cv ++ cv2).length := by
              unfold ixN
              rw [if_pos (by omega), if_pos (by rw [el]; omega)]
              rfl
            refine ⟨_, rfl, _, rfl, c, _, _, _, rfl, rfl, s3 _ _ hc3, hix, ?_⟩
            have eset : (cv ++ cv2 ++ [V.non] ++ cva ++ [V.ref pj]).set (cv ++ cv2).length (.ref pk) = cv ++ cv2 ++ [.ref pk] ++ cva ++ [.ref pj] := by
              rw [show cv ++ cv2 ++ [V.non] ++ cva ++ [V.ref pj] = (cv ++ cv2) ++ V.non :: (cva ++ [V.ref pj]) by simp, set_mid rfl]
              simp
            rw [eset]
            have b05 : But [c, nu] H (upd (upd H3 pk (.lst [.str "look", .int ((n + count done : Nat) : Int), u, .int (((cv ++ cv2).length + 2 + size a : Nat) : Int)])) c (.lst (cv ++ cv2 ++ [.ref pk] ++ cva ++ [.ref pj]))) := (b03.trans (But.of_same s3)).put (by simp) _
            have hc5 : (upd (upd H3 pk (.lst [.str "look", .int ((n + count done : Nat) : Int), u, .int (((cv ++ cv2).length + 2 + size a : Nat) : Int)])) c (.lst (cv ++ cv2 ++ [.ref pk] ++ cva ++ [.ref pj]))) c = some (.lst (cv ++ cv2 ++ [.ref pk] ++ cva ++ [.ref pj])) := upd_same
            have hn5 : (upd (upd H3 pk (.lst [.str "look", .int ((n + count done : Nat) : Int), u, .int (((cv ++ cv2).length + 2 + size a : Nat) : Int)])) c (.lst (cv ++ cv2 ++ [.ref pk] ++ cva ++ [.ref pj]))) nu = some (.lst [.int (((n + count done + 1 + count a : Nat)) : Int)]) := by rw [upd_ne cnu.symm]; exact s3 _ _ hn3
            have hj5 : (upd (upd H3 pk (.lst [.str "look", .int ((n + count done : Nat) : Int), u, .int (((cv ++ cv2).length + 2 + size a : Nat) : Int)])) c (.lst (cv ++ cv2 ++ [.ref pk] ++ cva ++ [.ref pj]))) pj = some (.lst [.str "jump", .int 0, .int 0, .int (((cv ++ cv2).length : Nat) : Int)]) := by rw [upd_ne pjc]; exact s3 _ _ hj3
            have hk5 : (upd (upd H3 pk (.lst [.str "look", .int ((n + count done : Nat) : Int), u, .int (((cv ++ cv2).length + 2 + size a : Nat) : Int)])) c (.lst (cv ++ cv2 ++ [.ref pk] ++ cva ++ [.ref pj]))) pk = some (.lst [.str "look", .int ((n + count done : Nat) : Int), u, .int (((cv ++ cv2).length + 2 + size a : Nat) : Int)]) := by rw [upd_ne pkc]; exact upd_same
            have w25 : Same (Wo (c :: nu :: E0) H2) (Wo (c :: nu :: pj :: E0) (upd (upd H3 pk (.lst [.str "look", .int ((n + count done : Nat) : Int), u, .int (((cv ++ cv2).length + 2 + size a : Nat) : Int)])) c (.lst (cv ++ cv2 ++ [.ref pk] ++ cva ++ [.ref pj])))) :=
              w23.trans (But.wo ((But.of_same s3).put (by simp) _))
            show (fun H5 => _) (upd (upd H3 pk (.lst [.str "look", .int ((n + count done : Nat) : Int), u, .int (((cv ++ cv2).length + 2 + size a : Nat) : Int)])) c (.lst (cv ++ cv2 ++ [.ref pk] ++ cva ++ [.ref pj])))
            generalize upd (upd H3 pk (.lst [.str "look", .int ((n + count done : Nat) : Int), u, .int (((cv ++ cv2).length + 2 + size a : Nat) : Int)])) c (.lst (cv ++ cv2 ++ [.ref pk] ++ cva ++ [.ref pj])) = H5 at b05 hc5 hn5 hj5 hk5 w25 ⊢
            have pkM2 : ¬ pk ∈ c :: nu :: pj :: E0 := fun z => by
              simp only [List.mem_cons] at z hpkM
              rcases z with z | z | z | z
              · exact hpkM (.inl z)
              · exact hpkM (.inr (.inl z))
              · exact pkj z
              · exact hpkM (.inr (.inr z))
            have lessM : ∀ {H' : Hp}, Same (Wo (c :: nu :: pj :: E0) H') (Wo (c :: nu :: E0) H') := wo_less fun m hm => by
              simp only [List.mem_cons] at hm ⊢
              rcases hm with h | h | h
              · exact .inl h
              · exact .inr (.inl h)
              · exact .inr (.inr (.inr h))
            have cnd5 : ExV (Wo (c :: nu :: pj :: E0) H5) cnd u := (((hcnd.mono wH).mono w02).mono w25)
            have look5 : InV (Wo (c :: nu :: pj :: E0) H5) (.look (n + count done) cnd ((cv ++ cv2).length + 2 + size a)) (.ref pk) := ⟨u, ⟨pk, rfl, wo_at hk5 pkM2⟩, cnd5⟩
            have ca5 := hcode2.mono w25
            have cd5 := (hcode0.mono w02).mono w25
            have hp5 := wo_sub _ _ (wof b05 _ _ hp)
            have lnon : (cv ++ cv2 ++ [V.non]).length = (cv ++ cv2).length + 1 := by rw [List.length_append]; rfl
            rw [lnon] at ca5
            rcases hk with ⟨rfl, rfl, rfl⟩ | ⟨rfl, lb, vb, bb, rfl, hlb, hvb, rfl⟩
            · refine ⟨_, rfl, p, _, _, _, rfl, rfl, SqT.of hp5, at0, rfl, _, rfl, ifDF (str_ne (by decide +kernel)) ?_⟩
              refine ⟨_, _, _, _, app done (.whl cnd a .nil), r', cv2 ++ (.ref pk :: (cva ++ [.ref pj])), rfl, b05, by rw [hc5]; simp, ?_, ?_, by rw [app_assoc]; exact happ, hr'⟩
              · rw [lay_app, ← pos]
                refine CodeV.app ?_ (cd5.mono lessM)
                have jmp5 : InV (Wo (c :: nu :: E0) H5) (.jump (cv ++ cv2).length) (.ref pj) := ⟨pj, rfl, wo_at hj5 hpjM⟩
                exact CodeV.cons (look5.mono lessM) (CodeV.app (.one jmp5) (ca5.mono lessM))
              · rw [hn5, count_app]
                simp only [count]
                congr 4
                omega
            · have w05 := (wH.trans w02).trans w25
              have npj : H pj = none := by
                cases z : H pj with
                | none => rfl
                | some o => rw [b02 _ _ (fun y => by simp only [List.mem_cons, List.not_mem_nil, or_false] at y; exact y.elim pjc pjn) z] at hpj; cases hpj
              have pj2 : ¬ pj ∈ [c, nu] := fun y => by simp only [List.mem_cons, List.not_mem_nil, or_false] at y; exact y.elim pjc pjn
              have el5 : (cv ++ cv2 ++ [V.ref pk] ++ cva ++ [V.ref pj]).length = (cv ++ cv2).length + 2 + size a := by simp only [List.length_append, List.length_singleton, hlen3]; omega
              simp only [size, deep] at hsz2 hdp
              refine ⟨_, rfl, p, _, _, _, rfl, rfl, SqT.of hp5, at0, rfl, _, rfl, ifDT rfl ?_⟩
              refine ⟨_, rfl, c, _, rfl, .inl (SqL.of hc5), _, _, rfl, rfl, ?_⟩
              refine ⟨_, rfl, _, rfl, p, _, _, _, rfl, rfl, SqT.of hp5, rfl, _, rfl, c, lb, nu, pj :: E0, cv ++ cv2 ++ [.ref pk] ++ cva ++ [.ref pj], vb, bb, n + count done + 1 + count a, rfl, cnu, hc5, hn5, (fun e he => (List.mem_cons.mp he).elim (fun z => by rw [z]; exact ⟨_, hj5⟩) (alE b05 ⟨_, hc5⟩ ⟨_, hn5⟩ e)), w05 _ _ hlb, hvb.mono w05, by omega, by rw [el5, pos]; omega, fun cvb H6 b6 hc6 hn6 hcode6 => ?_⟩
              have hlen6 := hcode6.len
              rw [lay_len] at hlen6
              have hj6 := b6 _ _ pj2 hj5
              have el6 : (cv ++ cv2 ++ [V.ref pk] ++ cva ++ [V.ref pj] ++ cvb).length = (cv ++ cv2).length + 2 + size a + size bb := by rw [List.length_append, el5, hlen6]
              have atj : atI (cv ++ cv2 ++ [V.ref pk] ++ cva ++ [V.ref pj] ++ cvb) ((((cv ++ cv2 ++ [V.ref pk] ++ cva ++ [V.ref pj]).length : Nat) : Int) - 1) = some (.ref pj) := by
                refine at_of (j := (cv ++ cv2 ++ [V.ref pk] ++ cva).length) (by rw [len1]; omega) ?_
                rw [List.getElem?_append_left (by rw [len1]; exact Nat.lt_succ_self _), List.getElem?_append_right (Nat.le_refl _), Nat.sub_self]
                rfl
              refine ⟨_, rfl, c, _, rfl, .inl (SqL.of hc6), _, rfl, _, rfl, c, _, _, _, rfl, rfl, SqL.of hc6, atj, pj, _, 3, 3, rfl, rfl, hj6, rfl, ?_⟩
              rw [el6]
              have w57 : Same (Wo (c :: nu :: pj :: E0) H5) (Wo (c :: nu :: pj :: E0) (upd H6 pj (.lst ([.str "jump", .int 0, .int 0, .int (((cv ++ cv2).length : Nat) : Int)].set 3 (.int (((cv ++ cv2).length + 2 + size a + size bb : Nat) : Int)))))) :=
                But.wo ((b6.mono fun m hm => by simp only [List.mem_cons, List.not_mem_nil, or_false] at hm ⊢; rcases hm with h | h <;> simp [h]).put (by simp) _)
              have w67 : Same (Wo (c :: nu :: pj :: E0) H6) (Wo (c :: nu :: pj :: E0) (upd H6 pj (.lst ([.str "jump", .int 0, .int 0, .int (((cv ++ cv2).length : Nat) : Int)].set 3 (.int (((cv ++ cv2).length + 2 + size a + size bb : Nat) : Int)))))) :=
                But.wo ((But.refl _ _).put (by simp) _)
              refine ⟨_, _, _, _, app done (.ife cnd a bb .nil), r', cv2 ++ (.ref pk :: (cva ++ (.ref pj :: cvb))), rfl, (b05.trans b6).new npj _, by rw [upd_ne pjc.symm, hc6]; simp, ?_, ?_, by rw [app_assoc]; exact happ, hr'⟩
              · rw [lay_app, ← pos]
                refine CodeV.app ?_ ((cd5.mono w57).mono lessM)
                have jmp7 : InV (Wo (c :: nu :: E0) (upd H6 pj (.lst ([.str "jump", .int 0, .int 0, .int (((cv ++ cv2).length : Nat) : Int)].set 3 (.int (((cv ++ cv2).length + 2 + size a + size bb : Nat) : Int)))))) (.jump ((cv ++ cv2).length + 2 + size a + size bb)) (.ref pj) := ⟨pj, rfl, wo_at upd_same hpjM⟩
                rw [el5] at hcode6
                have cb7 := (hcode6.mono w67).mono lessM
                have enil : lay bb ((cv ++ cv2).length + 2 + size a) (n + count done + 1 + count a) = lay bb ((cv ++ cv2).length + 2 + size a) (n + count done + 1 + count a) ++ lay .nil ((cv ++ cv2).length + 2 + size a + size bb) (n + count done + 1 + count a + count bb) := by
                  rw [show lay .nil ((cv ++ cv2).length + 2 + size a + size bb) (n + count done + 1 + count a + count bb) = [] from rfl, List.append_nil]
                have cb8 := cb7
                rw [enil] at cb8
                exact CodeV.cons ((look5.mono w57).mono lessM) (CodeV.app (CodeV.cons jmp7 cb8) ((ca5.mono w57).mono lessM))
              · rw [upd_ne pjn.symm, hn6, count_app]
                simp only [count]
                congr 4
                omega
      · rintro σ H' ⟨x3, x4, x5, x6, done, rest, cv2, rfl, b, hcc, hcode, hnn, happ, hrest⟩
        rw [List.drop_length] at hrest
        have hnil : rest = .nil := by
          cases rest with
          | nil => rfl
          | plain _ _ => obtain ⟨v, t, h, _⟩ := hrest; cases h
          | call _ _ => obtain ⟨v, t, h, _⟩ := hrest; cases h
          | ife _ _ _ _ => obtain ⟨v, t, u, la, lb, va, vb, h, _⟩ := hrest; cases h
          | whl _ _ _ => obtain ⟨v, t, u, la, va, h, _⟩ := hrest; cases h
        rw [hnil, app_nil] at happ
        subst happ
        exact q cv2 H' b hcc hnn hcode
end
end GT
/-! _law_code -/
namespace GT
open PySem PySem.Spec PyProof.Rows L2
theorem sc_l_code : FnScope ["_law_tree_here", "_law_code_here", "_law_numbers", "_law_begins", "_law_name", "_law_rows_here"] ["_law_tree_here"] (defScope s_l_code) := ⟨rfl, rfl, rfl, by decide +kernel, rfl, by decide +kernel, by decide +kernel⟩
def BegV (kvs : List (Key × V)) (code : List In) (T : Nm → Option Part) : Prop := ∀ x q, T x = some q → ∃ p : Nat, valV kvs (.inr x) = some (.int p) ∧ At code p (lay q.r p q.n ++ [.back])
theorem At.more {code more : List In} {p : Nat} {l : List In} (h : At code p l) : At (code ++ more) p l := fun i x e => by
  have k := h i x e
  rw [List.getElem?_append_left (List.getElem?_eq_some_iff.mp k).1]
  exact k
theorem At.here {code l : List In} {p : Nat} (h : code.length = p) : At (code ++ l) p l := fun i x e => by
  rw [List.getElem?_append_right (by omega), show p + i - code.length = i by omega]
  exact e
theorem size_le : ∀ r : Rows, size r ≤ 2 * count r
  | .nil => by simp [size]
  | .plain p r => by have := size_le r; simp only [size, count]; omega
  | .call x r => by have := size_le r; simp only [size, count]; omega
  | .ife c a b r => by have h1 := size_le a; have h2 := size_le b; have h3 := size_le r; simp only [size, count]; omega
  | .whl c a r => by have h1 := size_le a; have h3 := size_le r; simp only [size, count]; omega
def InOk (G : Env) : In → Prop
  | .plain _ p => PlOk G p
  | .look _ c _ => WT G true c ∧ hgt c ≤ 6
  | _ => True
theorem lay_ok {G : Env} {T : Nm → Option Part} {k : Nat} : ∀ {r : Rows} {pos n : Nat}, RowsOk G T k r → ∀ it ∈ lay r pos n, InOk G it
  | .nil, _, _, _, it, h => nomatch h
  | .plain p r, pos, n, q, it, h => by
    rcases List.mem_cons.mp h with rfl | h
    · exact q.1
    · exact lay_ok q.2 it h
  | .call x r, pos, n, q, it, h => by
    rcases List.mem_cons.mp h with rfl | h
    · trivial
    · exact lay_ok q.2 it h
  | .ife c a b r, pos, n, q, it, h => by
    rcases List.mem_cons.mp h with rfl | h
    · exact ⟨q.1, q.2.1⟩
    · rcases List.mem_append.mp h with h | h
      · exact lay_ok q.2.2.1 it h
      · rcases List.mem_cons.mp h with rfl | h
        · trivial
        · rcases List.mem_append.mp h with h | h
          · exact lay_ok q.2.2.2.1 it h
          · exact lay_ok q.2.2.2.2 it h
  | .whl c a r, pos, n, q, it, h => by
    rcases List.mem_cons.mp h with rfl | h
    · exact ⟨q.1, q.2.1⟩
    · rcases List.mem_append.mp h with h | h
      · exact lay_ok q.2.2.1 it h
      · rcases List.mem_cons.mp h with rfl | h
        · trivial
        · exact lay_ok q.2.2.2 it h
theorem tab_of_mem {y : Nm} {r : Rows} : ∀ {ps : List (Nm × Rows)} {n i : Nat}, (ps.map (·.1)).Nodup → (y, r) ∈ ps → ∃ q, tabOf ps n i y = some q ∧ q.r = r
  | [], _, _, _, h => nomatch h
  | (z, u) :: ps, n, i, hn, h => by
    have hn' : (z :: ps.map (·.1)).Nodup := hn
    obtain ⟨h1, h2⟩ := List.nodup_cons.mp hn'
    rcases List.mem_cons.mp h with e | h
    · cases e
      exact ⟨⟨i, r, n⟩, by simp [tabOf], rfl⟩
    · have ne : ¬ z = y := fun e => h1 (by rw [e]; exact List.mem_map.mpr ⟨_, h, rfl⟩)
      obtain ⟨q, a, b⟩ := tab_of_mem (n := n + count u) (i := i + 1) h2 h
      exact ⟨q, by simp only [tabOf, if_neg ne]; exact a, b⟩
structure CInv (G : Env) (H : Hp) (c nu b : Addr) (ps : List (Nm × Rows)) (H' : Hp) (i : Nat) (cv : List V) (code : List In) (kvs : List (Key × V)) : Prop where
  same : Same H H'
  hc : H' c = some (.lst cv)
  hn : H' nu = some (.lst [.int ((allOf (ps.take i) : Nat) : Int)])
  hb : H' b = some (.dK kvs)
  cd : CodeV (Wo [c, nu, b] H') code cv
  bg : BegV kvs code (tabOf (ps.take i) 0 0)
  kl : kvs.length ≤ i
  cl : code.length ≤ 2001 * i
  ok : ∀ it ∈ code, InOk G it
theorem allOf_take {ps : List (Nm × Rows)} {i : Nat} {y : Nm} {r : Rows} (h : ps[i]? = some (y, r)) : allOf (ps.take (i + 1)) = allOf (ps.take i) + count r := by rw [take_snoc h, allOf_snoc]
section
variable {P : Program} {w : World} {K : PySem.W.Frag} {mg : Str → Option Value} {base : Heap} {C : Addr}
def spCode : Sp := fun vs H Q _ => ∃ (tv : V) (t : Tree), vs = [tv] ∧ TreeV H tv t ∧ TreeOk t ∧
  ∀ v c b cv code kvs p0 H', Same H H' → TupV H' v [.ref c, .ref b] → H' c = some (.lst cv) → CodeV H' code cv → H' b = some (.dK kvs) → BegV kvs code (tabT t) → valV kvs (.inr "") = some (.int ((p0 : Nat) : Int)) → At code p0 (lay t.main p0 (allOf t.ps) ++ [.fin]) → code.length ≤ 20000 → (∀ it ∈ code, InOk (envOf t.D) it) → Q v H'
theorem ok_l_code (T0 : Top K mg C) {k : Nat} (c_l_lay : Cal P w K mg base "_law_lay" ["_law_code_here", "_law_rows_here", "_law_numbers"] k (spLay 9)) : Cal P w K mg base "_law_code" ["_law_tree_here"] (k + 1) spCode := by
  have T := T0
  refine T.d_l_code.ok sc_l_code (fun _ _ _ _ _ _ us hl => match us, hl with | [_], _ => rfl) (fun vs H Q E h => ?_) (fun f cdv A outer s0 H vs Q E hr h => ?_)
  · obtain ⟨tv, t, rfl, _⟩ := h
    rfl
  · obtain ⟨tv, t, rfl, ht, ok, q⟩ := h
    refine ⟨_, (pss_cons (ps_set (i := 1) sc_l_code.nd rfl (Or.inl rfl) (pe_lst pa_nil))
      (pss_cons (ps_set (i := 2) sc_l_code.nd rfl (Or.inl rfl) (pe_lst (pa_cons pe_int pa_nil)))
      (pss_cons (ps_set (i := 3) sc_l_code.nd rfl (Or.inl rfl) pe_dnewK)
      (pss_cons (ps_for PassesOwn.never rfl (pi_list (pe_ix ix_tup (pv 0) pe_int (fun _ _ => rfl))) (pg_tup rfl (pgs_cons (pg_name (i := 4) sc_l_code.nd rfl (Or.inl rfl)) (pgs_cons (pg_name (i := 5) sc_l_code.nd rfl (Or.inl rfl)) pgs_nil))) (pss_cons (ps_dput (hu_of hr) (pv 3) (pv 4) (pe_callB call_len_seq rfl T.len_ (by decide +kernel) (pa_cons (pv 1) pa_nil)) rfl)
      (pss_cons (ps_expr (pe_cl c_l_lay hr rfl (pa_cons (pv 1) (pa_cons (pv 5) (pa_cons (pv 2) pa_nil)))))
      (pss_one (ps_expr (pe_bm PySem.F.plainAttrs_list PySem.F.slot_list_append PySem.F.type_list_append mt_append (pv 1) (pa_cons (pe_lst (pa_cons pe_str (pa_cons pe_int (pa_cons pe_int (pa_cons pe_int pa_nil))))) pa_nil)))))))
      (pss_cons (ps_dput (hu_of hr) (pv 3) pe_str (pe_callB call_len_seq rfl T.len_ (by decide +kernel) (pa_cons (pv 1) pa_nil)) rfl)
      (pss_cons (ps_expr (pe_cl c_l_lay hr rfl (pa_cons (pv 1) (pa_cons (pe_ix ix_tup (pv 0) pe_int (fun _ _ => rfl)) (pa_cons (pv 2) pa_nil)))))
      (pss_cons (ps_expr (pe_bm PySem.F.plainAttrs_list PySem.F.slot_list_append PySem.F.type_list_append mt_append (pv 1) (pa_cons (pe_lst (pa_cons pe_str (pa_cons pe_int (pa_cons pe_int (pa_cons pe_int pa_nil))))) pa_nil)))
      (pss_one (ps_ret (pe_tup (pa_cons (pv 1) (pa_cons (pv 3) pa_nil)))))))))))), ?_⟩
    obtain ⟨lv, lp, lm, dv, pv, mv, ⟨tp, rfl, htp⟩, hlv, hD, hlp, hps, hlm, hmv⟩ := ht
    have psl := hps.len
    refine ⟨(by show 0 ≤ sizeLine; decide), fun c hc => ⟨(by show 1 ≤ sizeLine; decide), fun nu hnu => fun b hb => ?_⟩⟩
    have s1 := same_new hc (.lst [])
    have s2 := same_new hnu (.lst [.int 0])
    have s3 := same_new hb (.dK [])
    have e3 : (upd (upd (upd H c (.lst [])) nu (.lst [.int 0])) b (.dK [])) b = some (.dK []) := upd_same
    have e2 : (upd (upd (upd H c (.lst [])) nu (.lst [.int 0])) b (.dK [])) nu = some (.lst [.int 0]) := s3 _ _ upd_same
    have e1 : (upd (upd (upd H c (.lst [])) nu (.lst [.int 0])) b (.dK [])) c = some (.lst []) := s3 _ _ (s2 _ _ upd_same)
    have n1 : nu ≠ c := fun z => by rw [z, upd_same] at hnu; cases hnu
    have n2 : b ≠ nu := fun z => by rw [z, upd_same] at hb; cases hb
    have n3 : b ≠ c := fun z => by rw [z, upd_ne n1.symm, upd_same] at hb; cases hb
    have fnu : H nu = none := by rw [upd_ne n1] at hnu; exact hnu
    have fb : H b = none := by rw [upd_ne n2, upd_ne n3] at hb; exact hb
    have s13 := (s1.trans s2).trans s3
    show (fun H3 => _) (upd (upd (upd H c (.lst [])) nu (.lst [.int 0])) b (.dK []))
    generalize upd (upd (upd H c (.lst [])) nu (.lst [.int 0])) b (.dK []) = H3 at e1 e2 e3 s13 ⊢
    have fM : ∀ m ∈ [c, nu, b], H m = none := fun m hm => by
      simp only [List.mem_cons, List.not_mem_nil, or_false] at hm
      rcases hm with rfl | rfl | rfl
      · exact hc
      · exact fnu
      · exact fb
    have sW : ∀ {H' : Hp}, Same H H' → Same H (Wo [c, nu, b] H') := fun s q o e => wo_at (s _ _ e) fun z => by rw [fM _ z] at e; cases e
    refine ⟨_, rfl, tp, _, _, _, rfl, rfl, SqT.of (s13 _ _ htp), rfl, lp, rfl, ⟨_, SqL.of (s13 _ _ hlp)⟩, for_lst (K := K) (a := lp) (xs := pv)
      (fun i σ H' => ∃ x4 x5 cv code kvs, σ = [some (.ref tp), some (.ref c), some (.ref nu), some (.ref b), x4, x5] ∧ CInv (envOf t.D) H c nu b t.ps H' i cv code kvs) ⟨none, none, [], [], [], rfl, s13, e1, e2, e3, rfl, (fun x q e => by simp [tabOf] at e), Nat.le_refl _, Nat.le_refl _, fun it h => nomatch h⟩ ?_ ?_ ?_⟩
    · rintro i σ H' ⟨x4, x5, cv, code, kvs, rfl, I⟩
      exact SqL.of (I.same _ _ hlp)
    · rintro i x σ H' hi hx ⟨x4, x5, cv, code, kvs, rfl, I⟩
      obtain ⟨y, r, p, l, xs, hpi, rfl, hp, hl, hxs⟩ := hps.at_ hx
      have hyr : (y, r) ∈ t.ps := List.mem_of_getElem? hpi
      have i3 : i < 3 := by have := ok.pl; omega
      have lcv := I.cd.len
      have cr : count r ≤ 1000 := ok.cnt.2 _ hyr
      have dr : deep r ≤ 8 := ok.deep.2 _ hyr
      have sr := size_le r
      have icl := I.cl
      refine ⟨p, _, rfl, SqT.of (I.same _ _ hp), rfl, _, _, rfl, _, _, rfl, rfl, ?_⟩
      refine ⟨_, rfl, c, _, rfl, .inl (SqL.of I.hc), _, rfl, _, rfl, b, _, rfl, .inl ⟨kvs, .inr y, I.hb, rfl, szl (by have := I.kl; omega), rfl⟩, ?_⟩
      have b1 : But [c, nu, b] H' (upd H' b (.dK (putK kvs (.inr y) (.int ((cv.length : Nat) : Int))))) := (But.refl _ _).put (by simp) _
      have hc1 : (upd H' b (.dK (putK kvs (.inr y) (.int ((cv.length : Nat) : Int))))) c = some (.lst cv) := by rw [upd_ne n3.symm]; exact I.hc
      have hn1 : (upd H' b (.dK (putK kvs (.inr y) (.int ((cv.length : Nat) : Int))))) nu = some (.lst [.int ((allOf (t.ps.take i) : Nat) : Int)]) := by rw [upd_ne n2.symm]; exact I.hn
      have hb1 : (upd H' b (.dK (putK kvs (.inr y) (.int ((cv.length : Nat) : Int))))) b = some (.dK (putK kvs (.inr y) (.int ((cv.length : Nat) : Int)))) := upd_same
      show (fun H1 => _) (upd H' b (.dK (putK kvs (.inr y) (.int ((cv.length : Nat) : Int)))))
      generalize upd H' b (.dK (putK kvs (.inr y) (.int ((cv.length : Nat) : Int)))) = H1 at b1 hc1 hn1 hb1 ⊢
      have sH1 : Same H H1 := fun q o e => b1 q o (fun z => by rw [fM _ z] at e; cases e) (I.same _ _ e)
      refine ⟨_, rfl, _, rfl, _, rfl, c, l, nu, [b], cv, xs, r, allOf (t.ps.take i), rfl, n1.symm, hc1, hn1, (fun e he => by rw [List.mem_singleton.mp he]; exact ⟨_, hb1⟩), sW sH1 _ _ hl, hxs.mono (sW sH1), by omega, by omega, fun cv2 H2 b2 hc2 hn2 hcode2 => ?_⟩
      have b12 : But [c, nu, b] H' H2 := b1.trans (b2.mono fun m hm => by simp only [List.mem_cons, List.not_mem_nil, or_false] at hm ⊢; rcases hm with h | h <;> simp [h])
      have hb2 := b2 b _ (by simp [n2, n3]) hb1
      have lcv2 := hcode2.len
      rw [lay_len] at lcv2
      refine ⟨_, rfl, .inl ⟨rfl, _, SqL.of hc2⟩, (by show 4 ≤ sizeLine; decide), fun pb hpb => ?_⟩
      have sb := same_new hpb (.lst [.str "back", .int 0, .int 0, .int 0])
      refine ⟨c, _, .ref pb, rfl, rfl, sb _ _ hc2, szl (by rw [List.length_append]; omega), ?_⟩
      have b13 : But [c, nu, b] H' (upd (upd H2 pb (.lst [.str "back", .int 0, .int 0, .int 0])) c (.lst (cv ++ cv2 ++ [.ref pb]))) := (b12.trans (But.of_same sb)).put (by simp) _
      have w23 : Same (Wo [c, nu, b] H2) (Wo [c, nu, b] (upd (upd H2 pb (.lst [.str "back", .int 0, .int 0, .int 0])) c (.lst (cv ++ cv2 ++ [.ref pb])))) := But.wo ((But.of_same sb).put (by simp) _)
      have pbM : ¬ pb ∈ [c, nu, b] := fun z => by
        simp only [List.mem_cons, List.not_mem_nil, or_false] at z
        rcases z with rfl | rfl | rfl
        · rw [hc2] at hpb; cases hpb
        · rw [hn2] at hpb; cases hpb
        · rw [hb2] at hpb; cases hpb
      have pbc : pb ≠ c := fun z => pbM (by simp [z])
      have hbk : InV (Wo [c, nu, b] (upd (upd H2 pb (.lst [.str "back", .int 0, .int 0, .int 0])) c (.lst (cv ++ cv2 ++ [.ref pb])))) .back (.ref pb) := ⟨pb, rfl, wo_at (by rw [upd_ne pbc]; exact upd_same) pbM⟩
      have ny : ¬ y ∈ (t.ps.take i).map (·.1) := fun z => by
        rw [List.map_take] at z
        obtain ⟨j, hj⟩ := List.mem_iff_getElem?.mp z
        have hlt : j < i := by
          have := (List.getElem?_eq_some_iff.mp hj).1
          rw [List.length_take] at this
          omega
        rw [List.getElem?_take_of_lt hlt] at hj
        have := nd_ix ok.pnd hj (show (t.ps.map (·.1))[i]? = some y by rw [List.getElem?_map, hpi]; rfl)
        omega
      refine ⟨_, _, cv ++ cv2 ++ [.ref pb], code ++ (lay r cv.length (allOf (t.ps.take i)) ++ [.back]), _, rfl, fun q o e => b13 q o (fun z => by rw [fM _ z] at e; cases e) (I.same _ _ e), upd_same, by rw [upd_ne n1, allOf_take hpi]; exact sb _ _ hn2, by rw [upd_ne n3]; exact sb _ _ hb2, ?_, ?_, ?_, ?_, fun it hit => ?_⟩
      · have k := CodeV.app (CodeV.app (.one hbk) (hcode2.mono w23)) (I.cd.mono b13.wo)
        rw [← List.append_assoc cv cv2 [V.ref pb]] at k
        exact k
      · rw [take_snoc hpi]
        intro x q e
        rw [tab_snoc ny] at e
        rw [valV_put]
        by_cases z : y = x
        · rw [if_pos z] at e
          cases e
          subst z
          rw [if_pos rfl]
          refine ⟨cv.length, rfl, ?_⟩
          show At _ cv.length (lay r cv.length (0 + allOf (t.ps.take i)) ++ [.back])
          rw [Nat.zero_add]
          exact At.here lcv.symm
        · rw [if_neg z] at e
          rw [if_neg (fun k => z (Sum.inr.inj k).symm)]
          obtain ⟨p, h1, h2⟩ := I.bg x q e
          exact ⟨p, h1, h2.more⟩
      · have := I.kl
        unfold putK
        split
        · rw [List.length_map]; omega
        · rw [List.length_append, List.length_singleton]; omega
      · rw [List.length_append, List.length_append, lay_len, List.length_singleton]
        omega
      · rcases List.mem_append.mp hit with h | h
        · exact I.ok it h
        · rcases List.mem_append.mp h with h | h
          · obtain ⟨q, h1, h2⟩ := tab_of_mem (n := 0) (i := 0) ok.pnd hyr
            have := ok.tab y q h1
            rw [h2] at this
            exact lay_ok this it h
          · rw [List.mem_singleton.mp h]
            trivial
    · rintro σ H' ⟨x4, x5, cv, code, kvs, rfl, I⟩
      have etake : t.ps.take pv.length = t.ps := by rw [psl, List.take_length]
      have icl := I.cl
      have ipl := ok.pl
      have ikl := I.kl
      have lcv := I.cd.len
      have cr : count t.main ≤ 1000 := ok.cnt.1
      have dr : deep t.main ≤ 8 := ok.deep.1
      have sr := size_le t.main
      have ihn := I.hn
      have ibg := I.bg
      rw [etake] at ihn ibg
      refine ⟨_, rfl, c, _, rfl, .inl (SqL.of I.hc), _, rfl, b, _, rfl, .inl ⟨kvs, .inr "", I.hb, rfl, szl (by omega), rfl⟩, ?_⟩
      have b1 : But [c, nu, b] H' (upd H' b (.dK (putK kvs (.inr "") (.int ((cv.length : Nat) : Int))))) := (But.refl _ _).put (by simp) _
      have hc1 : (upd H' b (.dK (putK kvs (.inr "") (.int ((cv.length : Nat) : Int))))) c = some (.lst cv) := by rw [upd_ne n3.symm]; exact I.hc
      have hn1 : (upd H' b (.dK (putK kvs (.inr "") (.int ((cv.length : Nat) : Int))))) nu = some (.lst [.int ((allOf t.ps : Nat) : Int)]) := by rw [upd_ne n2.symm]; exact ihn
      have hb1 : (upd H' b (.dK (putK kvs (.inr "") (.int ((cv.length : Nat) : Int))))) b = some (.dK (putK kvs (.inr "") (.int ((cv.length : Nat) : Int)))) := upd_same
      show (fun H1 => _) (upd H' b (.dK (putK kvs (.inr "") (.int ((cv.length : Nat) : Int)))))
      generalize upd H' b (.dK (putK kvs (.inr "") (.int ((cv.length : Nat) : Int)))) = H1 at b1 hc1 hn1 hb1 ⊢
      have sH1 : Same H H1 := fun q o e => b1 q o (fun z => by rw [fM _ z] at e; cases e) (I.same _ _ e)
      refine ⟨_, rfl, _, rfl, tp, _, _, _, rfl, rfl, SqT.of (sH1 _ _ htp), rfl, _, rfl, c, lm, nu, [b], cv, mv, t.main, allOf t.ps, rfl, n1.symm, hc1, hn1, (fun e he => by rw [List.mem_singleton.mp he]; exact ⟨_, hb1⟩), sW sH1 _ _ hlm, hmv.mono (sW sH1), by omega, by omega, fun cv2 H2 b2 hc2 hn2 hcode2 => ?_⟩
      have b12 : But [c, nu, b] H' H2 := b1.trans (b2.mono fun m hm => by simp only [List.mem_cons, List.not_mem_nil, or_false] at hm ⊢; rcases hm with h | h <;> simp [h])
      have hb2 := b2 b _ (by simp [n2, n3]) hb1
      have lcv2 := hcode2.len
      rw [lay_len] at lcv2
      refine ⟨_, rfl, .inl ⟨rfl, _, SqL.of hc2⟩, (by show 4 ≤ sizeLine; decide), fun pb hpb => ?_⟩
      have sb := same_new hpb (.lst [.str "end", .int 0, .int 0, .int 0])
      refine ⟨c, _, .ref pb, rfl, rfl, sb _ _ hc2, szl (by rw [List.length_append]; omega), ?_⟩
      have b13 : But [c, nu, b] H' (upd (upd H2 pb (.lst [.str "end", .int 0, .int 0, .int 0])) c (.lst (cv ++ cv2 ++ [.ref pb]))) := (b12.trans (But.of_same sb)).put (by simp) _
      have w23 : Same (Wo [c, nu, b] H2) (Wo [c, nu, b] (upd (upd H2 pb (.lst [.str "end", .int 0, .int 0, .int 0])) c (.lst (cv ++ cv2 ++ [.ref pb])))) := But.wo ((But.of_same sb).put (by simp) _)
      have pbM : ¬ pb ∈ [c, nu, b] := fun z => by
        simp only [List.mem_cons, List.not_mem_nil, or_false] at z
        rcases z with rfl | rfl | rfl
        · rw [hc2] at hpb; cases hpb
        · rw [hn2] at hpb; cases hpb
        · rw [hb2] at hpb; cases hpb
      have pbc : pb ≠ c := fun z => pbM (by simp [z])
      have hbk : InV (Wo [c, nu, b] (upd (upd H2 pb (.lst [.str "end", .int 0, .int 0, .int 0])) c (.lst (cv ++ cv2 ++ [.ref pb])))) .fin (.ref pb) := ⟨pb, rfl, wo_at (by rw [upd_ne pbc]; exact upd_same) pbM⟩
      have hb3 : (upd (upd H2 pb (.lst [.str "end", .int 0, .int 0, .int 0])) c (.lst (cv ++ cv2 ++ [.ref pb]))) b = some (.dK (putK kvs (.inr "") (.int ((cv.length : Nat) : Int)))) := by rw [upd_ne n3]; exact sb _ _ hb2
      have hc3 : (upd (upd H2 pb (.lst [.str "end", .int 0, .int 0, .int 0])) c (.lst (cv ++ cv2 ++ [.ref pb]))) c = some (.lst (cv ++ cv2 ++ [.ref pb])) := upd_same
      show (fun H3 => _) (upd (upd H2 pb (.lst [.str "end", .int 0, .int 0, .int 0])) c (.lst (cv ++ cv2 ++ [.ref pb])))
      generalize upd (upd H2 pb (.lst [.str "end", .int 0, .int 0, .int 0])) c (.lst (cv ++ cv2 ++ [.ref pb])) = H4 at b13 w23 hbk hb3 hc3 ⊢
      refine ⟨_, rfl, _, rfl, (by show 2 ≤ sizeLine; decide), fun rt hrt => ?_⟩
      have sr2 := same_new hrt (.tup [.ref c, .ref b])
      have cdv : CodeV H4 (code ++ (lay t.main cv.length (allOf t.ps) ++ [.fin])) (cv ++ cv2 ++ [.ref pb]) := by
        rw [List.append_assoc]
        exact (CodeV.app (CodeV.app (.one hbk) (hcode2.mono w23)) (I.cd.mono b13.wo)).mono wo_sub
      have sH4 : Same H H4 := fun q o e => b13 q o (fun z => by rw [fM _ z] at e; cases e) (I.same _ _ e)
      refine q (.ref rt) c b _ _ _ cv.length _ (sH4.trans sr2) ⟨rt, rfl, upd_same⟩ (sr2 _ _ hc3) (cdv.mono sr2) (sr2 _ _ hb3) ?_ ?_ (At.here lcv.symm) ?_ (fun it hit => ?_)
      · intro x q e
        obtain ⟨p, h1, h2⟩ := ibg x q e
        have xne : x ≠ "" := fun z => by
          have := tab_mem e
          exact ok.pne _ this z
        exact ⟨p, by rw [valV_put, if_neg (fun k => xne (Sum.inr.inj k))]; exact h1, h2.more⟩
      · rw [valV_put, if_pos rfl]
      · rw [List.length_append, List.length_append, lay_len, List.length_singleton]
        omega
      · rcases List.mem_append.mp hit with h | h
        · exact I.ok it h
        · rcases List.mem_append.mp h with h | h
          · exact lay_ok ok.main it h
          · rw [List.mem_singleton.mp h]
            trivial
end
end GT
/-! do_if, do_while, do_rows -/
namespace GT
open PySem PySem.Spec PyProof.Rows L2
theorem sc_do_if : FnScope ["going", "row", "inner", "flag"] ["going", "row", "inner"] (defScope s_do_if) := ⟨rfl, rfl, rfl, by decide +kernel, rfl, by decide +kernel, by decide +kernel⟩
theorem sc_do_while : FnScope ["going", "number", "row", "inner", "flag", "end"] ["going", "number", "row", "inner"] (defScope s_do_while) := ⟨rfl, rfl, rfl, by decide +kernel, rfl, by decide +kernel, by decide +kernel⟩
theorem sc_do_rows : FnScope ["going", "rows", "number", "row", "inner", "end"] ["going", "rows"] (defScope s_do_rows) := ⟨rfl, rfl, rfl, by decide +kernel, rfl, by decide +kernel, by decide +kernel⟩
/-! ### the relation, turned round -/
def IfOut (T : Nm → Option Part) (most : Nat) (c : Ex) (a b : Rows) (n : Nat) (s : Sta) (e : End) (s' : Sta) : Prop :=
  (worth s.cs c = none ∧ e = .fault ∧ s' = s) ∨ (worth s.cs c = some 1 ∧ Run T most (.rows a (n + 1)) s e s') ∨ ∃ v, worth s.cs c = some v ∧ v ≠ 1 ∧ Run T most (.rows b (n + 1 + count a)) s e s'
def One (T : Nm → Option Part) (most : Nat) (r : Rows) (n : Nat) (s : Sta) (e : End) (s' : Sta) : Prop := match r with
  | .nil => False
  | .plain p _ => act p s = (e, s')
  | .call x _ => ∃ q, T x = some q ∧ Run T most (.rows q.r q.n) s e s'
  | .ife c a b _ => IfOut T most c a b n s e s'
  | .whl c a _ => Run T most (.loop c a n) s e s'
theorem loop_inv {T : Nm → Option Part} {most : Nat} {c : Ex} {a : Rows} {n : Nat} {s s' : Sta} {e : End} (h : Run T most (.loop c a n) s e s') :
    (worth s.cs c = none ∧ e = .fault ∧ s' = s) ∨ (∃ v, worth s.cs c = some v ∧ v ≠ 1 ∧ e = .go ∧ s' = s) ∨ (worth s.cs c = some 1 ∧ ∃ e1 s1, Run T most (.rows a (n + 1)) s e1 s1 ∧
      ((e1 ≠ .go ∧ e = e1 ∧ s' = s1) ∨ (e1 = .go ∧ s1.steps.length = most ∧ e = .going ∧ s' = s1) ∨ (e1 = .go ∧ s1.steps.length ≠ most ∧ Run T most (.loop c a n) (mark n s1) e s'))) := by
  cases h with
  | loopFault hw => exact .inl ⟨hw, rfl, rfl⟩
  | loopOut hw hv => exact .inr (.inl ⟨_, hw, hv, rfl, rfl⟩)
  | loopEnd hw hr he => exact .inr (.inr ⟨hw, _, _, hr, .inl ⟨he, rfl, rfl⟩⟩)
  | loopFull hw hr hf => exact .inr (.inr ⟨hw, _, _, hr, .inr (.inl ⟨rfl, hf, rfl, rfl⟩)⟩)
  | loopGo hw hr hf hl => exact .inr (.inr ⟨hw, _, _, hr, .inr (.inr ⟨rfl, hf, hl⟩)⟩)
theorem rows_inv {T : Nm → Option Part} {most : Nat} {r : Rows} {n : Nat} {s s' : Sta} {e : End} (hn : r ≠ .nil) (h : Run T most (.rows r n) s e s') :
    (s.steps.length = most ∧ e = .going ∧ s' = s) ∨ (s.steps.length ≠ most ∧ ∃ e1 s1, One T most r n (mark n s) e1 s1 ∧ ((e1 ≠ .go ∧ e = e1 ∧ s' = s1) ∨ (e1 = .go ∧ Run T most (.rows (tl r) (n + count (hd r))) s1 e s'))) := by
  cases h with
  | nil => exact absurd rfl hn
  | full _ hf => exact .inl ⟨hf, rfl, rfl⟩
  | plainGo hm ha hr => exact .inr ⟨hm, _, _, ha, .inr ⟨rfl, hr⟩⟩
  | plainEnd hm ha he => exact .inr ⟨hm, _, _, ha, .inl ⟨he, rfl, rfl⟩⟩
  | callGo hm hx h1 hr => exact .inr ⟨hm, _, _, ⟨_, hx, h1⟩, .inr ⟨rfl, hr⟩⟩
  | callEnd hm hx h1 he => exact .inr ⟨hm, _, _, ⟨_, hx, h1⟩, .inl ⟨he, rfl, rfl⟩⟩
  | ifFault hm hw => exact .inr ⟨hm, _, _, .inl ⟨hw, rfl, rfl⟩, .inl ⟨(fun z => nomatch z), rfl, rfl⟩⟩
  | @ifYes c a b r n s s1 e s' hm hw h1 hr =>
    refine .inr ⟨hm, _, _, .inr (.inl ⟨hw, h1⟩), .inr ⟨rfl, ?_⟩⟩
    rw [show n + count (hd (.ife c a b r)) = n + 1 + count a + count b by simp only [hd, count]; omega]
    exact hr
  | ifYesEnd hm hw h1 he => exact .inr ⟨hm, _, _, .inr (.inl ⟨hw, h1⟩), .inl ⟨he, rfl, rfl⟩⟩
  | @ifNo c a b r n s v s1 e s' hm hw hv h1 hr =>
    refine .inr ⟨hm, _, _, .inr (.inr ⟨_, hw, hv, h1⟩), .inr ⟨rfl, ?_⟩⟩
    rw [show n + count (hd (.ife c a b r)) = n + 1 + count a + count b by simp only [hd, count]; omega]
    exact hr
  | ifNoEnd hm hw hv h1 he => exact .inr ⟨hm, _, _, .inr (.inr ⟨_, hw, hv, h1⟩), .inl ⟨he, rfl, rfl⟩⟩
  | @whGo c a r n s s1 e s' hm h1 hr =>
    refine .inr ⟨hm, _, _, h1, .inr ⟨rfl, ?_⟩⟩
    rw [show n + count (hd (.whl c a r)) = n + 1 + count a by simp only [hd, count]; omega]
    exact hr
  | whEnd hm h1 he => exact .inr ⟨hm, _, _, h1, .inl ⟨he, rfl, rfl⟩⟩
theorem NumV.uncons {H : Hp} {r : Rows} {n : Nat} {v : V} {t : List V} (h : NumV H r n (v :: t)) : r ≠ .nil ∧ NumV H (hd r) n [v] ∧ NumV H (tl r) (n + count (hd r)) t := by
  cases r with
  | nil => cases (show v :: t = [] from h)
  | plain p r =>
    obtain ⟨v', t', rv, i, h1, h2, h3, h4⟩ := h
    cases h1
    exact ⟨(fun z => nomatch z), ⟨v, [], rv, i, rfl, h2, h3, rfl⟩, h4⟩
  | call x r =>
    obtain ⟨v', t', rv, i, h1, h2, h3, h4⟩ := h
    cases h1
    exact ⟨(fun z => nomatch z), ⟨v, [], rv, i, rfl, h2, h3, rfl⟩, h4⟩
  | ife c a b r =>
    obtain ⟨v', t', rv, i, u, x, y, la, lb, va, vb, h1, h2, h3, h4, h5, h6, h7, h8, h9, h10⟩ := h
    cases h1
    refine ⟨(fun z => nomatch z), ⟨v, [], rv, i, u, x, y, la, lb, va, vb, rfl, h2, h3, h4, h5, h6, h7, h8, h9, rfl⟩, ?_⟩
    rw [show n + count (hd (.ife c a b r)) = n + 1 + count a + count b by simp only [hd, count]; omega]
    exact h10
  | whl c a r =>
    obtain ⟨v', t', rv, i, u, x, la, va, h1, h2, h3, h4, h5, h6, h7, h8⟩ := h
    cases h1
    refine ⟨(fun z => nomatch z), ⟨v, [], rv, i, u, x, la, va, rfl, h2, h3, h4, h5, h6, h7, rfl⟩, ?_⟩
    rw [show n + count (hd (.whl c a r)) = n + 1 + count a by simp only [hd, count]; omega]
    exact h8
theorem deep_hd {r : Rows} : deep (hd r) ≤ deep r ∧ deep (tl r) ≤ deep r := by
  cases r <;> simp only [hd, tl, deep] <;> omega
theorem rowsOk_hd {G : Env} {T : Nm → Option Part} {k : Nat} {r : Rows} (h : RowsOk G T k r) : RowsOk G T k (tl r) := by
  cases r with
  | nil => trivial
  | plain p r => exact h.2
  | call x r => exact h.2
  | ife c a b r => exact h.2.2.2.2
  | whl c a r => exact h.2.2.2
/-- what stands still while a program runs -/
structure Sit (d : Gd) (as : List Addr) (T : Hp) (Tb : Nm → Option Part) (G : Env) : Prop where
  tn : ∀ m ∈ muts d as, T m = none
  tab : TabOk G Tb
  parts : ∃ pk, T d.pt = some (.dK pk) ∧ ∀ x q, Tb x = some q → ∃ l vs, valV pk (.inr x) = some (.ref l) ∧ T l = some (.lst vs) ∧ NumV T q.r q.n vs ∧ deep q.r ≤ 8
  len : G.length ≤ 1000
  most : d.most ≤ 5000
theorem Sit.still {d : Gd} {as : List Addr} {T : Hp} {Tb : Nm → Option Part} {G : Env} (h : Sit d as T Tb G) {H H' : Hp} (s : Same T H) (b : But (muts d as) H H') : Same T H' := fun q o e =>
  b q o (fun z => by rw [h.tn q z] at e; cases e) (s _ _ e)
theorem SOk.typ {G : Env} {s : Sta} {most : Nat} (h : SOk G s) (h1 : s.steps.length ≤ most) (h2 : most ≤ 5000) (h3 : G.length ≤ 1000) : Typ G s := ⟨h.cs, h.nd, by have := h.told; omega, h3⟩
theorem endS_go {e : End} (h : e ≠ .go) : ¬ V.str (endS e) = V.str "" := by
  cases e with
  | go => exact absurd rfl h
  | ended => exact str_ne (by decide +kernel)
  | fault => exact str_ne (by decide +kernel)
  | going => exact str_ne (by decide +kernel)
section
variable {P : Program} {w : World} {K : PySem.W.Frag} {mg : Str → Option Value} {base : Heap} {C : Addr}
def spRows (C : Addr) (m : Nat) : Sp := fun vs H Q _ => ∃ (d : Gd) (as : List Addr) (T : Hp) (Tb : Nm → Option Part) (G : Env) (k : Nat) (s s' : Sta) (e : End) (r : Rows) (n : Nat) (l : Addr) (xs : List V), vs = [.ref d.g, .ref l] ∧
  Sit d as T Tb G ∧ GoAt C d as H s ∧ Same T H ∧ T l = some (.lst xs) ∧ NumV T r n xs ∧ RowsOk G Tb k r ∧ SOk G s ∧ s.steps.length ≤ d.most ∧ deep r + 10 * k < m ∧ Run Tb d.most (.rows r n) s e s' ∧
  ∀ H', GoAt C d as H' s' → But (muts d as) H H' → Q (.str (endS e)) H'
def spIf (C : Addr) (m : Nat) : Sp := fun vs H Q _ => ∃ (d : Gd) (as : List Addr) (T : Hp) (Tb : Nm → Option Part) (G : Env) (k : Nat) (s s' : Sta) (e : End) (c : Ex) (a b : Rows) (n : Nat) (row u x y : V) (i la lb : Addr) (va vb : List V), vs = [.ref d.g, row, .ref i] ∧
  Sit d as T Tb G ∧ GoAt C d as H s ∧ Same T H ∧ TupV T row [.str "if", u, x, y] ∧ ExV T c u ∧ T i = some (.lst [.ref la, .ref lb]) ∧ T la = some (.lst va) ∧ T lb = some (.lst vb) ∧ NumV T a (n + 1) va ∧ NumV T b (n + 1 + count a) vb ∧
  WT G true c ∧ hgt c ≤ 6 ∧ RowsOk G Tb k a ∧ RowsOk G Tb k b ∧ SOk G s ∧ s.steps.length ≤ d.most ∧ max (deep a) (deep b) + 10 * k < m ∧ IfOut Tb d.most c a b n s e s' ∧
  ∀ H', GoAt C d as H' s' → But (muts d as) H H' → Q (.str (endS e)) H'
def spWhile (C : Addr) (m : Nat) : Sp := fun vs H Q _ => ∃ (d : Gd) (as : List Addr) (T : Hp) (Tb : Nm → Option Part) (G : Env) (k : Nat) (s s' : Sta) (e : End) (c : Ex) (a : Rows) (n : Nat) (row u x : V) (i la : Addr) (va : List V), vs = [.ref d.g, .int n, row, .ref i] ∧
  Sit d as T Tb G ∧ GoAt C d as H s ∧ Same T H ∧ TupV T row [.str "while", u, x] ∧ ExV T c u ∧ T i = some (.lst [.ref la]) ∧ T la = some (.lst va) ∧ NumV T a (n + 1) va ∧
  WT G true c ∧ hgt c ≤ 6 ∧ RowsOk G Tb k a ∧ SOk G s ∧ s.steps.length ≤ d.most ∧ deep a + 10 * k < m ∧ Run Tb d.most (.loop c a n) s e s' ∧
  ∀ H', GoAt C d as H' s' → But (muts d as) H H' → Q (.str (endS e)) H'
theorem ok_do_if (T0 : Top K mg C) {k m : Nat} (c_worth : Cal P w K mg base "worth" ["cells", "expr"] k (spWorth 7)) (c_do_rows : Cal P w K mg base "do_rows" ["going", "rows"] k (spRows C m)) : Cal P w K mg base "do_if" ["going", "row", "inner"] (k + 1) (spIf C m) := by
  have T := T0
  refine T.d_do_if.ok sc_do_if (fun _ _ _ _ _ _ us hl => match us, hl with | [_, _, _], _ => rfl) (fun vs H Q E h => ?_) (fun f cdv A outer s0 H vs Q E hr h => ?_)
  · obtain ⟨d, as, T1, Tb, G, k, s, s', e, c, a, b, n, row, u, x, y, i, la, lb, va, vb, rfl, _⟩ := h
    rfl
  · obtain ⟨d, as, T1, Tb, G, kk, s, s', e, c, a, b, n, row, u, x, y, i, la, lb, va, vb, rfl, sit, h, sT, ⟨p, rfl, hp⟩, hc, hi, hla, hlb, hna, hnb, wt, hh, roa, rob, sok, hst, hm, out, q⟩ := h
    refine ⟨_, (pss_cons (ps_set (i := 3) sc_do_if.nd rfl (Or.inl rfl) (pe_cl c_worth hr rfl (pa_cons (pe_fld (pv 0) rfl) (pa_cons (pe_ix ix_tup (pv 1) pe_int (fun _ _ => rfl)) pa_nil))))
      (pss_cons (ps_if (pt_cmpR op_isN (pv 3) pe_non (nomark _)) (pss_one (ps_ret pe_str)) pss_nil)
      (pss_one (ps_ret (pe_cl c_do_rows hr rfl (pa_cons (pv 0) (pa_cons (pe_ix ix_list (pv 2) (pe_op op_sub pe_int (pv 3)) (fun _ _ => rfl)) pa_nil))))))), ?_⟩
    refine ⟨_, rfl, d.g, C, d.dx, _, _, rfl, h.ob, T.cls, T.n_cells, gf_cells d, _, rfl, p, _, _, _, rfl, rfl, SqT.of (sT _ _ hp), rfl, d.c, _, s.cs, c, G, true, rfl, h.csv, hc.mono sT, sok.cs, wt, by omega, fun H1 s1 => ?_⟩
    have h1 := h.same s1
    have sT1 := sT.trans s1
    rcases out with ⟨hw, rfl, rfl⟩ | ⟨hw, hrun⟩ | ⟨v, hw, hv, hrun⟩
    · rw [hw]
      refine ⟨_, rfl, rfl, _, rfl, ifDT rfl ?_⟩
      exact q H1 h1 (But.of_same s1)
    · rw [hw]
      refine ⟨_, rfl, rfl, _, rfl, ifDF (fun z => nomatch z) ?_⟩
      refine ⟨_, rfl, _, rfl, _, rfl, _, _, rfl, rfl, i, _, _, _, rfl, rfl, SqL.of (sT1 _ _ hi), rfl, ?_⟩
      exact ⟨d, as, T1, Tb, G, kk, s, s', e, a, n + 1, la, va, rfl, sit, h1, sT1, hla, hna, roa, sok, hst, by omega, hrun, fun H2 h2 b2 => q H2 h2 ((But.of_same s1).trans b2)⟩
    · have v0 : v = 0 := by
        rcases (worth_ok sok.cs wt hw).2 rfl with z | z
        · exact z
        · exact absurd z hv
      subst v0
      rw [hw]
      refine ⟨_, rfl, rfl, _, rfl, ifDF (fun z => nomatch z) ?_⟩
      refine ⟨_, rfl, _, rfl, _, rfl, _, _, rfl, rfl, i, _, _, _, rfl, rfl, SqL.of (sT1 _ _ hi), rfl, ?_⟩
      exact ⟨d, as, T1, Tb, G, kk, s, s', e, b, n + 1 + count a, lb, vb, rfl, sit, h1, sT1, hlb, hnb, rob, sok, hst, by omega, hrun, fun H2 h2 b2 => q H2 h2 ((But.of_same s1).trans b2)⟩
theorem ok_do_while (T0 : Top K mg C) {k m : Nat} (c_worth : Cal P w K mg base "worth" ["cells", "expr"] k (spWorth 7)) (c_begin : CalM P w K mg base C "begin" ["self", "number"] k (spBegin C)) (c_do_rows : Cal P w K mg base "do_rows" ["going", "rows"] k (spRows C m)) :
    Cal P w K mg base "do_while" ["going", "number", "row", "inner"] (k + 1) (spWhile C m) := by
  have T := T0
  refine T.d_do_while.ok sc_do_while (fun _ _ _ _ _ _ us hl => match us, hl with | [_, _, _, _], _ => rfl) (fun vs H Q E h => ?_) (fun f cdv A outer s0 H vs Q E hr h => ?_)
  · obtain ⟨d, as, T1, Tb, G, k, s, s', e, c, a, n, row, u, x, i, la, va, rfl, _⟩ := h
    rfl
  · obtain ⟨d, as, T1, Tb, G, kk, s, s', e, c, a, n, row, u, x, i, la, va, rfl, sit, h, sT, ⟨p, rfl, hp⟩, hc, hi, hla, hna, wt, hh, roa, sok, hst, hm, hrun, q⟩ := h
    refine ⟨_, (pss_cons (ps_set (i := 4) sc_do_while.nd rfl (Or.inl rfl) (pe_cl c_worth hr rfl (pa_cons (pe_fld (pv 0) rfl) (pa_cons (pe_ix ix_tup (pv 2) pe_int (fun _ _ => rfl)) pa_nil))))
      (pss_cons (ps_while PassesOwn.never (pt_cmpR op_eq (pv 4) pe_int (nomark _)) (pss_cons (ps_set (i := 5) sc_do_while.nd rfl (Or.inl rfl) (pe_cl c_do_rows hr rfl (pa_cons (pv 0) (pa_cons (pe_ix ix_list (pv 3) pe_int (fun _ _ => rfl)) pa_nil))))
      (pss_cons (ps_if (pt_cmpR op_ne (pv 5) pe_str (nomark _)) (pss_one (ps_ret (pv 5))) pss_nil)
      (pss_cons (ps_if (pt_not (pt_val (pe_ml (pv 0) T.cls c_begin hr (pa_cons (pv 1) pa_nil)))) (pss_one (ps_ret pe_str)) pss_nil)
      (pss_one (ps_set (i := 4) sc_do_while.nd rfl (Or.inl rfl) (pe_cl c_worth hr rfl (pa_cons (pe_fld (pv 0) rfl) (pa_cons (pe_ix ix_tup (pv 2) pe_int (fun _ _ => rfl)) pa_nil)))))))))
      (pss_cons (ps_if (pt_cmpR op_isN (pv 4) pe_non (nomark _)) (pss_one (ps_ret pe_str)) pss_nil)
      (pss_one (ps_ret pe_str))))), ?_⟩
    refine ⟨_, rfl, d.g, C, d.dx, _, _, rfl, h.ob, T.cls, T.n_cells, gf_cells d, _, rfl, p, _, _, _, rfl, rfl, SqT.of (sT _ _ hp), rfl, d.c, _, s.cs, c, G, true, rfl, h.csv, hc.mono sT, sok.cs, wt, by omega, fun H1 s1 => ?_⟩
    refine ⟨fun m' σ H' => ∃ (z : Sta) (x5 : Option V), σ = [some (.ref d.g), some (.int n), some (.ref p), some (.ref i), some (oV (worth z.cs c)), x5] ∧ GoAt C d as H' z ∧ But (muts d as) H H' ∧ SOk G z ∧ z.steps.length ≤ d.most ∧ Run Tb d.most (.loop c a n) z e s' ∧ m' + z.steps.length = d.most,
      ⟨d.most - s.steps.length, s, none, rfl, h.same s1, But.of_same s1, sok, hst, hrun, by omega⟩, ?_⟩
    rintro m' σ H' ⟨z, x5, rfl, hz, bz, sokz, hstz, hrz, hmz⟩
    have sTz := sit.still sT bz
    rcases loop_inv hrz with ⟨hw, rfl, rfl⟩ | ⟨v, hw, hv, rfl, rfl⟩ | ⟨hw, e1, z1, hr1, hcase⟩
    · rw [hw]
      refine ⟨_, rfl, rfl, _, rfl, ifDF (fun z => nomatch z) ?_⟩
      refine ⟨_, rfl, rfl, _, rfl, ifDT rfl ?_⟩
      exact q H' hz bz
    · rw [hw]
      refine ⟨_, rfl, rfl, _, rfl, ifDF (fun y => hv (V.int.inj y)) ?_⟩
      refine ⟨_, rfl, rfl, _, rfl, ifDF (fun z => nomatch z) ?_⟩
      exact q H' hz bz
    · rw [hw]
      refine ⟨_, rfl, rfl, _, rfl, ifDT rfl ?_⟩
      refine ⟨fun σ' H' => ∃ m2, m2 < m' ∧ ∃ (z : Sta) (x5 : Option V), σ' = [some (.ref d.g), some (.int n), some (.ref p), some (.ref i), some (oV (worth z.cs c)), x5] ∧ GoAt C d as H' z ∧ But (muts d as) H H' ∧ SOk G z ∧ z.steps.length ≤ d.most ∧ Run Tb d.most (.loop c a n) z e s' ∧ m2 + z.steps.length = d.most, fun σ' H' k => k, ?_⟩
      -- end = do_rows(going, inner[0])
      refine ⟨_, rfl, _, rfl, i, _, _, _, rfl, rfl, SqL.of (sTz _ _ hi), rfl, ?_⟩
      refine ⟨d, as, T1, Tb, G, kk, z, z1, e1, a, n + 1, la, va, rfl, sit, hz, sTz, hla, hna, roa, sokz, hstz, hm, hr1, fun H2 h2 b2 => ?_⟩
      have b02 := bz.trans b2
      have sT2 := sit.still sT b02
      have sok1 := run_ok sit.tab hr1 kk roa sokz
      have hst1 := run_most hr1 hstz
      rcases hcase with ⟨he, rfl, rfl⟩ | ⟨rfl, hf, rfl, rfl⟩ | ⟨rfl, hf, hl⟩
      · refine ⟨_, rfl, rfl, _, rfl, ifND (fun _ => ?_) (fun y => absurd y (endS_go he))⟩
        exact ⟨_, rfl, q H2 h2 b02⟩
      · refine ⟨_, rfl, rfl, _, rfl, ifND (fun y => absurd rfl y) (fun _ => ?_)⟩
        refine ⟨_, rfl, d.g, d.dx, _, rfl, h2.ob, gf_no d (by decide +kernel), _, rfl, d, as, s', n, rfl, h2, (sok1.typ hst1 sit.most sit.len).keys, ?_, by have := sit.most; omega, fun _ => ?_, fun y => absurd hf y⟩
        · have := cs_len sok1.cs; have := sit.len; omega
        · exact ⟨false, rfl, iteT (q H2 h2 b02)⟩
      · refine ⟨_, rfl, rfl, _, rfl, ifND (fun y => absurd rfl y) (fun _ => ?_)⟩
        refine ⟨_, rfl, d.g, d.dx, _, rfl, h2.ob, gf_no d (by decide +kernel), _, rfl, d, as, z1, n, rfl, h2, (sok1.typ hst1 sit.most sit.len).keys, ?_, by have := sit.most; omega, fun y => absurd y hf, fun _ H3 h3 b3 => ?_⟩
        · have := cs_len sok1.cs; have := sit.len; omega
        · refine ⟨true, rfl, iteF ?_⟩
          have b03 := b02.trans b3
          have sT3 := sit.still sT b03
          have sokm := sok1.mark (n := n)
          refine ⟨_, rfl, d.g, C, d.dx, _, _, rfl, h3.ob, T.cls, T.n_cells, gf_cells d, _, rfl, p, _, _, _, rfl, rfl, SqT.of (sT3 _ _ hp), rfl, d.c, _, (mark n z1).cs, c, G, true, rfl, h3.csv, hc.mono sT3, sokm.cs, wt, by omega, fun H4 s4 => ?_⟩
          have gr := run_grows hr1
          have ml := @mark_len n z1
          exact ⟨d.most - (mark n z1).steps.length, by omega, mark n z1, _, rfl, h3.same s4, b03.trans (But.of_same s4), sokm, by omega, hl, by omega⟩
theorem ok_do_rows1 (T0 : Top K mg C) {k m : Nat} (c_begin : CalM P w K mg base C "begin" ["self", "number"] k (spBegin C)) (c_do_plain : Cal P w K mg base "do_plain" ["going", "row"] k (spPlain C)) (c_do_if : Cal P w K mg base "do_if" ["going", "row", "inner"] k (spIf C m)) (c_do_while : Cal P w K mg base "do_while" ["going", "number", "row", "inner"] k (spWhile C m))
    (c_do_rows : Cal P w K mg base "do_rows" ["going", "rows"] k (spRows C m)) : Cal P w K mg base "do_rows" ["going", "rows"] (k + 1) (spRows C (m + 1)) := by
  have T := T0
  refine T.d_do_rows.ok sc_do_rows (fun _ _ _ _ _ _ us hl => match us, hl with | [_, _], _ => rfl) (fun vs H Q E h => ?_) (fun f cdv A outer s0 H vs Q E hr h => ?_)
  · obtain ⟨d, as, T1, Tb, G, k, s, s', e, r, n, l, xs, rfl, _⟩ := h
    rfl
  · obtain ⟨d, as, T1, Tb, G, kk, s, s', e, r, n, l, xs, rfl, sit, h, sT, hl, hnum, rok, sok, hst, hm, hrun, q⟩ := h
    refine ⟨_, (pss_cons (ps_for PassesOwn.never rfl (pi_list (pv 1)) (pg_tup rfl (pgs_cons (pg_name (i := 2) sc_do_rows.nd rfl (Or.inl rfl)) (pgs_cons (pg_name (i := 3) sc_do_rows.nd rfl (Or.inl rfl)) (pgs_cons (pg_name (i := 4) sc_do_rows.nd rfl (Or.inl rfl)) pgs_nil)))) (pss_cons (ps_if (pt_not (pt_val (pe_ml (pv 0) T.cls c_begin hr (pa_cons (pv 2) pa_nil)))) (pss_one (ps_ret pe_str)) pss_nil)
      (Evl.pss_cut (ps_if (pt_cmpR op_eq (pe_ix ix_tup (pv 3) pe_int (fun _ _ => rfl)) pe_str (nomark _)) (pss_one (ps_set (i := 5) sc_do_rows.nd rfl (Or.inl rfl) (pe_cl c_do_if hr rfl (pa_cons (pv 0) (pa_cons (pv 3) (pa_cons (pv 4) pa_nil)))))) (pss_one (ps_if (pt_cmpR op_eq (pe_ix ix_tup (pv 3) pe_int (fun _ _ => rfl)) pe_str (nomark _)) (pss_one (ps_set (i := 5) sc_do_rows.nd rfl (Or.inl rfl) (pe_cl c_do_while hr rfl (pa_cons (pv 0) (pa_cons (pv 2) (pa_cons (pv 3) (pa_cons (pv 4) pa_nil))))))) (pss_one (ps_if (pt_cmpR op_eq (pe_ix ix_tup (pv 3) pe_int (fun _ _ => rfl)) pe_str (nomark _)) (pss_one (ps_set (i := 5) sc_do_rows.nd rfl (Or.inl rfl) (pe_cl c_do_rows hr rfl (pa_cons (pv 0) (pa_cons (pe_dget (hu_of hr) (pe_fld (pv 0) rfl) (pe_ix ix_tup (pv 3) pe_int (fun _ _ => rfl)) (fun _ _ => rfl)) pa_nil))))) (pss_one (ps_set (i := 5) sc_do_rows.nd rfl (Or.inl rfl) (pe_cl c_do_plain hr rfl (pa_cons (pv 0) (pa_cons (pv 3) pa_nil))))))))))
      (pss_one (ps_if (pt_cmpR op_ne (pv 5) pe_str (nomark _)) (pss_one (ps_ret (pv 5))) pss_nil)))))
      (pss_one (ps_ret pe_str))), ?_⟩
    refine ⟨_, rfl, l, rfl, ⟨_, SqL.of (sT _ _ hl)⟩, for_lst (K := K) (a := l) (xs := xs)
      (fun i σ H' => ∃ (z : Sta) (rest : Rows) (ni : Nat) (x2 x3 x4 x5 : Option V), σ = [some (.ref d.g), some (.ref l), x2, x3, x4, x5] ∧ GoAt C d as H' z ∧ But (muts d as) H H' ∧ SOk G z ∧ z.steps.length ≤ d.most ∧ RowsOk G Tb kk rest ∧ deep rest ≤ deep r ∧ NumV T1 rest ni (xs.drop i) ∧ Run Tb d.most (.rows rest ni) z e s') ?_ ?_ ?_ ?_⟩
    · exact ⟨s, r, n, none, none, none, none, rfl, h, But.refl _ _, sok, hst, rok, Nat.le_refl _, hnum, hrun⟩
    · rintro i σ H' ⟨z, rest, ni, x2, x3, x4, x5, rfl, hz, bz, _⟩
      exact SqL.of (sit.still sT bz _ _ hl)
    · rintro i x σ H' hi hx ⟨z, rest, ni, x2, x3, x4, x5, rfl, hz, bz, sokz, hstz, rokz, hdz, hnz, hrz⟩
      have ed : xs.drop i = x :: xs.drop (i + 1) := by
        rw [List.drop_eq_getElem_cons hi]
        rw [List.getElem?_eq_getElem hi] at hx
        rw [Option.some.inj hx]
      rw [ed] at hnz
      obtain ⟨hne, hn1, hn2⟩ := hnz.uncons
      have sTz := sit.still sT bz
      obtain ⟨tp, rv, inn, rfl, htp⟩ : ∃ tp rv inn, x = .ref tp ∧ T1 tp = some (.tup [.int ni, rv, .ref inn]) := by
        cases rest with
        | nil => exact absurd rfl hne
        | plain p r => obtain ⟨v, t, rv, j, h1, ⟨tp, rfl, h2⟩, _⟩ := hn1; cases h1; exact ⟨tp, rv, j, rfl, h2⟩
        | call y r => obtain ⟨v, t, rv, j, h1, ⟨tp, rfl, h2⟩, _⟩ := hn1; cases h1; exact ⟨tp, rv, j, rfl, h2⟩
        | ife c a b r => obtain ⟨v, t, rv, j, u, x, y, la, lb, va, vb, h1, ⟨tp, rfl, h2⟩, _⟩ := hn1; cases h1; exact ⟨tp, rv, j, rfl, h2⟩
        | whl c a r => obtain ⟨v, t, rv, j, u, x, la, va, h1, ⟨tp, rfl, h2⟩, _⟩ := hn1; cases h1; exact ⟨tp, rv, j, rfl, h2⟩
      refine ⟨tp, _, rfl, SqT.of (sTz _ _ htp), rfl, _, _, rfl, _, _, rfl, _, _, rfl, rfl, ?_⟩
      -- if not going.begin(number)
      have ty := sokz.typ hstz sit.most sit.len
      refine ⟨_, rfl, d.g, d.dx, _, rfl, hz.ob, gf_no d (by decide +kernel), _, rfl, d, as, z, ni, rfl, hz, ty.keys, ?_, by have := sit.most; omega, fun hf => ?_, fun hf H1 h1 b1 => ?_⟩
      · have := cs_len sokz.cs; have := sit.len; omega
      · refine ⟨false, rfl, iteT ?_⟩
        rcases rows_inv hne hrz with ⟨_, rfl, rfl⟩ | ⟨y, _⟩
        · exact q H' hz bz
        · exact absurd hf y
      · refine ⟨true, rfl, iteF ?_⟩
        rcases rows_inv hne hrz with ⟨y, _⟩ | ⟨_, e1, z1, hone, hcase⟩
        · exact absurd y hf
        have b01 := bz.trans b1
        have sT1 := sit.still sT b01
        have sokm := sokz.mark (n := ni)
        have hstm : (mark ni z).steps.length ≤ d.most := by have := @mark_len ni z; omega
        have hd1 : deep (hd rest) ≤ deep r := Nat.le_trans deep_hd.1 hdz
        refine ⟨fun σ' H2 => σ' = [some (.ref d.g), some (.ref l), some (.int ni), some rv, some (.ref inn), some (.str (endS e1))] ∧ GoAt C d as H2 z1 ∧ But (muts d as) H H2 ∧ SOk G z1 ∧ z1.steps.length ≤ d.most, ?_, ?_⟩
        · cases rest with
          | nil => exact absurd rfl hne
          | plain pl rest =>
            obtain ⟨v, t, rv', j, hv1, ⟨tp', e1', e2'⟩, hpl, _⟩ := hn1
            cases hv1
            cases e1'
            rw [htp] at e2'
            cases e2'
            obtain ⟨p, zz, s1, rfl, hp, n1, n2, n3⟩ : ∃ p zz s1, rv = .ref p ∧ T1 p = some (.tup (.str s1 :: zz)) ∧ s1 ≠ "if" ∧ s1 ≠ "while" ∧ s1 ≠ "do" := by
              cases pl with
              | set y e => obtain ⟨u, ⟨p, rfl, hp⟩, _⟩ := hpl; exact ⟨p, _, _, rfl, hp, by decide +kernel, by decide +kernel, by decide +kernel⟩
              | put y i e => obtain ⟨u, t, ⟨p, rfl, hp⟩, _⟩ := hpl; exact ⟨p, _, _, rfl, hp, by decide +kernel, by decide +kernel, by decide +kernel⟩
              | tell e => obtain ⟨u, ⟨p, rfl, hp⟩, _⟩ := hpl; exact ⟨p, _, _, rfl, hp, by decide +kernel, by decide +kernel, by decide +kernel⟩
              | ask y => obtain ⟨p, rfl, hp⟩ := hpl; exact ⟨p, _, _, rfl, hp, by decide +kernel, by decide +kernel, by decide +kernel⟩
              | way => obtain ⟨p, rfl, hp⟩ := hpl; exact ⟨p, _, _, rfl, hp, by decide +kernel, by decide +kernel, by decide +kernel⟩
              | stop => obtain ⟨p, rfl, hp⟩ := hpl; exact ⟨p, _, _, rfl, hp, by decide +kernel, by decide +kernel, by decide +kernel⟩
            have hq := sT1 _ _ hp
            refine ⟨_, rfl, p, _, _, _, rfl, rfl, SqT.of hq, at0, rfl, _, rfl, ifDF (str_ne n1) ?_⟩
            refine ⟨_, rfl, p, _, _, _, rfl, rfl, SqT.of hq, at0, rfl, _, rfl, ifDF (str_ne n2) ?_⟩
            refine ⟨_, rfl, p, _, _, _, rfl, rfl, SqT.of hq, at0, rfl, _, rfl, ifDF (str_ne n3) ?_⟩
            have ha : act pl (mark ni z) = (e1, z1) := hone
            refine ⟨_, rfl, _, rfl, d, as, mark ni z, G, pl, _, T1, rfl, h1, sokm.typ hstm sit.most sit.len, sT1, sit.tn, hpl, rokz.1, fun H2 h2 b2 => ?_⟩
            rw [ha] at h2 ⊢
            have hs1 := act_steps ha
            exact ⟨rfl, h2, b01.trans b2, act_ok rokz.1 sokz ha, by rw [hs1]; exact hstm⟩
          | call y rest =>
            obtain ⟨v, t, rv', j, hv1, ⟨tp', e1', e2'⟩, ⟨p, hpe, hp⟩, _⟩ := hn1
            cases hv1
            cases e1'
            rw [htp] at e2'
            cases e2'
            subst hpe
            have hq := sT1 _ _ hp
            obtain ⟨qq, hqq, hrq⟩ := hone
            obtain ⟨⟨qq', hqq', hix⟩, _⟩ := rokz
            rw [hqq] at hqq'
            cases hqq'
            obtain ⟨pk, hpk, hpa⟩ := sit.parts
            obtain ⟨lq, vq, hv2, hlq, hnq, hdq⟩ := hpa y qq hqq
            refine ⟨_, rfl, p, _, _, _, rfl, rfl, SqT.of hq, at0, rfl, _, rfl, ifDF (str_ne (by decide +kernel)) ?_⟩
            refine ⟨_, rfl, p, _, _, _, rfl, rfl, SqT.of hq, at0, rfl, _, rfl, ifDF (str_ne (by decide +kernel)) ?_⟩
            refine ⟨_, rfl, p, _, _, _, rfl, rfl, SqT.of hq, at0, rfl, _, rfl, ifDT rfl ?_⟩
            refine ⟨_, rfl, _, rfl, d.g, C, d.dx, _, _, rfl, h1.ob, T.cls, T.n_parts, gf_parts d, _, rfl, p, _, _, _, rfl, rfl, SqT.of hq, at1, d.pt, _, rfl, .inl ⟨pk, .inr y, .inl (sT1 _ _ hpk), rfl, hv2.symm⟩, ?_⟩
            refine ⟨d, as, T1, Tb, G, qq.ix, mark ni z, z1, e1, qq.r, qq.n, lq, vq, rfl, sit, h1, sT1, hlq, hnq, sit.tab y qq hqq, sokm, hstm, by omega, hrq, fun H2 h2 b2 => ?_⟩
            exact ⟨rfl, h2, b01.trans b2, run_ok sit.tab hrq qq.ix (sit.tab y qq hqq) sokm, run_most hrq hstm⟩
          | ife c a b rest =>
            obtain ⟨v, t, rv', j, u, x, y, la, lb, va, vb, hv1, ⟨tp', e1', e2'⟩, ⟨p, hpe, hp⟩, k4, k5, k6, k7, k8, k9, _⟩ := hn1
            cases hv1
            cases e1'
            rw [htp] at e2'
            cases e2'
            subst hpe
            have hq := sT1 _ _ hp
            obtain ⟨kc, kh, ka, kb, _⟩ := rokz
            refine ⟨_, rfl, p, _, _, _, rfl, rfl, SqT.of hq, at0, rfl, _, rfl, ifDT rfl ?_⟩
            have hdd : max (deep a) (deep b) + 1 ≤ deep r := by
              simp only [hd, deep] at hd1
              omega
            refine ⟨_, rfl, _, rfl, _, rfl, d, as, T1, Tb, G, kk, mark ni z, z1, e1, c, a, b, ni, _, u, x, y, _, la, lb, va, vb, rfl, sit, h1, sT1, ⟨p, rfl, hp⟩, k4, k5, k6, k7, k8, k9, kc, kh, ka, kb, sokm, hstm, by omega, hone, fun H2 h2 b2 => ?_⟩
            refine ⟨rfl, h2, b01.trans b2, ?_⟩
            rcases hone with ⟨hw, rfl, rfl⟩ | ⟨hw, hr2⟩ | ⟨v, hw, hv, hr2⟩
            · exact ⟨sokm, hstm⟩
            · exact ⟨run_ok sit.tab hr2 kk ka sokm, run_most hr2 hstm⟩
            · exact ⟨run_ok sit.tab hr2 kk kb sokm, run_most hr2 hstm⟩
          | whl c a rest =>
            obtain ⟨v, t, rv', j, u, x, la, va, hv1, ⟨tp', e1', e2'⟩, ⟨p, hpe, hp⟩, k4, k5, k6, k7, _⟩ := hn1
            cases hv1
            cases e1'
            rw [htp] at e2'
            cases e2'
            subst hpe
            have hq := sT1 _ _ hp
            obtain ⟨kc, kh, ka, _⟩ := rokz
            refine ⟨_, rfl, p, _, _, _, rfl, rfl, SqT.of hq, at0, rfl, _, rfl, ifDF (str_ne (by decide +kernel)) ?_⟩
            refine ⟨_, rfl, p, _, _, _, rfl, rfl, SqT.of hq, at0, rfl, _, rfl, ifDT rfl ?_⟩
            have hdd : deep a + 1 ≤ deep r := by
              simp only [hd, deep] at hd1
              omega
            refine ⟨_, rfl, _, rfl, _, rfl, _, rfl, d, as, T1, Tb, G, kk, mark ni z, z1, e1, c, a, ni, _, u, x, _, la, va, rfl, sit, h1, sT1, ⟨p, rfl, hp⟩, k4, k5, k6, k7, kc, kh, ka, sokm, hstm, by omega, hone, fun H2 h2 b2 => ?_⟩
            exact ⟨rfl, h2, b01.trans b2, run_ok sit.tab hone kk ⟨kc, kh, ka⟩ sokm, run_most hone hstm⟩
        · rintro σ' H2 ⟨rfl, h2, b2, sok2, hst2⟩
          rcases hcase with ⟨he, rfl, rfl⟩ | ⟨rfl, hr2⟩
          · refine ⟨_, rfl, rfl, _, rfl, ifND (fun _ => ?_) (fun y => absurd y (endS_go he))⟩
            exact ⟨_, rfl, q H2 h2 b2⟩
          · refine ⟨_, rfl, rfl, _, rfl, ifND (fun y => absurd rfl y) (fun _ => ?_)⟩
            exact ⟨z1, tl rest, ni + count (hd rest), _, _, _, _, rfl, h2, b2, sok2, hst2, rowsOk_hd rokz, Nat.le_trans deep_hd.2 hdz, hn2, hr2⟩
    · rintro σ H' ⟨z, rest, ni, x2, x3, x4, x5, rfl, hz, bz, sokz, hstz, rokz, hdz, hnz, hrz⟩
      have er : rest = .nil := by
        rw [List.drop_length] at hnz
        cases rest with
        | nil => rfl
        | plain p r => obtain ⟨v, t, rv, j, y, _⟩ := hnz; cases y
        | call y r => obtain ⟨v, t, rv, j, y, _⟩ := hnz; cases y
        | ife c a b r => obtain ⟨v, t, rv, j, u, x, y, la, lb, va, vb, y, _⟩ := hnz; cases y
        | whl c a r => obtain ⟨v, t, rv, j, u, x, la, va, y, _⟩ := hnz; cases y
      subst er
      cases hrz with
      | nil => exact q H' hz bz
      | full y _ => exact absurd rfl y
theorem ok_do_rows (T0 : Top K mg C) {k : Nat} (c_worth : ∀ j, Cal P w K mg base "worth" ["cells", "expr"] (k + j) (spWorth 7)) (c_begin : ∀ j, CalM P w K mg base C "begin" ["self", "number"] (k + j) (spBegin C)) (c_do_plain : ∀ j, Cal P w K mg base "do_plain" ["going", "row"] (k + j) (spPlain C)) :
    ∀ m : Nat, Cal P w K mg base "do_rows" ["going", "rows"] (k + 2 * m) (spRows C m)
  | 0 => T0.d_do_rows.no (fun _ _ _ _ _ _ us hl => match us, hl with | [_, _], _ => rfl) fun vs H Q E h => by obtain ⟨d, as, T1, Tb, G, kk, s, s', e, r, n, l, xs, _, _, _, _, _, _, _, _, _, h, _⟩ := h; omega
  | m + 1 => by
    have c := ok_do_rows T0 c_worth c_begin c_do_plain m
    have c1 := ok_do_if T0 (c_worth (2 * m)) c
    have c2 := ok_do_while T0 (c_worth (2 * m)) (c_begin (2 * m)) c
    have c3 := ok_do_rows1 T0 (c_begin (2 * m + 1)) (c_do_plain (2 * m + 1)) c1 c2 (c.mono (Nat.le_succ _))
    exact c3
end
end GT
/-! Going.__init__, meant -/
namespace GT
open PySem PySem.Spec PyProof.Rows L2
theorem sc_g_init : FnScope ["self", "tree", "given", "most", "kind", "name", "size", "at", "rows"] ["self", "tree", "given", "most"] (defScope s_g_init) := ⟨rfl, rfl, rfl, by decide +kernel, rfl, by decide +kernel, by decide +kernel⟩
theorem sc_meant : FnScope ["tree", "given", "most", "going", "end"] ["tree", "given", "most"] (defScope s_meant) := ⟨rfl, rfl, rfl, by decide +kernel, rfl, by decide +kernel, by decide +kernel⟩
theorem nf {H : Hp} {x C dx t : Addr} {fs fs' : List (Str × V)} {o : HO} (hx : H x = some (.ins C dx fs)) (ht : H t = none) :
    (upd (upd H t o) x (.ins C dx fs')) x = some (.ins C dx fs') ∧ (upd (upd H t o) x (.ins C dx fs')) t = some o ∧ But [x] H (upd (upd H t o) x (.ins C dx fs')) :=
  ⟨upd_same, by rw [upd_ne (ne_of_none hx ht).symm]; exact upd_same, (But.of_same (same_new ht _)).put List.mem_cons_self _⟩
theorem nf_at {H : Hp} {x C dx t : Addr} {fs : List (Str × V)} {o : HO} (hx : H x = some (.ins C dx fs)) (ht : H t = none) : (upd H t o) x = some (.ins C dx fs) := by
  rw [upd_ne (ne_of_none hx ht)]
  exact hx
/-- the parts' dict -/
def PkOk (S : Hp) (pk : List (Key × V)) (qs : List (Nm × Rows)) : Prop :=
  (∀ y q, tabOf qs 0 0 y = some q → ∃ l vs, valV pk (.inr y) = some (.ref l) ∧ S l = some (.lst vs) ∧ NumV S q.r q.n vs) ∧ (∀ y, ¬ y ∈ qs.map (·.1) → valV pk (.inr y) = none) ∧ pk.length = qs.length
theorem PkOk.mono {S S' : Hp} (s : Same S S') {pk : List (Key × V)} {qs : List (Nm × Rows)} (h : PkOk S pk qs) : PkOk S' pk qs :=
  ⟨fun y q e => let ⟨l, vs, h1, h2, h3⟩ := h.1 y q e; ⟨l, vs, h1, s _ _ h2, h3.mono s⟩, h.2⟩
theorem PkOk.snoc {S : Hp} {pk : List (Key × V)} {qs : List (Nm × Rows)} {y : Nm} {r : Rows} {l : Addr} {vs : List V} (h : PkOk S pk qs) (hn : ¬ y ∈ qs.map (·.1)) (h1 : S l = some (.lst vs)) (h2 : NumV S r (allOf qs) vs) :
    PkOk S (putK pk (.inr y) (.ref l)) (qs ++ [(y, r)]) := by
  have hno := h.2.1 y hn
  rw [putK_new _ hno]
  refine ⟨fun z q e => ?_, fun z hz => ?_, by rw [List.length_append, List.length_append, h.2.2]; rfl⟩
  · rw [tab_snoc hn] at e
    by_cases c : y = z
    · rw [if_pos c] at e
      cases e
      refine ⟨l, vs, ?_, h1, ?_⟩
      · rw [valV_snoc _ _ _ _ hno, if_pos (by rw [c])]
      · show NumV S r (0 + allOf qs) vs
        rw [Nat.zero_add]
        exact h2
    · rw [if_neg c] at e
      obtain ⟨l', vs', k1, k2, k3⟩ := h.1 z q e
      exact ⟨l', vs', by rw [valV_snoc _ _ _ _ hno, if_neg (fun w => c (Sum.inr.inj w).symm)]; exact k1, k2, k3⟩
  · have c : ¬ z = y := fun w => hz (by simp [w])
    rw [valV_snoc _ _ _ _ hno, if_neg (fun w => c (Sum.inr.inj w))]
    exact h.2.1 z fun m => hz (by rw [List.map_append]; exact List.mem_append_left _ m)
structure Ready (d : Gd) (as : List Addr) (H' : Hp) (t : Tree) : Prop where
  parts : ∃ pk, Wo (muts d as) H' d.pt = some (.dK pk) ∧ ∀ y q, tabT t y = some q → ∃ l vs, valV pk (.inr y) = some (.ref l) ∧ Wo (muts d as) H' l = some (.lst vs) ∧ NumV (Wo (muts d as) H') q.r q.n vs
  main : ∃ vs, Wo (muts d as) H' d.mn = some (.lst vs) ∧ NumV (Wo (muts d as) H') t.main (allOf t.ps) vs
section
variable {P : Program} {w : World} {K : PySem.W.Frag} {mg : Str → Option Value} {base : Heap} {C : Addr}
def spInit (C : Addr) : Sp := fun vs H Q _ => ∃ (x dx gv : Addr) (tv : V) (t : Tree) (given : List Int) (most : Nat), vs = [.ref x, tv, .ref gv, .int most] ∧ H x = some (.ins C dx []) ∧ TreeV (Wo [x] H) tv t ∧ Wo [x] H gv = some (.lst (il given)) ∧ TreeOk t ∧
  ∀ (d : Gd) (as : List Addr) (H' : Hp), d.g = x → d.most = most → GoAt C d as H' ⟨initc t.D, [], given, []⟩ → Ready d as H' t → (∀ m ∈ muts d as, m = x ∨ H m = none) → But [x] H H' → Q .non H'
theorem ok_g_init (T0 : Top K mg C) {k : Nat} (c_numbered : Cal P w K mg base "numbered" ["rows", "first"] k (spNum 9)) : CalI P w K mg base C ["self", "tree", "given", "most"] (k + 1) (spInit C) := by
  have T := T0
  refine T.d_g_init.ok sc_g_init (fun _ _ _ _ _ _ us hl => match us, hl with | [_, _, _, _], _ => rfl) (fun vs H Q E h => ?_) (fun f cdv A outer s0 H vs Q E hr h => ?_)
  · obtain ⟨x, dx, gv, tv, t, given, most, rfl, _⟩ := h
    rfl
  · obtain ⟨x, dx, gv, tv, t, given, most, rfl, hx, htv, hgv, tok, q⟩ := h
    refine ⟨_, (pss_cons (ps_fld (pv 0) pe_dnewK rfl)
      (pss_cons (ps_for PassesOwn.never rfl (pi_list (pe_ix ix_tup (pv 1) pe_int (fun _ _ => rfl))) (pg_tup rfl (pgs_cons (pg_name (i := 4) sc_g_init.nd rfl (Or.inl rfl)) (pgs_cons (pg_name (i := 5) sc_g_init.nd rfl (Or.inl rfl)) (pgs_cons (pg_name (i := 6) sc_g_init.nd rfl (Or.inl rfl)) pgs_nil)))) (pss_cons (ps_dput (hu_of hr) (pe_fld (pv 0) rfl) (pv 5) pe_int rfl)
      (pss_one (ps_if (pt_cmpR op_eq (pv 4) pe_str (nomark _)) (pss_one (ps_dput (hu_of hr) (pe_fld (pv 0) rfl) (pv 5) (pe_op op_rep (pe_lst (pa_cons pe_int pa_nil)) (pv 6)) rfl)) pss_nil))))
      (pss_cons (ps_fld (pv 0) (pe_lst pa_nil) rfl)
      (pss_cons (ps_fld (pv 0) (pe_callTy call_list_of rfl T.list_ (by decide +kernel) (pa_cons (pv 2) pa_nil)) rfl)
      (pss_cons (ps_fld (pv 0) (pv 3) rfl)
      (pss_cons (ps_fld (pv 0) (pe_lst pa_nil) rfl)
      (pss_cons (ps_fld (pv 0) pe_dnewK rfl)
      (pss_cons (ps_set (i := 7) sc_g_init.nd rfl (Or.inl rfl) pe_int)
      (pss_cons (ps_for PassesOwn.never rfl (pi_list (pe_ix ix_tup (pv 1) pe_int (fun _ _ => rfl))) (pg_tup rfl (pgs_cons (pg_name (i := 5) sc_g_init.nd rfl (Or.inl rfl)) (pgs_cons (pg_name (i := 8) sc_g_init.nd rfl (Or.inl rfl)) pgs_nil))) (pss_one (ps_asg (pe_cl c_numbered hr rfl (pa_cons (pv 8) (pa_cons (pv 7) pa_nil))) (pg_tup rfl (pgs_cons (pg_sub (pe_fld (pv 0) rfl) (pv 5) (set_dict (hu_of hr))) (pgs_cons (pg_name (i := 7) sc_g_init.nd rfl (Or.inl rfl)) pgs_nil))))))
      (pss_one (ps_fld (pv 0) (pe_ix ix_tup (pe_cl c_numbered hr rfl (pa_cons (pe_ix ix_tup (pv 1) pe_int (fun _ _ => rfl)) (pa_cons (pv 7) pa_nil))) pe_int (fun _ _ => rfl)) rfl))))))))))), ?_⟩
    obtain ⟨lv, lp, lm, dv, pv, mv, ⟨tp, rfl, htp⟩, hlv, hdv, hlp, hpv, hlm, hmv⟩ := htv
    have nx : ∀ {b : Addr} {o : HO}, Wo [x] H b = some o → b ≠ x := fun e z => by rw [wo_in (by rw [z]; exact List.mem_cons_self)] at e; cases e
    have old : ∀ {H' : Hp} {b : Addr} {o : HO}, But [x] H H' → Wo [x] H b = some o → H' b = some o := fun bb e => but1 bb (nx e) (wo_sub _ _ e)
    -- self.cells = {}
    intro c hc
    have hxc : x ≠ c := ne_of_none hx hc
    refine ⟨_, rfl, x, C, dx, [], rfl, nf_at hx hc, T.cls, T.n_cells, (by show 0 < 1000; decide), ?_⟩
    obtain ⟨a1, a2, a3⟩ := nf (fs' := putF "cells" (.ref c) []) (o := .dK []) hx hc
    -- for kind, name, size in tree[0]
    refine ⟨_, rfl, tp, _, _, _, rfl, rfl, SqT.of (old a3 htp), rfl, lv, rfl, ⟨_, SqL.of (old a3 hlv)⟩, for_lst (K := K) (a := lv) (xs := dv)
      (fun i σ H' => ∃ kvs as x4 x5 x6, σ = [some (.ref x), some (.ref tp), some (.ref gv), some (.int most), x4, x5, x6, none, none] ∧ But [x] H H' ∧ H' x = some (.ins C dx [("cells", .ref c)]) ∧ Ini H c t.D i H' kvs as) ?_ ?_ ?_ ?_⟩
    · exact ⟨[], [], none, none, none, rfl, a3, a1, hc, a2, ⟨rfl, rfl⟩, (fun a ha => nomatch ha), List.nodup_nil⟩
    · rintro i σ H' ⟨kvs, as, x4, x5, x6, rfl, b, _⟩
      exact SqL.of (old b hlv)
    · rintro i y σ H' hi hy ⟨kvs, as, x4, x5, x6, rfl, b, hx1, ini⟩
      obtain ⟨d, p, hd, rfl, hp⟩ := hdv.at_ hy
      have hno := ini.no tok.nd hd
      have hkl : kvs.length ≤ 40 := Nat.le_trans ini.len tok.len
      have hcx : c ≠ x := hxc.symm
      refine ⟨p, _, rfl, SqT.of (old b hp), rfl, _, _, rfl, _, _, rfl, _, _, rfl, rfl, ?_⟩
      have lkc : ([("cells", V.ref c)] : List (Str × V)).lookup ("cells" : Str) = some (.ref c) := by rw [lk, if_pos rfl]
      refine ⟨_, rfl, x, C, dx, _, _, rfl, hx1, T.cls, T.n_cells, lkc, _, rfl, c, _, rfl, .inl ⟨kvs, .inr d.name, ini.dict, rfl, szl (by omega), rfl⟩, ?_⟩
      rw [putK_new _ hno]
      have lst1 : ∀ b l, b ≠ c → H' b = some (.lst l) → (upd H' c (.dK (kvs ++ [(.inr d.name, .int 0)]))) b = some (.lst l) := fun b l n e => by rw [upd_ne n]; exact e
      by_cases hk : d.kd = .list
      · rw [hk]
        refine ⟨_, rfl, rfl, _, rfl, ifDT rfl ?_⟩
        refine ⟨(by show 1 ≤ sizeLine; decide), fun z hz => ?_⟩
        have hzc : z ≠ c := fun e => by rw [e, upd_same] at hz; cases hz
        have hzn : H' z = none := by rw [upd_ne hzc] at hz; exact hz
        have hds := tok.sz d (List.mem_of_getElem? hd)
        refine ⟨_, rfl, z, _, _, rfl, rfl, upd_same, by omega, by omega, sz (by show 1 * ((d.size : Int)).toNat ≤ 100000; omega), fun r hr2 => ?_⟩
        rw [rep_il]
        have hrz : r ≠ z := fun e => by rw [e, upd_same] at hr2; cases hr2
        rw [upd_ne hrz] at hr2
        have hrc : r ≠ c := fun e => by rw [e, upd_same] at hr2; cases hr2
        rw [upd_ne hrc] at hr2
        have hrx : r ≠ x := fun e => by rw [e, hx1] at hr2; cases hr2
        have hzx : z ≠ x := fun e => by rw [e, hx1] at hzn; cases hzn
        refine ⟨_, rfl, x, C, dx, _, _, rfl, ?_, T.cls, T.n_cells, lkc, _, rfl, c, _, rfl, .inl ⟨kvs ++ [(.inr d.name, .int 0)], .inr d.name, ?_, rfl, szl (by rw [List.length_append]; show kvs.length + 1 < 100000; omega), rfl⟩, ?_⟩
        · rw [upd_ne hrx.symm, upd_ne hzx.symm, upd_ne hcx.symm]; exact hx1
        · rw [upd_ne hrc.symm, upd_ne hzc.symm]; exact upd_same
        · rw [putK_snoc hno]
          refine ⟨kvs ++ [(.inr d.name, .ref r)], as ++ [r], _, _, _, rfl, ?_, ?_, ini.lst hd hk (free1 b hrx hr2) hr2 (fun b' l n e => ?_) ?_ upd_same⟩
          · refine ((((b.new ini.free _).trans (But.of_same (same_new ?_ _))).trans (But.of_same (same_new ?_ _))).new ini.free _)
            · rw [upd_ne hzc]; exact hzn
            · rw [upd_ne hrz, upd_ne hrc]; exact hr2
          · rw [upd_ne hcx.symm, upd_ne hrx.symm, upd_ne hzx.symm, upd_ne hcx.symm]; exact hx1
          · have n1 : b' ≠ r := fun z => by rw [z, hr2] at e; cases e
            have n2 : b' ≠ z := fun y => by rw [y, hzn] at e; cases e
            rw [upd_ne n, upd_ne n1, upd_ne n2, upd_ne n]
            exact e
          · rw [upd_ne hrc]; exact upd_same
      · have hks : kdS d.kd ≠ "list" := by
          cases hh : d.kd with
          | list => exact absurd hh hk
          | num => decide +kernel
          | flag => decide +kernel
        refine ⟨_, rfl, rfl, _, rfl, ifDF (str_ne hks) ?_⟩
        exact ⟨_, as, _, _, _, rfl, b.new ini.free _, by rw [upd_ne hcx.symm]; exact hx1, ini.one hd hk lst1 upd_same⟩
    · rintro σ H1 ⟨kvs, as, x4, x5, x6, rfl, b1, hx1, ini⟩
      have hdl := hdv.len
      rw [hdl] at ini
      -- told, left, most, steps, parts
      refine ⟨(by show 0 ≤ sizeLine; decide), fun ta hta => ⟨_, rfl, x, C, dx, _, rfl, nf_at hx1 hta, T.cls, T.n_told, (by show 1 < 1000; decide), ?_⟩⟩
      rw [putF_skip (by decide +kernel), putF_nil]
      obtain ⟨e1, f1, g1⟩ := nf (o := .lst []) (fs' := [("cells", .ref c), ("told", .ref ta)]) hx1 hta
      generalize upd (upd H1 ta (.lst [])) x (.ins C dx [("cells", .ref c), ("told", .ref ta)]) = H2 at e1 f1 g1 ⊢
      have b2 := b1.trans g1
      refine ⟨_, rfl, gv, _, rfl, .inl (SqL.of (old b2 hgv)), fun la hla => ⟨_, rfl, x, C, dx, _, rfl, nf_at e1 hla, T.cls, T.n_left, (by show 2 < 1000; decide), ?_⟩⟩
      rw [putF_skip (by decide +kernel), putF_skip (by decide +kernel), putF_nil]
      obtain ⟨e2, f2, g2⟩ := nf (o := .lst (il given)) (fs' := [("cells", .ref c), ("told", .ref ta), ("left", .ref la)]) e1 hla
      generalize upd (upd H2 la (.lst (il given))) x (.ins C dx [("cells", .ref c), ("told", .ref ta), ("left", .ref la)]) = H3 at e2 f2 g2 ⊢
      refine ⟨_, rfl, _, rfl, x, C, dx, _, rfl, e2, T.cls, T.n_most, (by show 3 < 1000; decide), ?_⟩
      rw [putF_skip (by decide +kernel), putF_skip (by decide +kernel), putF_skip (by decide +kernel), putF_nil]
      have e3 : (upd H3 x (.ins C dx [("cells", .ref c), ("told", .ref ta), ("left", .ref la), ("most", .int most)])) x = some (.ins C dx [("cells", .ref c), ("told", .ref ta), ("left", .ref la), ("most", .int most)]) := upd_same
      have g3 : But [x] H3 (upd H3 x (.ins C dx [("cells", .ref c), ("told", .ref ta), ("left", .ref la), ("most", .int most)])) := (But.refl _ _).put List.mem_cons_self _
      generalize upd H3 x (.ins C dx [("cells", .ref c), ("told", .ref ta), ("left", .ref la), ("most", .int most)]) = H4 at e3 g3 ⊢
      refine ⟨(by show 0 ≤ sizeLine; decide), fun st hst => ⟨_, rfl, x, C, dx, _, rfl, nf_at e3 hst, T.cls, T.n_steps, (by show 4 < 1000; decide), ?_⟩⟩
      rw [putF_skip (by decide +kernel), putF_skip (by decide +kernel), putF_skip (by decide +kernel), putF_skip (by decide +kernel), putF_nil]
      obtain ⟨e4, f4, g4⟩ := nf (o := .lst []) (fs' := [("cells", .ref c), ("told", .ref ta), ("left", .ref la), ("most", .int most), ("steps", .ref st)]) e3 hst
      generalize upd (upd H4 st (.lst [])) x (.ins C dx [("cells", .ref c), ("told", .ref ta), ("left", .ref la), ("most", .int most), ("steps", .ref st)]) = H5 at e4 f4 g4 ⊢
      intro pt hpt
      refine ⟨_, rfl, x, C, dx, _, rfl, nf_at e4 hpt, T.cls, T.n_parts, (by show 5 < 1000; decide), ?_⟩
      rw [putF_skip (by decide +kernel), putF_skip (by decide +kernel), putF_skip (by decide +kernel), putF_skip (by decide +kernel), putF_skip (by decide +kernel), putF_nil]
      obtain ⟨e5, f5, g5⟩ := nf (o := .dK []) (fs' := [("cells", .ref c), ("told", .ref ta), ("left", .ref la), ("most", .int most), ("steps", .ref st), ("parts", .ref pt)]) e4 hpt
      generalize upd (upd H5 pt (.dK [])) x (.ins C dx [("cells", .ref c), ("told", .ref ta), ("left", .ref la), ("most", .int most), ("steps", .ref st), ("parts", .ref pt)]) = H6 at e5 f5 g5 ⊢
      -- none of the new ones is another
      have nxa : ∀ {a : Addr} {Hk : Hp} {fs : List (Str × V)}, Hk x = some (.ins C dx fs) → Hk a = none → a ≠ x := fun e n z => by rw [z, e] at n; cases n
      have t_x := nxa hx1 hta
      have l_x := nxa e1 hla
      have s_x := nxa e3 hst
      have p_x := nxa e4 hpt
      have b3 := b2.trans g2
      have b4 := b3.trans g3
      have b5 := b4.trans g4
      have b6 := b5.trans g5
      have b16 := ((((g1.trans g2).trans g3).trans g4).trans g5)
      have c_6 := but1 b16 hxc.symm ini.dict
      have t_4 := but1 (g2.trans g3) t_x f1
      have t_6 := but1 (g4.trans g5) t_x t_4
      have l_4 := but1 g3 l_x f2
      have l_6 := but1 (g4.trans g5) l_x l_4
      have s_6 := but1 g5 s_x f4
      have as_x : ∀ a ∈ as, a ≠ x := fun a ha z => by
        have := ini.new a ha
        rw [z, hx] at this; cases this
      have kva6 : KvA H6 (initc (t.D.take t.D.length)) kvs as := ini.kva.mono fun a ha o e => but1 b16 (as_x a ha) e
      rw [List.take_length] at kva6
      have as6 := kva6.mem
      let M := x :: c :: ta :: la :: st :: as
      have M_new : ∀ m ∈ M, m = x ∨ H m = none := by
        intro m hm
        rcases List.mem_cons.mp hm with z | hm
        · exact .inl z
        rcases List.mem_cons.mp hm with rfl | hm
        · exact .inr ini.free
        rcases List.mem_cons.mp hm with rfl | hm
        · exact .inr (free1 b1 t_x hta)
        rcases List.mem_cons.mp hm with rfl | hm
        · exact .inr (free1 b2 l_x hla)
        rcases List.mem_cons.mp hm with rfl | hm
        · exact .inr (free1 b4 s_x hst)
        · exact .inr (ini.new m hm)
      have alM : Al M H6 := by
        intro m hm
        rcases List.mem_cons.mp hm with rfl | hm
        · exact ⟨_, e5⟩
        rcases List.mem_cons.mp hm with rfl | hm
        · exact ⟨_, c_6⟩
        rcases List.mem_cons.mp hm with rfl | hm
        · exact ⟨_, t_6⟩
        rcases List.mem_cons.mp hm with rfl | hm
        · exact ⟨_, l_6⟩
        rcases List.mem_cons.mp hm with rfl | hm
        · exact ⟨_, s_6⟩
        · obtain ⟨l, e⟩ := as6 m hm
          exact ⟨_, e⟩
      have ndM : M.Nodup := by
        have c_1 := ini.dict
        have c_2 := but1 g1 hxc.symm c_1
        have c_4 := but1 (g2.trans g3) hxc.symm c_2
        have a_1 := ini.kva.mem
        have t_2 := f1
        have n1 : c ≠ ta := ne_of_none c_1 hta
        have n2 : c ≠ la := ne_of_none c_2 hla
        have n3 : c ≠ st := ne_of_none c_4 hst
        have n4 : ta ≠ la := ne_of_none t_2 hla
        have n5 : ta ≠ st := ne_of_none t_4 hst
        have n6 : la ≠ st := ne_of_none l_4 hst
        have n7 : ∀ a ∈ as, a ≠ c ∧ a ≠ ta ∧ a ≠ la ∧ a ≠ st := fun a ha => by
          obtain ⟨l, e⟩ := a_1 a ha
          have e2 := but1 g1 (as_x a ha) e
          have e4 := but1 (g2.trans g3) (as_x a ha) e2
          exact ⟨ini.ne ha, ne_of_none e hta, ne_of_none e2 hla, ne_of_none e4 hst⟩
        refine List.nodup_cons.mpr ⟨fun z => ?_, List.nodup_cons.mpr ⟨fun z => ?_, List.nodup_cons.mpr ⟨fun z => ?_, List.nodup_cons.mpr ⟨fun z => ?_, List.nodup_cons.mpr ⟨fun z => ?_, ini.nd⟩⟩⟩⟩⟩
        · simp only [List.mem_cons] at z
          rcases z with z | z | z | z | z
          · exact hxc z
          · exact t_x z.symm
          · exact l_x z.symm
          · exact s_x z.symm
          · exact as_x x z rfl
        · simp only [List.mem_cons] at z
          rcases z with z | z | z | z
          · exact n1 z
          · exact n2 z
          · exact n3 z
          · exact (n7 c z).1 rfl
        · simp only [List.mem_cons] at z
          rcases z with z | z | z
          · exact n4 z
          · exact n5 z
          · exact (n7 ta z).2.1 rfl
        · simp only [List.mem_cons] at z
          rcases z with z | z
          · exact n6 z
          · exact (n7 la z).2.2.1 rfl
        · exact (n7 st z).2.2.2 rfl
      have p_new : H pt = none := free1 b5 p_x hpt
      have pM : ¬ pt ∈ M := fun z => by
        rcases List.mem_cons.mp z with z | z
        · exact p_x z
        · have al5 : ∃ o, H5 pt = some o := by
            have s_5 := f4
            have t_5 := but1 g4 t_x t_4
            have l_5 := but1 g4 l_x l_4
            have c_5 := but1 ((((g1.trans g2).trans g3).trans g4)) hxc.symm ini.dict
            simp only [List.mem_cons] at z
            rcases z with rfl | rfl | rfl | rfl | z
            · exact ⟨_, c_5⟩
            · exact ⟨_, t_5⟩
            · exact ⟨_, l_5⟩
            · exact ⟨_, s_5⟩
            · obtain ⟨l, e⟩ := ini.kva.mem pt z
              exact ⟨_, but1 ((((g1.trans g2).trans g3).trans g4)) (as_x pt z) e⟩
          obtain ⟨o, e⟩ := al5
          rw [hpt] at e
          cases e
      -- old things stand still, outside of what may change
      have still : ∀ {H' : Hp}, But [pt] H6 H' → Same (Wo [x] H) (Wo (pt :: M) H') := fun bb b o e => by
        have e0 := wo_sub _ _ e
        have nb := nx e
        have npt : ¬ b ∈ [pt] := fun z => by rw [List.mem_singleton.mp z, p_new] at e0; cases e0
        refine wo_at (bb _ _ npt (but1 b6 nb e0)) fun z => ?_
        rcases List.mem_cons.mp z with z | z
        · exact npt (List.mem_singleton.mpr z)
        · rcases M_new b z with z | z
          · exact nb z
          · rw [z] at e0; cases e0
      refine ⟨_, rfl, tp, _, _, _, rfl, rfl, SqT.of (old b6 htp), rfl, lp, rfl, ⟨_, SqL.of (old b6 hlp)⟩, for_lst (K := K) (a := lp) (xs := pv)
        (fun i σ H' => ∃ pk x5 x8, σ = [some (.ref x), some (.ref tp), some (.ref gv), some (.int most), x4, x5, x6, some (.int ((allOf (t.ps.take i) : Nat) : Int)), x8] ∧ But [pt] H6 H' ∧ H' pt = some (.dK pk) ∧ PkOk (Wo (pt :: M) H') pk (t.ps.take i)) ?_ ?_ ?_ ?_⟩
      · exact ⟨[], x5, none, rfl, But.refl _ _, f5, (fun y q e => nomatch e), (fun _ _ => rfl), rfl⟩
      · rintro i σ H' ⟨pk, x5, x8, rfl, bb, _⟩
        exact SqL.of (wo_sub _ _ (still bb _ _ hlp))
      · rintro i y σ H' hi hy ⟨pk, x5, x8, rfl, bb, hpk, hpo⟩
        obtain ⟨nm, r, p, l, xs, hps, rfl, hp, hl, hrv⟩ := hpv.at_ hy
        have stl := still bb
        have hmem : (nm, r) ∈ t.ps := List.mem_of_getElem? hps
        have npx : But [pt] H6 H' := bb
        have hx7 : H' x = some (.ins C dx [("cells", .ref c), ("told", .ref ta), ("left", .ref la), ("most", .int most), ("steps", .ref st), ("parts", .ref pt)]) := bb _ _ (fun z => p_x (List.mem_singleton.mp z).symm) e5
        have alp : Al (pt :: M) H' := fun m hm => by
          rcases List.mem_cons.mp hm with rfl | hm
          · exact ⟨_, hpk⟩
          · obtain ⟨o, e⟩ := alM m hm
            exact ⟨o, bb _ _ (fun z => pM (by rw [← List.mem_singleton.mp z]; exact hm)) e⟩
        refine ⟨p, _, rfl, SqT.of (wo_sub _ _ (stl _ _ hp)), rfl, _, _, rfl, _, _, rfl, rfl, ?_⟩
        refine ⟨_, rfl, _, rfl, pt :: M, l, xs, r, allOf (t.ps.take i), rfl, alp, stl _ _ hl, hrv.mono stl, by have hdr : deep r ≤ 8 := tok.deep.2 _ hmem; omega, tok.cnt.2 _ hmem, fun H7 p7 l7 v7 s7 k1 k2 k3 => ?_⟩
        have hx8 := s7 _ _ hx7
        have hpk8 := s7 _ _ hpk
        have lkp : ([("cells", .ref c), ("told", .ref ta), ("left", .ref la), ("most", .int most), ("steps", .ref st), ("parts", .ref pt)] : List (Str × V)).lookup ("parts" : Str) = some (.ref pt) := by
          rw [lk, if_neg (by decide +kernel), lk, if_neg (by decide +kernel), lk, if_neg (by decide +kernel), lk, if_neg (by decide +kernel), lk, if_neg (by decide +kernel), lk, if_pos rfl]
        have hnm : ¬ nm ∈ (t.ps.take i).map (·.1) := fun z => by
          rw [List.map_take] at z
          obtain ⟨j, hj⟩ := List.mem_iff_getElem?.mp z
          have hlt : j < i := by
            have := (List.getElem?_eq_some_iff.mp hj).1
            rw [List.length_take] at this
            omega
          rw [List.getElem?_take_of_lt hlt] at hj
          have hi : (t.ps.map (·.1))[i]? = some nm := by rw [List.getElem?_map, hps]; rfl
          have := nd_ix tok.pnd hj hi
          omega
        have hpl : pk.length < sizeLine := by
          have h1 := hpo.2.2
          rw [List.length_take] at h1
          have h2 := tok.pl
          exact szl (by omega)
        refine ⟨p7, _, rfl, SqT.of (wo_sub _ _ k1), rfl, _, _, rfl, _, rfl, x, C, dx, _, _, rfl, hx8, T.cls, T.n_parts, lkp, _, rfl, pt, _, rfl, .inl ⟨pk, .inr nm, hpk8, rfl, hpl, rfl⟩, _, _, rfl, rfl, ?_⟩
        have w8 : Same (Wo (pt :: M) H7) (Wo (pt :: M) (upd H7 pt (.dK (putK pk (.inr nm) (.ref l7))))) := ((But.refl _ _).put List.mem_cons_self _).wo
        refine ⟨_, some (.str nm), some (.ref l), ?_, (bb.trans (But.of_same s7)).put List.mem_cons_self _, upd_same, ?_⟩
        · rw [take_snoc hps, allOf_snoc]
          rfl
        · rw [take_snoc hps]
          exact (hpo.mono ((Same.wo s7).trans w8)).snoc hnm (w8 _ _ k2) (k3.mono w8)
      · rintro σ H' ⟨pk, x5, x8, rfl, bb, hpk, hpo⟩
        have hpl := hpv.len
        rw [hpl, List.take_length] at hpo
        rw [hpl, List.take_length]
        have stl := still bb
        have hx7 : H' x = some (.ins C dx [("cells", .ref c), ("told", .ref ta), ("left", .ref la), ("most", .int most), ("steps", .ref st), ("parts", .ref pt)]) := bb _ _ (fun z => p_x (List.mem_singleton.mp z).symm) e5
        have alp : Al M H' := fun m hm => by
          obtain ⟨o, e⟩ := alM m hm
          exact ⟨o, bb _ _ (fun z => pM (by rw [← List.mem_singleton.mp z]; exact hm)) e⟩
        have wl : Same (Wo (pt :: M) H') (Wo M H') := wo_less fun m hm => List.mem_cons_of_mem _ hm
        have stl2 := stl.trans wl
        refine ⟨_, rfl, tp, _, _, _, rfl, rfl, SqT.of (wo_sub _ _ (stl _ _ htp)), rfl, _, rfl, M, lm, mv, t.main, allOf t.ps, rfl, alp, stl2 _ _ hlm, hmv.mono stl2, by have := tok.deep.1; omega, tok.cnt.1, fun H7 p7 l7 v7 s7 k1 k2 k3 => ?_⟩
        have hx8 := s7 _ _ hx7
        refine ⟨p7, _, _, _, rfl, rfl, SqT.of (wo_sub _ _ k1), rfl, _, rfl, x, C, dx, _, rfl, hx8, T.cls, T.n_main, (by show 6 < 1000; decide), ?_⟩
        rw [putF_skip (by decide +kernel), putF_skip (by decide +kernel), putF_skip (by decide +kernel), putF_skip (by decide +kernel), putF_skip (by decide +kernel), putF_skip (by decide +kernel), putF_nil]
        have w8 : Same (Wo M H7) (Wo M (upd H7 x (.ins C dx [("cells", .ref c), ("told", .ref ta), ("left", .ref la), ("most", .int most), ("steps", .ref st), ("parts", .ref pt), ("main", .ref l7)]))) := ((But.refl _ _).put List.mem_cons_self _).wo
        have w78 := (Same.wo (M := M) s7).trans w8
        have up : ∀ {b : Addr} {o : HO}, b ≠ x → b ≠ pt → H6 b = some o → (upd H7 x (.ins C dx [("cells", .ref c), ("told", .ref ta), ("left", .ref la), ("most", .int most), ("steps", .ref st), ("parts", .ref pt), ("main", .ref l7)])) b = some o := fun n1 n2 e => by
          rw [upd_ne n1]
          exact s7 _ _ (bb _ _ (fun z => n2 (List.mem_singleton.mp z)) e)
        have inM : ∀ {m : Addr}, m ∈ M → m ≠ pt := fun hm z => pM (z ▸ hm)
        have c_p : c ≠ pt := inM (by simp [M])
        refine q ⟨x, dx, c, ta, la, most, st, pt, l7⟩ as _ rfl rfl ⟨upd_same, ⟨kvs, up hxc.symm c_p c_6, kva6.mono fun a ha o e => up (as_x a ha) (inM (by simp [M, ha])) e⟩, up t_x (inM (by simp [M])) t_6, up l_x (inM (by simp [M])) l_6, ⟨[], up s_x (inM (by simp [M])) s_6, rfl⟩, ndM, fun a ha => ?_⟩ ⟨⟨pk, ?_, fun y q' e => ?_⟩, ⟨v7, w8 _ _ k2, k3.mono w8⟩⟩ M_new ?_
        · obtain ⟨l, e⟩ := as6 a ha
          exact ⟨l, up (as_x a ha) (inM (by simp [M, ha])) e⟩
        · exact wo_at (by rw [upd_ne p_x]; exact s7 _ _ hpk) pM
        · obtain ⟨l', vs', j1, j2, j3⟩ := hpo.1 y q' e
          have w9 := wl.trans w78
          exact ⟨l', vs', j1, w9 _ _ j2, j3.mono w9⟩
        · exact fun b o n e => up (fun z => n (List.mem_singleton.mpr z)) (fun z => by rw [z, p_new] at e; cases e) (b6 b o n e)
/-- what meant hands back: (told, end, cells, steps) -/
def ResV (H : Hp) (v : V) (s : Sta) (e : End) : Prop := ∃ a b st vs, TupV H v [.ref a, .str (endS e), .ref b, .ref st] ∧ H a = some (.lst (il s.told)) ∧ CsV H b s.cs ∧ H st = some (.lst vs) ∧ StepsV H s.steps vs
theorem ResV.mono {H H' : Hp} (k : Same H H') {v : V} {s : Sta} {e : End} (h : ResV H v s e) : ResV H' v s e := by
  obtain ⟨a, b, st, vs, h1, h2, h3, h4, h5⟩ := h
  exact ⟨a, b, st, vs, h1.mono k, k _ _ h2, h3.mono k, k _ _ h4, h5.mono k⟩
abbrev sta0 (t : Tree) (given : List Int) : Sta := ⟨initc t.D, [], given, []⟩
def spMeant : Sp := fun vs H Q _ => ∃ (gv : Addr) (tv : V) (t : Tree) (given : List Int) (most : Nat) (e : End) (s : Sta), vs = [tv, .ref gv, .int most] ∧ TreeV H tv t ∧ H gv = some (.lst (il given)) ∧ TreeOk t ∧ (∀ v ∈ given, In16 v) ∧ most ≤ 5000 ∧
  Run (tabT t) most (.rows t.main (allOf t.ps)) (sta0 t given) e s ∧ ∀ v H', Same H H' → ResV H' v s (fin e) → Q v H'
theorem ok_meant (T0 : Top K mg C) {k : Nat} (c_init : CalI P w K mg base C ["self", "tree", "given", "most"] k (spInit C)) (c_do_rows : Cal P w K mg base "do_rows" ["going", "rows"] (k + 1) (spRows C 39)) (c_copied_cells : Cal P w K mg base "copied_cells" ["cells"] (k + 1) spCopy) :
    Cal P w K mg base "meant" ["tree", "given", "most"] (k + 1 + 1) spMeant := by
  have T := T0
  refine T.d_meant.ok sc_meant (fun _ _ _ _ _ _ us hl => match us, hl with | [_, _, _], _ => rfl) (fun vs H Q E h => ?_) (fun f cdv A outer s0 H vs Q E hr h => ?_)
  · obtain ⟨gv, tv, t, given, most, e, s, rfl, _⟩ := h
    rfl
  · obtain ⟨gv, tv, t, given, most, e, s, rfl, htv, hgv, tok, hg16, hmost, hrun, q⟩ := h
    refine ⟨_, (pss_cons (ps_set (i := 3) sc_meant.nd rfl (Or.inl rfl) (pe_mk c_init hr rfl T.going (pa_cons (pv 0) (pa_cons (pv 1) (pa_cons (pv 2) pa_nil)))))
      (pss_cons (ps_set (i := 4) sc_meant.nd rfl (Or.inl rfl) (pe_cl c_do_rows hr rfl (pa_cons (pv 3) (pa_cons (pe_fld (pv 3) rfl) pa_nil))))
      (Evl.pss_cut (ps_if (pt_cmpR op_eq (pv 4) pe_str (nomark _)) (pss_one (ps_set (i := 4) sc_meant.nd rfl (Or.inl rfl) pe_str)) pss_nil)
      (pss_one (ps_ret (pe_tup (pa_cons (pe_fld (pv 3) rfl) (pa_cons (pv 4) (pa_cons (pe_cl c_copied_cells hr rfl (pa_cons (pe_fld (pv 3) rfl) pa_nil)) (pa_cons (pe_fld (pv 3) rfl) pa_nil)))))))))), ?_⟩
    refine ⟨_, rfl, _, rfl, _, rfl, fun x dx hx hdx hne => ?_⟩
    have s1 : Same H (Wo [x] (upd (upd H dx (.own x)) x (.ins C dx []))) := fun b o e => by
      have n1 : b ≠ x := ne_of_none e hx
      have n2 : b ≠ dx := ne_of_none e hdx
      refine wo_at ?_ (fun z => n1 (List.mem_singleton.mp z))
      rw [upd_ne n1, upd_ne n2]
      exact e
    refine ⟨x, dx, gv, tv, t, given, most, rfl, upd_same, htv.mono s1, s1 _ _ hgv, tok, fun d as H1 hdg hdm hgo hrd hnew b1 => ⟨rfl, ?_⟩⟩
    subst hdg hdm
    -- nothing of the caller's may change
    have m_new : ∀ m ∈ muts d as, H m = none := fun m hm => by
      rcases hnew m hm with rfl | z
      · exact hx
      · cases e : H m with
        | none => rfl
        | some o =>
          have n1 : m ≠ d.g := ne_of_none e hx
          have n2 : m ≠ dx := ne_of_none e hdx
          rw [upd_ne n1, upd_ne n2, e] at z
          cases z
    have s2 : Same H H1 := fun b o e => by
      have n1 : b ≠ d.g := ne_of_none e hx
      have n2 : b ≠ dx := ne_of_none e hdx
      refine but1 b1 n1 ?_
      rw [upd_ne n1, upd_ne n2]
      exact e
    obtain ⟨pk, hpk, hpa⟩ := hrd.parts
    obtain ⟨mv, hmn, hmv⟩ := hrd.main
    have sit : Sit d as (Wo (muts d as) H1) (tabT t) (envOf t.D) := by
      refine ⟨fun m hm => wo_in hm, tok.tab, ⟨pk, hpk, fun x q hq => ?_⟩, by rw [envOf, List.length_map]; have := tok.len; omega, hmost⟩
      obtain ⟨l, vs, h1, h2, h3⟩ := hpa x q hq
      exact ⟨l, vs, h1, h2, h3, tok.deep.2 _ (tab_mem hq)⟩
    have sok : SOk (envOf t.D) (sta0 t given) := ⟨init_ok tok.sz, tok.env, hg16, Nat.le_refl _⟩
    refine ⟨_, rfl, _, rfl, d.g, C, d.dx, _, _, rfl, hgo.ob, T.cls, T.n_main, gf_main d, ?_⟩
    refine ⟨d, as, _, tabT t, envOf t.D, t.ps.length, sta0 t given, s, e, t.main, allOf t.ps, d.mn, mv, rfl, sit, hgo, wo_sub, hmn, hmv, tok.main, sok, Nat.zero_le _, by have := tok.deep.1; have := tok.pl; omega, hrun, fun H2 h2 b2 => ?_⟩
    have s3 : Same H H2 := fun b o e => b2 b o (fun z => by rw [m_new b z] at e; cases e) (s2 b o e)
    have sok2 : SOk (envOf t.D) s := run_ok tok.tab hrun t.ps.length tok.main sok
    refine ⟨fun σ' H3 => σ' = [some tv, some (.ref gv), some (.int d.most), some (.ref d.g), some (.str (endS (fin e)))] ∧ H3 = H2, ?_, ?_⟩
    · refine ⟨_, rfl, rfl, _, rfl, ifD (fun c => ?_) (fun c => ?_)⟩
      · have he : e = .go := by
          cases e with
          | go => rfl
          | ended => exact absurd c (endS_go (fun z => nomatch z))
          | fault => exact absurd c (endS_go (fun z => nomatch z))
          | going => exact absurd c (endS_go (fun z => nomatch z))
        subst he
        exact ⟨rfl, rfl⟩
      · have he : e ≠ .go := fun z => c (by rw [z]; rfl)
        have ef : fin e = e := by cases e <;> first | rfl | exact absurd rfl he
        rw [ef]
        exact ⟨rfl, rfl⟩
    · rintro σ' H3 ⟨rfl, rfl⟩
      refine ⟨_, rfl, d.g, C, d.dx, _, _, rfl, h2.ob, T.cls, T.n_told, gf_told d, _, rfl, _, rfl, d.g, C, d.dx, _, _, rfl, h2.ob, T.cls, T.n_cells, gf_cells d, ?_⟩
      refine ⟨d.c, s.cs, rfl, h2.csv, by rw [cs_keys sok2.cs]; exact sok2.nd, ?_, fun p H4 s4 hp k1 => ?_⟩
      · have := cs_len sok2.cs
        rw [envOf, List.length_map] at this
        have := tok.len
        omega
      · have h4 := h2.same s4
        obtain ⟨vs, hst, hsv⟩ := h4.stp
        refine ⟨_, rfl, d.g, C, d.dx, _, _, rfl, h4.ob, T.cls, T.n_steps, gf_steps d, (by show 4 ≤ sizeLine; decide), fun r hr2 => ?_⟩
        have s5 := same_new hr2 (.tup [.ref d.t, .str (endS (fin e)), .ref p, .ref d.st])
        refine q _ _ (s3.trans (s4.trans s5)) ⟨d.t, p, d.st, vs, ⟨r, rfl, upd_same⟩, s5 _ _ h4.told, (k1.mono (fun b o e => (of_nw e).2)).mono s5, s5 _ _ hst, (hsv.mono wo_sub).mono s5⟩
end
end GT
/-! _law_due -/
namespace GT
open PySem PySem.Spec PyProof.Rows L2
theorem sc_l_due : FnScope ["_law_tree_here", "_law_given_here", "_law_most", "_law_code_here", "_law_begins", "_law_cells", "_law_kind", "_law_name", "_law_size", "_law_state", "_law_steps", "_law_backs", "_law_at", "_law_what", "_law_number", "_law_row", "_law_target", "_law_found"] ["_law_tree_here", "_law_given_here", "_law_most"] (defScope s_l_due) := ⟨rfl, rfl, rfl, by decide +kernel, rfl, by decide +kernel, by decide +kernel⟩
theorem CodeV.at_ {H : Hp} : ∀ {ps : List In} {vs : List V} {i : Nat} {it : In}, CodeV H ps vs → ps[i]? = some it → ∃ v, vs[i]? = some v ∧ InV H it v
  | [], _, i, it, _, e => by simp at e
  | p :: ps, _, 0, it, ⟨v, t, h1, h2, h3⟩, e => by
    cases Option.some.inj e
    exact ⟨v, by rw [h1]; rfl, h2⟩
  | p :: ps, _, i + 1, it, ⟨v, t, h1, h2, h3⟩, e => by
    obtain ⟨w, k1, k2⟩ := CodeV.at_ (i := i) h3 e
    exact ⟨w, by rw [h1]; exact k1, k2⟩
theorem plv_tag2 {H : Hp} {v : V} : ∀ {p : Pl}, PlV H p v → ∃ q tag us, v = .ref q ∧ H q = some (.tup (.str tag :: us)) ∧ tag ≠ "if" ∧ tag ≠ "while" ∧ tag ≠ "do" ∧ (tag = "stop" ↔ p = .stop)
  | .set _ _, ⟨u, ⟨q, h1, h2⟩, _⟩ => ⟨q, _, _, h1, h2, by decide +kernel, by decide +kernel, by decide +kernel, fun z => absurd z (by decide +kernel), fun z => nomatch z⟩
  | .put _ _ _, ⟨u, t, ⟨q, h1, h2⟩, _⟩ => ⟨q, _, _, h1, h2, by decide +kernel, by decide +kernel, by decide +kernel, fun z => absurd z (by decide +kernel), fun z => nomatch z⟩
  | .tell _, ⟨u, ⟨q, h1, h2⟩, _⟩ => ⟨q, _, _, h1, h2, by decide +kernel, by decide +kernel, by decide +kernel, fun z => absurd z (by decide +kernel), fun z => nomatch z⟩
  | .ask _, ⟨q, h1, h2⟩ => ⟨q, _, _, h1, h2, by decide +kernel, by decide +kernel, by decide +kernel, fun z => absurd z (by decide +kernel), fun z => nomatch z⟩
  | .way, ⟨q, h1, h2⟩ => ⟨q, _, _, h1, h2, by decide +kernel, by decide +kernel, by decide +kernel, fun z => absurd z (by decide +kernel), fun z => nomatch z⟩
  | .stop, ⟨q, h1, h2⟩ => ⟨q, _, _, h1, h2, by decide +kernel, by decide +kernel, by decide +kernel, fun _ => rfl, fun _ => rfl⟩
theorem act_left {p : Pl} {s : Sta} : (act p s).2.left.length ≤ s.left.length := by
  cases p with
  | set x ex => simp only [act]; split <;> exact Nat.le_refl _
  | put x i ex =>
    simp only [act]
    split
    · split <;> exact Nat.le_refl _
    · exact Nat.le_refl _
  | tell ex => simp only [act]; split <;> exact Nat.le_refl _
  | ask x =>
    simp only [act]
    split
    · exact Nat.le_refl _
    · rename_i h
      show _ ≤ s.left.length
      rw [h]
      exact Nat.le_succ _
  | way => exact Nat.le_refl _
  | stop => exact Nat.le_refl _
def bgOf (kvs : List (Key × V)) (x : Nm) : Option Nat := match valV kvs (.inr x) with
  | some (.int p) => if 0 ≤ p then some p.toNat else none
  | _ => none
theorem bgOf_some {kvs : List (Key × V)} {x : Nm} {p : Nat} (h : valV kvs (.inr x) = some (.int (p : Int))) : bgOf kvs x = some p := by
  unfold bgOf
  rw [h]
  simp
theorem of_bgOf {kvs : List (Key × V)} {x : Nm} {p : Nat} (h : bgOf kvs x = some p) : valV kvs (.inr x) = some (.int (p : Int)) := by
  unfold bgOf at h
  split at h
  · rename_i z e
    split at h
    · rename_i h0
      cases h
      rw [e]
      congr 2
      omega
    · cases h
  · cases h
/-- the law's loop, m turns before an end -/
structure DueW (code : List In) (kvs : List (Key × V)) (most : Nat) (eF : End) (sF : Sta) (tv : V) (gv c b sa : Addr) (d : Ld) (as : List Addr) (G : Env) (S : Hp) (m : Nat) (σ : L2.St) (H : Hp) : Prop where
  ex : ∃ p bs s x6 x7 x8 x13 x14 x15 x16 x17, Halts code (bgOf kvs) most m p bs s eF sF ∧
    σ = [some tv, some (.ref gv), some (.int (most : Int)), some (.ref c), some (.ref b), some (.ref d.c), x6, x7, x8, some (.ref sa), some (.ref d.st), some (.ref d.g), some (.int (p : Int)), x13, x14, x15, x16, x17] ∧
    LAt d bs as H s ∧ Same S H ∧ SOk G s ∧ s.steps.length ≤ most ∧ bs.length ≤ s.steps.length ∧ s.left.length ≤ 1000
section
variable {P : Program} {w : World} {K : PySem.W.Frag} {mg : Str → Option Value} {base : Heap} {C : Addr}
def spDue : Sp := fun vs H Q _ => ∃ (gv : Addr) (tv : V) (t : Tree) (given : List Int) (most : Nat) (e : End) (s : Sta), vs = [tv, .ref gv, .int (most : Int)] ∧ TreeV H tv t ∧ H gv = some (.lst (il given)) ∧ TreeOk t ∧ (∀ v ∈ given, In16 v) ∧ given.length ≤ 1000 ∧ most ≤ 5000 ∧
  Run (tabT t) most (.rows t.main (allOf t.ps)) (sta0 t given) e s ∧ ∀ v H', Same H H' → ResV H' v s (fin e) → Q v H'
theorem ok_l_due (T0 : Top K mg C) {k : Nat} (c_l_code : Cal P w K mg base "_law_code" ["_law_tree_here"] k spCode) (c_l_copy : Cal P w K mg base "_law_copy" ["_law_cells"] k spCopy) (c_l_worth : Cal P w K mg base "_law_worth" ["_law_cells", "_law_expr"] k spWorthL) (c_l_did : Cal P w K mg base "_law_did" ["_law_state", "_law_row"] k spDid) :
    Cal P w K mg base "_law_due" ["_law_tree_here", "_law_given_here", "_law_most"] (k + 1) spDue := by
  have T := T0
  refine T.d_l_due.ok sc_l_due (fun _ _ _ _ _ _ us hl => match us, hl with | [_, _, _], _ => rfl) (fun vs H Q E h => ?_) (fun f cdv A outer s0 H vs Q E hr h => ?_)
  · obtain ⟨gv, tv, t, given, most, e, s, rfl, _⟩ := h
    rfl
  · obtain ⟨gv, tv, t, given, most, e, sF, rfl, htv, hgv, ok, hg16, hgl, hmost, hrun, q⟩ := h
    refine ⟨_, (pss_cons (ps_asg (pe_cl c_l_code hr rfl (pa_cons (pv 0) pa_nil)) (pg_tup rfl (pgs_cons (pg_name (i := 3) sc_l_due.nd rfl (Or.inl rfl)) (pgs_cons (pg_name (i := 4) sc_l_due.nd rfl (Or.inl rfl)) pgs_nil))))
      (pss_cons (ps_set (i := 5) sc_l_due.nd rfl (Or.inl rfl) pe_dnewK)
      (pss_cons (ps_for PassesOwn.never rfl (pi_list (pe_ix ix_tup (pv 0) pe_int (fun _ _ => rfl))) (pg_tup rfl (pgs_cons (pg_name (i := 6) sc_l_due.nd rfl (Or.inl rfl)) (pgs_cons (pg_name (i := 7) sc_l_due.nd rfl (Or.inl rfl)) (pgs_cons (pg_name (i := 8) sc_l_due.nd rfl (Or.inl rfl)) pgs_nil)))) (pss_one (ps_dput (hu_of hr) (pv 5) (pv 7) (pe_ifExp (pt_cmpR op_eq (pv 6) pe_str (nomark _)) (pe_op op_rep (pe_lst (pa_cons pe_int pa_nil)) (pv 8)) pe_int) rfl)))
      (pss_cons (ps_set (i := 9) sc_l_due.nd rfl (Or.inl rfl) (pe_tup (pa_cons (pv 5) (pa_cons (pe_lst pa_nil) (pa_cons (pe_callTy call_list_of rfl T.list_ (by decide +kernel) (pa_cons (pv 1) pa_nil)) pa_nil)))))
      (pss_cons (ps_set (i := 10) sc_l_due.nd rfl (Or.inl rfl) (pe_lst pa_nil))
      (pss_cons (ps_set (i := 11) sc_l_due.nd rfl (Or.inl rfl) (pe_lst pa_nil))
      (pss_cons (ps_set (i := 12) sc_l_due.nd rfl (Or.inl rfl) (pe_dget (hu_of hr) (pv 4) pe_str (fun _ _ => rfl)))
      (pss_one (ps_while PassesOwn.never (pt_val pe_bl) (pss_cons (ps_asg (pe_ix ix_list (pv 3) (pv 12) (fun _ _ => rfl)) (pg_unl rfl (pgs_cons (pg_name (i := 13) sc_l_due.nd rfl (Or.inl rfl)) (pgs_cons (pg_name (i := 14) sc_l_due.nd rfl (Or.inl rfl)) (pgs_cons (pg_name (i := 15) sc_l_due.nd rfl (Or.inl rfl)) (pgs_cons (pg_name (i := 16) sc_l_due.nd rfl (Or.inl rfl)) pgs_nil))))))
      (pss_cons (ps_set (i := 12) sc_l_due.nd rfl (Or.inl rfl) (pe_op op_add (pv 12) pe_int))
      (pss_cons (ps_if (pt_cmpR op_eq (pv 13) pe_str (nomark _)) (pss_one (ps_ret (pe_tup (pa_cons (pe_ix ix_tup (pv 9) pe_int (fun _ _ => rfl)) (pa_cons pe_str (pa_cons (pe_cl c_l_copy hr rfl (pa_cons (pv 5) pa_nil)) (pa_cons (pv 10) pa_nil))))))) pss_nil)
      (pss_one (ps_if (pt_cmpR op_eq (pv 13) pe_str (nomark _)) (pss_one (ps_set (i := 12) sc_l_due.nd rfl (Or.inl rfl) (pv 16))) (pss_one (ps_if (pt_cmpR op_eq (pv 13) pe_str (nomark _)) (pss_one (ps_set (i := 12) sc_l_due.nd rfl (Or.inl rfl) (pe_bm0 PySem.F.plainAttrs_list PySem.F.slot_list_pop PySem.F.type_list_pop mt_pop (pv 11)))) (pss_cons (ps_if (pt_cmpR op_eq (pe_callB call_len_seq rfl T.len_ (by decide +kernel) (pa_cons (pv 10) pa_nil)) (pv 2) (nomark _)) (pss_one (ps_ret (pe_tup (pa_cons (pe_ix ix_tup (pv 9) pe_int (fun _ _ => rfl)) (pa_cons pe_str (pa_cons (pe_cl c_l_copy hr rfl (pa_cons (pv 5) pa_nil)) (pa_cons (pv 10) pa_nil))))))) pss_nil)
      (pss_cons (ps_expr (pe_bm PySem.F.plainAttrs_list PySem.F.slot_list_append PySem.F.type_list_append mt_append (pv 10) (pa_cons (pe_tup (pa_cons (pv 14) (pa_cons (pe_cl c_l_copy hr rfl (pa_cons (pv 5) pa_nil)) (pa_cons (pe_callTy call_list_of rfl T.list_ (by decide +kernel) (pa_cons (pe_ix ix_tup (pv 9) pe_int (fun _ _ => rfl)) pa_nil)) pa_nil)))) pa_nil)))
      (pss_one (ps_if (pt_cmpR op_eq (pv 13) pe_str (nomark _)) (pss_cons (ps_set (i := 17) sc_l_due.nd rfl (Or.inl rfl) (pe_cl c_l_worth hr rfl (pa_cons (pv 5) (pa_cons (pv 15) pa_nil))))
      (pss_cons (ps_if (pt_cmpR (op_eqD hr.units) (pv 17) (pe_lst pa_nil) (nomark _)) (pss_one (ps_ret (pe_tup (pa_cons (pe_ix ix_tup (pv 9) pe_int (fun _ _ => rfl)) (pa_cons pe_str (pa_cons (pe_cl c_l_copy hr rfl (pa_cons (pv 5) pa_nil)) (pa_cons (pv 10) pa_nil))))))) pss_nil)
      (pss_one (ps_set (i := 12) sc_l_due.nd rfl (Or.inl rfl) (pe_ix ix_list (pe_lst (pa_cons (pv 16) (pa_cons (pv 12) pa_nil))) (pe_ix ix_list (pv 17) pe_int (fun _ _ => rfl)) (fun _ _ => rfl)))))) (pss_one (ps_if (pt_cmpR op_eq (pe_ix ix_tup (pv 15) pe_int (fun _ _ => rfl)) pe_str (nomark _)) (pss_cons (ps_expr (pe_bm PySem.F.plainAttrs_list PySem.F.slot_list_append PySem.F.type_list_append mt_append (pv 11) (pa_cons (pv 12) pa_nil)))
      (pss_one (ps_set (i := 12) sc_l_due.nd rfl (Or.inl rfl) (pe_dget (hu_of hr) (pv 4) (pe_ix ix_tup (pv 15) pe_int (fun _ _ => rfl)) (fun _ _ => rfl))))) (pss_one (ps_if (pt_cmpR op_eq (pe_ix ix_tup (pv 15) pe_int (fun _ _ => rfl)) pe_str (nomark _)) (pss_one (ps_ret (pe_tup (pa_cons (pe_ix ix_tup (pv 9) pe_int (fun _ _ => rfl)) (pa_cons pe_str (pa_cons (pe_cl c_l_copy hr rfl (pa_cons (pv 5) pa_nil)) (pa_cons (pv 10) pa_nil))))))) (pss_one (ps_if (pt_not (pt_val (pe_cl c_l_did hr rfl (pa_cons (pv 9) (pa_cons (pv 15) pa_nil))))) (pss_one (ps_ret (pe_tup (pa_cons (pe_ix ix_tup (pv 9) pe_int (fun _ _ => rfl)) (pa_cons pe_str (pa_cons (pe_cl c_l_copy hr rfl (pa_cons (pv 5) pa_nil)) (pa_cons (pv 10) pa_nil))))))) pss_nil)))))))))))))))))))))))))), ?_⟩
    refine ⟨_, rfl, tv, t, rfl, htv, ok, fun v c b cv code kvs p0 H1 s1 hv hc hcd hb hbeg hp0 hat hlen hok => ?_⟩
    obtain ⟨vp, rfl, hvp⟩ := hv
    have hT1 := htv.mono s1
    obtain ⟨lv, lp, lm, dv, pv, mv, ⟨tp, rfl, htp⟩, hlv, hdv, _⟩ := hT1
    have hgv1 := s1 _ _ hgv
    refine ⟨vp, _, rfl, SqT.of hvp, rfl, _, _, rfl, _, _, rfl, rfl, fun dc hdc => ?_⟩
    have hdl := hdv.len
    refine ⟨_, rfl, tp, _, _, _, rfl, rfl, SqT.of (same_new hdc _ _ _ htp), rfl, lv, rfl, ⟨_, SqL.of (same_new hdc _ _ _ hlv)⟩, for_lst (K := K) (a := lv) (xs := dv)
      (fun i σ H' => ∃ x6 x7 x8 kw as, σ = [some (.ref tp), some (.ref gv), some (.int (most : Int)), some (.ref c), some (.ref b), some (.ref dc), x6, x7, x8, none, none, none, none, none, none, none, none, none] ∧ Same H1 H' ∧ Ini H1 dc t.D i H' kw as)
      ⟨none, none, none, [], [], rfl, same_new hdc _, hdc, upd_same, ⟨rfl, rfl⟩, (fun a ha => nomatch ha), List.nodup_nil⟩ ?_ ?_ ?_⟩
    · rintro i σ H' ⟨x6, x7, x8, kw, as, rfl, s2, _⟩
      exact SqL.of (s2 _ _ hlv)
    · rintro i y σ H' hi hy ⟨x6, x7, x8, kw, as, rfl, s2, ini⟩
      obtain ⟨d, p, hd, rfl, hp⟩ := hdv.at_ hy
      have hno := ini.no ok.nd hd
      have hkl : kw.length ≤ 40 := Nat.le_trans ini.len ok.len
      refine ⟨p, _, rfl, SqT.of (s2 _ _ hp), rfl, _, _, rfl, _, _, rfl, _, _, rfl, rfl, ?_⟩
      have hdcn : ∀ {q : Addr} {o : HO}, H1 q = some o → q ≠ dc := fun e => ne_of_none e hdc
      by_cases hk : d.kd = .list
      · rw [hk]
        refine ⟨_, rfl, rfl, _, rfl, ifDT rfl ?_⟩
        refine ⟨(by show 1 ≤ sizeLine; decide), fun z hz => ?_⟩
        have hzc : z ≠ dc := fun e => by rw [e, ini.dict] at hz; cases hz
        have hds := ok.sz d (List.mem_of_getElem? hd)
        refine ⟨_, rfl, z, _, _, rfl, rfl, upd_same, by omega, by omega, sz (by show 1 * ((d.size : Int)).toNat ≤ 100000; omega), fun r hr2 => ?_⟩
        rw [rep_il]
        have hrz : r ≠ z := fun e => by rw [e, upd_same] at hr2; cases hr2
        rw [upd_ne hrz] at hr2
        have hrc : r ≠ dc := fun e => by rw [e, ini.dict] at hr2; cases hr2
        have hr1 : H1 r = none := by
          cases z : H1 r with
          | none => rfl
          | some u => rw [s2 _ _ z] at hr2; cases hr2
        refine ⟨_, rfl, _, rfl, dc, _, rfl, .inl ⟨kw, .inr d.name, ?_, rfl, szl (by omega), rfl⟩, ?_⟩
        · rw [upd_ne hrc.symm, upd_ne hzc.symm]; exact ini.dict
        · rw [putK_new _ hno]
          refine ⟨_, _, _, kw ++ [(.inr d.name, .ref r)], as ++ [r], rfl, fun b' o e => ?_, ini.lst hd hk hr1 hr2 (fun b' l n e => ?_) ?_ upd_same⟩
          · have n1 : b' ≠ dc := hdcn e
            have n2 : b' ≠ r := fun y => by rw [y, hr1] at e; cases e
            have n3 : b' ≠ z := fun y => by rw [y] at e; rw [s2 _ _ e] at hz; cases hz
            rw [upd_ne n1, upd_ne n2, upd_ne n3]
            exact s2 _ _ e
          · have n1 : b' ≠ r := fun z => by rw [z, hr2] at e; cases e
            have n2 : b' ≠ z := fun y => by rw [y, hz] at e; cases e
            rw [upd_ne n, upd_ne n1, upd_ne n2]
            exact e
          · rw [upd_ne hrc]; exact upd_same
      · have hks : kdS d.kd ≠ "list" := by
          cases hh : d.kd with
          | list => exact absurd hh hk
          | num => decide +kernel
          | flag => decide +kernel
        refine ⟨_, rfl, rfl, _, rfl, ifDF (str_ne hks) ?_⟩
        refine ⟨_, rfl, _, rfl, dc, _, rfl, .inl ⟨kw, .inr d.name, ini.dict, rfl, szl (by omega), rfl⟩, ?_⟩
        rw [putK_new _ hno]
        exact ⟨_, _, _, _, as, rfl, fun b' o e => by rw [upd_ne (hdcn e)]; exact s2 _ _ e, ini.one hd hk (fun b' l n e => by rw [upd_ne n]; exact e) upd_same⟩
    · rintro σ H2 ⟨x6, x7, x8, kw, as, rfl, s2, ini⟩
      rw [hdl] at ini
      refine ⟨_, rfl, (by show 0 ≤ sizeLine; decide), fun ta hta => ?_⟩
      have u1 := same_new hta (.lst [])
      refine ⟨_, rfl, gv, _, rfl, .inl (SqL.of (u1 _ _ (s2 _ _ hgv1))), fun la hla => ⟨(by show 3 ≤ sizeLine; decide), fun sa hsa => ⟨(by show 0 ≤ sizeLine; decide), fun st hst => ⟨(by show 0 ≤ sizeLine; decide), fun bk hbk => ?_⟩⟩⟩⟩
      have u2 := same_new hla (.lst (il given))
      have u3 := same_new hsa (.tup [.ref dc, .ref ta, .ref la])
      have u4 := same_new hst (.lst [])
      have u5 := same_new hbk (.lst [])
      have eta : (upd H2 ta (.lst [])) ta = some (.lst []) := upd_same
      have ela : (upd (upd H2 ta (.lst [])) la (.lst (il given))) la = some (.lst (il given)) := upd_same
      have esa : (upd (upd (upd H2 ta (.lst [])) la (.lst (il given))) sa (.tup [.ref dc, .ref ta, .ref la])) sa = some (.tup [.ref dc, .ref ta, .ref la]) := upd_same
      have est : (upd (upd (upd (upd H2 ta (.lst [])) la (.lst (il given))) sa (.tup [.ref dc, .ref ta, .ref la])) st (.lst [])) st = some (.lst []) := upd_same
      have ebk : (upd (upd (upd (upd (upd H2 ta (.lst [])) la (.lst (il given))) sa (.tup [.ref dc, .ref ta, .ref la])) st (.lst [])) bk (.lst [])) bk = some (.lst []) := upd_same
      show (fun H7 => _) (upd (upd (upd (upd (upd H2 ta (.lst [])) la (.lst (il given))) sa (.tup [.ref dc, .ref ta, .ref la])) st (.lst [])) bk (.lst []))
      generalize upd H2 ta (.lst []) = H3 at eta ela esa est ebk u1 u2 u3 u4 u5 hla hsa hst hbk ⊢
      generalize upd H3 la (.lst (il given)) = H4 at ela esa est ebk u2 u3 u4 u5 hsa hst hbk ⊢
      generalize upd H4 sa (.tup [.ref dc, .ref ta, .ref la]) = H5 at esa est ebk u3 u4 u5 hst hbk ⊢
      generalize upd H5 st (.lst []) = H6 at est ebk u4 u5 hbk ⊢
      generalize upd H6 bk (.lst []) = H7 at ebk u5 ⊢
      have s7 : Same H1 H7 := ((((s2.trans u1).trans u2).trans u3).trans u4).trans u5
      have hdict := ini.dict
      have al7 : ∀ a ∈ as, ∃ l, H2 a = some (.lst l) := ini.kva.mem
      have d_ta : ta ≠ dc := ne_of_none hdict hta |>.symm
      have d_la : la ≠ dc := (ne_of_none (u1 _ _ hdict) hla).symm
      have d_st : st ≠ dc := (ne_of_none (u3 _ _ (u2 _ _ (u1 _ _ hdict))) hst).symm
      have d_bk : bk ≠ dc := (ne_of_none (u4 _ _ (u3 _ _ (u2 _ _ (u1 _ _ hdict)))) hbk).symm
      have ta_la : la ≠ ta := (ne_of_none eta hla).symm
      have ta_st : st ≠ ta := (ne_of_none (u3 _ _ (u2 _ _ eta)) hst).symm
      have ta_bk : bk ≠ ta := (ne_of_none (u4 _ _ (u3 _ _ (u2 _ _ eta))) hbk).symm
      have la_st : st ≠ la := (ne_of_none (u3 _ _ ela) hst).symm
      have la_bk : bk ≠ la := (ne_of_none (u4 _ _ (u3 _ _ ela)) hbk).symm
      have st_bk : bk ≠ st := (ne_of_none est hbk).symm
      have h1no : ∀ {q : Addr} {H' : Hp}, Same H1 H' → H' q = none → H1 q = none := fun s e => by
        cases z : H1 _ with
        | none => rfl
        | some u => rw [s _ _ z] at e; cases e
      have as_d : ∀ a ∈ as, a ≠ dc ∧ a ≠ ta ∧ a ≠ la ∧ a ≠ st ∧ a ≠ bk ∧ a ≠ sa := fun a ha => by
        obtain ⟨l, e⟩ := al7 a ha
        exact ⟨ini.ne ha, ne_of_none e hta, ne_of_none (u1 _ _ e) hla, ne_of_none (u3 _ _ (u2 _ _ (u1 _ _ e))) hst, ne_of_none (u4 _ _ (u3 _ _ (u2 _ _ (u1 _ _ e)))) hbk, ne_of_none (u2 _ _ (u1 _ _ e)) hsa⟩
      have s27 : Same H2 H7 := (((u1.trans u2).trans u3).trans u4).trans u5
      have hkv := ini.kva
      rw [List.take_length] at hkv
      have nd7 : (muL ⟨bk, dc, ta, la, st⟩ as).Nodup := by
        simp only [muL, List.nodup_cons, List.mem_cons, not_or]
        exact ⟨⟨d_bk, ta_bk, la_bk, st_bk, fun z => (as_d _ z).2.2.2.2.1 rfl⟩, ⟨d_ta.symm, d_la.symm, d_st.symm, fun z => (as_d _ z).1 rfl⟩, ⟨ta_la.symm, ta_st.symm, fun z => (as_d _ z).2.1 rfl⟩, ⟨la_st.symm, fun z => (as_d _ z).2.2.1 rfl⟩, fun z => (as_d _ z).2.2.2.1 rfl, ini.nd⟩
      have L7 : LAt ⟨bk, dc, ta, la, st⟩ [] as H7 (sta0 t given) :=
        ⟨ebk, ⟨kw, s27 _ _ hdict, hkv.mono fun a ha o e => s27 _ _ e⟩, u5 _ _ (u4 _ _ (u3 _ _ (u2 _ _ eta))), u5 _ _ (u4 _ _ (u3 _ _ ela)), ⟨[], u5 _ _ est, rfl⟩, nd7, fun a ha => let ⟨l, e⟩ := al7 a ha; ⟨l, s27 _ _ e⟩⟩
      have muN : ∀ m ∈ muL ⟨bk, dc, ta, la, st⟩ as, H1 m = none := fun m hm => by
        simp only [muL, List.mem_cons] at hm
        rcases hm with rfl | rfl | rfl | rfl | rfl | hm
        · exact h1no ((((s2.trans u1).trans u2).trans u3).trans u4) hbk
        · exact hdc
        · exact h1no s2 hta
        · exact h1no (s2.trans u1) hla
        · exact h1no (((s2.trans u1).trans u2).trans u3) hst
        · exact ini.new m hm
      have sa_n : ¬ sa ∈ muL ⟨bk, dc, ta, la, st⟩ as := fun hm => by
        simp only [muL, List.mem_cons] at hm
        rcases hm with z | z | z | z | z | hm
        · exact (ne_of_none (u4 _ _ esa) hbk) z
        · exact (ne_of_none (u2 _ _ (u1 _ _ hdict)) hsa) z.symm
        · exact (ne_of_none (u2 _ _ eta) hsa) z.symm
        · exact (ne_of_none ela hsa) z.symm
        · exact (ne_of_none esa hst) z
        · exact (as_d _ hm).2.2.2.2.2 rfl
      obtain ⟨d, hdd⟩ : ∃ d : Ld, d = ⟨bk, dc, ta, la, st⟩ := ⟨_, rfl⟩
      have hS : ∀ m ∈ muL d as, Wo (muL d as) H7 m = none := fun m hm => wo_in hm
      have sS1 : Same H1 (Wo (muL d as) H7) := fun x o e => wo_at (s7 _ _ e) fun z => by rw [hdd] at z; rw [muN _ z] at e; cases e
      have hsaS : Wo (muL d as) H7 sa = some (.tup [.ref d.c, .ref d.t, .ref d.l]) := by rw [hdd]; exact wo_at (u5 _ _ (u4 _ _ esa)) sa_n
      have L8 : LAt d [] as H7 (sta0 t given) := by rw [hdd]; exact L7
      have sok : SOk (envOf t.D) (sta0 t given) := ⟨init_ok ok.sz, ok.env, hg16, Nat.le_refl _⟩
      have hB : BegOk code (bgOf kvs) (tabT t) := fun x q e => by
        obtain ⟨p, h1, h2⟩ := hbeg x q e
        exact ⟨p, bgOf_some h1, h2⟩
      obtain ⟨m0, hm0⟩ := halts_of hB hrun hat
      obtain ⟨eF, hEF⟩ : ∃ x, x = fin e := ⟨_, rfl⟩
      rw [← hEF] at q hm0
      have sS7 : Same (Wo (muL d as) H7) H7 := wo_sub
      have eslot : dc = d.c ∧ ta = d.t ∧ la = d.l ∧ st = d.st ∧ bk = d.g := by rw [hdd]; exact ⟨rfl, rfl, rfl, rfl, rfl⟩
      obtain ⟨E1, E2, E3, E4, E5⟩ := eslot
      obtain ⟨S, hSS⟩ : ∃ S, S = Wo (muL d as) H7 := ⟨_, rfl⟩
      rw [← hSS] at hS sS1 hsaS sS7
      refine ⟨_, rfl, b, _, rfl, .inl ⟨kvs, .inr "", .inl (s7 _ _ hb), rfl, hp0.symm⟩, ?_⟩
      refine ⟨fun m σ H' => DueW code kvs most eF sF (.ref tp) gv c b sa d as (envOf t.D) S m σ H', ⟨m0, p0, [], sta0 t given, x6, x7, x8, none, none, none, none, none, hm0, by rw [E1, E4, E5]; rfl, L8, sS7, sok, Nat.zero_le _, Nat.le_refl _, hgl⟩, ?_⟩
      have hcS := sS1 _ _ hc
      have hbS := sS1 _ _ hb
      have cdS := hcd.mono sS1
      have sHS := s1.trans sS1
      have Dl : (envOf t.D).length ≤ 40 := by rw [envOf, List.length_map]; exact ok.len
      clear hSS E1 E2 E3 E4 E5 hdd sok L8 hm0 muN sa_n L7 nd7 hkv s27 as_d h1no eta ela esa est ebk u1 u2 u3 u4 u5 hta hla hsa hst hbk al7 hdict ini s2 d_ta d_la d_st d_bk ta_la ta_st ta_bk la_st la_bk st_bk s7
      rintro m σ H' ⟨p, bs, s, x6, x7, x8, x13, x14, x15, x16, x17, hh, rfl, L, sS, sok, hsm, hbs, hlf⟩
      have ret : ∀ (H8 H9 : Hp) (s2 : Sta) (bs2 : List Nat) (cp rt : Addr) (x : End), LAt d bs2 as H8 s2 → Same S H8 → Same H8 H9 → CsV (Nw H8 H9) cp s2.cs → H9 rt = none → s2 = sF → x = eF → Q (.ref rt) (upd H9 rt (.tup [.ref d.t, .str (endS x), .ref cp, .ref d.st])) := fun H8 H9 s2 bs2 cp rt x L2 z1 z2 hcp hrt e1 e2 => by
        subst e1; subst e2
        have z3 := same_new hrt (.tup [.ref d.t, .str (endS x), .ref cp, .ref d.st])
        have L3 := L2.same z2
        obtain ⟨vs, hv1, hv2⟩ := L3.stp
        exact q _ _ (sHS.trans (z1.trans (z2.trans z3))) ⟨d.t, cp, d.st, vs, ⟨rt, rfl, upd_same⟩, z3 _ _ L3.told, (hcp.mono (fun b o e => (of_nw e).2)).mono z3, z3 _ _ hv1, (hv2.mono wo_sub).mono z3⟩
      have csl : ∀ {s2 : Sta}, SOk (envOf t.D) s2 → (s2.cs.map (·.1)).Nodup ∧ s2.cs.length ≤ 1000 := fun k => ⟨by rw [cs_keys k.cs]; exact k.nd, by rw [cs_len k.cs]; omega⟩
      refine ⟨_, rfl, ?_⟩
      refine iteT ?_
      obtain ⟨vst, hst1, hst2⟩ := L.stp
      have hstl := hst2.len
      cases hh with
      | @fin p bs s hin =>
        refine ⟨fun _ _ => False, fun _ _ h => h.elim, ?_⟩
        obtain ⟨wv, hw1, wp, rfl, hwp⟩ := cdS.at_ hin
        refine ⟨_, rfl, _, rfl, c, _, _, _, rfl, rfl, SqL.of (sS _ _ hcS), atI_nat hw1, wp, _, rfl, SqL.of (sS _ _ hwp), rfl, _, _, rfl, _, _, rfl, _, _, rfl, _, _, rfl, rfl, ?_⟩
        refine ⟨_, rfl, _, _, rfl, rfl, ?_⟩
        refine ⟨_, rfl, rfl, _, rfl, ifDT rfl ?_⟩
        refine ⟨_, rfl, sa, _, _, _, rfl, rfl, SqT.of (sS _ _ hsaS), rfl, _, rfl, d.c, _, rfl, (L).csv, (csl sok).1, (csl sok).2, fun cp9 H9 s9 ncp9 hcp9 => ⟨_, rfl, (by show 4 ≤ sizeLine; decide), fun rt hrt => ?_⟩⟩
        exact ret _ _ _ _ _ _ .ended (L) (sS) s9 hcp9 hrt rfl rfl
      | @back m p bb bs s e s' hin hk =>
        refine ⟨fun σ H => DueW code kvs most eF sF (.ref tp) gv c b sa d as (envOf t.D) S m σ H, fun σ' H' h => ⟨m, Nat.lt_succ_self _, h⟩, ?_⟩
        obtain ⟨wv, hw1, wp, rfl, hwp⟩ := cdS.at_ hin
        refine ⟨_, rfl, _, rfl, c, _, _, _, rfl, rfl, SqL.of (sS _ _ hcS), atI_nat hw1, wp, _, rfl, SqL.of (sS _ _ hwp), rfl, _, _, rfl, _, _, rfl, _, _, rfl, _, _, rfl, rfl, ?_⟩
        refine ⟨_, rfl, _, _, rfl, rfl, ?_⟩
        refine ⟨_, rfl, rfl, _, rfl, ifDF (str_ne (by decide +kernel)) ?_⟩
        refine ⟨_, rfl, rfl, _, rfl, ifDF (str_ne (by decide +kernel)) ?_⟩
        refine ⟨_, rfl, rfl, _, rfl, ifDT rfl ?_⟩
        refine ⟨_, rfl, .inl ⟨rfl, _, SqL.of L.ob⟩, d.g, _, .int (bb : Int), rfl, rfl, L.ob, by simp [bl], ?_⟩
        have eb : (bl (bb :: bs)).dropLast = bl bs := by simp [bl]
        rw [eb]
        exact ⟨⟨bb, bs, s, _, _, _, _, _, _, _, _, hk, rfl, L.backs, (fun x o e => by rw [upd_ne (fun z => by rw [z, hS _ n_g] at e; cases e)]; exact sS _ _ e), sok, hsm, by rw [List.length_cons] at hbs; omega, hlf⟩⟩
      | @jump m p tt bs s e s' hin hk =>
        refine ⟨fun σ H => DueW code kvs most eF sF (.ref tp) gv c b sa d as (envOf t.D) S m σ H, fun σ' H' h => ⟨m, Nat.lt_succ_self _, h⟩, ?_⟩
        obtain ⟨wv, hw1, wp, rfl, hwp⟩ := cdS.at_ hin
        refine ⟨_, rfl, _, rfl, c, _, _, _, rfl, rfl, SqL.of (sS _ _ hcS), atI_nat hw1, wp, _, rfl, SqL.of (sS _ _ hwp), rfl, _, _, rfl, _, _, rfl, _, _, rfl, _, _, rfl, rfl, ?_⟩
        refine ⟨_, rfl, _, _, rfl, rfl, ?_⟩
        refine ⟨_, rfl, rfl, _, rfl, ifDF (str_ne (by decide +kernel)) ?_⟩
        refine ⟨_, rfl, rfl, _, rfl, ifDT rfl ?_⟩
        refine ⟨_, rfl, ?_⟩
        exact ⟨⟨tt, bs, s, _, _, _, _, _, _, _, _, hk, rfl, L, sS, sok, hsm, hbs, hlf⟩⟩
      | @lookFull p n cn tt bs s hin hfull =>
        refine ⟨fun _ _ => False, fun _ _ h => h.elim, ?_⟩
        obtain ⟨wv, hw1, u, ⟨wp, rfl, hwp⟩, hu⟩ := cdS.at_ hin
        refine ⟨_, rfl, _, rfl, c, _, _, _, rfl, rfl, SqL.of (sS _ _ hcS), atI_nat hw1, wp, _, rfl, SqL.of (sS _ _ hwp), rfl, _, _, rfl, _, _, rfl, _, _, rfl, _, _, rfl, rfl, ?_⟩
        refine ⟨_, rfl, _, _, rfl, rfl, ?_⟩
        refine ⟨_, rfl, rfl, _, rfl, ifDF (str_ne (by decide +kernel)) ?_⟩
        refine ⟨_, rfl, rfl, _, rfl, ifDF (str_ne (by decide +kernel)) ?_⟩
        refine ⟨_, rfl, rfl, _, rfl, ifDF (str_ne (by decide +kernel)) ?_⟩
        refine ⟨_, rfl, d.st, _, rfl, .inl (SqL.of hst1), _, rfl, rfl, _, rfl, ifDT (by rw [hstl, hfull]) ?_⟩
        refine ⟨_, rfl, sa, _, _, _, rfl, rfl, SqT.of (sS _ _ hsaS), rfl, _, rfl, d.c, _, rfl, (L).csv, (csl sok).1, (csl sok).2, fun cp9 H9 s9 ncp9 hcp9 => ⟨_, rfl, (by show 4 ≤ sizeLine; decide), fun rt hrt => ?_⟩⟩
        exact ret _ _ _ _ _ _ .going (L) (sS) s9 hcp9 hrt rfl rfl
      | @lookFault p n cn tt bs s hin hne hwo =>
        refine ⟨fun _ _ => False, fun _ _ h => h.elim, ?_⟩
        obtain ⟨wv, hw1, u, ⟨wp, rfl, hwp⟩, hu⟩ := cdS.at_ hin
        refine ⟨_, rfl, _, rfl, c, _, _, _, rfl, rfl, SqL.of (sS _ _ hcS), atI_nat hw1, wp, _, rfl, SqL.of (sS _ _ hwp), rfl, _, _, rfl, _, _, rfl, _, _, rfl, _, _, rfl, rfl, ?_⟩
        refine ⟨_, rfl, _, _, rfl, rfl, ?_⟩
        refine ⟨_, rfl, rfl, _, rfl, ifDF (str_ne (by decide +kernel)) ?_⟩
        refine ⟨_, rfl, rfl, _, rfl, ifDF (str_ne (by decide +kernel)) ?_⟩
        refine ⟨_, rfl, rfl, _, rfl, ifDF (str_ne (by decide +kernel)) ?_⟩
        refine ⟨_, rfl, d.st, _, rfl, .inl (SqL.of hst1), _, rfl, rfl, _, rfl, ifDF (by rw [hstl]; exact int_ne (by omega)) ?_⟩
        refine ⟨_, rfl, .inl ⟨rfl, _, SqL.of hst1⟩, _, rfl, _, rfl, d.c, s.cs, rfl, L.csv, (csl sok).1, (csl sok).2, fun cp H1c s1c ncp hcp => ?_⟩
        have L1 := L.same s1c
        refine ⟨_, rfl, sa, _, _, _, rfl, rfl, SqT.of (s1c _ _ (sS _ _ hsaS)), rfl, d.t, _, rfl, .inl (SqL.of L1.told), fun lc hlc => ⟨(by show 3 ≤ sizeLine; decide), fun rc hrc => ?_⟩⟩
        have s2c := same_new hlc (.lst (il s.told))
        have s3c := same_new hrc (.tup [.int (n : Int), .ref cp, .ref lc])
        refine ⟨d.st, vst, _, rfl, rfl, s3c _ _ (s2c _ _ (s1c _ _ hst1)), szl (by rw [hstl]; omega), ?_⟩
        have Lm := L.mark (n := n) (p := cp) (q := lc) (r := rc) (s1c.trans (s2c.trans s3c)) hst1 ncp (s1c.free hlc) (s1c.free (s2c.free hrc)) ((hcp.mono (nw_wo L.al)).mono (Same.wo (s2c.trans s3c))) (s3c _ _ upd_same) upd_same
        have bm : But (muL d as) H' (upd (upd (upd H1c lc (.lst (il s.told))) rc (.tup [.int (n : Int), .ref cp, .ref lc])) d.st (.lst (vst ++ [.ref rc]))) := (But.of_same (s1c.trans (s2c.trans s3c))).put n_st _
        show (fun Hm => _) (upd (upd (upd H1c lc (.lst (il s.told))) rc (.tup [.int (n : Int), .ref cp, .ref lc])) d.st (.lst (vst ++ [.ref rc])))
        generalize (upd (upd (upd H1c lc (.lst (il s.told))) rc (.tup [.int (n : Int), .ref cp, .ref lc])) d.st (.lst (vst ++ [.ref rc]))) = Hm at Lm bm ⊢
        have sSm : Same S Hm := fun x o e => bm x o (fun z => by rw [hS _ z] at e; cases e) (sS _ _ e)
        have sokm := sok.mark (n := n)
        have lenm : (mark n s).steps.length = s.steps.length + 1 := mark_len
        refine ⟨_, rfl, rfl, _, rfl, ifDT rfl ?_⟩
        have hokl : WT (envOf t.D) true cn ∧ hgt cn ≤ 6 := hok _ (List.mem_of_getElem? hin)
        refine ⟨_, rfl, _, rfl, d.c, u, (mark n s).cs, cn, envOf t.D, true, rfl, Lm.csv, hu.mono sSm, sokm.cs, hokl.1, hokl.2, fun r H5 s5 nr hr5 => ?_⟩
        refine ⟨_, rfl, (by show 0 ≤ sizeLine; decide), fun l5 hl5 => ?_⟩
        have s6 := same_new hl5 (.lst [])
        have hr6 := s6 _ _ hr5
        have e6 : (upd H5 l5 (.lst [])) l5 = some (.lst []) := upd_same
        show (fun H6 => _) (upd H5 l5 (.lst []))
        generalize upd H5 l5 (.lst []) = H6 at s6 hr6 e6 ⊢
        have Lm6 := (Lm.same s5).same s6
        have sSm6 := (sSm.trans s5).trans s6
        refine ⟨.list (dI (oL (worth s.cs cn))), .list [], .lst (SqL.of hr6) (dp_il _), .lst (SqL.of e6) .nil, shaped_il _, by decide +kernel, ?_⟩
        rw [show PyData.eqv (.list (dI (oL (worth s.cs cn)))) (.list []) = decide (oL (worth s.cs cn) = []) from eqv_l _ []]
        refine ⟨_, rfl, ?_⟩
        have hr7 : H6 r = some (.lst (il (oL (worth s.cs cn)))) := hr6
        rw [hwo] at hr7 ⊢
        refine ifDT rfl ?_
        refine ⟨_, rfl, sa, _, _, _, rfl, rfl, SqT.of (sSm6 _ _ hsaS), rfl, _, rfl, d.c, _, rfl, (Lm6).csv, (csl sokm).1, (csl sokm).2, fun cp9 H9 s9 ncp9 hcp9 => ⟨_, rfl, (by show 4 ≤ sizeLine; decide), fun rt hrt => ?_⟩⟩
        exact ret _ _ _ _ _ _ .fault (Lm6) (sSm6) s9 hcp9 hrt rfl rfl
      | @lookYes m p n cn tt bs s e s' hin hne hwo hk =>
        refine ⟨fun σ H => DueW code kvs most eF sF (.ref tp) gv c b sa d as (envOf t.D) S m σ H, fun σ' H' h => ⟨m, Nat.lt_succ_self _, h⟩, ?_⟩
        obtain ⟨wv, hw1, u, ⟨wp, rfl, hwp⟩, hu⟩ := cdS.at_ hin
        refine ⟨_, rfl, _, rfl, c, _, _, _, rfl, rfl, SqL.of (sS _ _ hcS), atI_nat hw1, wp, _, rfl, SqL.of (sS _ _ hwp), rfl, _, _, rfl, _, _, rfl, _, _, rfl, _, _, rfl, rfl, ?_⟩
        refine ⟨_, rfl, _, _, rfl, rfl, ?_⟩
        refine ⟨_, rfl, rfl, _, rfl, ifDF (str_ne (by decide +kernel)) ?_⟩
        refine ⟨_, rfl, rfl, _, rfl, ifDF (str_ne (by decide +kernel)) ?_⟩
        refine ⟨_, rfl, rfl, _, rfl, ifDF (str_ne (by decide +kernel)) ?_⟩
        refine ⟨_, rfl, d.st, _, rfl, .inl (SqL.of hst1), _, rfl, rfl, _, rfl, ifDF (by rw [hstl]; exact int_ne (by omega)) ?_⟩
        refine ⟨_, rfl, .inl ⟨rfl, _, SqL.of hst1⟩, _, rfl, _, rfl, d.c, s.cs, rfl, L.csv, (csl sok).1, (csl sok).2, fun cp H1c s1c ncp hcp => ?_⟩
        have L1 := L.same s1c
        refine ⟨_, rfl, sa, _, _, _, rfl, rfl, SqT.of (s1c _ _ (sS _ _ hsaS)), rfl, d.t, _, rfl, .inl (SqL.of L1.told), fun lc hlc => ⟨(by show 3 ≤ sizeLine; decide), fun rc hrc => ?_⟩⟩
        have s2c := same_new hlc (.lst (il s.told))
        have s3c := same_new hrc (.tup [.int (n : Int), .ref cp, .ref lc])
        refine ⟨d.st, vst, _, rfl, rfl, s3c _ _ (s2c _ _ (s1c _ _ hst1)), szl (by rw [hstl]; omega), ?_⟩
        have Lm := L.mark (n := n) (p := cp) (q := lc) (r := rc) (s1c.trans (s2c.trans s3c)) hst1 ncp (s1c.free hlc) (s1c.free (s2c.free hrc)) ((hcp.mono (nw_wo L.al)).mono (Same.wo (s2c.trans s3c))) (s3c _ _ upd_same) upd_same
        have bm : But (muL d as) H' (upd (upd (upd H1c lc (.lst (il s.told))) rc (.tup [.int (n : Int), .ref cp, .ref lc])) d.st (.lst (vst ++ [.ref rc]))) := (But.of_same (s1c.trans (s2c.trans s3c))).put n_st _
        show (fun Hm => _) (upd (upd (upd H1c lc (.lst (il s.told))) rc (.tup [.int (n : Int), .ref cp, .ref lc])) d.st (.lst (vst ++ [.ref rc])))
        generalize (upd (upd (upd H1c lc (.lst (il s.told))) rc (.tup [.int (n : Int), .ref cp, .ref lc])) d.st (.lst (vst ++ [.ref rc]))) = Hm at Lm bm ⊢
        have sSm : Same S Hm := fun x o e => bm x o (fun z => by rw [hS _ z] at e; cases e) (sS _ _ e)
        have sokm := sok.mark (n := n)
        have lenm : (mark n s).steps.length = s.steps.length + 1 := mark_len
        refine ⟨_, rfl, rfl, _, rfl, ifDT rfl ?_⟩
        have hokl : WT (envOf t.D) true cn ∧ hgt cn ≤ 6 := hok _ (List.mem_of_getElem? hin)
        refine ⟨_, rfl, _, rfl, d.c, u, (mark n s).cs, cn, envOf t.D, true, rfl, Lm.csv, hu.mono sSm, sokm.cs, hokl.1, hokl.2, fun r H5 s5 nr hr5 => ?_⟩
        refine ⟨_, rfl, (by show 0 ≤ sizeLine; decide), fun l5 hl5 => ?_⟩
        have s6 := same_new hl5 (.lst [])
        have hr6 := s6 _ _ hr5
        have e6 : (upd H5 l5 (.lst [])) l5 = some (.lst []) := upd_same
        show (fun H6 => _) (upd H5 l5 (.lst []))
        generalize upd H5 l5 (.lst []) = H6 at s6 hr6 e6 ⊢
        have Lm6 := (Lm.same s5).same s6
        have sSm6 := (sSm.trans s5).trans s6
        refine ⟨.list (dI (oL (worth s.cs cn))), .list [], .lst (SqL.of hr6) (dp_il _), .lst (SqL.of e6) .nil, shaped_il _, by decide +kernel, ?_⟩
        rw [show PyData.eqv (.list (dI (oL (worth s.cs cn)))) (.list []) = decide (oL (worth s.cs cn) = []) from eqv_l _ []]
        refine ⟨_, rfl, ?_⟩
        have hr7 : H6 r = some (.lst (il (oL (worth s.cs cn)))) := hr6
        rw [hwo] at hr7 ⊢
        refine ifDF (fun z => nomatch z) ?_
        refine ⟨_, rfl, _, rfl, (by show 2 ≤ sizeLine; decide), fun l7 hl7 => ?_⟩
        have s7 := same_new hl7 (.lst [.int (tt : Int), .int ((p : Int) + 1)])
        refine ⟨_, rfl, r, _, _, _, rfl, rfl, SqL.of (s7 _ _ hr7), rfl, l7, _, _, _, rfl, rfl, SqL.of upd_same, rfl, ?_⟩
        exact ⟨⟨p + 1, bs, mark n s, _, _, _, _, _, _, _, _, hk, rfl, Lm6.same s7, sSm6.trans s7, sokm, by omega, by omega, hlf⟩⟩
      | @lookNo m p n cn tt bs s v e s' hin hne hwo hv1 hk =>
        refine ⟨fun σ H => DueW code kvs most eF sF (.ref tp) gv c b sa d as (envOf t.D) S m σ H, fun σ' H' h => ⟨m, Nat.lt_succ_self _, h⟩, ?_⟩
        obtain ⟨wv, hw1, u, ⟨wp, rfl, hwp⟩, hu⟩ := cdS.at_ hin
        refine ⟨_, rfl, _, rfl, c, _, _, _, rfl, rfl, SqL.of (sS _ _ hcS), atI_nat hw1, wp, _, rfl, SqL.of (sS _ _ hwp), rfl, _, _, rfl, _, _, rfl, _, _, rfl, _, _, rfl, rfl, ?_⟩
        refine ⟨_, rfl, _, _, rfl, rfl, ?_⟩
        refine ⟨_, rfl, rfl, _, rfl, ifDF (str_ne (by decide +kernel)) ?_⟩
        refine ⟨_, rfl, rfl, _, rfl, ifDF (str_ne (by decide +kernel)) ?_⟩
        refine ⟨_, rfl, rfl, _, rfl, ifDF (str_ne (by decide +kernel)) ?_⟩
        refine ⟨_, rfl, d.st, _, rfl, .inl (SqL.of hst1), _, rfl, rfl, _, rfl, ifDF (by rw [hstl]; exact int_ne (by omega)) ?_⟩
        refine ⟨_, rfl, .inl ⟨rfl, _, SqL.of hst1⟩, _, rfl, _, rfl, d.c, s.cs, rfl, L.csv, (csl sok).1, (csl sok).2, fun cp H1c s1c ncp hcp => ?_⟩
        have L1 := L.same s1c
        refine ⟨_, rfl, sa, _, _, _, rfl, rfl, SqT.of (s1c _ _ (sS _ _ hsaS)), rfl, d.t, _, rfl, .inl (SqL.of L1.told), fun lc hlc => ⟨(by show 3 ≤ sizeLine; decide), fun rc hrc => ?_⟩⟩
        have s2c := same_new hlc (.lst (il s.told))
        have s3c := same_new hrc (.tup [.int (n : Int), .ref cp, .ref lc])
        refine ⟨d.st, vst, _, rfl, rfl, s3c _ _ (s2c _ _ (s1c _ _ hst1)), szl (by rw [hstl]; omega), ?_⟩
        have Lm := L.mark (n := n) (p := cp) (q := lc) (r := rc) (s1c.trans (s2c.trans s3c)) hst1 ncp (s1c.free hlc) (s1c.free (s2c.free hrc)) ((hcp.mono (nw_wo L.al)).mono (Same.wo (s2c.trans s3c))) (s3c _ _ upd_same) upd_same
        have bm : But (muL d as) H' (upd (upd (upd H1c lc (.lst (il s.told))) rc (.tup [.int (n : Int), .ref cp, .ref lc])) d.st (.lst (vst ++ [.ref rc]))) := (But.of_same (s1c.trans (s2c.trans s3c))).put n_st _
        show (fun Hm => _) (upd (upd (upd H1c lc (.lst (il s.told))) rc (.tup [.int (n : Int), .ref cp, .ref lc])) d.st (.lst (vst ++ [.ref rc])))
        generalize (upd (upd (upd H1c lc (.lst (il s.told))) rc (.tup [.int (n : Int), .ref cp, .ref lc])) d.st (.lst (vst ++ [.ref rc]))) = Hm at Lm bm ⊢
        have sSm : Same S Hm := fun x o e => bm x o (fun z => by rw [hS _ z] at e; cases e) (sS _ _ e)
        have sokm := sok.mark (n := n)
        have lenm : (mark n s).steps.length = s.steps.length + 1 := mark_len
        refine ⟨_, rfl, rfl, _, rfl, ifDT rfl ?_⟩
        have hokl : WT (envOf t.D) true cn ∧ hgt cn ≤ 6 := hok _ (List.mem_of_getElem? hin)
        refine ⟨_, rfl, _, rfl, d.c, u, (mark n s).cs, cn, envOf t.D, true, rfl, Lm.csv, hu.mono sSm, sokm.cs, hokl.1, hokl.2, fun r H5 s5 nr hr5 => ?_⟩
        refine ⟨_, rfl, (by show 0 ≤ sizeLine; decide), fun l5 hl5 => ?_⟩
        have s6 := same_new hl5 (.lst [])
        have hr6 := s6 _ _ hr5
        have e6 : (upd H5 l5 (.lst [])) l5 = some (.lst []) := upd_same
        show (fun H6 => _) (upd H5 l5 (.lst []))
        generalize upd H5 l5 (.lst []) = H6 at s6 hr6 e6 ⊢
        have Lm6 := (Lm.same s5).same s6
        have sSm6 := (sSm.trans s5).trans s6
        refine ⟨.list (dI (oL (worth s.cs cn))), .list [], .lst (SqL.of hr6) (dp_il _), .lst (SqL.of e6) .nil, shaped_il _, by decide +kernel, ?_⟩
        rw [show PyData.eqv (.list (dI (oL (worth s.cs cn)))) (.list []) = decide (oL (worth s.cs cn) = []) from eqv_l _ []]
        refine ⟨_, rfl, ?_⟩
        have hr7 : H6 r = some (.lst (il (oL (worth s.cs cn)))) := hr6
        rw [hwo] at hr7 ⊢
        have v0 : v = 0 := ((worth_ok sok.cs hokl.1 hwo).2 rfl).resolve_right hv1
        subst v0
        refine ifDF (fun z => nomatch z) ?_
        refine ⟨_, rfl, _, rfl, (by show 2 ≤ sizeLine; decide), fun l7 hl7 => ?_⟩
        have s7 := same_new hl7 (.lst [.int (tt : Int), .int ((p : Int) + 1)])
        refine ⟨_, rfl, r, _, _, _, rfl, rfl, SqL.of (s7 _ _ hr7), rfl, l7, _, _, _, rfl, rfl, SqL.of upd_same, rfl, ?_⟩
        exact ⟨⟨tt, bs, mark n s, _, _, _, _, _, _, _, _, hk, rfl, Lm6.same s7, sSm6.trans s7, sokm, by omega, by omega, hlf⟩⟩
      | @plainFull p n pl bs s hin hfull =>
        refine ⟨fun _ _ => False, fun _ _ h => h.elim, ?_⟩
        obtain ⟨wv, hw1, u, ⟨wp, rfl, hwp⟩, hu⟩ := cdS.at_ hin
        refine ⟨_, rfl, _, rfl, c, _, _, _, rfl, rfl, SqL.of (sS _ _ hcS), atI_nat hw1, wp, _, rfl, SqL.of (sS _ _ hwp), rfl, _, _, rfl, _, _, rfl, _, _, rfl, _, _, rfl, rfl, ?_⟩
        refine ⟨_, rfl, _, _, rfl, rfl, ?_⟩
        refine ⟨_, rfl, rfl, _, rfl, ifDF (str_ne (by decide +kernel)) ?_⟩
        refine ⟨_, rfl, rfl, _, rfl, ifDF (str_ne (by decide +kernel)) ?_⟩
        refine ⟨_, rfl, rfl, _, rfl, ifDF (str_ne (by decide +kernel)) ?_⟩
        refine ⟨_, rfl, d.st, _, rfl, .inl (SqL.of hst1), _, rfl, rfl, _, rfl, ifDT (by rw [hstl, hfull]) ?_⟩
        refine ⟨_, rfl, sa, _, _, _, rfl, rfl, SqT.of (sS _ _ hsaS), rfl, _, rfl, d.c, _, rfl, (L).csv, (csl sok).1, (csl sok).2, fun cp9 H9 s9 ncp9 hcp9 => ⟨_, rfl, (by show 4 ≤ sizeLine; decide), fun rt hrt => ?_⟩⟩
        exact ret _ _ _ _ _ _ .going (L) (sS) s9 hcp9 hrt rfl rfl
      | @plainEnd p n pl bs s e s' hin hne hact hgo =>
        refine ⟨fun _ _ => False, fun _ _ h => h.elim, ?_⟩
        obtain ⟨wv, hw1, u, ⟨wp, rfl, hwp⟩, hu⟩ := cdS.at_ hin
        refine ⟨_, rfl, _, rfl, c, _, _, _, rfl, rfl, SqL.of (sS _ _ hcS), atI_nat hw1, wp, _, rfl, SqL.of (sS _ _ hwp), rfl, _, _, rfl, _, _, rfl, _, _, rfl, _, _, rfl, rfl, ?_⟩
        refine ⟨_, rfl, _, _, rfl, rfl, ?_⟩
        refine ⟨_, rfl, rfl, _, rfl, ifDF (str_ne (by decide +kernel)) ?_⟩
        refine ⟨_, rfl, rfl, _, rfl, ifDF (str_ne (by decide +kernel)) ?_⟩
        refine ⟨_, rfl, rfl, _, rfl, ifDF (str_ne (by decide +kernel)) ?_⟩
        refine ⟨_, rfl, d.st, _, rfl, .inl (SqL.of hst1), _, rfl, rfl, _, rfl, ifDF (by rw [hstl]; exact int_ne (by omega)) ?_⟩
        refine ⟨_, rfl, .inl ⟨rfl, _, SqL.of hst1⟩, _, rfl, _, rfl, d.c, s.cs, rfl, L.csv, (csl sok).1, (csl sok).2, fun cp H1c s1c ncp hcp => ?_⟩
        have L1 := L.same s1c
        refine ⟨_, rfl, sa, _, _, _, rfl, rfl, SqT.of (s1c _ _ (sS _ _ hsaS)), rfl, d.t, _, rfl, .inl (SqL.of L1.told), fun lc hlc => ⟨(by show 3 ≤ sizeLine; decide), fun rc hrc => ?_⟩⟩
        have s2c := same_new hlc (.lst (il s.told))
        have s3c := same_new hrc (.tup [.int (n : Int), .ref cp, .ref lc])
        refine ⟨d.st, vst, _, rfl, rfl, s3c _ _ (s2c _ _ (s1c _ _ hst1)), szl (by rw [hstl]; omega), ?_⟩
        have Lm := L.mark (n := n) (p := cp) (q := lc) (r := rc) (s1c.trans (s2c.trans s3c)) hst1 ncp (s1c.free hlc) (s1c.free (s2c.free hrc)) ((hcp.mono (nw_wo L.al)).mono (Same.wo (s2c.trans s3c))) (s3c _ _ upd_same) upd_same
        have bm : But (muL d as) H' (upd (upd (upd H1c lc (.lst (il s.told))) rc (.tup [.int (n : Int), .ref cp, .ref lc])) d.st (.lst (vst ++ [.ref rc]))) := (But.of_same (s1c.trans (s2c.trans s3c))).put n_st _
        show (fun Hm => _) (upd (upd (upd H1c lc (.lst (il s.told))) rc (.tup [.int (n : Int), .ref cp, .ref lc])) d.st (.lst (vst ++ [.ref rc])))
        generalize (upd (upd (upd H1c lc (.lst (il s.told))) rc (.tup [.int (n : Int), .ref cp, .ref lc])) d.st (.lst (vst ++ [.ref rc]))) = Hm at Lm bm ⊢
        have sSm : Same S Hm := fun x o e => bm x o (fun z => by rw [hS _ z] at e; cases e) (sS _ _ e)
        have sokm := sok.mark (n := n)
        have lenm : (mark n s).steps.length = s.steps.length + 1 := mark_len
        refine ⟨_, rfl, rfl, _, rfl, ifDF (str_ne (by decide +kernel)) ?_⟩
        have hokp : PlOk (envOf t.D) pl := hok _ (List.mem_of_getElem? hin)
        obtain ⟨q', tag, us, rfl, hq', t1, t2, t3, t4⟩ := plv_tag2 hu
        refine ⟨_, rfl, q', _, _, _, rfl, rfl, SqT.of (sSm _ _ hq'), at0, rfl, _, rfl, ifDF (str_ne t3) ?_⟩
        by_cases hq : pl = .stop
        · subst hq
          cases hact
          refine ⟨_, rfl, q', _, _, _, rfl, rfl, SqT.of (sSm _ _ hq'), at0, rfl, _, rfl, ifDT (by rw [t4.mpr rfl]) ?_⟩
          refine ⟨_, rfl, sa, _, _, _, rfl, rfl, SqT.of (sSm _ _ hsaS), rfl, _, rfl, d.c, _, rfl, (Lm).csv, (csl sokm).1, (csl sokm).2, fun cp9 H9 s9 ncp9 hcp9 => ⟨_, rfl, (by show 4 ≤ sizeLine; decide), fun rt hrt => ?_⟩⟩
          exact ret _ _ _ _ _ _ .ended (Lm) (sSm) s9 hcp9 hrt rfl rfl
        · refine ⟨_, rfl, q', _, _, _, rfl, rfl, SqT.of (sSm _ _ hq'), at0, rfl, _, rfl, ifDF (str_ne (fun z => hq (t4.mp z))) ?_⟩
          refine ⟨_, rfl, _, rfl, sa, d, bs, as, mark n s, envOf t.D, pl, _, S, rfl, sSm, hS, hsaS, Lm, ⟨sokm.cs, sokm.nd, by have := sokm.told; omega, by omega⟩, hlf, hu, hokp, hq, fun bb H5 b5 L5 e5 => ⟨_, rfl, ?_⟩⟩
          rw [hact] at L5 e5
          have hbb : bb = false := by
            cases bb with
            | false => rfl
            | true => exact absurd e5 hgo
          subst hbb
          refine iteP rfl ?_
          have sS5 : Same S H5 := fun x o e => b5 x o (fun z => by rw [hS _ z] at e; cases e) (sSm _ _ e)
          have sok5 := act_ok hokp sok hact
          refine ⟨_, rfl, sa, _, _, _, rfl, rfl, SqT.of (sS5 _ _ hsaS), rfl, _, rfl, d.c, _, rfl, (L5).csv, (csl sok5).1, (csl sok5).2, fun cp9 H9 s9 ncp9 hcp9 => ⟨_, rfl, (by show 4 ≤ sizeLine; decide), fun rt hrt => ?_⟩⟩
          exact ret _ _ _ _ _ _ .fault (L5) (sS5) s9 hcp9 hrt rfl e5.symm
      | @plainGo m p n pl bs s s1 e s' hin hne hact hk =>
        refine ⟨fun σ H => DueW code kvs most eF sF (.ref tp) gv c b sa d as (envOf t.D) S m σ H, fun σ' H' h => ⟨m, Nat.lt_succ_self _, h⟩, ?_⟩
        obtain ⟨wv, hw1, u, ⟨wp, rfl, hwp⟩, hu⟩ := cdS.at_ hin
        refine ⟨_, rfl, _, rfl, c, _, _, _, rfl, rfl, SqL.of (sS _ _ hcS), atI_nat hw1, wp, _, rfl, SqL.of (sS _ _ hwp), rfl, _, _, rfl, _, _, rfl, _, _, rfl, _, _, rfl, rfl, ?_⟩
        refine ⟨_, rfl, _, _, rfl, rfl, ?_⟩
        refine ⟨_, rfl, rfl, _, rfl, ifDF (str_ne (by decide +kernel)) ?_⟩
        refine ⟨_, rfl, rfl, _, rfl, ifDF (str_ne (by decide +kernel)) ?_⟩
        refine ⟨_, rfl, rfl, _, rfl, ifDF (str_ne (by decide +kernel)) ?_⟩
        refine ⟨_, rfl, d.st, _, rfl, .inl (SqL.of hst1), _, rfl, rfl, _, rfl, ifDF (by rw [hstl]; exact int_ne (by omega)) ?_⟩
        refine ⟨_, rfl, .inl ⟨rfl, _, SqL.of hst1⟩, _, rfl, _, rfl, d.c, s.cs, rfl, L.csv, (csl sok).1, (csl sok).2, fun cp H1c s1c ncp hcp => ?_⟩
        have L1 := L.same s1c
        refine ⟨_, rfl, sa, _, _, _, rfl, rfl, SqT.of (s1c _ _ (sS _ _ hsaS)), rfl, d.t, _, rfl, .inl (SqL.of L1.told), fun lc hlc => ⟨(by show 3 ≤ sizeLine; decide), fun rc hrc => ?_⟩⟩
        have s2c := same_new hlc (.lst (il s.told))
        have s3c := same_new hrc (.tup [.int (n : Int), .ref cp, .ref lc])
        refine ⟨d.st, vst, _, rfl, rfl, s3c _ _ (s2c _ _ (s1c _ _ hst1)), szl (by rw [hstl]; omega), ?_⟩
        have Lm := L.mark (n := n) (p := cp) (q := lc) (r := rc) (s1c.trans (s2c.trans s3c)) hst1 ncp (s1c.free hlc) (s1c.free (s2c.free hrc)) ((hcp.mono (nw_wo L.al)).mono (Same.wo (s2c.trans s3c))) (s3c _ _ upd_same) upd_same
        have bm : But (muL d as) H' (upd (upd (upd H1c lc (.lst (il s.told))) rc (.tup [.int (n : Int), .ref cp, .ref lc])) d.st (.lst (vst ++ [.ref rc]))) := (But.of_same (s1c.trans (s2c.trans s3c))).put n_st _
        show (fun Hm => _) (upd (upd (upd H1c lc (.lst (il s.told))) rc (.tup [.int (n : Int), .ref cp, .ref lc])) d.st (.lst (vst ++ [.ref rc])))
        generalize (upd (upd (upd H1c lc (.lst (il s.told))) rc (.tup [.int (n : Int), .ref cp, .ref lc])) d.st (.lst (vst ++ [.ref rc]))) = Hm at Lm bm ⊢
        have sSm : Same S Hm := fun x o e => bm x o (fun z => by rw [hS _ z] at e; cases e) (sS _ _ e)
        have sokm := sok.mark (n := n)
        have lenm : (mark n s).steps.length = s.steps.length + 1 := mark_len
        refine ⟨_, rfl, rfl, _, rfl, ifDF (str_ne (by decide +kernel)) ?_⟩
        have hokp : PlOk (envOf t.D) pl := hok _ (List.mem_of_getElem? hin)
        obtain ⟨q', tag, us, rfl, hq', t1, t2, t3, t4⟩ := plv_tag2 hu
        refine ⟨_, rfl, q', _, _, _, rfl, rfl, SqT.of (sSm _ _ hq'), at0, rfl, _, rfl, ifDF (str_ne t3) ?_⟩
        have hq : pl ≠ .stop := fun z => by subst z; cases hact
        refine ⟨_, rfl, q', _, _, _, rfl, rfl, SqT.of (sSm _ _ hq'), at0, rfl, _, rfl, ifDF (str_ne (fun z => hq (t4.mp z))) ?_⟩
        refine ⟨_, rfl, _, rfl, sa, d, bs, as, mark n s, envOf t.D, pl, _, S, rfl, sSm, hS, hsaS, Lm, ⟨sokm.cs, sokm.nd, by have := sokm.told; omega, by omega⟩, hlf, hu, hokp, hq, fun bb H5 b5 L5 e5 => ⟨_, rfl, ?_⟩⟩
        rw [hact] at L5 e5
        have hbb : bb = true := by
          cases bb with
          | true => rfl
          | false => cases e5
        subst hbb
        refine iteN rfl ?_
        have sS5 : Same S H5 := fun x o e => b5 x o (fun z => by rw [hS _ z] at e; cases e) (sSm _ _ e)
        have sok5 := act_ok hokp sok hact
        have st5 := act_steps hact
        have lf5 := act_left (p := pl) (s := mark n s)
        rw [hact] at lf5
        have lf6 : s1.left.length ≤ s.left.length := lf5
        exact ⟨⟨p + 1, bs, s1, _, _, _, _, _, _, _, _, hk, rfl, L5, sS5, sok5, by rw [st5]; omega, by rw [st5]; omega, by omega⟩⟩
      | @callFull p n xx bs s hin hfull =>
        refine ⟨fun _ _ => False, fun _ _ h => h.elim, ?_⟩
        obtain ⟨wv, hw1, u, ⟨wp, rfl, hwp⟩, hu⟩ := cdS.at_ hin
        refine ⟨_, rfl, _, rfl, c, _, _, _, rfl, rfl, SqL.of (sS _ _ hcS), atI_nat hw1, wp, _, rfl, SqL.of (sS _ _ hwp), rfl, _, _, rfl, _, _, rfl, _, _, rfl, _, _, rfl, rfl, ?_⟩
        refine ⟨_, rfl, _, _, rfl, rfl, ?_⟩
        refine ⟨_, rfl, rfl, _, rfl, ifDF (str_ne (by decide +kernel)) ?_⟩
        refine ⟨_, rfl, rfl, _, rfl, ifDF (str_ne (by decide +kernel)) ?_⟩
        refine ⟨_, rfl, rfl, _, rfl, ifDF (str_ne (by decide +kernel)) ?_⟩
        refine ⟨_, rfl, d.st, _, rfl, .inl (SqL.of hst1), _, rfl, rfl, _, rfl, ifDT (by rw [hstl, hfull]) ?_⟩
        refine ⟨_, rfl, sa, _, _, _, rfl, rfl, SqT.of (sS _ _ hsaS), rfl, _, rfl, d.c, _, rfl, (L).csv, (csl sok).1, (csl sok).2, fun cp9 H9 s9 ncp9 hcp9 => ⟨_, rfl, (by show 4 ≤ sizeLine; decide), fun rt hrt => ?_⟩⟩
        exact ret _ _ _ _ _ _ .going (L) (sS) s9 hcp9 hrt rfl rfl
      | @callGo m p n xx tt bs s e s' hin hne hbg hk =>
        refine ⟨fun σ H => DueW code kvs most eF sF (.ref tp) gv c b sa d as (envOf t.D) S m σ H, fun σ' H' h => ⟨m, Nat.lt_succ_self _, h⟩, ?_⟩
        obtain ⟨wv, hw1, u, ⟨wp, rfl, hwp⟩, hu⟩ := cdS.at_ hin
        refine ⟨_, rfl, _, rfl, c, _, _, _, rfl, rfl, SqL.of (sS _ _ hcS), atI_nat hw1, wp, _, rfl, SqL.of (sS _ _ hwp), rfl, _, _, rfl, _, _, rfl, _, _, rfl, _, _, rfl, rfl, ?_⟩
        refine ⟨_, rfl, _, _, rfl, rfl, ?_⟩
        refine ⟨_, rfl, rfl, _, rfl, ifDF (str_ne (by decide +kernel)) ?_⟩
        refine ⟨_, rfl, rfl, _, rfl, ifDF (str_ne (by decide +kernel)) ?_⟩
        refine ⟨_, rfl, rfl, _, rfl, ifDF (str_ne (by decide +kernel)) ?_⟩
        refine ⟨_, rfl, d.st, _, rfl, .inl (SqL.of hst1), _, rfl, rfl, _, rfl, ifDF (by rw [hstl]; exact int_ne (by omega)) ?_⟩
        refine ⟨_, rfl, .inl ⟨rfl, _, SqL.of hst1⟩, _, rfl, _, rfl, d.c, s.cs, rfl, L.csv, (csl sok).1, (csl sok).2, fun cp H1c s1c ncp hcp => ?_⟩
        have L1 := L.same s1c
        refine ⟨_, rfl, sa, _, _, _, rfl, rfl, SqT.of (s1c _ _ (sS _ _ hsaS)), rfl, d.t, _, rfl, .inl (SqL.of L1.told), fun lc hlc => ⟨(by show 3 ≤ sizeLine; decide), fun rc hrc => ?_⟩⟩
        have s2c := same_new hlc (.lst (il s.told))
        have s3c := same_new hrc (.tup [.int (n : Int), .ref cp, .ref lc])
        refine ⟨d.st, vst, _, rfl, rfl, s3c _ _ (s2c _ _ (s1c _ _ hst1)), szl (by rw [hstl]; omega), ?_⟩
        have Lm := L.mark (n := n) (p := cp) (q := lc) (r := rc) (s1c.trans (s2c.trans s3c)) hst1 ncp (s1c.free hlc) (s1c.free (s2c.free hrc)) ((hcp.mono (nw_wo L.al)).mono (Same.wo (s2c.trans s3c))) (s3c _ _ upd_same) upd_same
        have bm : But (muL d as) H' (upd (upd (upd H1c lc (.lst (il s.told))) rc (.tup [.int (n : Int), .ref cp, .ref lc])) d.st (.lst (vst ++ [.ref rc]))) := (But.of_same (s1c.trans (s2c.trans s3c))).put n_st _
        show (fun Hm => _) (upd (upd (upd H1c lc (.lst (il s.told))) rc (.tup [.int (n : Int), .ref cp, .ref lc])) d.st (.lst (vst ++ [.ref rc])))
        generalize (upd (upd (upd H1c lc (.lst (il s.told))) rc (.tup [.int (n : Int), .ref cp, .ref lc])) d.st (.lst (vst ++ [.ref rc]))) = Hm at Lm bm ⊢
        have sSm : Same S Hm := fun x o e => bm x o (fun z => by rw [hS _ z] at e; cases e) (sS _ _ e)
        have sokm := sok.mark (n := n)
        have lenm : (mark n s).steps.length = s.steps.length + 1 := mark_len
        refine ⟨_, rfl, rfl, _, rfl, ifDF (str_ne (by decide +kernel)) ?_⟩
        obtain ⟨q', rfl, hq'⟩ := hu
        refine ⟨_, rfl, q', _, _, _, rfl, rfl, SqT.of (sSm _ _ hq'), rfl, rfl, _, rfl, ifDT rfl ?_⟩
        have blen : (bl bs).length = bs.length := by simp [bl]
        refine ⟨_, rfl, .inl ⟨rfl, _, SqL.of Lm.ob⟩, _, rfl, d.g, _, _, rfl, rfl, Lm.ob, szl (by omega), ?_⟩
        have eb : bl bs ++ [.int ((p : Int) + 1)] = bl ((p + 1) :: bs) := by simp [bl]
        rw [eb]
        have sSb : Same S (upd Hm d.g (.lst (bl ((p + 1) :: bs)))) := fun x o e => by rw [upd_ne (fun z => by rw [z, hS _ n_g] at e; cases e)]; exact sSm _ _ e
        refine ⟨_, rfl, _, rfl, q', _, _, _, rfl, rfl, SqT.of (sSb _ _ hq'), rfl, b, _, rfl, .inl ⟨kvs, .inr xx, .inl (sSb _ _ hbS), rfl, (of_bgOf hbg).symm⟩, ?_⟩
        exact ⟨⟨tt, (p + 1) :: bs, mark n s, _, _, _, _, _, _, _, _, hk, rfl, Lm.backs, sSb, sokm, by omega, by rw [List.length_cons]; omega, hlf⟩⟩
end
end GT
/-! _law_same -/
namespace GT
open PySem PySem.Spec PyProof.Rows L2
theorem sc_l_same : FnScope ["_law_found", "_law_due_here", "_law_name", "_law_one", "_law_other"] ["_law_found", "_law_due_here"] (defScope s_l_same) := ⟨rfl, rfl, rfl, by decide +kernel, rfl, by decide +kernel, by decide +kernel⟩
theorem pg_tupK {X : Cx} {K : PySem.W.Frag} {pos : Pos} {es : List Expr} {k : Nat} {t : TGs} {n : Nat} (e : X.K = K) (hc : X.calm = true) (h : PGs X es t)
    (hn : (assignEach es X.env).length = n := by rfl) (hst : (assignEach es X.env).findIdx? (·.1) = none := by rfl) : PG X (.Tuple es k pos) (gTup K n t) := by
  subst e
  exact pg_tup hc h hn hst
theorem kitLT_no {K : PySem.W.Frag} {t : String} (h1 : kitB t "list" = some false) (h2 : kitB t "tuple" = some false) : PySem.W.kitAny K (.type t) [.type "list", .type "tuple"] = some false :=
  kitAny_cons (b := false) (kit_ty h1) (fun _ => kitAny_cons (b := false) (kit_ty h2) (fun _ => kitAny_nil) (fun z => nomatch z)) (fun z => nomatch z)
theorem kitLT_list {K : PySem.W.Frag} : PySem.W.kitAny K (.type "list") [.type "list", .type "tuple"] = some true := kitAny_cons (b := true) (kit_ty (by decide +kernel)) (fun z => nomatch z) (fun _ => rfl)
theorem kitLT_tup {K : PySem.W.Frag} : PySem.W.kitAny K (.type "tuple") [.type "list", .type "tuple"] = some true :=
  kitAny_cons (b := false) (kit_ty (by decide +kernel)) (fun _ => kitAny_cons (b := true) (kit_ty (by decide +kernel)) (fun z => nomatch z) (fun _ => rfl)) (fun z => nomatch z)
theorem all_rep (n : Nat) : ((List.replicate n true).all id) = true := by
  rw [List.all_replicate]
  simp
theorem rep_snoc (n : Nat) : (List.replicate n true).map V.bl ++ [V.bl true] = (List.replicate (n + 1) true).map V.bl := by
  rw [List.replicate_succ', List.map_append]
  rfl
section
variable {P : Program} {w : World} {K : PySem.W.Frag} {mg : Str → Option Value} {base : Heap} {C : Addr}
def spSame (n : Nat) : Sp := fun vs H Q _ => ∃ x y : V, vs = [x, y] ∧ SameV H n x y ∧ ∀ H', Same H H' → Q (.bl true) H'
theorem ok_l_same (T0 : Top K mg C) {k : Nat} : ∀ n : Nat, Cal P w K mg base "_law_same" ["_law_found", "_law_due_here"] (k + n) (spSame n)
  | 0 => T0.d_l_same.no (fun _ _ _ _ _ _ us hl => match us, hl with | [_, _], _ => rfl) fun vs H Q E h => by obtain ⟨x, y, _, h, _⟩ := h; exact h
  | n + 1 => by
    have T := T0
    have c_l_same := ok_l_same T0 (k := k) n
    refine T.d_l_same.ok sc_l_same (fun _ _ _ _ _ _ us hl => match us, hl with | [_, _], _ => rfl) (fun vs H Q E h => ?_) (fun f cdv A outer s0 H vs Q E hr h => ?_)
    · obtain ⟨x, y, rfl, _⟩ := h
      rfl
    · obtain ⟨x, y, rfl, hs, q⟩ := h
      refine ⟨_, (pss_cons (ps_if (pt_val (pe_callB call_isi rfl T.isinstance_ (by decide +kernel) (pa_cons (pv 1) (pa_cons (pe_bltn (v := .ty "dict") (u := .type "dict") rfl T.dict_ (by decide +kernel) rfl) pa_nil)))) (pss_cons (ps_if (PW.pt (pw_or (pt_not (pt_val (pe_callB call_isi rfl T.isinstance_ (by decide +kernel) (pa_cons (pv 0) (pa_cons (pe_bltn (v := .ty "dict") (u := .type "dict") rfl T.dict_ (by decide +kernel) rfl) pa_nil))))) (pw_or1 (pt_cmpR (op_neD hr.units) (pe_callB (call_sortedD rfl) rfl T.sorted_ (by decide +kernel) (pa_cons (pv 0) pa_nil)) (pe_callB (call_sortedD rfl) rfl T.sorted_ (by decide +kernel) (pa_cons (pv 1) pa_nil)) (nomark _))))) (pss_one (ps_ret pe_bl)) pss_nil)
      (pss_one (ps_ret (pe_callB (cr_all rfl) rfl T.all_ (by decide +kernel) (pa_cons (pe_lock (pe_lc (own := [("_law_name", 2)]) rfl sc_l_same.nd (pi_keys (pv 1)) (blkOk_by (own := [("_law_name", 2)]) (N := ["_law_found", "_law_due_here", "_law_name", "_law_one", "_law_other"]) (sc := defScope s_l_same) (by decide +kernel)) (fun _ _ _ _ _ => (pg_name (i := 2) sc_l_same.nd rfl (Or.inl rfl))) (fun _ _ _ _ _ => pts_nil) (fun _ _ _ _ _ => (pe_cl c_l_same hr rfl (pa_cons (pe_dget (hu_of hr) (pv 0) (pv 2) (fun _ _ => rfl)) (pa_cons (pe_dget (hu_of hr) (pv 1) (pv 2) (fun _ _ => rfl)) pa_nil)))))) pa_nil))))) pss_nil)
      (pss_cons (ps_if (pt_val (pe_callB call_isiT rfl T.isinstance_ (by decide +kernel) (pa_cons (pv 1) (pa_cons (pe_tup (pa_cons (pe_bltn (v := .ty "list") (u := .type "list") rfl T.list_ (by decide +kernel) rfl) (pa_cons (pe_bltn (v := .ty "tuple") (u := .type "tuple") rfl T.tuple_ (by decide +kernel) rfl) pa_nil))) pa_nil)))) (pss_cons (ps_if (PW.pt (pw_or (pt_cmpR op_ne (pe_callB call_isi rfl T.isinstance_ (by decide +kernel) (pa_cons (pv 0) (pa_cons (pe_bltn (v := .ty "list") (u := .type "list") rfl T.list_ (by decide +kernel) rfl) pa_nil))) (pe_callB call_isi rfl T.isinstance_ (by decide +kernel) (pa_cons (pv 1) (pa_cons (pe_bltn (v := .ty "list") (u := .type "list") rfl T.list_ (by decide +kernel) rfl) pa_nil))) (nomark _)) (pw_or1 (pt_cmpR op_ne (pe_callB call_isi rfl T.isinstance_ (by decide +kernel) (pa_cons (pv 0) (pa_cons (pe_bltn (v := .ty "tuple") (u := .type "tuple") rfl T.tuple_ (by decide +kernel) rfl) pa_nil))) (pe_callB call_isi rfl T.isinstance_ (by decide +kernel) (pa_cons (pv 1) (pa_cons (pe_bltn (v := .ty "tuple") (u := .type "tuple") rfl T.tuple_ (by decide +kernel) rfl) pa_nil))) (nomark _))))) (pss_one (ps_ret pe_bl)) pss_nil)
      (pss_one (ps_ret (pe_and (pe_cmpR op_eq (pe_callB call_len_seq rfl T.len_ (by decide +kernel) (pa_cons (pv 0) pa_nil)) (pe_callB call_len_seq rfl T.len_ (by decide +kernel) (pa_cons (pv 1) pa_nil)) (nomark _)) (pe_one (pe_callB (cr_all rfl) rfl T.all_ (by decide +kernel) (pa_cons (pe_lc (own := [("_law_one", 3), ("_law_other", 4)]) rfl sc_l_same.nd (RZ.pi_zipA (by rfl) T.zip_ (pa_cons (pv 0) (pa_cons (pv 1) pa_nil))) (blkOk_by (own := [("_law_one", 3), ("_law_other", 4)]) (N := ["_law_found", "_law_due_here", "_law_name", "_law_one", "_law_other"]) (sc := defScope s_l_same) (by decide +kernel)) (fun _ _ _ _ _ => (pg_tupK (K := K) (n := 2) rfl rfl (pgs_cons (pg_name (i := 3) sc_l_same.nd rfl (Or.inl rfl)) (pgs_cons (pg_name (i := 4) sc_l_same.nd rfl (Or.inl rfl)) pgs_nil)))) (fun _ _ _ _ _ => pts_nil) (fun _ _ _ _ _ => (pe_cl c_l_same hr rfl (pa_cons (pv 3) (pa_cons (pv 4) pa_nil))))) pa_nil))))))) pss_nil)
      (pss_cons (ps_if (pt_val (pe_callB call_isi rfl T.isinstance_ (by decide +kernel) (pa_cons (pv 1) (pa_cons (pe_bltn (v := .ty "str") (u := .type "str") rfl T.str_ (by decide +kernel) rfl) pa_nil)))) (pss_one (ps_ret (pe_and (pe_callB call_isi rfl T.isinstance_ (by decide +kernel) (pa_cons (pv 0) (pa_cons (pe_bltn (v := .ty "str") (u := .type "str") rfl T.str_ (by decide +kernel) rfl) pa_nil))) (pe_one (pe_cmpR op_eq (pv 0) (pv 1) (nomark _)))))) pss_nil)
      (pss_one (ps_ret (pe_and (pe_callB call_isi rfl T.isinstance_ (by decide +kernel) (pa_cons (pv 0) (pa_cons (pe_bltn (v := .ty "int") (u := .type "int") rfl T.int_ (by decide +kernel) rfl) pa_nil))) (pe_and (pe_not (pe_callB call_isi rfl T.isinstance_ (by decide +kernel) (pa_cons (pv 0) (pa_cons (pe_bltn (v := .ty "bool") (u := .type "bool") rfl T.bool_ (by decide +kernel) rfl) pa_nil)))) (pe_one (pe_cmpR op_eq (pv 0) (pv 1) (nomark _)))))))))), ?_⟩
      rcases hs with ⟨i, rfl, rfl⟩ | ⟨z, rfl, rfl⟩ | ⟨p, p2, xs, ys, rfl, rfl, h3, h4, h5, h6, h7⟩ | ⟨p, p2, xs, ys, rfl, rfl, h3, h4, h5, h6, h7⟩ | ⟨hn, p, p2, ks, ls, ns, rfl, rfl, h3, h4, h5, h6, h7, h8, h9, h10⟩
      · refine ⟨_, rfl, _, _, .type "int", .type "dict", false, rfl, .ty "dict", .base (.int i), kit_ty (by decide +kernel), false, rfl, iteF ?_⟩
        refine ⟨_, rfl, (by show 2 ≤ sizeLine; decide), fun t ht => ⟨_, t, _, .type "int", _, false, rfl, upd_same, .cons (.ty "list") (.cons (.ty "tuple") .nil), .base (.int i), (kitLT_no (by decide +kernel) (by decide +kernel)), false, rfl, iteF ?_⟩⟩
        have st := same_new ht (.tup [.ty "list", .ty "tuple"])
        refine ⟨_, rfl, _, _, .type "int", .type "str", false, rfl, .ty "str", .base (.int i), kit_ty (by decide +kernel), false, rfl, iteF ?_⟩
        refine ⟨_, rfl, _, _, .type "int", .type "int", true, rfl, .ty "int", .base (.int i), kit_ty (by decide +kernel), true, rfl, iteT ?_⟩
        refine ⟨_, rfl, _, _, .type "int", .type "bool", false, rfl, .ty "bool", .base (.int i), kit_ty (by decide +kernel), false, rfl, true, rfl, iteT ?_⟩
        refine ⟨_, rfl, _, rfl, rfl, ?_⟩
        rw [decide_eq_true rfl]
        exact q _ st
      · refine ⟨_, rfl, _, _, .type "str", .type "dict", false, rfl, .ty "dict", .base (.str z), kit_ty (by decide +kernel), false, rfl, iteF ?_⟩
        refine ⟨_, rfl, (by show 2 ≤ sizeLine; decide), fun t ht => ⟨_, t, _, .type "str", _, false, rfl, upd_same, .cons (.ty "list") (.cons (.ty "tuple") .nil), .base (.str z), (kitLT_no (by decide +kernel) (by decide +kernel)), false, rfl, iteF ?_⟩⟩
        have st := same_new ht (.tup [.ty "list", .ty "tuple"])
        refine ⟨_, rfl, _, _, .type "str", .type "str", true, rfl, .ty "str", .base (.str z), kit_ty (by decide +kernel), true, rfl, iteT ?_⟩
        refine ⟨_, rfl, _, _, .type "str", .type "str", true, rfl, .ty "str", .base (.str z), kit_ty (by decide +kernel), true, rfl, iteT ?_⟩
        refine ⟨_, rfl, _, rfl, rfl, ?_⟩
        rw [decide_eq_true rfl]
        exact q _ st
      · refine ⟨_, rfl, _, _, .type "list", .type "dict", false, rfl, .ty "dict", .base (.lst h4), kit_ty (by decide +kernel), false, rfl, iteF ?_⟩
        refine ⟨_, rfl, (by show 2 ≤ sizeLine; decide), fun t ht => ⟨_, t, _, .type "list", _, true, rfl, upd_same, .cons (.ty "list") (.cons (.ty "tuple") .nil), .base (.lst (same_new ht _ _ _ h4)), kitLT_list, true, rfl, iteT ?_⟩⟩
        have st := same_new ht (.tup [.ty "list", .ty "tuple"])
        have h3' := st _ _ h3
        have h4' := st _ _ h4
        show (fun H1 => _) (upd H t (.tup [.ty "list", .ty "tuple"]))
        generalize upd H t (.tup [.ty "list", .ty "tuple"]) = H1 at st h3' h4' ⊢
        refine ⟨_, rfl, _, _, .type "list", .type "list", true, rfl, .ty "list", .base (.lst h3'), kit_ty (by decide +kernel), _, rfl, _, _, .type "list", .type "list", true, rfl, .ty "list", .base (.lst h4'), kit_ty (by decide +kernel), rfl, _, rfl, ifND (fun z => absurd rfl z) (fun _ => ?_)⟩
        refine ⟨_, rfl, _, _, .type "list", .type "tuple", false, rfl, .ty "tuple", .base (.lst h3'), kit_ty (by decide +kernel), _, rfl, _, _, .type "list", .type "tuple", false, rfl, .ty "tuple", .base (.lst h4'), kit_ty (by decide +kernel), rfl, _, rfl, ifND (fun z => absurd rfl z) (fun _ => ?_)⟩
        refine ⟨_, rfl, p, xs, rfl, .inl (SqL.of h3'), _, rfl, p2, ys, rfl, .inl (SqL.of h4'), rfl, _, rfl, ?_⟩
        refine iteP (decide_eq_true (by rw [h5])) ?_
        refine ⟨_, rfl, _, rfl, p, p2, xs, ys, rfl, .inl ⟨SqL.of h3', SqL.of h4', fun r hr2 => ?_⟩⟩
        refine lc_any (n := xs.length) (fun i H' => Same H1 H' ∧ H' r = some (.lst ((List.replicate i true).map V.bl))) ⟨same_new hr2 _, upd_same⟩ (fun i H' hi h => ?_) (fun H' h => ?_)
        · obtain ⟨s, h1⟩ := h
          have hx := List.getElem?_eq_getElem hi
          have hi2 : i < ys.length := by omega
          have hy := List.getElem?_eq_getElem hi2
          refine ⟨⟨xs, ys, _, _, SqL.of (s _ _ h3'), SqL.of (s _ _ h4'), hx, hy⟩, ?_⟩
          rintro v H'' ⟨T1, a, b, rfl, hT, rfl, f1, f2⟩
          have ea := f1 xs (SqL.of (s _ _ h3'))
          have eb := f2 ys (SqL.of (s _ _ h4'))
          have sT := same_new hT (.tup [a, b])
          refine ⟨T1, _, rfl, SqT.of upd_same, rfl, _, _, rfl, _, _, rfl, rfl, rfl, ?_⟩
          refine ⟨_, rfl, _, rfl, a, b, rfl, (h7 i a b ea eb).mono (st.trans (s.trans sT)), fun H3 s3 => ?_⟩
          refine ⟨_, s3 _ _ (sT _ _ h1), szl (by rw [List.length_map, List.length_replicate]; omega), same_upd ((s.trans sT).trans s3) hr2 _, ?_⟩
          rw [upd_same, rep_snoc]
        · obtain ⟨s, h1⟩ := h
          refine ⟨⟨xs, ys, SqL.of (s _ _ h3'), SqL.of (s _ _ h4'), .inl (Nat.le_refl _)⟩, r, List.replicate xs.length true, rfl, SqL.of h1, ?_⟩
          rw [all_rep]
          exact q _ (st.trans s)
      · refine ⟨_, rfl, _, _, .type "tuple", .type "dict", false, rfl, .ty "dict", .base (.tup h4), kit_ty (by decide +kernel), false, rfl, iteF ?_⟩
        refine ⟨_, rfl, (by show 2 ≤ sizeLine; decide), fun t ht => ⟨_, t, _, .type "tuple", _, true, rfl, upd_same, .cons (.ty "list") (.cons (.ty "tuple") .nil), .base (.tup (same_new ht _ _ _ h4)), kitLT_tup, true, rfl, iteT ?_⟩⟩
        have st := same_new ht (.tup [.ty "list", .ty "tuple"])
        have h3' := st _ _ h3
        have h4' := st _ _ h4
        show (fun H1 => _) (upd H t (.tup [.ty "list", .ty "tuple"]))
        generalize upd H t (.tup [.ty "list", .ty "tuple"]) = H1 at st h3' h4' ⊢
        refine ⟨_, rfl, _, _, .type "tuple", .type "list", false, rfl, .ty "list", .base (.tup h3'), kit_ty (by decide +kernel), _, rfl, _, _, .type "tuple", .type "list", false, rfl, .ty "list", .base (.tup h4'), kit_ty (by decide +kernel), rfl, _, rfl, ifND (fun z => absurd rfl z) (fun _ => ?_)⟩
        refine ⟨_, rfl, _, _, .type "tuple", .type "tuple", true, rfl, .ty "tuple", .base (.tup h3'), kit_ty (by decide +kernel), _, rfl, _, _, .type "tuple", .type "tuple", true, rfl, .ty "tuple", .base (.tup h4'), kit_ty (by decide +kernel), rfl, _, rfl, ifND (fun z => absurd rfl z) (fun _ => ?_)⟩
        refine ⟨_, rfl, p, xs, rfl, .inr (SqT.of h3'), _, rfl, p2, ys, rfl, .inr (SqT.of h4'), rfl, _, rfl, ?_⟩
        refine iteP (decide_eq_true (by rw [h5])) ?_
        refine ⟨_, rfl, _, rfl, p, p2, xs, ys, rfl, .inr ⟨SqT.of h3', SqT.of h4', fun r hr2 => ?_⟩⟩
        refine lc_any (n := xs.length) (fun i H' => Same H1 H' ∧ H' r = some (.lst ((List.replicate i true).map V.bl))) ⟨same_new hr2 _, upd_same⟩ (fun i H' hi h => ?_) (fun H' h => ?_)
        · obtain ⟨s, h1⟩ := h
          have hx := List.getElem?_eq_getElem hi
          have hi2 : i < ys.length := by omega
          have hy := List.getElem?_eq_getElem hi2
          refine ⟨⟨xs, ys, _, _, SqT.of (s _ _ h3'), SqT.of (s _ _ h4'), hx, hy⟩, ?_⟩
          rintro v H'' ⟨T1, a, b, rfl, hT, rfl, f1, f2⟩
          have ea := f1 xs (SqT.of (s _ _ h3'))
          have eb := f2 ys (SqT.of (s _ _ h4'))
          have sT := same_new hT (.tup [a, b])
          refine ⟨T1, _, rfl, SqT.of upd_same, rfl, _, _, rfl, _, _, rfl, rfl, rfl, ?_⟩
          refine ⟨_, rfl, _, rfl, a, b, rfl, (h7 i a b ea eb).mono (st.trans (s.trans sT)), fun H3 s3 => ?_⟩
          refine ⟨_, s3 _ _ (sT _ _ h1), szl (by rw [List.length_map, List.length_replicate]; omega), same_upd ((s.trans sT).trans s3) hr2 _, ?_⟩
          rw [upd_same, rep_snoc]
        · obtain ⟨s, h1⟩ := h
          refine ⟨⟨xs, ys, SqT.of (s _ _ h3'), SqT.of (s _ _ h4'), .inl (Nat.le_refl _)⟩, r, List.replicate xs.length true, rfl, SqL.of h1, ?_⟩
          rw [all_rep]
          exact q _ (st.trans s)
      · have nd1 : (ks.map (·.1)).Nodup := by
          rw [h5]
          exact List.Pairwise.map _ (fun a b hab e => hab (Sum.inr.inj e)) h7
        have nd2 : (ls.map (·.1)).Nodup := by
          rw [h6]
          exact List.Pairwise.map _ (fun a b hab e => hab (Sum.inr.inj e)) h7
        refine ⟨_, rfl, _, _, .type "dict", .type "dict", true, rfl, .ty "dict", .base (.dK h4), kit_ty (by decide +kernel), true, rfl, iteT ?_⟩
        refine ⟨_, rfl, _, _, .type "dict", .type "dict", true, rfl, .ty "dict", .base (.dK h3), kit_ty (by decide +kernel), true, rfl, iteN rfl ?_⟩
        refine ⟨_, rfl, p, ks, ns, rfl, .inl h3, h5, h8, fun ys1 r1 pm1 so1 hr1 => ?_⟩
        have s1 := same_new hr1 (.lst (ys1.map V.str))
        refine ⟨_, rfl, p2, ls, ns, rfl, .inl (s1 _ _ h4), h6, h8, fun ys2 r2 pm2 so2 hr2 => ?_⟩
        have s2 := same_new hr2 (.lst (ys2.map V.str))
        have ey : ys1 = ys2 := sorted_eq (pm1.trans pm2.symm) so1 so2
        have ly : ∀ x ∈ ys1, PyData.canLay0 (.str x) = true := fun x hx => h9 x (pm1.mem_iff.mp hx)
        refine ⟨.list (ys1.map PyData.str), .list (ys2.map PyData.str), .lst (SqL.of (s2 _ _ upd_same)) (dp_strs _), .lst (SqL.of upd_same) (dp_strs _), shaped_strs ly, shaped_strs (by rw [← ey]; exact ly), _, rfl, iteN (by rw [← ey, PyData.eqv, eqv_strs]; rfl) ?_⟩
        have s12 := s1.trans s2
        have g3 := s12 _ _ h3
        have g4 := s12 _ _ h4
        show (fun H2 => _) (upd (upd H r1 (.lst (ys1.map V.str))) r2 (.lst (ys2.map V.str)))
        generalize upd (upd H r1 (.lst (ys1.map V.str))) r2 (.lst (ys2.map V.str)) = H2 at s12 g3 g4 ⊢
        refine ⟨p2, .dK ls, g4, True.intro, fun od => ?_⟩
        refine ⟨_, rfl, p2, od, rfl, .inl ⟨ls, upd_same, fun r hr3 => ?_⟩⟩
        have rp2 : r ≠ p2 := fun z => by rw [z, upd_same] at hr3; cases hr3
        refine lc_any (n := ls.length) (fun i H' => Same (upd H2 p2 (.frz od (.dK ls))) H' ∧ H' r = some (.lst ((List.replicate i true).map V.bl))) ⟨same_new hr3 _, upd_same⟩ (fun i H' hi h => ?_) (fun H' h => ?_)
        · obtain ⟨s, hacc⟩ := h
          have fz := s _ _ (show (upd H2 p2 (.frz od (.dK ls))) p2 = _ from upd_same)
          refine ⟨⟨fz, hi⟩, ?_⟩
          rintro v H'' ⟨rfl, kk, b, hk, rfl⟩
          have e1 : (ls.map (·.1))[i]? = some kk := by rw [List.getElem?_map, hk]; rfl
          rw [h6, List.getElem?_map] at e1
          cases hnm : ns[i]? with
          | none => rw [hnm] at e1; cases e1
          | some nm =>
            rw [hnm] at e1
            cases Option.some.inj e1
            have gb := val_at nd2 hk
            have e2 : (ks.map (·.1))[i]? = some (Sum.inr nm) := by rw [h5, List.getElem?_map, hnm]; rfl
            rw [List.getElem?_map] at e2
            cases hka : ks[i]? with
            | none => rw [hka] at e2; cases e2
            | some ka =>
              obtain ⟨k1, a⟩ := ka
              rw [hka] at e2
              cases Option.some.inj e2
              have ga := val_at nd1 hka
              have lst2 : ∀ q l, H q = some (.lst l) → H'' q = some (.lst l) := fun q l e => s _ _ (by rw [upd_ne (fun z => by rw [z, h4] at e; cases e)]; exact s12 _ _ e)
              have fl := (h10 nm a b ga gb).mono lst2
              have dg1 : DGet H'' p (.str nm) (some a) := by
                by_cases hp : p = p2
                · subst hp
                  have ek : ks = ls := by rw [h3] at h4; cases h4; rfl
                  subst ek
                  exact dget_lock fz ga
                · exact .inl ⟨ks, .inr nm, .inl (s _ _ (by rw [upd_ne hp]; exact g3)), rfl, ga.symm⟩
              refine ⟨rfl, _, rfl, _, rfl, p, a, rfl, dg1, _, rfl, _, rfl, p2, b, rfl, dget_lock fz gb, a, b, rfl, ?_, fun H3 s3 => ?_⟩
              · obtain ⟨n', rfl⟩ : ∃ n', n = n' + 2 := ⟨n - 2, by omega⟩
                exact fl.same
              · refine ⟨_, s3 _ _ hacc, szl (by
                  have e9 : ls.length = ns.length := by have := congrArg List.length h6; rwa [List.length_map, List.length_map] at this
                  rw [List.length_map, List.length_replicate]; omega), same_upd (s.trans s3) hr3 _, ?_⟩
                rw [upd_same, rep_snoc]
        · obtain ⟨s, hacc⟩ := h
          have fz := s _ _ (show (upd H2 p2 (.frz od (.dK ls))) p2 = _ from upd_same)
          have sEnd : Same H2 (upd H' p2 (.dK ls)) := fun b o e => by
            by_cases z : b = p2
            · subst z
              rw [upd_same, ← e, g4]
            · rw [upd_ne z]
              exact s _ _ (by rw [upd_ne z]; exact e)
          refine ⟨⟨fz, Nat.le_refl _⟩, fz, r, List.replicate ls.length true, rfl, SqL.of (by rw [upd_ne rp2]; exact hacc), ?_⟩
          rw [all_rep]
          exact q _ (s12.trans sEnd)
end
end GT
/-! Two results of one run are the same. -/
namespace GT
open PySem PySem.Spec PyProof.Rows L2
/-- .. and each step's cells too -/
structure SOk2 (G : Env) (s : Sta) : Prop where
  o : SOk G s
  st : ∀ x ∈ s.steps, CsOk G x.2.1 ∧ x.2.2.length ≤ s.steps.length
theorem SOk2.mark {G : Env} {s : Sta} {n : Nat} (h : SOk2 G s) : SOk2 G (mark n s) := by
  refine ⟨h.o.mark, fun x hx => ?_⟩
  rw [mark_len]
  rcases List.mem_append.mp hx with z | z
  · obtain ⟨h1, h2⟩ := h.st x z
    exact ⟨h1, by omega⟩
  · rw [List.mem_singleton.mp z]
    have := h.o.told
    exact ⟨h.o.cs, by show s.told.length ≤ _; omega⟩
theorem act_ok2 {G : Env} {p : Pl} {s s1 : Sta} {e : End} {n : Nat} (hp : PlOk G p) (h : SOk2 G s) (q : act p (mark n s) = (e, s1)) : SOk2 G s1 := by
  have hm := h.mark (n := n)
  have hs := act_steps q
  exact ⟨act_ok hp h.o q, by rw [hs]; exact hm.st⟩
theorem run_ok2 {G : Env} {T : Nm → Option Part} (hT : TabOk G T) {most : Nat} {k : Tk} {s s' : Sta} {e : End} (h : Run T most k s e s') : ∀ m, TkOk G T m k → SOk2 G s → SOk2 G s' := by
  induction h with
  | nil => intro m _ o; exact o
  | full => intro m _ o; exact o
  | plainGo _ h1 _ ih => intro m hk o; exact ih m hk.2 (act_ok2 hk.1 o h1)
  | plainEnd _ h1 _ => intro m hk o; exact act_ok2 hk.1 o h1
  | @callGo x q r n s s1 e s' _ hx _ _ i1 i2 => intro m hk o; exact i2 m hk.2 (i1 q.ix (hT x q hx) o.mark)
  | @callEnd x q r n s e s' _ hx _ _ i1 => intro m hk o; exact i1 q.ix (hT x q hx) o.mark
  | ifFault => intro m hk o; exact o.mark
  | ifYes _ _ _ _ i1 i2 => intro m hk o; obtain ⟨_, _, ha, hb, hr⟩ := hk; exact i2 m hr (i1 m ha o.mark)
  | ifYesEnd _ _ _ _ i1 => intro m hk o; obtain ⟨_, _, ha, hb, hr⟩ := hk; exact i1 m ha o.mark
  | ifNo _ _ _ _ _ i1 i2 => intro m hk o; obtain ⟨_, _, ha, hb, hr⟩ := hk; exact i2 m hr (i1 m hb o.mark)
  | ifNoEnd _ _ _ _ _ i1 => intro m hk o; obtain ⟨_, _, ha, hb, hr⟩ := hk; exact i1 m hb o.mark
  | whGo _ _ _ i1 i2 => intro m hk o; obtain ⟨hc, hh, ha, hr⟩ := hk; exact i2 m hr (i1 m ⟨hc, hh, ha⟩ o.mark)
  | whEnd _ _ _ i1 => intro m hk o; obtain ⟨hc, hh, ha, hr⟩ := hk; exact i1 m ⟨hc, hh, ha⟩ o.mark
  | loopFault => intro m hk o; exact o
  | loopOut => intro m hk o; exact o
  | loopEnd _ _ _ i1 => intro m hk o; exact i1 m hk.2.2 o
  | loopFull _ _ _ i1 => intro m hk o; exact i1 m hk.2.2 o
  | loopGo _ _ _ _ i1 i2 => intro m hk o; exact i2 m hk (i1 m hk.2.2 o).mark
theorem kvs_keys {H : Hp} : ∀ {cs : Cells} {kvs : List (Key × V)}, KvsV H cs kvs → kvs.map (·.1) = (cs.map (·.1)).map Sum.inr
  | [], [], _ => rfl
  | [], _ :: _, h => h.elim
  | (y, c) :: r, [], h => h.elim
  | (y, c) :: r, (k, v) :: t, h => by
    obtain ⟨rfl, h2, h3⟩ := h
    simp only [List.map_cons]
    rw [kvs_keys h3]
theorem get_mem {x : Nm} : ∀ {cs : Cells}, x ∈ cs.map (·.1) → ∃ c, get cs x = some c
  | [], h => nomatch h
  | (y, c) :: r, h => by
    by_cases e : y = x
    · exact ⟨c, get_pos e⟩
    · rcases List.mem_cons.mp h with z | z
      · exact absurd z.symm e
      · obtain ⟨d, hd⟩ := get_mem z
        exact ⟨d, by rw [get_neg e]; exact hd⟩
theorem many_len {x : Nm} {l : List Int} : ∀ {G : Env} {cs : Cells}, CsOk G cs → get cs x = some (.many l) → l.length ≤ 99
  | [], [], _, h => by simp [get] at h
  | [], _ :: _, h, _ => h.elim
  | _ :: _, [], h, _ => h.elim
  | (y, k) :: G, (z, c) :: r, h, g => by
    obtain ⟨e, ok, h⟩ := h
    by_cases q : z = x
    · rw [get_pos q] at g
      cases g
      cases k <;> first | exact ok.elim | exact ok.1
    · rw [get_neg q] at g
      exact many_len h g
theorem il_flat {H : Hp} {a b : Addr} {l : List Int} (h1 : H a = some (.lst (il l))) (h2 : H b = some (.lst (il l))) (h : l.length ≤ 5000) : FlatV H (.ref a) (.ref b) := .inr ⟨a, b, l, rfl, rfl, h1, h2, h⟩
theorem cs_same {H : Hp} {G : Env} {b b' : Addr} {cs : Cells} {n : Nat} (hn : 2 ≤ n) (h : CsV H b cs) (h' : CsV H b' cs) (ok : CsOk G cs) (nd : (G.map (·.1)).Nodup) (gl : G.length ≤ 40) (lay : ∀ x ∈ G.map (·.1), PyData.canLay0 (.str x) = true) : SameV H (n + 1) (.ref b) (.ref b') := by
  obtain ⟨ks, h1, h2⟩ := h
  obtain ⟨ls, k1, k2⟩ := h'
  have ck := cs_keys ok
  refine .inr (.inr (.inr (.inr ⟨hn, b, b', ks, ls, cs.map (·.1), rfl, rfl, h1, k1, kvs_keys h2, kvs_keys k2, by rw [ck]; exact nd, by rw [List.length_map, cs_len ok]; omega, by rw [ck]; exact lay, fun z u v hu hv => ?_⟩)))
  have hz : z ∈ cs.map (·.1) := Classical.byContradiction fun hz => by rw [kvs_no h2 hz] at hu; cases hu
  obtain ⟨c, hc⟩ := get_mem hz
  obtain ⟨u', e1, e2⟩ := kvs_get h2 hc
  obtain ⟨v', e3, e4⟩ := kvs_get k2 hc
  rw [hu] at e1; cases e1
  rw [hv] at e3; cases e3
  cases c with
  | one i => exact .inl ⟨i, e2, e4⟩
  | many l =>
    obtain ⟨p, rfl, hp⟩ := e2
    obtain ⟨q, rfl, hq⟩ := e4
    exact il_flat hp hq (by have := many_len ok hc; omega)
theorem StepsV.at_ {S : Hp} : ∀ {r : List (Nat × Cells × List Int)} {vs : List V} {i : Nat} {x : V}, StepsV S r vs → vs[i]? = some x → ∃ n cs told p c l, r[i]? = some (n, cs, told) ∧ x = .ref p ∧ S p = some (.tup [.int (n : Int), .ref c, .ref l]) ∧ CsV S c cs ∧ S l = some (.lst (il told))
  | [], _, i, x, h, e => by rw [show _ = [] from h] at e; simp at e
  | (n, cs, told) :: r, _, 0, x, ⟨v, t, c, l, h1, ⟨p, h2, h2'⟩, h3, h4, h5⟩, e => by
    rw [h1] at e
    cases Option.some.inj e
    exact ⟨n, cs, told, p, c, l, rfl, h2, h2', h3, h4⟩
  | (n, cs, told) :: r, _, i + 1, x, ⟨v, t, c, l, h1, h2, h3, h4, h5⟩, e => by
    rw [h1] at e
    exact StepsV.at_ (i := i) h5 e
theorem res_same {H : Hp} {G : Env} {v v' : V} {s : Sta} {e : End} (h : ResV H v s e) (h' : ResV H v' s e) (ok : SOk2 G s) (sl : s.steps.length ≤ 5000) (gl : G.length ≤ 40) (lay : ∀ x ∈ G.map (·.1), PyData.canLay0 (.str x) = true) : SameV H 6 v v' := by
  obtain ⟨a, b, st, vs, ⟨p, rfl, h1⟩, h2, h3, h4, h5⟩ := h
  obtain ⟨a', b', st', vs', ⟨p', rfl, k1⟩, k2, k3, k4, k5⟩ := h'
  have tl := ok.o.told
  have l1 := h5.len
  have l2 := k5.len
  refine .inr (.inr (.inr (.inl ⟨p, p', _, _, rfl, rfl, h1, k1, rfl, by show 4 ≤ 5000; decide, fun i x y hx hy => ?_⟩)))
  match i, hx, hy with
  | 0, hx, hy =>
    cases hx; cases hy
    exact (il_flat h2 k2 (by omega)).same
  | 1, hx, hy =>
    cases hx; cases hy
    exact .inr (.inl ⟨_, rfl, rfl⟩)
  | 2, hx, hy =>
    cases hx; cases hy
    exact cs_same (by decide) h3 k3 ok.o.cs ok.o.nd gl lay
  | 3, hx, hy =>
    cases hx; cases hy
    refine .inr (.inr (.inl ⟨st, st', vs, vs', rfl, rfl, h4, k4, by omega, by omega, fun i x y hx hy => ?_⟩))
    obtain ⟨n, cs, told, p, c, l, r1, rfl, r3, r4, r5⟩ := h5.at_ hx
    obtain ⟨n', cs', told', p', c', l', t1, rfl, t3, t4, t5⟩ := k5.at_ hy
    rw [r1] at t1
    cases t1
    obtain ⟨o1, o2⟩ := ok.st _ (List.mem_of_getElem? r1)
    have o2' : told.length ≤ s.steps.length := o2
    refine .inr (.inr (.inr (.inl ⟨p, p', _, _, rfl, rfl, r3, t3, rfl, by show 3 ≤ 5000; decide, fun i x y hx hy => ?_⟩)))
    match i, hx, hy with
    | 0, hx, hy =>
      cases hx; cases hy
      exact .inl ⟨_, rfl, rfl⟩
    | 1, hx, hy =>
      cases hx; cases hy
      exact cs_same (by decide) r4 t4 o1 ok.o.nd gl lay
    | 2, hx, hy =>
      cases hx; cases hy
      exact (il_flat r5 t5 (by omega)).same
    | i + 3, hx, hy => simp at hx
  | i + 4, hx, hy => simp at hx
end GT
/-! != of two tuples that are equal, dicts within them. -/
namespace GT
open PySem PySem.Spec PyProof.Rows L2 PySem.SeqAt
open AutoSeq1 (wpAny_loadPart')
open MeetsSeq MeetsSeq2 MeetsSeq3 SeqRoads2
theorem tup_ne_in {prog : Program} {w : World} (p q : Addr) (xs ys : Array Value) (m k : Nat) (d1 d2 : Option Addr) (z1 z2 : Array (Option Value)) (hz : xs.size = ys.size) :
    MeetsIn prog w (Builtin.«tuple.__ne__» ⟨[.ref p, .ref q], []⟩)
      (fun A R s => s.heap.get? p = some ⟨.type "tuple", d1, .seq xs m, z1⟩ ∧ s.heap.get? q = some ⟨.type "tuple", d2, .seq ys k, z2⟩ ∧
        (∀ (j : Nat) (h1 : j < xs.size) (h2 : j < ys.size), EqP prog w A.in1 s xs[j] ys[j] true) ∧ R (.ok (.ret (.bool false))) s) := by
  intro A R s h
  obtain ⟨s1, s2, s3, s4, s5⟩ := s
  obtain ⟨hp, hq, he, hR⟩ := h
  have f2 := AutoSeq1.sub_tuple_tuple
  have len : (xs.toList.zip ys.toList).length = xs.size := by simp [hz]
  wp_walk using wpAny_loadPart' hp, wpAny_loadPart' hq, wpAny_forIn_list _ (fun rest b s' => b.1 = none ∧ s' = ⟨s1, s2, s3, s4, s5⟩ ∧ ∃ i, rest = (xs.toList.zip ys.toList).drop i) _
  case turn =>
    rintro ⟨y, x⟩ rest b s' ⟨_, rfl, i, hd⟩
    have lt : i < (xs.toList.zip ys.toList).length := Nat.lt_of_not_le fun ge => by
      rw [List.drop_of_length_le ge] at hd
      cases hd
    have l1 : i < xs.size := by omega
    have l2 : i < ys.size := by omega
    rw [List.drop_eq_getElem_cons lt] at hd
    injection hd with hyx tail
    obtain rfl : y = xs[i] := by simpa using congrArg Prod.fst hyx
    obtain rfl : x = ys[i] := by simpa using congrArg Prod.snd hyx
    refine wpAny_bind (he i l1 l2 _ _ ?_)
    wp_walk
    exact ⟨rfl, rfl, i + 1, tail⟩
  case fin =>
    rintro ⟨b1, b2⟩ s' ⟨hb, rfl, _⟩
    simp only at hb
    subst hb
    wp_walk
    simpa [Builtin.Tuple.tupleCompareSizes, bne, hz] using hR
  case h => exact ⟨rfl, rfl, 0, rfl⟩
theorem tup_ne_run {prog : Program} {w : World} {A : Around} {s : Shared} {p q : Addr} {xs ys : Array Value} (hp : s.heap.IsTuple p xs) (hq : s.heap.IsTuple q ys) (hz : xs.size = ys.size) (hu : A.units < cLine)
    (he : ∀ (j : Nat) (h1 : j < xs.size) (h2 : j < ys.size), EqP prog w A.in1 s xs[j] ys[j] true) (E Q : Value → Shared → Prop) (h : Q (.bool false) s) : wpAny (model prog w) A (richCompare .NotEq (.ref p) (.ref q)) Q E s := by
  obtain ⟨⟨c1, d1, t1, z1⟩, o1, e1, m, g1⟩ := id hp
  obtain ⟨⟨c2, d2, t2, z2⟩, o2, e2, k, g2⟩ := id hq
  simp only at e1 g1 e2 g2
  subst e1 g1 e2 g2
  have a1 : s.TypeIs (.ref p) "tuple" := ⟨_, o1, rfl⟩
  have a2 : s.TypeIs (.ref q) "tuple" := ⟨_, o2, rfl⟩
  have fine : Value.bool false ≠ Value.notImplemented ∧ Q (.bool false) s := ⟨(fun x => nomatch x), h⟩
  exact wpAny_richCompare_same_room (op := .NotEq) a1 a2 F.slot_tuple_ne (call_meetsIn F.slot_tuple_ne a1 F.entry_tuple_ne (F.args_tuple_ne_2 _ _) (tup_ne_in p q xs ys m k d1 d2 z1 z2 hz) ⟨o1, o2, he, fine⟩) hu
/-- two tuples whose items are equal, lists and dicts within -/
def rNeT (K : PySem.W.Frag) : R2 := fun x y H Q => ∃ a b xs ys, x = .ref a ∧ y = .ref b ∧ SqT K H a xs ∧ SqT K H b ys ∧ Paired (EqV K H 20) xs ys ∧ Q (.bl false) H
theorem op_neT {X : Cx} (hu : X.A.units + 64 < cLine) : OpR X (compareOp .NotEq) (rNeT X.K) := by
  intro pins s σ H x y v u Q I rx ry h
  obtain ⟨a, b, xs, ys, rfl, rfl, ha, hb, hp, q⟩ := h
  cases (show v = Value.ref a from rx)
  cases (show u = Value.ref b from ry)
  obtain ⟨us, r1, p1, _⟩ := I.tuple ha
  obtain ⟨ws, r2, p2, _⟩ := I.tuple hb
  have hz : us.toArray.size = ws.toArray.size := by
    rw [List.size_toArray, List.size_toArray, ← r1.length, ← r2.length]
    exact Paired.length hp
  refine tup_ne_run p1 p2 hz (by omega) (fun j h1 h2 => ?_) _ _ ⟨.bl false, H, I, rfl, q⟩
  have k := items_run (eqV_run I 20 X.A.in1 (by show X.A.units + 1 + 20 < cLine; omega)) hp r1 r2 j (by simpa using h1) (by simpa using h2)
  simpa using k
end GT
/-! The two long programs: what their runs come to. -/
namespace GT
open PySem PySem.Spec PyProof.Rows L2
abbrev nA : Nm := "a"
def cA (i : Nat) : Cells := [(nA, .one (i : Int))]
def condA (m : Nat) : Ex := .op .lt (.name nA) (.num (m : Int))
def bodyA : Rows := .plain (.set nA (.op .add (.name nA) (.num 1))) .nil
def mainA (m : Nat) : Rows := .whl (condA m) bodyA (.plain (.tell (.name nA)) .nil)
def treeA (m : Nat) : Tree := ⟨[⟨.num, nA, 1⟩], [], mainA m⟩
def stp : Nat → List (Nat × Cells × List Int)
  | 0 => [(0, cA 0, [])]
  | i + 1 => stp i ++ [(1, cA i, [])] ++ [(0, cA (i + 1), [])]
def SA (i : Nat) : Sta := ⟨cA i, [], [], stp i⟩
theorem stp_len : ∀ i, (stp i).length = 2 * i + 1
  | 0 => rfl
  | i + 1 => by rw [stp, List.length_append, List.length_append, stp_len i]; simp only [List.length_singleton]; omega
theorem get_cA (i : Nat) : get (cA i) nA = some (.one (i : Int)) := get_pos rfl
theorem put_cA (i : Nat) (v : Int) : put (cA i) nA (.one v) = [(nA, .one v)] := by rw [cA, put_pos rfl]; rfl
theorem worth_A {i : Nat} : worth (cA i) (.name nA) = some (i : Int) := by simp only [worth, get_cA]
theorem signed_nat {i : Nat} (h : i < 32768) : signed (i : Int) = (i : Int) := if_pos (by omega)
theorem worth_cond {i m : Nat} (hi : i < 32768) (hm : m < 32768) : worth (cA i) (condA m) = some (if i < m then 1 else 0) := by
  unfold condA
  rw [worth, worth_A, worth]
  show some (if signed (i : Int) < signed (m : Int) then (1 : Int) else 0) = _
  rw [signed_nat hi, signed_nat hm]
  by_cases h : i < m
  · rw [if_pos h, if_pos (by omega)]
  · rw [if_neg h, if_neg (by omega)]
theorem worth_add {i : Nat} (hi : i < 65535) : worth (cA i) (.op .add (.name nA) (.num 1)) = some ((i + 1 : Nat) : Int) := by
  rw [worth, worth_A, worth]
  show some (((i : Int) + 1) % 65536) = _
  congr 1
  omega
theorem runA_body {T : Nm → Option Part} {i : Nat} (hi : i < 2000) : Run T 5000 (.rows bodyA 1) (SA i) .go ⟨cA (i + 1), [], [], stp i ++ [(1, cA i, [])]⟩ := by
  have hl := stp_len i
  refine .plainGo (s1 := ⟨cA (i + 1), [], [], stp i ++ [(1, cA i, [])]⟩) (by show (stp i).length ≠ 5000; omega) ?_ .nil
  show act (.set nA (.op .add (.name nA) (.num 1))) ⟨cA i, [], [], stp i ++ [(1, cA i, [])]⟩ = _
  simp only [act, worth_add (show i < 65535 by omega), put_cA]
  rfl
theorem runA_loop {T : Nm → Option Part} {m : Nat} (hm : m < 2000) : ∀ k i, i + k = m → Run T 5000 (.loop (condA m) bodyA 0) (SA i) .go (SA m)
  | 0, i, h => by
    have e : i = m := by omega
    subst e
    have w : worth (SA i).cs (condA i) = some 0 := by
      show worth (cA i) (condA i) = _
      rw [worth_cond (by omega) (by omega), if_neg (by omega)]
    exact .loopOut w (by decide)
  | k + 1, i, h => by
    have w : worth (SA i).cs (condA m) = some 1 := by
      show worth (cA i) (condA m) = _
      rw [worth_cond (by omega) (by omega), if_pos (by omega)]
    have hl := stp_len i
    refine .loopGo w (runA_body (by omega)) ?_ ?_
    · show (stp i ++ [(1, cA i, [])]).length ≠ 5000
      rw [List.length_append, hl]
      simp only [List.length_singleton]
      omega
    · exact runA_loop hm k (i + 1) (by omega)
def endA (m : Nat) : Sta := ⟨cA m, [(m : Int)], [], stp m ++ [(2, cA m, [])]⟩
theorem runA {m : Nat} (hm : m < 2000) : Run (tabT (treeA m)) 5000 (.rows (treeA m).main (allOf (treeA m).ps)) (sta0 (treeA m) []) .go (endA m) := by
  refine .whGo (s1 := SA m) (by show (0 : Nat) ≠ 5000; decide) (runA_loop hm m 0 (by omega)) ?_
  have hl := stp_len m
  refine .plainGo (s1 := endA m) (by show (stp m).length ≠ 5000; omega) ?_ .nil
  show act (.tell (.name nA)) ⟨cA m, [], [], stp m ++ [(2, cA m, [])]⟩ = _
  simp only [act, worth_A]
  rfl
theorem okA {m : Nat} (hm : m < 2000) : TreeOk (treeA m) := by
  have kdA : kd (envOf (treeA m).D) nA = some .num := kd_pos rfl
  refine ⟨by simp [treeA], by simp [treeA], fun d hd => ?_, List.nodup_nil, (fun p hp => nomatch hp), (fun x q e => by simp [treeA, tabT, tabOf] at e), ?_, ⟨by simp [treeA, mainA, bodyA, deep], fun p hp => nomatch hp⟩, Nat.zero_le _, ⟨by simp [treeA, mainA, bodyA, count], fun p hp => nomatch hp⟩, fun d hd => ?_⟩
  · rw [List.mem_singleton.mp hd]; decide
  · refine ⟨⟨kdA, by omega, by omega⟩, by show max 0 0 + 1 ≤ 6; decide, ⟨⟨false, ⟨kdA, by decide, by decide⟩, kdA, by decide⟩, trivial⟩, ⟨⟨kdA, by decide⟩, trivial⟩⟩
  · rw [List.mem_singleton.mp hd]
    decide +kernel
/-! ### without an end -/
def mainB : Rows := .whl (.flag true) .nil .nil
def treeB : Tree := ⟨[], [], mainB⟩
def SB (i : Nat) : Sta := ⟨[], [], [], List.replicate i (0, [], [])⟩
theorem SB_len (i : Nat) : (SB i).steps.length = i := List.length_replicate
theorem markB (i : Nat) : mark 0 (SB i) = SB (i + 1) := by
  unfold mark SB
  rw [List.replicate_succ']
theorem runB_loop {T : Nm → Option Part} {most : Nat} : ∀ k i, i + 1 + k = most → Run T most (.loop (.flag true) .nil 0) (SB (i + 1)) .going (SB most)
  | 0, i, h => by
    have e : i + 1 = most := h
    have hl := SB_len (i + 1)
    rw [← e]
    exact .loopFull rfl .nil hl
  | k + 1, i, h => by
    have hl := SB_len (i + 1)
    refine .loopGo rfl .nil (by rw [hl]; omega) ?_
    rw [markB]
    exact runB_loop k (i + 1) (by omega)
theorem runB {most : Nat} (h : 0 < most) : Run (tabT treeB) most (.rows treeB.main (allOf treeB.ps)) (sta0 treeB []) .going (SB most) := by
  refine .whEnd (by show (0 : Nat) ≠ most; omega) ?_ (by decide)
  exact runB_loop (most - 1) 0 (by omega)
theorem okB : TreeOk treeB :=
  ⟨List.nodup_nil, Nat.zero_le _, (fun d hd => nomatch hd), List.nodup_nil, (fun p hp => nomatch hp), (fun x q e => by simp [treeB, tabT, tabOf] at e), ⟨trivial, Nat.zero_le _, trivial, trivial⟩, ⟨by simp [treeB, mainB, deep], fun p hp => nomatch hp⟩, Nat.zero_le _, ⟨by simp [treeB, mainB, count], fun p hp => nomatch hp⟩, fun d hd => nomatch hd⟩
end GT
/-! _law_long_loops -/
namespace GT
open PySem PySem.Spec PyProof.Rows L2
theorem sc_l_long_loops : FnScope ["_law_many", "_law_raised", "_law_rows_here", "_law_told", "_law_end", "_law_cells", "_law_steps", "_law_step"] ["_law_many"] (defScope s_l_long_loops) := ⟨rfl, rfl, rfl, by decide +kernel, rfl, by decide +kernel, by decide +kernel⟩
theorem csA {H : Hp} {b : Addr} {i : Nat} (h : CsV H b (cA i)) : H b = some (.dK [(.inr nA, .int (i : Int))]) := by
  obtain ⟨kc, h1, h2⟩ := h
  have e : kc = [(.inr nA, .int (i : Int))] := by
    have k : KvsV H [(nA, .one (i : Int))] kc := h2
    match kc, k with
    | [(k, v)], h => obtain ⟨rfl, rfl, _⟩ := h; rfl
    | [], h => exact h.elim
    | _ :: _ :: _, h => exact h.2.2.elim
  rw [← e]
  exact h1
theorem mergeK1 {k : Key} {v : V} : mergeK [] [(k, v)] = [(k, v)] := rfl
theorem at_lastI {α : Type} {xs : List α} {x : α} (h : xs[xs.length - 1]? = some x) : atI xs (-1) = some x := by
  unfold atI
  have hp : 0 < xs.length := by
    cases xs with
    | nil => cases h
    | cons a t => simp
  rw [ixN_last hp]
  exact h
theorem stepsA_last {m : Nat} : (endA m).steps[2 * m + 1]? = some (2, cA m, []) := by
  show (stp m ++ [(2, cA m, [])])[2 * m + 1]? = _
  rw [List.getElem?_append_right (by rw [stp_len]; omega), stp_len, Nat.sub_self]
  rfl
theorem stepsA_prev {m : Nat} (h : 0 < m) : (endA m).steps[2 * m - 1]? = some (1, cA (m - 1), []) := by
  obtain ⟨k, rfl⟩ : ∃ k, m = k + 1 := ⟨m - 1, by omega⟩
  show (stp k ++ [(1, cA k, [])] ++ [(0, cA (k + 1), [])] ++ [(2, cA (k + 1), [])])[2 * (k + 1) - 1]? = _
  have hl := stp_len k
  rw [List.append_assoc, List.append_assoc, List.getElem?_append_right (by omega), show 2 * (k + 1) - 1 - (stp k).length = 0 by omega]
  rfl
theorem stepEq {K : PySem.W.Frag} {H : Hp} {n i : Int} {c d l e : Addr} (h1 : H c = some (.dK [(.inr nA, .int i)])) (h2 : H d = some (.dK [(.inr nA, .int i)])) (h3 : H l = some (.lst [])) (h4 : H e = some (.lst [])) :
    Paired (EqV K H 20) [.int n, .ref c, .ref l] [.int n, .ref d, .ref e] :=
  .cons (.inl ⟨rfl, rfl⟩) (.cons (.inr (.inr (.inr ⟨c, d, _, _, rfl, rfl, h1, h2, rfl, fun p hp => by rw [List.mem_singleton.mp hp]; exact ⟨_, valV_pos rfl, .inl ⟨rfl, rfl⟩⟩⟩))) (.cons (.inr (.inr (.inl ⟨l, e, [], [], rfl, rfl, SqL.of h3, SqL.of h4, .nil⟩))) .nil))
theorem free_of {H H' : Hp} {a : Addr} (s : Same H H') (e : H' a = none) : H a = none := by
  cases z : H a with
  | none => rfl
  | some u => rw [s _ _ z] at e; cases e
section
variable {P : Program} {w : World} {K : PySem.W.Frag} {mg : Str → Option Value} {base : Heap} {C : Addr}
def spLong : Sp := fun vs H Q _ => ∃ m : Nat, vs = [.int (m : Int)] ∧ 900 ≤ m ∧ m < 1300 ∧ ∀ H', Same H H' → Q (.bl true) H'
theorem ok_l_long_loops (T0 : Top K mg C) {k : Nat} (c_meant : Cal P w K mg base "meant" ["tree", "given", "most"] k spMeant) : Cal P w K mg base "_law_long_loops" ["_law_many"] (k + 1) spLong := by
  have T := T0
  refine T.d_l_long_loops.ok sc_l_long_loops (fun _ _ _ _ _ _ us hl => match us, hl with | [_], _ => rfl) (fun vs H Q E h => ?_) (fun f cdv A outer s0 H vs Q E hr h => ?_)
  · obtain ⟨m, rfl, _⟩ := h
    rfl
  · obtain ⟨m, rfl, m1, m2, q⟩ := h
    refine ⟨_, (pss_cons (ps_set (i := 1) sc_l_long_loops.nd rfl (Or.inl rfl) (pe_tup (pa_cons pe_str (pa_cons pe_str (pa_cons (pe_tup (pa_cons pe_str (pa_cons (pe_tup (pa_cons pe_str (pa_cons pe_str pa_nil))) (pa_cons (pe_tup (pa_cons pe_str (pa_cons pe_int pa_nil))) pa_nil)))) pa_nil)))))
      (pss_cons (ps_set (i := 2) sc_l_long_loops.nd rfl (Or.inl rfl) (pe_lst (pa_cons (pe_tup (pa_cons pe_str (pa_cons (pe_tup (pa_cons pe_str (pa_cons (pe_tup (pa_cons pe_str (pa_cons pe_str pa_nil))) (pa_cons (pe_tup (pa_cons pe_str (pa_cons (pv 0) pa_nil))) pa_nil)))) (pa_cons (pe_lst (pa_cons (pv 1) pa_nil)) pa_nil)))) (pa_cons (pe_tup (pa_cons pe_str (pa_cons (pe_tup (pa_cons pe_str (pa_cons pe_str pa_nil))) pa_nil))) pa_nil))))
      (pss_cons (ps_asg (pe_cl c_meant hr rfl (pa_cons (pe_tup (pa_cons (pe_lst (pa_cons (pe_tup (pa_cons pe_str (pa_cons pe_str (pa_cons pe_int pa_nil)))) pa_nil)) (pa_cons (pe_lst pa_nil) (pa_cons (pv 2) pa_nil)))) (pa_cons (pe_lst pa_nil) (pa_cons pe_int pa_nil)))) (pg_tup rfl (pgs_cons (pg_name (i := 3) sc_l_long_loops.nd rfl (Or.inl rfl)) (pgs_cons (pg_name (i := 4) sc_l_long_loops.nd rfl (Or.inl rfl)) (pgs_cons (pg_name (i := 5) sc_l_long_loops.nd rfl (Or.inl rfl)) (pgs_cons (pg_name (i := 6) sc_l_long_loops.nd rfl (Or.inl rfl)) pgs_nil))))))
      (pss_cons (ps_if (PW.pt (pw_or (pt_cmpR (op_neD hr.units) (pv 3) (pe_lst (pa_cons (pv 0) pa_nil)) (nomark _)) (pw_or (pt_cmpR op_ne (pv 4) pe_str (nomark _)) (pw_or (pt_cmpR (op_ne_dictA (Nat.lt_of_le_of_lt (Nat.le_add_right _ _) hr.units)) (pv 5) (pe_disp (pps_cons pe_str (pv 0) pps_nil) (by rfl) (by rfl) (fun z => by cases z) (by decide)) (nomark _)) (pw_or1 (pt_cmpR op_ne (pe_callB call_len_seq rfl T.len_ (by decide +kernel) (pa_cons (pv 6) pa_nil)) (pe_op op_add (pe_op op_mul pe_int (pv 0)) pe_int) (nomark _))))))) (pss_one (ps_ret pe_bl)) pss_nil)
      (pss_cons (ps_if (PW.pt (pw_or (pt_cmpR (op_neT hr.units) (pe_ix ix_list (pv 6) (pe_un un_neg pe_int) (fun _ _ => rfl)) (pe_tup (pa_cons pe_int (pa_cons (pe_disp (pps_cons pe_str (pv 0) pps_nil) (by rfl) (by rfl) (fun z => by cases z) (by decide)) (pa_cons (pe_lst pa_nil) pa_nil)))) (nomark _)) (pw_or1 (pt_cmpR (op_neT hr.units) (pe_ix ix_list (pv 6) (pe_op op_sub (pe_op op_mul pe_int (pv 0)) pe_int) (fun _ _ => rfl)) (pe_tup (pa_cons pe_int (pa_cons (pe_disp (pps_cons pe_str (pe_op op_sub (pv 0) pe_int) pps_nil) (by rfl) (by rfl) (fun z => by cases z) (by decide)) (pa_cons (pe_lst pa_nil) pa_nil)))) (nomark _))))) (pss_one (ps_ret pe_bl)) pss_nil)
      (pss_cons (ps_asg (pe_cl c_meant hr rfl (pa_cons (pe_tup (pa_cons (pe_lst pa_nil) (pa_cons (pe_lst pa_nil) (pa_cons (pe_lst (pa_cons (pe_tup (pa_cons pe_str (pa_cons (pe_tup (pa_cons pe_str (pa_cons pe_bl pa_nil))) (pa_cons (pe_lst pa_nil) pa_nil)))) pa_nil)) pa_nil)))) (pa_cons (pe_lst pa_nil) (pa_cons pe_int pa_nil)))) (pg_tup rfl (pgs_cons (pg_name (i := 3) sc_l_long_loops.nd rfl (Or.inl rfl)) (pgs_cons (pg_name (i := 4) sc_l_long_loops.nd rfl (Or.inl rfl)) (pgs_cons (pg_name (i := 5) sc_l_long_loops.nd rfl (Or.inl rfl)) (pgs_cons (pg_name (i := 6) sc_l_long_loops.nd rfl (Or.inl rfl)) pgs_nil))))))
      (pss_one (ps_ret (pe_and (pe_cmpR (op_eqD hr.units) (pv 3) (pe_lst pa_nil) (nomark _)) (pe_and (pe_cmpR op_eq (pv 4) pe_str (nomark _)) (pe_and (pe_cmpR (op_eq_dictA (Nat.lt_of_le_of_lt (Nat.le_add_right _ _) hr.units)) (pv 5) pe_dnewK (nomark _)) (pe_one (pe_cmpR (op_eqD hr.units) (pe_lc (own := [("_law_step", 7)]) rfl sc_l_long_loops.nd (pi_list (pv 6)) (blkOk_by (own := [("_law_step", 7)]) (N := ["_law_many", "_law_raised", "_law_rows_here", "_law_told", "_law_end", "_law_cells", "_law_steps", "_law_step"]) (sc := defScope s_l_long_loops) (by decide +kernel)) (fun _ _ _ _ _ => (pg_name (i := 7) sc_l_long_loops.nd rfl (Or.inl rfl))) (fun _ _ _ _ _ => pts_nil) (fun _ _ _ _ _ => (pe_ix (ixTk (K := K) rfl) (pv 7) pe_int (fun _ _ => rfl)))) (pe_op op_rep (pe_lst (pa_cons pe_int pa_nil)) pe_int) (nomark _)))))))))))))), ?_⟩
    refine ⟨(by show 2 ≤ sizeLine; decide), fun t1 h_t1 => ?_⟩
    have s_t1 := same_new h_t1 (.tup [.str "name", .str "a"])
    have e_t1 : (upd H t1 (.tup [.str "name", .str "a"])) t1 = some (.tup [.str "name", .str "a"]) := upd_same
    show (fun Hx => _) (upd H t1 (.tup [.str "name", .str "a"]))
    generalize upd H t1 (.tup [.str "name", .str "a"]) = H1 at s_t1 e_t1 ⊢
    refine ⟨(by show 2 ≤ sizeLine; decide), fun t2 h_t2 => ?_⟩
    have s_t2 := same_new h_t2 (.tup [.str "num", .int 1])
    have e_t2 : (upd H1 t2 (.tup [.str "num", .int 1])) t2 = some (.tup [.str "num", .int 1]) := upd_same
    show (fun Hx => _) (upd H1 t2 (.tup [.str "num", .int 1]))
    generalize upd H1 t2 (.tup [.str "num", .int 1]) = H2 at s_t2 e_t2 ⊢
    refine ⟨(by show 3 ≤ sizeLine; decide), fun t3 h_t3 => ?_⟩
    have s_t3 := same_new h_t3 (.tup [.str "+", .ref t1, .ref t2])
    have e_t3 : (upd H2 t3 (.tup [.str "+", .ref t1, .ref t2])) t3 = some (.tup [.str "+", .ref t1, .ref t2]) := upd_same
    show (fun Hx => _) (upd H2 t3 (.tup [.str "+", .ref t1, .ref t2]))
    generalize upd H2 t3 (.tup [.str "+", .ref t1, .ref t2]) = H3 at s_t3 e_t3 ⊢
    refine ⟨(by show 3 ≤ sizeLine; decide), fun t4 h_t4 => ?_⟩
    have s_t4 := same_new h_t4 (.tup [.str "set", .str "a", .ref t3])
    have e_t4 : (upd H3 t4 (.tup [.str "set", .str "a", .ref t3])) t4 = some (.tup [.str "set", .str "a", .ref t3]) := upd_same
    show (fun Hx => _) (upd H3 t4 (.tup [.str "set", .str "a", .ref t3]))
    generalize upd H3 t4 (.tup [.str "set", .str "a", .ref t3]) = H4 at s_t4 e_t4 ⊢
    refine ⟨(by show 2 ≤ sizeLine; decide), fun u1 h_u1 => ?_⟩
    have s_u1 := same_new h_u1 (.tup [.str "name", .str "a"])
    have e_u1 : (upd H4 u1 (.tup [.str "name", .str "a"])) u1 = some (.tup [.str "name", .str "a"]) := upd_same
    show (fun Hx => _) (upd H4 u1 (.tup [.str "name", .str "a"]))
    generalize upd H4 u1 (.tup [.str "name", .str "a"]) = H5 at s_u1 e_u1 ⊢
    refine ⟨_, rfl, (by show 2 ≤ sizeLine; decide), fun u2 h_u2 => ?_⟩
    have s_u2 := same_new h_u2 (.tup [.str "num", .int (m : Int)])
    have e_u2 : (upd H5 u2 (.tup [.str "num", .int (m : Int)])) u2 = some (.tup [.str "num", .int (m : Int)]) := upd_same
    show (fun Hx => _) (upd H5 u2 (.tup [.str "num", .int (m : Int)]))
    generalize upd H5 u2 (.tup [.str "num", .int (m : Int)]) = H6 at s_u2 e_u2 ⊢
    refine ⟨(by show 3 ≤ sizeLine; decide), fun u3 h_u3 => ?_⟩
    have s_u3 := same_new h_u3 (.tup [.str "<", .ref u1, .ref u2])
    have e_u3 : (upd H6 u3 (.tup [.str "<", .ref u1, .ref u2])) u3 = some (.tup [.str "<", .ref u1, .ref u2]) := upd_same
    show (fun Hx => _) (upd H6 u3 (.tup [.str "<", .ref u1, .ref u2]))
    generalize upd H6 u3 (.tup [.str "<", .ref u1, .ref u2]) = H7 at s_u3 e_u3 ⊢
    refine ⟨_, rfl, (by show 1 ≤ sizeLine; decide), fun u4 h_u4 => ?_⟩
    have s_u4 := same_new h_u4 (.lst [.ref t4])
    have e_u4 : (upd H7 u4 (.lst [.ref t4])) u4 = some (.lst [.ref t4]) := upd_same
    show (fun Hx => _) (upd H7 u4 (.lst [.ref t4]))
    generalize upd H7 u4 (.lst [.ref t4]) = H8 at s_u4 e_u4 ⊢
    refine ⟨(by show 3 ≤ sizeLine; decide), fun u5 h_u5 => ?_⟩
    have s_u5 := same_new h_u5 (.tup [.str "while", .ref u3, .ref u4])
    have e_u5 : (upd H8 u5 (.tup [.str "while", .ref u3, .ref u4])) u5 = some (.tup [.str "while", .ref u3, .ref u4]) := upd_same
    show (fun Hx => _) (upd H8 u5 (.tup [.str "while", .ref u3, .ref u4]))
    generalize upd H8 u5 (.tup [.str "while", .ref u3, .ref u4]) = H9 at s_u5 e_u5 ⊢
    refine ⟨(by show 2 ≤ sizeLine; decide), fun u6 h_u6 => ?_⟩
    have s_u6 := same_new h_u6 (.tup [.str "name", .str "a"])
    have e_u6 : (upd H9 u6 (.tup [.str "name", .str "a"])) u6 = some (.tup [.str "name", .str "a"]) := upd_same
    show (fun Hx => _) (upd H9 u6 (.tup [.str "name", .str "a"]))
    generalize upd H9 u6 (.tup [.str "name", .str "a"]) = H10 at s_u6 e_u6 ⊢
    refine ⟨(by show 2 ≤ sizeLine; decide), fun u7 h_u7 => ?_⟩
    have s_u7 := same_new h_u7 (.tup [.str "tell", .ref u6])
    have e_u7 : (upd H10 u7 (.tup [.str "tell", .ref u6])) u7 = some (.tup [.str "tell", .ref u6]) := upd_same
    show (fun Hx => _) (upd H10 u7 (.tup [.str "tell", .ref u6]))
    generalize upd H10 u7 (.tup [.str "tell", .ref u6]) = H11 at s_u7 e_u7 ⊢
    refine ⟨(by show 2 ≤ sizeLine; decide), fun u8 h_u8 => ?_⟩
    have s_u8 := same_new h_u8 (.lst [.ref u5, .ref u7])
    have e_u8 : (upd H11 u8 (.lst [.ref u5, .ref u7])) u8 = some (.lst [.ref u5, .ref u7]) := upd_same
    show (fun Hx => _) (upd H11 u8 (.lst [.ref u5, .ref u7]))
    generalize upd H11 u8 (.lst [.ref u5, .ref u7]) = H12 at s_u8 e_u8 ⊢
    refine ⟨(by show 3 ≤ sizeLine; decide), fun v1 h_v1 => ?_⟩
    have s_v1 := same_new h_v1 (.tup [.str "num", .str "a", .int 1])
    have e_v1 : (upd H12 v1 (.tup [.str "num", .str "a", .int 1])) v1 = some (.tup [.str "num", .str "a", .int 1]) := upd_same
    show (fun Hx => _) (upd H12 v1 (.tup [.str "num", .str "a", .int 1]))
    generalize upd H12 v1 (.tup [.str "num", .str "a", .int 1]) = H13 at s_v1 e_v1 ⊢
    refine ⟨(by show 1 ≤ sizeLine; decide), fun v2 h_v2 => ?_⟩
    have s_v2 := same_new h_v2 (.lst [.ref v1])
    have e_v2 : (upd H13 v2 (.lst [.ref v1])) v2 = some (.lst [.ref v1]) := upd_same
    show (fun Hx => _) (upd H13 v2 (.lst [.ref v1]))
    generalize upd H13 v2 (.lst [.ref v1]) = H14 at s_v2 e_v2 ⊢
    refine ⟨(by show 0 ≤ sizeLine; decide), fun v3 h_v3 => ?_⟩
    have s_v3 := same_new h_v3 (.lst [])
    have e_v3 : (upd H14 v3 (.lst [])) v3 = some (.lst []) := upd_same
    show (fun Hx => _) (upd H14 v3 (.lst []))
    generalize upd H14 v3 (.lst []) = H15 at s_v3 e_v3 ⊢
    refine ⟨_, rfl, (by show 3 ≤ sizeLine; decide), fun v4 h_v4 => ?_⟩
    have s_v4 := same_new h_v4 (.tup [.ref v2, .ref v3, .ref u8])
    have e_v4 : (upd H15 v4 (.tup [.ref v2, .ref v3, .ref u8])) v4 = some (.tup [.ref v2, .ref v3, .ref u8]) := upd_same
    show (fun Hx => _) (upd H15 v4 (.tup [.ref v2, .ref v3, .ref u8]))
    generalize upd H15 v4 (.tup [.ref v2, .ref v3, .ref u8]) = H16 at s_v4 e_v4 ⊢
    refine ⟨(by show 0 ≤ sizeLine; decide), fun v5 h_v5 => ?_⟩
    have s_v5 := same_new h_v5 (.lst [])
    have e_v5 : (upd H16 v5 (.lst [])) v5 = some (.lst []) := upd_same
    show (fun Hx => _) (upd H16 v5 (.lst []))
    generalize upd H16 v5 (.lst []) = H17 at s_v5 e_v5 ⊢
    have tv : TreeV H17 (.ref v4) (treeA m) := by
      have x1 : ExV H17 (.name nA) (.ref t1) := ⟨t1, rfl, (((((((((((((((((s_t2).trans s_t3).trans s_t4).trans s_u1).trans s_u2).trans s_u3).trans s_u4).trans s_u5).trans s_u6).trans s_u7).trans s_u8).trans s_v1).trans s_v2).trans s_v3).trans s_v4).trans s_v5) _ _ e_t1)⟩
      have x3 : ExV H17 (.op .add (.name nA) (.num 1)) (.ref t3) := ⟨.ref t1, .ref t2, ⟨t3, rfl, (((((((((((((((s_t4).trans s_u1).trans s_u2).trans s_u3).trans s_u4).trans s_u5).trans s_u6).trans s_u7).trans s_u8).trans s_v1).trans s_v2).trans s_v3).trans s_v4).trans s_v5) _ _ e_t3)⟩, x1, ⟨t2, rfl, ((((((((((((((((s_t3).trans s_t4).trans s_u1).trans s_u2).trans s_u3).trans s_u4).trans s_u5).trans s_u6).trans s_u7).trans s_u8).trans s_v1).trans s_v2).trans s_v3).trans s_v4).trans s_v5) _ _ e_t2)⟩⟩
      have x4 : PlV H17 (.set nA (.op .add (.name nA) (.num 1))) (.ref t4) := ⟨.ref t3, ⟨t4, rfl, ((((((((((((((s_u1).trans s_u2).trans s_u3).trans s_u4).trans s_u5).trans s_u6).trans s_u7).trans s_u8).trans s_v1).trans s_v2).trans s_v3).trans s_v4).trans s_v5) _ _ e_t4)⟩, x3⟩
      have xu : ExV H17 (condA m) (.ref u3) := ⟨.ref u1, .ref u2, ⟨u3, rfl, (((((((((((s_u4).trans s_u5).trans s_u6).trans s_u7).trans s_u8).trans s_v1).trans s_v2).trans s_v3).trans s_v4).trans s_v5) _ _ e_u3)⟩, ⟨u1, rfl, (((((((((((((s_u2).trans s_u3).trans s_u4).trans s_u5).trans s_u6).trans s_u7).trans s_u8).trans s_v1).trans s_v2).trans s_v3).trans s_v4).trans s_v5) _ _ e_u1)⟩, ⟨u2, rfl, ((((((((((((s_u3).trans s_u4).trans s_u5).trans s_u6).trans s_u7).trans s_u8).trans s_v1).trans s_v2).trans s_v3).trans s_v4).trans s_v5) _ _ e_u2)⟩⟩
      have xt : PlV H17 (.tell (.name nA)) (.ref u7) := ⟨.ref u6, ⟨u7, rfl, (((((((s_u8).trans s_v1).trans s_v2).trans s_v3).trans s_v4).trans s_v5) _ _ e_u7)⟩, ⟨u6, rfl, ((((((((s_u7).trans s_u8).trans s_v1).trans s_v2).trans s_v3).trans s_v4).trans s_v5) _ _ e_u6)⟩⟩
      exact ⟨v2, v3, u8, [.ref v1], [], [.ref u5, .ref u7], ⟨v4, rfl, ((s_v5) _ _ e_v4)⟩, ((((s_v3).trans s_v4).trans s_v5) _ _ e_v2), ⟨_, [], rfl, ⟨v1, rfl, (((((s_v2).trans s_v3).trans s_v4).trans s_v5) _ _ e_v1)⟩, rfl⟩, (((s_v4).trans s_v5) _ _ e_v3), rfl, ((((((s_v1).trans s_v2).trans s_v3).trans s_v4).trans s_v5) _ _ e_u8), ⟨_, _, .ref u3, u4, [.ref t4], rfl, ⟨u5, rfl, (((((((((s_u6).trans s_u7).trans s_u8).trans s_v1).trans s_v2).trans s_v3).trans s_v4).trans s_v5) _ _ e_u5)⟩, xu, ((((((((((s_u5).trans s_u6).trans s_u7).trans s_u8).trans s_v1).trans s_v2).trans s_v3).trans s_v4).trans s_v5) _ _ e_u4), ⟨_, [], rfl, x4, rfl⟩, ⟨_, [], rfl, xt, rfl⟩⟩⟩
    have sH := (((((((((((((((((s_t1).trans s_t2).trans s_t3).trans s_t4).trans s_u1).trans s_u2).trans s_u3).trans s_u4).trans s_u5).trans s_u6).trans s_u7).trans s_u8).trans s_v1).trans s_v2).trans s_v3).trans s_v4).trans s_v5)
    refine ⟨v5, .ref v4, treeA m, [], 5000, .go, endA m, rfl, tv, e_v5, okA (by omega), (fun v hv => nomatch hv), by decide, runA (by omega), fun v I1 sI hres => ?_⟩
    obtain ⟨ra, rb, rs, vs, ⟨rp, rfl, g1⟩, g2, g3, g4, g5⟩ := hres
    have sH1 := sH.trans sI
    refine ⟨rp, _, rfl, SqT.of g1, rfl, _, _, rfl, _, _, rfl, _, _, rfl, _, _, rfl, rfl, ?_⟩
    have hlen := g5.len
    have hst : (endA m).steps.length = 2 * m + 2 := by show (stp m ++ [(2, cA m, [])]).length = _; rw [List.length_append, stp_len]; rfl
    refine ⟨_, rfl, _, rfl, (by show 1 ≤ sizeLine; decide), fun l1 hl1 => ?_⟩
    have s1 := same_new hl1 (.lst [.int (m : Int)])
    have e1 : (upd I1 l1 (.lst [.int (m : Int)])) l1 = some (.lst [.int (m : Int)]) := upd_same
    show (fun Hx => _) (upd I1 l1 (.lst [.int (m : Int)]))
    generalize upd I1 l1 (.lst [.int (m : Int)]) = I2 at s1 e1 ⊢
    refine ⟨.list (dI [(m : Int)]), .list (dI [(m : Int)]), .lst (SqL.of (s1 _ _ g2)) (dp_il [(m : Int)]), .lst (SqL.of e1) (dp_il [(m : Int)]), shaped_il _, shaped_il _, _, rfl, iteN (by rw [eqv_l, decide_eq_true rfl]; rfl) ?_⟩
    refine ⟨_, rfl, rfl, _, rfl, ifND (fun z => absurd rfl z) (fun _ => ?_)⟩
    have g3' := csA g3
    refine ⟨_, rfl, ?_⟩
    intro d1 h_d1
    refine ⟨_, rfl, upd_same, [(.inr nA, .int (m : Int))], rfl, by show 1 ≤ 15; decide, ?_⟩
    have s_d1 : Same I2 (upd (upd I2 d1 (.dK [])) d1 (.dK (mergeK [] [(.inr nA, .int (m : Int))]))) := same_upd (same_new h_d1 _) h_d1 _
    have e_d1 : (upd (upd I2 d1 (.dK [])) d1 (.dK (mergeK [] [(.inr nA, .int (m : Int))]))) d1 = some (.dK [(.inr nA, .int (m : Int))]) := by rw [upd_same, mergeK1]
    show (fun Hx => _) (upd (upd I2 d1 (.dK [])) d1 (.dK (mergeK [] [(.inr nA, .int (m : Int))])))
    generalize upd (upd I2 d1 (.dK [])) d1 (.dK (mergeK [] [(.inr nA, .int (m : Int))])) = I3 at s_d1 e_d1 ⊢
    refine ⟨rb, d1, [(.inr nA, .int (m : Int))], [(.inr nA, .int (m : Int))], rfl, rfl, s_d1 _ _ (s1 _ _ g3'), e_d1, rfl, (fun p hp => by rw [List.mem_singleton.mp hp]; exact ⟨valV_pos rfl, rfl⟩), _, rfl, iteF ?_⟩
    have g4' := s_d1 _ _ (s1 _ _ g4)
    refine ⟨_, rfl, rs, vs, rfl, .inl (SqL.of g4'), _, rfl, _, _, rfl, rfl, .inl ⟨by decide, by decide⟩, _, _, rfl, rfl, rfl, _, rfl, ifND (fun z => absurd (by rw [hlen, hst]; rfl) z) (fun _ => ?_)⟩
    have hl1' : vs[2 * m + 1]? = some vs[2 * m + 1] := List.getElem?_eq_getElem (by omega)
    have hl2' : vs[2 * m - 1]? = some vs[2 * m - 1] := List.getElem?_eq_getElem (by omega)
    obtain ⟨n2, cs2, to2, p2, c2, l2, r1, r2, r3, r4, r5⟩ := g5.at_ hl1'
    rw [stepsA_last] at r1
    cases r1
    obtain ⟨n3, cs3, to3, p3, c3, l3, y1, y2, y3, y4, y5⟩ := g5.at_ hl2'
    rw [stepsA_prev (by omega)] at y1
    cases y1
    have r4' := csA r4
    have y4' := csA y4
    rw [r2] at hl1'
    rw [y2] at hl2'
    have s13 := s1.trans s_d1
    refine ⟨_, rfl, _, rfl, rs, vs, _, .ref p2, rfl, rfl, SqL.of g4', at_lastI (by rw [hlen, hst]; exact hl1'), ?_⟩
    intro d2 h_d2
    refine ⟨_, rfl, upd_same, [(.inr nA, .int (m : Int))], rfl, by show 1 ≤ 15; decide, ?_⟩
    have s_d2 : Same I3 (upd (upd I3 d2 (.dK [])) d2 (.dK (mergeK [] [(.inr nA, .int (m : Int))]))) := same_upd (same_new h_d2 _) h_d2 _
    have e_d2 : (upd (upd I3 d2 (.dK [])) d2 (.dK (mergeK [] [(.inr nA, .int (m : Int))]))) d2 = some (.dK [(.inr nA, .int (m : Int))]) := by rw [upd_same, mergeK1]
    show (fun Hx => _) (upd (upd I3 d2 (.dK [])) d2 (.dK (mergeK [] [(.inr nA, .int (m : Int))])))
    generalize upd (upd I3 d2 (.dK [])) d2 (.dK (mergeK [] [(.inr nA, .int (m : Int))])) = I4 at s_d2 e_d2 ⊢
    refine ⟨(by show 0 ≤ sizeLine; decide), fun l4 hl4 => ⟨(by show 3 ≤ sizeLine; decide), fun t5 ht5 => ?_⟩⟩
    have s4 := same_new hl4 (.lst [])
    have s5 := same_new ht5 (.tup [.int 2, .ref d2, .ref l4])
    have s15 := ((s13.trans s_d2).trans s4).trans s5
    refine ⟨p2, t5, _, _, rfl, rfl, SqT.of (s15 _ _ r3), SqT.of upd_same, stepEq (s15 _ _ r4') (s5 _ _ (s4 _ _ e_d2)) (s15 _ _ r5) (s5 _ _ upd_same), _, rfl, iteF ?_⟩
    have g4'' := s5 _ _ (s4 _ _ (s_d2 _ _ g4'))
    show (fun Hx => _) (upd (upd I4 l4 (.lst [])) t5 (.tup [.int 2, .ref d2, .ref l4]))
    generalize upd (upd I4 l4 (.lst [])) t5 (.tup [.int 2, .ref d2, .ref l4]) = I5 at s5 s15 g4'' ⊢
    refine ⟨_, rfl, _, rfl, _, _, rfl, rfl, .inl ⟨by decide, by decide⟩, _, _, rfl, rfl, rs, vs, _, .ref p3, rfl, rfl, SqL.of g4'', at_of (j := 2 * m - 1) (by omega) hl2', ?_⟩
    intro d3 h_d3
    refine ⟨_, rfl, _, _, rfl, rfl, upd_same, [(.inr nA, .int ((m : Int) - 1))], rfl, by show 1 ≤ 15; decide, ?_⟩
    have s_d3 : Same I5 (upd (upd I5 d3 (.dK [])) d3 (.dK (mergeK [] [(.inr nA, .int ((m : Int) - 1))]))) := same_upd (same_new h_d3 _) h_d3 _
    have e_d3 : (upd (upd I5 d3 (.dK [])) d3 (.dK (mergeK [] [(.inr nA, .int ((m : Int) - 1))]))) d3 = some (.dK [(.inr nA, .int ((m : Int) - 1))]) := by rw [upd_same, mergeK1]
    show (fun Hx => _) (upd (upd I5 d3 (.dK [])) d3 (.dK (mergeK [] [(.inr nA, .int ((m : Int) - 1))])))
    generalize upd (upd I5 d3 (.dK [])) d3 (.dK (mergeK [] [(.inr nA, .int ((m : Int) - 1))])) = I6 at s_d3 e_d3 ⊢
    refine ⟨(by show 0 ≤ sizeLine; decide), fun l5 hl5 => ⟨(by show 3 ≤ sizeLine; decide), fun t6 ht6 => ?_⟩⟩
    have s6 := same_new hl5 (.lst [])
    have s7 := same_new ht6 (.tup [.int 1, .ref d3, .ref l5])
    have s17 := ((s15.trans s_d3).trans s6).trans s7
    have ecast : (((m - 1 : Nat)) : Int) = (m : Int) - 1 := by omega
    rw [ecast] at y4'
    refine ⟨p3, t6, _, _, rfl, rfl, SqT.of (s17 _ _ y3), SqT.of upd_same, stepEq (s17 _ _ y4') (s7 _ _ (s6 _ _ e_d3)) (s17 _ _ y5) (s7 _ _ upd_same), _, rfl, iteF ?_⟩
    have sB : Same H (upd (upd I6 l5 (.lst [])) t6 (.tup [.int 1, .ref d3, .ref l5])) := sH1.trans s17
    show (fun Hx => _) (upd (upd I6 l5 (.lst [])) t6 (.tup [.int 1, .ref d3, .ref l5]))
    generalize upd (upd I6 l5 (.lst [])) t6 (.tup [.int 1, .ref d3, .ref l5]) = J0 at sB ⊢
    refine ⟨(by show 0 ≤ sizeLine; decide), fun w1 h_w1 => ?_⟩
    have s_w1 := same_new h_w1 (.lst [])
    have e_w1 : (upd J0 w1 (.lst [])) w1 = some (.lst []) := upd_same
    show (fun Hx => _) (upd J0 w1 (.lst []))
    generalize upd J0 w1 (.lst []) = H101 at s_w1 e_w1 ⊢
    refine ⟨(by show 0 ≤ sizeLine; decide), fun w2 h_w2 => ?_⟩
    have s_w2 := same_new h_w2 (.lst [])
    have e_w2 : (upd H101 w2 (.lst [])) w2 = some (.lst []) := upd_same
    show (fun Hx => _) (upd H101 w2 (.lst []))
    generalize upd H101 w2 (.lst []) = H102 at s_w2 e_w2 ⊢
    refine ⟨(by show 2 ≤ sizeLine; decide), fun w3 h_w3 => ?_⟩
    have s_w3 := same_new h_w3 (.tup [.str "flag", .bl true])
    have e_w3 : (upd H102 w3 (.tup [.str "flag", .bl true])) w3 = some (.tup [.str "flag", .bl true]) := upd_same
    show (fun Hx => _) (upd H102 w3 (.tup [.str "flag", .bl true]))
    generalize upd H102 w3 (.tup [.str "flag", .bl true]) = H103 at s_w3 e_w3 ⊢
    refine ⟨(by show 0 ≤ sizeLine; decide), fun w4 h_w4 => ?_⟩
    have s_w4 := same_new h_w4 (.lst [])
    have e_w4 : (upd H103 w4 (.lst [])) w4 = some (.lst []) := upd_same
    show (fun Hx => _) (upd H103 w4 (.lst []))
    generalize upd H103 w4 (.lst []) = H104 at s_w4 e_w4 ⊢
    refine ⟨(by show 3 ≤ sizeLine; decide), fun w5 h_w5 => ?_⟩
    have s_w5 := same_new h_w5 (.tup [.str "while", .ref w3, .ref w4])
    have e_w5 : (upd H104 w5 (.tup [.str "while", .ref w3, .ref w4])) w5 = some (.tup [.str "while", .ref w3, .ref w4]) := upd_same
    show (fun Hx => _) (upd H104 w5 (.tup [.str "while", .ref w3, .ref w4]))
    generalize upd H104 w5 (.tup [.str "while", .ref w3, .ref w4]) = H105 at s_w5 e_w5 ⊢
    refine ⟨(by show 1 ≤ sizeLine; decide), fun w6 h_w6 => ?_⟩
    have s_w6 := same_new h_w6 (.lst [.ref w5])
    have e_w6 : (upd H105 w6 (.lst [.ref w5])) w6 = some (.lst [.ref w5]) := upd_same
    show (fun Hx => _) (upd H105 w6 (.lst [.ref w5]))
    generalize upd H105 w6 (.lst [.ref w5]) = H106 at s_w6 e_w6 ⊢
    refine ⟨(by show 3 ≤ sizeLine; decide), fun w7 h_w7 => ?_⟩
    have s_w7 := same_new h_w7 (.tup [.ref w1, .ref w2, .ref w6])
    have e_w7 : (upd H106 w7 (.tup [.ref w1, .ref w2, .ref w6])) w7 = some (.tup [.ref w1, .ref w2, .ref w6]) := upd_same
    show (fun Hx => _) (upd H106 w7 (.tup [.ref w1, .ref w2, .ref w6]))
    generalize upd H106 w7 (.tup [.ref w1, .ref w2, .ref w6]) = H107 at s_w7 e_w7 ⊢
    refine ⟨(by show 0 ≤ sizeLine; decide), fun w8 h_w8 => ?_⟩
    have s_w8 := same_new h_w8 (.lst [])
    have e_w8 : (upd H107 w8 (.lst [])) w8 = some (.lst []) := upd_same
    show (fun Hx => _) (upd H107 w8 (.lst []))
    generalize upd H107 w8 (.lst []) = H108 at s_w8 e_w8 ⊢
    have tvB : TreeV H108 (.ref w7) treeB := ⟨w1, w2, w6, [], [], [.ref w5], ⟨w7, rfl, ((s_w8) _ _ e_w7)⟩, ((((((((s_w2).trans s_w3).trans s_w4).trans s_w5).trans s_w6).trans s_w7).trans s_w8) _ _ e_w1), rfl, (((((((s_w3).trans s_w4).trans s_w5).trans s_w6).trans s_w7).trans s_w8) _ _ e_w2), rfl, (((s_w7).trans s_w8) _ _ e_w6), ⟨_, [], .ref w3, w4, [], rfl, ⟨w5, rfl, ((((s_w6).trans s_w7).trans s_w8) _ _ e_w5)⟩, ⟨w3, rfl, ((((((s_w4).trans s_w5).trans s_w6).trans s_w7).trans s_w8) _ _ e_w3)⟩, (((((s_w5).trans s_w6).trans s_w7).trans s_w8) _ _ e_w4), rfl, rfl⟩⟩
    have sH2 := sB.trans ((((((((s_w1).trans s_w2).trans s_w3).trans s_w4).trans s_w5).trans s_w6).trans s_w7).trans s_w8)
    refine ⟨w8, .ref w7, treeB, [], 3000, .going, SB 3000, rfl, tvB, e_w8, okB, (fun v hv => nomatch hv), by decide, runB (by decide), fun v J1 sJ hres => ?_⟩
    obtain ⟨xa, xb, xs, us, ⟨xp, rfl, f1⟩, f2, f3, f4, f5⟩ := hres
    have sJ1 := sH2.trans sJ
    refine ⟨xp, _, rfl, SqT.of f1, rfl, _, _, rfl, _, _, rfl, _, _, rfl, _, _, rfl, rfl, ?_⟩
    have hul : us.length = 3000 := by rw [f5.len]; exact SB_len 3000
    have f3' : J1 xb = some (.dK []) := by
      obtain ⟨kc, h1, h2⟩ := f3
      have k : KvsV J1 [] kc := h2
      match kc, k with
      | [], _ => exact h1
      | _ :: _, h => exact h.elim
    refine ⟨_, rfl, (by show 0 ≤ sizeLine; decide), fun b1 hb1 => ?_⟩
    have z1 := same_new hb1 (.lst [])
    refine ⟨.list (dI []), .list (dI []), .lst (SqL.of (z1 _ _ f2)) (dp_il []), .lst (SqL.of upd_same) (dp_il []), shaped_il _, shaped_il _, _, rfl, iteP (by rw [eqv_l, decide_eq_true rfl]) ?_⟩
    show (fun Hx => _) (upd J1 b1 (.lst []))
    generalize upd J1 b1 (.lst []) = J2 at z1 ⊢
    refine ⟨_, rfl, rfl, _, rfl, ifDT rfl ?_⟩
    refine ⟨_, rfl, ?_⟩
    intro b2 hb2
    have z2 := same_new hb2 (.dK [])
    refine ⟨xb, b2, [], [], rfl, rfl, z2 _ _ (z1 _ _ f3'), upd_same, rfl, (fun p hp => nomatch hp), _, rfl, iteT ?_⟩
    show (fun Hx => _) (upd J2 b2 (.dK []))
    generalize upd J2 b2 (.dK []) = J3 at z2 ⊢
    have z13 := z1.trans z2
    have f4' := z13 _ _ f4
    refine ⟨_, rfl, xs, rfl, ⟨_, SqL.of f4'⟩, fun r hr2 => ?_⟩
    refine lc_list (K := K) (a := xs) (xs := us) (fun i H' => Same J3 H' ∧ H' r = some (.lst (il (List.replicate i 0)))) ⟨same_new hr2 _, upd_same⟩ (fun i H' _ h => SqL.of (h.1 _ _ f4')) (fun i x H' hx h => ?_) (fun H' h => ?_)
    · obtain ⟨s, h1⟩ := h
      have hi : i < 3000 := by rw [← hul]; exact (List.getElem?_eq_some_iff.mp hx).1
      obtain ⟨n, cs, told, p, c, l, r1, rfl, r3, _, _⟩ := f5.at_ hx
      have r1' : (List.replicate 3000 ((0, [], []) : Nat × Cells × List Int))[i]? = some (n, cs, told) := r1
      rw [List.getElem?_replicate, if_pos hi] at r1'
      cases r1'
      refine ⟨rfl, _, rfl, p, _, _, _, rfl, rfl, SqT.of (s _ _ (z13 _ _ r3)), rfl, _, h1, szl (by rw [List.length_map, List.length_replicate]; omega), same_upd s hr2 _, ?_⟩
      rw [upd_same, List.replicate_succ']
      show _ = some (HO.lst ((List.replicate i (0 : Int) ++ [0]).map V.int))
      rw [List.map_append]
      rfl
    · obtain ⟨s, h1⟩ := h
      rw [hul] at h1
      refine ⟨(by show 1 ≤ sizeLine; decide), fun b3 hb3 => ?_⟩
      have z3 := same_new hb3 (.lst [.int 0])
      refine ⟨b3, _, _, rfl, rfl, upd_same, by decide, by decide, by decide, fun b4 hb4 => ?_⟩
      have e9 : (List.replicate (3000 : Int).toNat [V.int 0]).flatten = il (List.replicate 3000 0) := rep_il 3000
      rw [e9]
      have z4 := same_new hb4 (.lst (il (List.replicate 3000 0)))
      refine ⟨.list (dI (List.replicate 3000 0)), .list (dI (List.replicate 3000 0)), .lst (SqL.of (z4 _ _ (z3 _ _ h1))) (dp_il _), .lst (SqL.of upd_same) (dp_il _), shaped_il _, shaped_il _, ?_⟩
      rw [eqv_l, decide_eq_true rfl]
      exact q _ (sJ1.trans (z13.trans (s.trans (z3.trans z4))))
end
end GT
/-! law, and all defs together -/
namespace GT
open PySem PySem.Spec PyProof.Rows L2
theorem sc_law : FnScope ["_law_script", "_law_tree_here", "_law_given_here"] ["_law_script"] (defScope s_law) := ⟨rfl, rfl, rfl, by decide +kernel, rfl, by decide +kernel, by decide +kernel⟩
section
variable {P : Program} {w : World} {K : PySem.W.Frag} {mg : Str → Option Value} {base : Heap} {C : Addr}
def spLaw (K : PySem.W.Frag) : Sp := fun vs H Q _ => ∃ (a : Addr) (ns : List Int), vs = [.ref a] ∧ SqL K H a (ns.map V.int) ∧ ns.length ≤ 63 ∧ ∀ H', Q (.bl true) H'
theorem law_body (T0 : Top K mg C) {k : Nat} (c_l_tree : Cal P w K mg base "_law_tree" ["_law_cells"] k spTree) (c_l_given : Cal P w K mg base "_law_given" ["_law_script", "_law_many"] k (spGiven K)) (c_l_mixed : Cal P w K mg base "_law_mixed" ["_law_number", "_law_k"] k spMixed)
    (c_l_long_loops : Cal P w K mg base "_law_long_loops" ["_law_many"] k spLong) (c_meant : Cal P w K mg base "meant" ["tree", "given", "most"] k spMeant) (c_l_due : Cal P w K mg base "_law_due" ["_law_tree_here", "_law_given_here", "_law_most"] k spDue) (c_l_same : Cal P w K mg base "_law_same" ["_law_found", "_law_due_here"] k (spSame 6)) :
    ∀ f : Addr, BodyOk P w K mg base ["_law_script", "_law_tree_here", "_law_given_here"] "law" s_law f k (spLaw K) := by
  have T := T0
  intro f cdv A outer s0 H vs Q E hr h
  obtain ⟨a, ns, rfl, hS, hn, q⟩ := h
  refine ⟨_, (pss_cons (ps_set (i := 1) sc_law.nd rfl (Or.inl rfl) (pe_cl c_l_tree hr rfl (pa_cons (pe_slice sl_list (pv 0) po_none (po_some pe_int)) pa_nil)))
      (pss_cons (ps_set (i := 2) sc_law.nd rfl (Or.inl rfl) (pe_cl c_l_given hr rfl (pa_cons (pv 0) (pa_cons (pe_op op_mod (pe_cl c_l_mixed hr rfl (pa_cons (pe_callB call_len_seq rfl T.len_ (by decide +kernel) (pa_cons (pv 0) pa_nil)) (pa_cons pe_int pa_nil))) pe_int) pa_nil))))
      (pss_cons (ps_if (pt_not (pt_val (pe_cl c_l_long_loops hr rfl (pa_cons (pe_op op_add pe_int (pe_op op_mod (pe_cl c_l_mixed hr rfl (pa_cons (pe_callB call_len_seq rfl T.len_ (by decide +kernel) (pa_cons (pv 0) pa_nil)) (pa_cons pe_int pa_nil))) pe_int)) pa_nil)))) (pss_one (ps_ret pe_bl)) pss_nil)
      (pss_one (ps_ret (pe_cl c_l_same hr rfl (pa_cons (pe_cl c_meant hr rfl (pa_cons (pv 1) (pa_cons (pv 2) (pa_cons pe_int pa_nil)))) (pa_cons (pe_cl c_l_due hr rfl (pa_cons (pv 1) (pa_cons (pv 2) (pa_cons pe_int pa_nil)))) pa_nil)))))))), ?_⟩
  obtain ⟨l1, e1, l1n⟩ := cut_il ns none (some 63)
  refine ⟨_, rfl, _, rfl, a, _, rfl, hS, fun p hp => ?_⟩
  rw [show ns.map V.int = il ns from rfl, e1]
  have s1 := same_new hp (.lst (il l1))
  refine ⟨p, l1, rfl, upd_same, by omega, fun tv t H1 s2 htv hok => ?_⟩
  have hS1 := sqL_same (s1.trans s2) hS
  refine ⟨_, rfl, _, rfl, a, _, rfl, .inl hS1, _, _, rfl, fun r r0 r1 => ⟨_, _, rfl, rfl, (by show (0 : Int) < 10; decide), ?_⟩⟩
  refine ⟨a, ns, r % 10, rfl, hS1, Int.emod_nonneg _ (by decide), by have := Int.emod_lt_of_pos r (show (0 : Int) < 10 by decide); omega, fun gp l H2 s3 hg hin hgl => ?_⟩
  have hS2 := sqL_same s3 hS1
  have m0 := fun r : Int => Int.emod_nonneg r (show (400 : Int) ≠ 0 by decide)
  have m4 := fun r : Int => Int.emod_lt_of_pos r (show (0 : Int) < 400 by decide)
  refine ⟨_, rfl, a, _, rfl, .inl hS2, _, _, rfl, fun r2 _ _ => ⟨_, _, rfl, rfl, (by show (0 : Int) < 400; decide), _, _, rfl, rfl, ?_⟩⟩
  have hm0 := m0 r2
  have hm4 := m4 r2
  refine ⟨(900 + r2 % 400).toNat, by rw [show (((900 + r2 % 400).toNat : Nat) : Int) = 900 + r2 % 400 by omega]; rfl, by omega, by omega, fun H3 s4 => ⟨_, rfl, iteN rfl ?_⟩⟩
  have htv3 := (htv.mono s3).mono s4
  have hg3 := s4 _ _ hg
  obtain ⟨e, s, hrun⟩ := total hok.tab 150 (sta0 t l) (Nat.zero_le _) (Nat.sub_le _ _) t.ps.length (.rows t.main (allOf t.ps)) hok.main
  have ok2 : SOk2 (envOf t.D) s := run_ok2 hok.tab hrun t.ps.length hok.main ⟨⟨init_ok hok.sz, hok.env, hin, Nat.le_refl _⟩, fun x hx => nomatch hx⟩
  have hst : s.steps.length ≤ 150 := run_most hrun (Nat.zero_le _)
  refine ⟨_, rfl, _, rfl, gp, tv, t, l, 150, e, s, rfl, htv3, hg3, hok, hin, by decide, hrun, fun v H4 s5 res1 => ?_⟩
  refine ⟨_, rfl, _, rfl, gp, tv, t, l, 150, e, s, rfl, htv3.mono s5, s5 _ _ hg3, hok, hin, by omega, by decide, hrun, fun v2 H5 s6 res2 => ?_⟩
  refine ⟨v, v2, rfl, res_same (res1.mono s6) res2 ok2 (by omega) (by rw [envOf, List.length_map]; exact hok.len) (fun x hx => ?_), fun H' _ => q H'⟩
  have ee : (envOf t.D).map (·.1) = t.D.map (·.name) := by unfold envOf; rw [List.map_map]; rfl
  rw [ee] at hx
  obtain ⟨d, hd, rfl⟩ := List.mem_map.mp hx
  exact hok.lay d hd
theorem all_ok (T : Top K mg C) : ∀ f : Addr, BodyOk P w K mg base ["_law_script", "_law_tree_here", "_law_given_here"] "law" s_law f 91 (spLaw K) := by
  have signed := ok_signed (P := P) (w := w) (base := base) T 0
  have item_of := ok_item_of T signed
  have joined := ok_joined T signed
  have wor := ok_worth T (k := 2) (fun n => item_of.mono (by omega)) (fun n => joined.mono (by omega))
  have copied := ok_copied_cells (P := P) (w := w) (base := base) T 0
  have numd := ok_numbered (P := P) (w := w) (base := base) T 0
  have begin_ := ok_g_begin T copied
  have nextg := ok_g_next_given (P := P) (w := w) (base := base) T 0
  have dput := ok_do_put T (k := 9) (wor 7) (item_of.mono (by omega))
  have dplain := ok_do_plain T (k := 10) ((wor 7).mono (by omega)) dput (nextg.mono (by omega))
  have drows := ok_do_rows T (k := 11) (fun j => (wor 7).mono (by omega)) (fun j => begin_.mono (by omega)) (fun j => dplain.mono (by omega)) 39
  have ginit := ok_g_init T (k := 9) ((numd 9).mono (by omega))
  have mean := ok_meant T (k := 88) (ginit.mono (by omega)) (drows.mono (by omega)) (copied.mono (by omega))
  have mixed := ok_l_mixed (P := P) (w := w) (base := base) T 0
  have cellat := ok_l_cell_at (P := P) (w := w) (base := base) T 0
  have strm := ok_l_stream (P := P) (w := w) (base := base) T 0
  have ofk := ok_l_of_kind (P := P) (w := w) (base := base) T 0
  have lcopy := ok_l_copy (P := P) (w := w) (base := base) T 0
  have take := ok_l_take T mixed
  have vars := ok_l_vars T (k := 2) (strm.mono (by omega)) take
  have num := ok_l_num T (k := 2) (fun n => take.mono (by omega)) (fun n => ofk.mono (by omega)) 4
  have flag := ok_l_flag T (k := 6) (fun n => take.mono (by omega)) (fun n => ofk.mono (by omega)) (fun n => num.mono (by omega)) 4 (by omega)
  have lplain := ok_l_plain T (k := 10) (take.mono (by omega)) (ofk.mono (by omega)) (num.mono (by omega)) flag
  have close := ok_l_close (P := P) (w := w) (base := base) T (k := 0)
  have lrows := ok_l_rows T (k := 11) (strm.mono (by omega)) (take.mono (by omega)) (flag.mono (by omega)) lplain (close.mono (by omega))
  have tree := ok_l_tree T (k := 12) (vars.mono (by omega)) (mixed.mono (by omega)) lrows
  have given := ok_l_given T (k := 1) mixed cellat
  have lay := ok_l_lay (P := P) (w := w) (base := base) T (k := 0) 9
  have code := ok_l_code T (k := 9) (lay.mono (by omega))
  have parts := ok_l_parts_of (P := P) (w := w) (base := base) T (k := 0) 7
  have lop := ok_l_op (P := P) (w := w) (base := base) T (k := 0)
  have lworth := ok_l_worth T (k := 7) (parts.mono (by omega)) (lop.mono (by omega))
  have did := ok_l_did T (k := 8) lworth
  have due := ok_l_due T (k := 10) code (lcopy.mono (by omega)) (lworth.mono (by omega)) (did.mono (by omega))
  have same := ok_l_same (P := P) (w := w) (base := base) T (k := 0) 6
  have longl := ok_l_long_loops T (k := 90) mean
  exact law_body T (tree.mono (by omega)) (given.mono (by omega)) (mixed.mono (by omega)) longl (mean.mono (by omega)) (due.mono (by omega)) (same.mono (by omega))
end
end GT
set_option maxHeartbeats 0
namespace GT
open PySem PySem.Spec PyProof.Rows L2
abbrev R : PySem.W.OpenRow := PySem.W.OpenLaw.row PySem.Challenge.rw_gatetown_k52_whole_any_program
abbrev hk : PySem.W.Hook := He.hookD 4 fa fn
def ob (s : PySem.W.SharedT) : He.AlD := He.obsDG 4 fa fn (HandSHeadRun.getT s)
theorem ob_eq (s : PySem.W.SharedT) : ob s = hk.obs s.abs := He.obsDG_eq (HandSHeadRun.getT_eq s)
theorem run (w : World) : HandSHeadRun.RunEq R (PySem.W.view R.prog [41]) hk ob 3000 loose w := by
  intro os
  kernel_rfl
theorem facts {P : Program} {w : World} {K : PySem.W.Frag} {h : Heap} {mg : Str → Option Value} {f : Addr} (X : K.In h) (G : h.Ns mainGlobals mg) (hfa : mg ("law" : Str) = some (.ref f)) (c : He.SaysD fa fn K) :
    ∃ fd : FuncData, (∀ (s : Shared) (v : Value), BindsTo s fd ⟨[v], []⟩ [("_law_script", v)]) ∧ ∀ base : Heap, K.In base → base.Ns mainGlobals mg → FnOk P w K mg base CX0 200 f fd ["_law_script"] (spLaw K) := by
  have T := top_of X G c
  obtain ⟨f', fd, F, hm⟩ := T.d_law.ex
  have ef : f' = f := by
    rw [hm] at hfa
    cases hfa
    rfl
  subst ef
  have hb : BindW "law" "law" s_law ["_law_script"] := fun _ _ _ _ _ _ us hl => match us, hl with | [_], _ => rfl
  refine ⟨fd, fun s v => F.bindsA hb s [v] rfl, fun base hK hG => ?_⟩
  have F2 : FnOk P w K mg base CX0 92 f' fd ["_law_script"] (spLaw K) := FunD.ok F sc_law (fun vs H Q E h => by obtain ⟨a, ns, rfl, _⟩ := h; rfl) (fun cdv A outer s H vs Q E hr h => by
    obtain ⟨t, h1, h2⟩ := all_ok T f' cdv A outer s H vs Q E hr h
    exact ⟨t, h1.nox, h2⟩)
  exact F2.mono (by omega)
end GT
open PySem PySem.W PySem.Calls PyProof.Rows
theorem PySem.Challenge.cw_gatetown_k52_whole_any_program_holds : PySem.Challenge.rw_gatetown_k52_whole_any_program.Holds := by
  w_on; o_law
  refine HandSHeadRun.head_any (r := OpenLaw.row PySem.Challenge.rw_gatetown_k52_whole_any_program) (q := view (OpenLaw.row PySem.Challenge.rw_gatetown_k52_whole_any_program).prog [41]) (H := GT.hk) (ob := GT.ob) (M := 3000) (loose := GT.loose) (d := HandSHeadRun.topDef (OpenLaw.row PySem.Challenge.rw_gatetown_k52_whole_any_program).prog 41) (kwd := []) GT.ob_eq
    (by kernel_rfl) (fun s => by kernel_rfl) GT.run (by kernel_rfl) (by kernel_rfl) (by kernel_rfl) (by rfl) (by first | assumption | decide +kernel) (by decide +kernel) ⟨rfl, rfl, rfl, rfl, rfl, by decide +kernel⟩ ?hw ?hc
  case hw => w_witness2
  case hc =>
    refine L2.walk_ofE (l := PySem.Challenge.rw_gatetown_k52_whole_any_program) (n := 63) (k := 200) (x := "_law_script") (CX := L2.CX0) rfl (by decide) (by kernel_rfl) ⟨rfl, by decide, by decide⟩ ?F (fun _ _ _ _ z => z)
    intro w mg fa h Y G hmg0
    obtain ⟨K, KX, c⟩ := Y
    have hmg : mg ("law" : PySem.Str) = some (.ref fa) := by
      have e : (HandSHeadRun.topDef (OpenLaw.row PySem.Challenge.rw_gatetown_k52_whole_any_program).prog 41).name = ("law" : PySem.Str) := by kernel_rfl
      rw [← e]
      exact hmg0
    obtain ⟨fd, hb, hF⟩ := GT.facts (P := (PySem.Challenge.rw_gatetown_k52_whole_any_program).prog) (w := w) KX G hmg c
    exact ⟨K, fd, GT.spLaw K, KX, hb, fun H a ns hl _ hS => ⟨a, ns, rfl, hS, hl, fun _ => rfl⟩, hF⟩
