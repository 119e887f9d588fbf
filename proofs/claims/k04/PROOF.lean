import PyProof.Rows.All
import Wide.All
import OpenK.AllK
import Wide.FinOn
import KE.KStateDown
import HandS.ForMost
import HandS.Exc
import HandS.Defaults
import HandS.Codes
import HandS.IsInst
import HandS.HeadHook2
import PySem.Challenge.RW_flatrounds_k04_whole_statements_left_out
import HandS.Head0
import HandS.Head1
import HandS.Head2
import HandS.HeadEnd
import HandS.OwnEq
import HandS.More
import KE.GoesEnum
import HandS.Walk
import PyProof.DictCopy
import KE.KDictList
import HandS.Conv
import HandS.Strs
import HandS.DictComp
import HandS.Flow
import HandS.TupAny
import HandS.HeadHook1
/-! ## FrTop -/
set_option Elab.async false
set_option linter.all false
set_option maxRecDepth 100000
set_option maxHeartbeats 4000000
/-! The text by places, the facts that the proof leans on. Printed by gen_top.py. -/
namespace Fr
open PySem PySem.Spec PyProof.Rows L2
def prog : PySem.Program := PySem.Challenge.pw_flatrounds_k04_whole_statements_left_out
def top (i : Nat) : Stmt := PySem.Challenge.pw_flatrounds_k04_whole_statements_left_out.main.body.getD i (.Pass ⟨0, 0, 0, 0⟩)
/-- the i-th statement of the top, a def named x -/
def dd (i : Nat) (x : Str) : He.DefD := ⟨(x, none), x, x, defArgs (top i), defBody (top i), defScope (top i), [], []⟩
/-- the j-th statement in the class that is the i-th statement of the top -/
def dm (i j : Nat) (C m q : Str) : He.DefD := ⟨(C, some m), m, q, defArgs (inClass (top i) j), defBody (inClass (top i) j), defScope (inClass (top i) j), [], []⟩
abbrev FnP (K : PySem.W.Frag) (x : Str) (i : Nat) (f : Addr) (fd : FuncData) : Prop := FunD K x x (defArgs (top i)) (defBody (top i)) (defScope (top i)) [] [] f fd
abbrev FnM (K : PySem.W.Frag) (x q : Str) (i j : Nat) (f : Addr) (fd : FuncData) : Prop := FunD K x q (defArgs (inClass (top i) j)) (defBody (inClass (top i) j)) (defScope (inClass (top i) j)) [] [] f fd

def fnA : List He.DefD := [dd 9 "is_integer", dd 10 "is_within", dd 11 "is_number", dd 12 "is_name", dd 13 "are_names", dd 14 "are_numbers", dd 15 "check_input", dd 18 "is_deed", dd 19 "is_round", dd 20 "is_statement", dd 21 "wrong_place", dd 22 "size_of", dd 25 "deeds_in", dd 26 "names_of", dd 27 "names", dd 28 "is_place", dd 29 "check_place", dd 30 "with_deeds", dd 31 "without", dd 32 "left_out", dd 33 "is_gap", dd 34 "put_in", dd 36 "raw_push", dd 37 "source_number", dd 38 "raw_pushed", dd 39 "raw_after", dd 40 "raw_times", dd 42 "first_numbers", dd 43 "statement_done", dd 44 "parts"]
def fnB : List He.DefD := [dd 45 "spot", dd 46 "numbers_in", dd 47 "check_moment", dd 48 "numbers_at", dd 49 "done_in", dd 50 "moment_in", dd 51 "moment_of", dd 53 "_law_hand", dd 54 "_law_draw", dd 55 "_law_some", dd 56 "_law_shuffled", dd 57 "_law_is", dd 58 "_law_own", dd 59 "_law_deed", dd 60 "_law_statement", dd 61 "_law_parts", dd 62 "_law_places", dd 63 "_law_at", dd 64 "_law_input", dd 65 "_law_made", dd 67 "_law_without", dd 68 "_law_with", dd 69 "_law_gaps", dd 70 "_law_holds", dd 71 "_law_large_right", dd 72 "law"]
def fnC : List He.DefD := [dm 23 0 "Program" "__init__" "Program.__init__", dm 23 1 "Program" "__eq__" "Program.__eq__", dm 24 0 "RawProgram" "__init__" "RawProgram.__init__"]
def fn : List He.DefD := fnA ++ (fnB ++ fnC)
def faA : List He.Fa := [.glo "is_integer", .glo "is_within", .glo "is_number", .glo "is_name", .glo "are_names", .glo "are_numbers", .glo "check_input", .glo "is_deed", .glo "is_round", .glo "is_statement", .glo "wrong_place", .glo "size_of", .glo "deeds_in", .glo "names_of", .glo "names", .glo "is_place", .glo "check_place", .glo "with_deeds", .glo "without", .glo "left_out", .glo "is_gap", .glo "put_in", .glo "raw_push", .glo "source_number", .glo "raw_pushed", .glo "raw_after", .glo "raw_times", .glo "first_numbers", .glo "statement_done", .glo "parts"]
def faB : List He.Fa := [.glo "spot", .glo "numbers_in", .glo "check_moment", .glo "numbers_at", .glo "done_in", .glo "moment_in", .glo "moment_of", .glo "_law_hand", .glo "_law_draw", .glo "_law_some", .glo "_law_shuffled", .glo "_law_is", .glo "_law_own", .glo "_law_deed", .glo "_law_statement", .glo "_law_parts", .glo "_law_places", .glo "_law_at", .glo "_law_input", .glo "_law_made", .glo "_law_without", .glo "_law_with", .glo "_law_gaps", .glo "_law_holds", .glo "_law_large_right", .glo "law", .glo "Program", .glo "RawProgram"]
def faC : List He.Fa := [.free "abs", .free "all", .free "bool", .free "dict", .free "enumerate", .free "int", .free "isinstance", .free "len", .free "list", .free "min", .free "range", .free "set", .free "sorted", .free "str", .free "sum", .free "tuple", .int "MOST_STATEMENTS" 5000]
def faD : List He.Fa := [.cls "Program", .cls "RawProgram", .mkr "Program", .mkr "RawProgram", .meth "Program" "__eq__", .noat "Program" "given", .noat "Program" "told", .noat "Program" "block", .noat "RawProgram" "given", .noat "RawProgram" "told", .noat "RawProgram" "block"]
def fa : List He.Fa := faA ++ (faB ++ (faC ++ faD))
abbrev CP (K : PySem.W.Frag) : Addr := He.ga K "Program"
abbrev CR (K : PySem.W.Frag) : Addr := He.ga K "RawProgram"
abbrev fEq (K : PySem.W.Frag) : Addr := He.ma K (CP K) "__eq__"
/-- further facts, each decided -/
def isaB (K : PySem.W.Frag) (C : Addr) : Bool := He.eqO (PySem.W.findIn K (.ref C) "__class__") (some (some (.builtin "object.__class__"))) &&
  (He.eqO (PySem.W.specialIn K (.builtin "object.__class__") "__get__") (some (some (.builtin "getset_descriptor.__get__"))) &&
  (decide (PySem.W.takesIn K (.builtin "object.__class__") = some true) && (decide (PySem.W.mroIn K C (.type "object") = some true) && decide (PySem.W.kitOne K (.ref C) (.ref (CP K)) = some true))))
def ex (K : PySem.W.Frag) : Bool := isaB K (CP K) && (isaB K (CR K) && (He.eqO (PySem.W.findIn K (.ref (CR K)) "__ne__") (some (some (.builtin "object.__ne__"))) &&
  (He.eqO (PySem.W.findIn K (.ref (CR K)) "__eq__") (some (some (.ref (fEq K)))) && PySem.W.notFirst K (CR K) (.ref (CP K)))))
structure Isa (K : PySem.W.Frag) (C : Addr) : Prop where
  ha : PySem.W.findIn K (.ref C) "__class__" = some (some (.builtin "object.__class__"))
  hn : PySem.W.specialIn K (.builtin "object.__class__") "__get__" = some (some (.builtin "getset_descriptor.__get__"))
  ht : PySem.W.takesIn K (.builtin "object.__class__") = some true
  hm : PySem.W.mroIn K C (.type "object") = some true
  hk : PySem.W.kitOne K (.ref C) (.ref (CP K)) = some true
theorem isa_of {K : PySem.W.Frag} {C : Addr} (h : isaB K C = true) : Isa K C := by
  obtain ⟨h1, h⟩ := He.ba h
  obtain ⟨h2, h⟩ := He.ba h
  obtain ⟨h3, h⟩ := He.ba h
  obtain ⟨h4, h5⟩ := He.ba h
  exact ⟨He.eqO_ok h1, He.eqO_ok h2, of_decide_eq_true h3, of_decide_eq_true h4, of_decide_eq_true h5⟩
/-- all that the walk asks of what the top has made -/
structure Txt (K : PySem.W.Frag) (mg : Str → Option Value) : Prop where
  cP : Cls K (CP K)
  cR : Cls K (CR K)
  iP : Isa K (CP K)
  iR : Isa K (CR K)
  mkP : Mk K (CP K) (He.ma K (CP K) "__init__")
  mkR : Mk K (CR K) (He.ma K (CR K) "__init__")
  meq : Meth K (CP K) "__eq__" (fEq K)
  ne : PySem.W.findIn K (.ref (CR K)) "__ne__" = some (some (.builtin "object.__ne__"))
  eq : PySem.W.findIn K (.ref (CR K)) "__eq__" = some (some (.ref (fEq K)))
  nf : PySem.W.notFirst K (CR K) (.ref (CP K)) = true
  nPgiven : NoAttr K (CP K) "given"
  nPtold : NoAttr K (CP K) "told"
  nPblock : NoAttr K (CP K) "block"
  nRgiven : NoAttr K (CR K) "given"
  nRtold : NoAttr K (CR K) "told"
  nRblock : NoAttr K (CR K) "block"
  gP : mg "Program" = some (.ref (CP K))
  gR : mg "RawProgram" = some (.ref (CR K))
  gis_integer : mg "is_integer" = some (.ref (He.ga K "is_integer"))
  gis_within : mg "is_within" = some (.ref (He.ga K "is_within"))
  gis_number : mg "is_number" = some (.ref (He.ga K "is_number"))
  gis_name : mg "is_name" = some (.ref (He.ga K "is_name"))
  gare_names : mg "are_names" = some (.ref (He.ga K "are_names"))
  gare_numbers : mg "are_numbers" = some (.ref (He.ga K "are_numbers"))
  gcheck_input : mg "check_input" = some (.ref (He.ga K "check_input"))
  gis_deed : mg "is_deed" = some (.ref (He.ga K "is_deed"))
  gis_round : mg "is_round" = some (.ref (He.ga K "is_round"))
  gis_statement : mg "is_statement" = some (.ref (He.ga K "is_statement"))
  gwrong_place : mg "wrong_place" = some (.ref (He.ga K "wrong_place"))
  gsize_of : mg "size_of" = some (.ref (He.ga K "size_of"))
  gdeeds_in : mg "deeds_in" = some (.ref (He.ga K "deeds_in"))
  gnames_of : mg "names_of" = some (.ref (He.ga K "names_of"))
  gnames : mg "names" = some (.ref (He.ga K "names"))
  gis_place : mg "is_place" = some (.ref (He.ga K "is_place"))
  gcheck_place : mg "check_place" = some (.ref (He.ga K "check_place"))
  gwith_deeds : mg "with_deeds" = some (.ref (He.ga K "with_deeds"))
  gwithout : mg "without" = some (.ref (He.ga K "without"))
  gleft_out : mg "left_out" = some (.ref (He.ga K "left_out"))
  gis_gap : mg "is_gap" = some (.ref (He.ga K "is_gap"))
  gput_in : mg "put_in" = some (.ref (He.ga K "put_in"))
  graw_push : mg "raw_push" = some (.ref (He.ga K "raw_push"))
  gsource_number : mg "source_number" = some (.ref (He.ga K "source_number"))
  graw_pushed : mg "raw_pushed" = some (.ref (He.ga K "raw_pushed"))
  graw_after : mg "raw_after" = some (.ref (He.ga K "raw_after"))
  graw_times : mg "raw_times" = some (.ref (He.ga K "raw_times"))
  gfirst_numbers : mg "first_numbers" = some (.ref (He.ga K "first_numbers"))
  gstatement_done : mg "statement_done" = some (.ref (He.ga K "statement_done"))
  gparts : mg "parts" = some (.ref (He.ga K "parts"))
  gspot : mg "spot" = some (.ref (He.ga K "spot"))
  gnumbers_in : mg "numbers_in" = some (.ref (He.ga K "numbers_in"))
  gcheck_moment : mg "check_moment" = some (.ref (He.ga K "check_moment"))
  gnumbers_at : mg "numbers_at" = some (.ref (He.ga K "numbers_at"))
  gdone_in : mg "done_in" = some (.ref (He.ga K "done_in"))
  gmoment_in : mg "moment_in" = some (.ref (He.ga K "moment_in"))
  gmoment_of : mg "moment_of" = some (.ref (He.ga K "moment_of"))
  g_law_hand : mg "_law_hand" = some (.ref (He.ga K "_law_hand"))
  g_law_draw : mg "_law_draw" = some (.ref (He.ga K "_law_draw"))
  g_law_some : mg "_law_some" = some (.ref (He.ga K "_law_some"))
  g_law_shuffled : mg "_law_shuffled" = some (.ref (He.ga K "_law_shuffled"))
  g_law_is : mg "_law_is" = some (.ref (He.ga K "_law_is"))
  g_law_own : mg "_law_own" = some (.ref (He.ga K "_law_own"))
  g_law_deed : mg "_law_deed" = some (.ref (He.ga K "_law_deed"))
  g_law_statement : mg "_law_statement" = some (.ref (He.ga K "_law_statement"))
  g_law_parts : mg "_law_parts" = some (.ref (He.ga K "_law_parts"))
  g_law_places : mg "_law_places" = some (.ref (He.ga K "_law_places"))
  g_law_at : mg "_law_at" = some (.ref (He.ga K "_law_at"))
  g_law_input : mg "_law_input" = some (.ref (He.ga K "_law_input"))
  g_law_made : mg "_law_made" = some (.ref (He.ga K "_law_made"))
  g_law_without : mg "_law_without" = some (.ref (He.ga K "_law_without"))
  g_law_with : mg "_law_with" = some (.ref (He.ga K "_law_with"))
  g_law_gaps : mg "_law_gaps" = some (.ref (He.ga K "_law_gaps"))
  g_law_holds : mg "_law_holds" = some (.ref (He.ga K "_law_holds"))
  g_law_large_right : mg "_law_large_right" = some (.ref (He.ga K "_law_large_right"))
  glaw : mg "law" = some (.ref (He.ga K "law"))
  zabs : mg "abs" = none
  zall : mg "all" = none
  zbool : mg "bool" = none
  zdict : mg "dict" = none
  zenumerate : mg "enumerate" = none
  zint : mg "int" = none
  zisinstance : mg "isinstance" = none
  zlen : mg "len" = none
  zlist : mg "list" = none
  zmin : mg "min" = none
  zrange : mg "range" = none
  zset : mg "set" = none
  zsorted : mg "sorted" = none
  zstr : mg "str" = none
  zsum : mg "sum" = none
  ztuple : mg "tuple" = none
  most : ∃ t, mg "MOST_STATEMENTS" = some (.int 5000 t)
  fis_integer : ∃ fd, FnP K "is_integer" 9 (He.ga K "is_integer") fd
  fis_within : ∃ fd, FnP K "is_within" 10 (He.ga K "is_within") fd
  fis_number : ∃ fd, FnP K "is_number" 11 (He.ga K "is_number") fd
  fis_name : ∃ fd, FnP K "is_name" 12 (He.ga K "is_name") fd
  fare_names : ∃ fd, FnP K "are_names" 13 (He.ga K "are_names") fd
  fare_numbers : ∃ fd, FnP K "are_numbers" 14 (He.ga K "are_numbers") fd
  fcheck_input : ∃ fd, FnP K "check_input" 15 (He.ga K "check_input") fd
  fis_deed : ∃ fd, FnP K "is_deed" 18 (He.ga K "is_deed") fd
  fis_round : ∃ fd, FnP K "is_round" 19 (He.ga K "is_round") fd
  fis_statement : ∃ fd, FnP K "is_statement" 20 (He.ga K "is_statement") fd
  fwrong_place : ∃ fd, FnP K "wrong_place" 21 (He.ga K "wrong_place") fd
  fsize_of : ∃ fd, FnP K "size_of" 22 (He.ga K "size_of") fd
  fdeeds_in : ∃ fd, FnP K "deeds_in" 25 (He.ga K "deeds_in") fd
  fnames_of : ∃ fd, FnP K "names_of" 26 (He.ga K "names_of") fd
  fnames : ∃ fd, FnP K "names" 27 (He.ga K "names") fd
  fis_place : ∃ fd, FnP K "is_place" 28 (He.ga K "is_place") fd
  fcheck_place : ∃ fd, FnP K "check_place" 29 (He.ga K "check_place") fd
  fwith_deeds : ∃ fd, FnP K "with_deeds" 30 (He.ga K "with_deeds") fd
  fwithout : ∃ fd, FnP K "without" 31 (He.ga K "without") fd
  fleft_out : ∃ fd, FnP K "left_out" 32 (He.ga K "left_out") fd
  fis_gap : ∃ fd, FnP K "is_gap" 33 (He.ga K "is_gap") fd
  fput_in : ∃ fd, FnP K "put_in" 34 (He.ga K "put_in") fd
  fraw_push : ∃ fd, FnP K "raw_push" 36 (He.ga K "raw_push") fd
  fsource_number : ∃ fd, FnP K "source_number" 37 (He.ga K "source_number") fd
  fraw_pushed : ∃ fd, FnP K "raw_pushed" 38 (He.ga K "raw_pushed") fd
  fraw_after : ∃ fd, FnP K "raw_after" 39 (He.ga K "raw_after") fd
  fraw_times : ∃ fd, FnP K "raw_times" 40 (He.ga K "raw_times") fd
  ffirst_numbers : ∃ fd, FnP K "first_numbers" 42 (He.ga K "first_numbers") fd
  fstatement_done : ∃ fd, FnP K "statement_done" 43 (He.ga K "statement_done") fd
  fparts : ∃ fd, FnP K "parts" 44 (He.ga K "parts") fd
  fspot : ∃ fd, FnP K "spot" 45 (He.ga K "spot") fd
  fnumbers_in : ∃ fd, FnP K "numbers_in" 46 (He.ga K "numbers_in") fd
  fcheck_moment : ∃ fd, FnP K "check_moment" 47 (He.ga K "check_moment") fd
  fnumbers_at : ∃ fd, FnP K "numbers_at" 48 (He.ga K "numbers_at") fd
  fdone_in : ∃ fd, FnP K "done_in" 49 (He.ga K "done_in") fd
  fmoment_in : ∃ fd, FnP K "moment_in" 50 (He.ga K "moment_in") fd
  fmoment_of : ∃ fd, FnP K "moment_of" 51 (He.ga K "moment_of") fd
  f_law_hand : ∃ fd, FnP K "_law_hand" 53 (He.ga K "_law_hand") fd
  f_law_draw : ∃ fd, FnP K "_law_draw" 54 (He.ga K "_law_draw") fd
  f_law_some : ∃ fd, FnP K "_law_some" 55 (He.ga K "_law_some") fd
  f_law_shuffled : ∃ fd, FnP K "_law_shuffled" 56 (He.ga K "_law_shuffled") fd
  f_law_is : ∃ fd, FnP K "_law_is" 57 (He.ga K "_law_is") fd
  f_law_own : ∃ fd, FnP K "_law_own" 58 (He.ga K "_law_own") fd
  f_law_deed : ∃ fd, FnP K "_law_deed" 59 (He.ga K "_law_deed") fd
  f_law_statement : ∃ fd, FnP K "_law_statement" 60 (He.ga K "_law_statement") fd
  f_law_parts : ∃ fd, FnP K "_law_parts" 61 (He.ga K "_law_parts") fd
  f_law_places : ∃ fd, FnP K "_law_places" 62 (He.ga K "_law_places") fd
  f_law_at : ∃ fd, FnP K "_law_at" 63 (He.ga K "_law_at") fd
  f_law_input : ∃ fd, FnP K "_law_input" 64 (He.ga K "_law_input") fd
  f_law_made : ∃ fd, FnP K "_law_made" 65 (He.ga K "_law_made") fd
  f_law_without : ∃ fd, FnP K "_law_without" 67 (He.ga K "_law_without") fd
  f_law_with : ∃ fd, FnP K "_law_with" 68 (He.ga K "_law_with") fd
  f_law_gaps : ∃ fd, FnP K "_law_gaps" 69 (He.ga K "_law_gaps") fd
  f_law_holds : ∃ fd, FnP K "_law_holds" 70 (He.ga K "_law_holds") fd
  f_law_large_right : ∃ fd, FnP K "_law_large_right" 71 (He.ga K "_law_large_right") fd
  flaw : ∃ fd, FnP K "law" 72 (He.ga K "law") fd
  fPI : ∃ fd, FnM K "__init__" "Program.__init__" 23 0 (He.ma K (CP K) "__init__") fd
  fPE : ∃ fd, FnM K "__eq__" "Program.__eq__" 23 1 (fEq K) fd
  fRI : ∃ fd, FnM K "__init__" "RawProgram.__init__" 24 0 (He.ma K (CR K) "__init__") fd
theorem txt_of {K : PySem.W.Frag} {h : Heap} {mg : Str → Option Value} (X : K.In h) (G : h.Ns mainGlobals mg) (c : He.SaysD fa fn K) (e : ex K = true) : Txt K mg := by
  obtain ⟨e1, e⟩ := He.ba e
  obtain ⟨e2, e⟩ := He.ba e
  obtain ⟨e3, e⟩ := He.ba e
  obtain ⟨e4, e5⟩ := He.ba e
  exact {
    cP := He.cls_ok (c.fact 75 (f := .cls "Program") rfl)
    cR := He.cls_ok (c.fact 76 (f := .cls "RawProgram") rfl)
    iP := isa_of e1
    iR := isa_of e2
    mkP := He.mkr_ok (c.fact 77 (f := .mkr "Program") rfl)
    mkR := He.mkr_ok (c.fact 78 (f := .mkr "RawProgram") rfl)
    meq := He.meth_ok (c.fact 79 (f := .meth "Program" "__eq__") rfl)
    ne := He.eqO_ok e3
    eq := He.eqO_ok e4
    nf := e5
    nPgiven := He.noat_ok (c.fact 80 (f := .noat "Program" "given") rfl)
    nPtold := He.noat_ok (c.fact 81 (f := .noat "Program" "told") rfl)
    nPblock := He.noat_ok (c.fact 82 (f := .noat "Program" "block") rfl)
    nRgiven := He.noat_ok (c.fact 83 (f := .noat "RawProgram" "given") rfl)
    nRtold := He.noat_ok (c.fact 84 (f := .noat "RawProgram" "told") rfl)
    nRblock := He.noat_ok (c.fact 85 (f := .noat "RawProgram" "block") rfl)
    gP := He.glo_ok X G (c.fact 56 (f := .glo "Program") rfl)
    gR := He.glo_ok X G (c.fact 57 (f := .glo "RawProgram") rfl)
    gis_integer := He.glo_ok X G (c.fact 0 (f := .glo "is_integer") rfl)
    gis_within := He.glo_ok X G (c.fact 1 (f := .glo "is_within") rfl)
    gis_number := He.glo_ok X G (c.fact 2 (f := .glo "is_number") rfl)
    gis_name := He.glo_ok X G (c.fact 3 (f := .glo "is_name") rfl)
    gare_names := He.glo_ok X G (c.fact 4 (f := .glo "are_names") rfl)
    gare_numbers := He.glo_ok X G (c.fact 5 (f := .glo "are_numbers") rfl)
    gcheck_input := He.glo_ok X G (c.fact 6 (f := .glo "check_input") rfl)
    gis_deed := He.glo_ok X G (c.fact 7 (f := .glo "is_deed") rfl)
    gis_round := He.glo_ok X G (c.fact 8 (f := .glo "is_round") rfl)
    gis_statement := He.glo_ok X G (c.fact 9 (f := .glo "is_statement") rfl)
    gwrong_place := He.glo_ok X G (c.fact 10 (f := .glo "wrong_place") rfl)
    gsize_of := He.glo_ok X G (c.fact 11 (f := .glo "size_of") rfl)
    gdeeds_in := He.glo_ok X G (c.fact 12 (f := .glo "deeds_in") rfl)
    gnames_of := He.glo_ok X G (c.fact 13 (f := .glo "names_of") rfl)
    gnames := He.glo_ok X G (c.fact 14 (f := .glo "names") rfl)
    gis_place := He.glo_ok X G (c.fact 15 (f := .glo "is_place") rfl)
    gcheck_place := He.glo_ok X G (c.fact 16 (f := .glo "check_place") rfl)
    gwith_deeds := He.glo_ok X G (c.fact 17 (f := .glo "with_deeds") rfl)
    gwithout := He.glo_ok X G (c.fact 18 (f := .glo "without") rfl)
    gleft_out := He.glo_ok X G (c.fact 19 (f := .glo "left_out") rfl)
    gis_gap := He.glo_ok X G (c.fact 20 (f := .glo "is_gap") rfl)
    gput_in := He.glo_ok X G (c.fact 21 (f := .glo "put_in") rfl)
    graw_push := He.glo_ok X G (c.fact 22 (f := .glo "raw_push") rfl)
    gsource_number := He.glo_ok X G (c.fact 23 (f := .glo "source_number") rfl)
    graw_pushed := He.glo_ok X G (c.fact 24 (f := .glo "raw_pushed") rfl)
    graw_after := He.glo_ok X G (c.fact 25 (f := .glo "raw_after") rfl)
    graw_times := He.glo_ok X G (c.fact 26 (f := .glo "raw_times") rfl)
    gfirst_numbers := He.glo_ok X G (c.fact 27 (f := .glo "first_numbers") rfl)
    gstatement_done := He.glo_ok X G (c.fact 28 (f := .glo "statement_done") rfl)
    gparts := He.glo_ok X G (c.fact 29 (f := .glo "parts") rfl)
    gspot := He.glo_ok X G (c.fact 30 (f := .glo "spot") rfl)
    gnumbers_in := He.glo_ok X G (c.fact 31 (f := .glo "numbers_in") rfl)
    gcheck_moment := He.glo_ok X G (c.fact 32 (f := .glo "check_moment") rfl)
    gnumbers_at := He.glo_ok X G (c.fact 33 (f := .glo "numbers_at") rfl)
    gdone_in := He.glo_ok X G (c.fact 34 (f := .glo "done_in") rfl)
    gmoment_in := He.glo_ok X G (c.fact 35 (f := .glo "moment_in") rfl)
    gmoment_of := He.glo_ok X G (c.fact 36 (f := .glo "moment_of") rfl)
    g_law_hand := He.glo_ok X G (c.fact 37 (f := .glo "_law_hand") rfl)
    g_law_draw := He.glo_ok X G (c.fact 38 (f := .glo "_law_draw") rfl)
    g_law_some := He.glo_ok X G (c.fact 39 (f := .glo "_law_some") rfl)
    g_law_shuffled := He.glo_ok X G (c.fact 40 (f := .glo "_law_shuffled") rfl)
    g_law_is := He.glo_ok X G (c.fact 41 (f := .glo "_law_is") rfl)
    g_law_own := He.glo_ok X G (c.fact 42 (f := .glo "_law_own") rfl)
    g_law_deed := He.glo_ok X G (c.fact 43 (f := .glo "_law_deed") rfl)
    g_law_statement := He.glo_ok X G (c.fact 44 (f := .glo "_law_statement") rfl)
    g_law_parts := He.glo_ok X G (c.fact 45 (f := .glo "_law_parts") rfl)
    g_law_places := He.glo_ok X G (c.fact 46 (f := .glo "_law_places") rfl)
    g_law_at := He.glo_ok X G (c.fact 47 (f := .glo "_law_at") rfl)
    g_law_input := He.glo_ok X G (c.fact 48 (f := .glo "_law_input") rfl)
    g_law_made := He.glo_ok X G (c.fact 49 (f := .glo "_law_made") rfl)
    g_law_without := He.glo_ok X G (c.fact 50 (f := .glo "_law_without") rfl)
    g_law_with := He.glo_ok X G (c.fact 51 (f := .glo "_law_with") rfl)
    g_law_gaps := He.glo_ok X G (c.fact 52 (f := .glo "_law_gaps") rfl)
    g_law_holds := He.glo_ok X G (c.fact 53 (f := .glo "_law_holds") rfl)
    g_law_large_right := He.glo_ok X G (c.fact 54 (f := .glo "_law_large_right") rfl)
    glaw := He.glo_ok X G (c.fact 55 (f := .glo "law") rfl)
    zabs := He.free_ok X G (c.fact 58 (f := .free "abs") rfl)
    zall := He.free_ok X G (c.fact 59 (f := .free "all") rfl)
    zbool := He.free_ok X G (c.fact 60 (f := .free "bool") rfl)
    zdict := He.free_ok X G (c.fact 61 (f := .free "dict") rfl)
    zenumerate := He.free_ok X G (c.fact 62 (f := .free "enumerate") rfl)
    zint := He.free_ok X G (c.fact 63 (f := .free "int") rfl)
    zisinstance := He.free_ok X G (c.fact 64 (f := .free "isinstance") rfl)
    zlen := He.free_ok X G (c.fact 65 (f := .free "len") rfl)
    zlist := He.free_ok X G (c.fact 66 (f := .free "list") rfl)
    zmin := He.free_ok X G (c.fact 67 (f := .free "min") rfl)
    zrange := He.free_ok X G (c.fact 68 (f := .free "range") rfl)
    zset := He.free_ok X G (c.fact 69 (f := .free "set") rfl)
    zsorted := He.free_ok X G (c.fact 70 (f := .free "sorted") rfl)
    zstr := He.free_ok X G (c.fact 71 (f := .free "str") rfl)
    zsum := He.free_ok X G (c.fact 72 (f := .free "sum") rfl)
    ztuple := He.free_ok X G (c.fact 73 (f := .free "tuple") rfl)
    most := He.int_ok X G (c.fact 74 (f := .int "MOST_STATEMENTS" 5000) rfl)
    fis_integer := c.def_ 0 (d := dd 9 "is_integer") rfl
    fis_within := c.def_ 1 (d := dd 10 "is_within") rfl
    fis_number := c.def_ 2 (d := dd 11 "is_number") rfl
    fis_name := c.def_ 3 (d := dd 12 "is_name") rfl
    fare_names := c.def_ 4 (d := dd 13 "are_names") rfl
    fare_numbers := c.def_ 5 (d := dd 14 "are_numbers") rfl
    fcheck_input := c.def_ 6 (d := dd 15 "check_input") rfl
    fis_deed := c.def_ 7 (d := dd 18 "is_deed") rfl
    fis_round := c.def_ 8 (d := dd 19 "is_round") rfl
    fis_statement := c.def_ 9 (d := dd 20 "is_statement") rfl
    fwrong_place := c.def_ 10 (d := dd 21 "wrong_place") rfl
    fsize_of := c.def_ 11 (d := dd 22 "size_of") rfl
    fdeeds_in := c.def_ 12 (d := dd 25 "deeds_in") rfl
    fnames_of := c.def_ 13 (d := dd 26 "names_of") rfl
    fnames := c.def_ 14 (d := dd 27 "names") rfl
    fis_place := c.def_ 15 (d := dd 28 "is_place") rfl
    fcheck_place := c.def_ 16 (d := dd 29 "check_place") rfl
    fwith_deeds := c.def_ 17 (d := dd 30 "with_deeds") rfl
    fwithout := c.def_ 18 (d := dd 31 "without") rfl
    fleft_out := c.def_ 19 (d := dd 32 "left_out") rfl
    fis_gap := c.def_ 20 (d := dd 33 "is_gap") rfl
    fput_in := c.def_ 21 (d := dd 34 "put_in") rfl
    fraw_push := c.def_ 22 (d := dd 36 "raw_push") rfl
    fsource_number := c.def_ 23 (d := dd 37 "source_number") rfl
    fraw_pushed := c.def_ 24 (d := dd 38 "raw_pushed") rfl
    fraw_after := c.def_ 25 (d := dd 39 "raw_after") rfl
    fraw_times := c.def_ 26 (d := dd 40 "raw_times") rfl
    ffirst_numbers := c.def_ 27 (d := dd 42 "first_numbers") rfl
    fstatement_done := c.def_ 28 (d := dd 43 "statement_done") rfl
    fparts := c.def_ 29 (d := dd 44 "parts") rfl
    fspot := c.def_ 30 (d := dd 45 "spot") rfl
    fnumbers_in := c.def_ 31 (d := dd 46 "numbers_in") rfl
    fcheck_moment := c.def_ 32 (d := dd 47 "check_moment") rfl
    fnumbers_at := c.def_ 33 (d := dd 48 "numbers_at") rfl
    fdone_in := c.def_ 34 (d := dd 49 "done_in") rfl
    fmoment_in := c.def_ 35 (d := dd 50 "moment_in") rfl
    fmoment_of := c.def_ 36 (d := dd 51 "moment_of") rfl
    f_law_hand := c.def_ 37 (d := dd 53 "_law_hand") rfl
    f_law_draw := c.def_ 38 (d := dd 54 "_law_draw") rfl
    f_law_some := c.def_ 39 (d := dd 55 "_law_some") rfl
    f_law_shuffled := c.def_ 40 (d := dd 56 "_law_shuffled") rfl
    f_law_is := c.def_ 41 (d := dd 57 "_law_is") rfl
    f_law_own := c.def_ 42 (d := dd 58 "_law_own") rfl
    f_law_deed := c.def_ 43 (d := dd 59 "_law_deed") rfl
    f_law_statement := c.def_ 44 (d := dd 60 "_law_statement") rfl
    f_law_parts := c.def_ 45 (d := dd 61 "_law_parts") rfl
    f_law_places := c.def_ 46 (d := dd 62 "_law_places") rfl
    f_law_at := c.def_ 47 (d := dd 63 "_law_at") rfl
    f_law_input := c.def_ 48 (d := dd 64 "_law_input") rfl
    f_law_made := c.def_ 49 (d := dd 65 "_law_made") rfl
    f_law_without := c.def_ 50 (d := dd 67 "_law_without") rfl
    f_law_with := c.def_ 51 (d := dd 68 "_law_with") rfl
    f_law_gaps := c.def_ 52 (d := dd 69 "_law_gaps") rfl
    f_law_holds := c.def_ 53 (d := dd 70 "_law_holds") rfl
    f_law_large_right := c.def_ 54 (d := dd 71 "_law_large_right") rfl
    flaw := c.def_ 55 (d := dd 72 "law") rfl
    fPI := c.def_ 56 (d := dm 23 0 "Program" "__init__" "Program.__init__") rfl
    fPE := c.def_ 57 (d := dm 23 1 "Program" "__eq__" "Program.__eq__") rfl
    fRI := c.def_ 58 (d := dm 24 0 "RawProgram" "__init__" "RawProgram.__init__") rfl }
end Fr
/-! ## FrHead -/
set_option Elab.async false
set_option linter.all false
set_option maxRecDepth 100000
set_option maxHeartbeats 0
/-! The top's run, once. -/
namespace Fr
open PySem PySem.Spec PyProof.Rows L2
def looseA : List Str := ["RoundError", "BadProgram", "NoPlace", "NoStatement", "NoInput", "NoMoment", "NoTime", "is_integer", "is_within", "is_number", "is_name", "are_names", "are_numbers", "check_input", "MOST_STATEMENTS", "is_deed", "is_round", "is_statement", "wrong_place", "size_of", "Program", "RawProgram"]
def looseB : List Str := ["deeds_in", "names_of", "names", "is_place", "check_place", "with_deeds", "without", "left_out", "is_gap", "put_in", "raw_push", "source_number", "raw_pushed", "raw_after", "raw_times", "first_numbers", "statement_done", "parts", "spot", "numbers_in", "check_moment", "numbers_at"]
def looseC : List Str := ["done_in", "moment_in", "moment_of", "_law_hand", "_law_draw", "_law_some", "_law_shuffled", "_law_is", "_law_own", "_law_deed", "_law_statement", "_law_parts", "_law_places", "_law_at", "_law_input", "_law_made", "_law_large", "_law_without", "_law_with", "_law_gaps", "_law_holds", "_law_large_right"]
def loose : List Str := looseA ++ (looseB ++ looseC)
abbrev R : PySem.W.OpenRow := PySem.W.OpenLaw.row PySem.Challenge.rw_flatrounds_k04_whole_statements_left_out
def look (g : Addr → Option Obj) : He.AlD × Bool := let K := He.frG g (He.asD g 5); (He.obsD fa fn K, ex K)
def hk : PySem.W.Hook where
  α := He.AlD × Bool
  obs := fun s => look s.heap.get?
  val := fun _ => (He.valD fn, true)
  says := fun _ h => ∃ K : PySem.W.Frag, K.In h ∧ He.SaysD fa fn K ∧ ex K = true
  of := fun _ _ e => ⟨_, He.frG_in, (Prod.mk.inj e).1, (Prod.mk.inj e).2⟩
  keeps := fun _ _ _ ⟨K, hK, c⟩ k => ⟨K, PySem.W.Frag.In.keeps hK k, c⟩
def ob (s : PySem.W.SharedT) : He.AlD × Bool := look (HandSHeadRun.getT s)
theorem ob_eq (s : PySem.W.SharedT) : ob s = hk.obs s.abs := by
  have e : HandSHeadRun.getT s = s.abs.heap.get? := funext (HandSHeadRun.getT_eq s)
  show look (HandSHeadRun.getT s) = look s.abs.heap.get?
  rw [e]
theorem run (w : World) : HandSHeadRun.RunEq R (PySem.W.view R.prog [72]) hk ob 4000 loose w := by
  intro os
  kernel_rfl
end Fr
/-! ## FrNe -/
set_option Elab.async false
set_option linter.all false
set_option maxRecDepth 100000
/-! a != b where the left one's class has an own __eq__ and object's __ne__. -/
namespace FrNe
open PySem PySem.Spec PyProof.Rows
section
variable {M : Model} {prog : Program} {w : World} {A : Around} {E : Value → Shared → Prop} {s : Shared} {K : PySem.W.Frag} {x C f : Addr} {ox : Obj} {od : Option Obj} {b tb : Value}

theorem bound_ne {args : List Value} {Q : Option Value → Shared → Prop} (X : K.In s.heap) (I : PySem.W.InstAt s.heap x ox C od)
    (hs : PySem.W.findIn K (.ref C) "__ne__" = some (some (.builtin "object.__ne__")))
    (h : wpAny M A (call (.builtin "object.__ne__") (.ref x :: args)) (fun v => Q (some v)) E s) :
    wpAny M A (callSpecialIfBound? (.ref x) "__ne__" args) Q E s := by
  have go : wpAny M A (do let v ← call (.builtin "object.__ne__") ([.ref x] ++ args); pure (some v)) Q E s :=
    wpAny_bind (wpAny_mono h (fun _ _ z => wpAny_pure z) fun _ _ z => z)
  simp only [callSpecialIfBound?, bindSpecialIfBound?]
  apply wpAny_holding
  apply wpAny_bind
  apply wpAny_bind
  apply wpAny_bind
  refine I.type.here ((PySem.W.looks_findIn X hs).here ?_)
  refine wpAny_bind (wpAny_askSetting (wpAny_ite ?_))
  split
  · exact wpAny_bind (wpAny_of_eq (F.cmp_object.ne.bind _) (wpAny_pure (by exact go)))
  · exact wpAny_tryCatch (wpAny_bind (wpAny_of_eq (F.cmp_object.ne.bind _) (wpAny_pure (by exact go))))

theorem entry_ne {y : Addr} {Q : Fin → Shared → Prop} (X : K.In s.heap) (I : PySem.W.InstAt s.heap x ox C od) (hu : A.units < cLine)
    (he : PySem.W.findIn K (.ref C) "__eq__" = some (some (.ref f))) (hf : PySem.W.isFn K (.ref f) = true)
    (h : wpAny M A (call (.ref f) [.ref x, .ref y]) (fun v s' => ∃ c, v = .bool c ∧ Q (.done (.ret (.bool (!c)))) s') E s) :
    wpAny M A (Builtin.«object.__ne__» ⟨[.ref x, .ref y], []⟩) Q E s := by
  unfold Builtin.«object.__ne__»
  repeat (first
    | with_reducible refine wpAny_cRoomFor hu ?_
    | (refine wpAny_bind (m := callSpecialIfBound? (.ref x) (Str.ofString "__eq__") [.ref y])
        (PySem.W.ifBound_K X I he hf (wpAny_mono h (fun r s' hr => by
          obtain ⟨c, rfl, hq⟩ := hr
          repeat (first | exact hq | exact wpAny_pure hq | exact wpAny_truthy_bool hq | (refine wpAny_bind (m := truthy (.bool _)) (wpAny_truthy_bool ?_)) | wp_step)) fun _ _ e => e)))
    | wp_step)
end
section
variable {prog : Program} {w : World} {A : Around} {E : Value → Shared → Prop} {s : Shared} {K : PySem.W.Frag} {x y C f : Addr} {ox : Obj} {od : Option Obj} {tb : Value}
theorem try_ne {Q : Option Value → Shared → Prop} (X : K.In s.heap) (I : PySem.W.InstAt s.heap x ox C od) (hu : A.units + 1 < cLine)
    (hs : PySem.W.findIn K (.ref C) "__ne__" = some (some (.builtin "object.__ne__"))) (hm : PySem.W.mroIn K C (.type "object") = some true)
    (he : PySem.W.findIn K (.ref C) "__eq__" = some (some (.ref f))) (hf : PySem.W.isFn K (.ref f) = true)
    (h : wpAny (model prog w) A.in1 (call (.ref f) [.ref x, .ref y]) (fun v s' => ∃ c, v = .bool c ∧ Q (some (.bool (!c))) s') E s) :
    wpAny (model prog w) A (tryCompare (.ref x) "__ne__" (.ref y)) Q E s := by
  simp only [tryCompare]
  refine wpAny_bind (bound_ne X I hs (wpAny_call (codeAny_call_builtin F.cmp_object.ne.plain F.cmpEntry_ne
    (PySem.W.check_slot F.cmpKind_ne F.cmpSplit_ne (I.type.andThen (PySem.W.looks_mroIn X hm)) (F.cmpArgs_ne _ _)
      (entry_ne (A := A.in1) X I hu he hf (wpAny_mono h (fun v s' hv => ?_) fun _ _ e => e))))))
  obtain ⟨c, rfl, hq⟩ := hv
  first | exact ⟨c, rfl, wpAny_pure hq⟩ | exact ⟨c, rfl, wpAny_pure (wpAny_pure hq)⟩ | exact ⟨c, rfl, hq⟩

theorem rich_ne {Q : Value → Shared → Prop} (X : K.In s.heap) (I : PySem.W.InstAt s.heap x ox C od) (hu : A.units + 1 < cLine)
    (hb : PySem.W.Looks (model prog w) s.heap (typeOf (.ref y)) tb) (hn : PySem.W.notFirst K C tb = true)
    (hs : PySem.W.findIn K (.ref C) "__ne__" = some (some (.builtin "object.__ne__"))) (hm : PySem.W.mroIn K C (.type "object") = some true)
    (he : PySem.W.findIn K (.ref C) "__eq__" = some (some (.ref f))) (hf : PySem.W.isFn K (.ref f) = true)
    (h : wpAny (model prog w) A.in1 (call (.ref f) [.ref x, .ref y]) (fun v s' => ∃ c, v = .bool c ∧ Q (.bool (!c)) s') E s) :
    wpAny (model prog w) A (richCompare .NotEq (.ref x) (.ref y)) Q E s := by
  have one : wpAny (model prog w) A (tryCompare (.ref x) "__ne__" (.ref y)) (fun r s' => ∃ v, r = some v ∧ Q v s') E s :=
    try_ne X I hu hs hm he hf (wpAny_mono h (fun v s' ⟨c, e, q⟩ => ⟨c, e, _, rfl, q⟩) fun _ _ e => e)
  unfold richCompare
  simp only [oneThing_ref]
  refine wpAny_holding (wpAny_bind (wpAny_cRoomFor (by omega) ?_))
  rw [cmpInfo_NotEq]
  dsimp only
  refine wpAny_bind (I.type.here (wpAny_bind (hb.here ?_)))
  split
  · rename_i q
    have e : PySem.W.subIn K tb (.ref C) = some false := by
      rcases Bool.or_eq_true_iff.mp hn with e | e
      · rw [beq_iff_eq.mp e] at q; simp at q
      · exact beq_iff_eq.mp e
    refine wpAny_bind ((PySem.W.looks_subIn X e).here ?_)
    simp only [Bool.false_eq_true, if_false]
    refine wpAny_bind (wpAny_mono one (fun r s' z => ?_) fun _ _ e => e)
    obtain ⟨v, rfl, hq⟩ := z
    exact wpAny_pure hq
  · refine wpAny_bind (wpAny_pure ?_)
    simp only [Bool.false_eq_true, if_false]
    refine wpAny_bind (wpAny_mono one (fun r s' z => ?_) fun _ _ e => e)
    obtain ⟨v, rfl, hq⟩ := z
    exact wpAny_pure hq
end
end FrNe

namespace L2
open PySem PySem.Spec PyProof.Rows
/-- what x != y asks: x an instance whose class finds the own __eq__ g, y an instance; then what g promises of x == y, turned -/
def rNeOwn (K : PySem.W.Frag) (g : Addr) (sp : Sp) (E : XK) : R2 := fun x y H Q => ∃ a b C D dx dy fs gs, x = .ref a ∧ y = .ref b ∧ H a = some (.ins C dx fs) ∧ H b = some (.ins D dy gs) ∧
  PySem.W.notFirst K C (.ref D) = true ∧ PySem.W.findIn K (.ref C) "__ne__" = some (some (.builtin "object.__ne__")) ∧ PySem.W.mroIn K C (.type "object") = some true ∧
  PySem.W.findIn K (.ref C) "__eq__" = some (some (.ref g)) ∧ sp [.ref a, .ref b] H (fun v H' => ∃ c, v = .bl c ∧ Q (.bl (!c)) H') E
theorem op_neOwn {X : Cx} {CX : CXT} {n : Nat} {g : Addr} {fd : FuncData} {ps : List Str} {sp : Sp} {E : XK} (F : FnOk X.prog X.w X.K X.mg X.base CX n g fd ps sp) (hr : Room (n + 1) X.A)
    (hf : PySem.W.isFn X.K (.ref g) = true) (hb : Binds X.K fd ps []) (hx : Passes CX X E) : OpR X (compareOp .NotEq) (rNeOwn X.K g sp E) := by
  intro pins s σ H x y v u Q I rx ry hq
  obtain ⟨a, b, C, D, dx, dy, fs, gs, rfl, rfl, ha, hb', hn, hs, hm, he, hsp⟩ := hq
  cases rx
  cases ry
  obtain ⟨mA, J, _⟩ := ins_get I.hok ha
  obtain ⟨mB, J', _⟩ := ins_get I.hok hb'
  obtain ⟨od, J, _⟩ := J.look
  obtain ⟨od', J', _⟩ := J'.look
  have hu : X.A.units + 1 < cLine := hu_of hr
  show wpAny (model X.prog X.w) X.A (richCompare .NotEq (.ref a) (.ref b)) (EP X pins σ Q) X.xe s
  refine FrNe.rich_ne I.kIn J hu J'.type hn hs hm he hf ?_
  have e0 : Env0 X.prog X.w X.K X.mg X.base X.A.in1 X.stack s H := by
    have e := I.env0
    exact ⟨e.frames, e.mod, e.bs, e.bsz, e.funs, e.frf, e.hok, e.bare⟩
  have hl := F.len _ _ _ _ hsp
  have r2 : Vals [V.ref a, V.ref b] [Value.ref a, Value.ref b] := .cons rfl (.cons rfl .nil)
  have hbb : BindsTo s fd ⟨[.ref a, .ref b], []⟩ (ps.zip [.ref a, .ref b]) := by
    have z := hb s [.ref a, .ref b] I.kIn (by simpa using hl)
    simpa using z
  refine wpAny_call (codeAny_mono (F.run X.A.in1 X.stack s H ⟨[.ref a, .ref b], []⟩ [.ref a, .ref b] [.ref a, .ref b] _ E hr.in1 e0 hbb r2 hsp) fun r s' hq => ?_)
  cases r with
  | error e => exact hx pins σ H s e s' I hq
  | ok fl =>
    cases fl with
    | ret z =>
      obtain ⟨zv, H', I', rz, c, ez, q⟩ := I.after hq
      subst ez
      cases rz
      exact ⟨c, rfl, .bl (!c), H', I', rfl, q⟩
    | next => exact False.elim hq
    | brk => exact False.elim hq
    | cont => exact False.elim hq
end L2
/-! ## FrExt -/
set_option Elab.async false
set_option linter.all false
set_option maxRecDepth 100000
/-! list.extend of a tuple. -/
namespace FrExt
open PySem PySem.SeqAt
open AutoSeq1
theorem grow (l b : Addr) (its its2 : Array Value) (n n2 : Nat) (dd : Option Addr) (sl : Array (Option Value)) (h0 : ¬(!its.isEmpty && Builtin.List.listTooLong (its.size + its2.size)) = true)
    (h1 : its.size ≤ sizeLine) (h2 : its.size + its2.size ≤ sizeLine + 1) :
    Meets (Builtin.«list.extend» ⟨[.ref l, .ref b], []⟩) (fun _ R s => s.heap.get? l = some { cls := .type "list", data := .seq its n } ∧
      s.heap.get? b = some { cls := .type "tuple", dict := dd, data := .seq its2 n2, slots := sl } ∧
      R (.ok (.ret .none)) { s with heap := s.heap.update l (Obj.mapSeq fun x => x ++ its2), toks := s.toks }) :=
  .of_wp fun prog w A R s h => by
    obtain ⟨hp, g, d, tk, os⟩ := s
    obtain ⟨hl, hb, h⟩ := h
    have f1 := idx_int
    have f2 := sub_tuple_tuple
    have f3 := sub_list_list
    have f4 := sub_tuple_list
    have f5 := sub_list_tuple
    have z : (its ++ its2).size ≤ sizeLine + 1 := by
      rw [Array.size_append]
      exact h2
    wp_walk using (wpAny_updateSeq hl rfl (hz := h1) (_hz' := z)), wpAny_loadPart' hl, wpAny_loadPart' hb
    exact ⟨_, rfl, h⟩
end FrExt
namespace L2
open PySem PySem.Spec PyProof.Rows
section
variable {X : Cx}
def rExtT : V → List V → Hp → VK → Prop := fun x vs H Q => ∃ l b xs zs, x = .ref l ∧ vs = [.ref b] ∧ H l = some (.lst xs) ∧ H b = some (.tup zs) ∧ xs.length + zs.length ≤ sizeLine ∧ Q .non (upd H l (.lst (xs ++ zs)))
theorem mt_extT : MtR X "list.extend" rExtT := by
  intro pins s σ H x vs v us Q I rx rv h
  obtain ⟨l, b, xs, zs, rfl, rfl, hl, hb, hz, q⟩ := h
  cases rx
  obtain ⟨u, rfl, ru⟩ := rv.one
  cases ru
  obtain ⟨_, its, n, r, _, e⟩ := I.lstM hl
  obtain ⟨_, its2, r2, ⟨oc, od, dt, sl⟩, h1, h2, n2, h3⟩ := (show ObjOk X.prog X.w H s.heap b (.tup zs) from I.hok b _ hb)
  simp only at h2 h3
  subst h2 h3
  have l1 := r.length
  have l2 := r2.length
  have sz : its.toArray.size + its2.toArray.size ≤ sizeLine := by
    rw [List.size_toArray, List.size_toArray]
    omega
  refine call_meets F.slot_list_extend ⟨_, e, rfl⟩ F.entry_list_extend (F.args_list_extend_2 _ _)
    (FrExt.grow l b its.toArray its2.toArray n n2 od sl ?_ (by omega) (by omega)) ⟨e, h1, ?_⟩
  · rw [notLongL sz, Bool.and_false]
    exact Bool.false_ne_true
  · exact ⟨.non, _, I.lset (its' := its ++ its2) hl e (by simp) (r.append r2) (by rw [List.length_append]; omega), rfl, q⟩
end
end L2
/-! ## FrEnum -/
set_option Elab.async false
set_option linter.all false
set_option maxRecDepth 100000
/-! for i, x in enumerate(t), t a tuple. -/
namespace FrEnum
open PySem PySem.Spec PyProof.Rows
set_option maxHeartbeats 1000000 in
theorem new1 {v : Value} {o : Obj} {H : Heap → Prop} (B : Begins v o H) :
    Meets (Builtin.«enumerate.__new__» ⟨[.type "enumerate", v], []⟩) (fun _ R s => H s.heap ∧
      R (.ok (.ret (.ref (s.heap.push o).objs.size))) { s with heap := (s.heap.push o).push { cls := .type "enumerate", data := .fields #[.none, .bool false, .ref s.heap.objs.size, rawInt 0, .none, .none] } }) :=
  .of_wp fun prog w A R s h => by
    obtain ⟨hp, g, d, tk, os⟩ := s
    obtain ⟨h1, h⟩ := h
    have hsub := sub_enumerate
    have q1 : ∀ {A' : Around} {E : Value → Shared → Prop} {Q : Value → Shared → Prop}, Q (.ref hp.objs.size) ⟨hp.push o, g, d, tk, os⟩ → wpAny (model prog w) A' (pyIter v) Q E ⟨hp, g, d, tk, os⟩ :=
      fun q => B.iter prog w _ _ ⟨hp, g, d, tk, os⟩ _ h1 q
    wp_walk using q1
    refine wpAny_stack_any fun st => wpAny_pure ?_
    split
    · rename_i c _ _ _ _ _
      cases (c == Value.type "enumerate")
      · wp_walk using q1
        exact ⟨_, rfl, h⟩
      · wp_walk using q1
        exact ⟨_, rfl, h⟩
    · wp_walk using q1
      exact ⟨_, rfl, h⟩
theorem call1 {prog : Program} {w : World} {A : Around} {E : Value → Shared → Prop} {s : Shared} {v : Value} {o : Obj} {H : Heap → Prop} {Q : Value → Shared → Prop} (B : Begins v o H) (h1 : H s.heap)
    (h : ∀ h', IsEnum h' (s.heap.objs.size + 1) s.heap.objs.size 0 .none → h'.get? s.heap.objs.size = some o → h'.objs.size = s.heap.objs.size + 2 →
      (∀ b u, s.heap.get? b = some u → h'.get? b = some u) → Q (.ref (s.heap.objs.size + 1)) { s with heap := h' }) :
    wpAny (model prog w) A (call (.type "enumerate") [v]) Q E s := by
  refine callType_new F.called_enumerate (by decide) (F.typeCall_enumerate_1 _) (F.newCall_enumerate_1 _) (fun obj => F.args_object_init_2 obj _) F.entry_enumerate_new (new1 B) ⟨h1, ?_⟩
  have hz : (s.heap.push o).objs.size = s.heap.objs.size + 1 := Heap.size_push ..
  have he : IsEnum ((s.heap.push o).push { cls := .type "enumerate", data := .fields #[.none, .bool false, .ref s.heap.objs.size, rawInt 0, .none, .none] }) (s.heap.objs.size + 1) s.heap.objs.size 0 .none := by
    have z := Heap.get?_push_size (s.heap.push o) (o := { cls := .type "enumerate", data := .fields #[.none, .bool false, .ref s.heap.objs.size, rawInt 0, .none, .none] }) rfl
    rw [hz] at z
    exact z
  show _ ∧ _
  rw [hz]
  exact ⟨⟨_, he, rfl⟩, h _ he (Heap.get?_push_of_some _ (Heap.get?_push_size _ B.free)) (by rw [Heap.size_push, hz]) fun b u x => Heap.get?_push_of_some _ (Heap.get?_push_of_some _ x)⟩
end FrEnum

namespace L2
open PySem PySem.Spec PyProof.Rows
/-- the pairs (i, xs[i]), each new -/
def IteT (a : Addr) (xs : List V) : It :=
  ⟨fun i H => H a = some (.tup xs) ∧ i < xs.length, fun i H v H' => ∃ T x, v = .ref T ∧ H T = none ∧ H' = upd H T (.tup [.int (i : Nat), x]) ∧ xs[i]? = some x, fun i H => H a = some (.tup xs) ∧ i = xs.length⟩
theorem turn_enumT {P : Program} {w : World} {K : PySem.W.Frag} {elts : List Expr} {kk : Nat} {tpos : Pos} (a e it : Addr) (xs : List V) :
    Turn P w K (.Tuple elts kk tpos) (IteT a xs) [e, it] e (fun i h => (∃ old, IsEnum h e it ((i : Nat) : Int) old) ∧ h.IsTupleIter it a i ∧ e ≠ it) where
  mem := by simp
  obj := fun i h st b hb => by
    obtain ⟨⟨old, he⟩, ⟨o, ho, hc, hd⟩, _⟩ := st
    have e' : b = e ∨ b = it := by simpa using hb
    rcases e' with rfl | rfl
    · exact ⟨_, he, fun v q => nomatch q⟩
    · exact ⟨o, ho, fun v q => by rw [hd] at q; cases q⟩
  keep := fun i h h' st k => by
    obtain ⟨⟨old, he⟩, hi, hne⟩ := st
    exact ⟨⟨old, k e (by simp) _ he⟩, hi.at fun o q => k it (by simp) o q, hne⟩
  item := by
    intro X hP hw hK hc i pins s σ H E I hf st hg
    subst hP hw hK
    obtain ⟨⟨old, he⟩, hit, hne⟩ := st
    obtain ⟨ha, hi⟩ := hg
    obtain ⟨its, rv, p, hz⟩ := I.tuple (Or.inl (Or.inl ha))
    have hl := rv.length
    have fe := (hf e (by simp)).1
    have ft := (hf it (by simp)).1
    have nit : a ≠ it := ne_of_none ha ft
    have hel : e < s.heap.objs.size := Heap.lt_size he
    have hil : it < s.heap.objs.size := by
      obtain ⟨_, q, _⟩ := hit
      exact Heap.lt_size q
    have D := Draws.tuple (prog := X.prog) (w := X.w) (A := X.A.in1) (show X.A.in1.handled = none from I.ok.hd hc) it a nit its.toArray
    have ne2 : e ∉ [it, a] := by
      intro m
      rcases List.mem_cons.mp m with z | m
      · exact hne z
      · have z : e = a := by simpa using m
        rw [z, ha] at fe
        cases fe
    refine wpAny_pyNext_enum_itemC D he ⟨hit, p⟩ (by rw [List.size_toArray, ← hl]; exact hi) hne ne2 fun u h' tk hu ho st' hT hsz hk => ?_
    obtain ⟨hit', _⟩ := st'
    refine ⟨_, rfl, wpAny_letOwnedTupleGo_enum (s := { s with heap := h', toks := tk + 1 }) ho fun h'' he' sb => ?_⟩
    have hx : ∃ x, xs[i]? = some x ∧ RelV x u := by
      obtain ⟨v, hv, r⟩ := rv.get (List.getElem?_eq_getElem hi)
      have : v = u := by
        have z : its[i]? = some u := by simpa using hu
        rw [hv] at z
        exact Option.some.inj z
      exact ⟨xs[i], List.getElem?_eq_getElem hi, this ▸ r⟩
    obtain ⟨x, hx, ru⟩ := hx
    have hT2 : h''.get? s.heap.objs.size = some { cls := .type "tuple", data := .seq #[.int i tk, u] } := (sb.2 _ (Nat.ne_of_gt hel)).trans hT
    have new : ObjOk X.prog X.w (upd H s.heap.objs.size (.tup [.int (i : Nat), x])) h'' s.heap.objs.size (.tup [.int (i : Nat), x]) :=
      ⟨by show 2 ≤ sizeLine; decide, [.int i tk, u], .cons ⟨_, rfl⟩ (.cons ru .nil), ⟨_, hT2, rfl, _, rfl⟩⟩
    have I1 : Inv X pins σ (upd H s.heap.objs.size (.tup [.int (i : Nat), x])) { s with heap := h'', toks := tk + 1 } :=
      I.turnedNew (ch := [e, it]) (fun b ob hb q => (sb.2 b (fun z => hb (by simp [z]))).trans (hk b ob (fun z => hb (by simp [z])) (fun z => hb (by simp [z])) q)) hf (Nat.le_refl _) new
    refine ⟨.ref s.heap.objs.size, _, I1, rfl, ⟨_, x, rfl, I.hok.fresh (Nat.le_refl _), rfl, hx⟩, ⟨⟨u, ?_⟩, hit'.at fun o q => (sb.2 it (Ne.symm hne)).trans q, hne⟩, fun b hb => ?_⟩
    · have e1 : ((i + 1 : Nat) : Int) = (i : Int) + 1 := by omega
      rw [e1]
      exact he'
    · have hb' : b < s.heap.objs.size := by
        have e' : b = e ∨ b = it := by simpa using hb
        rcases e' with rfl | rfl
        · exact hel
        · exact hil
      rw [upd_ne (Nat.ne_of_lt hb')]
      exact (hf b hb).1
  done := by
    intro X hP hw hK hc i pins s σ H E I hf st hg
    subst hP hw hK
    obtain ⟨⟨old, he⟩, hit, hne⟩ := st
    obtain ⟨ha, hi⟩ := hg
    obtain ⟨its, rv, p, hz⟩ := I.tuple (Or.inl (Or.inl ha))
    obtain ⟨f0, f1, f2, f3, f4, f5⟩ := hf it (by simp)
    have hl := rv.length
    have nit : a ≠ it := ne_of_none ha f0
    have D := Draws.tuple (prog := X.prog) (w := X.w) (A := X.A.in1) (show X.A.in1.handled = none from I.ok.hd hc) it a nit its.toArray
    have hn : its.toArray.size = i := by rw [List.size_toArray, ← hl, hi]
    exact wpAny_pyNext_enum_endD D he ⟨by rw [hn]; exact hit, p⟩ fun h' eb => ⟨rfl, I.turned (t' := s.toks) (fun b o hb q => eb b o hb q) f0 f1 f3 f4 f5⟩
  self := fun A i s Q E st h => by
    obtain ⟨⟨_, he⟩, _⟩ := st
    exact wpAny_pyIter_enum he h
def iEnumT (ta : TA) : TI := fun σ H R => ta σ H fun vs H1 => ∃ a xs, vs = [.ref a] ∧ H1 a = some (.tup xs) ∧ R (IteT a xs) H1
theorem pi_enumT {X : Cx} {e : Expr} {ta : TA} {p pos tpos : Pos} {elts : List Expr} {kk : Nat} (hg : Gl X "enumerate") (hm : X.mg "enumerate" = none) (ha : PA X [e] ta) (hs : starEach [e] X.env = [(false, eval e X.env)] := by rfl) :
    PI X (.Tuple elts kk tpos) (.Call (.Name "enumerate" p) [e] [] pos) (iEnumT ta) := by
  refine ⟨fun pins s σ H R I h => ?_⟩
  refine Call_ (ld_blt I hg hm boot_enumerate (PyProof.Rows.callWith_type1 (thn (ha.run pos pins s σ H _ I h) fun us s1 ⟨vs, H1, I1, r1, q1⟩ => ?_) hs rfl))
  obtain ⟨a, xs, ex, hq, q⟩ := q1
  subst ex
  obtain ⟨u, rfl, ru⟩ := r1.one
  cases ru
  obtain ⟨its, rv, p', hz⟩ := I1.tuple (Or.inl (Or.inl hq))
  refine FrEnum.call1 (begins_tuple a its.toArray) p' fun h' he hit hsz hk => wpAny_pyIter_enum he ?_
  have I2 : Inv X pins σ H1 { s1 with heap := h' } := I1.kept (t' := s1.toks) hk
  refine ⟨s1.heap.objs.size + 1, [s1.heap.objs.size + 1, s1.heap.objs.size], _, _, H1, rfl, I2, turn_enumT a (s1.heap.objs.size + 1) s1.heap.objs.size xs, ⟨⟨.none, he⟩, ⟨_, hit, rfl, rfl⟩, Nat.succ_ne_self _⟩, fun b hb => ?_, q⟩
  have hle : s1.heap.objs.size ≤ b := by
    have e' : b = s1.heap.objs.size + 1 ∨ b = s1.heap.objs.size := by simpa using hb
    rcases e' with z | z
    · rw [z]
      exact Nat.le_add_right _ _
    · rw [z]
      exact Nat.le_refl _
  exact I1.fpOk hle (I1.hok.fresh hle)
theorem walk_enumT {a : Addr} {xs : List V} : Walk (IteT a xs) xs.length (fun H => H a = some (.tup xs)) (YPair (fun i => some (.int (i : Nat))) (fun i => xs[i]?)) :=
  ⟨fun i _ hi q => ⟨q, hi⟩, fun _ q => ⟨q, rfl⟩, fun i H v H' _ q y => by
    obtain ⟨T, x, h1, h2, h3, h4⟩ := y
    exact ⟨T, .int (i : Nat), x, h1, h2, h3, rfl, h4⟩⟩
end L2
/-! ## FrDict -/
set_option Elab.async false
set_option linter.all false
set_option maxRecDepth 100000
/-! d.copy(), tuple(d). -/
namespace FrDict
open PySem PySem.Spec PyProof.Rows PySem.W
section
variable {prog : Program} {w : World} {A : Around} {E : Value → Shared → Prop} {s : Shared} {T : String} {r d : Addr} {n : Nat} {P : Nat → Value → Prop} {OK : Heap → Prop}
theorem gather {Q : List Value → Shared → Prop} (K : KdlSrc prog w T r d n P OK) (hh : A.handled = none) (hok : OK s.heap) (hn : n ≤ sizeLine)
    (hQ : ∀ (h' : Heap) (tk : Nat) (acc : Array Value), (∀ b o, s.heap.get? b = some o → h'.get? b = some o) → ItemsOf P acc n → Q acc.toList { s with heap := h', toks := tk }) :
    wpAny (model prog w) A (collect (.ref r)) Q E s := by
  have lt := K.there _ hok
  unfold collect
  refine wpAny_bind (wpAny_runValue (codeAny_builtin F.entry_proto_collect ?_))
  rw [Around.under_plainId F.plain_proto_collect _]
  show wpAny _ A.in1 (newList [] >>= fun l => again (.builtin "list.__iadd__" ⟨[l, .ref r], []⟩)) _ _ s
  refine wpAny_bind (wpAny_newObj_type ?_)
  refine wpAny_pure ⟨plainId_quiet F.plain_list_iadd _, codeAny_builtin F.entry_list_iadd ?_⟩
  rw [Around.under_plainId F.plain_list_iadd _]
  show wpAny _ A.in1 (Builtin.List.listExtendWith (.ref s.heap.objs.size) (.ref r) (.ref s.heap.objs.size)) _ _ _
  have hS : (s.heap.push { cls := .type "list", data := .seq ([] : List Value).toArray }).get? s.heap.objs.size = some { cls := .type "list", data := .seq #[] 0 } := Heap.get?_push_size _ rfl
  refine wpAny_mono (kdl_extend (A := A) (s := { s with heap := s.heap.push { cls := .type "list", data := .seq ([] : List Value).toArray } })
    (R := fun rr s' => rr = .ok (.ret (.ref s.heap.objs.size)) ∧ ∃ (h' : Heap) (tk : Nat) (acc : Array Value) (c' : Nat), s' = { s with heap := h', toks := tk } ∧
      (∀ b o, s.heap.get? b = some o → h'.get? b = some o) ∧ h'.get? s.heap.objs.size = some { cls := .type "list", dict := none, data := .seq acc c', slots := #[] } ∧ ItemsOf P acc n)
    K hh (K.keep _ _ hok fun b _ o e => Heap.get?_push_of_some _ e) s.heap.objs.size (Nat.ne_of_gt lt.1) (Nat.ne_of_gt lt.2) _ 0 hS
    (fun h' tk acc c' hk e hi => ⟨rfl, h', tk, acc, c', rfl, fun b o q => hk b o (Nat.ne_of_lt (Heap.lt_size q)) (Heap.get?_push_of_some _ q), e, hi⟩) hn) (fun fin s' h => ?_) (fun e s' h => ?_)
  · cases fin with
    | done f =>
      obtain ⟨e, h', tk, acc, c', rfl, hk, hS', hi⟩ := h
      cases e
      show wpAny _ A (load s.heap.objs.size >>= _) _ _ _
      exact wpAny_bind (wpAny_load hS' (wpAny_pure (hQ h' tk acc hk hi)))
    | again c' =>
      refine ⟨h.1, codeAny_mono h.2 fun rr s'' z => ?_⟩
      obtain ⟨rfl, h', tk, acc, c', rfl, hk, hS', hi⟩ := z
      show wpAny _ A (load s.heap.objs.size >>= _) _ _ _
      exact wpAny_bind (wpAny_load hS' (wpAny_pure (hQ h' tk acc hk hi)))
  · exact absurd h.1 (by simp)
theorem new_code {Q₁ : Value → Shared → Prop} (K : KdlSrc prog w T r d n P OK) (hT : T = "dict") (hh : A.handled = none) (hok : OK s.heap) (hn : n ≤ sizeLine)
    (h : ∀ (h' : Heap) (tk : Nat) (acc : Array Value), (∀ b o, s.heap.get? b = some o → h'.get? b = some o) → ItemsOf P acc n →
      Q₁ (.ref h'.objs.size) { s with heap := h'.push { cls := .type "tuple", data := .seq acc }, toks := tk }) :
    codeAny (model prog w) A (.call (.builtin "tuple.__new__") ⟨[.type "tuple", .ref r], []⟩) (wants Q₁ E) s := by
  subst hT
  refine codeAny_of_tree ?_
  show wpAny _ A.in1 (do checkBuiltinCall "tuple.__new__" ⟨[.type "tuple", .ref r], []⟩; again (.builtin "tuple.__new__" ⟨[.type "tuple", .ref r], []⟩)) _ _ s
  refine wpAny_bind (wpAny_of_eq (F.newCall_tuple_1 _) (wpAny_pure ⟨plainId_quiet F.plain_tuple_new _, codeAny_builtin F.entry_tuple_new ?_⟩))
  rw [Around.under_plainId F.plain_tuple_new _]
  have hsub := sub_tuple_self
  have hinit := init_tuple_lookup
  have hmh := madeHere_tuple
  have hTI : s.TypeIs (.ref r) "dict" := K.type s hok
  have hh1 : A.in1.handled = none := hh
  wp_walk using wpAny_typeOf hTI, gather (A := A.in1) K hh1 hok hn
  intro h' tk acc hk hacc
  show wpAny _ _ (Builtin.Tuple.tupleExact acc.toList.toArray >>= fun v => ret v) _ _ _
  unfold Builtin.Tuple.tupleExact
  have e : acc.toList.toArray = acc := by simp
  rw [e]
  refine wpAny_bind (wpAny_newObj_type (wpAny_pure (h h' tk acc hk hacc)) ?_)
  show acc.size ≤ sizeLine
  rw [hacc.1]
  exact hn
theorem call_tup {Q : Value → Shared → Prop} (K : KdlSrc prog w T r d n P OK) (hT : T = "dict") (hh : A.handled = none) (hok : OK s.heap) (hn : n ≤ sizeLine)
    (hQ : ∀ (h' : Heap) (tk : Nat) (acc : Array Value), (∀ b o, s.heap.get? b = some o → h'.get? b = some o) → ItemsOf P acc n →
      Q (.ref h'.objs.size) { s with heap := h'.push { cls := .type "tuple", data := .seq acc }, toks := tk }) :
    wpAny (model prog w) A (call (.type "tuple") [.ref r]) Q E s := by
  refine callType_codes (Q₁ := fun obj s₁ => s₁.TypeIs obj "tuple" ∧ Q obj s₁) F.called_tuple (F.typeCall_tuple_1 _) F.entry_object_init
    (new_code (A := A.in1) K hT hh hok hn fun h' tk acc hk hacc => ⟨⟨_, Heap.get?_push_size _ rfl, rfl⟩, hQ h' tk acc hk hacc⟩) fun obj s₁ h₁ => ?_
  exact ⟨h₁.1, F.args_object_init_2 obj _, object_init_meets F.called_tuple.init.lookup F.called_tuple.made (by decide) prog w A.in1 _ s₁ ⟨h₁.1, rfl, h₁.2⟩⟩
end
end FrDict
namespace L2
open PySem PySem.Spec PyProof.Rows
section
variable {X : Cx}
/-- tuple(d): its keys -/
def rTupD : List V → Hp → VK → Prop := fun xs H Q => ∃ (a : Addr) (kvs : List (Key × V)), xs = [.ref a] ∧ Rd H a (.dK kvs) ∧ ∀ p, H p = none → Q (.ref p) (upd H p (.tup (kvs.map fun kv => kV kv.1)))
theorem call_tupD (hc : X.calm = true) : CallR X (.type "tuple") rTupD := by
  intro pins s σ H xs us Q I r q
  obtain ⟨a, kvs, rfl, hd, q⟩ := q
  obtain ⟨u, rfl, rx⟩ := r.one
  cases rx
  obtain ⟨z, lo, vs, rel, dd⟩ := dk_rd I.hok hd
  obtain ⟨ep, hat⟩ := dd.dictAt
  have ek : (kvs.map fun kv => kV kv.1) = vs.map fun p => kV p.1 := by
    have e := congrArg (List.map kV) rel.keys
    rwa [List.map_map, List.map_map] at e
  have hz : vs.length ≤ sizeLine := by rw [← rel.length]; exact z
  refine FrDict.call_tup (PySem.W.kdl_dict (knd := mixKind X.prog X.w) (kvs := vs) (ep := ep) lo) rfl (I.ok.hd hc) hat hz fun h' tk acc hk hacc => ?_
  have hv : Vals (vs.map fun p => kV p.1) acc.toList := keys_at (by rw [Array.length_toList]; exact hacc.1) fun j v e => hacc.2 j v (by rw [← Array.getElem?_toList]; exact e)
  have I1 : Inv X pins σ H { s with heap := h', toks := tk } := I.kept (t' := tk) hk
  have I2 : Inv X pins σ (upd H h'.objs.size (.tup (kvs.map fun kv => kV kv.1))) { s with heap := h'.push { cls := .type "tuple", data := .seq acc }, toks := tk } := by
    refine I1.laid (t' := tk) (fun b o e => Heap.get?_push_of_some _ e) (Nat.le_refl _) ?_
    refine ⟨by rw [List.length_map]; exact z, acc.toList, by rw [ek]; exact hv, ?_⟩
    have e := IsTup.new h' acc
    simpa using e
  exact ⟨.ref h'.objs.size, _, I2, rfl, q _ (I1.hok.fresh (Nat.le_refl _))⟩
/-- d.copy() -/
def rCopyD : V → List V → Hp → VK → Prop := fun x xs H Q => ∃ (a : Addr) (kvs : List (Key × V)), x = .ref a ∧ xs = [] ∧ H a = some (.dK kvs) ∧ ∀ p, H p = none → Q (.ref p) (upd H p (.dK kvs))
theorem mt_copyD : MtR X "dict.copy" rCopyD := by
  intro pins s σ H x xs v us Q I rx rv h
  obtain ⟨a, kvs, rfl, rfl, ha, q⟩ := h
  cases rx
  have hus := rv.zero
  subst hus
  obtain ⟨z, lo, vs, rel, dd⟩ := dk_rd I.hok (.inl ha)
  refine call_meetsIn F.slot_dict_copy dd.typeIs F.entry_dict_copy (F.args_dict_copy_1 _) (meets_dict_copy (mixKind X.prog X.w) a lo) ⟨vs, dd, by rw [← rel.length]; exact z, fun h' d' _ hk => ?_⟩
  have hm : (s.heap.objs.size == sysModules) = false := beq_eq_false_iff_ne.mpr (Nat.ne_of_gt I.big)
  exact ⟨.ref s.heap.objs.size, upd H s.heap.objs.size (.dK kvs), I.laid (t' := s.toks) hk (Nat.le_refl _) ⟨z, hm, vs, rel, d'⟩, rfl, q _ (I.hok.fresh (Nat.le_refl _))⟩
end
end L2
/-! ## FrSet -/
set_option Elab.async false
set_option linter.all false
set_option maxRecDepth 100000
/-! len(set(t)), t a tuple of unlike texts. -/
namespace FrSet
open PySem PySem.Spec PyProof.Rows
/-- a built-in class called: what __new__ and __init__ do -/
theorem made {prog : Program} {w : World} {A : Around} {E : Value → Shared → Prop} {s : Shared} {T newId initId : String} {args : List Value} {Q Q₁ : Value → Shared → Prop} (ft : TypeCalled T newId initId) (hct : checkTypeCall T ⟨args, []⟩ = pure ())
    (hnew : codeAny (model prog w) A.in1 (.call (.builtin newId) ⟨.type T :: args, []⟩) (wants Q₁ E) s)
    (hnext : ∀ obj s₁, Q₁ obj s₁ → s₁.TypeIs obj T ∧ codeAny (model prog w) A.in1 (.call (.builtin initId) ⟨obj :: args, []⟩) (wants (fun r s₂ => r = .none ∧ Q obj s₂) E) s₁) :
    wpAny (model prog w) A (call (.type T) args) Q E s := by
  obtain ⟨_, _, hmro⟩ := ft.mro
  have z1 := ft.made
  have z2 := ft.sub
  have z3 := ft.notType
  have z4 := ft.canCreate
  refine wpAny_call (codeAny_of_tree ?_)
  show wpAny _ _ (callAny (.type T) _) _ _ _
  refine wpAny_pure ⟨Code.quiet_builtin _ (by decide +kernel), codeAny_builtin F.entry_type_call ?_⟩
  rw [Around.under_plain (weight_type_call_type T args []) rfl]
  repeat (any_goals (first | assumption | wp_step))
  refine codeAny_mono hnew fun r s₁ hr => ?_
  rcases r with e | fl
  · exact hr
  · cases fl with
    | ret obj =>
      obtain ⟨hT, hi⟩ := hnext _ _ hr
      have z5 := ft.init.lookup
      have z6 := ft.init.bind obj
      repeat (any_goals (first | assumption | wp_step))
      refine codeAny_mono hi fun r₂ s₂ q => ?_
      rcases r₂ with e | fl₂
      · exact q
      · cases fl₂ with
        | ret r =>
          obtain ⟨rfl, hq⟩ := q
          repeat (any_goals (first | assumption | wp_step))
        | _ => exact q.elim
    | _ => exact hr.elim
theorem grown {xs : List Str} (nd : xs.Nodup) {i : Nat} (hi : i < xs.length) : xs[i] ∉ xs.take i := by
  intro hm
  obtain ⟨j, hj, e⟩ := List.mem_take_iff_getElem.mp hm
  have hj' : j < i := by omega
  have := (List.getElem_inj nd).mp e
  omega
section
variable {prog : Program} {w : World} {A : Around} {R : Result → Shared → Prop} {I : Addr} {fp wr : List Addr} {G : Array GenState → Array GenState → Prop} {P : Nat → Value → Prop} {St : Nat → Shared → Prop}
theorem loop (xs : List Str) (nd : xs.Nodup) (W : WalksS prog w A.in1 I fp wr G xs.length P St) (S : Addr) (hSf : S ∉ fp) (hb : xs.length + 1 < scanBound) (hval : ∀ i v (h : i < xs.length), P i v → ∃ t, v = .str xs[i] t) :
    ∀ (k i : Nat) (s : Shared), xs.length - i = k → i ≤ xs.length → St i s → s.heap.SetOf (PySem.strKind prog w) S (fun z => decide (z ∈ xs.take i)) i →
      (∀ s', Moved (S :: wr) G s s' → s'.heap.SetOf (PySem.strKind prog w) S (fun z => decide (z ∈ xs)) xs.length → R (.ok (.ret .none)) s') →
      codeAny (model prog w) A (.builtin "set.update.loop" ⟨[.ref S, .ref I], []⟩) R s := by
  have hSw : S ∉ wr := fun h => hSf (W.sub _ h)
  have sub1 : ∀ b ∈ wr, b ∈ S :: wr := fun b hb => List.mem_cons_of_mem _ hb
  intro k
  induction k with
  | zero =>
    intro i s hk hi hst hS hR
    obtain rfl : i = xs.length := by omega
    refine codeAny_builtin PyProof.Rows.F.entry_set_update_loop ?_
    rw [Around.under_plainId PyProof.Rows.F.plain_set_update_loop _]
    show wpAny _ A.in1 (pyNext (.ref I) >>= _) _ _ s
    refine wpAny_bind (W.done s _ _ hst fun s' hm => ?_)
    show wpAny _ A.in1 (ret Value.none) _ _ s'
    refine wpAny_pure (hR s' (hm.mono sub1) ?_)
    obtain ⟨o, es, ep, t, ho, rest⟩ := hS
    rw [List.take_length] at rest
    exact ⟨o, es, ep, t, hm.heap S _ hSw ho, rest⟩
  | succ k ih =>
    intro i s hk hi hst hS hR
    have hlt : i < xs.length := by omega
    refine codeAny_builtin PyProof.Rows.F.entry_set_update_loop ?_
    rw [Around.under_plainId PyProof.Rows.F.plain_set_update_loop _]
    show wpAny _ A.in1 (pyNext (.ref I) >>= _) _ _ s
    refine wpAny_bind (W.item i s _ _ hlt hst fun v s' hP hst' hm => ?_)
    obtain ⟨t, rfl⟩ := hval i v hlt hP
    have hS' : s'.heap.SetOf (PySem.strKind prog w) S (fun z => decide (z ∈ xs.take i)) i := by
      obtain ⟨o, es, ep, tb, ho, rest⟩ := hS
      exact ⟨o, es, ep, tb, hm.heap S _ hSw ho, rest⟩
    have hkey : (PySem.strKind prog w).is xs[i] (.str xs[i] t) = true := strKind_is _ _ _ _
    show wpAny _ A.in1 (holding [Value.str xs[i] t] (setAdd S (.str xs[i] t)) >>= _) _ _ s'
    refine wpAny_bind (wpAny_holding ?_)
    unfold setAdd
    refine wpAny_holding ?_
    refine wpAny_bind ((PySem.strKind prog w).pyHash (k := xs[i]) hkey ?_)
    refine wpAny_setAddHashed_of (knd := PySem.strKind prog w) (s := { s' with toks := s'.toks + 1 }) hkey rfl hS' (by omega) fun h' same put => ?_
    have no : decide (xs[i] ∈ xs.take i) = false := decide_eq_false (grown nd hlt)
    have put' : h'.SetOf (PySem.strKind prog w) S (fun z => decide (z ∈ xs.take (i + 1))) (i + 1) := by
      refine SetOf_congr put (fun z => ?_) (by simp [no])
      rw [List.take_add_one, List.getElem?_eq_getElem hlt]
      simp only [Option.toList_some, List.mem_append, List.mem_singleton, Bool.decide_or]
    refine wpAny_pure ⟨plainId_quiet PyProof.Rows.F.plain_set_update_loop _, ih (i + 1) _ (by omega) hlt (W.frame _ s' _ _ hst' (Nat.le_succ _) fun b hb o e => ?_) put' fun s'' hm'' hS'' => ?_⟩
    · rw [same.2 b (fun h : b = S => hSf (by rw [← h]; exact hb))]
      exact e
    · refine hR s'' (Moved.trans W.gtrans ((hm.mono sub1).then_heap (Nat.le_succ _) fun b o hb e => ?_) hm'') hS''
      rw [same.2 b (fun h : b = S => hb (by rw [h]; exact List.mem_cons_self))]
      exact e
end
section
variable {prog : Program} {w : World} {A : Around} {E : Value → Shared → Prop} {s : Shared}
set_option maxHeartbeats 3200000 in
theorem call_set {l : Addr} {items : Array Value} {xs : List Str} {Q : Value → Shared → Prop}
    (hh : A.handled = none) (hl : s.heap.IsTuple l items) (hi : StrsAre items.toList xs) (nd : xs.Nodup) (hb : xs.length + 1 < scanBound)
    (h : ∀ (h' : Heap) (tk : Nat), h'.SetOf (PySem.strKind prog w) s.heap.objs.size (fun z => decide (z ∈ xs)) xs.length →
      (∀ b o, s.heap.get? b = some o → h'.get? b = some o) → Q (.ref s.heap.objs.size) { s with heap := h', toks := tk }) :
    wpAny (model prog w) A (call (.type "set") [.ref l]) Q E s := by
  refine made (Q₁ := fun obj s₁ => ∃ led : Bool, obj = .ref s.heap.objs.size ∧ s₁ = { s with heap := s.heap.push { cls := .type "set", dict := none, data := .set #[] 0 (.fresh 0 0 led) } }) PySem.F.called_set
    (PySem.F.typeCall_set_1 (.ref l)) (code_set_new_1 (.ref l) fun led => ⟨led, rfl, rfl⟩) fun obj s₁ h₁ => ?_
  obtain ⟨led, rfl, rfl⟩ := h₁
  have hS : (s.heap.push { cls := .type "set", dict := none, data := .set #[] 0 (.fresh 0 0 led) }).get? s.heap.objs.size = some { cls := .type "set", dict := none, data := .set #[] 0 (.fresh 0 0 led) } := Heap.get?_push_size _ rfl
  have hT : Shared.TypeIs { s with heap := s.heap.push { cls := .type "set", dict := none, data := .set #[] 0 (.fresh 0 0 led) } } (.ref s.heap.objs.size) "set" := ⟨_, hS, rfl⟩
  refine ⟨hT, codeAny_call_builtin PySem.F.called_set.init.plain PySem.F.entry_set_init (check_set_init_1 hT ?_)⟩
  obtain ⟨⟨oc, od, dt, sl⟩, hol, hcl, nl, hdl⟩ := hl
  simp only at hcl hdl
  subst hcl hdl
  have hol' : (s.heap.push { cls := .type "set", dict := none, data := .set #[] 0 (.fresh 0 0 led) }).get? l = some { cls := .type "tuple", dict := od, data := .seq items nl, slots := sl } := Heap.get?_push_of_some _ hol
  have hsls := PySem.F.sub_tuple_set
  have hslf := PySem.F.sub_tuple_frozenset
  have hne : (Value.type "tuple" == Value.type "dict") = false := by decide
  have hl1 : (s.heap.push { cls := .type "set", dict := none, data := .set #[] 0 (.fresh 0 0 led) }).IsTuple l items := ⟨_, hol', rfl, nl, rfl⟩
  have hlS : l < s.heap.objs.size := Heap.lt_size hol
  have hh3 : A.in1.in1.in1.handled = none := by simp [hh]
  have hz : (s.heap.push { cls := .type "set", dict := none, data := .set #[] 0 (.fresh 0 0 led) }).objs.size = s.heap.objs.size + 1 := Heap.size_push ..
  have hsz : xs.length = items.size := by rw [← StrsAre.len_eq hi, Array.length_toList]
  unfold Builtin.«set.__init__» noKeywords Builtin.Frozenset.updateFrom
  generalize hPI : pyIter = PI
  wp_walk
  subst hPI
  refine wpAny_pyIter_tuple hl1 ?_
  refine wpAny_bind (wpAny_runValue ?_)
  have ne1 : l ≠ (s.heap.push { cls := .type "set", dict := none, data := .set #[] 0 (.fresh 0 0 led) }).objs.size := by
    rw [hz]
    exact Nat.ne_of_lt (Nat.lt_succ_of_lt hlS)
  have ne2 : s.heap.objs.size ∉ [(s.heap.push { cls := .type "set", dict := none, data := .set #[] 0 (.fresh 0 0 led) }).objs.size, l] := by
    rw [hz]
    simp only [List.mem_cons, List.not_mem_nil, or_false, not_or]
    exact ⟨Nat.ne_of_lt (Nat.lt_succ_self _), Nat.ne_of_gt hlS⟩
  have Wk := (Walks.tuple (prog := prog) (w := w) hh3 _ l ne1 items).toS
  rw [← hsz] at Wk
  refine loop xs nd Wk s.heap.objs.size ne2 hb (fun i v hi' hv => ?_) xs.length 0 _ (by omega) (Nat.zero_le _) ⟨⟨_, Heap.get?_push_size _ rfl, rfl, rfl⟩, hl1.push _⟩ ?_ ?_
  · obtain ⟨t, e⟩ := SS.strs_at hi i v (by rw [Array.getElem?_toList]; exact hv)
    refine ⟨t, ?_⟩
    rw [e, List.getD_eq_getElem?_getD, List.getElem?_eq_getElem hi']
    rfl
  · have hget := Heap.get?_push_of_some ({ cls := .type "tuple_iterator", data := .fields #[.ref l, .int 0 0] } : Obj) hS
    exact SetOf_congr ((setObjOf_fresh (knd := PySem.strKind prog w) led).setOf hget (by unfold scanBound; omega)) (fun _ => by simp) rfl
  · intro s' hm hS'
    obtain ⟨h', g', d', tk', os'⟩ := s'
    obtain rfl : g' = s.gens := hm.gens
    obtain rfl : d' = s.drawn := hm.drawn
    obtain rfl : os' = s.os := hm.os
    show wpAny _ _ _ _ _ _
    refine wpAny_pure ?_
    show wpAny _ _ (ret Value.none) _ _ _
    refine wpAny_pure ⟨rfl, h h' tk' hS' fun b o e => ?_⟩
    have lt := Heap.lt_size e
    refine hm.heap b o ?_ (Heap.get?_push_of_some _ (Heap.get?_push_of_some _ e))
    rw [hz]
    simp only [List.mem_cons, List.not_mem_nil, or_false, not_or]
    exact ⟨Nat.ne_of_lt lt, Nat.ne_of_lt (Nat.lt_succ_of_lt lt)⟩
end
end FrSet
namespace L2
open PySem PySem.Spec PyProof.Rows
def tLenSetU (ta : TE) : TE := fun σ H Q => ta σ H fun x H1 => ∃ (l : Addr) (xs : List Str), x = .ref l ∧ H1 l = some (.tup (xs.map V.str)) ∧ xs.Nodup ∧ xs.length ≤ 1000 ∧ Q (.int (xs.length : Nat)) H1
theorem pe_lenSetU {X : Cx} {a : Expr} {ta : TE} {p p2 q pos : Pos} (hc : X.calm = true) (hg : Gl X "len") (hm : X.mg "len" = none) (hg2 : Gl X "set") (hm2 : X.mg "set" = none) (ha : PE X a ta)
    (na : starEach [a] X.env = (false, eval a X.env) :: starEach [] X.env := by rfl) : PE X (.Call (.Name "len" p) [.Call (.Name "set" p2) [a] [] q] [] pos) (tLenSetU ta) := by
  refine ⟨fun pins s σ H Q I h => ?_⟩
  refine Call_ (ld_blt I hg hm boot_len (callWith_builtin1 (args_cons ?_ rfl) rfl rfl))
  refine Call_ (ld_blt I hg2 hm2 boot_set (callWith_type1 (args_cons (thn (ha.run pins s σ H _ I h) fun v s1 ⟨x, H1, I1, r1, q1⟩ => args_nil ?_) na) na rfl))
  obtain ⟨l, xs, rfl, hq, nd, hl, q1⟩ := q1
  cases r1
  obtain ⟨its, r, pl, hz⟩ := I1.tuple (Or.inl (Or.inl hq))
  refine FrSet.call_set (I1.ok.hd hc) pl (by simpa using strsAre_of r) nd (by unfold scanBound; omega) fun h' tk hS hk => args_nil ?_
  obtain ⟨o, es, ep, t, ho, hex, hd, _, _, _, hf, hn⟩ := hS
  have I2 : Inv X pins σ H1 { s1 with heap := h', toks := tk } := I1.kept hk
  exact call_len_set ho hex hd hf (by rw [hn]; omega) ⟨.int xs.length, H1, I2.tok _, ⟨_, by rw [hn]⟩, q1⟩
end L2
/-! ## FrSetDc -/
set_option Elab.async false
set_option linter.all false
set_option maxRecDepth 100000
/-! name = {..} on one line, the name a local. -/
namespace L2
open PySem PySem.Spec PyProof.Rows
section
variable {X : Cx}
theorem ps_setDc {i : Nat} {y : Str} {py : Pos} {kx vx tg iter : Expr} {ifs : List Expr} {scope : Scope} {own : List (Str × Nat)} {pos spos : Pos} {wi : TI} {g : TG} {tt : TT} {tk tv : TE} (hc : X.calm = true) (hN : X.N.Nodup) (hy : X.N[i]? = some y) (hyl : X.env.scope.names.lookup y = some .local)
    (hsw : swapsWith (.DictComp kx vx [⟨tg, iter, ifs, 0⟩] scope pos) (some (.Name y py)) spos.line X.env = pure true) (hi : PI X tg iter wi) (ok : BlkOk X.N X.env.scope scope own)
    (hg : ∀ (s : Shared) (H : Hp) (C : Addr) (cl : List (Str × Addr)) (fp : List Addr), PG (X.blk s H scope (compEnvC scope cl C X.env) fp) tg g) (ht : ∀ (s : Shared) (H : Hp) (C : Addr) (cl : List (Str × Addr)) (fp : List Addr), PTs (X.blk s H scope (compEnvC scope cl C X.env) fp) ifs tt)
    (hk : ∀ (s : Shared) (H : Hp) (C : Addr) (cl : List (Str × Addr)) (fp : List Addr), PE (X.blk s H scope (compEnvC scope cl C X.env) fp) kx tk)
    (he : ∀ (s : Shared) (H : Hp) (C : Addr) (cl : List (Str × Addr)) (fp : List Addr), PE (X.blk s H scope (compEnvC scope cl C X.env) fp) vx tv) (hs : ∀ x, foldedSetIterable iter X.env x = pure x := by intro _; rfl) :
    PS X (.Assign [.Name y py] (.DictComp kx vx [⟨tg, iter, ifs, 0⟩] scope pos) spos) (tAsg (tDc wi g tt tk tv (own.map (·.2))) (gName i)) := by
  refine ⟨fun pins s σ H D I h => ?_⟩
  rw [exec_Assign_Name_used _ _ _ _ hsw]
  refine wpAny_bind (wpAny_standAt (wpAny_bind ?_))
  show wpAny _ X.A (do let _ ← comprehension (.DictComp kx vx [⟨tg, iter, ifs, 0⟩] scope pos) scope X.env (firstIterPos [⟨tg, iter, ifs, 0⟩] pos) newDict false (eval iter X.env) (some (assign (.Name y py) X.env))) _ _ s
  have h : tDc wi g tt tk tv (own.map (·.2)) σ H (fun x H1 => gName i x σ H1 D.nx) := h
  refine wpAny_bind (thn (dc_core (Qf := fun _ s' => SP X pins D .next s') hc hN I hi ok hg ht hk he hs h fun L C s' m H' I' q hn f => ?_) fun _ s' hq => wpAny_pure (wpAny_pure hq))
  show wpAny _ _ (assign (.Name y py) X.env (.ref L)) _ _ _
  refine wpAny_assign_Name (store_ok2 (v := V.ref L) I' hN hy (.inl hyl) rfl (fun s2 I2 ⟨a, sb, ha⟩ => ?_) (.inr hyl))
  obtain ⟨f0, f1, f2, f3, f4, f5⟩ := f
  have haC : C ≠ a := by
    rcases ha with z | z
    · rw [z]; exact f1
    · exact fun e => f4 y a z e.symm
  refine ⟨m, hn.sameBut sb haC, fun h3 sb3 => ?_⟩
  exact ⟨_, H', I2.turned (t' := s2.toks) (fun b o hb e => (sb3.2 b hb).trans e) f0 f1 f3 f4 f5, q⟩
theorem sw_trueD {kx vx : Expr} {gs : List Comprehension} {scope : Scope} {pos py : Pos} {y : Str} {l : Nat} {env : Env} (hk : env.scope.kind = .function) (hy : env.scope.names.lookup y = some .local) (hl : (py.line == pos.line) = true)
    (ha : (scope.names.any fun (n, k) => n == y && (k == .local || k == .cell)) = false) : swapsWith (.DictComp kx vx gs scope pos) (some (.Name y py)) l env = pure true := by
  have ky : env.kindOf y = some .local := hy
  have hb : env.blockKind = .function := by unfold Env.blockKind; rw [hk]; rfl
  unfold swapsWith
  simp only [hb, ky, ha, Expr.pos, hl]
  rfl
end
end L2
/-! ## FrBase -/
set_option Elab.async false
set_option linter.all false
set_option maxRecDepth 100000
set_option maxHeartbeats 4000000
/-! What all the texts behind lean on: a def as a constant, built-ins' names, the data and where they stand. -/
namespace Fr
open PySem PySem.Spec PyProof.Rows L2

/-! ### defs -/
/-- the def x keeps the promise sp, at level k -/
structure Cl (P : Program) (w : World) (K : PySem.W.Frag) (mg : Str → Option Value) (base : Heap) (k : Nat) (x : Str) (ps : List Str) (sp : Sp) : Prop where
  ex : ∃ f fd, mg x = some (.ref f) ∧ PySem.W.keepIn K (.ref f) = true ∧ FnOk P w K mg base CX0 k f fd ps sp ∧ Binds K fd ps []
section
variable {P : Program} {w : World} {K : PySem.W.Frag} {mg : Str → Option Value} {base : Heap}
theorem cl_of {x : Str} {i : Nat} {N ps : List Str} {k : Nat} {sp : Sp} (F : ∃ fd, FnP K x i (He.ga K x) fd) (g : mg x = some (.ref (He.ga K x))) (S : FnScope N ps (defScope (top i)))
    (hb : ∀ (kV doc pm : Value) (an : Option Addr) (cdv ct : Value) (us : List Value), us.length = ps.length → bindArgs (PySem.W.fnOf x x (defArgs (top i)) (defBody (top i)) (defScope (top i)) .none kV doc pm an cdv ct) ⟨us, []⟩ = pure (ps.zip us))
    (len : ∀ vs H Q E, sp vs H Q E → vs.length = ps.length)
    (body : ∀ (cdv : Value) (A : Around) (outer : List Env) (s : Shared) (H : Hp) (vs : List V) (Q : VK) (E : XK), Room k (A.deeper (envOfC x (defScope (top i)) s.heap.objs.size (He.ga K x) cdv)) → sp vs H Q E →
      ∃ t, PSs (cxOf CX0 P w K mg base N x (defScope (top i)) (He.ga K x) cdv A outer s H E).nox (defBody (top i)) t ∧ t { nx := fun _ H' => Q .non H', rt := Q } (start N vs) H) : Cl P w K mg base (k + 1) x ps sp := by
  obtain ⟨fd, F⟩ := F
  refine ⟨_, fd, g, F.kp, F.ok S len fun cdv A outer s H vs Q E hr h => ?_, F.bindsN hb⟩
  obtain ⟨t, h1, h2⟩ := body cdv A outer s H vs Q E hr h
  exact ⟨t, PSs.nox h1, h2⟩
theorem Cl.mono {j k : Nat} {x : Str} {ps : List Str} {sp : Sp} (c : Cl P w K mg base j x ps sp) (h : j ≤ k := by decide) : Cl P w K mg base k x ps sp := by
  obtain ⟨f, fd, g, kp, F, b⟩ := c.ex
  exact ⟨f, fd, g, kp, F.mono h, b⟩
theorem Cl.imp {k : Nat} {x : Str} {ps : List Str} {sp sp' : Sp} (c : Cl P w K mg base k x ps sp) (h : ∀ vs H Q E, sp' vs H Q E → sp vs H Q E) : Cl P w K mg base k x ps sp' := by
  obtain ⟨f, fd, g, kp, F, b⟩ := c.ex
  exact ⟨f, fd, g, kp, F.imp h, b⟩
end
section
variable {X : Cx} {k j : Nat} {x : Str} {ps : List Str} {sp : Sp} {p pos : Pos} {e : Expr} {es : List Expr} {t : TA}
/-- f(e, ..) -/
theorem pe_f (c : Cl X.prog X.w X.K X.mg X.base k x ps sp) (hr : Room j X.A) (ha : PA X (e :: es) t) (hk : k ≤ j := by decide) (hg : Gl X x := by rfl) (hdb : (x == ("__debug__" : Str)) = false := by decide)
    (he : starEach (e :: es) X.env = (false, eval e X.env) :: starEach es X.env := by rfl) (hpl : (backTo pos (starEach es X.env)).any (·.1) = false := by rfl) : PE X (.Call (.Name x p) (e :: es) [] pos) (tCall sp [] E0 t) := by
  obtain ⟨f, fd, g, kp, F, b⟩ := c.ex
  exact pe_call F (hr.mono hk) hg g kp b .nil pass0 ha hdb he hpl
end

/-! ### rules within a comprehension: K, not the block's own name of it -/
section
variable {X : Cx} {K : PySem.W.Frag}
theorem ix_tupK (h : X.K = K := by rfl) : IxR X (rIxT K) := h ▸ ix_tup
theorem ix_listK (h : X.K = K := by rfl) : IxR X (rIxL K) := h ▸ ix_list
theorem ix_seqK (h : X.K = K := by rfl) : IxR X (rIx K) := h ▸ ix_seq
theorem len_K (h : X.K = K := by rfl) : CallR X (.builtin "len") (fun xs H Q => ∃ p ys, xs = [.ref p] ∧ (SqL K H p ys ∨ SqT K H p ys) ∧ Q (.int ys.length) H) := h ▸ call_len_seq
end

/-! ### classes -/
/-- the class x stands at C; its __init__ keeps sp -/
structure Mkr (P : Program) (w : World) (K : PySem.W.Frag) (mg : Str → Option Value) (base : Heap) (k : Nat) (x : Str) (C : Addr) (ps : List Str) (sp : Sp) : Prop where
  ex : ∃ f fd, mg x = some (.ref C) ∧ Mk K C f ∧ FnOk P w K mg base CX0 k f fd ps sp ∧ Binds K fd ps []
section
variable {P : Program} {w : World} {K : PySem.W.Frag} {mg : Str → Option Value} {base : Heap}
/-- a method's body -/
theorem fn_of_m {x q : Str} {i j : Nat} {N ps : List Str} {k : Nat} {sp : Sp} {f : Addr} {fd : FuncData} (F : FnM K x q i j f fd) (S : FnScope N ps (defScope (inClass (top i) j))) (len : ∀ vs H Q E, sp vs H Q E → vs.length = ps.length)
    (body : ∀ (cdv : Value) (A : Around) (outer : List Env) (s : Shared) (H : Hp) (vs : List V) (Q : VK) (E : XK), Room k (A.deeper (envOfC q (defScope (inClass (top i) j)) s.heap.objs.size f cdv)) → sp vs H Q E →
      ∃ t, PSs (cxOf CX0 P w K mg base N q (defScope (inClass (top i) j)) f cdv A outer s H E).nox (defBody (inClass (top i) j)) t ∧ t { nx := fun _ H' => Q .non H', rt := Q } (start N vs) H) : FnOk P w K mg base CX0 (k + 1) f fd ps sp :=
  F.ok S len fun cdv A outer s H vs Q E hr h => by
    obtain ⟨t, h1, h2⟩ := body cdv A outer s H vs Q E hr h
    exact ⟨t, PSs.nox h1, h2⟩
end
section
variable {X : Cx} {k j : Nat} {x : Str} {C : Addr} {ps : List Str} {sp : Sp} {p pos : Pos} {e : Expr} {es : List Expr} {t : TA}
theorem pe_mk2 (c : Mkr X.prog X.w X.K X.mg X.base k x C ps sp) (hr : Room j X.A) (ha : PA X (e :: es) t) (hk : k + 1 ≤ j := by decide) (hg : Gl X x := by rfl) (hdb : (x == ("__debug__" : Str)) = false := by decide)
    (he : starEach (e :: es) X.env = (false, eval e X.env) :: starEach es X.env := by rfl) (hpl : (backTo pos (starEach es X.env)).any (·.1) = false := by rfl) : PE X (.Call (.Name x p) (e :: es) [] pos) (tMake C sp [] E0 t) := by
  obtain ⟨f, fd, g, M, F, b⟩ := c.ex
  exact pe_make M F (hr.mono hk) hg g b .nil pass0 ha hdb he hpl
end
theorem same_made {H : Hp} {x dx C : Addr} (nx : H x = none) (nd : H dx = none) : Same H (upd (upd H dx (.own x)) x (.ins C dx [])) := fun b o e => by
  rw [upd_ne (ne_of_none e nx), upd_ne (ne_of_none e nd)]
  exact e

/-! ### built-in names -/
theorem bo_abs : bootBuiltins "abs" = some (.builtin "abs") := by decide +kernel
theorem bo_all : bootBuiltins "all" = some (.builtin "all") := by decide +kernel
theorem bo_bool : bootBuiltins "bool" = some (.type "bool") := by decide +kernel
theorem bo_dict : bootBuiltins "dict" = some (.type "dict") := by decide +kernel
theorem bo_int : bootBuiltins "int" = some (.type "int") := by decide +kernel
theorem bo_isi : bootBuiltins "isinstance" = some (.builtin "isinstance") := by decide +kernel
theorem bo_len : bootBuiltins "len" = some (.builtin "len") := by decide +kernel
theorem bo_list : bootBuiltins "list" = some (.type "list") := by decide +kernel
theorem bo_min : bootBuiltins "min" = some (.builtin "min") := by decide +kernel
theorem bo_sorted : bootBuiltins "sorted" = some (.builtin "sorted") := by decide +kernel
theorem bo_str : bootBuiltins "str" = some (.type "str") := by decide +kernel
theorem bo_sum : bootBuiltins "sum" = some (.builtin "sum") := by decide +kernel
theorem bo_tuple : bootBuiltins "tuple" = some (.type "tuple") := by decide +kernel
/-! ### isinstance -/
theorem kb_tt : kitB "tuple" "tuple" = some true := by decide +kernel
theorem kb_ts : kitB "tuple" "str" = some false := by decide +kernel
theorem kb_st : kitB "str" "tuple" = some false := by decide +kernel
theorem kb_ss : kitB "str" "str" = some true := by decide +kernel
theorem kb_sl : kitB "str" "list" = some false := by decide +kernel
theorem kb_sd : kitB "str" "dict" = some false := by decide +kernel
theorem kb_sb : kitB "str" "bool" = some false := by decide +kernel
theorem kb_ii : kitB "int" "int" = some true := by decide +kernel
theorem kb_ib : kitB "int" "bool" = some false := by decide +kernel
theorem kb_tl : kitB "tuple" "list" = some false := by decide +kernel
theorem kb_lt : kitB "list" "tuple" = some false := by decide +kernel
theorem kb_ll : kitB "list" "list" = some true := by decide +kernel
section
variable {K : PySem.W.Frag} {H : Hp} {Q : VK}
theorem isi_tup {a : Addr} {xs : List V} {n : String} {b : Bool} (h : H a = some (.tup xs)) (k : kitB "tuple" n = some b) (q : Q (.bl b) H) : rIsi K [.ref a, .ty n] H Q :=
  ⟨_, _, _, _, b, rfl, .ty n, .base (.tup h), kit_ty k, q⟩
theorem isi_lst {a : Addr} {xs : List V} {n : String} {b : Bool} (h : H a = some (.lst xs)) (k : kitB "list" n = some b) (q : Q (.bl b) H) : rIsi K [.ref a, .ty n] H Q :=
  ⟨_, _, _, _, b, rfl, .ty n, .base (.lst h), kit_ty k, q⟩
theorem isi_str {x : Str} {n : String} {b : Bool} (k : kitB "str" n = some b) (q : Q (.bl b) H) : rIsi K [.str x, .ty n] H Q :=
  ⟨_, _, _, _, b, rfl, .ty n, .base (.str x), kit_ty k, q⟩
theorem isi_int {i : Int} {n : String} {b : Bool} (k : kitB "int" n = some b) (q : Q (.bl b) H) : rIsi K [.int i, .ty n] H Q :=
  ⟨_, _, _, _, b, rfl, .ty n, .base (.int i), kit_ty k, q⟩
theorem isi_prog {a C dx : Addr} {fs : List (Str × V)} (h : H a = some (.ins C dx fs)) (c : Cls K C) (i : Isa K C) (q : Q (.bl true) H) : rIsi K [.ref a, .ref (CP K)] H Q :=
  ⟨_, _, _, _, true, rfl, .own _, .base (.ins h c i.ha i.hn i.ht i.hm), i.hk, q⟩
end

/-! ### Pairs of lists -/
section
variable {α β : Type} {F : α → β → Prop}
theorem pr_get : ∀ {l : List α} {m : List β} {i : Nat} {b : β}, Paired F l m → m[i]? = some b → ∃ a, l[i]? = some a ∧ F a b
  | _, _, _, _, .nil, e => by simp at e
  | _, _, 0, _, .cons r _, e => by simp at e; subst e; exact ⟨_, rfl, r⟩
  | _, _, i + 1, _, .cons _ t, e => by
    obtain ⟨a, h1, h2⟩ := pr_get (i := i) t (by simpa using e)
    exact ⟨a, by simpa using h1, h2⟩
theorem pr_getL : ∀ {l : List α} {m : List β} {i : Nat} {a : α}, Paired F l m → l[i]? = some a → ∃ b, m[i]? = some b ∧ F a b
  | _, _, _, _, .nil, e => by simp at e
  | _, _, 0, _, .cons r _, e => by simp at e; subst e; exact ⟨_, rfl, r⟩
  | _, _, i + 1, _, .cons _ t, e => by
    obtain ⟨b, h1, h2⟩ := pr_getL (i := i) t (by simpa using e)
    exact ⟨b, by simpa using h1, h2⟩
theorem pr_app : ∀ {l l' : List α} {m m' : List β}, Paired F l m → Paired F l' m' → Paired F (l ++ l') (m ++ m')
  | _, _, _, _, .nil, q => q
  | _, _, _, _, .cons r t, q => .cons r (pr_app t q)
theorem pr_take : ∀ {l : List α} {m : List β} (n : Nat), Paired F l m → Paired F (l.take n) (m.take n)
  | _, _, 0, _ => by simp; exact .nil
  | _, _, n + 1, .nil => by simp; exact .nil
  | _, _, n + 1, .cons r t => by simp; exact .cons r (pr_take n t)
theorem pr_drop : ∀ {l : List α} {m : List β} (n : Nat), Paired F l m → Paired F (l.drop n) (m.drop n)
  | _, _, 0, q => by simpa using q
  | _, _, n + 1, .nil => by simp; exact .nil
  | _, _, n + 1, .cons r t => by simpa using pr_drop n t
theorem pr_one {a : α} {b : β} (h : F a b) : Paired F [a] [b] := .cons h .nil
end

/-! ### slices from the head, to the tail -/
theorem cut_to (xs : List V) (k : Nat) : cutV xs none (some (k : Int)) = xs.take k := by
  unfold cutV
  rw [HT.sIx_none, HT.sIx_nat, List.drop_zero, Nat.sub_zero]
  by_cases h : k ≤ xs.length
  · rw [Nat.min_eq_left h]
  · rw [Nat.min_eq_right (by omega), List.take_of_length_le (Nat.le_refl _), List.take_of_length_le (by omega)]
theorem cut_from (xs : List V) (k : Nat) : cutV xs (some (k : Int)) none = xs.drop k := by
  unfold cutV
  rw [HT.sIx_none, HT.sIx_nat]
  by_cases h : k ≤ xs.length
  · rw [Nat.min_eq_left h, List.take_of_length_le (by rw [List.length_drop]; omega)]
  · rw [Nat.min_eq_right (by omega), List.drop_of_length_le (by omega), List.drop_of_length_le (by omega)]
    simp
/-! ### slices and sums of tuples: some tuple of these items -/
section
variable {K : PySem.W.Frag} {H : Hp} {Q : VK}
/-- t[:k] -/
theorem sl_to {a : Addr} {xs : List V} (k : Nat) (h : H a = some (.tup xs)) (q : ∀ p H', Same H H' → H' p = some (.tup (xs.take k)) → Q (.ref p) H') : rSlA K (.ref a) none (some (k : Int)) H Q := by
  refine ⟨a, xs, rfl, SqT.of h, fun z => ?_, fun _ p hp => ?_⟩
  · rw [HT.sIx_none, HT.sIx_nat] at z
    exact q a H (Same.refl H) (by rw [List.take_of_length_le (by omega)]; exact h)
  · rw [cut_to]
    exact q p _ (fun b o e => by rw [upd_ne (ne_of_none e hp)]; exact e) upd_same
/-- t[k:] -/
theorem sl_fr {a : Addr} {xs : List V} (k : Nat) (h : H a = some (.tup xs)) (q : ∀ p H', Same H H' → H' p = some (.tup (xs.drop k)) → Q (.ref p) H') : rSlA K (.ref a) (some (k : Int)) none H Q := by
  refine ⟨a, xs, rfl, SqT.of h, fun z => ?_, fun _ p hp => ?_⟩
  · rw [HT.sIx_none, HT.sIx_nat] at z
    refine q a H (Same.refl H) ?_
    by_cases hk : k = 0
    · rw [hk, List.drop_zero]
      exact h
    · have : xs.length = 0 := by omega
      rw [List.length_eq_zero_iff.mp this] at h ⊢
      rw [List.drop_nil]
      exact h
  · rw [cut_from]
    exact q p _ (fun b o e => by rw [upd_ne (ne_of_none e hp)]; exact e) upd_same
/-- s + t -/
theorem cat_to {a b : Addr} {xs ys : List V} (h : H a = some (.tup xs)) (h' : H b = some (.tup ys)) (hl : xs.length + ys.length ≤ sizeLine) (q : ∀ p H', Same H H' → H' p = some (.tup (xs ++ ys)) → Q (.ref p) H') : rCatA K (.ref a) (.ref b) H Q := by
  refine ⟨a, b, xs, ys, rfl, rfl, SqT.of h, SqT.of h', hl, fun e => ?_, fun _ e => ?_, fun _ _ p hp => ?_⟩
  · subst e
    exact q b H (Same.refl H) h'
  · subst e
    exact q a H (Same.refl H) (by rw [List.append_nil]; exact h)
  · exact q p _ (fun b o e => by rw [upd_ne (ne_of_none e hp)]; exact e) upd_same
end
section
variable {X : Cx}
/-- t[k:] -/
def rSlF : V → Option Int → Option Int → Hp → VK → Prop := fun x lo hi H Q => ∃ (a : Addr) (xs : List V) (k : Nat), x = .ref a ∧ lo = some (k : Int) ∧ hi = none ∧ H a = some (.tup xs) ∧ ∀ p H', Same H H' → H' p = some (.tup (xs.drop k)) → Q (.ref p) H'
theorem sl_F : SlR X rSlF := fun pins s σ H x v vl vu lo hi sl Q I rx hs pl pu h => by
  obtain ⟨a, xs, k, rfl, rfl, rfl, ha, q⟩ := h
  exact sl_tupA pins s σ H _ v vl vu _ _ sl Q I rx hs pl pu (sl_fr k ha q)
/-- t[:k] -/
def rSlB : V → Option Int → Option Int → Hp → VK → Prop := fun x lo hi H Q => ∃ (a : Addr) (xs : List V) (k : Nat), x = .ref a ∧ lo = none ∧ hi = some (k : Int) ∧ H a = some (.tup xs) ∧ ∀ p H', Same H H' → H' p = some (.tup (xs.take k)) → Q (.ref p) H'
theorem sl_B : SlR X rSlB := fun pins s σ H x v vl vu lo hi sl Q I rx hs pl pu h => by
  obtain ⟨a, xs, k, rfl, rfl, rfl, ha, q⟩ := h
  exact sl_tupA pins s σ H _ v vl vu _ _ sl Q I rx hs pl pu (sl_to k ha q)
/-- s + t -/
def rCatF : R2 := fun x y H Q => ∃ (a b : Addr) (xs ys : List V), x = .ref a ∧ y = .ref b ∧ H a = some (.tup xs) ∧ H b = some (.tup ys) ∧ xs.length + ys.length ≤ sizeLine ∧ ∀ p H', Same H H' → H' p = some (.tup (xs ++ ys)) → Q (.ref p) H'
theorem op_catF : OpR X (binaryOp .Add) rCatF := fun pins s σ H x y v u Q I rx ry h => by
  obtain ⟨a, b, xs, ys, rfl, rfl, ha, hb, hl, q⟩ := h
  exact op_catA pins s σ H _ _ v u Q I rx ry (cat_to ha hb hl q)
end
theorem same_upd {H : Hp} {p : Addr} {o : HO} (hp : H p = none) : Same H (upd H p o) := fun b u e => by rw [upd_ne (ne_of_none e hp)]; exact e
theorem lineS {n : Nat} (h : n ≤ 100000) : n ≤ sizeLine := Nat.le_trans h (by decide)
theorem lineL {n : Nat} (h : n ≤ 100000) : n < sizeLine := Nat.lt_of_le_of_lt h (by decide)

/-! ### the data -/
def menu : List Str := ["a", "b", "c", "d", "e", "x", "y", "zz", "given", "told", "round", "end", "zero", "zzzzzzzz"]
inductive Dd where
  | zero (x : Str)
  | copy (x y : Str)
  | more (x : Str)
def Dd.nms : Dd → List Str
  | .zero x => [x]
  | .copy x y => [x, y]
  | .more x => [x]
def Dd.kind : Dd → Str
  | .zero _ => "zero"
  | .copy _ _ => "copy"
  | .more _ => "more"
def Dd.vs (d : Dd) : List V := .str d.kind :: d.nms.map .str
inductive Sm where
  | deed (d : Dd)
  | round (x : Str) (ds : List Dd)
theorem Dd.kind_round : ∀ d : Dd, decide (V.str d.kind = V.str "round") = false
  | .zero _ => by show decide (V.str "zero" = V.str "round") = false; decide +kernel
  | .copy _ _ => by show decide (V.str "copy" = V.str "round") = false; decide +kernel
  | .more _ => by show decide (V.str "more" = V.str "round") = false; decide +kernel
theorem round_round : decide (V.str "round" = V.str "round") = true := decide_eq_true rfl
/-- its own names -/
def Sm.nms : Sm → List Str
  | .deed d => d.nms
  | .round x _ => [x]
def Sm.ins : Sm → List Dd
  | .deed _ => []
  | .round _ ds => ds
/-- all names in it -/
def Sm.all (s : Sm) : List Str := s.nms ++ s.ins.flatMap Dd.nms
structure Pt where
  given : List Str
  told : List Str
  block : List Sm
/-- (k,) or (k, j) -/
structure Pl where
  k : Nat
  j : Option Nat
def Pl.vs (p : Pl) : List V := .int (p.k : Int) :: (match p.j with
  | none => []
  | some j => [.int (j : Int)])

/-! ### where they stand -/
/-- the tuples stand -/
def Tk (H H' : Hp) : Prop := ∀ a xs, H a = some (.tup xs) → H' a = some (.tup xs)
theorem _root_.L2.Same.tk {H H' : Hp} (h : Same H H') : Tk H H' := fun _ _ e => h _ _ e
theorem Tk.trans {H H1 H2 : Hp} (a : Tk H H1) (b : Tk H1 H2) : Tk H H2 := fun c xs e => b c xs (a c xs e)
def NsAt (H : Hp) (v : V) (ns : List Str) : Prop := ∃ a, v = .ref a ∧ H a = some (.tup (ns.map .str))
def IsAt (H : Hp) (v : V) (ns : List Nat) : Prop := ∃ a, v = .ref a ∧ H a = some (.tup (ns.map fun n : Nat => V.int (n : Int)))
def DdAt (H : Hp) (v : V) (d : Dd) : Prop := ∃ a, v = .ref a ∧ H a = some (.tup d.vs)
def DsAt (H : Hp) (v : V) (ds : List Dd) : Prop := ∃ a vs, v = .ref a ∧ H a = some (.tup vs) ∧ Paired (DdAt H) vs ds
def SmAt (H : Hp) (v : V) : Sm → Prop
  | .deed d => DdAt H v d
  | .round x ds => ∃ a u, v = .ref a ∧ H a = some (.tup [.str "round", .str x, u]) ∧ DsAt H u ds
def BkAt (H : Hp) (v : V) (b : List Sm) : Prop := ∃ a vs, v = .ref a ∧ H a = some (.tup vs) ∧ Paired (SmAt H) vs b
def PtAt (H : Hp) (v : V) (p : Pt) : Prop := ∃ a g t b, v = .ref a ∧ H a = some (.tup [g, t, b]) ∧ NsAt H g p.given ∧ NsAt H t p.told ∧ BkAt H b p.block
def PlAt (H : Hp) (v : V) (p : Pl) : Prop := ∃ a, v = .ref a ∧ H a = some (.tup p.vs)
def flds (g t b : V) : List (Str × V) := putF "block" b (putF "told" t (putF "given" g []))
def PgAt (C : Addr) (H : Hp) (v : V) (p : Pt) : Prop := ∃ a dx g t b, v = .ref a ∧ H a = some (.ins C dx (flds g t b)) ∧ NsAt H g p.given ∧ NsAt H t p.told ∧ BkAt H b p.block
section
variable {H H' : Hp} {v : V}
theorem NsAt.tk (t : Tk H H') {ns : List Str} (h : NsAt H v ns) : NsAt H' v ns := let ⟨a, e, q⟩ := h; ⟨a, e, t _ _ q⟩
theorem IsAt.tk (t : Tk H H') {ns : List Nat} (h : IsAt H v ns) : IsAt H' v ns := let ⟨a, e, q⟩ := h; ⟨a, e, t _ _ q⟩
theorem DdAt.tk (t : Tk H H') {d : Dd} (h : DdAt H v d) : DdAt H' v d := let ⟨a, e, q⟩ := h; ⟨a, e, t _ _ q⟩
theorem PlAt.tk (t : Tk H H') {d : Pl} (h : PlAt H v d) : PlAt H' v d := let ⟨a, e, q⟩ := h; ⟨a, e, t _ _ q⟩
theorem DsAt.tk (t : Tk H H') {ds : List Dd} (h : DsAt H v ds) : DsAt H' v ds := let ⟨a, vs, e, q, r⟩ := h; ⟨a, vs, e, t _ _ q, r.mono fun _ _ z => DdAt.tk t z⟩
theorem SmAt.tk (t : Tk H H') {s : Sm} (h : SmAt H v s) : SmAt H' v s := by
  cases s with
  | deed d => exact DdAt.tk t h
  | round x ds =>
    obtain ⟨a, u, e, q, r⟩ := h
    exact ⟨a, u, e, t _ _ q, DsAt.tk t r⟩
theorem BkAt.tk (t : Tk H H') {b : List Sm} (h : BkAt H v b) : BkAt H' v b := let ⟨a, vs, e, q, r⟩ := h; ⟨a, vs, e, t _ _ q, r.mono fun _ _ z => SmAt.tk t z⟩
theorem PtAt.tk (t : Tk H H') {p : Pt} (h : PtAt H v p) : PtAt H' v p := let ⟨a, g, u, b, e, q, h1, h2, h3⟩ := h; ⟨a, g, u, b, e, t _ _ q, h1.tk t, h2.tk t, h3.tk t⟩
theorem prSm_tk (t : Tk H H') {vs : List V} {b : List Sm} (h : Paired (SmAt H) vs b) : Paired (SmAt H') vs b := h.mono fun _ _ z => SmAt.tk t z
theorem prDd_tk (t : Tk H H') {vs : List V} {b : List Dd} (h : Paired (DdAt H) vs b) : Paired (DdAt H') vs b := h.mono fun _ _ z => DdAt.tk t z
end
/-- either class of programs -/
structure PC (K : PySem.W.Frag) (C : Addr) : Prop where
  cl : Cls K C
  isa : Isa K C
  ng : NoAttr K C "given"
  nt : NoAttr K C "told"
  nb : NoAttr K C "block"
theorem pcP {K : PySem.W.Frag} {mg : Str → Option Value} (T : Txt K mg) : PC K (CP K) := ⟨T.cP, T.iP, T.nPgiven, T.nPtold, T.nPblock⟩
theorem pcR {K : PySem.W.Frag} {mg : Str → Option Value} (T : Txt K mg) : PC K (CR K) := ⟨T.cR, T.iR, T.nRgiven, T.nRtold, T.nRblock⟩
def Pg (K : PySem.W.Frag) (H : Hp) (v : V) (p : Pt) : Prop := ∃ C, PC K C ∧ PgAt C H v p
theorem PgAt.same {C : Addr} {H H' : Hp} {v : V} {p : Pt} (s : Same H H') (h : PgAt C H v p) : PgAt C H' v p :=
  let ⟨a, dx, g, t, b, e, q, h1, h2, h3⟩ := h; ⟨a, dx, g, t, b, e, s _ _ q, h1.tk s.tk, h2.tk s.tk, h3.tk s.tk⟩
theorem Pg.same {K : PySem.W.Frag} {H H' : Hp} {v : V} {p : Pt} (s : Same H H') (h : Pg K H v p) : Pg K H' v p := let ⟨C, c, h⟩ := h; ⟨C, c, h.same s⟩
theorem kgt : ¬ (("given" : Str) = "told") := by decide +kernel
theorem kgb : ¬ (("given" : Str) = "block") := by decide +kernel
theorem ktb : ¬ (("told" : Str) = "block") := by decide +kernel
theorem flds_g (g t b : V) : (flds g t b).lookup ("given" : Str) = some g := by
  unfold flds
  rw [lookup_putF, if_neg kgb, lookup_putF, if_neg kgt, lookup_putF, if_pos rfl]
theorem flds_t (g t b : V) : (flds g t b).lookup ("told" : Str) = some t := by
  unfold flds
  rw [lookup_putF, if_neg ktb, lookup_putF, if_pos rfl]
/-! ### the same data -/
/-- texts, and tuples of such at most n deep -/
def TD : Nat → V → V → Hp → Prop
  | 0, x, y, _ => ∃ z : Str, x = .str z ∧ y = .str z
  | n + 1, x, y, H => TD n x y H ∨ ∃ a b xs ys, x = .ref a ∧ y = .ref b ∧ H a = some (.tup xs) ∧ H b = some (.tup ys) ∧ Paired (fun u v => TD n u v H) xs ys
theorem TD.up {x y : V} {H : Hp} : ∀ {n m : Nat}, n ≤ m → TD n x y H → TD m x y H
  | n, 0, h, t => by
    obtain rfl : n = 0 := by omega
    exact t
  | n, m + 1, h, t => by
    by_cases e : n = m + 1
    · subst e
      exact t
    · exact .inl (TD.up (by omega) t)
theorem TD.tk {H H' : Hp} (s : Tk H H') : ∀ {n : Nat} {x y : V}, TD n x y H → TD n x y H'
  | 0, _, _, h => h
  | n + 1, _, _, h => by
    rcases h with h | ⟨a, b, xs, ys, rfl, rfl, ha, hb, p⟩
    · exact .inl (TD.tk s h)
    · exact .inr ⟨a, b, xs, ys, rfl, rfl, s _ _ ha, s _ _ hb, p.mono fun _ _ z => TD.tk s z⟩
theorem td_strs {H : Hp} (n : Nat) : ∀ (l : List Str), Paired (fun u v => TD n u v H) (l.map .str) (l.map .str)
  | [] => .nil
  | x :: l => .cons (TD.up (Nat.zero_le n) ⟨x, rfl, rfl⟩) (td_strs n l)
theorem td_join {α : Type} {F : V → α → Prop} {n : Nat} {H : Hp} (h : ∀ x y a, F x a → F y a → TD n x y H) : ∀ {xs ys : List V} {l : List α}, Paired F xs l → Paired F ys l → Paired (fun u v => TD n u v H) xs ys
  | _, _, _, .nil, .nil => .nil
  | _, _, _, .cons r t, .cons r' t' => .cons (h _ _ _ r r') (td_join h t t')
section
variable {H : Hp} {x y : V}
theorem td_ns {l : List Str} (h : NsAt H x l) (h' : NsAt H y l) : TD 1 x y H := by
  obtain ⟨a, rfl, ha⟩ := h
  obtain ⟨b, rfl, hb⟩ := h'
  exact .inr ⟨a, b, _, _, rfl, rfl, ha, hb, td_strs 0 l⟩
theorem td_dd {d : Dd} (h : DdAt H x d) (h' : DdAt H y d) : TD 1 x y H := by
  obtain ⟨a, rfl, ha⟩ := h
  obtain ⟨b, rfl, hb⟩ := h'
  exact .inr ⟨a, b, _, _, rfl, rfl, ha, hb, .cons ⟨_, rfl, rfl⟩ (td_strs 0 _)⟩
theorem td_ds {ds : List Dd} (h : DsAt H x ds) (h' : DsAt H y ds) : TD 2 x y H := by
  obtain ⟨a, us, rfl, ha, p⟩ := h
  obtain ⟨b, ws, rfl, hb, q⟩ := h'
  exact .inr ⟨a, b, _, _, rfl, rfl, ha, hb, td_join (F := DdAt H) (fun _ _ _ z z' => td_dd z z') p q⟩
theorem td_sm {s : Sm} (h : SmAt H x s) (h' : SmAt H y s) : TD 3 x y H := by
  cases s with
  | deed d => exact TD.up (by decide) (td_dd h h')
  | round z ds =>
    obtain ⟨a, u, rfl, ha, p⟩ := h
    obtain ⟨b, u', rfl, hb, q⟩ := h'
    exact .inr ⟨a, b, _, _, rfl, rfl, ha, hb, .cons (TD.up (Nat.zero_le 2) ⟨_, rfl, rfl⟩) (.cons (TD.up (Nat.zero_le 2) ⟨_, rfl, rfl⟩) (.cons (td_ds p q) .nil))⟩
theorem td_bk {b : List Sm} (h : BkAt H x b) (h' : BkAt H y b) : TD 4 x y H := by
  obtain ⟨a, us, rfl, ha, p⟩ := h
  obtain ⟨b, ws, rfl, hb, q⟩ := h'
  exact .inr ⟨a, b, _, _, rfl, rfl, ha, hb, td_join (F := SmAt H) (fun _ _ _ z z' => td_sm z z') p q⟩
end
theorem mon_TD (n : Nat) : Mon (TD n) := fun _ _ _ _ e d => TD.tk (fun a xs h => e a _ h) d
theorem prs_of {D : Eqv} {H : Hp} : ∀ {xs ys : List V}, Paired (fun u v => D u v H) xs ys → Prs D xs ys H
  | _, _, .nil => Prs.nil
  | _, _, .cons r t => Prs.cons r (prs_of t)
theorem eqG_TD {X : Cx} : ∀ n : Nat, EqG X n (TD n)
  | 0 => EqG.imp eqG_flat fun x y H d => by
    obtain ⟨z, rfl, rfl⟩ := d
    exact ⟨rfl, rfl, by simp [eqV]⟩
  | n + 1 => EqG.imp (EqG.or ((eqG_TD n).mono (Nat.le_succ n)) (eqG_tup (mon_TD n) (eqG_TD n))) fun x y H d => by
    rcases d with d | ⟨a, b, xs, ys, rfl, rfl, ha, hb, p⟩
    · exact .inl d
    · exact .inr ⟨a, b, xs, ys, rfl, rfl, SqT.of ha, SqT.of hb, prs_of p⟩
/-- two tuples of the same data, compared -/
def rEqT (n : Nat) : R2 := fun x y H Q => ∃ a b xs ys, x = .ref a ∧ y = .ref b ∧ H a = some (.tup xs) ∧ H b = some (.tup ys) ∧ Paired (fun u v => TD n u v H) xs ys ∧ ∀ H', Same H H' → Q (.bl true) H'
theorem op_eqT {X : Cx} {n j : Nat} (hr : Room j X.A) (h : n + 1 ≤ j := by decide) : OpR X (compareOp .Eq) (rEqT n) := fun pins s σ H x y v u Q I rx ry z => by
  obtain ⟨a, b, xs, ys, rfl, rfl, ha, hb, p, q⟩ := z
  exact op_eqG (rcG_tup (mon_TD n) (eqG_TD n)) (hr.mono h) pins s σ H _ _ v u Q I rx ry ⟨⟨a, b, xs, ys, rfl, rfl, SqT.of ha, SqT.of hb, prs_of p⟩, q⟩
theorem flds_b (g t b : V) : (flds g t b).lookup ("block" : Str) = some b := by
  unfold flds
  rw [lookup_putF, if_pos rfl]
end Fr
/-! ## FrChecks -/
set_option Elab.async false
set_option linter.all false
set_option maxRecDepth 100000
set_option maxHeartbeats 4000000
/-! The checks. -/
namespace Fr
open PySem PySem.Spec PyProof.Rows L2
section
variable {P : Program} {w : World} {K : PySem.W.Frag} {mg : Str → Option Value} {base : Heap}
theorem sc_is_integer : FnScope ["thing"] ["thing"] (defScope (top 9)) := ⟨rfl, rfl, rfl, by decide +kernel, rfl, by decide +kernel, by decide +kernel⟩
def spInteger : Sp := fun vs H Q _ => ∃ i : Int, vs = [.int i] ∧ Q (.bl true) H
theorem c_is_integer (T : Txt K mg) : Cl P w K mg base 1 "is_integer" ["thing"] spInteger := by
  refine cl_of T.fis_integer T.gis_integer sc_is_integer (fun _ _ _ _ _ _ us hl => match us, hl with | [_], _ => rfl) (fun vs H Q E h => ?_) (fun cdv A outer s H vs Q E hr h => ?_)
  · obtain ⟨i, rfl, _⟩ := h
    rfl
  · obtain ⟨i, rfl, q⟩ := h
    refine ⟨_, (pss_one (ps_ret (pe_and (pe_callB call_isi (by rfl) T.zisinstance bo_isi (pa_cons (pv 0) (pa_cons (pe_bltn (v := .ty "int") (by rfl) T.zint bo_int rfl) pa_nil))) (pe_one (pe_not (pe_callB call_isi (by rfl) T.zisinstance bo_isi (pa_cons (pv 0) (pa_cons (pe_bltn (v := .ty "bool") (by rfl) T.zbool bo_bool rfl) pa_nil)))))))), ?_⟩
    exact ⟨_, rfl, _, _, _, _, true, rfl, .ty _, .base (.int _), kit_ty kb_ii, true, rfl, iteT ⟨_, rfl, _, _, _, _, false, rfl, .ty _, .base (.int _), kit_ty kb_ib, false, rfl, q⟩⟩

theorem sc_is_within : FnScope ["thing", "least", "most"] ["thing", "least", "most"] (defScope (top 10)) := ⟨rfl, rfl, rfl, by decide +kernel, rfl, by decide +kernel, by decide +kernel⟩
def spWithin : Sp := fun vs H Q _ => ∃ i a b : Int, vs = [.int i, .int a, .int b] ∧ Q (.bl (decide (a ≤ i) && decide (i ≤ b))) H
theorem c_is_within (T : Txt K mg) : Cl P w K mg base 2 "is_within" ["thing", "least", "most"] spWithin := by
  refine cl_of T.fis_within T.gis_within sc_is_within (fun _ _ _ _ _ _ us hl => match us, hl with | [_, _, _], _ => rfl) (fun vs H Q E h => ?_) (fun cdv A outer s H vs Q E hr h => ?_)
  · obtain ⟨i, a, b, rfl, _⟩ := h
    rfl
  · obtain ⟨i, a, b, rfl, q⟩ := h
    refine ⟨_, (pss_one (ps_ret (pe_and (pe_f (c_is_integer T) hr (pa_cons (pv 0) pa_nil)) (pe_one (pe_chain op_le op_le (pv 1) (pv 0) (pv 2)))))), ?_⟩
    refine ⟨_, rfl, i, rfl, true, rfl, iteT ⟨_, rfl, _, rfl, _, _, rfl, rfl, _, rfl, ?_⟩⟩
    by_cases h1 : a ≤ i
    · rw [decide_eq_true h1] at q ⊢
      exact iteT ⟨_, rfl, _, _, rfl, rfl, q⟩
    · rw [decide_eq_false h1] at q ⊢
      exact iteF q

theorem sc_is_number : FnScope ["thing"] ["thing"] (defScope (top 11)) := ⟨rfl, rfl, rfl, by decide +kernel, rfl, by decide +kernel, by decide +kernel⟩
def spNumber : Sp := fun vs H Q _ => ∃ i : Int, vs = [.int i] ∧ Q (.bl (decide (0 ≤ i))) H
theorem c_is_number (T : Txt K mg) : Cl P w K mg base 2 "is_number" ["thing"] spNumber := by
  refine cl_of T.fis_number T.gis_number sc_is_number (fun _ _ _ _ _ _ us hl => match us, hl with | [_], _ => rfl) (fun vs H Q E h => ?_) (fun cdv A outer s H vs Q E hr h => ?_)
  · obtain ⟨i, rfl, _⟩ := h
    rfl
  · obtain ⟨i, rfl, q⟩ := h
    refine ⟨_, (pss_one (ps_ret (pe_and (pe_f (c_is_integer T) hr (pa_cons (pv 0) pa_nil)) (pe_one (pe_cmpR op_ge (pv 0) pe_int (nomark _)))))), ?_⟩
    exact ⟨_, rfl, i, rfl, true, rfl, iteT ⟨_, rfl, _, _, rfl, rfl, q⟩⟩

/-- letters only, one to eight -/
theorem menu_ok : ∀ x ∈ menu, (1 ≤ x.length ∧ x.length ≤ 8) ∧ ∀ c ∈ x.cps.toList, 97 ≤ c ∧ c ≤ 122 := by decide +kernel
theorem sc_is_name : FnScope ["thing", "sign"] ["thing"] (defScope (top 12)) := ⟨rfl, rfl, rfl, by decide +kernel, rfl, by decide +kernel, by decide +kernel⟩
/-- a name of the menu is one; a tuple is none -/
def spName : Sp := fun vs H Q _ => ∃ v, vs = [v] ∧ ((∃ x, v = .str x ∧ x ∈ menu ∧ ∀ H', Same H H' → Q (.bl true) H') ∨ (∃ a xs, v = .ref a ∧ H a = some (.tup xs) ∧ Q (.bl false) H))
theorem sign_le {a c : Nat} (h : a ≤ c) : (!decide (([c] : List Nat) < [a])) = true := by
  have e : ¬ ([c] : List Nat) < [a] := by
    intro z
    have := (List.cons_lt_cons_iff (a := c) (b := a) (l₁ := []) (l₂ := [])).mp z
    rcases this with z | ⟨_, z⟩
    · omega
    · exact absurd z (List.not_lt_nil [])
  rw [decide_eq_false e]
  rfl
theorem c_is_name (T : Txt K mg) : Cl P w K mg base 1 "is_name" ["thing"] spName := by
  refine cl_of T.fis_name T.gis_name sc_is_name (fun _ _ _ _ _ _ us hl => match us, hl with | [_], _ => rfl) (fun vs H Q E h => ?_) (fun cdv A outer s H vs Q E hr h => ?_)
  · obtain ⟨v, rfl, _⟩ := h
    rfl
  · obtain ⟨v, rfl, h⟩ := h
    refine ⟨_, (pss_one (ps_ret (pe_and (pe_callB call_isi (by rfl) T.zisinstance bo_isi (pa_cons (pv 0) (pa_cons (pe_bltn (v := .ty "str") (by rfl) T.zstr bo_str rfl) pa_nil))) (pe_and (pe_chain op_le op_le pe_int (pe_callB call_len_str (by rfl) T.zlen bo_len (pa_cons (pv 0) pa_nil)) pe_int) (pe_one (pe_callB (cr_all rfl) (by rfl) T.zall bo_all (pa_cons (pe_lc (own := [("sign", 1)]) (g := gName 1) (tt := tYes) rfl sc_is_name.nd (pi_str (pv 0)) (blkOk_by (own := [("sign", 1)]) (N := ["thing", "sign"]) (sc := defScope (top 12)) (by decide +kernel)) (fun _ _ _ _ _ => pg_name (i := 1) sc_is_name.nd rfl (Or.inl rfl)) (fun _ _ _ _ _ => pts_nil) (fun _ _ _ _ _ => (pe_chain op_le_str op_le_str pe_str (pv 1) pe_str))) pa_nil))))))), ?_⟩
    rcases h with ⟨x, rfl, hx, q⟩ | ⟨a, xs, rfl, ha, q⟩
    · obtain ⟨⟨h1, h2⟩, h3⟩ := menu_ok x hx
      have z1 : decide ((1 : Int) ≤ (x.length : Int)) = true := decide_eq_true (by omega)
      have z2 : decide ((x.length : Int) ≤ 8) = true := decide_eq_true (by omega)
      refine ⟨_, rfl, _, _, _, _, true, rfl, .ty _, .base (.str _), kit_ty kb_ss, true, rfl, iteT ⟨_, rfl, _, rfl, lineS (by omega), _, _, rfl, rfl, _, rfl, ?_⟩⟩
      rw [z1]
      refine iteT ⟨_, _, rfl, rfl, _, rfl, ?_⟩
      rw [z2]
      refine iteT ⟨_, rfl, x, rfl, fun D hD => lc_it walk_str (fun i H1 => Same H H1 ∧ ∃ bs : List Bool, bs.length = i ∧ (∀ b ∈ bs, b = true) ∧ H1 D = some (.lst (bs.map .bl))) ⟨same_upd hD, [], rfl, by simp, upd_same⟩ (fun _ _ _ _ => trivial) ?_ ?_⟩
      · rintro i v H1 H2 hi ⟨s1, bs, hl, hb, h1⟩ ⟨rfl, c, hc, rfl⟩
        have hm : 97 ≤ c ∧ c ≤ 122 := h3 c (by
          have : x.cps.toList[i]? = some c := by simpa using hc
          exact List.mem_of_getElem? this)
        refine ⟨rfl, _, rfl, _, _, rfl, rfl, _, rfl, ?_⟩
        have e1 : (!decide ((⟨#[c]⟩ : Str).cps.toList < ("a" : Str).cps.toList)) = true := sign_le hm.1
        have e2 : (!decide (("z" : Str).cps.toList < (⟨#[c]⟩ : Str).cps.toList)) = true := sign_le hm.2
        rw [e1]
        refine iteT ⟨_, _, rfl, rfl, bs.map .bl, h1, lineL (by rw [List.length_map, hl]; have : x.cps.size = x.length := rfl; omega), ?_⟩
        rw [e2]
        refine ⟨fun b o e => ?_, bs ++ [true], by simp [hl], by simpa using hb, by rw [upd_same]; simp⟩
        rw [upd_ne (ne_of_none e hD)]
        exact s1 b o e
      · rintro H1 ⟨s1, bs, hl, hb, h1⟩
        refine ⟨D, bs, rfl, SqL.of h1, ?_⟩
        have e : bs.all id = true := List.all_eq_true.mpr fun b h => hb b h
        rw [e]
        exact q H1 s1
    · exact ⟨_, rfl, _, _, _, _, false, rfl, .ty _, .base (.tup ha), kit_ty kb_ts, false, rfl, iteF q⟩
/-- a list of so many Trues -/
def Trues (H : Hp) (D : Addr) (n : Nat) : Prop := ∃ bs : List Bool, bs.length = n ∧ bs.all id = true ∧ H D = some (.lst (bs.map .bl))
theorem trues_nil {H : Hp} {D : Addr} : Trues (upd H D (.lst [])) D 0 := ⟨[], rfl, rfl, upd_same⟩
theorem Trues.snoc {H : Hp} {D : Addr} {n : Nat} (t : Trues H D n) (hn : n ≤ 10000) : ∃ acc, H D = some (.lst acc) ∧ acc.length < sizeLine ∧ Trues (upd H D (.lst (acc ++ [.bl true]))) D (n + 1) := by
  obtain ⟨bs, h1, h2, h3⟩ := t
  exact ⟨_, h3, lineL (by rw [List.length_map]; omega), bs ++ [true], by simp [h1], by simp [h2], by rw [upd_same]; simp⟩
theorem Trues.same {H H' : Hp} {D : Addr} {n : Nat} (t : Trues H D n) (s : Same H H') : Trues H' D n := by
  obtain ⟨bs, h1, h2, h3⟩ := t
  exact ⟨bs, h1, h2, s _ _ h3⟩
theorem Trues.out {H : Hp} {D : Addr} {n : Nat} (t : Trues H D n) : ∃ bs : List Bool, SqL K H D (bs.map .bl) ∧ bs.all id = true := by
  obtain ⟨bs, h1, h2, h3⟩ := t
  exact ⟨bs, SqL.of h3, h2⟩
/-- what grows a list that is not in H leaves H -/
theorem same_grow {H H1 : Hp} {D : Addr} {o : HO} (hD : H D = none) (s : Same H H1) : Same H (upd H1 D o) := fun b u e => by
  rw [upd_ne (ne_of_none e hD)]
  exact s b u e

theorem sc_are_names : FnScope ["thing", "least", "most", "item"] ["thing", "least", "most"] (defScope (top 13)) := ⟨rfl, rfl, rfl, by decide +kernel, rfl, by decide +kernel, by decide +kernel⟩
def spNames : Sp := fun vs H Q _ => ∃ (a : Addr) (ns : List Str) (l m : Int), vs = [.ref a, .int l, .int m] ∧ H a = some (.tup (ns.map .str)) ∧ ns.Nodup ∧ (∀ x ∈ ns, x ∈ menu) ∧ (l ≤ ns.length ∧ (ns.length : Int) ≤ m) ∧ ns.length ≤ 1000 ∧
  ∀ H', Same H H' → Q (.bl true) H'
theorem c_are_names (T : Txt K mg) : Cl P w K mg base 2 "are_names" ["thing", "least", "most"] spNames := by
  refine cl_of T.fare_names T.gare_names sc_are_names (fun _ _ _ _ _ _ us hl => match us, hl with | [_, _, _], _ => rfl) (fun vs H Q E h => ?_) (fun cdv A outer s H vs Q E hr h => ?_)
  · obtain ⟨a, ns, l, m, rfl, _⟩ := h
    rfl
  · obtain ⟨a, ns, l, m, rfl, ha, nd, hm, ⟨h1, h2⟩, hl, q⟩ := h
    refine ⟨_, (pss_cons (ps_if (PW.pt (pw_or (pt_not (pt_val (pe_callB call_isi (by rfl) T.zisinstance bo_isi (pa_cons (pv 0) (pa_cons (pe_bltn (v := .ty "tuple") (by rfl) T.ztuple bo_tuple rfl) pa_nil))))) (pw_or1 (pt_not (pt_chain op_le op_le (pv 1) (pe_callB call_len_seq (by rfl) T.zlen bo_len (pa_cons (pv 0) pa_nil)) (pv 2)))))) (pss_one (ps_ret pe_bl)) pss_nil)
      (pss_one (ps_ret (pe_and (pe_callB (cr_all rfl) (by rfl) T.zall bo_all (pa_cons (pe_lc (own := [("item", 3)]) (g := gName 3) (tt := tYes) rfl sc_are_names.nd (pi_tup (pv 0)) (blkOk_by (own := [("item", 3)]) (N := ["thing", "least", "most", "item"]) (sc := defScope (top 13)) (by decide +kernel)) (fun _ _ _ _ _ => pg_name (i := 3) sc_are_names.nd rfl (Or.inl rfl)) (fun _ _ _ _ _ => pts_nil) (fun _ _ _ _ _ => (pe_f (c_is_name T) hr (pa_cons (pv 3) pa_nil)))) pa_nil)) (pe_one (pe_cmpR op_eq (pe_lenSetU rfl (by rfl) T.zlen (by rfl) T.zset (pv 0)) (pe_callB call_len_seq (by rfl) T.zlen bo_len (pa_cons (pv 0) pa_nil)) (nomark _))))))), ?_⟩
    have z1 : decide (l ≤ ((ns.map V.str).length : Int)) = true := decide_eq_true (by rw [List.length_map]; exact h1)
    have z2 : decide (((ns.map V.str).length : Int) ≤ m) = true := decide_eq_true (by rw [List.length_map]; exact h2)
    refine ⟨_, rfl, _, _, _, _, true, rfl, .ty _, .base (.tup ha), kit_ty kb_tt, true, rfl, _, rfl, _, rfl, a, _, rfl, .inr (SqT.of ha), _, _, rfl, rfl, _, rfl, ?_⟩
    rw [z1]
    refine ⟨_, rfl, _, _, rfl, rfl, _, rfl, ?_⟩
    rw [z2]
    refine ⟨_, rfl, a, rfl, ⟨_, SqT.of ha⟩, fun D hD => lc_tup (K := K) (a := a) (xs := ns.map V.str) (fun i H1 => Same H H1 ∧ Trues H1 D i) ⟨same_upd hD, trues_nil⟩ (fun i H1 _ h => SqT.of (h.1 _ _ ha)) ?_ ?_⟩
    · rintro i v H1 hi ⟨s1, t1⟩
      have hi2 : i < ns.length := by
        have := (List.getElem?_eq_some_iff.mp hi).1
        rwa [List.length_map] at this
      obtain rfl : v = .str ns[i] := by
        rw [List.getElem?_map, List.getElem?_eq_getElem hi2] at hi
        exact (Option.some.inj hi).symm
      refine ⟨rfl, _, rfl, _, rfl, .inl ⟨_, rfl, hm _ (List.getElem_mem hi2), fun H2 s2 => ?_⟩⟩
      obtain ⟨acc, e1, e2, e3⟩ := (t1.same s2).snoc (by omega)
      exact ⟨acc, e1, e2, same_grow hD (s1.trans s2), e3⟩
    · rintro H1 ⟨s1, t1⟩
      obtain ⟨bs, b1, b2⟩ := t1.out (K := K)
      refine ⟨D, bs, rfl, b1, _, rfl, ?_⟩
      rw [b2]
      refine ⟨_, rfl, a, ns, rfl, s1 _ _ ha, nd, hl, _, rfl, a, _, rfl, .inr (SqT.of (s1 _ _ ha)), rfl, ?_⟩
      have e : decide (V.int ((ns.length : Nat) : Int) = V.int ((ns.map V.str).length : Int)) = true := decide_eq_true (by rw [List.length_map])
      rw [e]
      exact q H1 s1

theorem sc_are_numbers : FnScope ["thing", "many", "item"] ["thing", "many"] (defScope (top 14)) := ⟨rfl, rfl, rfl, by decide +kernel, rfl, by decide +kernel, by decide +kernel⟩
def spNumbers : Sp := fun vs H Q _ => ∃ (a : Addr) (ns : List Nat), vs = [.ref a, .int ns.length] ∧ H a = some (.tup (ns.map fun n : Nat => V.int (n : Int))) ∧ ns.length ≤ 1000 ∧ ∀ H', Same H H' → Q (.bl true) H'
theorem c_are_numbers (T : Txt K mg) : Cl P w K mg base 3 "are_numbers" ["thing", "many"] spNumbers := by
  refine cl_of T.fare_numbers T.gare_numbers sc_are_numbers (fun _ _ _ _ _ _ us hl => match us, hl with | [_, _], _ => rfl) (fun vs H Q E h => ?_) (fun cdv A outer s H vs Q E hr h => ?_)
  · obtain ⟨a, ns, rfl, _⟩ := h
    rfl
  · obtain ⟨a, ns, rfl, ha, hl, q⟩ := h
    refine ⟨_, (pss_one (ps_ret (pe_and (pe_callB call_isi (by rfl) T.zisinstance bo_isi (pa_cons (pv 0) (pa_cons (pe_bltn (v := .ty "tuple") (by rfl) T.ztuple bo_tuple rfl) pa_nil))) (pe_and (pe_cmpR op_eq (pe_callB call_len_seq (by rfl) T.zlen bo_len (pa_cons (pv 0) pa_nil)) (pv 1) (nomark _)) (pe_one (pe_callB (cr_all rfl) (by rfl) T.zall bo_all (pa_cons (pe_lc (own := [("item", 2)]) (g := gName 2) (tt := tYes) rfl sc_are_numbers.nd (pi_tup (pv 0)) (blkOk_by (own := [("item", 2)]) (N := ["thing", "many", "item"]) (sc := defScope (top 14)) (by decide +kernel)) (fun _ _ _ _ _ => pg_name (i := 2) sc_are_numbers.nd rfl (Or.inl rfl)) (fun _ _ _ _ _ => pts_nil) (fun _ _ _ _ _ => (pe_f (c_is_number T) hr (pa_cons (pv 2) pa_nil)))) pa_nil))))))), ?_⟩
    refine ⟨_, rfl, _, _, _, _, true, rfl, .ty _, .base (.tup ha), kit_ty kb_tt, true, rfl, _, rfl, a, _, rfl, .inr (SqT.of ha), _, rfl, rfl, _, rfl, ?_⟩
    have e : decide (V.int ((ns.map fun n : Nat => V.int (n : Int)).length : Int) = V.int ((ns.length : Nat) : Int)) = true := decide_eq_true (by rw [List.length_map])
    rw [e]
    refine ⟨_, rfl, a, rfl, ⟨_, SqT.of ha⟩, fun D hD => lc_tup (K := K) (a := a) (xs := ns.map fun n : Nat => V.int (n : Int)) (fun i H1 => Same H H1 ∧ Trues H1 D i) ⟨same_upd hD, trues_nil⟩ (fun i H1 _ h => SqT.of (h.1 _ _ ha)) ?_ ?_⟩
    · rintro i v H1 hi ⟨s1, t1⟩
      have hi2 : i < ns.length := by
        have := (List.getElem?_eq_some_iff.mp hi).1
        rwa [List.length_map] at this
      obtain rfl : v = .int ((ns[i] : Nat) : Int) := by
        rw [List.getElem?_map, List.getElem?_eq_getElem hi2] at hi
        exact (Option.some.inj hi).symm
      refine ⟨rfl, _, rfl, _, rfl, ?_⟩
      rw [decide_eq_true (Int.natCast_nonneg _)]
      obtain ⟨acc, e1, e2, e3⟩ := t1.snoc (by omega)
      exact ⟨acc, e1, e2, same_grow hD s1, e3⟩
    · rintro H1 ⟨s1, t1⟩
      obtain ⟨bs, b1, b2⟩ := t1.out (K := K)
      refine ⟨D, bs, rfl, b1, ?_⟩
      rw [b2]
      exact q H1 s1

theorem sc_check_input : FnScope ["thing", "many"] ["thing", "many"] (defScope (top 15)) := ⟨rfl, rfl, rfl, by decide +kernel, rfl, by decide +kernel, by decide +kernel⟩
def spInput : Sp := fun vs H Q _ => ∃ (v : V) (ns : List Nat), vs = [v, .int ns.length] ∧ IsAt H v ns ∧ ns.length ≤ 1000 ∧ ∀ H', Same H H' → Q .non H'
theorem c_check_input (T : Txt K mg) : Cl P w K mg base 4 "check_input" ["thing", "many"] spInput := by
  refine cl_of T.fcheck_input T.gcheck_input sc_check_input (fun _ _ _ _ _ _ us hl => match us, hl with | [_, _], _ => rfl) (fun vs H Q E h => ?_) (fun cdv A outer s H vs Q E hr h => ?_)
  · obtain ⟨v, ns, rfl, _⟩ := h
    rfl
  · obtain ⟨v, ns, rfl, ⟨a, rfl, ha⟩, hl, q⟩ := h
    refine ⟨_, (pss_one (ps_if (pt_not (pt_val (pe_f (c_are_numbers T) hr (pa_cons (pv 0) (pa_cons (pv 1) pa_nil))))) (pss_one ps_never) pss_nil)), ?_⟩
    exact ⟨_, rfl, _, rfl, a, ns, rfl, ha, hl, fun H' s' => ⟨true, rfl, q H' s'⟩⟩
end
end Fr
/-! ## FrProg1 -/
set_option Elab.async false
set_option linter.all false
set_option maxRecDepth 100000
set_option maxHeartbeats 4000000
/-! Deeds, rounds, statements, blocks: what judges them. -/
namespace Fr
open PySem PySem.Spec PyProof.Rows L2
section
variable {P : Program} {w : World} {K : PySem.W.Frag} {mg : Str → Option Value} {base : Heap}
theorem zc : decide (V.str "zero" = V.str "copy") = false := by decide +kernel
theorem mc : decide (V.str "more" = V.str "copy") = false := by decide +kernel
theorem rc : decide (V.str "round" = V.str "copy") = false := by decide +kernel
theorem cc : decide (V.str "copy" = V.str "copy") = true := decide_eq_true rfl
theorem inZ : inV (.str "zero") [.str "zero", .str "more"] = true := by decide +kernel
theorem inM : inV (.str "more") [.str "zero", .str "more"] = true := by decide +kernel
theorem nms_len (d : Dd) : 1 ≤ d.nms.length ∧ d.nms.length ≤ 2 := by cases d <;> simp [Dd.nms]
theorem sc_is_deed : FnScope ["thing", "item"] ["thing"] (defScope (top 18)) := ⟨rfl, rfl, rfl, by decide +kernel, rfl, by decide +kernel, by decide +kernel⟩
/-- a deed of the menu's names is one, a round none -/
def spIsDeed : Sp := fun vs H Q _ => ∃ v, vs = [v] ∧ ((∃ d : Dd, DdAt H v d ∧ (∀ x ∈ d.nms, x ∈ menu) ∧ ∀ H', Same H H' → Q (.bl true) H') ∨
  (∃ a u b xs, v = .ref a ∧ H a = some (.tup [.str "round", .str u, .ref b]) ∧ H b = some (.tup xs) ∧ u ∈ menu ∧ ∀ H', Same H H' → Q (.bl false) H'))
theorem c_is_deed (T : Txt K mg) : Cl P w K mg base 2 "is_deed" ["thing"] spIsDeed := by
  refine cl_of T.fis_deed T.gis_deed sc_is_deed (fun _ _ _ _ _ _ us hl => match us, hl with | [_], _ => rfl) (fun vs H Q E h => ?_) (fun cdv A outer s H vs Q E hr h => ?_)
  · obtain ⟨v, rfl, _⟩ := h
    rfl
  · obtain ⟨v, rfl, h⟩ := h
    refine ⟨_, (pss_cons (ps_if (PW.pt (pw_or (pt_not (pt_val (pe_callB call_isi (by rfl) T.zisinstance bo_isi (pa_cons (pv 0) (pa_cons (pe_bltn (v := .ty "tuple") (by rfl) T.ztuple bo_tuple rfl) pa_nil))))) (pw_or (pt_cmpR op_lt (pe_callB call_len_seq (by rfl) T.zlen bo_len (pa_cons (pv 0) pa_nil)) pe_int (nomark _)) (pw_or1 (pt_not (pt_val (pe_callB call_isi (by rfl) T.zisinstance bo_isi (pa_cons (pe_ix ix_tup (pv 0) pe_int (fun _ _ => rfl)) (pa_cons (pe_bltn (v := .ty "str") (by rfl) T.zstr bo_str rfl) pa_nil))))))))) (pss_one (ps_ret pe_bl)) pss_nil)
      (pss_cons (ps_if (pt_not (pt_val (pe_callB (cr_all rfl) (by rfl) T.zall bo_all (pa_cons (pe_lc (own := [("item", 1)]) (g := gName 1) (tt := tYes) rfl sc_is_deed.nd (pi_tup (pe_slice sl_F (pv 0) (po_some pe_int) po_none)) (blkOk_by (own := [("item", 1)]) (N := ["thing", "item"]) (sc := defScope (top 18)) (by decide +kernel)) (fun _ _ _ _ _ => pg_name (i := 1) sc_is_deed.nd rfl (Or.inl rfl)) (fun _ _ _ _ _ => pts_nil) (fun _ _ _ _ _ => (pe_f (c_is_name T) hr (pa_cons (pv 1) pa_nil)))) pa_nil)))) (pss_one (ps_ret pe_bl)) pss_nil)
      (pss_cons (ps_if (pt_cmpR op_eq (pe_ix ix_tup (pv 0) pe_int (fun _ _ => rfl)) pe_str (nomark _)) (pss_one (ps_ret (pe_cmpR op_eq (pe_callB call_len_seq (by rfl) T.zlen bo_len (pa_cons (pv 0) pa_nil)) pe_int (nomark _)))) pss_nil)
      (pss_one (ps_ret (pe_and (pe_cmpR op_in_seq (pe_ix ix_tup (pv 0) pe_int (fun _ _ => rfl)) (pe_tup (pa_cons pe_str (pa_cons pe_str pa_nil))) rfl) (pe_one (pe_cmpR op_eq (pe_callB call_len_seq (by rfl) T.zlen bo_len (pa_cons (pv 0) pa_nil)) pe_int (nomark _))))))))), ?_⟩
    rcases h with ⟨d, ⟨a, rfl, ha⟩, hm, q⟩ | ⟨a, u, b, us, rfl, ha, hb, hu, q⟩
    · have hd := nms_len d
      have z1 : decide ((d.vs.length : Int) < 2) = false := decide_eq_false (by show ¬ (((d.nms.map V.str).length + 1 : Nat) : Int) < 2; rw [List.length_map]; omega)
      refine ⟨_, rfl, _, _, _, _, true, rfl, .ty _, .base (.tup ha), kit_ty kb_tt, true, rfl, _, rfl, a, _, rfl, .inr (SqT.of ha), _, _, rfl, rfl, _, rfl, ?_⟩
      rw [z1]
      refine ⟨_, rfl, a, _, 0, .str d.kind, rfl, rfl, SqT.of ha, atI_nat (j := 0) rfl, _, _, _, _, true, rfl, .ty _, .base (.str _), kit_ty kb_ss, true, rfl, ?_⟩
      refine ⟨_, rfl, 1, rfl, a, _, 1, rfl, rfl, rfl, ha, fun t H1 s1 ht => ⟨t, rfl, ⟨_, SqT.of ht⟩, fun D hD => lc_tup (K := K) (a := t) (xs := d.nms.map V.str) (fun i H2 => Same H1 H2 ∧ Trues H2 D i) ⟨same_upd hD, trues_nil⟩ (fun i H2 _ h => SqT.of (h.1 _ _ ht)) ?_ ?_⟩⟩
      · rintro i v H2 hi ⟨s2, t2⟩
        have hi2 : i < d.nms.length := by
          have := (List.getElem?_eq_some_iff.mp hi).1
          rwa [List.length_map] at this
        obtain rfl : v = .str d.nms[i] := by
          rw [List.getElem?_map, List.getElem?_eq_getElem hi2] at hi
          exact (Option.some.inj hi).symm
        refine ⟨rfl, _, rfl, _, rfl, .inl ⟨_, rfl, hm _ (List.getElem_mem hi2), fun H3 s3 => ?_⟩⟩
        obtain ⟨acc, e1, e2, e3⟩ := (t2.same s3).snoc (by omega)
        exact ⟨acc, e1, e2, same_grow hD (s2.trans s3), e3⟩
      · rintro H2 ⟨s2, t2⟩
        obtain ⟨bs, b1, b2⟩ := t2.out (K := K)
        refine ⟨D, bs, rfl, b1, _, rfl, ?_⟩
        rw [b2]
        have s3 := s1.trans s2
        have ha2 := s3 _ _ ha
        cases d with
        | zero x =>
          refine ⟨_, rfl, a, _, 0, .str "zero", rfl, rfl, SqT.of ha2, rfl, rfl, _, rfl, ?_⟩
          rw [zc]
          refine ⟨_, rfl, a, _, 0, .str "zero", rfl, rfl, SqT.of ha2, rfl, by show 2 ≤ sizeLine; decide, fun p hp => ⟨p, _, rfl, .inr (SqT.of upd_same), rfl, rfl, _, rfl, ?_⟩⟩
          have s4 := s3.trans (same_upd (o := .tup [.str "zero", .str "more"]) hp)
          rw [inZ]
          exact ⟨_, rfl, a, _, rfl, .inr (SqT.of (s4 _ _ ha)), rfl, q _ s4⟩
        | more x =>
          refine ⟨_, rfl, a, _, 0, .str "more", rfl, rfl, SqT.of ha2, rfl, rfl, _, rfl, ?_⟩
          rw [mc]
          refine ⟨_, rfl, a, _, 0, .str "more", rfl, rfl, SqT.of ha2, rfl, by show 2 ≤ sizeLine; decide, fun p hp => ⟨p, _, rfl, .inr (SqT.of upd_same), rfl, rfl, _, rfl, ?_⟩⟩
          have s4 := s3.trans (same_upd (o := .tup [.str "zero", .str "more"]) hp)
          rw [inM]
          exact ⟨_, rfl, a, _, rfl, .inr (SqT.of (s4 _ _ ha)), rfl, q _ s4⟩
        | copy x y =>
          refine ⟨_, rfl, a, _, 0, .str "copy", rfl, rfl, SqT.of ha2, rfl, rfl, _, rfl, ?_⟩
          rw [cc]
          exact ⟨_, rfl, a, _, rfl, .inr (SqT.of ha2), rfl, q _ s3⟩
    · refine ⟨_, rfl, _, _, _, _, true, rfl, .ty _, .base (.tup ha), kit_ty kb_tt, true, rfl, _, rfl, a, _, rfl, .inr (SqT.of ha), _, _, rfl, rfl, _, rfl, ?_⟩
      refine ⟨_, rfl, a, _, 0, .str "round", rfl, rfl, SqT.of ha, rfl, _, _, _, _, true, rfl, .ty _, .base (.str _), kit_ty kb_ss, true, rfl, ?_⟩
      refine ⟨_, rfl, 1, rfl, a, _, 1, rfl, rfl, rfl, ha, fun t H1 s1 ht => ⟨t, rfl, ⟨_, SqT.of ht⟩, fun D hD => lc_tup (K := K) (a := t) (xs := [.str u, .ref b])
        (fun i H2 => Same H1 H2 ∧ ∃ bs : List Bool, bs.length = i ∧ (i = 2 → bs.all id = false) ∧ H2 D = some (.lst (bs.map .bl))) ⟨same_upd hD, [], rfl, by simp, upd_same⟩ (fun i H2 _ h => SqT.of (h.1 _ _ ht)) ?_ ?_⟩⟩
      · rintro i v H2 hi ⟨s2, bs, b1, b2, b3⟩
        match i, hi with
        | 0, hi =>
          obtain rfl : V.str u = v := Option.some.inj hi
          refine ⟨rfl, _, rfl, _, rfl, .inl ⟨_, rfl, hu, fun H3 s3 => ?_⟩⟩
          exact ⟨_, s3 _ _ b3, lineL (by rw [List.length_map]; omega), same_grow hD (s2.trans s3), bs ++ [true], by simp [b1], by simp, by rw [upd_same]; simp⟩
        | 1, hi =>
          obtain rfl : V.ref b = v := Option.some.inj hi
          refine ⟨rfl, _, rfl, _, rfl, .inr ⟨_, _, rfl, s2 _ _ (s1 _ _ hb), ?_⟩⟩
          exact ⟨_, b3, lineL (by rw [List.length_map]; omega), same_grow hD s2, bs ++ [false], by simp [b1], by simp, by rw [upd_same]; simp⟩
        | i + 2, hi => cases hi
      · rintro H2 ⟨s2, bs, b1, b2, b3⟩
        refine ⟨D, bs, rfl, SqL.of b3, _, rfl, ?_⟩
        rw [b2 rfl]
        exact q H2 (s1.trans s2)
theorem SmAt.deed {H : Hp} {v : V} {d : Dd} (h : SmAt H v (.deed d)) : ∃ a, v = .ref a ∧ H a = some (.tup d.vs) := h
theorem SmAt.round {H : Hp} {v : V} {x : Str} {ds : List Dd} (h : SmAt H v (.round x ds)) : ∃ a b us, v = .ref a ∧ H a = some (.tup [.str "round", .str x, .ref b]) ∧ H b = some (.tup us) ∧ Paired (DdAt H) us ds := by
  obtain ⟨a, u, rfl, h1, b, us, rfl, h2, h3⟩ := h
  exact ⟨a, b, us, rfl, h1, h2, h3⟩
/-- names of the menu, not too many deeds -/
structure Sm.ok (s : Sm) : Prop where
  nm : ∀ x ∈ s.nms, x ∈ menu
  im : ∀ d ∈ s.ins, ∀ x ∈ d.nms, x ∈ menu
  few : s.ins.length ≤ 16
theorem sc_is_round : FnScope ["thing"] ["thing"] (defScope (top 19)) := ⟨rfl, rfl, rfl, by decide +kernel, rfl, by decide +kernel, by decide +kernel⟩
def spIsRound : Sp := fun vs H Q _ => ∃ v s, vs = [v] ∧ SmAt H v s ∧ s.ok ∧ ((∀ d, s = .deed d → ∀ H', Same H H' → Q (.bl false) H') ∧ (∀ x ds, s = .round x ds → ∀ H', Same H H' → Q (.bl true) H'))
theorem c_is_round (T : Txt K mg) : Cl P w K mg base 2 "is_round" ["thing"] spIsRound := by
  refine cl_of T.fis_round T.gis_round sc_is_round (fun _ _ _ _ _ _ us hl => match us, hl with | [_], _ => rfl) (fun vs H Q E h => ?_) (fun cdv A outer s H vs Q E hr h => ?_)
  · obtain ⟨v, s, rfl, _⟩ := h
    rfl
  · obtain ⟨v, s, rfl, hs, ok, q1, q2⟩ := h
    refine ⟨_, (pss_cons (ps_if (PW.pt (pw_or (pt_not (pt_val (pe_callB call_isi (by rfl) T.zisinstance bo_isi (pa_cons (pv 0) (pa_cons (pe_bltn (v := .ty "tuple") (by rfl) T.ztuple bo_tuple rfl) pa_nil))))) (pw_or (pt_cmpR op_ne (pe_callB call_len_seq (by rfl) T.zlen bo_len (pa_cons (pv 0) pa_nil)) pe_int (nomark _)) (pw_or (pt_not (pt_val (pe_callB call_isi (by rfl) T.zisinstance bo_isi (pa_cons (pe_ix ix_tup (pv 0) pe_int (fun _ _ => rfl)) (pa_cons (pe_bltn (v := .ty "str") (by rfl) T.zstr bo_str rfl) pa_nil))))) (pw_or1 (pt_cmpR op_ne (pe_ix ix_tup (pv 0) pe_int (fun _ _ => rfl)) pe_str (nomark _))))))) (pss_one (ps_ret pe_bl)) pss_nil)
      (pss_one (ps_ret (pe_and (pe_f (c_is_name T) hr (pa_cons (pe_ix ix_tup (pv 0) pe_int (fun _ _ => rfl)) pa_nil)) (pe_one (pe_callB call_isi (by rfl) T.zisinstance bo_isi (pa_cons (pe_ix ix_tup (pv 0) pe_int (fun _ _ => rfl)) (pa_cons (pe_bltn (v := .ty "tuple") (by rfl) T.ztuple bo_tuple rfl) pa_nil)))))))), ?_⟩
    cases s with
    | deed d =>
      obtain ⟨a, rfl, ha⟩ := hs.deed
      refine ⟨_, rfl, _, _, _, _, true, rfl, .ty _, .base (.tup ha), kit_ty kb_tt, true, rfl, _, rfl, a, _, rfl, .inr (SqT.of ha), rfl, _, rfl, ?_⟩
      by_cases e : d.vs.length = 3
      · have z : (!decide (V.int (d.vs.length : Int) = V.int 3)) = false := by
          rw [e]
          decide +kernel
        rw [z]
        refine ⟨_, rfl, a, _, 0, .str d.kind, rfl, rfl, SqT.of ha, atI_nat (j := 0) rfl, _, _, _, _, true, rfl, .ty _, .base (.str _), kit_ty kb_ss, true, rfl, _, rfl, a, _, 0, .str d.kind, rfl, rfl, SqT.of ha, atI_nat (j := 0) rfl, rfl, _, rfl, ?_⟩
        rw [d.kind_round]
        exact q1 d rfl H (Same.refl H)
      · have z : (!decide (V.int (d.vs.length : Int) = V.int 3)) = true := by
          have : ¬ V.int (d.vs.length : Int) = V.int 3 := fun z => by
            injection z with z
            omega
          rw [decide_eq_false this]
          rfl
        rw [z]
        exact q1 d rfl H (Same.refl H)
    | round x ds =>
      obtain ⟨a, b, us, rfl, ha, hb, _⟩ := hs.round
      refine ⟨_, rfl, _, _, _, _, true, rfl, .ty _, .base (.tup ha), kit_ty kb_tt, true, rfl, _, rfl, a, _, rfl, .inr (SqT.of ha), rfl, _, rfl, ?_⟩
      have z : (!decide (V.int (([.str "round", .str x, .ref b] : List V).length : Int) = V.int 3)) = false := by
        show (!decide (V.int 3 = V.int 3)) = false
        decide +kernel
      rw [z]
      refine ⟨_, rfl, a, _, 0, .str "round", rfl, rfl, SqT.of ha, rfl, _, _, _, _, true, rfl, .ty _, .base (.str _), kit_ty kb_ss, true, rfl, _, rfl, a, _, 0, .str "round", rfl, rfl, SqT.of ha, rfl, rfl, _, rfl, ?_⟩
      rw [round_round]
      refine ⟨_, rfl, a, _, 1, .str x, rfl, rfl, SqT.of ha, rfl, _, rfl, .inl ⟨x, rfl, ok.nm x (List.mem_singleton.mpr rfl), fun H1 s1 => ⟨true, rfl, _, rfl, a, _, 2, .ref b, rfl, rfl, SqT.of (s1 _ _ ha), rfl, _, _, _, _, true, rfl, .ty _, .base (.tup (s1 _ _ hb)), kit_ty kb_tt, ?_⟩⟩⟩
      exact q2 x ds rfl H1 s1

theorem sc_is_statement : FnScope ["thing", "deed"] ["thing"] (defScope (top 20)) := ⟨rfl, rfl, rfl, by decide +kernel, rfl, by decide +kernel, by decide +kernel⟩
def spIsStatement : Sp := fun vs H Q _ => ∃ v s, vs = [v] ∧ SmAt H v s ∧ s.ok ∧ ∀ H', Same H H' → Q (.bl true) H'
theorem c_is_statement (T : Txt K mg) : Cl P w K mg base 3 "is_statement" ["thing"] spIsStatement := by
  refine cl_of T.fis_statement T.gis_statement sc_is_statement (fun _ _ _ _ _ _ us hl => match us, hl with | [_], _ => rfl) (fun vs H Q E h => ?_) (fun cdv A outer s H vs Q E hr h => ?_)
  · obtain ⟨v, s, rfl, _⟩ := h
    rfl
  · obtain ⟨v, s, rfl, hs, ok, q⟩ := h
    refine ⟨_, (pss_one (ps_ret (pe_or (pe_f (c_is_deed T) hr (pa_cons (pv 0) pa_nil)) (pe_one (pe_and (pe_f (c_is_round T) hr (pa_cons (pv 0) pa_nil)) (pe_one (pe_callB (cr_all rfl) (by rfl) T.zall bo_all (pa_cons (pe_lc (own := [("deed", 1)]) (g := gName 1) (tt := tYes) rfl sc_is_statement.nd (pi_tup (pe_ix ix_tup (pv 0) pe_int (fun _ _ => rfl))) (blkOk_by (own := [("deed", 1)]) (N := ["thing", "deed"]) (sc := defScope (top 20)) (by decide +kernel)) (fun _ _ _ _ _ => pg_name (i := 1) sc_is_statement.nd rfl (Or.inl rfl)) (fun _ _ _ _ _ => pts_nil) (fun _ _ _ _ _ => (pe_f (c_is_deed T) hr (pa_cons (pv 1) pa_nil)))) pa_nil)))))))), ?_⟩
    cases s with
    | deed d => exact ⟨_, rfl, v, rfl, .inl ⟨d, hs, ok.nm, fun H1 s1 => ⟨true, rfl, q H1 s1⟩⟩⟩
    | round x ds =>
      have hs0 := hs
      obtain ⟨a, b, us, rfl, ha, hb, pr⟩ := hs.round
      refine ⟨_, rfl, _, rfl, .inr ⟨a, x, b, us, rfl, ha, hb, ok.nm x (List.mem_singleton.mpr rfl), fun H1 s1 => ⟨false, rfl, _, rfl, _, .round x ds, rfl, hs0.tk s1.tk, ok, (fun _ z => nomatch z), fun _ _ _ H2 s2 => ⟨true, rfl, ?_⟩⟩⟩⟩
      have s3 := s1.trans s2
      refine ⟨_, rfl, a, _, 2, .ref b, rfl, rfl, SqT.of (s3 _ _ ha), rfl, b, rfl, ⟨_, SqT.of (s3 _ _ hb)⟩, fun D hD => lc_tup (K := K) (a := b) (xs := us) (fun i H4 => Same H2 H4 ∧ Trues H4 D i) ⟨same_upd hD, trues_nil⟩ (fun i H4 _ h => SqT.of (h.1 _ _ (s3 _ _ hb))) ?_ ?_⟩
      · rintro i u H4 hi ⟨s4, t4⟩
        obtain ⟨d, hd, hu⟩ := pr_getL pr hi
        have hl : i < ds.length := (List.getElem?_eq_some_iff.mp hd).1
        have := ok.few
        refine ⟨rfl, _, rfl, _, rfl, .inl ⟨d, hu.tk (s3.trans s4).tk, ok.im d (List.mem_of_getElem? hd), fun H5 s5 => ?_⟩⟩
        have : ds.length ≤ 16 := ok.few
        obtain ⟨acc, e1, e2, e3⟩ := (t4.same s5).snoc (by omega)
        exact ⟨acc, e1, e2, same_grow hD (s4.trans s5), e3⟩
      · rintro H4 ⟨s4, t4⟩
        obtain ⟨bs, b1, b2⟩ := t4.out (K := K)
        refine ⟨D, bs, rfl, b1, ?_⟩
        rw [b2]
        exact q H4 (s3.trans s4)

theorem sc_wrong_place : FnScope ["block", "k", "thing", "j", "deed"] ["block"] (defScope (top 21)) := ⟨rfl, rfl, rfl, by decide +kernel, rfl, by decide +kernel, by decide +kernel⟩
def spWrong : Sp := fun vs H Q _ => ∃ v b, vs = [v] ∧ BkAt H v b ∧ (∀ s ∈ b, s.ok) ∧ ∀ H', Same H H' → Q .non H'
theorem c_wrong_place (T : Txt K mg) : Cl P w K mg base 3 "wrong_place" ["block"] spWrong := by
  refine cl_of T.fwrong_place T.gwrong_place sc_wrong_place (fun _ _ _ _ _ _ us hl => match us, hl with | [_], _ => rfl) (fun vs H Q E h => ?_) (fun cdv A outer s H vs Q E hr h => ?_)
  · obtain ⟨v, b, rfl, _⟩ := h
    rfl
  · obtain ⟨v, b, rfl, ⟨a, us, rfl, ha, pr⟩, ok, q⟩ := h
    refine ⟨_, (pss_cons (ps_for PassesOwn.never rfl (pi_enumT (by rfl) T.zenumerate (pa_cons (pv 0) pa_nil)) (pg_tup (by rfl) (pgs_cons (pg_name (i := 1) sc_wrong_place.nd rfl (Or.inl rfl)) (pgs_cons (pg_name (i := 2) sc_wrong_place.nd rfl (Or.inl rfl)) pgs_nil))) (pss_one (ps_if (pt_val (pe_f (c_is_round T) hr (pa_cons (pv 2) pa_nil))) (pss_one (ps_for PassesOwn.never rfl (pi_enumT (by rfl) T.zenumerate (pa_cons (pe_ix ix_tup (pv 2) pe_int (fun _ _ => rfl)) pa_nil)) (pg_tup (by rfl) (pgs_cons (pg_name (i := 3) sc_wrong_place.nd rfl (Or.inl rfl)) (pgs_cons (pg_name (i := 4) sc_wrong_place.nd rfl (Or.inl rfl)) pgs_nil))) (pss_one (ps_if (pt_not (pt_val (pe_f (c_is_deed T) hr (pa_cons (pv 4) pa_nil)))) (pss_one (ps_ret (pe_tup (pa_cons (pv 1) (pa_cons (pv 3) pa_nil))))) pss_nil)))) (pss_one (ps_if (pt_not (pt_val (pe_f (c_is_deed T) hr (pa_cons (pv 2) pa_nil)))) (pss_one (ps_ret (pe_tup (pa_cons (pv 1) pa_nil)))) pss_nil)))))
      (pss_one (ps_ret pe_non))), ?_⟩
    refine ⟨_, rfl, a, us, rfl, ha, for_it walk_enumT (fun i σ H1 => ∃ v1 v2 v3 v4, σ = [some (.ref a), v1, v2, v3, v4] ∧ Same H H1) ⟨none, none, none, none, rfl, Same.refl H⟩ (fun i σ H1 _ ⟨_, _, _, _, _, s1⟩ => s1 _ _ ha) ?_ ?_⟩
    · rintro i x σ H1 H2 hi ⟨v1, v2, v3, v4, rfl, s1⟩ ⟨t, y, u, rfl, ht, rfl, ey, hu⟩
      obtain rfl := Option.some.inj ey
      obtain ⟨s, hs, hsm⟩ := pr_getL pr hu
      have oks := ok s (List.mem_of_getElem? hs)
      have s2 : Same H (upd H1 t (.tup [.int i, u])) := same_grow (s1.free ht) s1
      refine ⟨t, _, rfl, SqT.of upd_same, rfl, _, _, rfl, _, _, rfl, rfl, _, rfl, u, s, rfl, hsm.tk s2.tk, oks, ?_, ?_⟩
      · rintro d rfl H3 s3
        refine ⟨false, rfl, _, rfl, u, rfl, .inl ⟨d, DdAt.tk (s2.trans s3).tk hsm, oks.nm, fun H4 s4 => ⟨true, rfl, ?_⟩⟩⟩
        exact ⟨_, _, _, _, rfl, (s2.trans s3).trans s4⟩
      · rintro y ds rfl H3 s3
        obtain ⟨c, b', ws, rfl, hc, hb', pr'⟩ := hsm.round
        have s5 := s2.trans s3
        refine ⟨true, rfl, _, rfl, c, _, 2, .ref b', rfl, rfl, SqT.of (s5 _ _ hc), rfl, b', ws, rfl, s5 _ _ hb', for_it walk_enumT (fun j σ H4 => ∃ w1 w2 w3 w4, σ = [some (.ref a), w1, w2, w3, w4] ∧ Same H H4) ⟨_, _, _, _, rfl, s5⟩ (fun j σ H4 _ ⟨_, _, _, _, _, s6⟩ => s6 _ _ hb') ?_ ?_⟩
        · rintro j z σ H4 H5 hj ⟨w1, w2, w3, w4, rfl, s6⟩ ⟨t2, y2, u2, rfl, ht2, rfl, ey2, hu2⟩
          obtain rfl := Option.some.inj ey2
          obtain ⟨d, hd, hdd⟩ := pr_getL pr' hu2
          have s7 : Same H (upd H4 t2 (.tup [.int j, u2])) := same_grow (s6.free ht2) s6
          refine ⟨t2, _, rfl, SqT.of upd_same, rfl, _, _, rfl, _, _, rfl, rfl, _, rfl, u2, rfl, .inl ⟨d, hdd.tk s7.tk, oks.im d (List.mem_of_getElem? hd), fun H6 s8 => ⟨true, rfl, ?_⟩⟩⟩
          exact ⟨_, _, _, _, rfl, s7.trans s8⟩
        · rintro σ H4 ⟨w1, w2, w3, w4, rfl, s6⟩
          exact ⟨_, _, _, _, rfl, s6⟩
    · rintro σ H1 ⟨v1, v2, v3, v4, rfl, s1⟩
      exact q H1 s1

/-- how many statements, deeds in rounds counted -/
def bsz (b : List Sm) : List Int := b.map fun s => 1 + (s.ins.length : Int)
theorem sc_size_of : FnScope ["block", "thing"] ["block"] (defScope (top 22)) := ⟨rfl, rfl, rfl, by decide +kernel, rfl, by decide +kernel, by decide +kernel⟩
def spSize : Sp := fun vs H Q _ => ∃ v b, vs = [v] ∧ BkAt H v b ∧ b.length ≤ 1000 ∧ ∀ H', Same H H' → Q (.int (bsz b).sum) H'
theorem c_size_of (T : Txt K mg) : Cl P w K mg base 1 "size_of" ["block"] spSize := by
  refine cl_of T.fsize_of T.gsize_of sc_size_of (fun _ _ _ _ _ _ us hl => match us, hl with | [_], _ => rfl) (fun vs H Q E h => ?_) (fun cdv A outer s H vs Q E hr h => ?_)
  · obtain ⟨v, b, rfl, _⟩ := h
    rfl
  · obtain ⟨v, b, rfl, ⟨a, us, rfl, ha, pr⟩, hl, q⟩ := h
    refine ⟨_, (pss_one (ps_ret (pe_callB (cr_sum rfl) (by rfl) T.zsum bo_sum (pa_cons (pe_lc (own := [("thing", 1)]) (g := gName 1) (tt := tYes) rfl sc_size_of.nd (pi_tup (pv 0)) (blkOk_by (own := [("thing", 1)]) (N := ["block", "thing"]) (sc := defScope (top 22)) (by decide +kernel)) (fun _ _ _ _ _ => pg_name (i := 1) sc_size_of.nd rfl (Or.inl rfl)) (fun _ _ _ _ _ => pts_nil) (fun _ _ _ _ _ => (pe_op op_add pe_int (pe_ifExp (pt_cmpR op_eq (pe_ix (ix_tupK (K := K)) (pv 1) pe_int (fun _ _ => rfl)) pe_str (nomark _)) (pe_callB (len_K (K := K)) (by rfl) T.zlen bo_len (pa_cons (pe_ix (ix_tupK (K := K)) (pv 1) pe_int (fun _ _ => rfl)) pa_nil)) pe_int)))) pa_nil)))), ?_⟩
    have hlen := pr.length
    refine ⟨_, rfl, a, rfl, ⟨_, SqT.of ha⟩, ?_⟩
    refine fun D hD => lc_tup (K := K) (a := a) (xs := us) (fun i H1 => Same H H1 ∧ H1 D = some (.lst (((bsz b).take i).map .int))) ⟨same_upd hD, upd_same⟩ (fun i H1 _ h => SqT.of (h.1 _ _ ha)) ?_ ?_
    · rintro i u H1 hi ⟨s1, h1⟩
      obtain ⟨s, hs, hsm⟩ := pr_getL pr hi
      have hsm := hsm.tk s1.tk
      have hib : i < b.length := (List.getElem?_eq_some_iff.mp hs).1
      have e : (bsz b).take (i + 1) = (bsz b).take i ++ [1 + (s.ins.length : Int)] := by
        rw [List.take_add_one]
        show _ ++ ((b.map _)[i]?).toList = _
        rw [List.getElem?_map, hs]
        rfl
      have fin : ∀ n : Int, n = s.ins.length → ∃ acc, H1 D = some (.lst acc) ∧ acc.length < sizeLine ∧ Same H (upd H1 D (.lst (acc ++ [.int (1 + n)]))) ∧ (upd H1 D (.lst (acc ++ [.int (1 + n)]))) D = some (.lst (((bsz b).take (i + 1)).map .int)) := by
        rintro n rfl
        exact ⟨_, h1, lineL (by rw [List.length_map, List.length_take]; omega), same_grow hD s1, by rw [upd_same, e]; simp⟩
      cases s with
      | deed d =>
        obtain ⟨c, rfl, hc⟩ := hsm.deed
        refine ⟨rfl, _, rfl, c, _, 0, .str d.kind, rfl, rfl, SqT.of hc, atI_nat (j := 0) rfl, rfl, _, rfl, ?_⟩
        rw [d.kind_round]
        exact ⟨1, 0, rfl, rfl, fin 0 rfl⟩
      | round x ds =>
        obtain ⟨c, b', ws, rfl, hc, hb', pr'⟩ := hsm.round
        refine ⟨rfl, _, rfl, c, _, 0, .str "round", rfl, rfl, SqT.of hc, rfl, rfl, _, rfl, ?_⟩
        rw [round_round]
        refine ⟨_, rfl, c, _, 2, .ref b', rfl, rfl, SqT.of hc, rfl, b', ws, rfl, .inr (SqT.of hb'), 1, (ws.length : Int), rfl, rfl, fin _ ?_⟩
        rw [pr'.length]
        rfl
    · rintro H1 ⟨s1, h1⟩
      refine ⟨D, bsz b, rfl, SqL.of ?_, q H1 s1⟩
      rw [h1, List.take_of_length_le]
      show (b.map _).length ≤ us.length
      rw [List.length_map, hlen]
      exact Nat.le_refl _
end
end Fr
/-! ## FrProg2 -/
set_option Elab.async false
set_option linter.all false
set_option maxRecDepth 100000
set_option maxHeartbeats 4000000
/-! Programs: made, compared, left out of, put into. -/
namespace Fr
open PySem PySem.Spec PyProof.Rows L2
/-- right parts of a program, not too large -/
structure Pt.ok (p : Pt) : Prop where
  gn : p.given.Nodup
  gm : ∀ x ∈ p.given, x ∈ menu
  gl : p.given.length ≤ 2
  tn : p.told.Nodup
  tm : ∀ x ∈ p.told, x ∈ menu
  t1 : 1 ≤ p.told.length
  t4 : p.told.length ≤ 4
  bk : ∀ s ∈ p.block, s.ok
  bl : p.block.length ≤ 64
theorem bsz_le : ∀ {b : List Sm}, (∀ s ∈ b, s.ok) → (bsz b).sum ≤ 17 * b.length
  | [], _ => by simp [bsz]
  | s :: b, h => by
    have h1 := (h s (List.mem_cons_self ..)).few
    have h2 := bsz_le (b := b) fun s hs => h s (List.mem_cons_of_mem _ hs)
    have e : (bsz (s :: b)).sum = 1 + (s.ins.length : Int) + (bsz b).sum := by
      show ((1 + (s.ins.length : Int)) :: bsz b).sum = _
      rw [List.sum_cons]
    rw [e, List.length_cons]
    omega
theorem putF_len (f : Str) (v : V) : ∀ fs : List (Str × V), (putF f v fs).length ≤ fs.length + 1
  | [] => Nat.le_refl _
  | (g, x) :: r => by
    unfold putF
    split
    · exact Nat.le_succ _
    · exact Nat.succ_le_succ (putF_len f v r)
section
variable {P : Program} {w : World} {K : PySem.W.Frag} {mg : Str → Option Value} {base : Heap}
theorem sc_Program___init__ : FnScope ["self", "given", "told", "block", "place"] ["self", "given", "told", "block"] (defScope (inClass (top 23) 0)) := ⟨rfl, rfl, rfl, by decide +kernel, rfl, by decide +kernel, by decide +kernel⟩
/-- a new instance x gets its parts -/
def spMake (good : Pt → Prop) (C : Addr) : Sp := fun vs H Q _ => ∃ (p dx : Addr) (g t b : V) (pt : Pt), vs = [.ref p, g, t, b] ∧ H p = some (.ins C dx []) ∧ NsAt H g pt.given ∧ NsAt H t pt.told ∧ BkAt H b pt.block ∧ good pt ∧
  ∀ H', (∀ c o, H c = some o → c ≠ p → H' c = some o) → H' p = some (.ins C dx (flds g t b)) → Q .non H'
theorem c_Program (T : Txt K mg) : Mkr P w K mg base 4 "Program" (CP K) ["self", "given", "told", "block"] (spMake Pt.ok (CP K)) := by
  obtain ⟨fd, F⟩ := T.fPI
  obtain ⟨tk, hMost⟩ := T.most
  refine ⟨_, fd, T.gP, T.mkP, fn_of_m F sc_Program___init__ (fun vs H Q E h => ?_) (fun cdv A outer s H vs Q E hr h => ?_), F.bindsN (fun _ _ _ _ _ _ us hl => match us, hl with | [_, _, _, _], _ => rfl)⟩
  · obtain ⟨p, dx, g, t, b, pt, rfl, _⟩ := h
    rfl
  · obtain ⟨p, dx, g, t, b, pt, rfl, hp, hg, ht, hb, ok, q⟩ := h
    refine ⟨_, (pss_cons (ps_if (pt_not (pt_val (pe_f (c_are_names T) hr (pa_cons (pv 1) (pa_cons pe_int (pa_cons pe_int pa_nil)))))) (pss_one ps_never) pss_nil)
      (pss_cons (ps_if (pt_not (pt_val (pe_f (c_are_names T) hr (pa_cons (pv 2) (pa_cons pe_int (pa_cons pe_int pa_nil)))))) (pss_one ps_never) pss_nil)
      (pss_cons (ps_if (pt_not (pt_val (pe_callB call_isi (by rfl) T.zisinstance bo_isi (pa_cons (pv 3) (pa_cons (pe_bltn (v := .ty "tuple") (by rfl) T.ztuple bo_tuple rfl) pa_nil))))) (pss_one ps_never) pss_nil)
      (pss_cons (ps_set (i := 4) sc_Program___init__.nd rfl (Or.inl rfl) (pe_f (c_wrong_place T) hr (pa_cons (pv 3) pa_nil)))
      (pss_cons (ps_if (pt_cmpR op_notN (pv 4) pe_non (nomark _)) (pss_one ps_never) pss_nil)
      (pss_cons (ps_if (pt_cmpR op_gt (pe_f (c_size_of T) hr (pa_cons (pv 3) pa_nil)) (pe_glob (v := .int 5000) rfl hMost ⟨_, rfl⟩) (nomark _)) (pss_one ps_never) pss_nil)
      (pss_cons (ps_fld (pv 0) (pv 1) rfl)
      (pss_cons (ps_fld (pv 0) (pv 2) rfl)
      (pss_one (ps_fld (pv 0) (pv 3) rfl)))))))))), ?_⟩
    have hg0 := hg
    have ht0 := ht
    have hb0 := hb
    obtain ⟨ga, rfl, hga⟩ := hg
    obtain ⟨ta, rfl, hta⟩ := ht
    obtain ⟨ba, us, rfl, hba, pr⟩ := hb
    have l1 := ok.gl
    have l2 := ok.t1
    have l3 := ok.t4
    have l4 := ok.bl
    refine ⟨_, rfl, ga, pt.given, 0, 2, rfl, hga, ok.gn, ok.gm, by omega, by omega, fun H1 s1 => ⟨true, rfl, ?_⟩⟩
    refine ⟨_, rfl, ta, pt.told, 1, 4, rfl, s1 _ _ hta, ok.tn, ok.tm, by omega, by omega, fun H2 s2 => ⟨true, rfl, ?_⟩⟩
    have s3 := s1.trans s2
    refine ⟨_, rfl, _, _, _, _, true, rfl, .ty _, .base (.tup (s3 _ _ hba)), kit_ty kb_tt, true, rfl, ?_⟩
    refine ⟨_, rfl, _, pt.block, rfl, hb0.tk s3.tk, ok.bk, fun H4 s4 => ⟨_, rfl, rfl, false, rfl, ?_⟩⟩
    have s5 := s3.trans s4
    refine ⟨_, rfl, _, pt.block, rfl, hb0.tk s5.tk, by omega, fun H6 s6 => ⟨_, _, rfl, rfl, _, rfl, ?_⟩⟩
    have z : decide ((5000 : Int) < (bsz pt.block).sum) = false := decide_eq_false (by have := bsz_le ok.bk; omega)
    rw [z]
    have s7 := s5.trans s6
    have c := pcP T
    refine ⟨_, rfl, _, rfl, p, CP K, dx, [], rfl, s7 _ _ hp, c.cl, c.ng, by show 0 < 1000; decide, ?_⟩
    refine ⟨_, rfl, _, rfl, p, CP K, dx, _, rfl, upd_same, c.cl, c.nt, by show 1 < 1000; decide, ?_⟩
    refine ⟨_, rfl, _, rfl, p, CP K, dx, _, rfl, upd_same, c.cl, c.nb, ?_, ?_⟩
    · exact Nat.lt_of_le_of_lt (putF_len _ _ _) (Nat.lt_of_le_of_lt (Nat.succ_le_succ (putF_len _ _ _)) (by decide))
    · refine q _ (fun c o e hc => ?_) upd_same
      rw [upd_ne hc, upd_ne hc, upd_ne hc]
      exact s7 c o e
theorem sc_RawProgram___init__ : FnScope ["self", "given", "told", "block"] ["self", "given", "told", "block"] (defScope (inClass (top 24) 0)) := ⟨rfl, rfl, rfl, by decide +kernel, rfl, by decide +kernel, by decide +kernel⟩
theorem c_RawProgram (T : Txt K mg) : Mkr P w K mg base 1 "RawProgram" (CR K) ["self", "given", "told", "block"] (spMake (fun _ => True) (CR K)) := by
  obtain ⟨fd, F⟩ := T.fRI
  refine ⟨_, fd, T.gR, T.mkR, fn_of_m F sc_RawProgram___init__ (fun vs H Q E h => ?_) (fun cdv A outer s H vs Q E hr h => ?_), F.bindsN (fun _ _ _ _ _ _ us hl => match us, hl with | [_, _, _, _], _ => rfl)⟩
  · obtain ⟨p, dx, g, t, b, pt, rfl, _⟩ := h
    rfl
  · obtain ⟨p, dx, g, t, b, pt, rfl, hp, hg, ht, hb, _, q⟩ := h
    refine ⟨_, (pss_cons (ps_fld (pv 0) (pv 1) rfl)
      (pss_cons (ps_fld (pv 0) (pv 2) rfl)
      (pss_one (ps_fld (pv 0) (pv 3) rfl)))), ?_⟩
    have c := pcR T
    refine ⟨_, rfl, _, rfl, p, CR K, dx, [], rfl, hp, c.cl, c.ng, by show 0 < 1000; decide, ?_⟩
    refine ⟨_, rfl, _, rfl, p, CR K, dx, _, rfl, upd_same, c.cl, c.nt, by show 1 < 1000; decide, ?_⟩
    refine ⟨_, rfl, _, rfl, p, CR K, dx, _, rfl, upd_same, c.cl, c.nb, ?_, ?_⟩
    · exact Nat.lt_of_le_of_lt (putF_len _ _ _) (Nat.lt_of_le_of_lt (Nat.succ_le_succ (putF_len _ _ _)) (by decide))
    · refine q _ (fun c o e hc => ?_) upd_same
      rw [upd_ne hc, upd_ne hc, upd_ne hc]
      exact e
theorem sc_Program___eq__ : FnScope ["self", "other"] ["self", "other"] (defScope (inClass (top 23) 1)) := ⟨rfl, rfl, rfl, by decide +kernel, rfl, by decide +kernel, by decide +kernel⟩
def spEqP (K : PySem.W.Frag) : Sp := fun vs H Q _ => ∃ (x y : V) (pt : Pt), vs = [x, y] ∧ Pg K H x pt ∧ Pg K H y pt ∧ ∀ H', Same H H' → Q (.bl true) H'
theorem c_eq (T : Txt K mg) : ∃ fd, FnOk P w K mg base CX0 6 (fEq K) fd ["self", "other"] (spEqP K) ∧ Binds K fd ["self", "other"] [] := by
  obtain ⟨fd, F⟩ := T.fPE
  refine ⟨fd, fn_of_m F sc_Program___eq__ (fun vs H Q E h => ?_) (fun cdv A outer s H vs Q E hr h => ?_), F.bindsN (fun _ _ _ _ _ _ us hl => match us, hl with | [_, _], _ => rfl)⟩
  · obtain ⟨x, y, pt, rfl, _⟩ := h
    rfl
  · obtain ⟨x, y, pt, rfl, ⟨C, pc, a, dx, g, t, b, rfl, hp, hg, ht, hb⟩, ⟨C', pc', a', dx', g', t', b', rfl, hp', hg', ht', hb'⟩, q⟩ := h
    refine ⟨_, (pss_cons (ps_if (pt_not (pt_val (pe_callB call_isi (by rfl) T.zisinstance bo_isi (pa_cons (pv 1) (pa_cons (pe_glob (v := .ref (CP K)) rfl T.gP rfl) pa_nil))))) (pss_one (ps_ret pe_bl)) pss_nil)
      (pss_one (ps_ret (pe_cmpR (op_eqT (n := 4) hr) (pe_tup (pa_cons (pe_fld (pv 0) rfl) (pa_cons (pe_fld (pv 0) rfl) (pa_cons (pe_fld (pv 0) rfl) pa_nil)))) (pe_tup (pa_cons (pe_fld (pv 1) rfl) (pa_cons (pe_fld (pv 1) rfl) (pa_cons (pe_fld (pv 1) rfl) pa_nil)))) (nomark _))))), ?_⟩
    refine ⟨_, rfl, _, _, _, _, true, rfl, .own _, .base (.ins hp' pc'.cl pc'.isa.ha pc'.isa.hn pc'.isa.ht pc'.isa.hm), pc'.isa.hk, true, rfl, ?_⟩
    refine ⟨_, rfl, a, C, dx, _, _, rfl, hp, pc.cl, pc.ng, flds_g _ _ _, _, rfl, a, C, dx, _, _, rfl, hp, pc.cl, pc.nt, flds_t _ _ _, _, rfl, a, C, dx, _, _, rfl, hp, pc.cl, pc.nb, flds_b _ _ _, by show 3 ≤ sizeLine; decide, fun p1 h1 => ?_⟩
    have s1 := same_upd (o := .tup [g, t, b]) h1
    have hq := s1 _ _ hp'
    refine ⟨_, rfl, a', C', dx', _, _, rfl, hq, pc'.cl, pc'.ng, flds_g _ _ _, _, rfl, a', C', dx', _, _, rfl, hq, pc'.cl, pc'.nt, flds_t _ _ _, _, rfl, a', C', dx', _, _, rfl, hq, pc'.cl, pc'.nb, flds_b _ _ _, by show 3 ≤ sizeLine; decide, fun p2 h2 => ?_⟩
    have s2 := s1.trans (same_upd (o := .tup [g', t', b']) h2)
    refine ⟨p1, p2, _, _, rfl, rfl, same_upd h2 _ _ upd_same, upd_same, ?_, fun H3 s3 => q H3 (s2.trans s3)⟩
    exact .cons (TD.up (by decide) (td_ns (hg.tk s2.tk) (hg'.tk s2.tk))) (.cons (TD.up (by decide) (td_ns (ht.tk s2.tk) (ht'.tk s2.tk))) (.cons (td_bk (hb.tk s2.tk) (hb'.tk s2.tk)) .nil))
end
end Fr
/-! ## FrProg3 -/
set_option Elab.async false
set_option linter.all false
set_option maxRecDepth 100000
set_option maxHeartbeats 4000000
/-! Places; leaving out and putting in. -/
namespace Fr
open PySem PySem.Spec PyProof.Rows L2
/-- p is a place of pt -/
def Pt.has (pt : Pt) (p : Pl) : Prop := p.k < pt.block.length ∧ ∀ j, p.j = some j → ∃ x ds, pt.block[p.k]? = some (.round x ds) ∧ j < ds.length
/-- something can be put in at p -/
def Pt.gap (pt : Pt) (p : Pl) : Prop := p.k ≤ pt.block.length ∧ ∀ j, p.j = some j → ∃ x ds, pt.block[p.k]? = some (.round x ds) ∧ j ≤ ds.length
/-- another statement at k -/
def Pt.at (pt : Pt) (k : Nat) (s : Sm) : Pt := ⟨pt.given, pt.told, (pt.block.take k ++ [s]) ++ pt.block.drop (k + 1)⟩
/-- without the statement at p -/
def Pt.cut (pt : Pt) (p : Pl) : Pt := match p.j with
  | none => ⟨pt.given, pt.told, pt.block.take p.k ++ pt.block.drop (p.k + 1)⟩
  | some j => match pt.block[p.k]? with
    | some (.round x ds) => pt.at p.k (.round x (ds.take j ++ ds.drop (j + 1)))
    | _ => pt
/-- with s ahead of what stands at p -/
def Pt.put (pt : Pt) (p : Pl) (s : Sm) : Pt := match p.j with
  | none => ⟨pt.given, pt.told, (pt.block.take p.k ++ [s]) ++ pt.block.drop p.k⟩
  | some j => match pt.block[p.k]?, s with
    | some (.round x ds), .deed d => pt.at p.k (.round x ((ds.take j ++ [d]) ++ ds.drop j))
    | _, _ => pt
theorem BkAt.len {H : Hp} {v : V} {b : List Sm} (h : BkAt H v b) : ∃ a us, v = .ref a ∧ H a = some (.tup us) ∧ Paired (SmAt H) us b ∧ us.length = b.length := let ⟨a, us, e, h1, p⟩ := h; ⟨a, us, e, h1, p, p.length⟩
theorem made_by {good : Pt → Prop} {C : Addr} {H : Hp} {x dx : Addr} {g t b : V} {pt : Pt} {Z : Hp → Prop} (nx : H x = none) (nd : H dx = none) (hg : NsAt H g pt.given) (ht : NsAt H t pt.told) (hb : BkAt H b pt.block) (ok : good pt)
    (q : ∀ H', Same H H' → PgAt C H' (.ref x) pt → Z H') : ∃ (p0 dx0 : Addr) (g0 t0 b0 : V) (pt0 : Pt), ([.ref x, g, t, b] : List V) = [.ref p0, g0, t0, b0] ∧ (upd (upd H dx (.own x)) x (.ins C dx [])) p0 = some (.ins C dx0 []) ∧
      NsAt (upd (upd H dx (.own x)) x (.ins C dx [])) g0 pt0.given ∧ NsAt (upd (upd H dx (.own x)) x (.ins C dx [])) t0 pt0.told ∧ BkAt (upd (upd H dx (.own x)) x (.ins C dx [])) b0 pt0.block ∧ good pt0 ∧
      ∀ H', (∀ c o, (upd (upd H dx (.own x)) x (.ins C dx [])) c = some o → c ≠ p0 → H' c = some o) → H' p0 = some (.ins C dx0 (flds g0 t0 b0)) → V.non = .non ∧ Z H' := by
  have s := same_made (C := C) nx nd
  refine ⟨x, dx, g, t, b, pt, rfl, upd_same, hg.tk s.tk, ht.tk s.tk, hb.tk s.tk, ok, fun H' kp h' => ⟨rfl, ?_⟩⟩
  have s' : Same H H' := Same.made nx nd kp
  exact q H' s' ⟨x, dx, g, t, b, rfl, h', hg.tk s'.tk, ht.tk s'.tk, hb.tk s'.tk⟩
section
variable {P : Program} {w : World} {K : PySem.W.Frag} {mg : Str → Option Value} {base : Heap}
theorem sc_is_place : FnScope ["program", "thing", "statement"] ["program", "thing"] (defScope (top 28)) := ⟨rfl, rfl, rfl, by decide +kernel, rfl, by decide +kernel, by decide +kernel⟩
def spIsPlace (K : PySem.W.Frag) : Sp := fun vs H Q _ => ∃ (x y : V) (pt : Pt) (p : Pl), vs = [x, y] ∧ Pg K H x pt ∧ PlAt H y p ∧ pt.has p ∧ Q (.bl true) H
theorem c_is_place (T : Txt K mg) : Cl P w K mg base 3 "is_place" ["program", "thing"] (spIsPlace K) := by
  refine cl_of T.fis_place T.gis_place sc_is_place (fun _ _ _ _ _ _ us hl => match us, hl with | [_, _], _ => rfl) (fun vs H Q E h => ?_) (fun cdv A outer s H vs Q E hr h => ?_)
  · obtain ⟨x, y, pt, p, rfl, _⟩ := h
    rfl
  · obtain ⟨x, y, pt, ⟨k, j⟩, rfl, ⟨C, pc, a, dx, g, t, b, rfl, hp, hg, ht, hb⟩, ⟨c, rfl, hc⟩, ⟨h1, h2⟩, q⟩ := h
    refine ⟨_, (pss_cons (ps_if (PW.pt (pw_or (pt_not (pt_val (pe_callB call_isi (by rfl) T.zisinstance bo_isi (pa_cons (pv 1) (pa_cons (pe_bltn (v := .ty "tuple") (by rfl) T.ztuple bo_tuple rfl) pa_nil))))) (pw_or (pt_not (pt_chain op_le op_le pe_int (pe_callB call_len_seq (by rfl) T.zlen bo_len (pa_cons (pv 1) pa_nil)) pe_int)) (pw_or1 (pt_not (pt_val (pe_f (c_is_within T) hr (pa_cons (pe_ix ix_tup (pv 1) pe_int (fun _ _ => rfl)) (pa_cons pe_int (pa_cons (pe_op op_sub (pe_callB call_len_seq (by rfl) T.zlen bo_len (pa_cons (pe_fld (pv 0) rfl) pa_nil)) pe_int) pa_nil)))))))))) (pss_one (ps_ret pe_bl)) pss_nil)
      (pss_cons (ps_if (pt_cmpR op_eq (pe_callB call_len_seq (by rfl) T.zlen bo_len (pa_cons (pv 1) pa_nil)) pe_int (nomark _)) (pss_one (ps_ret pe_bl)) pss_nil)
      (pss_cons (ps_set (i := 2) sc_is_place.nd rfl (Or.inl rfl) (pe_ix ix_tup (pe_fld (pv 0) rfl) (pe_ix ix_tup (pv 1) pe_int (fun _ _ => rfl)) (fun _ _ => rfl)))
      (pss_one (ps_ret (pe_and (pe_cmpR op_eq (pe_ix ix_tup (pv 2) pe_int (fun _ _ => rfl)) pe_str (nomark _)) (pe_one (pe_f (c_is_within T) hr (pa_cons (pe_ix ix_tup (pv 1) pe_int (fun _ _ => rfl)) (pa_cons pe_int (pa_cons (pe_op op_sub (pe_callB call_len_seq (by rfl) T.zlen bo_len (pa_cons (pe_ix ix_tup (pv 2) pe_int (fun _ _ => rfl)) pa_nil)) pe_int) pa_nil))))))))))), ?_⟩
    obtain ⟨bb, us, rfl, hbb, pr, hl⟩ := hb.len
    replace h1 : k < pt.block.length := h1
    have e1 : ((Pl.mk k j).vs)[0]? = some (.int (k : Int)) := rfl
    have n1 : (1 : Int) ≤ ((Pl.mk k j).vs.length : Int) ∧ ((Pl.mk k j).vs.length : Int) ≤ 2 := by
      cases j
      · show (1 : Int) ≤ ((1 : Nat) : Int) ∧ ((1 : Nat) : Int) ≤ 2
        decide
      · show (1 : Int) ≤ ((2 : Nat) : Int) ∧ ((2 : Nat) : Int) ≤ 2
        decide
    refine ⟨_, rfl, _, _, _, _, true, rfl, .ty _, .base (.tup hc), kit_ty kb_tt, true, rfl, _, rfl, c, _, rfl, .inr (SqT.of hc), _, _, rfl, rfl, _, rfl, ?_⟩
    rw [decide_eq_true n1.1]
    refine ⟨_, _, rfl, rfl, _, rfl, ?_⟩
    rw [decide_eq_true n1.2]
    refine ⟨_, rfl, c, _, 0, _, rfl, rfl, SqT.of hc, atI_nat (j := 0) e1, _, rfl, a, C, dx, _, _, rfl, hp, pc.cl, pc.nb, flds_b _ _ _, bb, us, rfl, .inr (SqT.of hbb), _, _, rfl, rfl, (k : Int), 0, (us.length : Int) - 1, rfl, ?_⟩
    have z : (decide ((0 : Int) ≤ (k : Int)) && decide ((k : Int) ≤ (us.length : Int) - 1)) = true := by
      rw [decide_eq_true (by omega), decide_eq_true (by omega)]
      rfl
    rw [z]
    refine ⟨_, rfl, ?_⟩
    cases j with
    | none => exact ⟨_, rfl, c, _, rfl, .inr (SqT.of hc), rfl, true, rfl, q⟩
    | some j =>
      obtain ⟨x, ds, hk, hj⟩ := h2 j rfl
      obtain ⟨u, hu, hs⟩ := pr_get pr hk
      obtain ⟨d, e, ws, rfl, hd, he, pr'⟩ := hs.round
      have hl' := pr'.length
      refine ⟨_, rfl, c, _, rfl, .inr (SqT.of hc), rfl, false, rfl, ?_⟩
      refine ⟨_, rfl, a, C, dx, _, _, rfl, hp, pc.cl, pc.nb, flds_b _ _ _, _, rfl, c, _, 0, _, rfl, rfl, SqT.of hc, atI_nat (j := 0) e1, bb, us, (k : Int), .ref d, rfl, rfl, SqT.of hbb, atI_nat hu, ?_⟩
      refine ⟨_, rfl, d, _, 0, .str "round", rfl, rfl, SqT.of hd, rfl, rfl, _, rfl, ?_⟩
      rw [round_round]
      refine ⟨_, rfl, c, _, 1, .int (j : Int), rfl, rfl, SqT.of hc, rfl, _, rfl, d, _, 2, .ref e, rfl, rfl, SqT.of hd, rfl, e, ws, rfl, .inr (SqT.of he), _, _, rfl, rfl, (j : Int), 0, (ws.length : Int) - 1, rfl, ?_⟩
      have z : (decide ((0 : Int) ≤ (j : Int)) && decide ((j : Int) ≤ (ws.length : Int) - 1)) = true := by
        rw [decide_eq_true (by omega), decide_eq_true (by omega)]
        rfl
      rw [z]
      exact q
theorem sc_check_place : FnScope ["program", "thing"] ["program", "thing"] (defScope (top 29)) := ⟨rfl, rfl, rfl, by decide +kernel, rfl, by decide +kernel, by decide +kernel⟩
def spCheckPlace (K : PySem.W.Frag) : Sp := fun vs H Q _ => ∃ (x y : V) (pt : Pt) (p : Pl), vs = [x, y] ∧ Pg K H x pt ∧ PlAt H y p ∧ pt.has p ∧ Q .non H
theorem c_check_place (T : Txt K mg) : Cl P w K mg base 4 "check_place" ["program", "thing"] (spCheckPlace K) := by
  refine cl_of T.fcheck_place T.gcheck_place sc_check_place (fun _ _ _ _ _ _ us hl => match us, hl with | [_, _], _ => rfl) (fun vs H Q E h => ?_) (fun cdv A outer s H vs Q E hr h => ?_)
  · obtain ⟨x, y, pt, p, rfl, _⟩ := h
    rfl
  · obtain ⟨x, y, pt, p, rfl, h1, h2, h3, q⟩ := h
    refine ⟨_, (pss_one (ps_if (pt_not (pt_val (pe_f (c_is_place T) hr (pa_cons (pv 0) (pa_cons (pv 1) pa_nil))))) (pss_one ps_never) pss_nil)), ?_⟩
    exact ⟨_, rfl, _, rfl, x, y, pt, p, rfl, h1, h2, h3, true, rfl, q⟩
theorem sc_with_deeds : FnScope ["program", "k", "deeds", "statement"] ["program", "k", "deeds"] (defScope (top 30)) := ⟨rfl, rfl, rfl, by decide +kernel, rfl, by decide +kernel, by decide +kernel⟩
def spWithDeeds (K : PySem.W.Frag) : Sp := fun vs H Q _ => ∃ (x u : V) (k : Nat) (pt : Pt) (y : Str) (ds0 ds : List Dd), vs = [x, .int (k : Int), u] ∧ Pg K H x pt ∧ pt.ok ∧ pt.block[k]? = some (.round y ds0) ∧ DsAt H u ds ∧
  ∀ v H', Same H H' → PgAt (CR K) H' v (pt.at k (.round y ds)) → Q v H'
theorem c_with_deeds (T : Txt K mg) : Cl P w K mg base 3 "with_deeds" ["program", "k", "deeds"] (spWithDeeds K) := by
  refine cl_of T.fwith_deeds T.gwith_deeds sc_with_deeds (fun _ _ _ _ _ _ us hl => match us, hl with | [_, _, _], _ => rfl) (fun vs H Q E h => ?_) (fun cdv A outer s H vs Q E hr h => ?_)
  · obtain ⟨x, u, k, pt, y, ds0, ds, rfl, _⟩ := h
    rfl
  · obtain ⟨x, u, k, pt, y, ds0, ds, rfl, ⟨C, pc, a, dx, g, t, b, rfl, hp, hg, ht, hb⟩, ok, hk, hu, q⟩ := h
    refine ⟨_, (pss_cons (ps_set (i := 3) sc_with_deeds.nd rfl (Or.inl rfl) (pe_tup (pa_cons pe_str (pa_cons (pe_ix ix_tup (pe_ix ix_tup (pe_fld (pv 0) rfl) (pv 1) (fun _ _ => rfl)) pe_int (fun _ _ => rfl)) (pa_cons (pv 2) pa_nil)))))
      (pss_one (ps_ret (pe_mk2 (c_RawProgram T) hr (pa_cons (pe_fld (pv 0) rfl) (pa_cons (pe_fld (pv 0) rfl) (pa_cons (pe_op op_catF (pe_op op_catF (pe_slice sl_B (pe_fld (pv 0) rfl) po_none (po_some (pv 1))) (pe_tup (pa_cons (pv 3) pa_nil))) (pe_slice sl_F (pe_fld (pv 0) rfl) (po_some (pe_op op_add (pv 1) pe_int)) po_none)) pa_nil))))))), ?_⟩
    obtain ⟨bb, us, rfl, hbb, pr, hl⟩ := hb.len
    obtain ⟨v0, hv, hs⟩ := pr_get pr hk
    obtain ⟨d, e, ws, rfl, hd, he, pr'⟩ := hs.round
    have hbl := ok.bl
    refine ⟨_, rfl, a, C, dx, _, _, rfl, hp, pc.cl, pc.nb, flds_b _ _ _, _, rfl, bb, us, (k : Int), .ref d, rfl, rfl, SqT.of hbb, atI_nat hv, d, _, 1, .str y, rfl, rfl, SqT.of hd, rfl, _, rfl, by show 3 ≤ sizeLine; decide, fun p1 n1 => ?_⟩
    have s1 := same_upd (o := .tup [.str "round", .str y, u]) n1
    refine ⟨_, rfl, a, C, dx, _, _, rfl, s1 _ _ hp, pc.cl, pc.ng, flds_g _ _ _, _, rfl, a, C, dx, _, _, rfl, s1 _ _ hp, pc.cl, pc.nt, flds_t _ _ _, _, rfl, a, C, dx, _, _, rfl, s1 _ _ hp, pc.cl, pc.nb, flds_b _ _ _, _, rfl, (k : Int), rfl, bb, us, k, rfl, rfl, rfl, s1 _ _ hbb, fun p2 H2 s2 h2 => ?_⟩
    have s12 := s1.trans s2
    refine ⟨_, rfl, by show 1 ≤ sizeLine; decide, fun p3 n3 => ⟨p2, p3, _, _, rfl, rfl, same_upd n3 _ _ h2, upd_same, lineS (by rw [List.length_take]; simp; omega), fun p4 H4 s4 h4 => ?_⟩⟩
    have s14 := (s12.trans (same_upd n3)).trans s4
    refine ⟨_, rfl, a, C, dx, _, _, rfl, s14 _ _ hp, pc.cl, pc.nb, flds_b _ _ _, _, rfl, _, _, rfl, rfl, _, rfl, bb, us, k + 1, rfl, rfl, rfl, s14 _ _ hbb, fun p5 H5 s5 h5 => ⟨p4, p5, _, _, rfl, rfl, s5 _ _ h4, h5, lineS (by rw [List.length_append, List.length_take, List.length_drop]; simp; omega), fun p6 H6 s6 h6 => ?_⟩⟩
    have s16 := (s14.trans s5).trans s6
    refine fun x dx' nx ndx nex => made_by (pt := pt.at k (.round y ds)) nx ndx (hg.tk s16.tk) (ht.tk s16.tk) ?_ trivial fun H8 s8 h8 => q _ H8 (s16.trans s8) h8
    have hsm : SmAt H6 (.ref p1) (.round y ds) := ⟨p1, u, rfl, ((((same_upd n3).trans s4).trans s5).trans s6) _ _ (s2 _ _ upd_same), hu.tk s16.tk⟩
    exact ⟨p6, _, rfl, h6, pr_app (pr_app (prSm_tk s16.tk (pr_take k pr)) (pr_one hsm)) (prSm_tk s16.tk (pr_drop (k + 1) pr))⟩
theorem sc_without : FnScope ["program", "place", "k", "deeds"] ["program", "place"] (defScope (top 31)) := ⟨rfl, rfl, rfl, by decide +kernel, rfl, by decide +kernel, by decide +kernel⟩
/-- what is handed back: a new program of these parts -/
def spRaw (K : PySem.W.Frag) (H : Hp) (Q : VK) (pt : Pt) : Prop := ∀ v H', Same H H' → PgAt (CR K) H' v pt → Q v H'
def spWithout (K : PySem.W.Frag) : Sp := fun vs H Q _ => ∃ (x y : V) (pt : Pt) (p : Pl), vs = [x, y] ∧ Pg K H x pt ∧ PlAt H y p ∧ pt.ok ∧ pt.has p ∧ spRaw K H Q (pt.cut p)
theorem c_without (T : Txt K mg) : Cl P w K mg base 4 "without" ["program", "place"] (spWithout K) := by
  refine cl_of T.fwithout T.gwithout sc_without (fun _ _ _ _ _ _ us hl => match us, hl with | [_, _], _ => rfl) (fun vs H Q E h => ?_) (fun cdv A outer s H vs Q E hr h => ?_)
  · obtain ⟨x, y, pt, p, rfl, _⟩ := h
    rfl
  · obtain ⟨x, y, pt, ⟨k, j⟩, rfl, ⟨C, pc, a, dx, g, t, b, rfl, hp, hg, ht, hb⟩, ⟨c, rfl, hc⟩, ok, ⟨h1, h2⟩, q⟩ := h
    refine ⟨_, (pss_cons (ps_set (i := 2) sc_without.nd rfl (Or.inl rfl) (pe_ix ix_tup (pv 1) pe_int (fun _ _ => rfl)))
      (pss_cons (ps_if (pt_cmpR op_eq (pe_callB call_len_seq (by rfl) T.zlen bo_len (pa_cons (pv 1) pa_nil)) pe_int (nomark _)) (pss_one (ps_ret (pe_mk2 (c_RawProgram T) hr (pa_cons (pe_fld (pv 0) rfl) (pa_cons (pe_fld (pv 0) rfl) (pa_cons (pe_op op_catF (pe_slice sl_B (pe_fld (pv 0) rfl) po_none (po_some (pv 2))) (pe_slice sl_F (pe_fld (pv 0) rfl) (po_some (pe_op op_add (pv 2) pe_int)) po_none)) pa_nil)))))) pss_nil)
      (pss_cons (ps_set (i := 3) sc_without.nd rfl (Or.inl rfl) (pe_ix ix_tup (pe_ix ix_tup (pe_fld (pv 0) rfl) (pv 2) (fun _ _ => rfl)) pe_int (fun _ _ => rfl)))
      (pss_one (ps_ret (pe_f (c_with_deeds T) hr (pa_cons (pv 0) (pa_cons (pv 2) (pa_cons (pe_op op_catF (pe_slice sl_B (pv 3) po_none (po_some (pe_ix ix_tup (pv 1) pe_int (fun _ _ => rfl)))) (pe_slice sl_F (pv 3) (po_some (pe_op op_add (pe_ix ix_tup (pv 1) pe_int (fun _ _ => rfl)) pe_int)) po_none)) pa_nil))))))))), ?_⟩
    have hb0 := hb
    obtain ⟨bb, us, rfl, hbb, pr, hl⟩ := hb.len
    replace h1 : k < pt.block.length := h1
    have hbl := ok.bl
    refine ⟨_, rfl, c, _, 0, .int (k : Int), rfl, rfl, SqT.of hc, atI_nat (j := 0) rfl, ?_⟩
    cases j with
    | none =>
      refine ⟨_, rfl, c, _, rfl, .inr (SqT.of hc), rfl, true, rfl, ?_⟩
      refine ⟨_, rfl, a, C, dx, _, _, rfl, hp, pc.cl, pc.ng, flds_g _ _ _, _, rfl, a, C, dx, _, _, rfl, hp, pc.cl, pc.nt, flds_t _ _ _, _, rfl, a, C, dx, _, _, rfl, hp, pc.cl, pc.nb, flds_b _ _ _, _, rfl, (k : Int), rfl, bb, us, k, rfl, rfl, rfl, hbb, fun p2 H2 s2 h2 => ?_⟩
      refine ⟨_, rfl, a, C, dx, _, _, rfl, s2 _ _ hp, pc.cl, pc.nb, flds_b _ _ _, _, rfl, _, _, rfl, rfl, _, rfl, bb, us, k + 1, rfl, rfl, rfl, s2 _ _ hbb, fun p3 H3 s3 h3 => ⟨p2, p3, _, _, rfl, rfl, s3 _ _ h2, h3, lineS (by rw [List.length_take, List.length_drop]; omega), fun p4 H4 s4 h4 => ?_⟩⟩
      have s14 := (s2.trans s3).trans s4
      exact fun x dx' nx ndx nex => made_by (pt := ⟨pt.given, pt.told, pt.block.take k ++ pt.block.drop (k + 1)⟩) nx ndx (hg.tk s14.tk) (ht.tk s14.tk)
        ⟨p4, _, rfl, h4, pr_app (prSm_tk s14.tk (pr_take k pr)) (prSm_tk s14.tk (pr_drop (k + 1) pr))⟩ trivial fun H8 s8 h8 => q _ H8 (s14.trans s8) h8
    | some j =>
      obtain ⟨y, ds, hk, hj⟩ := h2 j rfl
      replace hk : pt.block[k]? = some (.round y ds) := hk
      obtain ⟨v0, hv, hs⟩ := pr_get pr hk
      obtain ⟨d, e, ws, rfl, hd, he, pr'⟩ := hs.round
      have hl' := pr'.length
      have few : ds.length ≤ 16 := (ok.bk _ (List.mem_of_getElem? hk)).few
      refine ⟨_, rfl, c, _, rfl, .inr (SqT.of hc), rfl, false, rfl, ?_⟩
      refine ⟨_, rfl, a, C, dx, _, _, rfl, hp, pc.cl, pc.nb, flds_b _ _ _, _, rfl, bb, us, (k : Int), .ref d, rfl, rfl, SqT.of hbb, atI_nat hv, d, _, 2, .ref e, rfl, rfl, SqT.of hd, rfl, ?_⟩
      refine ⟨_, rfl, _, rfl, _, rfl, _, rfl, c, _, 1, .int (j : Int), rfl, rfl, SqT.of hc, rfl, (j : Int), rfl, e, ws, j, rfl, rfl, rfl, he, fun p2 H2 s2 h2 => ?_⟩
      refine ⟨_, rfl, _, rfl, c, _, 1, .int (j : Int), rfl, rfl, SqT.of (s2 _ _ hc), rfl, _, _, rfl, rfl, _, rfl, e, ws, j + 1, rfl, rfl, rfl, s2 _ _ he, fun p3 H3 s3 h3 => ⟨p2, p3, _, _, rfl, rfl, s3 _ _ h2, h3, lineS (by rw [List.length_take, List.length_drop]; omega), fun p4 H4 s4 h4 => ?_⟩⟩
      have s14 := (s2.trans s3).trans s4
      have e1 : pt.cut ⟨k, some j⟩ = pt.at k (.round y (ds.take j ++ ds.drop (j + 1))) := by
        show (match pt.block[k]? with
          | some (.round x ds) => pt.at k (.round x (ds.take j ++ ds.drop (j + 1)))
          | _ => pt) = _
        rw [hk]
      refine ⟨_, .ref p4, k, pt, y, ds, ds.take j ++ ds.drop (j + 1), rfl, Pg.same s14 ⟨C, pc, a, dx, g, t, _, rfl, hp, hg, ht, hb0⟩, ok, hk, ⟨p4, _, rfl, h4, pr_app (prDd_tk s14.tk (pr_take j pr')) (prDd_tk s14.tk (pr_drop (j + 1) pr'))⟩, fun v H8 s8 h8 => q v H8 (s14.trans s8) ?_⟩
      rw [e1]
      exact h8
theorem sc_left_out : FnScope ["program", "place"] ["program", "place"] (defScope (top 32)) := ⟨rfl, rfl, rfl, by decide +kernel, rfl, by decide +kernel, by decide +kernel⟩
theorem c_left_out (T : Txt K mg) : Cl P w K mg base 5 "left_out" ["program", "place"] (spWithout K) := by
  refine cl_of T.fleft_out T.gleft_out sc_left_out (fun _ _ _ _ _ _ us hl => match us, hl with | [_, _], _ => rfl) (fun vs H Q E h => ?_) (fun cdv A outer s H vs Q E hr h => ?_)
  · obtain ⟨x, y, pt, p, rfl, _⟩ := h
    rfl
  · obtain ⟨x, y, pt, p, rfl, h1, h2, h3, h4, q⟩ := h
    refine ⟨_, (pss_cons (ps_expr (pe_f (c_check_place T) hr (pa_cons (pv 0) (pa_cons (pv 1) pa_nil))))
      (pss_one (ps_ret (pe_f (c_without T) hr (pa_cons (pv 0) (pa_cons (pv 1) pa_nil)))))), ?_⟩
    exact ⟨_, rfl, _, rfl, x, y, pt, p, rfl, h1, h2, h4, _, rfl, _, rfl, x, y, pt, p, rfl, h1, h2, h3, h4, q⟩
theorem sc_is_gap : FnScope ["program", "thing"] ["program", "thing"] (defScope (top 33)) := ⟨rfl, rfl, rfl, by decide +kernel, rfl, by decide +kernel, by decide +kernel⟩
def spIsGap (K : PySem.W.Frag) : Sp := fun vs H Q _ => ∃ (x y : V) (pt : Pt) (p : Pl), vs = [x, y] ∧ Pg K H x pt ∧ PlAt H y p ∧ pt.gap p ∧ Q (.bl true) H
theorem c_is_gap (T : Txt K mg) : Cl P w K mg base 3 "is_gap" ["program", "thing"] (spIsGap K) := by
  refine cl_of T.fis_gap T.gis_gap sc_is_gap (fun _ _ _ _ _ _ us hl => match us, hl with | [_, _], _ => rfl) (fun vs H Q E h => ?_) (fun cdv A outer s H vs Q E hr h => ?_)
  · obtain ⟨x, y, pt, p, rfl, _⟩ := h
    rfl
  · obtain ⟨x, y, pt, ⟨k, j⟩, rfl, ⟨C, pc, a, dx, g, t, b, rfl, hp, hg, ht, hb⟩, ⟨c, rfl, hc⟩, ⟨h1, h2⟩, q⟩ := h
    refine ⟨_, (pss_cons (ps_if (PW.pt (pw_or (pt_not (pt_val (pe_callB call_isi (by rfl) T.zisinstance bo_isi (pa_cons (pv 1) (pa_cons (pe_bltn (v := .ty "tuple") (by rfl) T.ztuple bo_tuple rfl) pa_nil))))) (pw_or (pt_not (pt_chain op_le op_le pe_int (pe_callB call_len_seq (by rfl) T.zlen bo_len (pa_cons (pv 1) pa_nil)) pe_int)) (pw_or1 (pt_not (pt_val (pe_f (c_is_within T) hr (pa_cons (pe_ix ix_tup (pv 1) pe_int (fun _ _ => rfl)) (pa_cons pe_int (pa_cons (pe_callB call_len_seq (by rfl) T.zlen bo_len (pa_cons (pe_fld (pv 0) rfl) pa_nil)) pa_nil)))))))))) (pss_one (ps_ret pe_bl)) pss_nil)
      (pss_cons (ps_if (pt_cmpR op_eq (pe_callB call_len_seq (by rfl) T.zlen bo_len (pa_cons (pv 1) pa_nil)) pe_int (nomark _)) (pss_one (ps_ret pe_bl)) pss_nil)
      (pss_cons (ps_if (PW.pt (pw_or (pt_cmpR op_eq (pe_ix ix_tup (pv 1) pe_int (fun _ _ => rfl)) (pe_callB call_len_seq (by rfl) T.zlen bo_len (pa_cons (pe_fld (pv 0) rfl) pa_nil)) (nomark _)) (pw_or1 (pt_cmpR op_ne (pe_ix ix_tup (pe_ix ix_tup (pe_fld (pv 0) rfl) (pe_ix ix_tup (pv 1) pe_int (fun _ _ => rfl)) (fun _ _ => rfl)) pe_int (fun _ _ => rfl)) pe_str (nomark _))))) (pss_one (ps_ret pe_bl)) pss_nil)
      (pss_one (ps_ret (pe_f (c_is_within T) hr (pa_cons (pe_ix ix_tup (pv 1) pe_int (fun _ _ => rfl)) (pa_cons pe_int (pa_cons (pe_callB call_len_seq (by rfl) T.zlen bo_len (pa_cons (pe_ix ix_tup (pe_ix ix_tup (pe_fld (pv 0) rfl) (pe_ix ix_tup (pv 1) pe_int (fun _ _ => rfl)) (fun _ _ => rfl)) pe_int (fun _ _ => rfl)) pa_nil)) pa_nil))))))))), ?_⟩
    obtain ⟨bb, us, rfl, hbb, pr, hl⟩ := hb.len
    replace h1 : k ≤ pt.block.length := h1
    have e1 : ((Pl.mk k j).vs)[0]? = some (.int (k : Int)) := rfl
    have n1 : (1 : Int) ≤ ((Pl.mk k j).vs.length : Int) ∧ ((Pl.mk k j).vs.length : Int) ≤ 2 := by
      cases j
      · show (1 : Int) ≤ ((1 : Nat) : Int) ∧ ((1 : Nat) : Int) ≤ 2
        decide
      · show (1 : Int) ≤ ((2 : Nat) : Int) ∧ ((2 : Nat) : Int) ≤ 2
        decide
    refine ⟨_, rfl, _, _, _, _, true, rfl, .ty _, .base (.tup hc), kit_ty kb_tt, true, rfl, _, rfl, c, _, rfl, .inr (SqT.of hc), _, _, rfl, rfl, _, rfl, ?_⟩
    rw [decide_eq_true n1.1]
    refine ⟨_, _, rfl, rfl, _, rfl, ?_⟩
    rw [decide_eq_true n1.2]
    refine ⟨_, rfl, c, _, 0, _, rfl, rfl, SqT.of hc, atI_nat (j := 0) e1, _, rfl, a, C, dx, _, _, rfl, hp, pc.cl, pc.nb, flds_b _ _ _, bb, us, rfl, .inr (SqT.of hbb), (k : Int), 0, (us.length : Int), rfl, ?_⟩
    have z : (decide ((0 : Int) ≤ (k : Int)) && decide ((k : Int) ≤ (us.length : Int))) = true := by
      rw [decide_eq_true (by omega), decide_eq_true (by omega)]
      rfl
    rw [z]
    refine ⟨_, rfl, ?_⟩
    cases j with
    | none => exact ⟨_, rfl, c, _, rfl, .inr (SqT.of hc), rfl, true, rfl, q⟩
    | some j =>
      obtain ⟨x, ds, hk, hj⟩ := h2 j rfl
      replace hk : pt.block[k]? = some (.round x ds) := hk
      have hlt : k < pt.block.length := (List.getElem?_eq_some_iff.mp hk).1
      obtain ⟨u, hu, hs⟩ := pr_get pr hk
      obtain ⟨d, e, ws, rfl, hd, he, pr'⟩ := hs.round
      have hl' := pr'.length
      refine ⟨_, rfl, c, _, rfl, .inr (SqT.of hc), rfl, false, rfl, ?_⟩
      refine ⟨_, rfl, c, _, 0, _, rfl, rfl, SqT.of hc, atI_nat (j := 0) e1, _, rfl, a, C, dx, _, _, rfl, hp, pc.cl, pc.nb, flds_b _ _ _, bb, us, rfl, .inr (SqT.of hbb), rfl, _, rfl, ?_⟩
      have z : decide (V.int (k : Int) = V.int (us.length : Int)) = false := decide_eq_false fun z => by
        injection z with z
        omega
      rw [z]
      refine ⟨_, rfl, a, C, dx, _, _, rfl, hp, pc.cl, pc.nb, flds_b _ _ _, _, rfl, c, _, 0, _, rfl, rfl, SqT.of hc, atI_nat (j := 0) e1, bb, us, (k : Int), .ref d, rfl, rfl, SqT.of hbb, atI_nat hu, d, _, 0, .str "round", rfl, rfl, SqT.of hd, rfl, rfl, _, rfl, ?_⟩
      rw [round_round]
      refine ⟨_, rfl, c, _, 1, .int (j : Int), rfl, rfl, SqT.of hc, rfl, _, rfl, a, C, dx, _, _, rfl, hp, pc.cl, pc.nb, flds_b _ _ _, _, rfl, c, _, 0, _, rfl, rfl, SqT.of hc, atI_nat (j := 0) e1, bb, us, (k : Int), .ref d, rfl, rfl, SqT.of hbb, atI_nat hu, d, _, 2, .ref e, rfl, rfl, SqT.of hd, rfl, e, ws, rfl, .inr (SqT.of he), (j : Int), 0, (ws.length : Int), rfl, ?_⟩
      have z : (decide ((0 : Int) ≤ (j : Int)) && decide ((j : Int) ≤ (ws.length : Int))) = true := by
        rw [decide_eq_true (by omega), decide_eq_true (by omega)]
        rfl
      rw [z]
      exact q
theorem sc_put_in : FnScope ["program", "place", "statement", "k", "deeds"] ["program", "place", "statement"] (defScope (top 34)) := ⟨rfl, rfl, rfl, by decide +kernel, rfl, by decide +kernel, by decide +kernel⟩
/-- a statement at a place (k,), a deed at a place (k, j) -/
def Fits (p : Pl) (s : Sm) : Prop := ∀ j, p.j = some j → ∃ d, s = .deed d
def spPut (K : PySem.W.Frag) : Sp := fun vs H Q _ => ∃ (x y z : V) (pt : Pt) (p : Pl) (s : Sm), vs = [x, y, z] ∧ Pg K H x pt ∧ PlAt H y p ∧ SmAt H z s ∧ pt.ok ∧ s.ok ∧ pt.gap p ∧ Fits p s ∧ spRaw K H Q (pt.put p s)
theorem SmAt.head {H : Hp} {v : V} {s : Sm} (h : SmAt H v s) : ∃ a xs x0, v = .ref a ∧ H a = some (.tup xs) ∧ xs[0]? = some (.str x0) ∧ (decide (V.str x0 = V.str "round") = match s with
    | .deed _ => false
    | .round _ _ => true) := by
  cases s with
  | deed d =>
    obtain ⟨a, rfl, ha⟩ := h.deed
    exact ⟨a, _, d.kind, rfl, ha, rfl, d.kind_round⟩
  | round x ds =>
    obtain ⟨a, b, us, rfl, ha, hb, _⟩ := h.round
    exact ⟨a, _, "round", rfl, ha, rfl, round_round⟩
theorem c_put_in (T : Txt K mg) : Cl P w K mg base 4 "put_in" ["program", "place", "statement"] (spPut K) := by
  obtain ⟨tk, hMost⟩ := T.most
  refine cl_of T.fput_in T.gput_in sc_put_in (fun _ _ _ _ _ _ us hl => match us, hl with | [_, _, _], _ => rfl) (fun vs H Q E h => ?_) (fun cdv A outer s H vs Q E hr h => ?_)
  · obtain ⟨x, y, z, pt, p, s, rfl, _⟩ := h
    rfl
  · obtain ⟨x, y, z, pt, ⟨k, j⟩, st, rfl, ⟨C, pc, a, dx, g, t, b, rfl, hp, hg, ht, hb⟩, ⟨c, rfl, hc⟩, hst, ok, oks, ⟨h1, h2⟩, fit, q⟩ := h
    refine ⟨_, (pss_cons (ps_if (pt_not (pt_val (pe_f (c_is_gap T) hr (pa_cons (pv 0) (pa_cons (pv 1) pa_nil))))) (pss_one ps_never) pss_nil)
      (pss_cons (ps_if (PW.pt (pw_or (pt_not (pt_val (pe_f (c_is_statement T) hr (pa_cons (pv 2) pa_nil)))) (pw_or1 (PW.pt (pw_and (pt_cmpR op_eq (pe_callB call_len_seq (by rfl) T.zlen bo_len (pa_cons (pv 1) pa_nil)) pe_int (nomark _)) (pw_and1 (pt_cmpR op_eq (pe_ix ix_tup (pv 2) pe_int (fun _ _ => rfl)) pe_str (nomark _)))))))) (pss_one ps_never) pss_nil)
      (pss_cons (ps_set (i := 3) sc_put_in.nd rfl (Or.inl rfl) (pe_ix ix_tup (pv 1) pe_int (fun _ _ => rfl)))
      (pss_cons (ps_if (pt_cmpR op_gt (pe_op op_add (pe_f (c_size_of T) hr (pa_cons (pe_fld (pv 0) rfl) pa_nil)) (pe_f (c_size_of T) hr (pa_cons (pe_tup (pa_cons (pv 2) pa_nil)) pa_nil))) (pe_glob (v := .int 5000) rfl hMost ⟨_, rfl⟩) (nomark _)) (pss_one ps_never) pss_nil)
      (pss_cons (ps_if (pt_cmpR op_eq (pe_callB call_len_seq (by rfl) T.zlen bo_len (pa_cons (pv 1) pa_nil)) pe_int (nomark _)) (pss_one (ps_ret (pe_mk2 (c_RawProgram T) hr (pa_cons (pe_fld (pv 0) rfl) (pa_cons (pe_fld (pv 0) rfl) (pa_cons (pe_op op_catF (pe_op op_catF (pe_slice sl_B (pe_fld (pv 0) rfl) po_none (po_some (pv 3))) (pe_tup (pa_cons (pv 2) pa_nil))) (pe_slice sl_F (pe_fld (pv 0) rfl) (po_some (pv 3)) po_none)) pa_nil)))))) pss_nil)
      (pss_cons (ps_set (i := 4) sc_put_in.nd rfl (Or.inl rfl) (pe_ix ix_tup (pe_ix ix_tup (pe_fld (pv 0) rfl) (pv 3) (fun _ _ => rfl)) pe_int (fun _ _ => rfl)))
      (pss_one (ps_ret (pe_f (c_with_deeds T) hr (pa_cons (pv 0) (pa_cons (pv 3) (pa_cons (pe_op op_catF (pe_op op_catF (pe_slice sl_B (pv 4) po_none (po_some (pe_ix ix_tup (pv 1) pe_int (fun _ _ => rfl)))) (pe_tup (pa_cons (pv 2) pa_nil))) (pe_slice sl_F (pv 4) (po_some (pe_ix ix_tup (pv 1) pe_int (fun _ _ => rfl))) po_none)) pa_nil)))))))))))), ?_⟩
    have hb0 := hb
    obtain ⟨bb, us, rfl, hbb, pr, hl⟩ := hb.len
    replace h1 : k ≤ pt.block.length := h1
    have hbl := ok.bl
    obtain ⟨sa, sxs, sx, rfl, hsa, hsx, hsk⟩ := hst.head
    refine ⟨_, rfl, _, rfl, _, _, pt, ⟨k, j⟩, rfl, ⟨C, pc, a, dx, g, t, _, rfl, hp, hg, ht, hb0⟩, ⟨c, rfl, hc⟩, ⟨h1, h2⟩, true, rfl, ?_⟩
    refine ⟨_, rfl, _, st, rfl, hst, oks, fun H1 s1 => ⟨true, rfl, ?_⟩⟩
    -- len(place) == 2 and statement[0] == 'round' : no
    have next : ∀ {A B : Prop}, B → (if false = true then A else B) := fun h => iteF h
    have sum2 : (bsz pt.block).sum + (bsz [st]).sum ≤ 2000 := by
      have z1 := bsz_le ok.bk
      have z2 := bsz_le (b := [st]) (by simpa using oks)
      simp at z2
      omega
    have mid : ∀ (R : Prop), (∀ H3, Same H H3 → R) → R := fun R h => h H1 s1
    refine ⟨_, rfl, c, _, rfl, .inr (SqT.of (s1 _ _ hc)), rfl, _, rfl, ?_⟩
    cases j with
    | none =>
      refine ⟨_, rfl, c, _, 0, .int (k : Int), rfl, rfl, SqT.of (s1 _ _ hc), rfl, ?_⟩
      refine ⟨_, rfl, a, C, dx, _, _, rfl, s1 _ _ hp, pc.cl, pc.nb, flds_b _ _ _, _, pt.block, rfl, hb0.tk s1.tk, by omega, fun H2 s2 => ?_⟩
      have s12 := s1.trans s2
      refine ⟨_, rfl, by show 1 ≤ sizeLine; decide, fun p1 n1 => ?_⟩
      have s13 := s12.trans (same_upd (o := .tup [.ref sa]) n1)
      refine ⟨_, [st], rfl, ⟨p1, _, rfl, upd_same, pr_one (hst.tk s13.tk)⟩, by simp, fun H4 s4 => ⟨_, _, rfl, rfl, _, _, rfl, rfl, _, rfl, ?_⟩⟩
      have s14 := s13.trans s4
      rw [decide_eq_false (by omega)]
      refine ⟨_, rfl, c, _, rfl, .inr (SqT.of (s14 _ _ hc)), rfl, true, rfl, ?_⟩
      refine ⟨_, rfl, a, C, dx, _, _, rfl, s14 _ _ hp, pc.cl, pc.ng, flds_g _ _ _, _, rfl, a, C, dx, _, _, rfl, s14 _ _ hp, pc.cl, pc.nt, flds_t _ _ _, _, rfl, a, C, dx, _, _, rfl, s14 _ _ hp, pc.cl, pc.nb, flds_b _ _ _, _, rfl, (k : Int), rfl, bb, us, k, rfl, rfl, rfl, s14 _ _ hbb, fun p2 H5 s5 h5 => ?_⟩
      have s15 := s14.trans s5
      refine ⟨_, rfl, by show 1 ≤ sizeLine; decide, fun p3 n3 => ⟨p2, p3, _, _, rfl, rfl, same_upd n3 _ _ h5, upd_same, lineS (by rw [List.length_take]; simp; omega), fun p4 H6 s6 h6 => ?_⟩⟩
      have s16 := (s15.trans (same_upd n3)).trans s6
      refine ⟨_, rfl, a, C, dx, _, _, rfl, s16 _ _ hp, pc.cl, pc.nb, flds_b _ _ _, _, rfl, (k : Int), rfl, bb, us, k, rfl, rfl, rfl, s16 _ _ hbb, fun p5 H7 s7 h7 => ⟨p4, p5, _, _, rfl, rfl, s7 _ _ h6, h7, lineS (by rw [List.length_append, List.length_take, List.length_drop]; simp; omega), fun p6 H8 s8 h8 => ?_⟩⟩
      have s18 := (s16.trans s7).trans s8
      exact fun x dx' nx ndx nex => made_by (pt := ⟨pt.given, pt.told, (pt.block.take k ++ [st]) ++ pt.block.drop k⟩) nx ndx (hg.tk s18.tk) (ht.tk s18.tk)
        ⟨p6, _, rfl, h8, pr_app (pr_app (prSm_tk s18.tk (pr_take k pr)) (pr_one (hst.tk s18.tk))) (prSm_tk s18.tk (pr_drop k pr))⟩ trivial fun H9 s9 h9 => q _ H9 (s18.trans s9) h9
    | some j =>
      obtain ⟨dd, rfl⟩ := fit j rfl
      obtain ⟨y, ds, hk, hj⟩ := h2 j rfl
      replace hk : pt.block[k]? = some (.round y ds) := hk
      obtain ⟨v0, hv, hs⟩ := pr_get pr hk
      obtain ⟨d, e, ws, rfl, hd, he, pr'⟩ := hs.round
      have hl' := pr'.length
      have few : ds.length ≤ 16 := (ok.bk _ (List.mem_of_getElem? hk)).few
      refine ⟨_, rfl, sa, _, 0, _, rfl, rfl, SqT.of (s1 _ _ hsa), atI_nat (j := 0) hsx, rfl, _, rfl, ?_⟩
      rw [hsk]
      refine ⟨_, rfl, c, _, 0, .int (k : Int), rfl, rfl, SqT.of (s1 _ _ hc), rfl, ?_⟩
      refine ⟨_, rfl, a, C, dx, _, _, rfl, s1 _ _ hp, pc.cl, pc.nb, flds_b _ _ _, _, pt.block, rfl, hb0.tk s1.tk, by omega, fun H2 s2 => ?_⟩
      have s12 := s1.trans s2
      refine ⟨_, rfl, by show 1 ≤ sizeLine; decide, fun p1 n1 => ?_⟩
      have s13 := s12.trans (same_upd (o := .tup [.ref sa]) n1)
      refine ⟨_, [.deed dd], rfl, ⟨p1, _, rfl, upd_same, pr_one (hst.tk s13.tk)⟩, by simp, fun H4 s4 => ⟨_, _, rfl, rfl, _, _, rfl, rfl, _, rfl, ?_⟩⟩
      have s14 := s13.trans s4
      rw [decide_eq_false (by omega)]
      refine ⟨_, rfl, c, _, rfl, .inr (SqT.of (s14 _ _ hc)), rfl, false, rfl, ?_⟩
      refine ⟨_, rfl, a, C, dx, _, _, rfl, s14 _ _ hp, pc.cl, pc.nb, flds_b _ _ _, _, rfl, bb, us, (k : Int), .ref d, rfl, rfl, SqT.of (s14 _ _ hbb), atI_nat hv, d, _, 2, .ref e, rfl, rfl, SqT.of (s14 _ _ hd), rfl, ?_⟩
      refine ⟨_, rfl, _, rfl, _, rfl, _, rfl, c, _, 1, .int (j : Int), rfl, rfl, SqT.of (s14 _ _ hc), rfl, (j : Int), rfl, e, ws, j, rfl, rfl, rfl, s14 _ _ he, fun p2 H5 s5 h5 => ?_⟩
      have s15 := s14.trans s5
      refine ⟨_, rfl, by show 1 ≤ sizeLine; decide, fun p3 n3 => ⟨p2, p3, _, _, rfl, rfl, same_upd n3 _ _ h5, upd_same, lineS (by rw [List.length_take]; simp; omega), fun p4 H6 s6 h6 => ?_⟩⟩
      have s16 := (s15.trans (same_upd n3)).trans s6
      refine ⟨_, rfl, _, rfl, c, _, 1, .int (j : Int), rfl, rfl, SqT.of (s16 _ _ hc), rfl, (j : Int), rfl, e, ws, j, rfl, rfl, rfl, s16 _ _ he, fun p5 H7 s7 h7 => ⟨p4, p5, _, _, rfl, rfl, s7 _ _ h6, h7, lineS (by rw [List.length_append, List.length_take, List.length_drop]; simp; omega), fun p6 H8 s8 h8 => ?_⟩⟩
      have s18 := (s16.trans s7).trans s8
      have e1 : pt.put ⟨k, some j⟩ (.deed dd) = pt.at k (.round y ((ds.take j ++ [dd]) ++ ds.drop j)) := by
        show (match pt.block[k]?, Sm.deed dd with
          | some (.round x ds), .deed d => pt.at k (.round x ((ds.take j ++ [d]) ++ ds.drop j))
          | _, _ => pt) = _
        rw [hk]
      have hdd : DdAt H (.ref sa) dd := hst
      refine ⟨_, .ref p6, k, pt, y, ds, (ds.take j ++ [dd]) ++ ds.drop j, rfl, Pg.same s18 ⟨C, pc, a, dx, g, t, _, rfl, hp, hg, ht, hb0⟩, ok, hk, ⟨p6, _, rfl, h8, pr_app (pr_app (prDd_tk s18.tk (pr_take j pr')) (pr_one (hdd.tk s18.tk))) (prDd_tk s18.tk (pr_drop j pr'))⟩, fun v H9 s9 h9 => q v H9 (s18.trans s9) ?_⟩
      rw [e1]
      exact h9
end
end Fr
/-! ## FrLaw1 -/
set_option Elab.async false
set_option linter.all false
set_option maxRecDepth 100000
set_option maxHeartbeats 4000000
/-! The law's own draws. -/
namespace Fr
open PySem PySem.Spec PyProof.Rows L2
/-- the hand stands at h -/
def Hand (H : Hp) (h : Addr) : Prop := ∃ (c : Addr) (ns : List Int) (i big acc n : Int), H h = some (.lst [.ref c, .int i, .int big, .int acc, .int n]) ∧ H c = some (.lst (ns.map .int)) ∧ 0 ≤ i
/-- what happens while something is drawn: all but the hand stands -/
structure Go (h : Addr) (H H' : Hp) : Prop where
  a : Hand H h
  b : Hand H' h
  f : ∀ c o, H c = some o → c ≠ h → H' c = some o
  s : ∀ c r, H h = some (.lst (.ref c :: r)) → ∃ r', H' h = some (.lst (.ref c :: r'))
theorem Hand.same {H H' : Hp} {h : Addr} (x : Hand H h) (s : Same H H') : Hand H' h := let ⟨c, ns, i, big, acc, n, h1, h2, h3⟩ := x; ⟨c, ns, i, big, acc, n, s _ _ h1, s _ _ h2, h3⟩
theorem Go.refl {H : Hp} {h : Addr} (x : Hand H h) : Go h H H := ⟨x, x, fun _ _ e _ => e, fun _ r e => ⟨r, e⟩⟩
theorem Go.same {H H' : Hp} {h : Addr} (x : Hand H h) (s : Same H H') : Go h H H' := ⟨x, x.same s, fun _ _ e _ => s _ _ e, fun _ r e => ⟨r, s _ _ e⟩⟩
theorem Go.trans {H H1 H2 : Hp} {h : Addr} (x : Go h H H1) (y : Go h H1 H2) : Go h H H2 := ⟨x.a, y.b, fun c o e n => y.f c o (x.f c o e n) n, fun c r e => let ⟨_, e1⟩ := x.s c r e; y.s c _ e1⟩
theorem Go.then {H H1 H2 : Hp} {h : Addr} (x : Go h H H1) (s : Same H1 H2) : Go h H H2 := x.trans (.same x.b s)
theorem Go.tk {H H' : Hp} {h : Addr} (g : Go h H H') : Tk H H' := fun a xs e => by
  obtain ⟨c, ns, i, big, acc, n, h1, h2, h3⟩ := g.a
  exact g.f a _ e (ne_of e h1 (by intro z; cases z))
theorem Go.ins {H H' : Hp} {h a C dx : Addr} {fs : List (Str × V)} (g : Go h H H') (e : H a = some (.ins C dx fs)) : H' a = some (.ins C dx fs) := by
  obtain ⟨c, ns, i, big, acc, n, h1, h2, h3⟩ := g.a
  exact g.f a _ e (ne_of e h1 (by intro z; cases z))
theorem Go.strs {H H' : Hp} {h a : Addr} {ns : List Str} (g : Go h H H') (e : H a = some (.lst (ns.map .str))) : H' a = some (.lst (ns.map .str)) := by
  obtain ⟨c, ms, i, big, acc, n, h1, h2, h3⟩ := g.a
  refine g.f a _ e (ne_of e h1 fun z => ?_)
  injection z with z
  cases ns with
  | nil => cases z
  | cons x r =>
    rw [List.map_cons] at z
    injection z with z _
    cases z
theorem Go.free {H H' : Hp} {h a : Addr} (g : Go h H H') (e : H' a = none) : H a = none := by
  cases q : H a with
  | none => rfl
  | some o =>
    by_cases z : a = h
    · obtain ⟨c, ns, i, big, acc, n, h1, _⟩ := g.b
      rw [z, h1] at e
      cases e
    · rw [g.f a o q z] at e
      cases e
/-- what is not in H may be written -/
theorem Go.grow {H H1 : Hp} {h p : Addr} {o : HO} (g : Go h H H1) (hp : H p = none) : Go h H (upd H1 p o) := by
  obtain ⟨c, ns, i, big, acc, n, h1, h2, h3⟩ := g.a
  have hh : h ≠ p := ne_of_none h1 hp
  have hc : c ≠ p := ne_of_none h2 hp
  have hne : c ≠ h := ne_of h2 h1 (fun z => by cases ns <;> simp at z)
  refine ⟨g.a, ?_, fun b u e n => by rw [upd_ne (ne_of_none e hp)]; exact g.f b u e n, fun b r e => by rw [upd_ne hh]; exact g.s b r e⟩
  obtain ⟨c', ns', i', big', acc', n', e1, e2, e3⟩ := g.b
  obtain ⟨r, e4⟩ := g.s c _ h1
  rw [e1] at e4
  cases e4
  exact ⟨c, ns', i', big', acc', n', by rw [upd_ne hh]; exact e1, by rw [upd_ne hc]; exact e2, e3⟩
theorem Go.lst {H H' : Hp} {h l : Addr} {xs : List V} (g : Go h H H') (e : H l = some (.lst xs)) (n : l ≠ h) : H' l = some (.lst xs) := g.f l _ e n
theorem Hand.ne {H : Hp} {h a : Addr} (x : Hand H h) (e : H a = none) : a ≠ h := by
  obtain ⟨c, ns, i, big, acc, n, h1, _⟩ := x
  exact (ne_of_none h1 e).symm
theorem Pg.go {K : PySem.W.Frag} {H H' : Hp} {h : Addr} {v : V} {p : Pt} (g : Go h H H') (x : Pg K H v p) : Pg K H' v p :=
  let ⟨C, pc, a, dx, g0, t, b, e, q, h1, h2, h3⟩ := x; ⟨C, pc, a, dx, g0, t, b, e, g.ins q, h1.tk g.tk, h2.tk g.tk, h3.tk g.tk⟩
theorem PgAt.go {C : Addr} {H H' : Hp} {h : Addr} {v : V} {p : Pt} (g : Go h H H') (x : PgAt C H v p) : PgAt C H' v p :=
  let ⟨a, dx, g0, t, b, e, q, h1, h2, h3⟩ := x; ⟨a, dx, g0, t, b, e, g.ins q, h1.tk g.tk, h2.tk g.tk, h3.tk g.tk⟩
/-- what holds between two statements -/
theorem cut_seq {t u : TS} {D : Ends} {σ : L2.St} {H : Hp} (Pv : L2.St → Hp → Prop) (h2 : ∀ σ' H', Pv σ' H' → u D σ' H') (h1 : ∀ N : L2.St → Hp → Prop, (∀ σ' H', Pv σ' H' → N σ' H') → t { D with nx := N } σ H) : tSeq t u D σ H := h1 _ h2
section
variable {P : Program} {w : World} {K : PySem.W.Frag} {mg : Str → Option Value} {base : Heap}
theorem sc__law_hand : FnScope ["_law_script", "_law_cells", "_law_cell"] ["_law_script"] (defScope (top 53)) := ⟨rfl, rfl, rfl, by decide +kernel, rfl, by decide +kernel, by decide +kernel⟩
def spHand (K : PySem.W.Frag) : Sp := fun vs H Q _ => ∃ (a : Addr) (ns : List Int), vs = [.ref a] ∧ SqL K H a (ns.map .int) ∧ ns.length ≤ 63 ∧ ∀ h H', Same H H' → Hand H' h → Q (.ref h) H'
theorem c__law_hand (T : Txt K mg) : Cl P w K mg base 1 "_law_hand" ["_law_script"] (spHand K) := by
  refine cl_of T.f_law_hand T.g_law_hand sc__law_hand (fun _ _ _ _ _ _ us hl => match us, hl with | [_], _ => rfl) (fun vs H Q E h => ?_) (fun cdv A outer s H vs Q E hr h => ?_)
  · obtain ⟨a, ns, rfl, _⟩ := h
    rfl
  · obtain ⟨a, ns, rfl, ha, hl, q⟩ := h
    refine ⟨_, (pss_cons (ps_setLc (i := 1) (own := [("_law_cell", 2)]) (g := gName 2) (tt := tYes) rfl sc__law_hand.nd rfl rfl (sw_true rfl rfl rfl (by decide +kernel)) (pi_list (pe_slice sl_list (pv 0) po_none (po_some pe_int))) (blkOk_by (own := [("_law_cell", 2)]) (N := ["_law_script", "_law_cells", "_law_cell"]) (sc := defScope (top 53)) (by decide +kernel)) (fun _ _ _ _ _ => pg_name (i := 2) sc__law_hand.nd rfl (Or.inl rfl)) (fun _ _ _ _ _ => pts_nil) (fun _ _ _ _ _ => (pe_callB call_abs (by rfl) T.zabs bo_abs (pa_cons (pe_callTy call_int1 (by rfl) T.zint bo_int (pa_cons (pv 2) pa_nil)) pa_nil))))
      (pss_one (ps_ret (pe_lst (pa_cons (pv 1) (pa_cons pe_int (pa_cons pe_int (pa_cons (pe_op op_add pe_int (pe_callB call_len_seq (by rfl) T.zlen bo_len (pa_cons (pv 1) pa_nil))) (pa_cons pe_int pa_nil))))))))), ?_⟩
    refine ⟨_, rfl, 63, rfl, a, _, rfl, ha, fun t nt => ?_⟩
    have s1 := same_upd (o := .lst (cutV (ns.map V.int) none (some 63))) nt
    have ec : cutV (ns.map V.int) none (some 63) = (ns.take 63).map V.int := by
      have := cut_to (ns.map V.int) 63
      rw [List.map_take]
      exact this
    rw [ec] at s1 ⊢
    refine ⟨t, rfl, ⟨_, SqL.of upd_same⟩, fun D nD => lc_list (K := K) (a := t) (xs := (ns.take 63).map V.int)
      (fun i H1 => Same (upd H t (.lst ((ns.take 63).map V.int))) H1 ∧ ∃ ms : List Int, ms.length = i ∧ H1 D = some (.lst (ms.map .int))) ⟨same_upd nD, [], rfl, upd_same⟩ (fun i H1 _ h => SqL.of (h.1 _ _ upd_same)) ?_ ?_⟩
    · rintro i u H1 hi ⟨s2, ms, m1, m2⟩
      obtain ⟨z, rfl⟩ : ∃ z, u = V.int z := by
        rw [List.getElem?_map] at hi
        obtain ⟨z, _, e⟩ := Option.map_eq_some_iff.mp hi
        exact ⟨z, e.symm⟩
      have hi2 : i < ((ns.take 63).map V.int).length := (List.getElem?_eq_some_iff.mp hi).1
      rw [List.length_map, List.length_take] at hi2
      refine ⟨rfl, _, rfl, .inl ⟨z, rfl, _, rfl, _, m2, lineL (by rw [List.length_map]; omega), same_grow nD s2, ms ++ [if z < 0 then -z else z], by simp [m1], ?_⟩⟩
      rw [upd_same]
      simp
    · rintro H1 ⟨s2, ms, m1, m2⟩
      refine ⟨_, rfl, _, rfl, D, _, rfl, .inl (SqL.of m2), _, _, rfl, rfl, by show 5 ≤ sizeLine; decide, fun h nh => ?_⟩
      have s3 := same_upd (o := .lst [.ref D, .int 0, .int 0, .int (1 + ((ms.map V.int).length : Int)), .int 0]) nh
      exact q h _ ((s1.trans s2).trans s3) ⟨D, ms, 0, 0, _, 0, upd_same, s3 _ _ m2, Int.le_refl _⟩
theorem sc__law_draw : FnScope ["_law_hand_here", "_law_many", "_law_cell", "_law_digit", "_law_number"] ["_law_hand_here", "_law_many"] (defScope (top 54)) := ⟨rfl, rfl, rfl, by decide +kernel, rfl, by decide +kernel, by decide +kernel⟩
def spDraw : Sp := fun vs H Q _ => ∃ (h : Addr) (m : Int), vs = [.ref h, .int m] ∧ Hand H h ∧ 1 ≤ m ∧ m < 1073741824 ∧ ∀ (k : Nat) H', (k : Int) < m → Go h H H' → Q (.int k) H'
theorem mod_nat {x m : Int} (h : 0 < m) : ∃ k : Nat, x % m = (k : Int) ∧ (k : Int) < m := by
  have h1 := Int.emod_nonneg x (by omega : m ≠ 0)
  have h2 := Int.emod_lt_of_pos x h
  exact ⟨(x % m).toNat, by omega, by omega⟩
/-- the hand with other numbers in it -/
theorem hand_set {H0 H : Hp} {h c : Addr} {ns : List Int} {i big acc n : Int} (a : Hand H0 h) (f : ∀ c o, H0 c = some o → c ≠ h → H c = some o) (e : H h = some (.lst [.ref c, .int i, .int big, .int acc, .int n])) (e2 : H c = some (.lst (ns.map .int))) (hi : 0 ≤ i) (z : ∃ r, H0 h = some (.lst (.ref c :: r))) : Go h H0 H :=
  ⟨a, ⟨c, ns, i, big, acc, n, e, e2, hi⟩, f, fun c' r e' => by
    obtain ⟨r', z⟩ := z
    rw [z] at e'
    cases e'
    exact ⟨_, e⟩⟩
theorem c__law_draw (T : Txt K mg) : Cl P w K mg base 1 "_law_draw" ["_law_hand_here", "_law_many"] spDraw := by
  refine cl_of T.f_law_draw T.g_law_draw sc__law_draw (fun _ _ _ _ _ _ us hl => match us, hl with | [_, _], _ => rfl) (fun vs H Q E h => ?_) (fun cdv A outer s H vs Q E hr h => ?_)
  · obtain ⟨h, m, rfl, _⟩ := h
    rfl
  · obtain ⟨h, m, rfl, hh, m1, m2, q⟩ := h
    refine ⟨_, (pss_cons (ps_if (PW.pt (pw_and (pt_cmpR op_eq (pe_ix ix_list (pv 0) pe_int (fun _ _ => rfl)) pe_int (nomark _)) (pw_and1 (pt_cmpR op_lt (pe_ix ix_list (pv 0) pe_int (fun _ _ => rfl)) (pe_callB call_len_seq (by rfl) T.zlen bo_len (pa_cons (pe_ix ix_list (pv 0) pe_int (fun _ _ => rfl)) pa_nil)) (nomark _))))) (pss_cons (ps_set (i := 2) sc__law_draw.nd rfl (Or.inl rfl) (pe_ix ix_list (pe_ix ix_list (pv 0) pe_int (fun _ _ => rfl)) (pe_ix ix_list (pv 0) pe_int (fun _ _ => rfl)) (fun _ _ => rfl)))
      (pss_cons (ps_asg (pe_op op_add (pe_ix ix_list (pv 0) pe_int (fun _ _ => rfl)) pe_int) (pg_sub (pv 0) pe_int set_list))
      (pss_cons (ps_asg (pe_op op_mod (pe_callTy call_int1 (by rfl) T.zint bo_int (pa_cons (pe_op op_add (pe_op op_add (pe_op op_mul (pe_ix ix_list (pv 0) pe_int (fun _ _ => rfl)) pe_int) (pv 2)) pe_int) pa_nil)) pe_int) (pg_sub (pv 0) pe_int set_list))
      (pss_one (ps_if (pt_cmpR op_ge (pv 2) (pe_op op_pow pe_int pe_int) (nomark _)) (pss_one (ps_asg (pv 2) (pg_sub (pv 0) pe_int set_list))) pss_nil))))) pss_nil)
      (pss_cons (ps_if (pt_cmpR op_gt (pe_ix ix_list (pv 0) pe_int (fun _ _ => rfl)) pe_int (nomark _)) (pss_cons (ps_set (i := 3) sc__law_draw.nd rfl (Or.inl rfl) (pe_op op_mod (pe_callTy call_int1 (by rfl) T.zint bo_int (pa_cons (pe_ix ix_list (pv 0) pe_int (fun _ _ => rfl)) pa_nil)) (pv 1)))
      (pss_cons (ps_asg (pe_op op_fdiv (pe_ix ix_list (pv 0) pe_int (fun _ _ => rfl)) (pv 1)) (pg_sub (pv 0) pe_int set_list))
      (pss_one (ps_ret (pv 3))))) pss_nil)
      (pss_cons (ps_asg (pe_op op_add (pe_ix ix_list (pv 0) pe_int (fun _ _ => rfl)) pe_int) (pg_sub (pv 0) pe_int set_list))
      (pss_cons (ps_set (i := 4) sc__law_draw.nd rfl (Or.inl rfl) (pe_op op_mod (pe_callTy call_int1 (by rfl) T.zint bo_int (pa_cons (pe_op op_mul (pe_callTy call_int1 (by rfl) T.zint bo_int (pa_cons (pe_op op_add (pe_ix ix_list (pv 0) pe_int (fun _ _ => rfl)) (pe_op op_mul pe_int (pe_ix ix_list (pv 0) pe_int (fun _ _ => rfl)))) pa_nil)) pe_int) pa_nil)) pe_int))
      (pss_cons (ps_set (i := 4) sc__law_draw.nd rfl (Or.inl rfl) (pe_op op_mod (pe_callTy call_int1 (by rfl) T.zint bo_int (pa_cons (pe_op op_mul (pv 4) (pe_op op_add (pe_op op_fdiv (pv 4) pe_int) pe_int)) pa_nil)) pe_int))
      (pss_cons (ps_set (i := 4) sc__law_draw.nd rfl (Or.inl rfl) (pe_op op_mod (pe_callTy call_int1 (by rfl) T.zint bo_int (pa_cons (pe_op op_mul (pv 4) (pe_op op_add (pe_op op_fdiv (pv 4) pe_int) pe_int)) pa_nil)) pe_int))
      (pss_one (ps_ret (pe_op op_mod (pe_callTy call_int1 (by rfl) T.zint bo_int (pa_cons (pe_op op_fdiv (pv 4) pe_int) pa_nil)) (pv 1)))))))))), ?_⟩
    have hm : 0 < m := by omega
    refine cut_seq (fun σ H1 => ∃ v1 v2 v3, σ = [some (.ref h), some (.int m), v1, v2, v3] ∧ Go h H H1) ?_ ?_
    · rintro σ H1 ⟨v1, v2, v3, rfl, g⟩
      obtain ⟨c, ns, i, big, acc, n, e, e2, hi⟩ := g.b
      have hne : c ≠ h := ne_of e2 e (fun z => by cases ns <;> simp at z)
      refine ⟨_, rfl, h, _, 2, .int big, rfl, rfl, SqL.of e, rfl, _, _, rfl, rfl, _, rfl, ?_⟩
      by_cases hb : 0 < big
      · rw [decide_eq_true hb]
        refine ⟨_, rfl, h, _, 2, .int big, rfl, rfl, SqL.of e, rfl, .inl ⟨big, rfl, _, rfl, big, m, rfl, rfl, hm, ?_⟩⟩
        obtain ⟨k, ek, hk⟩ := mod_nat (x := big) hm
        show gName 3 (V.int (big % m)) _ _ _
        rw [ek]
        refine ⟨_, rfl, h, _, 2, .int big, rfl, rfl, SqL.of e, rfl, _, rfl, big, m, rfl, rfl, ⟨hm, m2⟩, _, rfl, h, _, 2, 2, rfl, rfl, e, rfl, _, rfl, ?_⟩
        exact q k _ hk (g.trans (hand_set (h := h) (c := c) (ns := ns) (i := i) (big := big / m) (acc := acc) (n := n) g.b (fun c' o e' n' => by rw [upd_ne n']; exact e') upd_same (by rw [upd_ne hne]; exact e2) hi ⟨_, e⟩))
      · rw [decide_eq_false hb]
        refine ⟨_, rfl, h, _, 4, .int n, rfl, rfl, SqL.of e, rfl, _, _, rfl, rfl, _, rfl, h, _, 4, 4, rfl, rfl, e, rfl, ?_⟩
        have g2 := g.trans (hand_set (h := h) (c := c) (ns := ns) (i := i) (big := big) (acc := acc) (n := n + 1) g.b (fun c' o e' n' => by rw [upd_ne n']; exact e') upd_same (by rw [upd_ne hne]; exact e2) hi ⟨_, e⟩)
        refine ⟨_, rfl, h, _, 3, .int acc, rfl, rfl, SqL.of upd_same, rfl, _, rfl, h, _, 4, .int (n + 1), rfl, rfl, SqL.of upd_same, rfl, _, _, rfl, rfl, .inl (by decide), _, _, rfl, rfl, .inl ⟨_, rfl, _, _, rfl, rfl, .inr (by decide), .inl ⟨_, rfl, _, _, rfl, rfl, by show (0 : Int) < 2147483647; decide, ?_⟩⟩⟩
        obtain ⟨k1, ek1, hk1⟩ := mod_nat (x := (acc + 7919 * (n + 1)) * 48271) (m := 2147483647) (by decide)
        show gName 4 (V.int ((acc + 7919 * (n + 1)) * 48271 % 2147483647)) _ _ _
        rw [ek1]
        refine ⟨_, rfl, _, rfl, _, _, rfl, rfl, ⟨by decide, by decide⟩, _, _, rfl, rfl, _, _, rfl, rfl, .inl ⟨by omega, by omega⟩, .inl ⟨_, rfl, _, _, rfl, rfl, by show (0 : Int) < 2147483647; decide, ?_⟩⟩
        obtain ⟨k2, ek2, hk2⟩ := mod_nat (x := (k1 : Int) * ((k1 : Int) / 1009 + 69621)) (m := 2147483647) (by decide)
        show gName 4 (V.int ((k1 : Int) * ((k1 : Int) / 1009 + 69621) % 2147483647)) _ _ _
        rw [ek2]
        refine ⟨_, rfl, _, rfl, _, _, rfl, rfl, ⟨by decide, by decide⟩, _, _, rfl, rfl, _, _, rfl, rfl, .inl ⟨by omega, by omega⟩, .inl ⟨_, rfl, _, _, rfl, rfl, by show (0 : Int) < 2147483399; decide, ?_⟩⟩
        obtain ⟨k3, ek3, hk3⟩ := mod_nat (x := (k2 : Int) * ((k2 : Int) / 2003 + 40692)) (m := 2147483399) (by decide)
        show gName 4 (V.int ((k2 : Int) * ((k2 : Int) / 2003 + 40692) % 2147483399)) _ _ _
        rw [ek3]
        refine ⟨_, rfl, _, _, rfl, rfl, ⟨by decide, by decide⟩, .inl ⟨_, rfl, _, rfl, _, _, rfl, rfl, hm, ?_⟩⟩
        obtain ⟨k, ek, hk⟩ := mod_nat (x := (k3 : Int) / 16) hm
        show Q (V.int ((k3 : Int) / 16 % m)) _
        rw [ek]
        exact q k _ hk g2
    · intro N next
      obtain ⟨c, ns, i, big, acc, n, e, e2, hi⟩ := hh
      have hh : Hand H h := ⟨c, ns, i, big, acc, n, e, e2, hi⟩
      have hne : c ≠ h := ne_of e2 e (fun z => by cases ns <;> simp at z)
      obtain ⟨j, rfl⟩ := Int.eq_ofNat_of_zero_le hi
      refine ⟨_, rfl, h, _, 2, .int big, rfl, rfl, SqL.of e, rfl, rfl, _, rfl, ?_⟩
      by_cases hb : big = 0
      · rw [decide_eq_true (by rw [hb])]
        refine ⟨_, rfl, h, _, 1, .int (j : Int), rfl, rfl, SqL.of e, rfl, _, rfl, h, _, 0, .ref c, rfl, rfl, SqL.of e, rfl, c, _, rfl, .inl (SqL.of e2), _, _, rfl, rfl, _, rfl, ?_⟩
        by_cases hj : ((j : Nat) : Int) < ((ns.map V.int).length : Int)
        · rw [decide_eq_true hj]
          rw [List.length_map] at hj
          have hj : j < ns.length := by omega
          have ez : (ns.map V.int)[j]? = some (.int ns[j]) := by rw [List.getElem?_map, List.getElem?_eq_getElem hj]; rfl
          refine ⟨_, rfl, h, _, 0, .ref c, rfl, rfl, SqL.of e, rfl, _, rfl, h, _, 1, .int (j : Int), rfl, rfl, SqL.of e, rfl, c, _, (j : Int), .int ns[j], rfl, rfl, SqL.of e2, atI_nat ez, ?_⟩
          refine ⟨_, rfl, h, _, 1, .int (j : Int), rfl, rfl, SqL.of e, rfl, _, _, rfl, rfl, _, rfl, h, _, 1, 1, rfl, rfl, e, rfl, ?_⟩
          have g1 := hand_set (h := h) (c := c) (ns := ns) (i := (j : Int) + 1) (big := big) (acc := acc) (n := n) hh (fun c' o e' n' => by rw [upd_ne n']; exact e') upd_same (by rw [upd_ne hne]; exact e2) (by omega) ⟨_, e⟩
          refine ⟨_, rfl, h, _, 3, .int acc, rfl, rfl, SqL.of upd_same, rfl, _, _, rfl, rfl, .inr (by decide), _, rfl, _, _, rfl, rfl, _, _, rfl, rfl, .inl ⟨_, rfl, _, _, rfl, rfl, by show (0 : Int) < 2147483629; decide, ?_⟩⟩
          show gSub _ _ _ (V.int ((acc * 69621 + ns[j] + 11) % 2147483629)) _ _ _
          generalize ((acc * 69621 + ns[j] + 11) % 2147483629) = acc2
          refine ⟨_, rfl, h, _, 3, 3, rfl, rfl, upd_same, rfl, ?_⟩
          have g2 := g1.trans (hand_set (h := h) (c := c) (ns := ns) (i := (j : Int) + 1) (big := big) (acc := acc2) (n := n) g1.b (fun c' o e' n' => by rw [upd_ne n']; exact e') upd_same (by rw [upd_ne hne, upd_ne hne]; exact e2) (by omega) ⟨_, upd_same⟩)
          refine ⟨_, rfl, _, _, rfl, rfl, ⟨by decide, by decide, by decide⟩, _, _, rfl, rfl, _, rfl, ?_⟩
          by_cases h5 : (10 : Int) ^ (18 : Int).toNat ≤ ns[j]
          · rw [decide_eq_true h5]
            refine ⟨_, rfl, _, rfl, h, _, 2, 2, rfl, rfl, upd_same, rfl, next _ _ ⟨_, _, _, rfl, ?_⟩⟩
            exact g2.trans (hand_set (h := h) (c := c) (ns := ns) (i := (j : Int) + 1) (big := ns[j]) (acc := acc2) (n := n) g2.b (fun c' o e' n' => by rw [upd_ne n']; exact e') upd_same (by rw [upd_ne hne, upd_ne hne, upd_ne hne]; exact e2) (by omega) ⟨_, upd_same⟩)
          · rw [decide_eq_false h5]
            exact next _ _ ⟨_, _, _, rfl, g2⟩
        · rw [decide_eq_false hj]
          exact next _ _ ⟨_, _, _, rfl, .refl hh⟩
      · rw [decide_eq_false (fun z => hb (by injection z))]
        exact next _ _ ⟨_, _, _, rfl, .refl hh⟩
theorem sc__law_some : FnScope ["_law_hand_here", "_law_things"] ["_law_hand_here", "_law_things"] (defScope (top 55)) := ⟨rfl, rfl, rfl, by decide +kernel, rfl, by decide +kernel, by decide +kernel⟩
def spSome : Sp := fun vs H Q _ => ∃ (h l : Addr) (xs : List V), vs = [.ref h, .ref l] ∧ Hand H h ∧ H l = some (.lst xs) ∧ l ≠ h ∧ 1 ≤ xs.length ∧ xs.length ≤ 10000 ∧ ∀ (v : V) H', v ∈ xs → Go h H H' → Q v H'
theorem c__law_some (T : Txt K mg) : Cl P w K mg base 2 "_law_some" ["_law_hand_here", "_law_things"] spSome := by
  refine cl_of T.f_law_some T.g_law_some sc__law_some (fun _ _ _ _ _ _ us hl => match us, hl with | [_, _], _ => rfl) (fun vs H Q E h => ?_) (fun cdv A outer s H vs Q E hr h => ?_)
  · obtain ⟨h, l, xs, rfl, _⟩ := h
    rfl
  · obtain ⟨h, l, xs, rfl, hh, e, ne, l1, l2, q⟩ := h
    refine ⟨_, (pss_one (ps_ret (pe_ix ix_list (pv 1) (pe_f (c__law_draw T) hr (pa_cons (pv 0) (pa_cons (pe_callB call_len_seq (by rfl) T.zlen bo_len (pa_cons (pv 1) pa_nil)) pa_nil))) (fun _ _ => rfl)))), ?_⟩
    refine ⟨_, rfl, _, rfl, _, rfl, l, xs, rfl, .inl (SqL.of e), h, _, rfl, hh, by omega, by omega, fun k H1 hk g => ?_⟩
    have hk2 : k < xs.length := by omega
    exact ⟨l, xs, (k : Int), xs[k], rfl, rfl, SqL.of (g.lst e ne), atI_nat (List.getElem?_eq_getElem hk2), q _ H1 (List.getElem_mem hk2) g⟩
theorem seqIx {k n : Nat} (h : k < n) : seqIndex? (k : Int) n = some k := by
  have := PySem.StrLaws.seqIndex_nonneg (i := (k : Int)) (n := n) (by omega) (by omega)
  simpa using this
theorem perm_erase {α : Type} : ∀ {xs : List α} {k : Nat} (h : k < xs.length), (xs[k] :: xs.eraseIdx k).Perm xs
  | x :: xs, 0, _ => .refl _
  | x :: xs, k + 1, h => by
    show (xs[k]'(by simpa using h) :: x :: xs.eraseIdx k).Perm (x :: xs)
    exact (List.Perm.swap ..).trans (List.Perm.cons x (perm_erase (by simpa using h)))
theorem sc__law_shuffled : FnScope ["_law_hand_here", "_law_things", "_law_pool", "_law_found"] ["_law_hand_here", "_law_things"] (defScope (top 56)) := ⟨rfl, rfl, rfl, by decide +kernel, rfl, by decide +kernel, by decide +kernel⟩
def spShuffled : Sp := fun vs H Q _ => ∃ (h l : Addr) (xs : List V), vs = [.ref h, .ref l] ∧ Hand H h ∧ H l = some (.lst xs) ∧ l ≠ h ∧ xs.length ≤ 10000 ∧ ∀ (r : Addr) (ys : List V) H', ys.Perm xs → H r = none → Go h H H' → H' r = some (.lst ys) → Q (.ref r) H'
theorem c__law_shuffled (T : Txt K mg) : Cl P w K mg base 2 "_law_shuffled" ["_law_hand_here", "_law_things"] spShuffled := by
  refine cl_of T.f_law_shuffled T.g_law_shuffled sc__law_shuffled (fun _ _ _ _ _ _ us hl => match us, hl with | [_, _], _ => rfl) (fun vs H Q E h => ?_) (fun cdv A outer s H vs Q E hr h => ?_)
  · obtain ⟨h, l, xs, rfl, _⟩ := h
    rfl
  · obtain ⟨h, l, xs, rfl, hh, e, ne, l2, q⟩ := h
    refine ⟨_, (pss_cons (ps_set (i := 2) sc__law_shuffled.nd rfl (Or.inl rfl) (pe_callTy call_list_of (by rfl) T.zlist bo_list (pa_cons (pv 1) pa_nil)))
      (pss_cons (ps_set (i := 3) sc__law_shuffled.nd rfl (Or.inl rfl) (pe_lst pa_nil))
      (pss_cons (ps_while PassesOwn.never (pt_cmpR op_gt (pe_callB call_len_seq (by rfl) T.zlen bo_len (pa_cons (pv 2) pa_nil)) pe_int (nomark _)) (pss_one (ps_expr (pe_bm PySem.F.plainAttrs_list PySem.F.slot_list_append PySem.F.type_list_append mt_append (pv 3) (pa_cons (pe_bm PySem.F.plainAttrs_list PySem.F.slot_list_pop PySem.F.type_list_pop mt_popAt (pv 2) (pa_cons (pe_f (c__law_draw T) hr (pa_cons (pv 0) (pa_cons (pe_callB call_len_seq (by rfl) T.zlen bo_len (pa_cons (pv 2) pa_nil)) pa_nil))) pa_nil)) pa_nil)))))
      (pss_one (ps_ret (pv 3)))))), ?_⟩
    refine ⟨_, rfl, l, xs, rfl, .inl (SqL.of e), fun p np => ?_⟩
    refine ⟨by show 0 ≤ sizeLine; decide, fun f nf => ?_⟩
    have s1 := same_upd (o := .lst xs) np
    have nf0 : H f = none := s1.free nf
    have s2 := s1.trans (same_upd (o := .lst []) nf)
    have hpf : f ≠ p := (ne_of_none upd_same nf).symm
    refine while_by (fun σ H1 => ∃ ps fs, σ = [some (.ref h), some (.ref l), some (.ref p), some (.ref f)] ∧ H1 p = some (.lst ps) ∧ H1 f = some (.lst fs) ∧ (fs ++ ps).Perm xs ∧ Go h H H1)
      (fun σ H1 => match H1 p with
        | some (.lst ps) => ps.length
        | _ => 0) ⟨xs, [], rfl, by rw [upd_ne hpf.symm, upd_same], upd_same, by simp, .same hh s2⟩ ?_ ?_
    · rintro σ H1 ⟨ps, fs, rfl, hp, hf, pm, g⟩
      have hl := pm.length_eq
      rw [List.length_append] at hl
      refine ⟨_, rfl, p, ps, rfl, .inl (SqL.of hp), _, _, rfl, rfl, _, rfl, ?_⟩
      by_cases z : (0 : Int) < (ps.length : Int)
      · rw [decide_eq_true z]
        refine ⟨_, rfl, (.inl ⟨rfl, _, SqL.of hf⟩), _, rfl, (.inl ⟨rfl, _, SqL.of hp⟩), _, rfl, _, rfl, p, ps, rfl, .inl (SqL.of hp), h, _, rfl, g.b, by omega, by omega, fun k H2 hk g2 => ?_⟩
        have hk2 : k < ps.length := by omega
        have nph : p ≠ h := hh.ne np
        have nfh : f ≠ h := hh.ne nf0
        have hp2 := g2.lst hp nph
        have hf2 := g2.lst hf nfh
        have g3 := g.trans g2
        refine ⟨p, ps, (k : Int), k, ps[k], rfl, rfl, hp2, by omega, by omega, seqIx hk2, List.getElem?_eq_getElem hk2, f, fs, _, rfl, rfl, by rw [upd_ne hpf]; exact hf2, lineL (by omega), ?_⟩
        have e1 : (upd (upd H2 p (.lst (ps.eraseIdx k))) f (.lst (fs ++ [ps[k]]))) p = some (.lst (ps.eraseIdx k)) := by rw [upd_ne hpf.symm, upd_same]
        refine ⟨⟨ps.eraseIdx k, fs ++ [ps[k]], rfl, e1, upd_same, ?_, (g3.grow np).grow nf0⟩, ?_⟩
        · refine List.Perm.trans ?_ pm
          rw [List.append_assoc]
          exact List.Perm.append_left fs (perm_erase hk2)
        · show (match (upd (upd H2 p (.lst (ps.eraseIdx k))) f (.lst (fs ++ [ps[k]]))) p with
            | some (.lst ps) => ps.length
            | _ => 0) < (match H1 p with
            | some (.lst ps) => ps.length
            | _ => 0)
          rw [e1, hp]
          show (ps.eraseIdx k).length < ps.length
          rw [List.length_eraseIdx, if_pos hk2]
          omega
      · rw [decide_eq_false z]
        have : ps.length = 0 := by omega
        obtain rfl := List.length_eq_zero_iff.mp this
        rw [List.append_nil] at pm
        exact ⟨_, rfl, q f fs H1 pm nf0 g hf⟩
    · intro σ H1 Q1 Q2 imp hq
      obtain ⟨v, hv, p, ys, e1, e2, i, j, f1, f2, b, f3, q⟩ := hq
      exact ⟨v, hv, p, ys, e1, e2, i, j, f1, f2, b, f3, imp _ _ q⟩
end
end Fr
/-! ## FrIs -/
set_option Elab.async false
set_option linter.all false
set_option maxRecDepth 100000
set_option maxHeartbeats 4000000
/-! The law's own comparison. -/
namespace Fr
open PySem PySem.Spec PyProof.Rows L2
/-- the same texts, tuples and lists, at most n deep, not too long -/
def TL : Nat → V → V → Hp → Prop
  | 0, x, y, _ => ∃ z : Str, x = .str z ∧ y = .str z
  | n + 1, x, y, H => (∃ z : Str, x = .str z ∧ y = .str z) ∨ ∃ a b xs ys, x = .ref a ∧ y = .ref b ∧ ((H a = some (.tup xs) ∧ H b = some (.tup ys)) ∨ (H a = some (.lst xs) ∧ H b = some (.lst ys))) ∧ Paired (fun u v => TL n u v H) xs ys ∧ xs.length ≤ 1000
theorem TL.up {H : Hp} : ∀ {n m : Nat} {x y : V}, n ≤ m → TL n x y H → TL m x y H
  | 0, 0, _, _, _, t => t
  | 0, m + 1, _, _, _, t => .inl t
  | n + 1, 0, _, _, h, _ => by omega
  | n + 1, m + 1, _, _, h, t => by
    rcases t with t | ⟨a, b, xs, ys, e1, e2, e3, p, l⟩
    · exact .inl t
    · exact .inr ⟨a, b, xs, ys, e1, e2, e3, p.mono fun _ _ z => TL.up (by omega) z, l⟩
theorem TL.same {H H' : Hp} (s : Same H H') : ∀ {n : Nat} {x y : V}, TL n x y H → TL n x y H'
  | 0, _, _, h => h
  | n + 1, _, _, h => by
    rcases h with h | ⟨a, b, xs, ys, rfl, rfl, h, p, l⟩
    · exact .inl h
    · refine .inr ⟨a, b, xs, ys, rfl, rfl, ?_, p.mono fun _ _ z => TL.same s z, l⟩
      rcases h with ⟨h1, h2⟩ | ⟨h1, h2⟩
      · exact .inl ⟨s _ _ h1, s _ _ h2⟩
      · exact .inr ⟨s _ _ h1, s _ _ h2⟩
theorem tl_strs {H : Hp} (n : Nat) : ∀ (l : List Str), Paired (fun u v => TL n u v H) (l.map .str) (l.map .str)
  | [] => .nil
  | x :: l => .cons (TL.up (Nat.zero_le n) ⟨x, rfl, rfl⟩) (tl_strs n l)
theorem tl_join {α : Type} {F : V → α → Prop} {G : α → Prop} {n : Nat} {H : Hp} (h : ∀ x y a, G a → F x a → F y a → TL n x y H) : ∀ {xs ys : List V} {l : List α}, (∀ a ∈ l, G a) → Paired F xs l → Paired F ys l → Paired (fun u v => TL n u v H) xs ys
  | _, _, _, _, .nil, .nil => .nil
  | _, _, _, g, .cons r t, .cons r' t' => .cons (h _ _ _ (g _ (List.mem_cons_self ..)) r r') (tl_join h (fun a q => g a (List.mem_cons_of_mem _ q)) t t')
section
variable {H : Hp} {x y : V}
theorem tl_ns {l : List Str} (hl : l.length ≤ 1000) (h : NsAt H x l) (h' : NsAt H y l) : TL 1 x y H := by
  obtain ⟨a, rfl, ha⟩ := h
  obtain ⟨b, rfl, hb⟩ := h'
  exact .inr ⟨a, b, _, _, rfl, rfl, .inl ⟨ha, hb⟩, tl_strs 0 l, by rw [List.length_map]; exact hl⟩
theorem tl_dd {d : Dd} (h : DdAt H x d) (h' : DdAt H y d) : TL 1 x y H := by
  obtain ⟨a, rfl, ha⟩ := h
  obtain ⟨b, rfl, hb⟩ := h'
  refine .inr ⟨a, b, _, _, rfl, rfl, .inl ⟨ha, hb⟩, .cons ⟨_, rfl, rfl⟩ (tl_strs 0 _), ?_⟩
  have := nms_len d
  show (d.nms.map V.str).length + 1 ≤ 1000
  rw [List.length_map]
  omega
theorem tl_ds {ds : List Dd} (hl : ds.length ≤ 1000) (h : DsAt H x ds) (h' : DsAt H y ds) : TL 2 x y H := by
  obtain ⟨a, us, rfl, ha, p⟩ := h
  obtain ⟨b, ws, rfl, hb, q⟩ := h'
  exact .inr ⟨a, b, _, _, rfl, rfl, .inl ⟨ha, hb⟩, tl_join (F := DdAt H) (G := fun _ => True) (fun _ _ _ _ z z' => tl_dd z z') (fun _ _ => trivial) p q, by rw [p.length]; exact hl⟩
theorem tl_sm {s : Sm} (ok : s.ok) (h : SmAt H x s) (h' : SmAt H y s) : TL 3 x y H := by
  cases s with
  | deed d => exact TL.up (by decide) (tl_dd h h')
  | round z ds =>
    obtain ⟨a, u, rfl, ha, p⟩ := h
    obtain ⟨b, u', rfl, hb, q⟩ := h'
    have few : ds.length ≤ 16 := ok.few
    exact .inr ⟨a, b, _, _, rfl, rfl, .inl ⟨ha, hb⟩, .cons (TL.up (Nat.zero_le 2) ⟨_, rfl, rfl⟩) (.cons (TL.up (Nat.zero_le 2) ⟨_, rfl, rfl⟩) (.cons (tl_ds (by omega) p q) .nil)), by show 3 ≤ 1000; decide⟩
theorem tl_bk {b : List Sm} (ok : ∀ s ∈ b, s.ok) (hl : b.length ≤ 1000) (h : BkAt H x b) (h' : BkAt H y b) : TL 4 x y H := by
  obtain ⟨a, us, rfl, ha, p⟩ := h
  obtain ⟨b, ws, rfl, hb, q⟩ := h'
  exact .inr ⟨a, b, _, _, rfl, rfl, .inl ⟨ha, hb⟩, tl_join (F := SmAt H) (G := Sm.ok) (fun _ _ _ ok z z' => tl_sm ok z z') ok p q, by rw [p.length]; exact hl⟩
end
section
variable {P : Program} {w : World} {K : PySem.W.Frag} {mg : Str → Option Value} {base : Heap}
theorem sc__law_is : FnScope ["_law_told", "_law_due", "_law_k", "_law_key"] ["_law_told", "_law_due"] (defScope (top 57)) := ⟨rfl, rfl, rfl, by decide +kernel, rfl, by decide +kernel, by decide +kernel⟩
def spLawIs (n : Nat) : Sp := fun vs H Q _ => ∃ x y, vs = [x, y] ∧ TL n x y H ∧ ∀ H', Same H H' → Q (.bl true) H'
theorem kit_s : PySem.W.kitAny K (.type "str") [.type "tuple", .type "list"] = some false := kitAny_cons (b := false) (kit_ty kb_st) (fun _ => kitAny_cons (b := false) (kit_ty kb_sl) (fun _ => rfl) (fun z => nomatch z)) (fun z => nomatch z)
theorem kit_t : PySem.W.kitAny K (.type "tuple") [.type "tuple", .type "list"] = some true := kitAny_cons (b := true) (kit_ty kb_tt) (fun z => nomatch z) (fun _ => rfl)
theorem kit_l : PySem.W.kitAny K (.type "list") [.type "tuple", .type "list"] = some true := kitAny_cons (b := false) (kit_ty kb_lt) (fun _ => kitAny_cons (b := true) (kit_ty kb_ll) (fun z => nomatch z) (fun _ => rfl)) (fun z => nomatch z)
theorem two_ty : Paired ClsV [.ty "tuple", .ty "list"] [.type "tuple", .type "list"] := .cons (.ty _) (.cons (.ty _) .nil)
theorem c__law_is0 (T : Txt K mg) : Cl P w K mg base 1 "_law_is" ["_law_told", "_law_due"] (spLawIs 0) := by
  refine cl_of T.f_law_is T.g_law_is sc__law_is (fun _ _ _ _ _ _ us hl => match us, hl with | [_, _], _ => rfl) (fun vs H Q E h => ?_) (fun cdv A outer s H vs Q E hr h => ?_)
  · obtain ⟨x, y, rfl, _⟩ := h
    rfl
  · obtain ⟨x, y, rfl, ⟨z, rfl, rfl⟩, q⟩ := h
    refine ⟨_, (pss_cons (ps_if (pt_val (pe_callB call_isiT (by rfl) T.zisinstance bo_isi (pa_cons (pv 1) (pa_cons (pe_tup (pa_cons (pe_bltn (v := .ty "tuple") (by rfl) T.ztuple bo_tuple rfl) (pa_cons (pe_bltn (v := .ty "list") (by rfl) T.zlist bo_list rfl) pa_nil))) pa_nil)))) (pss_cons ps_never
      (pss_one ps_never)) pss_nil)
      (pss_cons (ps_if (pt_val (pe_callB call_isi (by rfl) T.zisinstance bo_isi (pa_cons (pv 1) (pa_cons (pe_bltn (v := .ty "dict") (by rfl) T.zdict bo_dict rfl) pa_nil)))) (pss_one ps_never) pss_nil)
      (pss_one (ps_ret (pe_and (pe_cmpR op_eq (pe_callB call_isi (by rfl) T.zisinstance bo_isi (pa_cons (pv 0) (pa_cons (pe_bltn (v := .ty "bool") (by rfl) T.zbool bo_bool rfl) pa_nil))) (pe_callB call_isi (by rfl) T.zisinstance bo_isi (pa_cons (pv 1) (pa_cons (pe_bltn (v := .ty "bool") (by rfl) T.zbool bo_bool rfl) pa_nil))) (nomark _)) (pe_one (pe_cmpR op_eq (pv 0) (pv 1) (nomark _)))))))), ?_⟩
    refine ⟨_, rfl, by show 2 ≤ sizeLine; decide, fun p np => ⟨_, p, _, _, _, false, rfl, upd_same, two_ty, .base (.str _), kit_s, false, rfl, ?_⟩⟩
    refine ⟨_, rfl, _, _, _, _, false, rfl, .ty _, .base (.str _), kit_ty kb_sd, false, rfl, _, rfl, _, _, _, _, false, rfl, .ty _, .base (.str _), kit_ty kb_sb, _, rfl, _, _, _, _, false, rfl, .ty _, .base (.str _), kit_ty kb_sb, rfl, ?_⟩
    refine ⟨_, rfl, _, rfl, _, rfl, rfl, ?_⟩
    rw [decide_eq_true rfl]
    exact q _ (same_upd np)
theorem c__law_is (T : Txt K mg) : ∀ n : Nat, Cl P w K mg base (n + 1) "_law_is" ["_law_told", "_law_due"] (spLawIs n)
  | 0 => c__law_is0 T
  | n + 1 => by
    have ih := c__law_is T n
    refine cl_of T.f_law_is T.g_law_is sc__law_is (fun _ _ _ _ _ _ us hl => match us, hl with | [_, _], _ => rfl) (fun vs H Q E h => ?_) (fun cdv A outer s H vs Q E hr h => ?_)
    · obtain ⟨x, y, rfl, _⟩ := h
      rfl
    · obtain ⟨x, y, rfl, h, q⟩ := h
      refine ⟨_, (pss_cons (ps_if (pt_val (pe_callB call_isiT (by rfl) T.zisinstance bo_isi (pa_cons (pv 1) (pa_cons (pe_tup (pa_cons (pe_bltn (v := .ty "tuple") (by rfl) T.ztuple bo_tuple rfl) (pa_cons (pe_bltn (v := .ty "list") (by rfl) T.zlist bo_list rfl) pa_nil))) pa_nil)))) (pss_cons (ps_if (PW.pt (pw_or (pt_cmpR op_ne (pe_callB call_isi (by rfl) T.zisinstance bo_isi (pa_cons (pv 0) (pa_cons (pe_bltn (v := .ty "tuple") (by rfl) T.ztuple bo_tuple rfl) pa_nil))) (pe_callB call_isi (by rfl) T.zisinstance bo_isi (pa_cons (pv 1) (pa_cons (pe_bltn (v := .ty "tuple") (by rfl) T.ztuple bo_tuple rfl) pa_nil))) (nomark _)) (pw_or1 (pt_cmpR op_ne (pe_callB call_isi (by rfl) T.zisinstance bo_isi (pa_cons (pv 0) (pa_cons (pe_bltn (v := .ty "list") (by rfl) T.zlist bo_list rfl) pa_nil))) (pe_callB call_isi (by rfl) T.zisinstance bo_isi (pa_cons (pv 1) (pa_cons (pe_bltn (v := .ty "list") (by rfl) T.zlist bo_list rfl) pa_nil))) (nomark _))))) (pss_one (ps_ret pe_bl)) pss_nil)
      (pss_one (ps_ret (pe_and (pe_cmpR op_eq (pe_callB call_len_seq (by rfl) T.zlen bo_len (pa_cons (pv 0) pa_nil)) (pe_callB call_len_seq (by rfl) T.zlen bo_len (pa_cons (pv 1) pa_nil)) (nomark _)) (pe_one (pe_callB (cr_all rfl) (by rfl) T.zall bo_all (pa_cons (pe_lc (own := [("_law_k", 2)]) (g := gName 2) (tt := tYes) rfl sc__law_is.nd (pi_range1 (by rfl) T.zrange (pa_cons (pe_callB call_len_seq (by rfl) T.zlen bo_len (pa_cons (pv 1) pa_nil)) pa_nil)) (blkOk_by (own := [("_law_k", 2)]) (N := ["_law_told", "_law_due", "_law_k", "_law_key"]) (sc := defScope (top 57)) (by decide +kernel)) (fun _ _ _ _ _ => pg_name (i := 2) sc__law_is.nd rfl (Or.inl rfl)) (fun _ _ _ _ _ => pts_nil) (fun _ _ _ _ _ => (pe_f ih hr (pa_cons (pe_ix (ix_seqK (K := K)) (pv 0) (pv 2) (fun _ _ => rfl)) (pa_cons (pe_ix (ix_seqK (K := K)) (pv 1) (pv 2) (fun _ _ => rfl)) pa_nil)) (hk := Nat.le_refl _)))) pa_nil))))))) pss_nil)
      (pss_cons (ps_if (pt_val (pe_callB call_isi (by rfl) T.zisinstance bo_isi (pa_cons (pv 1) (pa_cons (pe_bltn (v := .ty "dict") (by rfl) T.zdict bo_dict rfl) pa_nil)))) (pss_one ps_never) pss_nil)
      (pss_one (ps_ret (pe_and (pe_cmpR op_eq (pe_callB call_isi (by rfl) T.zisinstance bo_isi (pa_cons (pv 0) (pa_cons (pe_bltn (v := .ty "bool") (by rfl) T.zbool bo_bool rfl) pa_nil))) (pe_callB call_isi (by rfl) T.zisinstance bo_isi (pa_cons (pv 1) (pa_cons (pe_bltn (v := .ty "bool") (by rfl) T.zbool bo_bool rfl) pa_nil))) (nomark _)) (pe_one (pe_cmpR op_eq (pv 0) (pv 1) (nomark _)))))))), ?_⟩
      rcases h with ⟨z, rfl, rfl⟩ | ⟨a, b, xs, ys, rfl, rfl, h, pr, hl⟩
      · refine ⟨_, rfl, by show 2 ≤ sizeLine; decide, fun p np => ⟨_, p, _, _, _, false, rfl, upd_same, two_ty, .base (.str _), kit_s, false, rfl, ?_⟩⟩
        refine ⟨_, rfl, _, _, _, _, false, rfl, .ty _, .base (.str _), kit_ty kb_sd, false, rfl, _, rfl, _, _, _, _, false, rfl, .ty _, .base (.str _), kit_ty kb_sb, _, rfl, _, _, _, _, false, rfl, .ty _, .base (.str _), kit_ty kb_sb, rfl, ?_⟩
        refine ⟨_, rfl, _, rfl, _, rfl, rfl, ?_⟩
        rw [decide_eq_true rfl]
        exact q _ (same_upd np)
      · have hpl := pr.length
        rcases h with ⟨ha, hb⟩ | ⟨ha, hb⟩
        · refine ⟨_, rfl, by show 2 ≤ sizeLine; decide, fun p np => ⟨_, p, _, _, _, true, rfl, upd_same, two_ty, .base (.tup (same_upd np _ _ hb)), kit_t, true, rfl, ?_⟩⟩
          have s1 := same_upd (o := .tup [.ty "tuple", .ty "list"]) np
          refine ⟨_, rfl, _, _, _, _, true, rfl, .ty _, .base (.tup (s1 _ _ ha)), kit_ty kb_tt, _, rfl, _, _, _, _, true, rfl, .ty _, .base (.tup (s1 _ _ hb)), kit_ty kb_tt, rfl, _, rfl, ?_⟩
          refine ⟨_, rfl, _, _, _, _, false, rfl, .ty _, .base (.tup (s1 _ _ ha)), kit_ty kb_tl, _, rfl, _, _, _, _, false, rfl, .ty _, .base (.tup (s1 _ _ hb)), kit_ty kb_tl, rfl, _, rfl, ?_⟩
          refine ⟨_, rfl, a, xs, rfl, .inr (SqT.of (s1 _ _ ha)), _, rfl, b, ys, rfl, .inr (SqT.of (s1 _ _ hb)), rfl, _, rfl, ?_⟩
          rw [decide_eq_true (by rw [hpl])]
          refine ⟨_, rfl, b, ys, rfl, .inr (SqT.of (s1 _ _ hb)), (ys.length : Int), rfl, by omega, by omega, fun D nD => ?_⟩
          refine lc_it walk_range (fun i H1 => Same H H1 ∧ Trues H1 D i) ⟨s1.trans (same_upd nD), trues_nil⟩ (fun _ _ _ _ => trivial) ?_ ?_
          · rintro i v H1 H2 hi ⟨s2, t2⟩ ⟨rfl, rfl⟩
            have h1 : i < xs.length := by omega
            have h2 : i < ys.length := by omega
            have e1 : atI xs (0 + (i : Int)) = some xs[i] := by
              rw [Int.zero_add]
              exact atI_nat (List.getElem?_eq_getElem h1)
            have e2 : atI ys (0 + (i : Int)) = some ys[i] := by
              rw [Int.zero_add]
              exact atI_nat (List.getElem?_eq_getElem h2)
            have s3 := s2
            refine ⟨rfl, _, rfl, _, rfl, .inr (.inl ⟨a, xs, _, xs[i], rfl, rfl, SqT.of (s2 _ _ ha), e1, _, rfl, _, rfl, .inr (.inl ⟨b, ys, _, ys[i], rfl, rfl, SqT.of (s2 _ _ hb), e2, _, _, rfl, ?_, fun H3 s3 => ?_⟩)⟩)⟩
            · obtain ⟨v, hv, tv⟩ := pr_get pr (List.getElem?_eq_getElem h2)
              rw [List.getElem?_eq_getElem h1] at hv
              cases hv
              exact TL.same s2 tv
            · obtain ⟨acc, e1, e2, e3⟩ := (t2.same s3).snoc (by omega)
              exact ⟨acc, e1, e2, same_grow (s1.free nD) (s2.trans s3), e3⟩
          · rintro H1 ⟨s2, t2⟩
            obtain ⟨bs, b1, b2⟩ := t2.out (K := K)
            refine ⟨D, bs, rfl, b1, ?_⟩
            rw [b2]
            exact q H1 s2
        · refine ⟨_, rfl, by show 2 ≤ sizeLine; decide, fun p np => ⟨_, p, _, _, _, true, rfl, upd_same, two_ty, .base (.lst (same_upd np _ _ hb)), kit_l, true, rfl, ?_⟩⟩
          have s1 := same_upd (o := .tup [.ty "tuple", .ty "list"]) np
          refine ⟨_, rfl, _, _, _, _, false, rfl, .ty _, .base (.lst (s1 _ _ ha)), kit_ty kb_lt, _, rfl, _, _, _, _, false, rfl, .ty _, .base (.lst (s1 _ _ hb)), kit_ty kb_lt, rfl, _, rfl, ?_⟩
          refine ⟨_, rfl, _, _, _, _, true, rfl, .ty _, .base (.lst (s1 _ _ ha)), kit_ty kb_ll, _, rfl, _, _, _, _, true, rfl, .ty _, .base (.lst (s1 _ _ hb)), kit_ty kb_ll, rfl, _, rfl, ?_⟩
          refine ⟨_, rfl, a, xs, rfl, .inl (SqL.of (s1 _ _ ha)), _, rfl, b, ys, rfl, .inl (SqL.of (s1 _ _ hb)), rfl, _, rfl, ?_⟩
          rw [decide_eq_true (by rw [hpl])]
          refine ⟨_, rfl, b, ys, rfl, .inl (SqL.of (s1 _ _ hb)), (ys.length : Int), rfl, by omega, by omega, fun D nD => ?_⟩
          refine lc_it walk_range (fun i H1 => Same H H1 ∧ Trues H1 D i) ⟨s1.trans (same_upd nD), trues_nil⟩ (fun _ _ _ _ => trivial) ?_ ?_
          · rintro i v H1 H2 hi ⟨s2, t2⟩ ⟨rfl, rfl⟩
            have h1 : i < xs.length := by omega
            have h2 : i < ys.length := by omega
            have e1 : atI xs (0 + (i : Int)) = some xs[i] := by
              rw [Int.zero_add]
              exact atI_nat (List.getElem?_eq_getElem h1)
            have e2 : atI ys (0 + (i : Int)) = some ys[i] := by
              rw [Int.zero_add]
              exact atI_nat (List.getElem?_eq_getElem h2)
            have s3 := s2
            refine ⟨rfl, _, rfl, _, rfl, .inl ⟨a, xs, _, xs[i], rfl, rfl, SqL.of (s2 _ _ ha), e1, _, rfl, _, rfl, .inl ⟨b, ys, _, ys[i], rfl, rfl, SqL.of (s2 _ _ hb), e2, _, _, rfl, ?_, fun H3 s3 => ?_⟩⟩⟩
            · obtain ⟨v, hv, tv⟩ := pr_get pr (List.getElem?_eq_getElem h2)
              rw [List.getElem?_eq_getElem h1] at hv
              cases hv
              exact TL.same s2 tv
            · obtain ⟨acc, e1, e2, e3⟩ := (t2.same s3).snoc (by omega)
              exact ⟨acc, e1, e2, same_grow (s1.free nD) (s2.trans s3), e3⟩
          · rintro H1 ⟨s2, t2⟩
            obtain ⟨bs, b1, b2⟩ := t2.out (K := K)
            refine ⟨D, bs, rfl, b1, ?_⟩
            rw [b2]
            exact q H1 s2
end
end Fr
/-! ## FrLaw2 -/
set_option Elab.async false
set_option linter.all false
set_option maxRecDepth 100000
set_option maxHeartbeats 4000000
/-! What the law draws: names, deeds, statements, parts. -/
namespace Fr
open PySem PySem.Spec PyProof.Rows L2
theorem tk_lst {H : Hp} {D : Addr} {xs : List V} {o : HO} (e : H D = some (.lst xs)) : Tk H (upd H D o) := fun a ys q => by
  rw [upd_ne (ne_of q e (by intro z; cases z))]
  exact q
def unS : V → Str
  | .str x => x
  | _ => ""
theorem perm_strs {ys : List V} {ns : List Str} (h : ys.Perm (ns.map .str)) : ∃ ms : List Str, ms.Perm ns ∧ ys = ms.map .str := by
  refine ⟨ys.map unS, ?_, ?_⟩
  · have := h.map unS
    rw [List.map_map] at this
    have e : (unS ∘ V.str) = id := rfl
    rw [e, List.map_id] at this
    exact this
  · rw [List.map_map]
    refine (List.map_id ys).symm.trans (List.map_congr_left fun y hy => ?_)
    obtain ⟨z, _, rfl⟩ := List.mem_map.mp (h.mem_iff.mp hy)
    rfl
theorem menu_nodup : menu.Nodup := by decide +kernel
/-- a statement of these names, at most so many deeds in it -/
structure Sm.on (ns : List Str) (m : Nat) (s : Sm) : Prop where
  nm : ∀ x ∈ s.nms, x ∈ ns
  im : ∀ d ∈ s.ins, ∀ x ∈ d.nms, x ∈ ns
  few : s.ins.length ≤ m
theorem strs_ne {H : Hp} {h l : Addr} {ns : List Str} (x : Hand H h) (e : H l = some (.lst (ns.map .str))) (n : ns ≠ []) : l ≠ h := by
  obtain ⟨c, ms, i, big, acc, k, h1, _⟩ := x
  refine ne_of e h1 fun z => ?_
  injection z with z
  cases ns with
  | nil => exact n rfl
  | cons y r => cases z
theorem zero0 : decide (V.int ((0 : Nat) : Int) = V.int 0) = true := decide_eq_true rfl
section
variable {P : Program} {w : World} {K : PySem.W.Frag} {mg : Str → Option Value} {base : Heap}
theorem sc__law_own : FnScope ["_law_hand_here", "_law_many", "_law_menu"] ["_law_hand_here", "_law_many"] (defScope (top 58)) := ⟨rfl, rfl, rfl, by decide +kernel, rfl, by decide +kernel, by decide +kernel⟩
def spOwn : Sp := fun vs H Q _ => ∃ (h : Addr) (m : Nat), vs = [.ref h, .int (m : Int)] ∧ Hand H h ∧ m ≤ 14 ∧ ∀ (r : Addr) (ns : List Str) H', ns.Nodup → (∀ x ∈ ns, x ∈ menu) → ns.length = m → H' r = some (.lst (ns.map .str)) → Go h H H' → Q (.ref r) H'
theorem c__law_own (T : Txt K mg) : Cl P w K mg base 3 "_law_own" ["_law_hand_here", "_law_many"] spOwn := by
  refine cl_of T.f_law_own T.g_law_own sc__law_own (fun _ _ _ _ _ _ us hl => match us, hl with | [_, _], _ => rfl) (fun vs H Q E h => ?_) (fun cdv A outer s H vs Q E hr h => ?_)
  · obtain ⟨h, m, rfl, _⟩ := h
    rfl
  · obtain ⟨h, m, rfl, hh, hm, q⟩ := h
    refine ⟨_, (pss_cons (ps_set (i := 2) sc__law_own.nd rfl (Or.inl rfl) (pe_lst (pa_cons pe_str (pa_cons pe_str (pa_cons pe_str (pa_cons pe_str (pa_cons pe_str (pa_cons pe_str (pa_cons pe_str (pa_cons pe_str (pa_cons pe_str (pa_cons pe_str (pa_cons pe_str (pa_cons pe_str (pa_cons pe_str (pa_cons pe_str pa_nil))))))))))))))))
      (pss_one (ps_ret (pe_slice sl_list (pe_f (c__law_shuffled T) hr (pa_cons (pv 0) (pa_cons (pv 2) pa_nil))) po_none (po_some (pv 1)))))), ?_⟩
    refine ⟨by show 14 ≤ sizeLine; decide, fun p np => ?_⟩
    have s1 := same_upd (o := .lst (menu.map V.str)) np
    refine ⟨_, rfl, _, rfl, h, p, menu.map V.str, rfl, hh.same s1, upd_same, hh.ne np, by decide, fun r ys H2 pm nr g hr2 => ?_⟩
    obtain ⟨ns, pn, rfl⟩ := perm_strs pm
    have e : cutV (ns.map V.str) none (some (m : Int)) = (ns.take m).map V.str := by
      rw [cut_to, List.map_take]
    refine ⟨_, rfl, (m : Int), rfl, r, _, rfl, SqL.of hr2, fun t nt => ?_⟩
    rw [e]
    have hl := pn.length_eq
    have hl2 : menu.length = 14 := rfl
    refine q t (ns.take m) _ ((pn.nodup_iff.mpr menu_nodup).sublist (List.take_sublist m ns)) (fun x hx => pn.mem_iff.mp (List.mem_of_mem_take hx)) (by rw [List.length_take]; omega) upd_same ?_
    exact (Go.same hh s1).trans (g.then (same_upd nt))
theorem sc__law_deed : FnScope ["_law_hand_here", "_law_own_here", "_law_kind"] ["_law_hand_here", "_law_own_here"] (defScope (top 59)) := ⟨rfl, rfl, rfl, by decide +kernel, rfl, by decide +kernel, by decide +kernel⟩
def spDeed : Sp := fun vs H Q _ => ∃ (h l : Addr) (ns : List Str), vs = [.ref h, .ref l] ∧ Hand H h ∧ H l = some (.lst (ns.map .str)) ∧ ns ≠ [] ∧ ns.length ≤ 100 ∧ ∀ (d : Dd) (v : V) H', (∀ x ∈ d.nms, x ∈ ns) → DdAt H' v d → Go h H H' → Q v H'
theorem c__law_deed (T : Txt K mg) : Cl P w K mg base 3 "_law_deed" ["_law_hand_here", "_law_own_here"] spDeed := by
  refine cl_of T.f_law_deed T.g_law_deed sc__law_deed (fun _ _ _ _ _ _ us hl => match us, hl with | [_, _], _ => rfl) (fun vs H Q E h => ?_) (fun cdv A outer s H vs Q E hr h => ?_)
  · obtain ⟨h, l, ns, rfl, _⟩ := h
    rfl
  · obtain ⟨h, l, ns, rfl, hh, hl, nn, nl, q⟩ := h
    refine ⟨_, (pss_cons (ps_set (i := 2) sc__law_deed.nd rfl (Or.inl rfl) (pe_f (c__law_draw T) hr (pa_cons (pv 0) (pa_cons pe_int pa_nil))))
      (pss_cons (ps_if (pt_cmpR op_eq (pv 2) pe_int (nomark _)) (pss_one (ps_ret (pe_tup (pa_cons pe_str (pa_cons (pe_f (c__law_some T) hr (pa_cons (pv 0) (pa_cons (pv 1) pa_nil))) pa_nil))))) pss_nil)
      (pss_cons (ps_if (pt_cmpR op_lt (pv 2) pe_int (nomark _)) (pss_one (ps_ret (pe_tup (pa_cons pe_str (pa_cons (pe_f (c__law_some T) hr (pa_cons (pv 0) (pa_cons (pv 1) pa_nil))) (pa_cons (pe_f (c__law_some T) hr (pa_cons (pv 0) (pa_cons (pv 1) pa_nil))) pa_nil)))))) pss_nil)
      (pss_one (ps_ret (pe_tup (pa_cons pe_str (pa_cons (pe_f (c__law_some T) hr (pa_cons (pv 0) (pa_cons (pv 1) pa_nil))) pa_nil)))))))), ?_⟩
    have ln : 1 ≤ ns.length := by
      cases ns with
      | nil => exact absurd rfl nn
      | cons x r => simp
    have some1 : ∀ {H1 : Hp} {Z : VK}, Go h H H1 → (∀ (x : Str) H2, x ∈ ns → Go h H H2 → Z (.str x) H2) → spSome [.ref h, .ref l] H1 Z E0 := by
      intro H1 Z g z
      refine ⟨h, l, ns.map .str, rfl, g.b, g.strs hl, strs_ne g.b (g.strs hl) nn, by rw [List.length_map]; exact ln, by rw [List.length_map]; omega, fun v H2 hv g2 => ?_⟩
      obtain ⟨x, hx, rfl⟩ := List.mem_map.mp hv
      exact z x H2 hx (g.trans g2)
    refine ⟨_, rfl, h, 5, rfl, hh, by decide, by decide, fun k H1 hk g => ?_⟩
    refine ⟨_, rfl, rfl, _, rfl, ?_⟩
    by_cases k0 : k = 0
    · subst k0
      rw [zero0]
      refine ⟨_, rfl, _, rfl, some1 g fun x H2 hx g2 => ⟨by show 2 ≤ sizeLine; decide, fun p np => ?_⟩⟩
      exact q (.zero x) _ _ (by simpa [Dd.nms] using hx) ⟨p, rfl, upd_same⟩ (g2.then (same_upd np))
    · rw [decide_eq_false (fun z => k0 (by injection z with z; omega))]
      refine ⟨_, rfl, _, _, rfl, rfl, _, rfl, ?_⟩
      by_cases k3 : (k : Int) < 3
      · rw [decide_eq_true k3]
        refine ⟨_, rfl, _, rfl, some1 g fun x H2 hx g2 => ⟨_, rfl, _, rfl, some1 g2 fun y H3 hy g3 => ⟨by show 3 ≤ sizeLine; decide, fun p np => ?_⟩⟩⟩
        exact q (.copy x y) _ _ (by simp [Dd.nms, hx, hy]) ⟨p, rfl, upd_same⟩ (g3.then (same_upd np))
      · rw [decide_eq_false k3]
        refine ⟨_, rfl, _, rfl, some1 g fun x H2 hx g2 => ⟨by show 2 ≤ sizeLine; decide, fun p np => ?_⟩⟩
        exact q (.more x) _ _ (by simpa [Dd.nms] using hx) ⟨p, rfl, upd_same⟩ (g2.then (same_upd np))
theorem sc__law_statement : FnScope ["_law_hand_here", "_law_own_here", "_law_most", "_law_k"] ["_law_hand_here", "_law_own_here", "_law_most"] (defScope (top 60)) := ⟨rfl, rfl, rfl, by decide +kernel, rfl, by decide +kernel, by decide +kernel⟩
def spStatement : Sp := fun vs H Q _ => ∃ (h l : Addr) (ns : List Str) (m : Nat), vs = [.ref h, .ref l, .int (m : Int)] ∧ Hand H h ∧ H l = some (.lst (ns.map .str)) ∧ ns ≠ [] ∧ ns.length ≤ 100 ∧ m ≤ 1000 ∧ ∀ (s : Sm) (v : V) H', s.on ns m → SmAt H' v s → Go h H H' → Q v H'
theorem c__law_statement (T : Txt K mg) : Cl P w K mg base 4 "_law_statement" ["_law_hand_here", "_law_own_here", "_law_most"] spStatement := by
  refine cl_of T.f_law_statement T.g_law_statement sc__law_statement (fun _ _ _ _ _ _ us hl => match us, hl with | [_, _, _], _ => rfl) (fun vs H Q E h => ?_) (fun cdv A outer s H vs Q E hr h => ?_)
  · obtain ⟨h, l, ns, m, rfl, _⟩ := h
    rfl
  · obtain ⟨h, l, ns, m, rfl, hh, hl, nn, nl, hm, q⟩ := h
    refine ⟨_, (pss_cons (ps_if (pt_cmpR op_eq (pe_f (c__law_draw T) hr (pa_cons (pv 0) (pa_cons pe_int pa_nil))) pe_int (nomark _)) (pss_one (ps_ret (pe_f (c__law_deed T) hr (pa_cons (pv 0) (pa_cons (pv 1) pa_nil))))) pss_nil)
      (pss_one (ps_ret (pe_tup (pa_cons pe_str (pa_cons (pe_f (c__law_some T) hr (pa_cons (pv 0) (pa_cons (pv 1) pa_nil))) (pa_cons (pe_tupleOf (by rfl) T.ztuple (pe_lc (own := [("_law_k", 3)]) (g := gName 3) (tt := tYes) rfl sc__law_statement.nd (pi_range1 (by rfl) T.zrange (pa_cons (pe_f (c__law_draw T) hr (pa_cons (pv 0) (pa_cons (pe_op op_add (pv 2) pe_int) pa_nil))) pa_nil)) (blkOk_by (own := [("_law_k", 3)]) (N := ["_law_hand_here", "_law_own_here", "_law_most", "_law_k"]) (sc := defScope (top 60)) (by decide +kernel)) (fun _ _ _ _ _ => pg_name (i := 3) sc__law_statement.nd rfl (Or.inl rfl)) (fun _ _ _ _ _ => pts_nil) (fun _ _ _ _ _ => (pe_f (c__law_deed T) hr (pa_cons (pv 0) (pa_cons (pv 1) pa_nil)))))) pa_nil))))))), ?_⟩
    have ln : 1 ≤ ns.length := by
      cases ns with
      | nil => exact absurd rfl nn
      | cons x r => simp
    refine ⟨_, rfl, h, 2, rfl, hh, by decide, by decide, fun k H1 hk g => ?_⟩
    refine ⟨rfl, _, rfl, ?_⟩
    by_cases k0 : k = 0
    · subst k0
      rw [zero0]
      refine ⟨_, rfl, _, rfl, h, l, ns, rfl, g.b, g.strs hl, nn, nl, fun d v H2 hd hv g2 => ?_⟩
      exact q (.deed d) v H2 ⟨hd, (fun _ z => nomatch z), Nat.zero_le _⟩ hv (g.trans g2)
    · rw [decide_eq_false (fun z => k0 (by injection z with z; omega))]
      refine ⟨_, rfl, _, rfl, h, l, ns.map .str, rfl, g.b, g.strs hl, strs_ne g.b (g.strs hl) nn, by rw [List.length_map]; exact ln, by rw [List.length_map]; omega, fun v H2 hv g2 => ?_⟩
      obtain ⟨x, hx, rfl⟩ := List.mem_map.mp hv
      replace g2 := g.trans g2
      refine ⟨_, rfl, _, rfl, _, _, rfl, rfl, h, _, rfl, g2.b, by omega, by omega, fun n H3 hn g3 => ?_⟩
      replace g3 := g2.trans g3
      refine ⟨(n : Int), rfl, by omega, by omega, fun D nD => ?_⟩
      refine lc_it walk_range (fun i H4 => Go h H3 H4 ∧ ∃ vs ds, H4 D = some (.lst vs) ∧ vs.length = i ∧ Paired (DdAt H4) vs ds ∧ ∀ d ∈ ds, ∀ x ∈ d.nms, x ∈ ns) ⟨.same g3.b (same_upd nD), [], [], upd_same, rfl, .nil, fun _ z => nomatch z⟩ (fun _ _ _ _ => trivial) ?_ ?_
      · rintro i v H4 H5 hi ⟨g4, vs, ds, h1, h2, h3, h4⟩ ⟨rfl, rfl⟩
        refine ⟨rfl, _, rfl, _, rfl, h, l, ns, rfl, g4.b, (g3.trans g4).strs hl, nn, nl, fun d v H5 hd hv g5 => ?_⟩
        have nDh := g3.b.ne nD
        have e5 := g5.lst h1 nDh
        have t5 := tk_lst (o := .lst (vs ++ [v])) e5
        refine ⟨vs, e5, lineL (by omega), (g4.trans g5).grow nD, vs ++ [v], ds ++ [d], upd_same, by simp [h2], pr_app ((prDd_tk (g5.tk) h3).mono fun _ _ z => DdAt.tk t5 z) (pr_one (hv.tk t5)), fun d' hd' => ?_⟩
        rcases List.mem_append.mp hd' with z | z
        · exact h4 d' z
        · rw [List.mem_singleton.mp z]
          exact hd
      · rintro H4 ⟨g4, vs, ds, h1, h2, h3, h4⟩
        refine .inl ⟨D, vs, rfl, SqL.of h1, fun p np => ⟨by show 3 ≤ sizeLine; decide, fun t nt => ?_⟩⟩
        have s5 := (same_upd (o := .tup vs) np).trans (same_upd (o := .tup [.str "round", .str x, .ref p]) nt)
        refine q (.round x ds) _ _ ⟨by simpa [Sm.nms] using hx, h4, ?_⟩ ⟨t, _, rfl, upd_same, p, vs, rfl, same_upd nt _ _ upd_same, prDd_tk s5.tk h3⟩ ((g3.trans g4).then s5)
        show ds.length ≤ m
        rw [← h3.length]
        omega
end
end Fr
/-! ## FrLaw3 -/
set_option Elab.async false
set_option linter.all false
set_option maxRecDepth 100000
set_option maxHeartbeats 4000000
/-! The law's parts; inputs; places; parts without and with a statement. -/
namespace Fr
open PySem PySem.Spec PyProof.Rows L2
section
variable {P : Program} {w : World} {K : PySem.W.Frag} {mg : Str → Option Value} {base : Heap}
theorem min2 (i j : Int) : (if j < i then j else i) = min i j := by
  rw [Int.min_def]
  split <;> split <;> omega
theorem sc__law_parts : FnScope ["_law_hand_here", "_law_most_names", "_law_most_statements", "_law_most_deeds", "_law_most_given", "_law_own_here", "_law_given", "_law_told", "_law_many", "_law_k"] ["_law_hand_here", "_law_most_names", "_law_most_statements", "_law_most_deeds", "_law_most_given"] (defScope (top 61)) := ⟨rfl, rfl, rfl, by decide +kernel, rfl, by decide +kernel, by decide +kernel⟩
/-- small parts -/
structure Pt.small (p : Pt) (ms md : Nat) : Prop where
  ok : p.ok
  bl : p.block.length ≤ ms
  fw : ∀ s ∈ p.block, s.ins.length ≤ md
def spParts : Sp := fun vs H Q _ => ∃ (h : Addr) (mn ms md : Nat), vs = [.ref h, .int (mn : Int), .int (ms : Int), .int (md : Int), .int 2] ∧ Hand H h ∧ 1 ≤ mn ∧ mn ≤ 8 ∧ ms ≤ 60 ∧ md ≤ 12 ∧ ∀ (pt : Pt) (v : V) H', pt.small ms md → PtAt H' v pt → Go h H H' → Q v H'
theorem c__law_parts (T : Txt K mg) : Cl P w K mg base 5 "_law_parts" ["_law_hand_here", "_law_most_names", "_law_most_statements", "_law_most_deeds", "_law_most_given"] spParts := by
  refine cl_of T.f_law_parts T.g_law_parts sc__law_parts (fun _ _ _ _ _ _ us hl => match us, hl with | [_, _, _, _, _], _ => rfl) (fun vs H Q E h => ?_) (fun cdv A outer s H vs Q E hr h => ?_)
  · obtain ⟨h, mn, ms, md, rfl, _⟩ := h
    rfl
  · obtain ⟨h, mn, ms, md, rfl, hh, n1, n8, s60, d12, q⟩ := h
    refine ⟨_, (pss_cons (ps_set (i := 5) sc__law_parts.nd rfl (Or.inr rfl) (pe_f (c__law_own T) hr (pa_cons (pv 0) (pa_cons (pe_op op_add pe_int (pe_f (c__law_draw T) hr (pa_cons (pv 0) (pa_cons (pv 1) pa_nil)))) pa_nil))))
      (pss_cons (ps_set (i := 6) sc__law_parts.nd rfl (Or.inl rfl) (pe_tupleOf (by rfl) T.ztuple (pe_slice sl_list (pv 5) po_none (po_some (pe_f (c__law_draw T) hr (pa_cons (pv 0) (pa_cons (pe_op op_add (pe_callB (call_min2 rfl) (by rfl) T.zmin bo_min (pa_cons (pv 4) (pa_cons (pe_callB call_len_seq (by rfl) T.zlen bo_len (pa_cons (pv 5) pa_nil)) pa_nil))) pe_int) pa_nil)))))))
      (pss_cons (ps_set (i := 7) sc__law_parts.nd rfl (Or.inl rfl) (pe_tupleOf (by rfl) T.ztuple (pe_slice sl_list (pe_f (c__law_shuffled T) hr (pa_cons (pv 0) (pa_cons (pv 5) pa_nil))) po_none (po_some (pe_op op_add pe_int (pe_f (c__law_draw T) hr (pa_cons (pv 0) (pa_cons (pe_callB (call_min2 rfl) (by rfl) T.zmin bo_min (pa_cons pe_int (pa_cons (pe_callB call_len_seq (by rfl) T.zlen bo_len (pa_cons (pv 5) pa_nil)) pa_nil))) pa_nil))))))))
      (pss_cons (ps_set (i := 8) sc__law_parts.nd rfl (Or.inl rfl) (pe_f (c__law_draw T) hr (pa_cons (pv 0) (pa_cons (pe_op op_add (pv 2) pe_int) pa_nil))))
      (pss_one (ps_ret (pe_tup (pa_cons (pv 6) (pa_cons (pv 7) (pa_cons (pe_tupleOf (by rfl) T.ztuple (pe_lc (own := [("_law_k", 9)]) (g := gName 9) (tt := tYes) rfl sc__law_parts.nd (pi_range1 (by rfl) T.zrange (pa_cons (pv 8) pa_nil)) (blkOk_by (own := [("_law_k", 9)]) (N := ["_law_hand_here", "_law_most_names", "_law_most_statements", "_law_most_deeds", "_law_most_given", "_law_own_here", "_law_given", "_law_told", "_law_many", "_law_k"]) (sc := defScope (top 61)) (by decide +kernel)) (fun _ _ _ _ _ => pg_name (i := 9) sc__law_parts.nd rfl (Or.inl rfl)) (fun _ _ _ _ _ => pts_nil) (fun _ _ _ _ _ => (pe_f (c__law_statement T) hr (pa_cons (pv 0) (pa_cons (pv 5) (pa_cons (pv 3) pa_nil))))))) pa_nil)))))))))), ?_⟩
    refine ⟨_, rfl, _, rfl, _, rfl, h, (mn : Int), rfl, hh, by omega, by omega, fun k1 H1 hk1 g1 => ?_⟩
    refine ⟨_, _, rfl, rfl, h, 1 + k1, rfl, g1.b, by omega, fun r ns H2 nd hm hl hr2 g2 => ?_⟩
    replace g1 := g1.trans g2
    replace g2 := Go.refl g2.b
    have nn : ns ≠ [] := by
      intro z
      rw [z] at hl
      simp at hl
      omega
    have nrh := strs_ne g2.b hr2 nn
    refine ⟨_, rfl, _, rfl, _, rfl, _, rfl, r, _, rfl, .inl (SqL.of hr2), _, _, rfl, ?_⟩
    rw [min2, List.length_map]
    refine ⟨_, _, rfl, rfl, h, _, rfl, g2.b, by omega, by omega, fun k2 H3 hk2 g3 => ?_⟩
    replace g3 := g2.trans g3
    have er : ∀ {H' : Hp}, Go h H2 H' → H' r = some (.lst (ns.map .str)) := fun g => g.strs hr2
    have g3' := g3
    refine ⟨(k2 : Int), rfl, r, _, rfl, SqL.of (er g3), fun t nt => ?_⟩
    rw [cut_to, ← List.map_take]
    refine .inl ⟨t, _, rfl, SqL.of upd_same, fun p np => ?_⟩
    have s4 := (same_upd (o := .lst ((ns.take k2).map V.str)) nt).trans (same_upd (o := .tup ((ns.take k2).map V.str)) np)
    have hgv : NsAt (upd (upd H3 t (.lst ((ns.take k2).map V.str))) p (.tup ((ns.take k2).map V.str))) (.ref p) (ns.take k2) := ⟨p, rfl, upd_same⟩
    have g4 := g3.then s4
    generalize (upd (upd H3 t (.lst ((ns.take k2).map V.str))) p (.tup ((ns.take k2).map V.str))) = H4 at *
    refine ⟨_, rfl, _, rfl, h, r, ns.map .str, rfl, g4.b, er g4, strs_ne g4.b (er g4) nn, by rw [List.length_map]; omega, fun r2 ys H5 pm nr2 g5 hr5 => ?_⟩
    obtain ⟨ts, pt, rfl⟩ := perm_strs pm
    have g25 := g4.trans g5
    have tl := pt.length_eq
    have tn : ts ≠ [] := by
      intro z
      rw [z] at tl
      simp at tl
      omega
    refine ⟨_, rfl, _, rfl, r, _, rfl, .inl (SqL.of (er g25)), _, _, rfl, ?_⟩
    rw [min2, List.length_map]
    refine ⟨h, _, rfl, g25.b, by omega, by omega, fun k3 H6 hk3 g6 => ?_⟩
    have g26 := g25.trans g6
    refine ⟨_, _, rfl, rfl, ((1 + k3 : Nat) : Int), rfl, r2, _, rfl, SqL.of (g6.strs hr5), fun t2 nt2 => ?_⟩
    rw [cut_to, ← List.map_take]
    refine .inl ⟨t2, _, rfl, SqL.of upd_same, fun p2 np2 => ?_⟩
    have s7 := (same_upd (o := .lst ((ts.take (1 + k3)).map V.str)) nt2).trans (same_upd (o := .tup ((ts.take (1 + k3)).map V.str)) np2)
    have htl : NsAt (upd (upd H6 t2 (.lst ((ts.take (1 + k3)).map V.str))) p2 (.tup ((ts.take (1 + k3)).map V.str))) (.ref p2) (ts.take (1 + k3)) := ⟨p2, rfl, upd_same⟩
    have g7 := g26.then s7
    have g47 := (g5.trans g6).then s7
    replace hgv := hgv.tk g47.tk
    generalize (upd (upd H6 t2 (.lst ((ts.take (1 + k3)).map V.str))) p2 (.tup ((ts.take (1 + k3)).map V.str))) = H7 at *
    refine ⟨_, rfl, _, rfl, _, _, rfl, rfl, h, _, rfl, g7.b, by omega, by omega, fun n H8 hn g8 => ?_⟩
    have g28 := g7.trans g8
    replace hgv := hgv.tk g8.tk
    replace htl := htl.tk g8.tk
    refine ⟨_, rfl, _, rfl, _, rfl, (n : Int), rfl, by omega, by omega, fun D nD => ?_⟩
    refine lc_it walk_range (fun i H9 => Go h H8 H9 ∧ ∃ vs b, H9 D = some (.lst vs) ∧ vs.length = i ∧ Paired (SmAt H9) vs b ∧ ∀ s ∈ b, s.on ns md) ⟨.same g28.b (same_upd nD), [], [], upd_same, rfl, .nil, fun _ z => nomatch z⟩ (fun _ _ _ _ => trivial) ?_ ?_
    · rintro i v H9 H10 hi ⟨g9, vs, b, h1, h2, h3, h4⟩ ⟨rfl, rfl⟩
      refine ⟨rfl, _, rfl, _, rfl, _, rfl, h, r, ns, md, rfl, g9.b, er (g28.trans g9), nn, by omega, by omega, fun st v H10 hst hv g10 => ?_⟩
      have nDh := g28.b.ne nD
      have e5 := g10.lst h1 nDh
      have t5 := tk_lst (o := .lst (vs ++ [v])) e5
      refine ⟨vs, e5, lineL (by omega), (g9.trans g10).grow nD, vs ++ [v], b ++ [st], upd_same, by simp [h2], pr_app ((prSm_tk (g10.tk) h3).mono fun _ _ z => SmAt.tk t5 z) (pr_one (hv.tk t5)), fun s' hs' => ?_⟩
      rcases List.mem_append.mp hs' with z | z
      · exact h4 s' z
      · rw [List.mem_singleton.mp z]
        exact hst
    · rintro H9 ⟨g9, vs, b, h1, h2, h3, h4⟩
      refine .inl ⟨D, vs, rfl, SqL.of h1, fun p3 np3 => ⟨by show 3 ≤ sizeLine; decide, fun p4 np4 => ?_⟩⟩
      have s11 := (same_upd (o := .tup vs) np3).trans (same_upd (o := .tup [.ref p, .ref p2, .ref p3]) np4)
      have hbl := h3.length
      refine q ⟨ns.take k2, ts.take (1 + k3), b⟩ _ _ ⟨⟨nd.sublist (List.take_sublist ..), fun x hx => hm x (List.mem_of_mem_take hx), ?_, (pt.nodup_iff.mpr nd).sublist (List.take_sublist ..), fun x hx => hm x (pt.mem_iff.mp (List.mem_of_mem_take hx)), ?_, ?_, fun s hs => ?_, ?_⟩, ?_, fun s hs => (h4 s hs).few⟩
        ⟨p4, _, _, _, rfl, upd_same, hgv.tk (fun a xs e => s11 _ _ (g9.tk a xs e)), htl.tk (fun a xs e => s11 _ _ (g9.tk a xs e)), p3, vs, rfl, same_upd np4 _ _ upd_same, prSm_tk s11.tk h3⟩ ((g1.trans (g28.trans g9)).then s11)
      · show (ns.take k2).length ≤ 2
        rw [List.length_take]
        omega
      · show 1 ≤ (ts.take (1 + k3)).length
        rw [List.length_take]
        omega
      · show (ts.take (1 + k3)).length ≤ 4
        rw [List.length_take]
        omega
      · exact ⟨fun x hx => hm x ((h4 s hs).nm x hx), fun d hd x hx => hm x ((h4 s hs).im d hd x hx), by have := (h4 s hs).few; omega⟩
      · show b.length ≤ 64
        omega
      · show b.length ≤ ms
        omega
end
end Fr
/-! ## FrLaw4 -/
set_option Elab.async false
set_option linter.all false
set_option maxRecDepth 100000
set_option maxHeartbeats 4000000
/-! Inputs; places; parts without and with a statement. -/
namespace Fr
open PySem PySem.Spec PyProof.Rows L2
/-- the statement or deed at p -/
def Pt.get (pt : Pt) (p : Pl) : Option Sm := match p.j with
  | none => pt.block[p.k]?
  | some j => match pt.block[p.k]? with
    | some (.round _ ds) => ds[j]?.map .deed
    | _ => none
theorem Tk.trans' {H H1 H2 : Hp} (a : Tk H H1) (b : Same H1 H2) : Tk H H2 := a.trans b.tk
section
variable {P : Program} {w : World} {K : PySem.W.Frag} {mg : Str → Option Value} {base : Heap}
theorem sc__law_input : FnScope ["_law_hand_here", "_law_parts_here", "_law_most", "_law_name"] ["_law_hand_here", "_law_parts_here", "_law_most"] (defScope (top 64)) := ⟨rfl, rfl, rfl, by decide +kernel, rfl, by decide +kernel, by decide +kernel⟩
def spLawInput : Sp := fun vs H Q _ => ∃ (h : Addr) (v : V) (pt : Pt), vs = [.ref h, v, .int 40] ∧ Hand H h ∧ PtAt H v pt ∧ pt.ok ∧ ∀ (ns : List Nat) (u : V) H', ns.length = pt.given.length → (∀ n ∈ ns, n ≤ 40) → IsAt H' u ns → Go h H H' → Q u H'
theorem c__law_input (T : Txt K mg) : Cl P w K mg base 2 "_law_input" ["_law_hand_here", "_law_parts_here", "_law_most"] spLawInput := by
  refine cl_of T.f_law_input T.g_law_input sc__law_input (fun _ _ _ _ _ _ us hl => match us, hl with | [_, _, _], _ => rfl) (fun vs H Q E h => ?_) (fun cdv A outer s H vs Q E hr h => ?_)
  · obtain ⟨h, v, pt, rfl, _⟩ := h
    rfl
  · obtain ⟨h, v, pt, rfl, hh, ⟨a, g, t, b, rfl, ha, ⟨ga, rfl, hga⟩, ht, hb⟩, ok, q⟩ := h
    have hgl := ok.gl
    refine ⟨_, (pss_cons (ps_if (pt_cmpR op_gt (pv 2) (pe_op op_pow pe_int pe_int) (nomark _)) (pss_one ps_never) pss_nil)
      (pss_one (ps_ret (pe_tupleOf (by rfl) T.ztuple (pe_lc (own := [("_law_name", 3)]) (g := gName 3) (tt := tYes) rfl sc__law_input.nd (pi_tup (pe_ix ix_tup (pv 1) pe_int (fun _ _ => rfl))) (blkOk_by (own := [("_law_name", 3)]) (N := ["_law_hand_here", "_law_parts_here", "_law_most", "_law_name"]) (sc := defScope (top 64)) (by decide +kernel)) (fun _ _ _ _ _ => pg_name (i := 3) sc__law_input.nd rfl (Or.inl rfl)) (fun _ _ _ _ _ => pts_nil) (fun _ _ _ _ _ => (pe_f (c__law_draw T) hr (pa_cons (pv 0) (pa_cons (pe_op op_add (pv 2) pe_int) pa_nil))))))))), ?_⟩
    refine ⟨_, rfl, _, _, rfl, rfl, ⟨by decide, by decide, by decide⟩, _, _, rfl, rfl, _, rfl, ?_⟩
    rw [show decide ((10 : Int) ^ (6 : Int).toNat < 40) = false by decide]
    refine ⟨_, rfl, a, _, 0, .ref ga, rfl, rfl, SqT.of ha, rfl, ga, rfl, ⟨_, SqT.of hga⟩, fun D nD => ?_⟩
    refine lc_tup (K := K) (a := ga) (xs := pt.given.map V.str) (fun i H1 => Go h H H1 ∧ ∃ ns : List Nat, H1 D = some (.lst (ns.map fun n : Nat => V.int (n : Int))) ∧ ns.length = i ∧ ∀ n ∈ ns, n ≤ 40) ⟨.same hh (same_upd nD), [], upd_same, rfl, fun _ z => nomatch z⟩ (fun i H1 _ h => SqT.of (h.1.tk _ _ hga)) ?_ ?_
    · rintro i v H1 hi ⟨g1, ns, h1, h2, h3⟩
      have hi2 : i < (pt.given.map V.str).length := (List.getElem?_eq_some_iff.mp hi).1
      rw [List.length_map] at hi2
      refine ⟨rfl, _, rfl, _, rfl, _, _, rfl, rfl, h, _, rfl, g1.b, by decide, by decide, fun k H2 hk g2 => ?_⟩
      have e2 := g2.lst h1 (hh.ne nD)
      refine ⟨_, e2, lineL (by rw [List.length_map]; omega), (g1.trans g2).grow nD, ns ++ [k], by rw [upd_same]; simp, by simp [h2], fun n hn => ?_⟩
      rcases List.mem_append.mp hn with z | z
      · exact h3 n z
      · rw [List.mem_singleton.mp z]
        omega
    · rintro H1 ⟨g1, ns, h1, h2, h3⟩
      refine .inl ⟨D, _, rfl, SqL.of h1, fun p np => ?_⟩
      exact q ns _ _ (by rw [h2, List.length_map]) h3 ⟨p, rfl, upd_same⟩ (g1.then (same_upd np))
theorem sc__law_at : FnScope ["_law_parts_here", "_law_place", "_law_statement_here"] ["_law_parts_here", "_law_place"] (defScope (top 63)) := ⟨rfl, rfl, rfl, by decide +kernel, rfl, by decide +kernel, by decide +kernel⟩
def spAt : Sp := fun vs H Q _ => ∃ (v u : V) (pt : Pt) (p : Pl), vs = [v, u] ∧ PtAt H v pt ∧ PlAt H u p ∧ pt.has p ∧ ∀ s x, pt.get p = some s → SmAt H x s → Q x H
theorem c__law_at (T : Txt K mg) : Cl P w K mg base 1 "_law_at" ["_law_parts_here", "_law_place"] spAt := by
  refine cl_of T.f_law_at T.g_law_at sc__law_at (fun _ _ _ _ _ _ us hl => match us, hl with | [_, _], _ => rfl) (fun vs H Q E h => ?_) (fun cdv A outer s H vs Q E hr h => ?_)
  · obtain ⟨v, u, pt, p, rfl, _⟩ := h
    rfl
  · obtain ⟨v, u, pt, ⟨k, j⟩, rfl, ⟨a, g, t, b, rfl, ha, hg, ht, hb⟩, ⟨c, rfl, hc⟩, ⟨h1, h2⟩, q⟩ := h
    refine ⟨_, (pss_cons (ps_set (i := 2) sc__law_at.nd rfl (Or.inl rfl) (pe_ix ix_tup (pe_ix ix_tup (pv 0) pe_int (fun _ _ => rfl)) (pe_ix ix_tup (pv 1) pe_int (fun _ _ => rfl)) (fun _ _ => rfl)))
      (pss_one (ps_ret (pe_ifExp (pt_cmpR op_eq (pe_callB call_len_seq (by rfl) T.zlen bo_len (pa_cons (pv 1) pa_nil)) pe_int (nomark _)) (pv 2) (pe_ix ix_tup (pe_ix ix_tup (pv 2) pe_int (fun _ _ => rfl)) (pe_ix ix_tup (pv 1) pe_int (fun _ _ => rfl)) (fun _ _ => rfl)))))), ?_⟩
    obtain ⟨bb, us, rfl, hbb, pr, hl⟩ := hb.len
    replace h1 : k < pt.block.length := h1
    have hk : pt.block[k]? = some pt.block[k] := List.getElem?_eq_getElem h1
    obtain ⟨x, hx, hs⟩ := pr_get pr hk
    refine ⟨_, rfl, a, _, 2, .ref bb, rfl, rfl, SqT.of ha, rfl, _, rfl, c, _, 0, .int (k : Int), rfl, rfl, SqT.of hc, atI_nat (j := 0) rfl, bb, us, (k : Int), x, rfl, rfl, SqT.of hbb, atI_nat hx, ?_⟩
    cases j with
    | none =>
      exact ⟨_, rfl, c, _, rfl, .inr (SqT.of hc), rfl, true, rfl, _, rfl, q _ _ hk hs⟩
    | some j =>
      obtain ⟨y, ds, hk2, hj⟩ := h2 j rfl
      replace hk2 : pt.block[k]? = some (.round y ds) := hk2
      rw [hk] at hk2
      rw [Option.some.inj hk2] at hs hk
      obtain ⟨d, e, ws, rfl, hd, he, pr'⟩ := hs.round
      have hdj : ds[j]? = some ds[j] := List.getElem?_eq_getElem hj
      obtain ⟨z, hz, hzd⟩ := pr_get pr' hdj
      refine ⟨_, rfl, c, _, rfl, .inr (SqT.of hc), rfl, false, rfl, _, rfl, d, _, 2, .ref e, rfl, rfl, SqT.of hd, rfl, _, rfl, c, _, 1, .int (j : Int), rfl, rfl, SqT.of hc, rfl, e, ws, (j : Int), z, rfl, rfl, SqT.of he, atI_nat hz, q (.deed ds[j]) z ?_ hzd⟩
      show (match pt.block[k]? with
        | some (.round _ ds) => ds[j]?.map Sm.deed
        | _ => none) = _
      rw [hk]
      show ds[j]?.map Sm.deed = _
      rw [hdj]
      rfl
theorem sc__law_made : FnScope ["_law_parts_here"] ["_law_parts_here"] (defScope (top 65)) := ⟨rfl, rfl, rfl, by decide +kernel, rfl, by decide +kernel, by decide +kernel⟩
def spMade (K : PySem.W.Frag) : Sp := fun vs H Q _ => ∃ (v : V) (pt : Pt), vs = [v] ∧ PtAt H v pt ∧ pt.ok ∧ ∀ u H', Same H H' → PgAt (CP K) H' u pt → Q u H'
theorem c__law_made (T : Txt K mg) : Cl P w K mg base 6 "_law_made" ["_law_parts_here"] (spMade K) := by
  refine cl_of T.f_law_made T.g_law_made sc__law_made (fun _ _ _ _ _ _ us hl => match us, hl with | [_], _ => rfl) (fun vs H Q E h => ?_) (fun cdv A outer s H vs Q E hr h => ?_)
  · obtain ⟨v, pt, rfl, _⟩ := h
    rfl
  · obtain ⟨v, pt, rfl, ⟨a, g, t, b, rfl, ha, hg, ht, hb⟩, ok, q⟩ := h
    refine ⟨_, (pss_one (ps_ret (pe_mk2 (c_Program T) hr (pa_cons (pe_ix ix_tup (pv 0) pe_int (fun _ _ => rfl)) (pa_cons (pe_ix ix_tup (pv 0) pe_int (fun _ _ => rfl)) (pa_cons (pe_ix ix_tup (pv 0) pe_int (fun _ _ => rfl)) pa_nil)))))), ?_⟩
    exact ⟨_, rfl, a, _, 0, g, rfl, rfl, SqT.of ha, rfl, _, rfl, a, _, 1, t, rfl, rfl, SqT.of ha, rfl, _, rfl, a, _, 2, b, rfl, rfl, SqT.of ha, rfl, fun x dx nx ndx nex => made_by nx ndx hg ht hb ok fun H' s' h' => q _ H' s' h'⟩
theorem sc__law_holds : FnScope ["_law_program", "_law_parts_here"] ["_law_program", "_law_parts_here"] (defScope (top 70)) := ⟨rfl, rfl, rfl, by decide +kernel, rfl, by decide +kernel, by decide +kernel⟩
def spHolds (K : PySem.W.Frag) : Sp := fun vs H Q _ => ∃ (x v : V) (pt : Pt), vs = [x, v] ∧ Pg K H x pt ∧ PtAt H v pt ∧ pt.ok ∧ ∀ H', Same H H' → Q (.bl true) H'
theorem c__law_holds (T : Txt K mg) : Cl P w K mg base 7 "_law_holds" ["_law_program", "_law_parts_here"] (spHolds K) := by
  refine cl_of T.f_law_holds T.g_law_holds sc__law_holds (fun _ _ _ _ _ _ us hl => match us, hl with | [_, _], _ => rfl) (fun vs H Q E h => ?_) (fun cdv A outer s H vs Q E hr h => ?_)
  · obtain ⟨x, v, pt, rfl, _⟩ := h
    rfl
  · obtain ⟨x, v, pt, rfl, ⟨C, pc, a, dx, g, t, b, rfl, hp, hg, ht, hb⟩, ⟨a', g', t', b', rfl, ha', hg', ht', hb'⟩, ok, q⟩ := h
    refine ⟨_, (pss_one (ps_ret (pe_and (pe_callB call_isi (by rfl) T.zisinstance bo_isi (pa_cons (pv 0) (pa_cons (pe_glob (v := .ref (CP K)) rfl T.gP rfl) pa_nil))) (pe_one (pe_f (c__law_is T 5) hr (pa_cons (pe_lst (pa_cons (pe_fld (pv 0) rfl) (pa_cons (pe_fld (pv 0) rfl) (pa_cons (pe_fld (pv 0) rfl) pa_nil)))) (pa_cons (pe_callTy call_list_of (by rfl) T.zlist bo_list (pa_cons (pv 1) pa_nil)) pa_nil))))))), ?_⟩
    refine ⟨_, rfl, _, _, _, _, true, rfl, .own _, .base (.ins hp pc.cl pc.isa.ha pc.isa.hn pc.isa.ht pc.isa.hm), pc.isa.hk, true, rfl, ?_⟩
    refine ⟨_, rfl, a, C, dx, _, _, rfl, hp, pc.cl, pc.ng, flds_g _ _ _, _, rfl, a, C, dx, _, _, rfl, hp, pc.cl, pc.nt, flds_t _ _ _, _, rfl, a, C, dx, _, _, rfl, hp, pc.cl, pc.nb, flds_b _ _ _, by show 3 ≤ sizeLine; decide, fun p1 n1 => ?_⟩
    have s1 := same_upd (o := .lst [g, t, b]) n1
    refine ⟨_, rfl, a', _, rfl, .inr (SqT.of (s1 _ _ ha')), fun p2 n2 => ?_⟩
    have s2 := s1.trans (same_upd (o := .lst [g', t', b']) n2)
    have l1 := ok.gl
    have l2 := ok.t4
    have l3 := ok.bl
    refine ⟨_, _, rfl, .inr ⟨p1, p2, [g, t, b], [g', t', b'], rfl, rfl, .inr ⟨same_upd n2 _ _ upd_same, upd_same⟩, ?_, by show 3 ≤ 1000; decide⟩, fun H3 s3 => q H3 (s2.trans s3)⟩
    exact .cons (TL.up (by decide) (tl_ns (by omega) (hg.tk s2.tk) (hg'.tk s2.tk))) (.cons (TL.up (by decide) (tl_ns (by omega) (ht.tk s2.tk) (ht'.tk s2.tk))) (.cons (tl_bk ok.bk (by omega) (hb.tk s2.tk) (hb'.tk s2.tk)) .nil))
theorem sc__law_without : FnScope ["_law_parts_here", "_law_place", "_law_given", "_law_told", "_law_block", "_law_k", "_law_deeds", "_law_statement_here"] ["_law_parts_here", "_law_place"] (defScope (top 67)) := ⟨rfl, rfl, rfl, by decide +kernel, rfl, by decide +kernel, by decide +kernel⟩
def spLawWithout : Sp := fun vs H Q _ => ∃ (v u : V) (pt : Pt) (p : Pl), vs = [v, u] ∧ PtAt H v pt ∧ PlAt H u p ∧ pt.ok ∧ pt.has p ∧ ∀ x H', Same H H' → PtAt H' x (pt.cut p) → Q x H'
theorem c__law_without (T : Txt K mg) : Cl P w K mg base 1 "_law_without" ["_law_parts_here", "_law_place"] spLawWithout := by
  refine cl_of T.f_law_without T.g_law_without sc__law_without (fun _ _ _ _ _ _ us hl => match us, hl with | [_, _], _ => rfl) (fun vs H Q E h => ?_) (fun cdv A outer s H vs Q E hr h => ?_)
  · obtain ⟨v, u, pt, p, rfl, _⟩ := h
    rfl
  · obtain ⟨v, u, pt, ⟨k, j⟩, rfl, ⟨a, g, t, b, rfl, ha, hg, ht, hb⟩, ⟨c, rfl, hc⟩, ok, ⟨h1, h2⟩, q⟩ := h
    refine ⟨_, (pss_cons (ps_asg (pv 0) (pg_tup (by rfl) (pgs_cons (pg_name (i := 2) sc__law_without.nd rfl (Or.inl rfl)) (pgs_cons (pg_name (i := 3) sc__law_without.nd rfl (Or.inl rfl)) (pgs_cons (pg_name (i := 4) sc__law_without.nd rfl (Or.inl rfl)) pgs_nil)))))
      (pss_cons (ps_set (i := 5) sc__law_without.nd rfl (Or.inl rfl) (pe_ix ix_tup (pv 1) pe_int (fun _ _ => rfl)))
      (pss_cons (ps_if (pt_cmpR op_eq (pe_callB call_len_seq (by rfl) T.zlen bo_len (pa_cons (pv 1) pa_nil)) pe_int (nomark _)) (pss_one (ps_ret (pe_tup (pa_cons (pv 2) (pa_cons (pv 3) (pa_cons (pe_op op_catF (pe_slice sl_B (pv 4) po_none (po_some (pv 5))) (pe_slice sl_F (pv 4) (po_some (pe_op op_add (pv 5) pe_int)) po_none)) pa_nil)))))) pss_nil)
      (pss_cons (ps_set (i := 6) sc__law_without.nd rfl (Or.inl rfl) (pe_ix ix_tup (pe_ix ix_tup (pv 4) (pv 5) (fun _ _ => rfl)) pe_int (fun _ _ => rfl)))
      (pss_cons (ps_set (i := 7) sc__law_without.nd rfl (Or.inl rfl) (pe_tup (pa_cons pe_str (pa_cons (pe_ix ix_tup (pe_ix ix_tup (pv 4) (pv 5) (fun _ _ => rfl)) pe_int (fun _ _ => rfl)) (pa_cons (pe_op op_catF (pe_slice sl_B (pv 6) po_none (po_some (pe_ix ix_tup (pv 1) pe_int (fun _ _ => rfl)))) (pe_slice sl_F (pv 6) (po_some (pe_op op_add (pe_ix ix_tup (pv 1) pe_int (fun _ _ => rfl)) pe_int)) po_none)) pa_nil)))))
      (pss_one (ps_ret (pe_tup (pa_cons (pv 2) (pa_cons (pv 3) (pa_cons (pe_op op_catF (pe_op op_catF (pe_slice sl_B (pv 4) po_none (po_some (pv 5))) (pe_tup (pa_cons (pv 7) pa_nil))) (pe_slice sl_F (pv 4) (po_some (pe_op op_add (pv 5) pe_int)) po_none)) pa_nil))))))))))), ?_⟩
    obtain ⟨bb, us, rfl, hbb, pr, hl⟩ := hb.len
    replace h1 : k < pt.block.length := h1
    have hbl := ok.bl
    refine ⟨_, rfl, a, _, rfl, SqT.of ha, rfl, _, _, rfl, _, _, rfl, _, _, rfl, rfl, ?_⟩
    refine ⟨_, rfl, c, _, 0, .int (k : Int), rfl, rfl, SqT.of hc, atI_nat (j := 0) rfl, ?_⟩
    cases j with
    | none =>
      refine ⟨_, rfl, c, _, rfl, .inr (SqT.of hc), rfl, true, rfl, ?_⟩
      refine ⟨_, rfl, _, rfl, _, rfl, _, rfl, (k : Int), rfl, bb, us, k, rfl, rfl, rfl, hbb, fun p2 H2 s2 h2 => ?_⟩
      refine ⟨_, rfl, _, rfl, _, _, rfl, rfl, _, rfl, bb, us, k + 1, rfl, rfl, rfl, s2 _ _ hbb, fun p3 H3 s3 h3 => ⟨p2, p3, _, _, rfl, rfl, s3 _ _ h2, h3, lineS (by rw [List.length_take, List.length_drop]; omega), fun p4 H4 s4 h4 => ?_⟩⟩
      refine ⟨by show 3 ≤ sizeLine; decide, fun p5 n5 => ?_⟩
      have s15 := ((s2.trans s3).trans s4).trans (same_upd (o := .tup [g, t, .ref p4]) n5)
      exact q _ _ s15 ⟨p5, g, t, .ref p4, rfl, upd_same, hg.tk s15.tk, ht.tk s15.tk, p4, _, rfl, same_upd n5 _ _ h4, pr_app (prSm_tk s15.tk (pr_take k pr)) (prSm_tk s15.tk (pr_drop (k + 1) pr))⟩
    | some j =>
      obtain ⟨y, ds, hk, hj⟩ := h2 j rfl
      replace hk : pt.block[k]? = some (.round y ds) := hk
      obtain ⟨v0, hv, hs⟩ := pr_get pr hk
      obtain ⟨d, e, ws, rfl, hd, he, pr'⟩ := hs.round
      have hl' := pr'.length
      have few : ds.length ≤ 16 := (ok.bk _ (List.mem_of_getElem? hk)).few
      refine ⟨_, rfl, c, _, rfl, .inr (SqT.of hc), rfl, false, rfl, ?_⟩
      refine ⟨_, rfl, _, rfl, bb, us, (k : Int), .ref d, rfl, rfl, SqT.of hbb, atI_nat hv, d, _, 2, .ref e, rfl, rfl, SqT.of hd, rfl, ?_⟩
      refine ⟨_, rfl, _, rfl, bb, us, (k : Int), .ref d, rfl, rfl, SqT.of hbb, atI_nat hv, d, _, 1, .str y, rfl, rfl, SqT.of hd, rfl, ?_⟩
      refine ⟨_, rfl, _, rfl, c, _, 1, .int (j : Int), rfl, rfl, SqT.of hc, rfl, (j : Int), rfl, e, ws, j, rfl, rfl, rfl, he, fun p2 H2 s2 h2 => ?_⟩
      refine ⟨_, rfl, _, rfl, c, _, 1, .int (j : Int), rfl, rfl, SqT.of (s2 _ _ hc), rfl, _, _, rfl, rfl, _, rfl, e, ws, j + 1, rfl, rfl, rfl, s2 _ _ he, fun p3 H3 s3 h3 => ⟨p2, p3, _, _, rfl, rfl, s3 _ _ h2, h3, lineS (by rw [List.length_take, List.length_drop]; omega), fun p4 H4 s4 h4 => ?_⟩⟩
      have s14 := (s2.trans s3).trans s4
      have e1 : pt.cut ⟨k, some j⟩ = pt.at k (.round y (ds.take j ++ ds.drop (j + 1))) := by
        show (match pt.block[k]? with
          | some (.round x ds) => pt.at k (.round x (ds.take j ++ ds.drop (j + 1)))
          | _ => pt) = _
        rw [hk]
      rw [e1] at q
      refine ⟨by show 3 ≤ sizeLine; decide, fun p5 n5 => ?_⟩
      have u5 := same_upd (o := .tup [.str "round", .str y, .ref p4]) n5
      have s15 := s14.trans u5
      refine ⟨_, rfl, _, rfl, _, rfl, _, rfl, (k : Int), rfl, bb, us, k, rfl, rfl, rfl, s15 _ _ hbb, fun p6 H6 s6 h6 => ?_⟩
      have s16 := s15.trans s6
      refine ⟨_, rfl, by show 1 ≤ sizeLine; decide, fun p7 n7 => ⟨p6, p7, _, _, rfl, rfl, same_upd n7 _ _ h6, upd_same, lineS (by rw [List.length_take]; simp; omega), fun p8 H8 s8 h8 => ?_⟩⟩
      have s18 := (s16.trans (same_upd n7)).trans s8
      refine ⟨_, rfl, _, rfl, _, _, rfl, rfl, _, rfl, bb, us, k + 1, rfl, rfl, rfl, s18 _ _ hbb, fun p9 H9 s9 h9 => ⟨p8, p9, _, _, rfl, rfl, s9 _ _ h8, h9, lineS (by rw [List.length_append, List.length_take, List.length_drop]; simp; omega), fun p10 H10 s10 h10 => ?_⟩⟩
      have s510 := ((((s6.trans (same_upd n7)).trans s8).trans s9).trans s10)
      have s110 := s15.trans s510
      refine ⟨by show 3 ≤ sizeLine; decide, fun p11 n11 => ?_⟩
      have u11 := same_upd (o := .tup [g, t, .ref p10]) n11
      have s111 := s110.trans u11
      have h4' := (u5.trans (s510.trans u11)) _ _ h4
      have hsm : SmAt (upd H10 p11 (.tup [g, t, .ref p10])) (.ref p5) (.round y (ds.take j ++ ds.drop (j + 1))) :=
        ⟨p5, .ref p4, rfl, (s510.trans u11) _ _ upd_same, p4, _, rfl, h4', pr_app (prDd_tk s111.tk (pr_take j pr')) (prDd_tk s111.tk (pr_drop (j + 1) pr'))⟩
      exact q _ _ s111 ⟨p11, g, t, .ref p10, rfl, upd_same, hg.tk s111.tk, ht.tk s111.tk, p10, _, rfl, u11 _ _ h10, pr_app (pr_app (prSm_tk s111.tk (pr_take k pr)) (pr_one hsm)) (prSm_tk s111.tk (pr_drop (k + 1) pr))⟩
end
end Fr
/-! ## FrLaw5 -/
set_option Elab.async false
set_option linter.all false
set_option maxRecDepth 100000
set_option maxHeartbeats 4000000
/-! Parts with a statement; places; gaps. -/
namespace Fr
open PySem PySem.Spec PyProof.Rows L2
section
variable {P : Program} {w : World} {K : PySem.W.Frag} {mg : Str → Option Value} {base : Heap}
theorem sc__law_with : FnScope ["_law_parts_here", "_law_place", "_law_thing", "_law_given", "_law_told", "_law_block", "_law_k", "_law_deeds", "_law_statement_here"] ["_law_parts_here", "_law_place", "_law_thing"] (defScope (top 68)) := ⟨rfl, rfl, rfl, by decide +kernel, rfl, by decide +kernel, by decide +kernel⟩
def spLawWith : Sp := fun vs H Q _ => ∃ (v u z : V) (pt : Pt) (p : Pl) (s : Sm), vs = [v, u, z] ∧ PtAt H v pt ∧ PlAt H u p ∧ SmAt H z s ∧ pt.ok ∧ pt.gap p ∧ Fits p s ∧ ∀ x H', Same H H' → PtAt H' x (pt.put p s) → Q x H'
theorem c__law_with (T : Txt K mg) : Cl P w K mg base 1 "_law_with" ["_law_parts_here", "_law_place", "_law_thing"] spLawWith := by
  refine cl_of T.f_law_with T.g_law_with sc__law_with (fun _ _ _ _ _ _ us hl => match us, hl with | [_, _, _], _ => rfl) (fun vs H Q E h => ?_) (fun cdv A outer s H vs Q E hr h => ?_)
  · obtain ⟨v, u, z, pt, p, s, rfl, _⟩ := h
    rfl
  · obtain ⟨v, u, z, pt, ⟨k, j⟩, st, rfl, ⟨a, g, t, b, rfl, ha, hg, ht, hb⟩, ⟨c, rfl, hc⟩, hst, ok, ⟨h1, h2⟩, fit, q⟩ := h
    refine ⟨_, (pss_cons (ps_asg (pv 0) (pg_tup (by rfl) (pgs_cons (pg_name (i := 3) sc__law_with.nd rfl (Or.inl rfl)) (pgs_cons (pg_name (i := 4) sc__law_with.nd rfl (Or.inl rfl)) (pgs_cons (pg_name (i := 5) sc__law_with.nd rfl (Or.inl rfl)) pgs_nil)))))
      (pss_cons (ps_set (i := 6) sc__law_with.nd rfl (Or.inl rfl) (pe_ix ix_tup (pv 1) pe_int (fun _ _ => rfl)))
      (pss_cons (ps_if (pt_cmpR op_eq (pe_callB call_len_seq (by rfl) T.zlen bo_len (pa_cons (pv 1) pa_nil)) pe_int (nomark _)) (pss_one (ps_ret (pe_tup (pa_cons (pv 3) (pa_cons (pv 4) (pa_cons (pe_op op_catF (pe_op op_catF (pe_slice sl_B (pv 5) po_none (po_some (pv 6))) (pe_tup (pa_cons (pv 2) pa_nil))) (pe_slice sl_F (pv 5) (po_some (pv 6)) po_none)) pa_nil)))))) pss_nil)
      (pss_cons (ps_set (i := 7) sc__law_with.nd rfl (Or.inl rfl) (pe_ix ix_tup (pe_ix ix_tup (pv 5) (pv 6) (fun _ _ => rfl)) pe_int (fun _ _ => rfl)))
      (pss_cons (ps_set (i := 8) sc__law_with.nd rfl (Or.inl rfl) (pe_tup (pa_cons pe_str (pa_cons (pe_ix ix_tup (pe_ix ix_tup (pv 5) (pv 6) (fun _ _ => rfl)) pe_int (fun _ _ => rfl)) (pa_cons (pe_op op_catF (pe_op op_catF (pe_slice sl_B (pv 7) po_none (po_some (pe_ix ix_tup (pv 1) pe_int (fun _ _ => rfl)))) (pe_tup (pa_cons (pv 2) pa_nil))) (pe_slice sl_F (pv 7) (po_some (pe_ix ix_tup (pv 1) pe_int (fun _ _ => rfl))) po_none)) pa_nil)))))
      (pss_one (ps_ret (pe_tup (pa_cons (pv 3) (pa_cons (pv 4) (pa_cons (pe_op op_catF (pe_op op_catF (pe_slice sl_B (pv 5) po_none (po_some (pv 6))) (pe_tup (pa_cons (pv 8) pa_nil))) (pe_slice sl_F (pv 5) (po_some (pe_op op_add (pv 6) pe_int)) po_none)) pa_nil))))))))))), ?_⟩
    obtain ⟨bb, us, rfl, hbb, pr, hl⟩ := hb.len
    replace h1 : k ≤ pt.block.length := h1
    have hbl := ok.bl
    refine ⟨_, rfl, a, _, rfl, SqT.of ha, rfl, _, _, rfl, _, _, rfl, _, _, rfl, rfl, ?_⟩
    refine ⟨_, rfl, c, _, 0, .int (k : Int), rfl, rfl, SqT.of hc, atI_nat (j := 0) rfl, ?_⟩
    cases j with
    | none =>
      refine ⟨_, rfl, c, _, rfl, .inr (SqT.of hc), rfl, true, rfl, ?_⟩
      refine ⟨_, rfl, _, rfl, _, rfl, _, rfl, (k : Int), rfl, bb, us, k, rfl, rfl, rfl, hbb, fun p2 H2 s2 h2 => ?_⟩
      refine ⟨_, rfl, by show 1 ≤ sizeLine; decide, fun p3 n3 => ⟨p2, p3, _, _, rfl, rfl, same_upd n3 _ _ h2, upd_same, lineS (by rw [List.length_take]; simp; omega), fun p4 H4 s4 h4 => ?_⟩⟩
      have s14 := (s2.trans (same_upd n3)).trans s4
      refine ⟨_, rfl, _, rfl, (k : Int), rfl, bb, us, k, rfl, rfl, rfl, s14 _ _ hbb, fun p5 H5 s5 h5 => ⟨p4, p5, _, _, rfl, rfl, s5 _ _ h4, h5, lineS (by rw [List.length_append, List.length_take, List.length_drop]; simp; omega), fun p6 H6 s6 h6 => ?_⟩⟩
      refine ⟨by show 3 ≤ sizeLine; decide, fun p7 n7 => ?_⟩
      have s17 := ((s14.trans s5).trans s6).trans (same_upd (o := .tup [g, t, .ref p6]) n7)
      exact q _ _ s17 ⟨p7, g, t, .ref p6, rfl, upd_same, hg.tk s17.tk, ht.tk s17.tk, p6, _, rfl, same_upd n7 _ _ h6, pr_app (pr_app (prSm_tk s17.tk (pr_take k pr)) (pr_one (hst.tk s17.tk))) (prSm_tk s17.tk (pr_drop k pr))⟩
    | some j =>
      obtain ⟨dd, rfl⟩ := fit j rfl
      obtain ⟨y, ds, hk, hj⟩ := h2 j rfl
      replace hk : pt.block[k]? = some (.round y ds) := hk
      obtain ⟨v0, hv, hs⟩ := pr_get pr hk
      obtain ⟨d, e, ws, rfl, hd, he, pr'⟩ := hs.round
      have hl' := pr'.length
      have few : ds.length ≤ 16 := (ok.bk _ (List.mem_of_getElem? hk)).few
      refine ⟨_, rfl, c, _, rfl, .inr (SqT.of hc), rfl, false, rfl, ?_⟩
      refine ⟨_, rfl, _, rfl, bb, us, (k : Int), .ref d, rfl, rfl, SqT.of hbb, atI_nat hv, d, _, 2, .ref e, rfl, rfl, SqT.of hd, rfl, ?_⟩
      refine ⟨_, rfl, _, rfl, bb, us, (k : Int), .ref d, rfl, rfl, SqT.of hbb, atI_nat hv, d, _, 1, .str y, rfl, rfl, SqT.of hd, rfl, ?_⟩
      refine ⟨_, rfl, _, rfl, c, _, 1, .int (j : Int), rfl, rfl, SqT.of hc, rfl, (j : Int), rfl, e, ws, j, rfl, rfl, rfl, he, fun p2 H2 s2 h2 => ?_⟩
      refine ⟨_, rfl, by show 1 ≤ sizeLine; decide, fun p3 n3 => ⟨p2, p3, _, _, rfl, rfl, same_upd n3 _ _ h2, upd_same, lineS (by rw [List.length_take]; simp; omega), fun p4 H4 s4 h4 => ?_⟩⟩
      have s14 := (s2.trans (same_upd n3)).trans s4
      refine ⟨_, rfl, _, rfl, c, _, 1, .int (j : Int), rfl, rfl, SqT.of (s14 _ _ hc), rfl, (j : Int), rfl, e, ws, j, rfl, rfl, rfl, s14 _ _ he, fun q5 H5 s5 h5 => ⟨p4, q5, _, _, rfl, rfl, s5 _ _ h4, h5, lineS (by rw [List.length_append, List.length_take, List.length_drop]; simp; omega), fun q6 H6 s6 h6 => ?_⟩⟩
      have s16 := (s14.trans s5).trans s6
      have e1 : pt.put ⟨k, some j⟩ (.deed dd) = pt.at k (.round y ((ds.take j ++ [dd]) ++ ds.drop j)) := by
        show (match pt.block[k]?, Sm.deed dd with
          | some (.round x ds), .deed d => pt.at k (.round x ((ds.take j ++ [d]) ++ ds.drop j))
          | _, _ => pt) = _
        rw [hk]
      rw [e1] at q
      have hdd : DdAt H z dd := hst
      refine ⟨by show 3 ≤ sizeLine; decide, fun p5 n5 => ?_⟩
      have u5 := same_upd (o := .tup [.str "round", .str y, .ref q6]) n5
      have s15 := s16.trans u5
      refine ⟨_, rfl, _, rfl, _, rfl, _, rfl, (k : Int), rfl, bb, us, k, rfl, rfl, rfl, s15 _ _ hbb, fun p6 H6 s6 h6' => ?_⟩
      have s16 := s15.trans s6
      refine ⟨_, rfl, by show 1 ≤ sizeLine; decide, fun p7 n7 => ⟨p6, p7, _, _, rfl, rfl, same_upd n7 _ _ h6', upd_same, lineS (by rw [List.length_take]; simp; omega), fun p8 H8 s8 h8 => ?_⟩⟩
      have s18 := (s16.trans (same_upd n7)).trans s8
      refine ⟨_, rfl, _, rfl, _, _, rfl, rfl, _, rfl, bb, us, k + 1, rfl, rfl, rfl, s18 _ _ hbb, fun p9 H9 s9 h9 => ⟨p8, p9, _, _, rfl, rfl, s9 _ _ h8, h9, lineS (by rw [List.length_append, List.length_take, List.length_drop]; simp; omega), fun p10 H10 s10 h10 => ?_⟩⟩
      have s510 := ((((s6.trans (same_upd n7)).trans s8).trans s9).trans s10)
      have s110 := s15.trans s510
      refine ⟨by show 3 ≤ sizeLine; decide, fun p11 n11 => ?_⟩
      have u11 := same_upd (o := .tup [g, t, .ref p10]) n11
      have s111 := s110.trans u11
      have h4' := (u5.trans (s510.trans u11)) _ _ h6
      have hsm : SmAt (upd H10 p11 (.tup [g, t, .ref p10])) (.ref p5) (.round y ((ds.take j ++ [dd]) ++ ds.drop j)) :=
        ⟨p5, .ref q6, rfl, (s510.trans u11) _ _ upd_same, q6, _, rfl, h4', pr_app (pr_app (prDd_tk s111.tk (pr_take j pr')) (pr_one (hdd.tk s111.tk))) (prDd_tk s111.tk (pr_drop j pr'))⟩
      exact q _ _ s111 ⟨p11, g, t, .ref p10, rfl, upd_same, hg.tk s111.tk, ht.tk s111.tk, p10, _, rfl, u11 _ _ h10, pr_app (pr_app (prSm_tk s111.tk (pr_take k pr)) (pr_one hsm)) (prSm_tk s111.tk (pr_drop (k + 1) pr))⟩
/-- places of which good holds stand in the list us -/
def PlsAt (good : Pl → Prop) (H : Hp) (us : List V) : Prop := ∀ u ∈ us, ∃ p, PlAt H u p ∧ good p
theorem PlsAt.tk {good : Pl → Prop} {H H' : Hp} {us : List V} (t : Tk H H') (h : PlsAt good H us) : PlsAt good H' us := fun u hu => let ⟨p, h1, h2⟩ := h u hu; ⟨p, h1.tk t, h2⟩
theorem PlsAt.app {good : Pl → Prop} {H : Hp} {us ws : List V} (h : PlsAt good H us) (h' : PlsAt good H ws) : PlsAt good H (us ++ ws) := fun u hu => (List.mem_append.mp hu).elim (h u) (h' u)
theorem PlsAt.one {good : Pl → Prop} {H : Hp} {u : V} {p : Pl} (h : PlAt H u p) (g : good p) : PlsAt good H [u] := fun u' hu => ⟨p, by rw [List.mem_singleton.mp hu]; exact h, g⟩
theorem sc__law_places : FnScope ["_law_parts_here", "_law_found", "_law_k", "_law_statement_here", "_law_j"] ["_law_parts_here"] (defScope (top 62)) := ⟨rfl, rfl, rfl, by decide +kernel, rfl, by decide +kernel, by decide +kernel⟩
def spPlaces : Sp := fun vs H Q _ => ∃ (v : V) (pt : Pt), vs = [v] ∧ PtAt H v pt ∧ pt.ok ∧ ∀ (r : Addr) (us : List V) H', H r = none → Same H H' → H' r = some (.lst us) → us.length ≤ 2000 → PlsAt pt.has H' us → Q (.ref r) H'
theorem c__law_places (T : Txt K mg) : Cl P w K mg base 1 "_law_places" ["_law_parts_here"] spPlaces := by
  refine cl_of T.f_law_places T.g_law_places sc__law_places (fun _ _ _ _ _ _ us hl => match us, hl with | [_], _ => rfl) (fun vs H Q E h => ?_) (fun cdv A outer s H vs Q E hr h => ?_)
  · obtain ⟨v, pt, rfl, _⟩ := h
    rfl
  · obtain ⟨v, pt, rfl, ⟨a, g, t, b, rfl, ha, hg, ht, hb⟩, ok, q⟩ := h
    refine ⟨_, (pss_cons (ps_set (i := 1) sc__law_places.nd rfl (Or.inl rfl) (pe_lst pa_nil))
      (pss_cons (ps_for PassesOwn.never rfl (pi_enumT (by rfl) T.zenumerate (pa_cons (pe_ix ix_tup (pv 0) pe_int (fun _ _ => rfl)) pa_nil)) (pg_tup (by rfl) (pgs_cons (pg_name (i := 2) sc__law_places.nd rfl (Or.inr rfl)) (pgs_cons (pg_name (i := 3) sc__law_places.nd rfl (Or.inl rfl)) pgs_nil))) (pss_cons (ps_expr (pe_bm PySem.F.plainAttrs_list PySem.F.slot_list_append PySem.F.type_list_append mt_append (pv 1) (pa_cons (pe_tup (pa_cons (pv 2) pa_nil)) pa_nil)))
      (pss_one (ps_if (pt_cmpR op_eq (pe_ix ix_tup (pv 3) pe_int (fun _ _ => rfl)) pe_str (nomark _)) (pss_one (ps_expr (pe_bm PySem.F.plainAttrs_list PySem.F.slot_list_extend PySem.F.type_list_extend mt_extend (pv 1) (pa_cons (pe_lc (own := [("_law_j", 4)]) (g := gName 4) (tt := tYes) rfl sc__law_places.nd (pi_range1 (by rfl) T.zrange (pa_cons (pe_callB call_len_seq (by rfl) T.zlen bo_len (pa_cons (pe_ix ix_tup (pv 3) pe_int (fun _ _ => rfl)) pa_nil)) pa_nil)) (blkOk_by (own := [("_law_j", 4)]) (N := ["_law_parts_here", "_law_found", "_law_k", "_law_statement_here", "_law_j"]) (sc := defScope (top 62)) (by decide +kernel)) (fun _ _ _ _ _ => pg_name (i := 4) sc__law_places.nd rfl (Or.inl rfl)) (fun _ _ _ _ _ => pts_nil) (fun _ _ _ _ _ => (pe_tup (pa_cons (pv 2) (pa_cons (pv 4) pa_nil))))) pa_nil)))) pss_nil))))
      (pss_one (ps_ret (pv 1))))), ?_⟩
    obtain ⟨bb, us, rfl, hbb, pr, hl⟩ := hb.len
    have hbl := ok.bl
    refine ⟨by show 0 ≤ sizeLine; decide, fun f nf => ?_⟩
    have s1 := same_upd (o := .lst []) nf
    refine ⟨_, rfl, a, _, 2, .ref bb, rfl, rfl, SqT.of (s1 _ _ ha), rfl, bb, us, rfl, s1 _ _ hbb, for_it walk_enumT (fun i σ H1 => ∃ v2 v3 v4, σ = [some (.ref a), some (.ref f), v2, v3, v4] ∧ Same H H1 ∧ ∃ fs, H1 f = some (.lst fs) ∧ fs.length ≤ 17 * i ∧ PlsAt pt.has H1 fs)
      ⟨none, none, none, rfl, s1, [], upd_same, Nat.zero_le _, fun _ z => nomatch z⟩ (fun i σ H1 _ ⟨_, _, _, _, s2, _⟩ => s2 _ _ hbb) ?_ ?_⟩
    · rintro i x σ H1 H2 hi ⟨v2, v3, v4, rfl, s2, fs, hf, lf, pf⟩ ⟨tt, y, u, rfl, htt, rfl, ey, hu⟩
      obtain rfl := Option.some.inj ey
      obtain ⟨st, hst, hsm⟩ := pr_getL pr hu
      have oks := ok.bk st (List.mem_of_getElem? hst)
      have hib : i < pt.block.length := (List.getElem?_eq_some_iff.mp hst).1
      have u3 := same_upd (o := .tup [.int i, u]) htt
      refine ⟨tt, _, rfl, SqT.of upd_same, rfl, _, _, rfl, _, _, rfl, rfl, _, rfl, .inl ⟨rfl, _, SqL.of (u3 _ _ hf)⟩, _, rfl, by show 1 ≤ sizeLine; decide, fun p np => ?_⟩
      have u4 := u3.trans (same_upd (o := .tup [.int i]) np)
      have hpl : PlAt (upd (upd H1 tt (.tup [.int i, u])) p (.tup [.int i])) (.ref p) ⟨i, none⟩ := ⟨p, rfl, upd_same⟩
      refine ⟨f, fs, .ref p, rfl, rfl, u4 _ _ hf, lineL (by omega), ?_⟩
      have s4 := s2.trans u4
      have hf4 := u4 _ _ hf
      have tf := tk_lst (o := .lst (fs ++ [.ref p])) hf4
      have pf4 : PlsAt pt.has (upd (upd (upd H1 tt (.tup [.int i, u])) p (.tup [.int i])) f (.lst (fs ++ [.ref p]))) (fs ++ [.ref p]) :=
        ((pf.tk u4.tk).tk tf).app (.one (hpl.tk tf) ⟨hib, fun _ z => nomatch z⟩)
      have s5 : Same H (upd (upd (upd H1 tt (.tup [.int i, u])) p (.tup [.int i])) f (.lst (fs ++ [.ref p]))) := same_grow nf s4
      have e5 : (upd (upd (upd H1 tt (.tup [.int i, u])) p (.tup [.int i])) f (.lst (fs ++ [.ref p]))) f = some (.lst (fs ++ [.ref p])) := upd_same
      generalize (upd (upd (upd H1 tt (.tup [.int i, u])) p (.tup [.int i])) f (.lst (fs ++ [.ref p]))) = H5 at *
      have lf5 : (fs ++ [V.ref p]).length ≤ 17 * i + 1 := by simp; omega
      generalize (fs ++ [V.ref p]) = fs5 at *
      cases st with
      | deed d =>
        obtain ⟨c, rfl, hc⟩ := hsm.deed
        refine ⟨_, rfl, c, _, 0, .str d.kind, rfl, rfl, SqT.of (s5 _ _ hc), atI_nat (j := 0) rfl, rfl, _, rfl, ?_⟩
        rw [d.kind_round]
        exact ⟨_, _, _, rfl, s5, fs5, e5, by omega, pf4⟩
      | round y ds =>
        obtain ⟨c, b', ws, rfl, hc, hb', pr'⟩ := hsm.round
        have few : ds.length ≤ 16 := oks.few
        have hl' := pr'.length
        refine ⟨_, rfl, c, _, 0, .str "round", rfl, rfl, SqT.of (s5 _ _ hc), rfl, rfl, _, rfl, ?_⟩
        rw [round_round]
        refine ⟨_, rfl, .inl ⟨rfl, _, SqL.of e5⟩, _, rfl, c, _, 2, .ref b', rfl, rfl, SqT.of (s5 _ _ hc), rfl, b', ws, rfl, .inr (SqT.of (s5 _ _ hb')), (ws.length : Int), rfl, by omega, by omega, fun D nD => ?_⟩
        have hfD : f ≠ D := ne_of_none e5 nD
        refine lc_it walk_range (fun j H6 => Same H5 H6 ∧ ∃ ws, H6 D = some (.lst ws) ∧ ws.length = j ∧ PlsAt pt.has H6 ws) ⟨same_upd nD, [], upd_same, rfl, fun _ z => nomatch z⟩ (fun _ _ _ _ => trivial) ?_ ?_
        · rintro j v H6 H7 hj ⟨s6, qs, e6, l6, p6⟩ ⟨rfl, rfl⟩
          refine ⟨rfl, _, rfl, _, rfl, by show 2 ≤ sizeLine; decide, fun p9 n9 => ?_⟩
          have u9 := same_upd (o := .tup [.int (i : Int), .int (0 + (j : Int))]) n9
          have t10 := tk_lst (o := .lst (qs ++ [.ref p9])) (u9 _ _ e6)
          refine ⟨qs, u9 _ _ e6, lineL (by omega), same_grow nD (s6.trans u9), qs ++ [.ref p9], upd_same, by simp [l6], ((p6.tk u9.tk).tk t10).app (.one (p := ⟨i, some j⟩) (PlAt.tk t10 ⟨p9, rfl, ?_⟩) ⟨hib, fun j' hj' => ?_⟩)⟩
          · rw [upd_same, Int.zero_add]
            rfl
          · cases hj'
            exact ⟨y, ds, hst, by omega⟩
        · rintro H6 ⟨s6, qs, e6, l6, p6⟩
          have e6f := s6 _ _ e5
          have t7 := tk_lst (o := .lst (fs5 ++ qs)) e6f
          exact ⟨f, D, fs5, qs, rfl, rfl, e6f, e6, lineS (by omega), _, _, _, rfl, same_grow nf (s5.trans s6), fs5 ++ qs, upd_same, by rw [List.length_append]; omega, ((pf4.tk s6.tk).tk t7).app (p6.tk t7)⟩
    · rintro σ H1 ⟨v2, v3, v4, rfl, s2, fs, hf, lf, pf⟩
      exact ⟨_, rfl, q f fs H1 nf s2 hf (by omega) pf⟩
end
end Fr
/-! ## FrLaw6 -/
set_option Elab.async false
set_option linter.all false
set_option maxRecDepth 100000
set_option maxHeartbeats 4000000
/-! Gaps. -/
namespace Fr
open PySem PySem.Spec PyProof.Rows L2
section
variable {P : Program} {w : World} {K : PySem.W.Frag} {mg : Str → Option Value} {base : Heap}
theorem sc__law_gaps : FnScope ["_law_parts_here", "_law_found", "_law_k", "_law_statement_here", "_law_j"] ["_law_parts_here"] (defScope (top 69)) := ⟨rfl, rfl, rfl, by decide +kernel, rfl, by decide +kernel, by decide +kernel⟩
def spGaps : Sp := fun vs H Q _ => ∃ (v : V) (pt : Pt), vs = [v] ∧ PtAt H v pt ∧ pt.ok ∧ ∀ (r : Addr) (us : List V) H', H r = none → Same H H' → H' r = some (.lst us) → 1 ≤ us.length → us.length ≤ 2000 → PlsAt pt.gap H' us → Q (.ref r) H'
theorem c__law_gaps (T : Txt K mg) : Cl P w K mg base 1 "_law_gaps" ["_law_parts_here"] spGaps := by
  refine cl_of T.f_law_gaps T.g_law_gaps sc__law_gaps (fun _ _ _ _ _ _ us hl => match us, hl with | [_], _ => rfl) (fun vs H Q E h => ?_) (fun cdv A outer s H vs Q E hr h => ?_)
  · obtain ⟨v, pt, rfl, _⟩ := h
    rfl
  · obtain ⟨v, pt, rfl, ⟨a, g, t, b, rfl, ha, hg, ht, hb⟩, ok, q⟩ := h
    refine ⟨_, (pss_cons (ps_setLc (i := 1) (own := [("_law_k", 2)]) (g := gName 2) (tt := tYes) rfl sc__law_gaps.nd rfl rfl (sw_true rfl rfl rfl (by decide +kernel)) (pi_range1 (by rfl) T.zrange (pa_cons (pe_op op_add (pe_callB call_len_seq (by rfl) T.zlen bo_len (pa_cons (pe_ix ix_tup (pv 0) pe_int (fun _ _ => rfl)) pa_nil)) pe_int) pa_nil)) (blkOk_by (own := [("_law_k", 2)]) (N := ["_law_parts_here", "_law_found", "_law_k", "_law_statement_here", "_law_j"]) (sc := defScope (top 69)) (by decide +kernel)) (fun _ _ _ _ _ => pg_name (i := 2) sc__law_gaps.nd rfl (Or.inl rfl)) (fun _ _ _ _ _ => pts_nil) (fun _ _ _ _ _ => (pe_tup (pa_cons (pv 2) pa_nil))))
      (pss_cons (ps_for PassesOwn.never rfl (pi_enumT (by rfl) T.zenumerate (pa_cons (pe_ix ix_tup (pv 0) pe_int (fun _ _ => rfl)) pa_nil)) (pg_tup (by rfl) (pgs_cons (pg_name (i := 2) sc__law_gaps.nd rfl (Or.inr rfl)) (pgs_cons (pg_name (i := 3) sc__law_gaps.nd rfl (Or.inl rfl)) pgs_nil))) (pss_one (ps_if (pt_cmpR op_eq (pe_ix ix_tup (pv 3) pe_int (fun _ _ => rfl)) pe_str (nomark _)) (pss_one (ps_expr (pe_bm PySem.F.plainAttrs_list PySem.F.slot_list_extend PySem.F.type_list_extend mt_extend (pv 1) (pa_cons (pe_lc (own := [("_law_j", 4)]) (g := gName 4) (tt := tYes) rfl sc__law_gaps.nd (pi_range1 (by rfl) T.zrange (pa_cons (pe_op op_add (pe_callB call_len_seq (by rfl) T.zlen bo_len (pa_cons (pe_ix ix_tup (pv 3) pe_int (fun _ _ => rfl)) pa_nil)) pe_int) pa_nil)) (blkOk_by (own := [("_law_j", 4)]) (N := ["_law_parts_here", "_law_found", "_law_k", "_law_statement_here", "_law_j"]) (sc := defScope (top 69)) (by decide +kernel)) (fun _ _ _ _ _ => pg_name (i := 4) sc__law_gaps.nd rfl (Or.inl rfl)) (fun _ _ _ _ _ => pts_nil) (fun _ _ _ _ _ => (pe_tup (pa_cons (pv 2) (pa_cons (pv 4) pa_nil))))) pa_nil)))) pss_nil)))
      (pss_one (ps_ret (pv 1))))), ?_⟩
    obtain ⟨bb, us, rfl, hbb, pr, hl⟩ := hb.len
    have hbl := ok.bl
    refine ⟨_, rfl, a, _, 2, .ref bb, rfl, rfl, SqT.of ha, rfl, bb, us, rfl, .inr (SqT.of hbb), _, _, rfl, rfl, (us.length : Int) + 1, rfl, by omega, by omega, fun f nf => ?_⟩
    refine lc_it walk_range (fun j H6 => Same H H6 ∧ ∃ ws, H6 f = some (.lst ws) ∧ ws.length = j ∧ PlsAt pt.gap H6 ws) ⟨same_upd nf, [], upd_same, rfl, fun _ z => nomatch z⟩ (fun _ _ _ _ => trivial) ?_ ?_
    · rintro j v H6 H7 hj ⟨s6, qs, e6, l6, p6⟩ ⟨rfl, rfl⟩
      refine ⟨rfl, _, rfl, by show 1 ≤ sizeLine; decide, fun p9 n9 => ?_⟩
      have u9 := same_upd (o := .tup [.int (0 + (j : Int))]) n9
      have t10 := tk_lst (o := .lst (qs ++ [.ref p9])) (u9 _ _ e6)
      refine ⟨qs, u9 _ _ e6, lineL (by omega), same_grow nf (s6.trans u9), qs ++ [.ref p9], upd_same, by simp [l6], ((p6.tk u9.tk).tk t10).app (.one (p := ⟨j, none⟩) (PlAt.tk t10 ⟨p9, rfl, ?_⟩) ⟨?_, fun j' hj' => nomatch hj'⟩)⟩
      · rw [upd_same, Int.zero_add]
        rfl
      · show j ≤ pt.block.length
        omega
    rintro H1 ⟨s1, f0, e0, l0, p0⟩
    have l0' : f0.length = us.length + 1 := by omega
    refine ⟨_, rfl, a, _, 2, .ref bb, rfl, rfl, SqT.of (s1 _ _ ha), rfl, bb, us, rfl, s1 _ _ hbb, for_it walk_enumT (fun i σ H1 => ∃ v2 v3 v4, σ = [some (.ref a), some (.ref f), v2, v3, v4] ∧ Same H H1 ∧ ∃ fs, H1 f = some (.lst fs) ∧ (1 ≤ fs.length ∧ fs.length ≤ us.length + 1 + 17 * i) ∧ PlsAt pt.gap H1 fs)
      ⟨none, none, none, rfl, s1, f0, e0, by omega, p0⟩ (fun i σ H1 _ ⟨_, _, _, _, s2, _⟩ => s2 _ _ hbb) ?_ ?_⟩
    · rintro i x σ H1 H2 hi ⟨v2, v3, v4, rfl, s2, fs, hf, lf, pf⟩ ⟨tt, y, u, rfl, htt, rfl, ey, hu⟩
      obtain rfl := Option.some.inj ey
      obtain ⟨st, hst, hsm⟩ := pr_getL pr hu
      have oks := ok.bk st (List.mem_of_getElem? hst)
      have hib : i < pt.block.length := (List.getElem?_eq_some_iff.mp hst).1
      have u3 := same_upd (o := .tup [.int i, u]) htt
      refine ⟨tt, _, rfl, SqT.of upd_same, rfl, _, _, rfl, _, _, rfl, rfl, ?_⟩
      have s5 := s2.trans u3
      have e5 := u3 _ _ hf
      have pf4 := pf.tk u3.tk
      have lf5 := lf
      generalize upd H1 tt (.tup [.int i, u]) = H5 at *
      generalize fs = fs5 at *
      cases st with
      | deed d =>
        obtain ⟨c, rfl, hc⟩ := hsm.deed
        refine ⟨_, rfl, c, _, 0, .str d.kind, rfl, rfl, SqT.of (s5 _ _ hc), atI_nat (j := 0) rfl, rfl, _, rfl, ?_⟩
        rw [d.kind_round]
        exact ⟨_, _, _, rfl, s5, fs5, e5, by omega, pf4⟩
      | round y ds =>
        obtain ⟨c, b', ws, rfl, hc, hb', pr'⟩ := hsm.round
        have few : ds.length ≤ 16 := oks.few
        have hl' := pr'.length
        refine ⟨_, rfl, c, _, 0, .str "round", rfl, rfl, SqT.of (s5 _ _ hc), rfl, rfl, _, rfl, ?_⟩
        rw [round_round]
        refine ⟨_, rfl, .inl ⟨rfl, _, SqL.of e5⟩, _, rfl, c, _, 2, .ref b', rfl, rfl, SqT.of (s5 _ _ hc), rfl, b', ws, rfl, .inr (SqT.of (s5 _ _ hb')), _, _, rfl, rfl, (ws.length : Int) + 1, rfl, by omega, by omega, fun D nD => ?_⟩
        have hfD : f ≠ D := ne_of_none e5 nD
        refine lc_it walk_range (fun j H6 => Same H5 H6 ∧ ∃ ws, H6 D = some (.lst ws) ∧ ws.length = j ∧ PlsAt pt.gap H6 ws) ⟨same_upd nD, [], upd_same, rfl, fun _ z => nomatch z⟩ (fun _ _ _ _ => trivial) ?_ ?_
        · rintro j v H6 H7 hj ⟨s6, qs, e6, l6, p6⟩ ⟨rfl, rfl⟩
          refine ⟨rfl, _, rfl, _, rfl, by show 2 ≤ sizeLine; decide, fun p9 n9 => ?_⟩
          have u9 := same_upd (o := .tup [.int (i : Int), .int (0 + (j : Int))]) n9
          have t10 := tk_lst (o := .lst (qs ++ [.ref p9])) (u9 _ _ e6)
          refine ⟨qs, u9 _ _ e6, lineL (by omega), same_grow nD (s6.trans u9), qs ++ [.ref p9], upd_same, by simp [l6], ((p6.tk u9.tk).tk t10).app (.one (p := ⟨i, some j⟩) (PlAt.tk t10 ⟨p9, rfl, ?_⟩) ⟨Nat.le_of_lt hib, fun j' hj' => ?_⟩)⟩
          · rw [upd_same, Int.zero_add]
            rfl
          · cases hj'
            exact ⟨y, ds, hst, by omega⟩
        · rintro H6 ⟨s6, qs, e6, l6, p6⟩
          have e6f := s6 _ _ e5
          have t7 := tk_lst (o := .lst (fs5 ++ qs)) e6f
          exact ⟨f, D, fs5, qs, rfl, rfl, e6f, e6, lineS (by omega), _, _, _, rfl, same_grow nf (s5.trans s6), fs5 ++ qs, upd_same, by rw [List.length_append]; omega, ((pf4.tk s6.tk).tk t7).app (p6.tk t7)⟩
    · rintro σ H1 ⟨v2, v3, v4, rfl, s2, fs, hf, lf, pf⟩
      exact ⟨_, rfl, q f fs H1 nf s2 hf lf.1 (by omega) pf⟩
end
end Fr
/-! ## FrPlain -/
set_option Elab.async false
set_option linter.all false
set_option maxRecDepth 100000
set_option maxHeartbeats 4000000
/-! Left out and put in again: the plain law. -/
namespace Fr
open PySem PySem.Spec PyProof.Rows L2
section
variable {α : Type}
theorem out_in {L : List α} {k : Nat} {x : α} (h : L[k]? = some x) : (((L.take k ++ L.drop (k + 1)).take k ++ [x]) ++ (L.take k ++ L.drop (k + 1)).drop k) = L := by
  obtain ⟨hk, e⟩ := List.getElem?_eq_some_iff.mp h
  have h1 : (L.take k).length = k := by rw [List.length_take]; omega
  rw [List.take_left' h1, List.drop_left' h1, ← e, List.append_assoc]
  show L.take k ++ (L[k] :: L.drop (k + 1)) = L
  rw [← List.drop_eq_getElem_cons hk, List.take_append_drop]
theorem in_out {L : List α} {k : Nat} {x : α} (h : k ≤ L.length) : (((L.take k ++ [x]) ++ L.drop k).take k ++ ((L.take k ++ [x]) ++ L.drop k).drop (k + 1)) = L := by
  have h1 : (L.take k).length = k := by rw [List.length_take]; omega
  have h2 : (L.take k ++ [x]).length = k + 1 := by rw [List.length_append, h1]; rfl
  rw [List.drop_left' h2, List.append_assoc, List.take_left' h1, List.take_append_drop]
theorem put_get {L : List α} {k : Nat} {x : α} (h : k ≤ L.length) : ((L.take k ++ [x]) ++ L.drop k)[k]? = some x := by
  have h1 : (L.take k).length = k := by rw [List.length_take]; omega
  rw [List.append_assoc, List.getElem?_append_right (by omega), h1, Nat.sub_self]
  rfl
theorem at_set {L : List α} {k : Nat} {x : α} (h : k < L.length) : (L.take k ++ [x]) ++ L.drop (k + 1) = L.set k x := by
  rw [List.set_eq_take_append_cons_drop, if_pos h, List.append_assoc]
  rfl
theorem set_same {L : List α} {k : Nat} {x y : α} (h : L[k]? = some y) : (L.set k x).set k y = L := by
  obtain ⟨hk, e⟩ := List.getElem?_eq_some_iff.mp h
  rw [List.set_set, ← e, List.set_getElem_self]
end
theorem Pt.at_eq {pt : Pt} {k : Nat} {s : Sm} (h : k < pt.block.length) : pt.at k s = ⟨pt.given, pt.told, pt.block.set k s⟩ := by
  show Pt.mk _ _ ((pt.block.take k ++ [s]) ++ pt.block.drop (k + 1)) = _
  rw [at_set h]
theorem lt_of_get {α : Type} {L : List α} {k : Nat} {x : α} (h : L[k]? = some x) : k < L.length := (List.getElem?_eq_some_iff.mp h).1
theorem cut_some {pt : Pt} {k j : Nat} {y : Str} {ds : List Dd} (hk : pt.block[k]? = some (.round y ds)) : pt.cut ⟨k, some j⟩ = ⟨pt.given, pt.told, pt.block.set k (.round y (ds.take j ++ ds.drop (j + 1)))⟩ := by
  show (match pt.block[k]? with
    | some (.round x ds) => pt.at k (.round x (ds.take j ++ ds.drop (j + 1)))
    | _ => pt) = _
  rw [hk]
  exact Pt.at_eq (lt_of_get hk)
theorem put_some {pt : Pt} {k j : Nat} {y : Str} {ds : List Dd} {d : Dd} (hk : pt.block[k]? = some (.round y ds)) : pt.put ⟨k, some j⟩ (.deed d) = ⟨pt.given, pt.told, pt.block.set k (.round y ((ds.take j ++ [d]) ++ ds.drop j))⟩ := by
  show (match pt.block[k]?, Sm.deed d with
    | some (.round x ds), .deed d => pt.at k (.round x ((ds.take j ++ [d]) ++ ds.drop j))
    | _, _ => pt) = _
  rw [hk]
  exact Pt.at_eq (lt_of_get hk)
theorem get_some {pt : Pt} {k j : Nat} {y : Str} {ds : List Dd} (hk : pt.block[k]? = some (.round y ds)) : pt.get ⟨k, some j⟩ = ds[j]?.map .deed := by
  show (match pt.block[k]? with
    | some (.round _ ds) => ds[j]?.map Sm.deed
    | _ => none) = _
  rw [hk]
/-- left out and put in again -/
theorem cut_put {pt : Pt} {p : Pl} {s : Sm} (h : pt.has p) (g : pt.get p = some s) : Fits p s ∧ (pt.cut p).gap p ∧ (pt.cut p).put p s = pt := by
  obtain ⟨k, j⟩ := p
  obtain ⟨h1, h2⟩ := h
  replace h1 : k < pt.block.length := h1
  cases j with
  | none =>
    replace g : pt.block[k]? = some s := g
    refine ⟨(fun _ z => nomatch z), ⟨?_, (fun _ z => nomatch z)⟩, ?_⟩
    · show k ≤ (pt.block.take k ++ pt.block.drop (k + 1)).length
      rw [List.length_append, List.length_take, List.length_drop]
      omega
    · show Pt.mk pt.given pt.told (((pt.block.take k ++ pt.block.drop (k + 1)).take k ++ [s]) ++ (pt.block.take k ++ pt.block.drop (k + 1)).drop k) = pt
      rw [out_in g]
  | some j =>
    obtain ⟨y, ds, hk, hj⟩ := h2 j rfl
    replace hk : pt.block[k]? = some (.round y ds) := hk
    rw [get_some hk] at g
    obtain ⟨d, hd, rfl⟩ := Option.map_eq_some_iff.mp g
    rw [cut_some hk]
    have e : (pt.block.set k (.round y (ds.take j ++ ds.drop (j + 1))))[k]? = some (.round y (ds.take j ++ ds.drop (j + 1))) := by
      rw [List.getElem?_set_self h1]
    refine ⟨fun _ z => ⟨d, rfl⟩, ⟨?_, ?_⟩, ?_⟩
    · show k ≤ (pt.block.set k _).length
      rw [List.length_set]
      omega
    · intro j' z
      cases z
      refine ⟨y, _, e, ?_⟩
      rw [List.length_append, List.length_take, List.length_drop]
      omega
    · rw [put_some (pt := ⟨pt.given, pt.told, pt.block.set k (.round y (ds.take j ++ ds.drop (j + 1)))⟩) e, out_in hd]
      show Pt.mk _ _ ((pt.block.set k _).set k _) = pt
      rw [set_same hk]
/-- put in and left out again -/
theorem put_cut {pt : Pt} {p : Pl} {s : Sm} (h : pt.gap p) (f : Fits p s) : (pt.put p s).has p ∧ (pt.put p s).cut p = pt := by
  obtain ⟨k, j⟩ := p
  obtain ⟨h1, h2⟩ := h
  replace h1 : k ≤ pt.block.length := h1
  cases j with
  | none =>
    refine ⟨⟨?_, (fun _ z => nomatch z)⟩, ?_⟩
    · show k < ((pt.block.take k ++ [s]) ++ pt.block.drop k).length
      rw [List.length_append, List.length_append, List.length_take, List.length_drop]
      simp
      omega
    · show Pt.mk pt.given pt.told (((pt.block.take k ++ [s]) ++ pt.block.drop k).take k ++ ((pt.block.take k ++ [s]) ++ pt.block.drop k).drop (k + 1)) = pt
      rw [in_out h1]
  | some j =>
    obtain ⟨d, rfl⟩ := f j rfl
    obtain ⟨y, ds, hk, hj⟩ := h2 j rfl
    replace hk : pt.block[k]? = some (.round y ds) := hk
    have hlt := lt_of_get hk
    rw [put_some hk]
    have e : (pt.block.set k (.round y ((ds.take j ++ [d]) ++ ds.drop j)))[k]? = some (.round y ((ds.take j ++ [d]) ++ ds.drop j)) := by
      rw [List.getElem?_set_self hlt]
    refine ⟨⟨?_, ?_⟩, ?_⟩
    · show k < (pt.block.set k _).length
      rw [List.length_set]
      exact hlt
    · intro j' z
      cases z
      refine ⟨y, _, e, ?_⟩
      rw [List.length_append, List.length_append, List.length_take, List.length_drop]
      simp
      omega
    · rw [cut_some (pt := ⟨pt.given, pt.told, pt.block.set k (.round y ((ds.take j ++ [d]) ++ ds.drop j))⟩) e, in_out hj]
      show Pt.mk _ _ ((pt.block.set k _).set k _) = pt
      rw [set_same hk]
theorem get_ok {pt : Pt} {p : Pl} {s : Sm} (ok : pt.ok) (g : pt.get p = some s) : s.ok := by
  obtain ⟨k, j⟩ := p
  cases j with
  | none => exact ok.bk s (List.mem_of_getElem? (show pt.block[k]? = some s from g))
  | some j =>
    cases hk : pt.block[k]? with
    | none =>
      replace g : (match pt.block[k]? with
        | some (.round _ ds) => ds[j]?.map Sm.deed
        | _ => none) = some s := g
      rw [hk] at g
      cases g
    | some st =>
      cases st with
      | deed d =>
        replace g : (match pt.block[k]? with
          | some (.round _ ds) => ds[j]?.map Sm.deed
          | _ => none) = some s := g
        rw [hk] at g
        cases g
      | round y ds =>
        rw [get_some hk] at g
        obtain ⟨d, hd, rfl⟩ := Option.map_eq_some_iff.mp g
        have o := ok.bk _ (List.mem_of_getElem? hk)
        exact ⟨o.im d (List.mem_of_getElem? hd), (fun _ z => nomatch z), Nat.zero_le _⟩
theorem Pt.ok.block {pt : Pt} (o : pt.ok) {b : List Sm} (h : ∀ s ∈ b, s.ok) (l : b.length ≤ 64) : (Pt.mk pt.given pt.told b).ok := ⟨o.gn, o.gm, o.gl, o.tn, o.tm, o.t1, o.t4, h, l⟩
theorem mem_cut {α : Type} {L : List α} {k j : Nat} {x : α} (h : x ∈ L.take k ++ L.drop j) : x ∈ L := (List.mem_append.mp h).elim List.mem_of_mem_take List.mem_of_mem_drop
theorem mem_put {α : Type} {L : List α} {k j : Nat} {x y : α} (h : x ∈ (L.take k ++ [y]) ++ L.drop j) : x ∈ L ∨ x = y := by
  rcases List.mem_append.mp h with h | h
  · rcases List.mem_append.mp h with h | h
    · exact .inl (List.mem_of_mem_take h)
    · exact .inr (List.mem_singleton.mp h)
  · exact .inl (List.mem_of_mem_drop h)
theorem cut_ok {pt : Pt} {p : Pl} (ok : pt.ok) (h : pt.has p) : (pt.cut p).ok := by
  obtain ⟨k, j⟩ := p
  have hbl := ok.bl
  cases j with
  | none => exact ok.block (fun s hs => ok.bk s (mem_cut hs)) (by rw [List.length_append, List.length_take, List.length_drop]; omega)
  | some j =>
    obtain ⟨y, ds, hk, hj⟩ := h.2 j rfl
    replace hk : pt.block[k]? = some (.round y ds) := hk
    have o := ok.bk _ (List.mem_of_getElem? hk)
    have few : ds.length ≤ 16 := o.few
    rw [cut_some hk]
    refine ok.block (fun s hs => ?_) (by rw [List.length_set]; exact ok.bl)
    rcases List.mem_or_eq_of_mem_set hs with hs | rfl
    · exact ok.bk s hs
    · exact ⟨o.nm, fun d hd => o.im d (mem_cut hd), by show (ds.take j ++ ds.drop (j + 1)).length ≤ 16; rw [List.length_append, List.length_take, List.length_drop]; omega⟩
theorem put_ok {pt : Pt} {p : Pl} {s : Sm} (ok : pt.ok) (hb : pt.block.length ≤ 60) (hf : ∀ s ∈ pt.block, s.ins.length ≤ 12) (so : s.ok) (h : pt.gap p) (f : Fits p s) : (pt.put p s).ok := by
  obtain ⟨k, j⟩ := p
  cases j with
  | none =>
    refine ok.block (fun x hx => ?_) (by rw [List.length_append, List.length_append, List.length_take, List.length_drop]; simp; omega)
    rcases mem_put hx with hx | rfl
    · exact ok.bk x hx
    · exact so
  | some j =>
    obtain ⟨d, rfl⟩ := f j rfl
    obtain ⟨y, ds, hk, hj⟩ := h.2 j rfl
    replace hk : pt.block[k]? = some (.round y ds) := hk
    have o := ok.bk _ (List.mem_of_getElem? hk)
    have few : ds.length ≤ 12 := hf _ (List.mem_of_getElem? hk)
    rw [put_some hk]
    refine ok.block (fun s hs => ?_) (by rw [List.length_set]; exact ok.bl)
    rcases List.mem_or_eq_of_mem_set hs with hs | rfl
    · exact ok.bk s hs
    · refine ⟨o.nm, fun d' hd => ?_, by show ((ds.take j ++ [d]) ++ ds.drop j).length ≤ 16; rw [List.length_append, List.length_append, List.length_take, List.length_drop]; simp; omega⟩
      rcases mem_put hd with hd | rfl
      · exact o.im d' hd
      · exact so.nm
end Fr
/-! ## FrLarge -/
set_option Elab.async false
set_option linter.all false
set_option maxRecDepth 100000
set_option maxHeartbeats 4000000
/-! The law on large programs. -/
namespace Fr
open PySem PySem.Spec PyProof.Rows L2
theorem PlsAt.sub {good : Pl → Prop} {H : Hp} {us ws : List V} (h : PlsAt good H us) (s : ∀ u ∈ ws, u ∈ us) : PlsAt good H ws := fun u hu => h u (s u hu)
section
variable {P : Program} {w : World} {K : PySem.W.Frag} {mg : Str → Option Value} {base : Heap}
/-- a raw program and a checked one of the same parts -/
theorem ne_read (T : Txt K mg) {H : Hp} {x y : V} {pt : Pt} {Q : VK} (hx : PgAt (CR K) H x pt) (hy : PgAt (CP K) H y pt) (q : ∀ H', Same H H' → Q (.bl false) H') : rNeOwn K (fEq K) (spEqP K) E0 x y H Q := by
  have hx0 := hx
  have hy0 := hy
  obtain ⟨a, dx, g, t, b, rfl, ha, _⟩ := hx
  obtain ⟨a', dx', g', t', b', rfl, ha', _⟩ := hy
  exact ⟨a, a', _, _, dx, dx', _, _, rfl, rfl, ha, ha', T.nf, T.ne, T.iR.hm, T.eq, _, _, pt, rfl, ⟨_, pcR T, hx0⟩, ⟨_, pcP T, hy0⟩, fun H' s' => ⟨true, rfl, q H' s'⟩⟩
theorem sc__law_large_right : FnScope ["_law_hand_here", "_law_parts_here", "_law_program", "_law_place", "_law_shorter", "_law_thing", "_law_longer"] ["_law_hand_here"] (defScope (top 71)) := ⟨rfl, rfl, rfl, by decide +kernel, rfl, by decide +kernel, by decide +kernel⟩
def spLarge : Sp := fun vs H Q _ => ∃ h : Addr, vs = [.ref h] ∧ Hand H h ∧ ∀ H', Go h H H' → Q (.bl true) H'
theorem c__law_large_right (T : Txt K mg) : Cl P w K mg base 8 "_law_large_right" ["_law_hand_here"] spLarge := by
  obtain ⟨fdE, hEq, hEb⟩ := c_eq (P := P) (w := w) (base := base) T
  refine cl_of T.f_law_large_right T.g_law_large_right sc__law_large_right (fun _ _ _ _ _ _ us hl => match us, hl with | [_], _ => rfl) (fun vs H Q E h => ?_) (fun cdv A outer s H vs Q E hr h => ?_)
  · obtain ⟨h, rfl, _⟩ := h
    rfl
  · obtain ⟨h, rfl, hh, q⟩ := h
    refine ⟨_, (pss_cons (ps_set (i := 1) sc__law_large_right.nd rfl (Or.inl rfl) (pe_f (c__law_parts T) hr (pa_cons (pv 0) (pa_cons pe_int (pa_cons pe_int (pa_cons pe_int (pa_cons pe_int pa_nil)))))))
      (pss_cons (ps_set (i := 2) sc__law_large_right.nd rfl (Or.inl rfl) (pe_f (c__law_made T) hr (pa_cons (pv 1) pa_nil)))
      (pss_cons (ps_for PassesOwn.never rfl (pi_list (pe_slice sl_list (pe_f (c__law_shuffled T) hr (pa_cons (pv 0) (pa_cons (pe_f (c__law_places T) hr (pa_cons (pv 1) pa_nil)) pa_nil))) po_none (po_some pe_int))) (pg_name (i := 3) sc__law_large_right.nd rfl (Or.inl rfl)) (pss_cons (ps_set (i := 4) sc__law_large_right.nd rfl (Or.inl rfl) (pe_f (c_left_out T) hr (pa_cons (pv 2) (pa_cons (pv 3) pa_nil))))
      (pss_cons (ps_if (pt_not (pt_val (pe_f (c__law_holds T) hr (pa_cons (pv 4) (pa_cons (pe_f (c__law_without T) hr (pa_cons (pv 1) (pa_cons (pv 3) pa_nil))) pa_nil))))) (pss_one (ps_ret pe_bl)) pss_nil)
      (pss_one (ps_if (pt_cmpR (op_neOwn (E := E0) hEq (hr.mono (by decide)) T.meq.fn hEb pass0) (pe_f (c_put_in T) hr (pa_cons (pv 4) (pa_cons (pv 3) (pa_cons (pe_f (c__law_at T) hr (pa_cons (pv 1) (pa_cons (pv 3) pa_nil))) pa_nil)))) (pv 2) (nomark _)) (pss_one (ps_ret pe_bl)) pss_nil)))))
      (pss_cons (ps_for PassesOwn.never rfl (pi_list (pe_slice sl_list (pe_f (c__law_shuffled T) hr (pa_cons (pv 0) (pa_cons (pe_f (c__law_gaps T) hr (pa_cons (pv 1) pa_nil)) pa_nil))) po_none (po_some pe_int))) (pg_name (i := 3) sc__law_large_right.nd rfl (Or.inl rfl)) (pss_cons (ps_set (i := 5) sc__law_large_right.nd rfl (Or.inl rfl) (pe_f (c__law_deed T) hr (pa_cons (pv 0) (pa_cons (pe_callTy call_list_of (by rfl) T.zlist bo_list (pa_cons (pe_ix ix_tup (pv 1) pe_int (fun _ _ => rfl)) pa_nil)) pa_nil))))
      (pss_cons (ps_set (i := 6) sc__law_large_right.nd rfl (Or.inl rfl) (pe_f (c_put_in T) hr (pa_cons (pv 2) (pa_cons (pv 3) (pa_cons (pv 5) pa_nil)))))
      (pss_one (ps_if (PW.pt (pw_or (pt_not (pt_val (pe_f (c__law_holds T) hr (pa_cons (pv 6) (pa_cons (pe_f (c__law_with T) hr (pa_cons (pv 1) (pa_cons (pv 3) (pa_cons (pv 5) pa_nil)))) pa_nil))))) (pw_or1 (pt_cmpR (op_neOwn (E := E0) hEq (hr.mono (by decide)) T.meq.fn hEb pass0) (pe_f (c_left_out T) hr (pa_cons (pv 6) (pa_cons (pv 3) pa_nil))) (pv 2) (nomark _))))) (pss_one (ps_ret pe_bl)) pss_nil)))))
      (pss_one (ps_ret pe_bl)))))), ?_⟩
    refine ⟨_, rfl, h, 8, 60, 12, rfl, hh, by decide, by decide, by decide, by decide, fun pt v H1 sm hp g1 => ?_⟩
    have ok := sm.ok
    refine ⟨_, rfl, v, pt, rfl, hp, ok, fun x H2 s2 hx => ?_⟩
    replace hp := hp.tk s2.tk
    replace g1 := g1.then s2
    dsimp only [gName]
    refine cut_seq (fun σ H3 => ∃ v3 v4 v5 v6, σ = [some (.ref h), some v, some x, v3, v4, v5, v6] ∧ Go h H2 H3) ?_ ?_
    · rintro σ H3 ⟨v3, v4, v5, v6, rfl, g3⟩
      replace hp := hp.tk g3.tk
      replace hx := hx.go g3
      replace g1 := g1.trans g3
      clear g3 s2
      refine ⟨_, rfl, _, rfl, v, pt, rfl, hp, ok, fun r us H4 nr s4 hr4 l1 l2 pl => ?_⟩
      refine ⟨h, r, us, rfl, g1.b.same s4, hr4, (g1.b.ne nr), by omega, fun r2 ys H5 pm nr2 g5 hr5 => ?_⟩
      refine ⟨8, rfl, r2, ys, rfl, SqL.of hr5, fun t nt => ?_⟩
      rw [show cutV ys none (some 8) = ys.take 8 from cut_to ys 8]
      have s6 := same_upd (o := .lst (ys.take 8)) nt
      have g6 := (Go.same g1.b s4).trans (g5.then s6)
      have pl6 : PlsAt pt.gap (upd H5 t (.lst (ys.take 8))) (ys.take 8) := ((pl.tk g5.tk).tk s6.tk).sub fun u hu => pm.mem_iff.mp (List.mem_of_mem_take hu)
      have hl : (ys.take 8).length ≤ 8 := by rw [List.length_take]; omega
      have nth : t ≠ h := g5.b.ne nt
      have ht6 : (upd H5 t (.lst (ys.take 8))) t = some (.lst (ys.take 8)) := upd_same
      replace hp := hp.tk g6.tk
      replace hx := hx.go g6
      replace g1 := g1.trans g6
      generalize (upd H5 t (.lst (ys.take 8))) = H6 at *
      generalize ys.take 8 = zs at *
      clear pl hr4
      refine ⟨t, rfl, ⟨_, SqL.of ht6⟩, for_it walk_list (fun i σ H7 => ∃ v3 v4 v5 v6, σ = [some (.ref h), some v, some x, v3, v4, v5, v6] ∧ Go h H6 H7) ⟨_, _, _, _, rfl, .refl g1.b⟩ (fun i σ H7 _ ⟨_, _, _, _, _, g7⟩ => SqL.of (g7.lst ht6 nth)) ?_ ?_⟩
      · rintro i u σ H8 H7 hi ⟨v3, v4, v5, v6, rfl, g7⟩ ⟨rfl, hu⟩
        obtain ⟨p, hpl, hgap⟩ := pl6 u (List.mem_of_getElem? hu)
        replace hp := hp.tk g7.tk
        replace hx := hx.go g7
        replace hpl := hpl.tk g7.tk
        obtain ⟨a, g, tt, b, rfl, ha, hg, ⟨ta, rfl, hta⟩, hb⟩ := hp
        have hp : PtAt H7 (.ref a) pt := ⟨a, g, _, b, rfl, ha, hg, ⟨ta, rfl, hta⟩, hb⟩
        refine ⟨_, rfl, _, rfl, a, _, 1, .ref ta, rfl, rfl, SqT.of ha, rfl, ta, _, rfl, .inr (SqT.of hta), fun l nl => ?_⟩
        have t1 := ok.t1
        have t4 := ok.t4
        have s8 := same_upd (o := .lst (pt.told.map V.str)) nl
        have g8 := g7.then s8
        refine ⟨h, l, pt.told, rfl, g8.b, upd_same, (fun z => by rw [z] at t1; simp at t1), by omega, fun d z H9 hd hz g9 => ?_⟩
        replace g8 := (Go.same g7.b s8).trans g9
        replace hp := hp.tk g8.tk
        replace hx := hx.go g8
        replace hpl := hpl.tk g8.tk
        replace g7 := g7.trans g8
        clear ha hg hb hta
        have sok : (Sm.deed d).ok := ⟨fun x hx => ok.tm x (hd x hx), (fun _ z => nomatch z), Nat.zero_le _⟩
        have fit : Fits p (.deed d) := fun _ _ => ⟨d, rfl⟩
        refine ⟨_, rfl, _, rfl, _, rfl, x, u, z, pt, p, .deed d, rfl, ⟨_, pcP T, hx⟩, hpl, hz, ok, sok, hgap, fit, fun y H10 s10 hy => ?_⟩
        have ok2 := put_ok ok sm.bl sm.fw sok hgap fit
        have hc := put_cut hgap fit
        replace hz := SmAt.tk (s := .deed d) s10.tk hz
        refine ⟨_, rfl, _, rfl, _, rfl, _, rfl, .ref a, u, z, pt, p, .deed d, rfl, hp.tk s10.tk, hpl.tk s10.tk, hz, ok, hgap, fit, fun v2 H11 s11 hv2 => ?_⟩
        refine ⟨y, v2, _, rfl, ⟨_, pcR T, hy.same s11⟩, hv2, ok2, fun H12 s12 => ⟨true, rfl, ?_⟩⟩
        have s1112 := s11.trans s12
        have s1012 := s10.trans s1112
        refine ⟨_, rfl, _, rfl, y, u, _, p, rfl, ⟨_, pcR T, hy.same s1112⟩, hpl.tk s1012.tk, ok2, hc.1, fun z2 H13 s13 hz2 => ?_⟩
        rw [hc.2] at hz2
        refine ⟨_, rfl, ne_read T hz2 (hx.same (s1012.trans s13)) fun H14 s14 => ⟨_, rfl, ?_⟩⟩
        exact ⟨_, _, _, _, rfl, g7.then ((s1012.trans s13).trans s14)⟩
      · rintro σ H7 ⟨v3, v4, v5, v6, rfl, g7⟩
        exact q H7 (g1.trans g7)
    · intro N next
      refine ⟨_, rfl, _, rfl, v, pt, rfl, hp, ok, fun r us H4 nr s4 hr4 l2 pl => ?_⟩
      refine ⟨h, r, us, rfl, g1.b.same s4, hr4, (g1.b.ne nr), by omega, fun r2 ys H5 pm nr2 g5 hr5 => ?_⟩
      refine ⟨12, rfl, r2, ys, rfl, SqL.of hr5, fun t nt => ?_⟩
      rw [show cutV ys none (some 12) = ys.take 12 from cut_to ys 12]
      have s6 := same_upd (o := .lst (ys.take 12)) nt
      have g6 := (Go.same g1.b s4).trans (g5.then s6)
      have pl6 : PlsAt pt.has (upd H5 t (.lst (ys.take 12))) (ys.take 12) := ((pl.tk g5.tk).tk s6.tk).sub fun u hu => pm.mem_iff.mp (List.mem_of_mem_take hu)
      have nth : t ≠ h := g5.b.ne nt
      have ht6 : (upd H5 t (.lst (ys.take 12))) t = some (.lst (ys.take 12)) := upd_same
      replace hp := hp.tk g6.tk
      replace hx := hx.go g6
      generalize (upd H5 t (.lst (ys.take 12))) = H6 at *
      generalize ys.take 12 = zs at *
      clear pl hr4
      refine ⟨t, rfl, ⟨_, SqL.of ht6⟩, for_it walk_list (fun i σ H7 => ∃ v3 v4 v5 v6, σ = [some (.ref h), some v, some x, v3, v4, v5, v6] ∧ Go h H6 H7) ⟨_, _, _, _, rfl, .refl g6.b⟩ (fun i σ H7 _ ⟨_, _, _, _, _, g7⟩ => SqL.of (g7.lst ht6 nth)) ?_ ?_⟩
      · rintro i u σ H7 H8 hi ⟨v3, v4, v5, v6, rfl, g7⟩ ⟨rfl, hu⟩
        obtain ⟨p, hpl, hhas⟩ := pl6 u (List.mem_of_getElem? hu)
        replace hp := hp.tk g7.tk
        replace hx := hx.go g7
        replace hpl := hpl.tk g7.tk
        refine ⟨_, rfl, _, rfl, x, u, pt, p, rfl, ⟨_, pcP T, hx⟩, hpl, ok, hhas, fun y H9 s9 hy => ?_⟩
        have ok2 := cut_ok ok hhas
        refine ⟨_, rfl, _, rfl, _, rfl, v, u, pt, p, rfl, hp.tk s9.tk, hpl.tk s9.tk, ok, hhas, fun v2 H10 s10 hv2 => ?_⟩
        refine ⟨y, v2, _, rfl, ⟨_, pcR T, hy.same s10⟩, hv2, ok2, fun H11 s11 => ⟨true, rfl, ?_⟩⟩
        have s1011 := s10.trans s11
        have s911 := s9.trans s1011
        refine ⟨_, rfl, _, rfl, _, rfl, _, rfl, v, u, pt, p, rfl, hp.tk s911.tk, hpl.tk s911.tk, hhas, fun st z get hz => ?_⟩
        obtain ⟨fit, gap, back⟩ := cut_put hhas get
        refine ⟨y, u, z, _, p, st, rfl, ⟨_, pcR T, hy.same s1011⟩, hpl.tk s911.tk, hz, ok2, get_ok ok get, gap, fit, fun z2 H13 s13 hz2 => ?_⟩
        rw [back] at hz2
        refine ⟨_, rfl, ne_read T hz2 (hx.same (s911.trans s13)) fun H14 s14 => ⟨_, rfl, ?_⟩⟩
        exact ⟨_, _, _, _, rfl, g7.then ((s911.trans s13).trans s14)⟩
      · rintro σ H7 ⟨v3, v4, v5, v6, rfl, g7⟩
        exact next _ _ ⟨_, _, _, _, rfl, (Go.same (g1.b.same (Same.refl _)) (Same.refl _)).trans (g6.trans g7)⟩
end
end Fr
/-! ## FrDictK -/
set_option Elab.async false
set_option linter.all false
set_option maxRecDepth 100000
set_option maxHeartbeats 4000000
/-! Dicts whose keys are names, in a given order. -/
namespace Fr
open PySem PySem.Spec PyProof.Rows L2
/-- a dict comprehension over it: Pv by the turn and the heap (the new dict at D within) -/
theorem dc_it {J : It} {n : Nat} {G : Hp → Prop} {Y : Nat → Hp → V → Hp → Prop} (w : Walk J n G Y) {g : TG} {tt : TT} {tk tv : TE} {vs : List Nat} {σ : L2.St} {H1 : Hp} {D : Addr} {Qd : Hp → Prop} (Pv : Nat → Hp → Prop) (h0 : Pv 0 (upd H1 D (.dK []))) (hG : ∀ i H, i ≤ n → Pv i H → G H)
    (hs : ∀ i x H H', i < n → Pv i H → Y i H x H' → g x (wipe σ vs) H' fun σ2 H2 => wipe σ2 vs = wipe σ vs ∧ tt σ2 H2 fun b H3 =>
      if b = true then tk σ2 H3 fun y H4 => tv σ2 H4 fun z H5 => ∃ kvs k, y = kV k ∧ H5 D = some (.dK kvs) ∧ kvs.length < sizeLine ∧ Pv (i + 1) (upd H5 D (.dK (putK kvs k z))) else Pv (i + 1) H3) (hd : ∀ H, Pv n H → Qd H) :
    ∃ W : Nat → Nat → Hp → Prop, (∃ m, W 0 m (upd H1 D (.dK []))) ∧ ∀ i m H, W i m H →
      (J.stop i H ∧ Qd H) ∨ (J.go i H ∧ ∃ Nx : Hp → Prop, (∀ H', Nx H' → ∃ m', m' < m ∧ W (i + 1) m' H') ∧ ∀ x H', J.yld i H x H' → g x (wipe σ vs) H' fun σ2 H2 => wipe σ2 vs = wipe σ vs ∧ tt σ2 H2 fun b H3 =>
        if b = true then tk σ2 H3 fun y H4 => tv σ2 H4 fun z H5 => ∃ kvs k, y = kV k ∧ H5 D = some (.dK kvs) ∧ kvs.length < sizeLine ∧ Nx (upd H5 D (.dK (putK kvs k z))) else Nx H3) := by
  refine ⟨fun i m H => m = n - i ∧ i ≤ n ∧ Pv i H, ⟨n, by simp, Nat.zero_le _, h0⟩, ?_⟩
  rintro i m H ⟨rfl, hi, p⟩
  have q := hG i H hi p
  by_cases hlt : i < n
  · refine .inr ⟨w.goes i H hlt q, Pv (i + 1), fun H' p' => ⟨n - (i + 1), by omega, rfl, hlt, p'⟩, fun x H' y => hs i x H H' hlt p (w.yields i H x H' hlt q y)⟩
  · have e : i = n := by omega
    subst e
    exact .inl ⟨w.stops H q, hd H p⟩
/-- these pairs: the names ns in order, F of value and name -/
def Ent (F : V → Str → Prop) (kv : Key × V) (n : Str) : Prop := kv.1 = Sum.inr n ∧ F kv.2 n
abbrev Ents (F : V → Str → Prop) (kvs : List (Key × V)) (ns : List Str) : Prop := Paired (Ent F) kvs ns
section
variable {F F' : V → Str → Prop}
theorem inrK {a b : Str} (h : (Sum.inr a : Key) = Sum.inr b) : a = b := by cases h; rfl
theorem Ents.keys : ∀ {kvs : List (Key × V)} {ns : List Str}, Ents F kvs ns → kvs.map (·.1) = ns.map Sum.inr
  | _, _, .nil => rfl
  | _, _, .cons r t => by rw [List.map_cons, List.map_cons, r.1, Ents.keys t]
theorem Ents.get {n : Str} : ∀ {kvs : List (Key × V)} {ns : List Str}, Ents F kvs ns → n ∈ ns → ∃ v, valV kvs (Sum.inr n) = some v ∧ F v n
  | _, _, .nil, h => nomatch h
  | p :: kvs, m :: ns, .cons r t, h => by
    by_cases e : m = n
    · subst e
      exact ⟨p.2, valV_pos r.1, r.2⟩
    · have e1 : ¬ p.1 = Sum.inr n := fun z => e (inrK (r.1.symm.trans z))
      rw [valV_neg e1]
      exact Ents.get t ((List.mem_cons.mp h).resolve_left fun z => e z.symm)
theorem Ents.none {n : Str} : ∀ {kvs : List (Key × V)} {ns : List Str}, Ents F kvs ns → n ∉ ns → valV kvs (Sum.inr n) = none
  | _, _, .nil, _ => rfl
  | p :: kvs, m :: ns, .cons r t, h => by
    have e1 : ¬ p.1 = Sum.inr n := fun z => h (List.mem_cons.mpr (.inl (inrK (r.1.symm.trans z)).symm))
    rw [valV_neg e1]
    exact Ents.none t fun z => h (List.mem_cons_of_mem _ z)
theorem Ents.new {kvs : List (Key × V)} {ns : List Str} {n : Str} {v : V} (h : Ents F kvs ns) (hn : n ∉ ns) (hv : F v n) : Ents F (putK kvs (Sum.inr n) v) (ns ++ [n]) := by
  rw [putK_new v (h.none hn)]
  exact pr_app h (pr_one ⟨rfl, hv⟩)
theorem Ents.put {kvs : List (Key × V)} {ns : List Str} {n : Str} {v : V} (h : Ents F kvs ns) (hn : n ∈ ns) (hv : F' v n) (ho : ∀ m u, m ∈ ns → m ≠ n → F u m → F' u m) : Ents F' (putK kvs (Sum.inr n) v) ns := by
  obtain ⟨x, hx, _⟩ := h.get hn
  unfold putK
  rw [valV_any, hx]
  show Ents F' (kvs.map (fun kv => if kv.1 = Sum.inr n then (kv.1, v) else kv)) ns
  clear hx hn
  induction h with
  | nil => exact .nil
  | @cons p m ps ms r t ih =>
    refine .cons ?_ (ih fun k u hk => ho k u (List.mem_cons_of_mem _ hk))
    show Ent F' (if p.1 = Sum.inr n then (p.1, v) else p) m
    by_cases e : m = n
    · subst e
      rw [if_pos r.1]
      exact ⟨r.1, hv⟩
    · rw [if_neg fun z => e (inrK (r.1.symm.trans z))]
      exact ⟨r.1, ho m _ (List.mem_cons_self ..) e r.2⟩
theorem Ents.mono {kvs : List (Key × V)} {ns : List Str} (h : Ents F kvs ns) (i : ∀ v n, F v n → F' v n) : Ents F' kvs ns := Paired.mono (fun _ _ z => (⟨z.1, i _ _ z.2⟩ : Ent F' _ _)) h
theorem Ents.len {kvs : List (Key × V)} {ns : List Str} (h : Ents F kvs ns) : kvs.length = ns.length := Paired.length h
end
/-- the numbers f of the names ks -/
def NuAt (H : Hp) (v : V) (ks : List Str) (f : Str → Nat) : Prop := ∃ a kvs, v = .ref a ∧ H a = some (.dK kvs) ∧ Ents (fun u n => u = .int (f n : Nat)) kvs ks
abbrev Psh := Str → Option Str × Nat
def srcV : Option Str → V
  | none => .non
  | some x => .str x
def PairAt (H : Hp) (v : V) (p : Option Str × Nat) : Prop := ∃ a, v = .ref a ∧ H a = some (.tup [srcV p.1, .int (p.2 : Nat)])
def PuAt (H : Hp) (v : V) (ks : List Str) (p : Psh) : Prop := ∃ a kvs, v = .ref a ∧ H a = some (.dK kvs) ∧ Ents (fun u n => PairAt H u (p n)) kvs ks
theorem PairAt.tk {H H' : Hp} (t : Tk H H') {v : V} {p : Option Str × Nat} (h : PairAt H v p) : PairAt H' v p := let ⟨a, e, q⟩ := h; ⟨a, e, t _ _ q⟩
theorem NuAt.same {H H' : Hp} (s : Same H H') {v : V} {ks : List Str} {f : Str → Nat} (h : NuAt H v ks f) : NuAt H' v ks f := let ⟨a, kvs, e, q, r⟩ := h; ⟨a, kvs, e, s _ _ q, r⟩
theorem _root_.L2.Rd.same {H H' : Hp} (s : Same H H') {a : Addr} {u : HO} (h : Rd H a u) : Rd H' a u := h.elim (fun e => .inl (s _ _ e)) (fun ⟨o, e⟩ => .inr ⟨o, s _ _ e⟩)
theorem PuAt.same {H H' : Hp} (s : Same H H') {v : V} {ks : List Str} {p : Psh} (h : PuAt H v ks p) : PuAt H' v ks p := let ⟨a, kvs, e, q, r⟩ := h; ⟨a, kvs, e, s _ _ q, r.mono fun _ _ z => z.tk s.tk⟩
/-- a thing that is not a tuple is written: the tuples stand -/
theorem tk_upd {H : Hp} {D : Addr} {u o : HO} (e : H D = some u) (n : ∀ xs, u ≠ .tup xs) : Tk H (upd H D o) := fun a ys q => by
  rw [upd_ne (ne_of q e (fun z => n _ z.symm))]
  exact q
/-- all but D stands -/
def Bt (D : Addr) (H H' : Hp) : Prop := ∀ c o, H c = some o → c ≠ D → H' c = some o
theorem Bt.of {D : Addr} {H H' : Hp} (s : Same H H') : Bt D H H' := fun c o e _ => s c o e
theorem Bt.trans {D : Addr} {H H1 H2 : Hp} (a : Bt D H H1) (b : Bt D H1 H2) : Bt D H H2 := fun c o e n => b c o (a c o e n) n
theorem bt_upd {D : Addr} {H : Hp} {o : HO} : Bt D H (upd H D o) := fun c u e n => by rw [upd_ne n]; exact e
theorem Bt.tk {D : Addr} {H H' : Hp} {kvs : List (Key × V)} (b : Bt D H H') (e : H D = some (.dK kvs)) : Tk H H' := fun a xs q => b a _ q (ne_of q e (by intro z; cases z))
theorem Bt.lst {D a : Addr} {H H' : Hp} {kvs : List (Key × V)} {xs : List V} (b : Bt D H H') (e : H D = some (.dK kvs)) (q : H a = some (.lst xs)) : H' a = some (.lst xs) := b a _ q (ne_of q e (by intro z; cases z))
/-- while d is locked -/
theorem rd_lock {H : Hp} {d a : Addr} {ks kvs : List (Key × V)} {od : Obj} (e : H d = some (.dK ks)) (r : Rd H a (.dK kvs)) : Rd (upd H d (.frz od (.dK ks))) a (.dK kvs) := by
  by_cases z : a = d
  · subst z
    rcases r with r | ⟨o, r⟩
    · rw [e] at r
      cases r
      exact .inr ⟨od, upd_same⟩
    · rw [e] at r
      cases r
  · rcases r with r | ⟨o, r⟩
    · exact .inl (by rw [upd_ne z]; exact r)
    · exact .inr ⟨o, by rw [upd_ne z]; exact r⟩
/-- unlocked again: all as before, and more -/
theorem same_unlock {H H' : Hp} {d : Addr} {u : HO} {od : Obj} (e : H d = some u) (s : Same (upd H d (.frz od u)) H') : Same H (upd H' d u) := fun b o q => by
  by_cases z : b = d
  · subst z
    rw [e] at q
    rw [upd_same]
    exact q
  · rw [upd_ne z]
    exact s b o (by rw [upd_ne z]; exact q)
end Fr
/-! ## FrRun1 -/
set_option Elab.async false
set_option linter.all false
set_option maxRecDepth 100000
set_option maxHeartbeats 4000000
/-! A program's names. -/
namespace Fr
open PySem PySem.Spec PyProof.Rows L2
/-- all statements and deeds, from the first -/
def flat (b : List Sm) : List Sm := b.flatMap fun s => s :: s.ins.map Sm.deed
def Pt.nms (pt : Pt) : List Str := (pt.given ++ pt.told) ++ (flat pt.block).flatMap Sm.nms
theorem nodup_le {α : Type} [DecidableEq α] : ∀ {l m : List α}, l.Nodup → (∀ x ∈ l, x ∈ m) → l.length ≤ m.length
  | [], _, _, _ => Nat.zero_le _
  | x :: l, m, nd, h => by
    obtain ⟨hx, nd⟩ := List.nodup_cons.mp nd
    have hm := h x (List.mem_cons_self ..)
    have ih := nodup_le (l := l) (m := m.erase x) nd fun y hy => (List.mem_erase_of_ne (by rintro rfl; exact hx hy)).mpr (h y (List.mem_cons_of_mem _ hy))
    rw [List.length_erase_of_mem hm] at ih
    have := List.length_pos_of_mem hm
    rw [List.length_cons]
    omega
theorem ents_add {kvs : List (Key × V)} {ks : List Str} (n : Str) (v : V) (h : Ents (fun _ _ => True) kvs ks) (nd : ks.Nodup) : ∃ ks', Ents (fun _ _ => True) (putK kvs (Sum.inr n) v) ks' ∧ ks'.Nodup ∧ ∀ x, x ∈ ks' ↔ x ∈ ks ∨ x = n := by
  by_cases hn : n ∈ ks
  · refine ⟨ks, h.put hn trivial (fun _ _ _ _ _ => trivial), nd, fun x => ⟨.inl, fun z => z.elim id fun e => e ▸ hn⟩⟩
  · refine ⟨ks ++ [n], h.new hn trivial, nd_snoc nd hn, fun x => ?_⟩
    rw [List.mem_append, List.mem_singleton]
theorem flat_snoc (b : List Sm) (i : Nat) {s : Sm} (h : b[i]? = some s) : flat (b.take (i + 1)) = flat (b.take i) ++ (s :: s.ins.map Sm.deed) := by
  rw [List.take_add_one, h]
  show List.flatMap _ (b.take i ++ [s]) = _
  rw [List.flatMap_append]
  simp [flat]
section
variable {P : Program} {w : World} {K : PySem.W.Frag} {mg : Str → Option Value} {base : Heap}
theorem flat_len {b : List Sm} (ok : ∀ s ∈ b, s.ok) : (flat b).length ≤ 17 * b.length := by
  induction b with
  | nil => exact Nat.zero_le _
  | cons s b ih =>
    have h1 := (ok s (List.mem_cons_self ..)).few
    have h2 := ih fun s hs => ok s (List.mem_cons_of_mem _ hs)
    have e : flat (s :: b) = (s :: s.ins.map Sm.deed) ++ flat b := rfl
    rw [e, List.length_append, List.length_cons, List.length_cons, List.length_map]
    omega
theorem sc_deeds_in : FnScope ["block", "found", "statement"] ["block"] (defScope (top 25)) := ⟨rfl, rfl, rfl, by decide +kernel, rfl, by decide +kernel, by decide +kernel⟩
def spDeedsIn : Sp := fun vs H Q _ => ∃ (v : V) (b : List Sm), vs = [v] ∧ BkAt H v b ∧ (∀ s ∈ b, s.ok) ∧ b.length ≤ 1000 ∧ ∀ (r : Addr) (us : List V) H', Same H H' → H' r = some (.lst us) → Paired (SmAt H') us (flat b) → Q (.ref r) H'
theorem c_deeds_in (T : Txt K mg) : Cl P w K mg base 1 "deeds_in" ["block"] spDeedsIn := by
  refine cl_of T.fdeeds_in T.gdeeds_in sc_deeds_in (fun _ _ _ _ _ _ us hl => match us, hl with | [_], _ => rfl) (fun vs H Q E h => ?_) (fun cdv A outer s H vs Q E hr h => ?_)
  · obtain ⟨v, b, rfl, _⟩ := h
    rfl
  · obtain ⟨v, b, rfl, ⟨a, us, rfl, ha, pr⟩, ok, hl, q⟩ := h
    refine ⟨_, (pss_cons (ps_set (i := 1) sc_deeds_in.nd rfl (Or.inl rfl) (pe_lst pa_nil))
      (pss_cons (ps_for PassesOwn.never rfl (pi_tup (pv 0)) (pg_name (i := 2) sc_deeds_in.nd rfl (Or.inl rfl)) (pss_cons (ps_expr (pe_bm PySem.F.plainAttrs_list PySem.F.slot_list_append PySem.F.type_list_append mt_append (pv 1) (pa_cons (pv 2) pa_nil)))
      (pss_one (ps_if (pt_cmpR op_eq (pe_ix ix_tup (pv 2) pe_int (fun _ _ => rfl)) pe_str (nomark _)) (pss_one (ps_expr (pe_bm PySem.F.plainAttrs_list PySem.F.slot_list_extend PySem.F.type_list_extend mt_extT (pv 1) (pa_cons (pe_ix ix_tup (pv 2) pe_int (fun _ _ => rfl)) pa_nil)))) pss_nil))))
      (pss_one (ps_ret (pv 1))))), ?_⟩
    have hlen := pr.length
    refine ⟨by show 0 ≤ sizeLine; decide, fun f nf => ?_⟩
    have s1 := same_upd (o := .lst []) nf
    refine ⟨_, rfl, a, rfl, ⟨_, SqT.of (s1 _ _ ha)⟩, for_it walk_tup (fun i σ H1 => ∃ v3, σ = [some (.ref a), some (.ref f), v3] ∧ Same H H1 ∧ ∃ fs, H1 f = some (.lst fs) ∧ Paired (SmAt H1) fs (flat (b.take i))) ⟨none, rfl, s1, [], upd_same, .nil⟩ (fun i σ H1 _ ⟨_, _, s2, _⟩ => SqT.of (s2 _ _ ha)) ?_ ?_⟩
    · rintro i u σ H2 H1 hi ⟨v3, rfl, s2, fs, hf, pf⟩ ⟨rfl, hu⟩
      obtain ⟨st, hst, hsm⟩ := pr_getL pr hu
      have oks := ok st (List.mem_of_getElem? hst)
      have lf := pf.length
      have lf2 := flat_len (b := b.take i) fun s hs => ok s (List.mem_of_mem_take hs)
      rw [List.length_take] at lf2
      refine ⟨_, rfl, .inl ⟨rfl, _, SqL.of hf⟩, _, rfl, f, fs, u, rfl, rfl, hf, lineL (by omega), ?_⟩
      have tf := tk_lst (o := .lst (fs ++ [u])) hf
      have s3 : Same H (upd H1 f (.lst (fs ++ [u]))) := same_grow nf s2
      have pf3 : Paired (SmAt (upd H1 f (.lst (fs ++ [u])))) (fs ++ [u]) (flat (b.take i) ++ [st]) := pr_app (prSm_tk tf pf) (pr_one (hsm.tk s3.tk))
      have e3 : (upd H1 f (.lst (fs ++ [u]))) f = some (.lst (fs ++ [u])) := upd_same
      have lf3 : (fs ++ [u]).length = fs.length + 1 := by simp
      generalize (upd H1 f (.lst (fs ++ [u]))) = H3 at *
      generalize fs ++ [u] = fs3 at *
      have hsm := hsm.tk s3.tk
      cases st with
      | deed d =>
        obtain ⟨c, rfl, hc⟩ := hsm.deed
        refine ⟨_, rfl, c, _, 0, .str d.kind, rfl, rfl, SqT.of hc, atI_nat (j := 0) rfl, rfl, _, rfl, ?_⟩
        rw [d.kind_round]
        exact ⟨_, rfl, s3, fs3, e3, by rw [flat_snoc b i hst]; exact pf3⟩
      | round y ds =>
        obtain ⟨c, b', ws, rfl, hc, hb', pr'⟩ := hsm.round
        have few : ds.length ≤ 16 := oks.few
        have hl' := pr'.length
        refine ⟨_, rfl, c, _, 0, .str "round", rfl, rfl, SqT.of hc, rfl, rfl, _, rfl, ?_⟩
        rw [round_round]
        have t4 := tk_lst (o := .lst (fs3 ++ ws)) e3
        refine ⟨_, rfl, .inl ⟨rfl, _, SqL.of e3⟩, _, rfl, c, _, 2, .ref b', rfl, rfl, SqT.of hc, rfl, f, b', fs3, ws, rfl, rfl, e3, hb', lineS (by omega), ?_⟩
        refine ⟨_, rfl, same_grow nf s3, fs3 ++ ws, upd_same, ?_⟩
        rw [flat_snoc b i hst]
        have pw : ∀ {ws : List V} {ds : List Dd}, Paired (DdAt H3) ws ds → Paired (SmAt H3) ws (ds.map Sm.deed) := by
          intro ws ds h
          induction h with
          | nil => exact .nil
          | cons r t ih => exact .cons r ih
        have := prSm_tk t4 (pr_app pf3 (pw pr'))
        rw [List.append_assoc] at this
        exact this
    · rintro σ H1 ⟨v3, rfl, s2, fs, hf, pf⟩
      refine ⟨_, rfl, q f fs H1 s2 hf ?_⟩
      rw [List.take_of_length_le (by omega)] at pf
      exact pf
theorem sc_names_of : FnScope ["statement"] ["statement"] (defScope (top 26)) := ⟨rfl, rfl, rfl, by decide +kernel, rfl, by decide +kernel, by decide +kernel⟩
def spNamesOf : Sp := fun vs H Q _ => ∃ (v : V) (s : Sm), vs = [v] ∧ SmAt H v s ∧ ∀ u H', Same H H' → NsAt H' u s.nms → Q u H'
theorem c_names_of (T : Txt K mg) : Cl P w K mg base 1 "names_of" ["statement"] spNamesOf := by
  refine cl_of T.fnames_of T.gnames_of sc_names_of (fun _ _ _ _ _ _ us hl => match us, hl with | [_], _ => rfl) (fun vs H Q E h => ?_) (fun cdv A outer s H vs Q E hr h => ?_)
  · obtain ⟨v, s, rfl, _⟩ := h
    rfl
  · obtain ⟨v, st, rfl, hs, q⟩ := h
    refine ⟨_, (pss_one (ps_ret (pe_ifExp (pt_cmpR op_eq (pe_ix ix_tup (pv 0) pe_int (fun _ _ => rfl)) pe_str (nomark _)) (pe_slice sl_tupA (pv 0) (po_some pe_int) (po_some pe_int)) (pe_slice sl_F (pv 0) (po_some pe_int) po_none)))), ?_⟩
    cases st with
    | deed d =>
      obtain ⟨c, rfl, hc⟩ := hs.deed
      refine ⟨_, rfl, c, _, 0, .str d.kind, rfl, rfl, SqT.of hc, atI_nat (j := 0) rfl, rfl, _, rfl, ?_⟩
      rw [d.kind_round]
      exact ⟨_, rfl, 1, rfl, c, _, 1, rfl, rfl, rfl, hc, fun t H1 s1 ht => q _ _ s1 ⟨t, rfl, ht⟩⟩
    | round y ds =>
      obtain ⟨c, b', ws, rfl, hc, hb', pr'⟩ := hs.round
      refine ⟨_, rfl, c, _, 0, .str "round", rfl, rfl, SqT.of hc, rfl, rfl, _, rfl, ?_⟩
      rw [round_round]
      refine ⟨_, rfl, 1, rfl, 2, rfl, c, _, rfl, SqT.of hc, fun z => absurd (show HT.sIx 3 0 (some 1) = 0 ∧ HT.sIx 3 3 (some 2) = 3 from z) (by decide), fun _ p hp => ?_⟩
      exact q _ _ (same_upd hp) ⟨p, rfl, upd_same⟩
end
end Fr
/-! ## FrRun2 -/
set_option Elab.async false
set_option linter.all false
set_option maxRecDepth 100000
set_option maxHeartbeats 4000000
/-! names(program). -/
namespace Fr
open PySem PySem.Spec PyProof.Rows L2
theorem menu14 : menu.length = 14 := rfl
theorem Sm.ok.nms_len {s : Sm} (o : s.ok) : s.nms.length ≤ 2 := by
  cases s with
  | deed d => exact (Fr.nms_len d).2
  | round x ds => exact Nat.le_succ 1
theorem flat_ok {b : List Sm} (ok : ∀ s ∈ b, s.ok) : ∀ s ∈ flat b, s.ok := fun s hs => by
  obtain ⟨t, ht, h⟩ := List.mem_flatMap.mp hs
  have o := ok t ht
  rcases List.mem_cons.mp h with rfl | h
  · exact o
  · obtain ⟨d, hd, rfl⟩ := List.mem_map.mp h
    exact ⟨o.im d hd, (fun _ z => nomatch z), Nat.zero_le _⟩
theorem Pt.ok.names {pt : Pt} (o : pt.ok) : ∀ x ∈ pt.nms, x ∈ menu := fun x hx => by
  rcases List.mem_append.mp hx with h | h
  · exact (List.mem_append.mp h).elim (o.gm x) (o.tm x)
  · obtain ⟨s, hs, h⟩ := List.mem_flatMap.mp h
    exact (flat_ok o.bk s hs).nm x h
section
variable {P : Program} {w : World} {K : PySem.W.Frag} {mg : Str → Option Value} {base : Heap}
theorem sc_names : FnScope ["program", "found", "name", "statement"] ["program"] (defScope (top 27)) := ⟨rfl, rfl, rfl, by decide +kernel, rfl, by decide +kernel, by decide +kernel⟩
/-- a dict of names met so far, l the list of those -/
def Met (H : Hp) (D : Addr) (l : List Str) : Prop := ∃ ks kvs, H D = some (.dK kvs) ∧ Ents (fun _ _ => True) kvs ks ∧ ks.Nodup ∧ ∀ x, x ∈ ks ↔ x ∈ l
theorem Met.add {H : Hp} {D : Addr} {l : List Str} (m : Met H D l) (hl : ∀ x ∈ l, x ∈ menu) (n : Str) (v : V) : ∃ kvs, H D = some (.dK kvs) ∧ kvs.length < sizeLine ∧ Met (upd H D (.dK (putK kvs (Sum.inr n) v))) D (l ++ [n]) := by
  obtain ⟨ks, kvs, e, h, nd, hx⟩ := m
  have hlen := h.len
  have := nodup_le nd fun x h => hl x ((hx x).mp h)
  obtain ⟨ks', h1, h2, h3⟩ := ents_add n v h nd
  refine ⟨kvs, e, lineL (by have := menu14; omega), ks', _, upd_same, h1, h2, fun x => ?_⟩
  rw [h3, hx, List.mem_append, List.mem_singleton]
theorem Met.same {H H' : Hp} {D : Addr} {l : List Str} (m : Met H D l) (s : Same H H') : Met H' D l := let ⟨ks, kvs, e, h⟩ := m; ⟨ks, kvs, s _ _ e, h⟩
def spNamesP (K : PySem.W.Frag) : Sp := fun vs H Q _ => ∃ (x : V) (pt : Pt), vs = [x] ∧ Pg K H x pt ∧ pt.ok ∧ ∀ (ks : List Str) v H', ks.Nodup → (∀ n, n ∈ ks ↔ n ∈ pt.nms) → NsAt H' v ks → Same H H' → Q v H'
theorem c_names (T : Txt K mg) : Cl P w K mg base 2 "names" ["program"] (spNamesP K) := by
  refine cl_of T.fnames T.gnames sc_names (fun _ _ _ _ _ _ us hl => match us, hl with | [_], _ => rfl) (fun vs H Q E h => ?_) (fun cdv A outer s H vs Q E hr h => ?_)
  · obtain ⟨x, pt, rfl, _⟩ := h
    rfl
  · obtain ⟨x, pt, rfl, ⟨C, pc, a, dx, g, t, b, rfl, hp, ⟨ga, rfl, hga⟩, ⟨ta, rfl, hta⟩, hb⟩, ok, q⟩ := h
    refine ⟨_, (pss_cons (ps_setDc (i := 1) (own := [("name", 2)]) (g := gName 2) (tt := tYes) rfl sc_names.nd rfl rfl (sw_trueD rfl rfl rfl (by decide +kernel)) (pi_tup (pe_op op_catF (pe_fld (pv 0) rfl) (pe_fld (pv 0) rfl))) (blkOk_by (own := [("name", 2)]) (N := ["program", "found", "name", "statement"]) (sc := defScope (top 27)) (by decide +kernel)) (fun _ _ _ _ _ => pg_name (i := 2) sc_names.nd rfl (Or.inl rfl)) (fun _ _ _ _ _ => pts_nil) (fun _ _ _ _ _ => (pv 2)) (fun _ _ _ _ _ => pe_bl))
      (pss_cons (ps_for PassesOwn.never rfl (pi_list (pe_f (c_deeds_in T) hr (pa_cons (pe_fld (pv 0) rfl) pa_nil))) (pg_name (i := 3) sc_names.nd rfl (Or.inl rfl)) (pss_one (ps_for PassesOwn.never rfl (pi_tup (pe_f (c_names_of T) hr (pa_cons (pv 3) pa_nil))) (pg_name (i := 2) sc_names.nd rfl (Or.inl rfl)) (pss_one (ps_dput (hu_of hr) (pv 1) (pv 2) pe_bl rfl)))))
      (pss_one (ps_ret (pe_tupleOf (by rfl) T.ztuple (pe_callB (call_sortedD rfl) (by rfl) T.zsorted bo_sorted (pa_cons (pv 1) pa_nil))))))), ?_⟩
    have hm := ok.names
    have l1 := ok.gl
    have l2 := ok.t4
    have l3 := ok.bl
    refine ⟨_, rfl, a, C, dx, _, _, rfl, hp, pc.cl, pc.ng, flds_g _ _ _, _, rfl, a, C, dx, _, _, rfl, hp, pc.cl, pc.nt, flds_t _ _ _, ga, ta, _, _, rfl, rfl, hga, hta, lineS (by rw [List.length_map, List.length_map]; omega), fun tp H1 s1 htp => ?_⟩
    rw [← List.map_append] at htp
    refine ⟨tp, rfl, ⟨_, SqT.of htp⟩, fun D nD => ?_⟩
    have nD0 := s1.free nD
    have hall : ∀ x ∈ pt.given ++ pt.told, x ∈ menu := fun x hx => hm x (List.mem_append_left _ hx)
    refine dc_it walk_tup (fun i H2 => Same H1 H2 ∧ Met H2 D ((pt.given ++ pt.told).take i)) ⟨same_upd nD, [], [], upd_same, .nil, List.nodup_nil, fun x => by simp⟩ (fun i H2 _ h => SqT.of (h.1 _ _ htp)) ?_ ?_
    · rintro i v H3 H2 hi ⟨s2, m2⟩ ⟨rfl, hv⟩
      rw [List.getElem?_map] at hv
      obtain ⟨n, hn, rfl⟩ := Option.map_eq_some_iff.mp hv
      obtain ⟨kvs, e, hl, m3⟩ := m2.add (fun x hx => hall x (List.mem_of_mem_take hx)) n (.bl true)
      refine ⟨rfl, _, rfl, kvs, Sum.inr n, rfl, e, hl, same_grow nD s2, ?_⟩
      rw [List.take_add_one, hn]
      exact m3
    · rintro H2 ⟨s2, m2⟩
      have s02 := s1.trans s2
      rw [List.length_map, List.take_length] at m2
      refine ⟨_, rfl, a, C, dx, _, _, rfl, s02 _ _ hp, pc.cl, pc.nb, flds_b _ _ _, b, pt.block, rfl, hb.tk s02.tk, ok.bk, by omega, fun r us H3 s3 hr3 pr => ?_⟩
      have s03 := s02.trans s3
      have pl := pr.length
      have m3 := m2.same s3
      obtain ⟨ks3, kvs3, e3, _⟩ := m3
      have m3 := m2.same s3
      refine ⟨r, rfl, ⟨_, SqL.of hr3⟩, for_it walk_list (fun i σ H4 => ∃ v2 v3, σ = [some (.ref a), some (.ref D), v2, v3] ∧ Same H H4 ∧ Bt D H3 H4 ∧ Met H4 D ((pt.given ++ pt.told) ++ ((flat pt.block).take i).flatMap Sm.nms)) ⟨_, _, rfl, s03, .of (.refl _), by simpa using m3⟩ (fun i σ H4 _ ⟨_, _, _, _, b4, _⟩ => SqL.of (b4.lst e3 hr3)) ?_ ?_⟩
      · rintro i u σ H5 H4 hi ⟨v2, v3, rfl, s4, b4, m4⟩ ⟨rfl, hu⟩
        obtain ⟨st, hst, hsm⟩ := pr_getL pr hu
        have oks := flat_ok ok.bk st (List.mem_of_getElem? hst)
        refine ⟨_, rfl, u, st, rfl, hsm.tk (b4.tk e3), fun un H5 s5 hun => ?_⟩
        obtain ⟨ua, rfl, hua⟩ := hun
        have hin : ∀ j, ∀ x ∈ ((pt.given ++ pt.told) ++ ((flat pt.block).take i).flatMap Sm.nms) ++ st.nms.take j, x ∈ menu := fun j x hx => by
          rcases List.mem_append.mp hx with h | h
          · rcases List.mem_append.mp h with h | h
            · exact hall x h
            · obtain ⟨s', hs', h⟩ := List.mem_flatMap.mp h
              exact (flat_ok ok.bk s' (List.mem_of_mem_take hs')).nm x h
          · exact oks.nm x (List.mem_of_mem_take h)
        have m5 := m4.same s5
        obtain ⟨ks5, kvs5, e5, _⟩ := m5
        have m5 := m4.same s5
        refine ⟨ua, rfl, ⟨_, SqT.of hua⟩, for_it (walk_tup (xs := st.nms.map V.str)) (fun j σ H6 => ∃ v2 v3, σ = [some (.ref a), some (.ref D), v2, v3] ∧ Same H H6 ∧ Bt D H5 H6 ∧ Met H6 D (((pt.given ++ pt.told) ++ ((flat pt.block).take i).flatMap Sm.nms) ++ st.nms.take j)) ⟨_, _, rfl, s4.trans s5, .of (.refl _), by simpa using m5⟩ (fun j σ H6 _ ⟨_, _, _, _, b6, _⟩ => SqT.of (b6.tk e5 _ _ hua)) ?_ ?_⟩
        · rintro j v σ H7 H6 hj ⟨v2, v3, rfl, s6, b6, m6⟩ ⟨rfl, hv⟩
          rw [List.getElem?_map] at hv
          obtain ⟨n, hn, rfl⟩ := Option.map_eq_some_iff.mp hv
          obtain ⟨kvs, e, hl, m7⟩ := m6.add (hin j) n (.bl true)
          refine ⟨_, rfl, _, rfl, D, _, rfl, .inl ⟨kvs, Sum.inr n, e, rfl, hl, rfl⟩, _, _, rfl, same_grow nD0 s6, b6.trans bt_upd, ?_⟩
          rw [List.take_add_one, hn, ← List.append_assoc]
          exact m7
        · rintro σ H6 ⟨v2, v3, rfl, s6, b6, m6⟩
          refine ⟨_, _, rfl, s6, (b4.trans (.of s5)).trans b6, ?_⟩
          rw [List.length_map, List.take_length] at m6
          rw [List.take_add_one, hst, List.flatMap_append, ← List.append_assoc]
          show Met _ _ (_ ++ List.flatMap Sm.nms [st])
          simpa using m6
      · rintro σ H4 ⟨v2, v3, rfl, s4, b4, m4⟩
        obtain ⟨ks, kvs, e, h, nd, hx⟩ := m4
        rw [List.take_of_length_le (by omega)] at hx
        have := nodup_le nd fun x h => hm x ((hx x).mp h)
        refine ⟨_, rfl, D, kvs, ks, rfl, .inl e, h.keys, by have := menu14; omega, fun ys p pm _ np => ?_⟩
        refine .inl ⟨p, _, rfl, SqL.of upd_same, fun p2 np2 => ?_⟩
        exact q ys _ _ (pm.nodup_iff.mpr nd) (fun n => (pm.mem_iff).trans (hx n)) ⟨p2, rfl, upd_same⟩ ((s4.trans (same_upd np)).trans (same_upd np2))
end
end Fr
/-! ## FrRun3 -/
set_option Elab.async false
set_option linter.all false
set_option maxRecDepth 100000
set_option maxHeartbeats 4000000
/-! Pushes. -/
namespace Fr
open PySem PySem.Spec PyProof.Rows L2
def idP : Psh := fun x => (some x, 0)
def stepP (p : Psh) : Dd → Psh
  | .zero x => fun n => if n = x then (none, 0) else p n
  | .copy x y => fun n => if n = x then p y else p n
  | .more x => fun n => if n = x then ((p x).1, (p x).2 + 1) else p n
def pushF (ds : List Dd) : Psh := ds.foldl stepP idP
def srcN (f : Str → Nat) (p : Option Str × Nat) : Nat := match p.1 with
  | none => p.2
  | some y => f y + p.2
def pushedF (p : Psh) (f : Str → Nat) : Str → Nat := fun n => srcN f (p n)
def afterF (p q : Psh) : Psh := fun n => match (q n).1 with
  | none => (none, (q n).2)
  | some y => ((p y).1, (p y).2 + (q n).2)
def timesGo (f p : Psh) (l : Nat) : Psh := if h : l = 0 then f else timesGo (if l % 2 = 1 then afterF f p else f) (afterF p p) (l / 2)
termination_by l
decreasing_by omega
/-- its sources are of these names -/
def Cld (ks : List Str) (p : Psh) : Prop := ∀ n ∈ ks, ∀ y, (p n).1 = some y → y ∈ ks
theorem cld_id {ks : List Str} : Cld ks idP := fun n hn y e => by
  cases e
  exact hn
theorem cld_step {ks : List Str} {p : Psh} {d : Dd} (h : Cld ks p) (hd : ∀ x ∈ d.nms, x ∈ ks) : Cld ks (stepP p d) := fun n hn y e => by
  cases d with
  | zero x =>
    replace e : (if n = x then (none, 0) else p n : Option Str × Nat).1 = some y := e
    split at e
    · cases e
    · exact h n hn y e
  | copy x z =>
    replace e : (if n = x then p z else p n : Option Str × Nat).1 = some y := e
    split at e
    · exact h z (hd z (by simp [Dd.nms])) y e
    · exact h n hn y e
  | more x =>
    replace e : (if n = x then ((p x).1, (p x).2 + 1) else p n : Option Str × Nat).1 = some y := e
    split at e
    · exact h x (hd x (by simp [Dd.nms])) y e
    · exact h n hn y e
theorem cld_push {ks : List Str} {ds : List Dd} (hd : ∀ d ∈ ds, ∀ x ∈ d.nms, x ∈ ks) : Cld ks (pushF ds) := by
  have : ∀ (ds : List Dd) (p : Psh), Cld ks p → (∀ d ∈ ds, ∀ x ∈ d.nms, x ∈ ks) → Cld ks (ds.foldl stepP p) := by
    intro ds
    induction ds with
    | nil => exact fun p h _ => h
    | cons d ds ih => exact fun p h hd => ih _ (cld_step h (hd d (List.mem_cons_self ..))) fun d' h' => hd d' (List.mem_cons_of_mem _ h')
  exact this ds idP cld_id hd
theorem cld_after {ks : List Str} {p q : Psh} (hp : Cld ks p) (hq : Cld ks q) : Cld ks (afterF p q) := fun n hn y e => by
  unfold afterF at e
  split at e
  · cases e
  · rename_i z hz
    exact hp z (hq n hn z hz) y e
theorem push_snoc {ds : List Dd} {i : Nat} {d : Dd} (h : ds[i]? = some d) : pushF (ds.take (i + 1)) = stepP (pushF (ds.take i)) d := by
  unfold pushF
  rw [List.take_add_one, h]
  show List.foldl _ _ (ds.take i ++ [d]) = _
  rw [List.foldl_append]
  rfl
theorem nd_take {ks : List Str} {i : Nat} {n : Str} (nd : ks.Nodup) (h : ks[i]? = some n) : n ∉ ks.take i := fun z => by
  have q := nd.sublist (List.take_sublist (i + 1) ks)
  rw [List.take_add_one, h] at q
  exact (List.nodup_append.mp q).2.2 n z n (List.mem_singleton.mpr rfl) rfl
theorem zz : decide (V.str "zero" = V.str "zero") = true := decide_eq_true rfl
theorem cz : decide (V.str "copy" = V.str "zero") = false := by decide +kernel
theorem mz : decide (V.str "more" = V.str "zero") = false := by decide +kernel
section
variable {P : Program} {w : World} {K : PySem.W.Frag} {mg : Str → Option Value} {base : Heap}
theorem sc_raw_push : FnScope ["own", "deeds", "found", "name", "deed", "source", "more"] ["own", "deeds"] (defScope (top 36)) := ⟨rfl, rfl, rfl, by decide +kernel, rfl, by decide +kernel, by decide +kernel⟩
def spPush : Sp := fun vs H Q _ => ∃ (o u : V) (ks : List Str) (ds : List Dd), vs = [o, u] ∧ NsAt H o ks ∧ ks.Nodup ∧ ks.length ≤ 100 ∧ DsAt H u ds ∧ (∀ d ∈ ds, ∀ x ∈ d.nms, x ∈ ks) ∧ ∀ (r : Addr) H', H r = none → Same H H' → PuAt H' (.ref r) ks (pushF ds) → Q (.ref r) H'
theorem c_raw_push (T : Txt K mg) : Cl P w K mg base 1 "raw_push" ["own", "deeds"] spPush := by
  refine cl_of T.fraw_push T.graw_push sc_raw_push (fun _ _ _ _ _ _ us hl => match us, hl with | [_, _], _ => rfl) (fun vs H Q E h => ?_) (fun cdv A outer s H vs Q E hr h => ?_)
  · obtain ⟨o, u, ks, ds, rfl, _⟩ := h
    rfl
  · obtain ⟨o, u, ks, ds, rfl, ⟨oa, rfl, ho⟩, nd, kl, ⟨ua, us, rfl, hu, pr⟩, hd, q⟩ := h
    refine ⟨_, (pss_cons (ps_setDc (i := 2) (own := [("name", 3)]) (g := gName 3) (tt := tYes) rfl sc_raw_push.nd rfl rfl (sw_trueD rfl rfl rfl (by decide +kernel)) (pi_tup (pv 0)) (blkOk_by (own := [("name", 3)]) (N := ["own", "deeds", "found", "name", "deed", "source", "more"]) (sc := defScope (top 36)) (by decide +kernel)) (fun _ _ _ _ _ => pg_name (i := 3) sc_raw_push.nd rfl (Or.inl rfl)) (fun _ _ _ _ _ => pts_nil) (fun _ _ _ _ _ => (pv 3)) (fun _ _ _ _ _ => (pe_tup (pa_cons (pv 3) (pa_cons pe_int pa_nil)))))
      (pss_cons (ps_for PassesOwn.never rfl (pi_tup (pv 1)) (pg_name (i := 4) sc_raw_push.nd rfl (Or.inl rfl)) (pss_one (ps_if (pt_cmpR op_eq (pe_ix ix_tup (pv 4) pe_int (fun _ _ => rfl)) pe_str (nomark _)) (pss_one (ps_dput (hu_of hr) (pv 2) (pe_ix ix_tup (pv 4) pe_int (fun _ _ => rfl)) (pe_tup (pa_cons pe_non (pa_cons pe_int pa_nil))) rfl)) (pss_one (ps_if (pt_cmpR op_eq (pe_ix ix_tup (pv 4) pe_int (fun _ _ => rfl)) pe_str (nomark _)) (pss_one (ps_dput (hu_of hr) (pv 2) (pe_ix ix_tup (pv 4) pe_int (fun _ _ => rfl)) (pe_dget (hu_of hr) (pv 2) (pe_ix ix_tup (pv 4) pe_int (fun _ _ => rfl)) (fun _ _ => rfl)) rfl)) (pss_cons (ps_asg (pe_dget (hu_of hr) (pv 2) (pe_ix ix_tup (pv 4) pe_int (fun _ _ => rfl)) (fun _ _ => rfl)) (pg_tup (by rfl) (pgs_cons (pg_name (i := 5) sc_raw_push.nd rfl (Or.inl rfl)) (pgs_cons (pg_name (i := 6) sc_raw_push.nd rfl (Or.inl rfl)) pgs_nil))))
      (pss_one (ps_dput (hu_of hr) (pv 2) (pe_ix ix_tup (pv 4) pe_int (fun _ _ => rfl)) (pe_tup (pa_cons (pv 5) (pa_cons (pe_op op_add (pv 6) pe_int) pa_nil))) rfl))))))))
      (pss_one (ps_ret (pv 2))))), ?_⟩
    have hpl := pr.length
    refine ⟨_, rfl, oa, rfl, ⟨_, SqT.of ho⟩, fun D nD => ?_⟩
    refine dc_it (walk_tup (xs := ks.map V.str)) (fun i H2 => Same H H2 ∧ ∃ kvs, H2 D = some (.dK kvs) ∧ Ents (fun u n => PairAt H2 u (idP n)) kvs (ks.take i)) ⟨same_upd nD, [], upd_same, .nil⟩ (fun i H2 _ h => SqT.of (h.1 _ _ ho)) ?_ ?_
    · rintro i v H3 H2 hi ⟨s2, kvs, e, en⟩ ⟨rfl, hv⟩
      rw [List.getElem?_map] at hv
      obtain ⟨n, hn, rfl⟩ := Option.map_eq_some_iff.mp hv
      have hlen := en.len
      rw [List.length_take] at hlen
      have hni := nd_take nd hn
      refine ⟨rfl, _, rfl, _, rfl, by show 2 ≤ sizeLine; decide, fun p np => ?_⟩
      have u3 := same_upd (o := .tup [.str n, .int 0]) np
      have e3 := u3 _ _ e
      have t4 := tk_upd (o := .dK (putK kvs (Sum.inr n) (.ref p))) e3 (fun _ z => nomatch z)
      refine ⟨kvs, Sum.inr n, rfl, e3, lineL (by omega), same_grow nD (s2.trans u3), _, upd_same, ?_⟩
      rw [List.take_add_one, hn]
      exact Ents.new (en.mono fun _ _ z => (z.tk u3.tk).tk t4) hni (PairAt.tk t4 ⟨p, rfl, upd_same⟩)
    · rintro H2 ⟨s2, kvs0, e0, en0⟩
      rw [List.length_map, List.take_length] at en0
      refine ⟨_, rfl, ua, rfl, ⟨_, SqT.of (s2 _ _ hu)⟩, for_it walk_tup (fun i σ H4 => ∃ v3 v4 v5 v6, σ = [some (.ref oa), some (.ref ua), some (.ref D), v3, v4, v5, v6] ∧ Same H H4 ∧ ∃ kvs, H4 D = some (.dK kvs) ∧ Ents (fun u n => PairAt H4 u (pushF (ds.take i) n)) kvs ks) ⟨_, _, _, _, rfl, s2, kvs0, e0, en0⟩ (fun i σ H4 _ ⟨_, _, _, _, _, s4, _⟩ => SqT.of (s4 _ _ hu)) ?_ ?_⟩
      · rintro i v σ H5 H4 hi ⟨v3, v4, v5, v6, rfl, s4, kvs, e, en⟩ ⟨rfl, hv⟩
        obtain ⟨d, hdd, hda0⟩ := pr_getL pr hv
        have hin := hd d (List.mem_of_getElem? hdd)
        obtain ⟨da, rfl, hda⟩ := hda0.tk s4.tk
        have hlen := en.len
        have fin : ∀ (x : Str) (y : V) (H5 : Hp), x ∈ ks → Same H4 H5 → PairAt H5 y (stepP (pushF (ds.take i)) d x) → (∀ n, n ≠ x → stepP (pushF (ds.take i)) d n = pushF (ds.take i) n) →
            Same H (upd H5 D (.dK (putK kvs (Sum.inr x) y))) ∧ ∃ kvs', (upd H5 D (.dK (putK kvs (Sum.inr x) y))) D = some (.dK kvs') ∧ Ents (fun u n => PairAt (upd H5 D (.dK (putK kvs (Sum.inr x) y))) u (pushF (ds.take (i + 1)) n)) kvs' ks := by
          intro x y H5 hx s5 hy ho
          have t6 := tk_upd (o := .dK (putK kvs (Sum.inr x) y)) (s5 _ _ e) (fun _ z => nomatch z)
          refine ⟨same_grow nD (s4.trans s5), _, upd_same, ?_⟩
          rw [push_snoc hdd]
          refine en.put hx (hy.tk t6) fun m u hm hne hu => ?_
          rw [ho m hne]
          exact (hu.tk s5.tk).tk t6
        have dput : ∀ (x : Str) (y : V) (H5 : Hp), Same H4 H5 → DPut H5 D (.str x) y (upd H5 D (.dK (putK kvs (Sum.inr x) y))) := fun x y H5 s5 => .inl ⟨kvs, Sum.inr x, s5 _ _ e, rfl, lineL (by omega), rfl⟩
        cases d with
        | zero x =>
          refine ⟨_, rfl, da, _, 0, .str "zero", rfl, rfl, SqT.of hda, rfl, rfl, _, rfl, ?_⟩
          rw [zz]
          refine ⟨by show 2 ≤ sizeLine; decide, fun p np => ?_⟩
          have u5 := same_upd (o := .tup [.non, .int 0]) np
          refine ⟨_, rfl, _, rfl, da, _, 1, .str x, rfl, rfl, SqT.of (u5 _ _ hda), rfl, D, _, rfl, dput x (.ref p) _ u5, _, _, _, _, rfl, fin x (.ref p) _ (hin x (by simp [Dd.nms])) u5 ⟨p, rfl, ?_⟩ fun n hn => ?_⟩
          · rw [upd_same]
            simp [stepP, srcV]
          · simp [stepP, hn]
        | copy x z =>
          refine ⟨_, rfl, da, _, 0, .str "copy", rfl, rfl, SqT.of hda, rfl, rfl, _, rfl, ?_⟩
          rw [cz]
          refine ⟨_, rfl, da, _, 0, .str "copy", rfl, rfl, SqT.of hda, rfl, rfl, _, rfl, ?_⟩
          rw [cc]
          obtain ⟨y, hy, py⟩ := en.get (hin z (by simp [Dd.nms]))
          refine ⟨_, rfl, _, rfl, da, _, 2, .str z, rfl, rfl, SqT.of hda, rfl, D, y, rfl, .inl ⟨kvs, Sum.inr z, .inl e, rfl, hy.symm⟩, ?_⟩
          refine ⟨_, rfl, _, rfl, da, _, 1, .str x, rfl, rfl, SqT.of hda, rfl, D, _, rfl, dput x y _ (.refl _), _, _, _, _, rfl, fin x y _ (hin x (by simp [Dd.nms])) (.refl _) ?_ fun n hn => ?_⟩
          · simpa [stepP] using py
          · simp [stepP, hn]
        | more x =>
          refine ⟨_, rfl, da, _, 0, .str "more", rfl, rfl, SqT.of hda, rfl, rfl, _, rfl, ?_⟩
          rw [mz]
          refine ⟨_, rfl, da, _, 0, .str "more", rfl, rfl, SqT.of hda, rfl, rfl, _, rfl, ?_⟩
          rw [mc]
          have hx := hin x (by simp [Dd.nms])
          obtain ⟨y, hy, ⟨ya, rfl, hya⟩⟩ := en.get hx
          refine ⟨_, rfl, _, rfl, da, _, 1, .str x, rfl, rfl, SqT.of hda, rfl, D, _, rfl, .inl ⟨kvs, Sum.inr x, .inl e, rfl, hy.symm⟩, ?_⟩
          refine ⟨ya, _, rfl, SqT.of hya, rfl, _, _, rfl, _, _, rfl, rfl, ?_⟩
          refine ⟨_, rfl, _, rfl, _, _, rfl, rfl, by show 2 ≤ sizeLine; decide, fun p np => ?_⟩
          have u5 := same_upd (o := .tup [srcV (pushF (ds.take i) x).1, .int (((pushF (ds.take i) x).2 : Nat) + 1)]) np
          refine ⟨_, rfl, _, rfl, da, _, 1, .str x, rfl, rfl, SqT.of (u5 _ _ hda), rfl, D, _, rfl, dput x (.ref p) _ u5, _, _, _, _, rfl, fin x (.ref p) _ hx u5 ⟨p, rfl, ?_⟩ fun n hn => ?_⟩
          · rw [upd_same]
            simp [stepP]
          · simp [stepP, hn]
      · rintro σ H4 ⟨v3, v4, v5, v6, rfl, s4, kvs, e, en⟩
        rw [hpl, List.take_length] at en
        exact ⟨_, rfl, q D H4 nD s4 ⟨D, kvs, rfl, e, en⟩⟩
end
end Fr
/-! ## FrRun4 -/
set_option Elab.async false
set_option linter.all false
set_option maxRecDepth 100000
set_option maxHeartbeats 4000000
/-! Pushes applied, one after another, many times. -/
namespace Fr
open PySem PySem.Spec PyProof.Rows L2
theorem non_non : decide (V.non = V.non) = true := decide_eq_true rfl
theorem str_non {x : Str} : decide (V.str x = V.non) = false := decide_eq_false (fun z => nomatch z)
section
variable {P : Program} {w : World} {K : PySem.W.Frag} {mg : Str → Option Value} {base : Heap}
theorem sc_source_number : FnScope ["numbers", "pair"] ["numbers", "pair"] (defScope (top 37)) := ⟨rfl, rfl, rfl, by decide +kernel, rfl, by decide +kernel, by decide +kernel⟩
def spSource : Sp := fun vs H Q _ => ∃ (a : Addr) (kvs : List (Key × V)) (u : V) (ks : List Str) (f : Str → Nat) (p : Option Str × Nat), vs = [.ref a, u] ∧ Rd H a (.dK kvs) ∧ Ents (fun u n => u = .int (f n : Nat)) kvs ks ∧ PairAt H u p ∧ (∀ y, p.1 = some y → y ∈ ks) ∧ Q (.int (srcN f p : Nat)) H
theorem c_source_number (T : Txt K mg) : Cl P w K mg base 1 "source_number" ["numbers", "pair"] spSource := by
  refine cl_of T.fsource_number T.gsource_number sc_source_number (fun _ _ _ _ _ _ us hl => match us, hl with | [_, _], _ => rfl) (fun vs H Q E h => ?_) (fun cdv A outer s H vs Q E hr h => ?_)
  · obtain ⟨a, kvs, u, ks, f, p, rfl, _⟩ := h
    rfl
  · obtain ⟨a, kvs, u, ks, f, ⟨s, m⟩, rfl, ha, en, ⟨b, rfl, hb⟩, hin, q⟩ := h
    refine ⟨_, (pss_one (ps_ret (pe_ifExp (pt_cmpR op_isN (pe_ix ix_tup (pv 1) pe_int (fun _ _ => rfl)) pe_non (nomark _)) (pe_ix ix_tup (pv 1) pe_int (fun _ _ => rfl)) (pe_op op_add (pe_dget (hu_of hr) (pv 0) (pe_ix ix_tup (pv 1) pe_int (fun _ _ => rfl)) (fun _ _ => rfl)) (pe_ix ix_tup (pv 1) pe_int (fun _ _ => rfl)))))), ?_⟩
    refine ⟨_, rfl, b, _, 0, _, rfl, rfl, SqT.of hb, rfl, rfl, _, rfl, ?_⟩
    cases s with
    | none =>
      show (if decide (V.non = V.non) = true then _ else _)
      rw [non_non]
      exact ⟨_, rfl, b, _, 1, _, rfl, rfl, SqT.of hb, rfl, q⟩
    | some y =>
      show (if decide (V.str y = V.non) = true then _ else _)
      rw [str_non]
      obtain ⟨v, hv, rfl⟩ := en.get (hin y rfl)
      exact ⟨_, rfl, _, rfl, b, _, 0, .str y, rfl, rfl, SqT.of hb, rfl, a, _, rfl, .inl ⟨kvs, Sum.inr y, ha, rfl, hv.symm⟩, _, rfl, b, _, 1, _, rfl, rfl, SqT.of hb, rfl, _, _, rfl, rfl, q⟩
theorem sc_raw_pushed : FnScope ["push", "numbers", "name"] ["push", "numbers"] (defScope (top 38)) := ⟨rfl, rfl, rfl, by decide +kernel, rfl, by decide +kernel, by decide +kernel⟩
def spPushed : Sp := fun vs H Q _ => ∃ (a b : Addr) (ks : List Str) (p : Psh) (f : Str → Nat), vs = [.ref a, .ref b] ∧ a ≠ b ∧ PuAt H (.ref a) ks p ∧ NuAt H (.ref b) ks f ∧ ks.Nodup ∧ ks.length ≤ 100 ∧ Cld ks p ∧ ∀ v H', Same H H' → NuAt H' v ks (pushedF p f) → Q v H'
theorem c_raw_pushed (T : Txt K mg) : Cl P w K mg base 2 "raw_pushed" ["push", "numbers"] spPushed := by
  refine cl_of T.fraw_pushed T.graw_pushed sc_raw_pushed (fun _ _ _ _ _ _ us hl => match us, hl with | [_, _], _ => rfl) (fun vs H Q E h => ?_) (fun cdv A outer s H vs Q E hr h => ?_)
  · obtain ⟨a, b, ks, p, f, rfl, _⟩ := h
    rfl
  · obtain ⟨a, b, ks, p, f, rfl, hab, ⟨a', kvs, ea, ha, en⟩, ⟨b', kws, eb, hb, em⟩, nd, kl, cl, q⟩ := h
    cases ea
    cases eb
    refine ⟨_, (pss_one (ps_ret (pe_lock (pe_dc (own := [("name", 2)]) (g := gName 2) (tt := tYes) rfl sc_raw_pushed.nd (pi_keys (pv 0)) (blkOk_by (own := [("name", 2)]) (N := ["push", "numbers", "name"]) (sc := defScope (top 38)) (by decide +kernel)) (fun _ _ _ _ _ => pg_name (i := 2) sc_raw_pushed.nd rfl (Or.inl rfl)) (fun _ _ _ _ _ => pts_nil) (fun _ _ _ _ _ => (pv 2)) (fun _ _ _ _ _ => (pe_f (c_source_number T) hr (pa_cons (pv 1) (pa_cons (pe_dget (hu_of hr) (pv 0) (pv 2) (fun _ _ => rfl)) pa_nil)))))))), ?_⟩
    refine ⟨a, _, ha, trivial, fun od => ⟨_, rfl, a, od, rfl, .inl ⟨kvs, upd_same, fun D nD => ?_⟩⟩⟩
    have hDa : D ≠ a := (ne_of_none upd_same nD).symm
    have nD0 : H D = none := by rw [upd_ne hDa] at nD; exact nD
    have hkl := en.len
    refine dc_it walk_keys (fun i H2 => Same (upd H a (.frz od (.dK kvs))) H2 ∧ ∃ kxs, H2 D = some (.dK kxs) ∧ Ents (fun u n => u = .int (pushedF p f n : Nat)) kxs (ks.take i)) ⟨same_upd nD, [], upd_same, .nil⟩ (fun i H2 _ h => h.1 _ _ upd_same) ?_ ?_
    · rintro i v H3 H2 hi ⟨s2, kxs, e, ex⟩ ⟨rfl, k, x, hk, rfl⟩
      have hki : (kvs.map (·.1))[i]? = some k := by rw [List.getElem?_map, hk]; rfl
      rw [en.keys, List.getElem?_map] at hki
      obtain ⟨n, hn, rfl⟩ := Option.map_eq_some_iff.mp hki
      have hnk := List.mem_of_getElem? hn
      obtain ⟨y, hy, py⟩ := en.get hnk
      have hlen := ex.len
      rw [List.length_take] at hlen
      have hf := s2 _ _ (upd_same (H := H) (a := a) (o := .frz od (.dK kvs)))
      have tH : Tk H (upd H a (.frz od (.dK kvs))) := tk_upd ha (fun _ z => nomatch z)
      have hb2 : H2 b = some (.dK kws) := s2 _ _ (by rw [upd_ne (Ne.symm hab)]; exact hb)
      refine ⟨rfl, _, rfl, _, rfl, _, rfl, _, rfl, a, y, rfl, .inl ⟨kvs, Sum.inr n, .inr ⟨od, hf⟩, rfl, hy.symm⟩, b, kws, y, ks, f, p n, rfl, .inl hb2, em, (py.tk tH).tk s2.tk, cl n hnk, kxs, Sum.inr n, rfl, e, lineL (by omega), same_grow nD s2, _, upd_same, ?_⟩
      rw [List.take_add_one, hn]
      exact ex.new (nd_take nd hn) rfl
    · rintro H2 ⟨s2, kxs, e, ex⟩
      rw [hkl, List.take_length] at ex
      refine ⟨s2 _ _ upd_same, q _ _ (same_unlock ha s2) ⟨D, kxs, rfl, by rw [upd_ne hDa]; exact e, ex⟩⟩
theorem sc_raw_after : FnScope ["push", "other", "found", "name", "source", "more"] ["push", "other"] (defScope (top 39)) := ⟨rfl, rfl, rfl, by decide +kernel, rfl, by decide +kernel, by decide +kernel⟩
def spAfter : Sp := fun vs H Q _ => ∃ (u v : V) (ks : List Str) (p q : Psh), vs = [u, v] ∧ PuAt H u ks p ∧ PuAt H v ks q ∧ ks.Nodup ∧ ks.length ≤ 100 ∧ Cld ks q ∧ ∀ (r : Addr) H', H r = none → Same H H' → PuAt H' (.ref r) ks (afterF p q) → Q (.ref r) H'
theorem after_none {p q : Psh} {n : Str} {m : Nat} (h : q n = (none, m)) : afterF p q n = (none, m) := by
  unfold afterF
  rw [h]
theorem after_some {p q : Psh} {n y : Str} {m : Nat} (h : q n = (some y, m)) : afterF p q n = ((p y).1, (p y).2 + m) := by
  unfold afterF
  rw [h]
theorem c_raw_after (T : Txt K mg) : Cl P w K mg base 1 "raw_after" ["push", "other"] spAfter := by
  refine cl_of T.fraw_after T.graw_after sc_raw_after (fun _ _ _ _ _ _ us hl => match us, hl with | [_, _], _ => rfl) (fun vs H Q E h => ?_) (fun cdv A outer s H vs Q E hr h => ?_)
  · obtain ⟨u, v, ks, p, q, rfl, _⟩ := h
    rfl
  · obtain ⟨u, v, ks, p, q, rfl, ⟨a, kvs, rfl, ha, en⟩, ⟨d, kws, rfl, hd, em⟩, nd, kl, cl, fin⟩ := h
    refine ⟨_, (pss_cons (ps_set (i := 2) sc_raw_after.nd rfl (Or.inl rfl) pe_dnewK)
      (pss_cons (ps_lock (ps_for PassesOwn.never rfl (pi_keys (pv 1)) (pg_name (i := 3) sc_raw_after.nd rfl (Or.inl rfl)) (pss_cons (ps_asg (pe_dget (hu_of hr) (pv 1) (pv 3) (fun _ _ => rfl)) (pg_tup (by rfl) (pgs_cons (pg_name (i := 4) sc_raw_after.nd rfl (Or.inl rfl)) (pgs_cons (pg_name (i := 5) sc_raw_after.nd rfl (Or.inl rfl)) pgs_nil))))
      (pss_one (ps_if (pt_cmpR op_isN (pv 4) pe_non (nomark _)) (pss_one (ps_dput (hu_of hr) (pv 2) (pv 3) (pe_tup (pa_cons pe_non (pa_cons (pv 5) pa_nil))) rfl)) (pss_one (ps_dput (hu_of hr) (pv 2) (pv 3) (pe_tup (pa_cons (pe_ix ix_tup (pe_dget (hu_of hr) (pv 0) (pv 4) (fun _ _ => rfl)) pe_int (fun _ _ => rfl)) (pa_cons (pe_op op_add (pe_ix ix_tup (pe_dget (hu_of hr) (pv 0) (pv 4) (fun _ _ => rfl)) pe_int (fun _ _ => rfl)) (pv 5)) pa_nil))) rfl)))))))
      (pss_one (ps_ret (pv 2))))), ?_⟩
    refine fun F nF => ?_
    have s1 := same_upd (o := .dK []) nF
    have hFd : d ≠ F := ne_of_none hd nF
    have hFa : a ≠ F := ne_of_none ha nF
    have hd1 := s1 _ _ hd
    have hml := em.len
    refine ⟨d, _, hd1, trivial, fun od => ⟨_, rfl, d, od, rfl, .inl ⟨kws, upd_same, ?_⟩⟩⟩
    have tL : Tk H (upd (upd H F (.dK [])) d (.frz od (.dK kws))) := s1.tk.trans (tk_upd hd1 (fun _ z => nomatch z))
    have rL : Rd (upd (upd H F (.dK [])) d (.frz od (.dK kws))) a (.dK kvs) := rd_lock hd1 (.inl (s1 _ _ ha))
    have eF : (upd (upd H F (.dK [])) d (.frz od (.dK kws))) F = some (.dK []) := by rw [upd_ne (Ne.symm hFd), upd_same]
    have eD : (upd (upd H F (.dK [])) d (.frz od (.dK kws))) d = some (.frz od (.dK kws)) := upd_same
    have hL : ∀ c o, H c = some o → c ≠ d → (upd (upd H F (.dK [])) d (.frz od (.dK kws))) c = some o := fun c o e n => by
      rw [upd_ne n]
      exact s1 _ _ e
    generalize (upd (upd H F (.dK [])) d (.frz od (.dK kws))) = L at *
    refine for_it walk_keys (fun i σ H2 => ∃ v3 v4 v5, σ = [some (.ref a), some (.ref d), some (.ref F), v3, v4, v5] ∧ Bt F L H2 ∧ ∃ kxs, H2 F = some (.dK kxs) ∧ Ents (fun u n => PairAt H2 u (afterF p q n)) kxs (ks.take i)) ⟨_, _, _, rfl, .of (.refl _), [], eF, .nil⟩ (fun i σ H2 _ ⟨_, _, _, _, b2, _⟩ => b2 _ _ eD hFd) ?_ ?_
    · rintro i v σ H3 H2 hi ⟨v3, v4, v5, rfl, b2, kxs, e, ex⟩ ⟨rfl, k, x, hk, rfl⟩
      have hki : (kws.map (·.1))[i]? = some k := by rw [List.getElem?_map, hk]; rfl
      rw [em.keys, List.getElem?_map] at hki
      obtain ⟨n, hn, rfl⟩ := Option.map_eq_some_iff.mp hki
      have hnk := List.mem_of_getElem? hn
      have hlen := ex.len
      rw [List.length_take] at hlen
      have t2 : Tk H H2 := tL.trans (b2.tk eF)
      obtain ⟨y, hy, py⟩ := em.get hnk
      have py := py.tk t2
      obtain ⟨ya, rfl, hya⟩ := py
      have hdL : Rd H2 d (.dK kws) := .inr ⟨od, b2 _ _ eD hFd⟩
      have haL : Rd H2 a (.dK kvs) := by
        rcases rL with r | ⟨o, r⟩
        · exact .inl (b2 _ _ r hFa)
        · exact .inr ⟨o, b2 _ _ r hFa⟩
      refine ⟨_, rfl, _, rfl, d, _, rfl, .inl ⟨kws, Sum.inr n, hdL, rfl, hy.symm⟩, ?_⟩
      refine ⟨ya, _, rfl, SqT.of hya, rfl, _, _, rfl, _, _, rfl, rfl, ?_⟩
      have done : ∀ (z : Addr) (t : V) (pr : Option Str × Nat), H2 z = none → t = srcV pr.1 → afterF p q n = pr → 
          Bt F L (upd (upd H2 z (.tup [t, .int (pr.2 : Nat)])) F (.dK (putK kxs (Sum.inr n) (.ref z)))) ∧ ∃ kys, (upd (upd H2 z (.tup [t, .int (pr.2 : Nat)])) F (.dK (putK kxs (Sum.inr n) (.ref z)))) F = some (.dK kys) ∧
            Ents (fun u n' => PairAt (upd (upd H2 z (.tup [t, .int (pr.2 : Nat)])) F (.dK (putK kxs (Sum.inr n) (.ref z)))) u (afterF p q n')) kys (ks.take (i + 1)) := by
        rintro z t pr nz rfl ea
        have u3 := same_upd (o := .tup [srcV pr.1, .int (pr.2 : Nat)]) nz
        have e3 := u3 _ _ e
        have t4 := tk_upd (o := .dK (putK kxs (Sum.inr n) (.ref z))) e3 (fun _ z => nomatch z)
        refine ⟨(b2.trans (.of u3)).trans bt_upd, _, upd_same, ?_⟩
        rw [List.take_add_one, hn]
        have e6 := t4 _ _ (upd_same (H := H2) (a := z) (o := .tup [srcV pr.1, .int (pr.2 : Nat)]))
        generalize (upd (upd H2 z (.tup [srcV pr.1, .int (pr.2 : Nat)])) F (.dK (putK kxs (Sum.inr n) (.ref z)))) = G at *
        refine Ents.new (ex.mono fun _ _ z => (z.tk u3.tk).tk t4) (nd_take nd hn) ⟨z, rfl, ?_⟩
        rw [ea]
        exact e6
      have put : ∀ (z : Addr) (o : HO), H2 z = none → DPut (upd H2 z o) F (.str n) (.ref z) (upd (upd H2 z o) F (.dK (putK kxs (Sum.inr n) (.ref z)))) := fun z o nz => .inl ⟨kxs, Sum.inr n, same_upd nz _ _ e, rfl, lineL (by omega), rfl⟩
      cases hq : q n with
      | mk sr m =>
        cases sr with
        | none =>
          refine ⟨_, rfl, rfl, _, rfl, ?_⟩
          show (if decide (V.non = V.non) = true then _ else _)
          rw [non_non]
          refine ⟨_, rfl, by show 2 ≤ sizeLine; decide, fun z nz => ?_⟩
          refine ⟨_, rfl, _, rfl, F, _, rfl, put z _ nz, _, _, _, rfl, done z .non (none, m) nz rfl (after_none hq)⟩
        | some y =>
          refine ⟨_, rfl, rfl, _, rfl, ?_⟩
          show (if decide (V.str y = V.non) = true then _ else _)
          rw [str_non]
          have hyk := cl n hnk y (by rw [hq])
          obtain ⟨x2, hx2, px⟩ := en.get hyk
          obtain ⟨xa, rfl, hxa⟩ := px.tk t2
          refine ⟨_, rfl, _, rfl, a, _, rfl, .inl ⟨kvs, Sum.inr y, haL, rfl, hx2.symm⟩, xa, _, 0, _, rfl, rfl, SqT.of hxa, rfl, ?_⟩
          refine ⟨_, rfl, _, rfl, a, _, rfl, .inl ⟨kvs, Sum.inr y, haL, rfl, hx2.symm⟩, xa, _, 1, _, rfl, rfl, SqT.of hxa, rfl, _, rfl, _, _, rfl, rfl, ?_⟩
          refine ⟨by show 2 ≤ sizeLine; decide, fun z nz => ?_⟩
          refine ⟨_, rfl, _, rfl, F, _, rfl, put z _ nz, _, _, _, rfl, done z _ ((p y).1, (p y).2 + m) nz rfl (after_some hq)⟩
    · rintro σ H2 ⟨v3, v4, v5, rfl, b2, kxs, e, ex⟩
      rw [hml, List.take_length] at ex
      have ed := b2 _ _ eD hFd
      have tU : Tk H2 (upd H2 d (.dK kws)) := tk_upd ed (fun _ z => nomatch z)
      refine ⟨ed, _, rfl, fin F _ nF (fun c o ec => ?_) ⟨F, kxs, rfl, by rw [upd_ne (Ne.symm hFd)]; exact e, ex.mono fun _ _ z => z.tk tU⟩⟩
      by_cases hc : c = d
      · subst hc
        rw [upd_same, ← hd, ec]
      · rw [upd_ne hc]
        exact b2 _ _ (hL _ _ ec hc) (ne_of_none ec nF)
end
end Fr
/-! ## FrRun5 -/
set_option Elab.async false
set_option linter.all false
set_option maxRecDepth 100000
set_option maxHeartbeats 4000000
/-! Many times; the first numbers; a statement done. -/
namespace Fr
open PySem PySem.Spec PyProof.Rows L2
theorem timesGo_0 (f p : Psh) : timesGo f p 0 = f := by
  unfold timesGo
  rfl
theorem timesGo_1 (f p : Psh) {l : Nat} (h : 0 < l) : timesGo f p l = timesGo (if l % 2 = 1 then afterF f p else f) (afterF p p) (l / 2) := by
  conv => lhs; unfold timesGo
  rw [dif_neg (by omega)]
def firstF (g : List Str) (ns : List Nat) : Nat → Str → Nat
  | 0 => fun _ => 0
  | i + 1 => fun x => if g[i]? = some x then ns.getD i 0 else firstF g ns i x
def cntF (f : Str → Nat) : Sm → Nat
  | .deed _ => 1
  | .round x ds => 1 + f x * ds.length
def nextF (f : Str → Nat) : Sm → Str → Nat
  | .deed d => pushedF (pushF [d]) f
  | .round x ds => pushedF (timesGo idP (pushF ds) (f x)) f
section
variable {P : Program} {w : World} {K : PySem.W.Frag} {mg : Str → Option Value} {base : Heap}
theorem sc_raw_times : FnScope ["push", "many", "found", "name", "power", "left"] ["push", "many"] (defScope (top 40)) := ⟨rfl, rfl, rfl, by decide +kernel, rfl, by decide +kernel, by decide +kernel⟩
def spTimes : Sp := fun vs H Q _ => ∃ (u : V) (m : Nat) (ks : List Str) (p : Psh), vs = [u, .int (m : Int)] ∧ PuAt H u ks p ∧ ks.Nodup ∧ ks.length ≤ 100 ∧ Cld ks p ∧ ∀ (r : Addr) H', H r = none → Same H H' → PuAt H' (.ref r) ks (timesGo idP p m) → Cld ks (timesGo idP p m) → Q (.ref r) H'
theorem c_raw_times (T : Txt K mg) : Cl P w K mg base 2 "raw_times" ["push", "many"] spTimes := by
  refine cl_of T.fraw_times T.graw_times sc_raw_times (fun _ _ _ _ _ _ us hl => match us, hl with | [_, _], _ => rfl) (fun vs H Q E h => ?_) (fun cdv A outer s H vs Q E hr h => ?_)
  · obtain ⟨u, m, ks, p, rfl, _⟩ := h
    rfl
  · obtain ⟨u, m, ks, p, rfl, ⟨d, kvs, rfl, hd, en⟩, nd, kl, cl, fin⟩ := h
    refine ⟨_, (pss_cons (ps_lock (ps_setDc (i := 2) (own := [("name", 3)]) (g := gName 3) (tt := tYes) rfl sc_raw_times.nd rfl rfl (sw_trueD rfl rfl rfl (by decide +kernel)) (pi_keys (pv 0)) (blkOk_by (own := [("name", 3)]) (N := ["push", "many", "found", "name", "power", "left"]) (sc := defScope (top 40)) (by decide +kernel)) (fun _ _ _ _ _ => pg_name (i := 3) sc_raw_times.nd rfl (Or.inl rfl)) (fun _ _ _ _ _ => pts_nil) (fun _ _ _ _ _ => (pv 3)) (fun _ _ _ _ _ => (pe_tup (pa_cons (pv 3) (pa_cons pe_int pa_nil))))))
      (pss_cons (ps_set (i := 4) sc_raw_times.nd rfl (Or.inl rfl) (pv 0))
      (pss_cons (ps_set (i := 5) sc_raw_times.nd rfl (Or.inl rfl) (pv 1))
      (pss_cons (ps_while PassesOwn.never (pt_cmpR op_gt (pv 5) pe_int (nomark _)) (pss_cons (ps_if (pt_cmpR op_eq (pe_op op_mod (pv 5) pe_int) pe_int (nomark _)) (pss_one (ps_set (i := 2) sc_raw_times.nd rfl (Or.inl rfl) (pe_f (c_raw_after T) hr (pa_cons (pv 2) (pa_cons (pv 4) pa_nil))))) pss_nil)
      (pss_cons (ps_set (i := 4) sc_raw_times.nd rfl (Or.inl rfl) (pe_f (c_raw_after T) hr (pa_cons (pv 4) (pa_cons (pv 4) pa_nil))))
      (pss_one (ps_set (i := 5) sc_raw_times.nd rfl (Or.inl rfl) (pe_op op_fdiv (pv 5) pe_int))))))
      (pss_one (ps_ret (pv 2))))))), ?_⟩
    refine ⟨d, _, hd, trivial, fun od => ⟨_, rfl, d, od, rfl, .inl ⟨kvs, upd_same, fun D nD => ?_⟩⟩⟩
    have hDd : D ≠ d := (ne_of_none upd_same nD).symm
    have nD0 : H D = none := by rw [upd_ne hDd] at nD; exact nD
    have hkl := en.len
    refine dc_it walk_keys (fun i H2 => Same (upd H d (.frz od (.dK kvs))) H2 ∧ ∃ kxs, H2 D = some (.dK kxs) ∧ Ents (fun u n => PairAt H2 u (idP n)) kxs (ks.take i)) ⟨same_upd nD, [], upd_same, .nil⟩ (fun i H2 _ h => h.1 _ _ upd_same) ?_ ?_
    · rintro i v H3 H2 hi ⟨s2, kxs, e, ex⟩ ⟨rfl, k, x, hk, rfl⟩
      have hki : (kvs.map (·.1))[i]? = some k := by rw [List.getElem?_map, hk]; rfl
      rw [en.keys, List.getElem?_map] at hki
      obtain ⟨n, hn, rfl⟩ := Option.map_eq_some_iff.mp hki
      have hlen := ex.len
      rw [List.length_take] at hlen
      refine ⟨rfl, _, rfl, _, rfl, by show 2 ≤ sizeLine; decide, fun p np => ?_⟩
      have u3 := same_upd (o := .tup [.str n, .int 0]) np
      have e3 := u3 _ _ e
      have t4 := tk_upd (o := .dK (putK kxs (Sum.inr n) (.ref p))) e3 (fun _ z => nomatch z)
      refine ⟨kxs, Sum.inr n, rfl, e3, lineL (by omega), same_grow nD (s2.trans u3), _, upd_same, ?_⟩
      rw [List.take_add_one, hn]
      exact Ents.new (ex.mono fun _ _ z => (z.tk u3.tk).tk t4) (nd_take nd hn) (PairAt.tk t4 ⟨p, rfl, upd_same⟩)
    · rintro H2 ⟨s2, kxs, e, ex⟩
      rw [hkl, List.take_length] at ex
      have ed := s2 _ _ upd_same
      have tU : Tk H2 (upd H2 d (.dK kvs)) := tk_upd ed (fun _ z => nomatch z)
      have sU := same_unlock hd s2
      have hD : PuAt (upd H2 d (.dK kvs)) (.ref D) ks idP := ⟨D, kxs, rfl, by rw [upd_ne hDd]; exact e, ex.mono fun _ _ z => z.tk tU⟩
      have hp : PuAt (upd H2 d (.dK kvs)) (.ref d) ks p := PuAt.same sU ⟨d, kvs, rfl, hd, en⟩
      refine ⟨ed, _, rfl, _, rfl, ?_⟩
      generalize (upd H2 d (.dK kvs)) = H3 at *
      refine while_by (fun σ H4 => ∃ (a b : Addr) (l : Nat) (f' p' : Psh) (v3 : Option V), σ = [some (.ref d), some (.int (m : Int)), some (.ref a), v3, some (.ref b), some (.int (l : Int))] ∧ Same H H4 ∧ H a = none ∧ PuAt H4 (.ref a) ks f' ∧ Cld ks f' ∧ PuAt H4 (.ref b) ks p' ∧ Cld ks p' ∧ timesGo f' p' l = timesGo idP p m)
        (fun (σ : L2.St) H1 => match σ[5]? with
          | some (some (V.int l)) => l.toNat
          | _ => 0) ⟨D, d, m, idP, p, _, rfl, sU, nD0, hD, cld_id, hp, cl, rfl⟩ ?_ ?_
      · rintro σ H4 ⟨a, b, l, f', p', v3, rfl, s4, na, ha, ca, hb, cb, eq⟩
        refine ⟨_, rfl, _, _, rfl, rfl, _, rfl, ?_⟩
        by_cases hl : (0 : Int) < (l : Int)
        · rw [decide_eq_true hl]
          have hl : 0 < l := by omega
          rw [timesGo_1 _ _ hl] at eq
          have emod : (l : Int) % 2 = ((l % 2 : Nat) : Int) := by omega
          have ediv : (l : Int) / 2 = ((l / 2 : Nat) : Int) := by omega
          have hlt : (l / 2 : Nat) < l := by omega
          refine ⟨_, rfl, _, _, rfl, rfl, by show (0 : Int) < 2; decide, rfl, _, rfl, ?_⟩
          show (if decide (V.int ((l : Int) % 2) = V.int 1) = true then _ else _)
          rw [emod]
          by_cases h1 : l % 2 = 1
          · rw [decide_eq_true (by rw [h1]; rfl)]
            rw [if_pos h1] at eq
            refine ⟨_, rfl, _, rfl, _, _, ks, f', p', rfl, ha, hb, nd, kl, cb, fun r H5 nr s5 hr5 => ?_⟩
            refine ⟨_, rfl, _, rfl, .ref b, .ref b, ks, p', p', rfl, hb.same s5, hb.same s5, nd, kl, cb, fun r2 H6 nr2 s6 hr6 => ?_⟩
            refine ⟨_, rfl, _, _, rfl, rfl, ⟨by decide, by decide⟩, ?_⟩
            show gName 5 (V.int ((l : Int) / 2)) _ _ _
            rw [ediv]
            exact ⟨⟨r, r2, l / 2, _, _, _, rfl, (s4.trans s5).trans s6, s4.free nr, hr5.same s6, cld_after ca cb, hr6, cld_after cb cb, eq⟩, hlt⟩
          · rw [decide_eq_false (fun z => h1 (by injection z with z; omega))]
            rw [if_neg h1] at eq
            refine ⟨_, rfl, _, rfl, .ref b, .ref b, ks, p', p', rfl, hb, hb, nd, kl, cb, fun r2 H6 nr2 s6 hr6 => ?_⟩
            refine ⟨_, rfl, _, _, rfl, rfl, ⟨by decide, by decide⟩, ?_⟩
            show gName 5 (V.int ((l : Int) / 2)) _ _ _
            rw [ediv]
            exact ⟨⟨a, r2, l / 2, _, _, _, rfl, s4.trans s6, na, ha.same s6, ca, hr6, cld_after cb cb, eq⟩, hlt⟩
        · rw [decide_eq_false hl]
          have hl : l = 0 := by omega
          subst hl
          rw [timesGo_0] at eq
          subst eq
          exact ⟨_, rfl, fin a H4 na s4 ha ca⟩
      · intro σ H1 Q1 Q2 imp hq
        obtain ⟨v, hv, i, j, f1, f2, b, f3, q⟩ := hq
        exact ⟨v, hv, i, j, f1, f2, b, f3, imp _ _ q⟩
end
end Fr
/-! ## FrRun6 -/
set_option Elab.async false
set_option linter.all false
set_option maxRecDepth 100000
set_option maxHeartbeats 4000000
/-! The first numbers; a statement done. -/
namespace Fr
open PySem PySem.Spec PyProof.Rows L2
theorem Sm.nms_le (s : Sm) : s.nms.length ≤ 2 := by
  cases s with
  | deed d => exact (Fr.nms_len d).2
  | round x ds => exact Nat.le_succ 1
theorem strs_of {ks : List Str} : ((ks.map (Sum.inr : Str → Key)).map kV) = ks.map V.str := by
  rw [List.map_map]
  rfl
section
variable {P : Program} {w : World} {K : PySem.W.Frag} {mg : Str → Option Value} {base : Heap}
theorem sc_first_numbers : FnScope ["program", "given", "found", "name", "at"] ["program", "given"] (defScope (top 42)) := ⟨rfl, rfl, rfl, by decide +kernel, rfl, by decide +kernel, by decide +kernel⟩
def spFirst (K : PySem.W.Frag) : Sp := fun vs H Q _ => ∃ (x u : V) (pt : Pt) (ns : List Nat), vs = [x, u] ∧ Pg K H x pt ∧ pt.ok ∧ IsAt H u ns ∧ ns.length = pt.given.length ∧ ∀ (ks : List Str) v H', ks.Nodup → (∀ n, n ∈ ks ↔ n ∈ pt.nms) → Same H H' → NuAt H' v ks (firstF pt.given ns pt.given.length) → Q v H'
theorem c_first_numbers (T : Txt K mg) : Cl P w K mg base 3 "first_numbers" ["program", "given"] (spFirst K) := by
  refine cl_of T.ffirst_numbers T.gfirst_numbers sc_first_numbers (fun _ _ _ _ _ _ us hl => match us, hl with | [_, _], _ => rfl) (fun vs H Q E h => ?_) (fun cdv A outer s H vs Q E hr h => ?_)
  · obtain ⟨x, u, pt, ns, rfl, _⟩ := h
    rfl
  · obtain ⟨x, u, pt, ns, rfl, ⟨C, pc, a, dx, g, t, b, rfl, hp, ⟨ga, rfl, hga⟩, ht, hb⟩, ok, ⟨na, rfl, hna⟩, hl, q⟩ := h
    refine ⟨_, (pss_cons (ps_setDc (i := 2) (own := [("name", 3)]) (g := gName 3) (tt := tYes) rfl sc_first_numbers.nd rfl rfl (sw_trueD rfl rfl rfl (by decide +kernel)) (pi_tup (pe_f (c_names T) hr (pa_cons (pv 0) pa_nil))) (blkOk_by (own := [("name", 3)]) (N := ["program", "given", "found", "name", "at"]) (sc := defScope (top 42)) (by decide +kernel)) (fun _ _ _ _ _ => pg_name (i := 3) sc_first_numbers.nd rfl (Or.inl rfl)) (fun _ _ _ _ _ => pts_nil) (fun _ _ _ _ _ => (pv 3)) (fun _ _ _ _ _ => pe_int))
      (pss_cons (ps_for PassesOwn.never rfl (pi_enumT (by rfl) T.zenumerate (pa_cons (pe_fld (pv 0) rfl) pa_nil)) (pg_tup (by rfl) (pgs_cons (pg_name (i := 4) sc_first_numbers.nd rfl (Or.inl rfl)) (pgs_cons (pg_name (i := 3) sc_first_numbers.nd rfl (Or.inl rfl)) pgs_nil))) (pss_one (ps_dput (hu_of hr) (pv 2) (pv 3) (pe_ix ix_tup (pv 1) (pv 4) (fun _ _ => rfl)) rfl)))
      (pss_one (ps_ret (pv 2))))), ?_⟩
    have hm := ok.names
    refine ⟨_, rfl, _, pt, rfl, ⟨C, pc, a, dx, _, t, b, rfl, hp, ⟨ga, rfl, hga⟩, ht, hb⟩, ok, fun ks v H1 nd hks hv s1 => ?_⟩
    obtain ⟨ka, rfl, hka⟩ := hv
    have kl : ks.length ≤ 14 := nodup_le nd fun x hx => hm x ((hks x).mp hx)
    refine ⟨ka, rfl, ⟨_, SqT.of hka⟩, fun D nD => ?_⟩
    have nD0 := s1.free nD
    refine dc_it (walk_tup (xs := ks.map V.str)) (fun i H2 => Same H1 H2 ∧ ∃ kvs, H2 D = some (.dK kvs) ∧ Ents (fun u n => u = .int ((0 : Nat) : Int)) kvs (ks.take i)) ⟨same_upd nD, [], upd_same, .nil⟩ (fun i H2 _ h => SqT.of (h.1 _ _ hka)) ?_ ?_
    · rintro i v H3 H2 hi ⟨s2, kvs, e, en⟩ ⟨rfl, hv⟩
      rw [List.getElem?_map] at hv
      obtain ⟨n, hn, rfl⟩ := Option.map_eq_some_iff.mp hv
      have hlen := en.len
      rw [List.length_take] at hlen
      refine ⟨rfl, _, rfl, kvs, Sum.inr n, rfl, e, lineL (by omega), same_grow nD s2, _, upd_same, ?_⟩
      rw [List.take_add_one, hn]
      exact en.new (nd_take nd hn) rfl
    · rintro H2 ⟨s2, kvs0, e0, en0⟩
      rw [List.length_map, List.take_length] at en0
      have s02 := s1.trans s2
      refine ⟨_, rfl, a, C, dx, _, _, rfl, s02 _ _ hp, pc.cl, pc.ng, flds_g _ _ _, ga, _, rfl, s02 _ _ hga, for_it walk_enumT (fun i σ H4 => ∃ v3 v4, σ = [some (.ref a), some (.ref na), some (.ref D), v3, v4] ∧ Same H H4 ∧ ∃ kvs, H4 D = some (.dK kvs) ∧ Ents (fun u n => u = .int (firstF pt.given ns i n : Nat)) kvs ks) ⟨_, _, rfl, s02, kvs0, e0, en0⟩ (fun i σ H4 _ ⟨_, _, _, s4, _⟩ => s4 _ _ hga) ?_ ?_⟩
      · rintro i v σ H4 H5 hi ⟨v3, v4, rfl, s4, kvs, e, en⟩ ⟨tt, y, z, rfl, htt, rfl, ey, hz⟩
        obtain rfl := Option.some.inj ey
        replace hz : (List.map V.str pt.given)[i]? = some z := hz
        rw [List.getElem?_map] at hz
        obtain ⟨n, hn, rfl⟩ := Option.map_eq_some_iff.mp hz
        have u5 := same_upd (o := .tup [.int i, .str n]) htt
        have hi2 : i < ns.length := by rw [hl]; exact lt_of_get hn
        have hnk : n ∈ ks := (hks n).mpr (List.mem_append_left _ (List.mem_append_left _ (List.mem_of_getElem? hn)))
        have hlen := en.len
        have hni : (ns.map fun n : Nat => V.int (n : Int))[i]? = some (.int (ns[i] : Nat)) := by rw [List.getElem?_map, List.getElem?_eq_getElem hi2]; rfl
        refine ⟨tt, _, rfl, SqT.of upd_same, rfl, _, _, rfl, _, _, rfl, rfl, ?_⟩
        refine ⟨_, rfl, _, rfl, na, _, (i : Int), _, rfl, rfl, SqT.of (u5 _ _ (s4 _ _ hna)), atI_nat hni, ?_⟩
        refine ⟨_, rfl, _, rfl, D, _, rfl, .inl ⟨kvs, Sum.inr n, u5 _ _ e, rfl, lineL (by omega), rfl⟩, _, _, rfl, same_grow nD0 (s4.trans u5), _, upd_same, ?_⟩
        refine en.put hnk ?_ fun m u _ hne hu => ?_
        · show V.int (ns[i] : Nat) = V.int ((if pt.given[i]? = some n then ns.getD i 0 else firstF pt.given ns i n : Nat) : Int)
          rw [if_pos hn, List.getD_eq_getElem?_getD, List.getElem?_eq_getElem hi2]
          rfl
        · show u = V.int ((if pt.given[i]? = some m then ns.getD i 0 else firstF pt.given ns i m : Nat) : Int)
          rw [if_neg fun z => hne (by rw [hn] at z; exact (Option.some.inj z).symm)]
          exact hu
      · rintro σ H4 ⟨v3, v4, rfl, s4, kvs, e, en⟩
        rw [List.length_map] at en
        exact ⟨_, rfl, q ks _ H4 nd hks s4 ⟨D, kvs, rfl, e, en⟩⟩
theorem sc_statement_done : FnScope ["statement", "numbers", "own", "many", "push"] ["statement", "numbers"] (defScope (top 43)) := ⟨rfl, rfl, rfl, by decide +kernel, rfl, by decide +kernel, by decide +kernel⟩
def RowAt (H : Hp) (u : V) (ks : List Str) (c : Nat) (f : Str → Nat) : Prop := ∃ a v, u = .ref a ∧ H a = some (.tup [.int (c : Int), v]) ∧ NuAt H v ks f
def spDone : Sp := fun vs H Q _ => ∃ (v u : V) (s : Sm) (ks : List Str) (f : Str → Nat), vs = [v, u] ∧ SmAt H v s ∧ s.ok ∧ NuAt H u ks f ∧ ks.Nodup ∧ ks.length ≤ 100 ∧ (∀ x ∈ s.nms, x ∈ ks) ∧ (∀ d ∈ s.ins, ∀ x ∈ d.nms, x ∈ ks) ∧
  ∀ r H', Same H H' → RowAt H' r ks (cntF f s) (nextF f s) → Q r H'
theorem c_statement_done (T : Txt K mg) : Cl P w K mg base 3 "statement_done" ["statement", "numbers"] spDone := by
  refine cl_of T.fstatement_done T.gstatement_done sc_statement_done (fun _ _ _ _ _ _ us hl => match us, hl with | [_, _], _ => rfl) (fun vs H Q E h => ?_) (fun cdv A outer s H vs Q E hr h => ?_)
  · obtain ⟨v, u, st, ks, f, rfl, _⟩ := h
    rfl
  · obtain ⟨v, u, st, ks, f, rfl, hs, ok, ⟨b, kvs, rfl, hb, en⟩, nd, kl, hn, hi, q⟩ := h
    refine ⟨_, (pss_cons (ps_set (i := 2) sc_statement_done.nd rfl (Or.inl rfl) (pe_callTy (call_tupD rfl) (by rfl) T.ztuple bo_tuple (pa_cons (pv 1) pa_nil)))
      (pss_cons (ps_if (pt_cmpR op_ne (pe_ix ix_tup (pv 0) pe_int (fun _ _ => rfl)) pe_str (nomark _)) (pss_one (ps_ret (pe_tup (pa_cons pe_int (pa_cons (pe_f (c_raw_pushed T) hr (pa_cons (pe_f (c_raw_push T) hr (pa_cons (pv 2) (pa_cons (pe_tup (pa_cons (pv 0) pa_nil)) pa_nil))) (pa_cons (pv 1) pa_nil))) pa_nil))))) pss_nil)
      (pss_cons (ps_set (i := 3) sc_statement_done.nd rfl (Or.inl rfl) (pe_dget (hu_of hr) (pv 1) (pe_ix ix_tup (pv 0) pe_int (fun _ _ => rfl)) (fun _ _ => rfl)))
      (pss_cons (ps_set (i := 4) sc_statement_done.nd rfl (Or.inl rfl) (pe_f (c_raw_times T) hr (pa_cons (pe_f (c_raw_push T) hr (pa_cons (pv 2) (pa_cons (pe_ix ix_tup (pv 0) pe_int (fun _ _ => rfl)) pa_nil))) (pa_cons (pv 3) pa_nil))))
      (pss_one (ps_ret (pe_tup (pa_cons (pe_op op_add pe_int (pe_op op_mul (pv 3) (pe_callB call_len_seq (by rfl) T.zlen bo_len (pa_cons (pe_ix ix_tup (pv 0) pe_int (fun _ _ => rfl)) pa_nil)))) (pa_cons (pe_f (c_raw_pushed T) hr (pa_cons (pv 4) (pa_cons (pv 1) pa_nil))) pa_nil))))))))), ?_⟩
    refine ⟨_, rfl, b, kvs, rfl, .inl hb, fun o no => ?_⟩
    have eks : (kvs.map fun kv => kV kv.1) = ks.map V.str := by
      rw [← strs_of, ← en.keys, List.map_map]
      rfl
    rw [eks]
    have s1 := same_upd (o := .tup (ks.map V.str)) no
    have ho : NsAt (upd H o (.tup (ks.map V.str))) (.ref o) ks := ⟨o, rfl, upd_same⟩
    generalize (upd H o (.tup (ks.map V.str))) = H1 at *
    have hs := hs.tk s1.tk
    have hb1 := s1 _ _ hb
    have hu : NuAt H1 (.ref b) ks f := ⟨b, kvs, rfl, hb1, en⟩
    cases st with
    | deed d =>
      have hdd : DdAt H1 v d := hs
      obtain ⟨c, rfl, hc⟩ := hs.deed
      refine ⟨_, rfl, c, _, 0, .str d.kind, rfl, rfl, SqT.of hc, atI_nat (j := 0) rfl, rfl, _, rfl, ?_⟩
      rw [d.kind_round]
      refine ⟨_, rfl, _, rfl, by show 1 ≤ sizeLine; decide, fun p np => ?_⟩
      have u2 := same_upd (o := .tup [.ref c]) np
      have hds : DsAt (upd H1 p (.tup [.ref c])) (.ref p) [d] := ⟨p, _, rfl, upd_same, pr_one (hdd.tk u2.tk)⟩
      have hd1 : ∀ d' ∈ [d], ∀ x ∈ d'.nms, x ∈ ks := fun d' h' x hx => hn x (by rw [List.mem_singleton.mp h'] at hx; exact hx)
      refine ⟨_, _, ks, [d], rfl, ho.tk u2.tk, nd, kl, hds, hd1, fun r H3 nr s3 hr3 => ?_⟩
      have s13 := u2.trans s3
      refine ⟨_, rfl, r, b, ks, _, f, rfl, (ne_of_none (u2 _ _ hb1) nr).symm, hr3, hu.same s13, nd, kl, cld_push hd1, fun w H4 s4 hw => ?_⟩
      refine ⟨by show 2 ≤ sizeLine; decide, fun t nt => ?_⟩
      have u5 := same_upd (o := .tup [.int 1, w]) nt
      exact q _ _ (((s1.trans s13).trans s4).trans u5) ⟨t, w, rfl, upd_same, hw.same u5⟩
    | round y ds =>
      have few : ds.length ≤ 16 := ok.few
      obtain ⟨c, b', ws, rfl, hc, hb', pr'⟩ := hs.round
      refine ⟨_, rfl, c, _, 0, .str "round", rfl, rfl, SqT.of hc, rfl, rfl, _, rfl, ?_⟩
      rw [round_round]
      have hy : y ∈ ks := hn y (List.mem_singleton.mpr rfl)
      obtain ⟨z, hz, rfl⟩ := en.get hy
      refine ⟨_, rfl, _, rfl, c, _, 1, .str y, rfl, rfl, SqT.of hc, rfl, b, _, rfl, .inl ⟨kvs, Sum.inr y, .inl hb1, rfl, hz.symm⟩, ?_⟩
      refine ⟨_, rfl, _, rfl, c, _, 2, .ref b', rfl, rfl, SqT.of hc, rfl, _, _, ks, ds, rfl, ho, nd, kl, ⟨b', ws, rfl, hb', pr'⟩, hi, fun r H3 nr s3 hr3 => ?_⟩
      refine ⟨_, rfl, _, f y, ks, _, rfl, hr3, nd, kl, cld_push hi, fun r2 H4 nr2 s4 hr4 cl4 => ?_⟩
      have s34 := s3.trans s4
      have hl' := pr'.length
      refine ⟨_, rfl, _, rfl, c, _, 2, .ref b', rfl, rfl, SqT.of (s34 _ _ hc), rfl, b', ws, rfl, .inr (SqT.of (s34 _ _ hb')), _, _, rfl, rfl, .inr ⟨by omega, by omega⟩, _, _, rfl, rfl, ?_⟩
      refine ⟨_, rfl, _, rfl, r2, b, ks, _, f, rfl, (ne_of_none (s3 _ _ hb1) nr2).symm, hr4, hu.same s34, nd, kl, cl4, fun w H5 s5 hw => ?_⟩
      refine ⟨by show 2 ≤ sizeLine; decide, fun t nt => ?_⟩
      rw [hl']
      have ec : (1 : Int) + (f y : Int) * (ds.length : Int) = ((1 + f y * ds.length : Nat) : Int) := by
        rw [Int.natCast_add, Int.natCast_mul]
        rfl
      have u6 := same_upd (o := .tup [.int ((1 : Int) + (f y : Int) * (ds.length : Int)), w]) nt
      exact q _ _ (((s1.trans s34).trans s5).trans u6) ⟨t, w, rfl, by rw [upd_same]; show some (HO.tup [V.int ((1 : Int) + (f y : Int) * (ds.length : Int)), w]) = _; rw [ec]; rfl, hw.same u6⟩
end
end Fr
/-! ## FrRun7 -/
set_option Elab.async false
set_option linter.all false
set_option maxRecDepth 100000
set_option maxHeartbeats 4000000
/-! Rows; moments. -/
namespace Fr
open PySem PySem.Spec PyProof.Rows L2
def runF (f : Str → Nat) (b : List Sm) : Nat × (Str → Nat) := b.foldl (fun s st => (s.1 + cntF s.2 st, nextF s.2 st)) (0, f)
theorem run_snoc {f : Str → Nat} {b : List Sm} {i : Nat} {s : Sm} (h : b[i]? = some s) : runF f (b.take (i + 1)) = ((runF f (b.take i)).1 + cntF (runF f (b.take i)).2 s, nextF (runF f (b.take i)).2 s) := by
  unfold runF
  rw [List.take_add_one, h]
  show List.foldl _ _ (b.take i ++ [s]) = _
  rw [List.foldl_append]
  rfl
theorem cnt_pos {f : Str → Nat} (s : Sm) : 1 ≤ cntF f s := by
  cases s with
  | deed d => exact Nat.le_refl 1
  | round x ds => exact Nat.le_add_right 1 _
theorem run_lt {f : Str → Nat} {b : List Sm} {i : Nat} : ∀ {j : Nat}, i < j → j ≤ b.length → (runF f (b.take i)).1 < (runF f (b.take j)).1
  | 0, h, _ => by omega
  | j + 1, h, hj => by
    have hb : b[j]? = some b[j] := List.getElem?_eq_getElem (by omega)
    have e := congrArg Prod.fst (run_snoc (f := f) hb)
    have c := cnt_pos (f := (runF f (b.take j)).2) b[j]
    replace e : (runF f (b.take (j + 1))).1 = (runF f (b.take j)).1 + cntF (runF f (b.take j)).2 b[j] := e
    by_cases z : i = j
    · subst z
      omega
    · have := run_lt (f := f) (b := b) (i := i) (j := j) (by omega) (by omega)
      omega
theorem atI_m1 {us : List V} {n : Nat} {z : V} (h : us[n]? = some z) (l : us.length = n + 1) : atI us (-1) = some z := by
  obtain ⟨hn, e⟩ := List.getElem?_eq_some_iff.mp h
  have : us = us.take n ++ [z] := by
    conv => lhs; rw [← List.take_append_drop n us]
    rw [List.drop_eq_getElem_cons hn, e, List.drop_of_length_le (by omega)]
  rw [this]
  exact atI_last _ _
theorem RowAt.same {H H' : Hp} (s : Same H H') {u : V} {ks : List Str} {c : Nat} {f : Str → Nat} (h : RowAt H u ks c f) : RowAt H' u ks c f := let ⟨a, v, e, q, r⟩ := h; ⟨a, v, e, s _ _ q, r.same s⟩
/-- the rows of a program's run, as far as n statements -/
structure Rows (H : Hp) (us : List V) (ks : List Str) (f : Str → Nat) (b : List Sm) (n : Nat) : Prop where
  len : us.length = n + 1
  at_ : ∀ i, i ≤ n → ∃ z, us[i]? = some z ∧ RowAt H z ks (runF f (b.take i)).1 (runF f (b.take i)).2
theorem Rows.same {H H' : Hp} {us : List V} {ks : List Str} {f : Str → Nat} {b : List Sm} {n : Nat} (h : Rows H us ks f b n) (s : Same H H') : Rows H' us ks f b n := ⟨h.len, fun i hi => let ⟨z, e, r⟩ := h.at_ i hi; ⟨z, e, r.same s⟩⟩
def Pt.f0 (pt : Pt) (ns : List Nat) : Str → Nat := firstF pt.given ns pt.given.length
theorem sub_nms {pt : Pt} {s : Sm} (h : s ∈ pt.block) : (∀ x ∈ s.nms, x ∈ pt.nms) ∧ ∀ d ∈ s.ins, ∀ x ∈ d.nms, x ∈ pt.nms := by
  refine ⟨fun x hx => ?_, fun d hd x hx => ?_⟩
  · exact List.mem_append_right _ (List.mem_flatMap.mpr ⟨s, List.mem_flatMap.mpr ⟨s, h, List.mem_cons_self ..⟩, hx⟩)
  · exact List.mem_append_right _ (List.mem_flatMap.mpr ⟨.deed d, List.mem_flatMap.mpr ⟨s, h, List.mem_cons_of_mem _ (List.mem_map.mpr ⟨d, hd, rfl⟩)⟩, hx⟩)
section
variable {P : Program} {w : World} {K : PySem.W.Frag} {mg : Str → Option Value} {base : Heap}
theorem sc_parts : FnScope ["program", "given", "found", "statement", "begin", "numbers", "many", "later"] ["program", "given"] (defScope (top 44)) := ⟨rfl, rfl, rfl, by decide +kernel, rfl, by decide +kernel, by decide +kernel⟩
def spPartsOf (K : PySem.W.Frag) : Sp := fun vs H Q _ => ∃ (x u : V) (pt : Pt) (ns : List Nat), vs = [x, u] ∧ Pg K H x pt ∧ pt.ok ∧ IsAt H u ns ∧ ns.length = pt.given.length ∧ ∀ (ks : List Str) (r : Addr) (us : List V) H', ks.Nodup → (∀ n, n ∈ ks ↔ n ∈ pt.nms) → Same H H' → H' r = some (.lst us) → Rows H' us ks (pt.f0 ns) pt.block pt.block.length → Q (.ref r) H'
theorem c_parts (T : Txt K mg) : Cl P w K mg base 4 "parts" ["program", "given"] (spPartsOf K) := by
  refine cl_of T.fparts T.gparts sc_parts (fun _ _ _ _ _ _ us hl => match us, hl with | [_, _], _ => rfl) (fun vs H Q E h => ?_) (fun cdv A outer s H vs Q E hr h => ?_)
  · obtain ⟨x, u, pt, ns, rfl, _⟩ := h
    rfl
  · obtain ⟨x, u, pt, ns, rfl, ⟨C, pc, a, dx, g, t, b, rfl, hp, hg, ht, hb⟩, ok, hu, hl, q⟩ := h
    refine ⟨_, (pss_cons (ps_set (i := 2) sc_parts.nd rfl (Or.inl rfl) (pe_lst (pa_cons (pe_tup (pa_cons pe_int (pa_cons (pe_f (c_first_numbers T) hr (pa_cons (pv 0) (pa_cons (pv 1) pa_nil))) pa_nil))) pa_nil)))
      (pss_cons (ps_for PassesOwn.never rfl (pi_tup (pe_fld (pv 0) rfl)) (pg_name (i := 3) sc_parts.nd rfl (Or.inl rfl)) (pss_cons (ps_asg (pe_ix ix_list (pv 2) (pe_un un_neg pe_int) (fun _ _ => rfl)) (pg_tup (by rfl) (pgs_cons (pg_name (i := 4) sc_parts.nd rfl (Or.inl rfl)) (pgs_cons (pg_name (i := 5) sc_parts.nd rfl (Or.inl rfl)) pgs_nil))))
      (pss_cons (ps_asg (pe_f (c_statement_done T) hr (pa_cons (pv 3) (pa_cons (pv 5) pa_nil))) (pg_tup (by rfl) (pgs_cons (pg_name (i := 6) sc_parts.nd rfl (Or.inl rfl)) (pgs_cons (pg_name (i := 7) sc_parts.nd rfl (Or.inl rfl)) pgs_nil))))
      (pss_one (ps_expr (pe_bm PySem.F.plainAttrs_list PySem.F.slot_list_append PySem.F.type_list_append mt_append (pv 2) (pa_cons (pe_tup (pa_cons (pe_op op_add (pv 4) (pv 6)) (pa_cons (pv 7) pa_nil))) pa_nil)))))))
      (pss_one (ps_ret (pv 2))))), ?_⟩
    have hm := ok.names
    have hbl := ok.bl
    refine ⟨_, rfl, _, rfl, _, u, pt, ns, rfl, ⟨C, pc, a, dx, g, t, b, rfl, hp, hg, ht, hb⟩, ok, hu, hl, fun ks v H1 nd hks s1 hv => ?_⟩
    have kl : ks.length ≤ 14 := nodup_le nd fun x hx => hm x ((hks x).mp hx)
    refine ⟨by show 2 ≤ sizeLine; decide, fun t0 nt0 => ⟨by show 1 ≤ sizeLine; decide, fun r nr => ?_⟩⟩
    have u2 := same_upd (o := .tup [.int 0, v]) nt0
    have u3 := same_upd (o := .lst [.ref t0]) nr
    have nr0 : H r = none := s1.free (u2.free nr)
    obtain ⟨bb, bs, rfl, hbb, pr, hlb⟩ := hb.len
    have s3 := (s1.trans u2).trans u3
    have R0 : Rows (upd (upd H1 t0 (.tup [.int 0, v])) r (.lst [.ref t0])) [.ref t0] ks (pt.f0 ns) pt.block 0 := ⟨rfl, fun i hi => by
      obtain rfl : i = 0 := by omega
      exact ⟨_, rfl, t0, v, rfl, u3 _ _ upd_same, hv.same (u2.trans u3)⟩⟩
    have er : (upd (upd H1 t0 (.tup [.int 0, v])) r (.lst [.ref t0])) r = some (.lst [.ref t0]) := upd_same
    generalize (upd (upd H1 t0 (.tup [.int 0, v])) r (.lst [.ref t0])) = H3 at *
    refine ⟨_, rfl, a, C, dx, _, _, rfl, s3 _ _ hp, pc.cl, pc.nb, flds_b _ _ _, bb, rfl, ⟨_, SqT.of (s3 _ _ hbb)⟩, for_it walk_tup (fun i σ H4 => ∃ v3 v4 v5 v6 v7, σ = [some (.ref a), some u, some (.ref r), v3, v4, v5, v6, v7] ∧ Same H H4 ∧ ∃ us, H4 r = some (.lst us) ∧ Rows H4 us ks (pt.f0 ns) pt.block i) ⟨_, _, _, _, _, rfl, s3, _, er, R0⟩ (fun i σ H4 _ ⟨_, _, _, _, _, _, s4, _⟩ => SqT.of (s4 _ _ hbb)) ?_ ?_⟩
    · rintro i z σ H5 H4 hi ⟨v3, v4, v5, v6, v7, rfl, s4, us, hus, R⟩ ⟨rfl, hz⟩
      obtain ⟨st, hst, hsm⟩ := pr_getL pr hz
      have oks := ok.bk st (List.mem_of_getElem? hst)
      obtain ⟨sn1, sn2⟩ := sub_nms (List.mem_of_getElem? hst)
      obtain ⟨y, hy, ya, yv, rfl, hya, hnu⟩ := R.at_ i (Nat.le_refl _)
      have hul := R.len
      have hib : i < pt.block.length := lt_of_get hst
      refine ⟨_, rfl, _, rfl, r, us, -1, .ref ya, rfl, rfl, SqL.of hus, atI_m1 hy hul, ?_⟩
      refine ⟨ya, _, rfl, SqT.of hya, rfl, _, _, rfl, _, _, rfl, rfl, ?_⟩
      refine ⟨_, rfl, _, rfl, z, yv, st, ks, _, rfl, hsm.tk s4.tk, oks, hnu, nd, by omega, fun x hx => (hks x).mpr (sn1 x hx), fun d hd x hx => (hks x).mpr (sn2 d hd x hx), fun w H5 s5 hw => ?_⟩
      obtain ⟨wa, wv, rfl, hwa, hwv⟩ := hw
      refine ⟨wa, _, rfl, SqT.of hwa, rfl, _, _, rfl, _, _, rfl, rfl, ?_⟩
      refine ⟨_, rfl, .inl ⟨rfl, _, SqL.of (s5 _ _ hus)⟩, _, rfl, _, rfl, _, _, rfl, rfl, _, rfl, by show 2 ≤ sizeLine; decide, fun p np => ?_⟩
      have u6 := same_upd (o := .tup [.int ((((runF (pt.f0 ns) (pt.block.take i)).1 : Nat) : Int) + ((cntF (runF (pt.f0 ns) (pt.block.take i)).2 st : Nat) : Int)), wv]) np
      have s56 := s5.trans u6
      refine ⟨r, us, _, rfl, rfl, s56 _ _ hus, lineL (by omega), ?_⟩
      have e6 := u6 _ _ hwa
      have hw6 := hwv.same u6
      have R6 := R.same s56
      have ep : (upd H5 p (.tup [.int ((((runF (pt.f0 ns) (pt.block.take i)).1 : Nat) : Int) + ((cntF (runF (pt.f0 ns) (pt.block.take i)).2 st : Nat) : Int)), wv])) p = some (.tup [.int ((((runF (pt.f0 ns) (pt.block.take i)).1 : Nat) : Int) + ((cntF (runF (pt.f0 ns) (pt.block.take i)).2 st : Nat) : Int)), wv]) := upd_same
      have er6 := s56 _ _ hus
      have s46 := s4.trans s56
      show ∃ v3 v4 v5 v6 v7, _ ∧ Same H (upd (upd H5 p (.tup [.int ((((runF (pt.f0 ns) (pt.block.take i)).1 : Nat) : Int) + ((cntF (runF (pt.f0 ns) (pt.block.take i)).2 st : Nat) : Int)), wv])) r (.lst (us ++ [.ref p]))) ∧ ∃ us', (upd (upd H5 p (.tup [.int ((((runF (pt.f0 ns) (pt.block.take i)).1 : Nat) : Int) + ((cntF (runF (pt.f0 ns) (pt.block.take i)).2 st : Nat) : Int)), wv])) r (.lst (us ++ [.ref p]))) r = some (.lst us') ∧ Rows (upd (upd H5 p (.tup [.int ((((runF (pt.f0 ns) (pt.block.take i)).1 : Nat) : Int) + ((cntF (runF (pt.f0 ns) (pt.block.take i)).2 st : Nat) : Int)), wv])) r (.lst (us ++ [.ref p]))) us' ks (pt.f0 ns) pt.block (i + 1)
      generalize (upd H5 p (.tup [.int ((((runF (pt.f0 ns) (pt.block.take i)).1 : Nat) : Int) + ((cntF (runF (pt.f0 ns) (pt.block.take i)).2 st : Nat) : Int)), wv])) = H6 at *
      -- a row stands when r is written
      have row : ∀ {u : V} {c : Nat} {f : Str → Nat}, RowAt H6 u ks c f → RowAt (upd H6 r (.lst (us ++ [.ref p]))) u ks c f := by
        rintro u c f ⟨xa, xv, rfl, hxa, ⟨na, kvs, rfl, hna, en⟩⟩
        refine ⟨xa, _, rfl, tk_lst er6 _ _ hxa, na, kvs, rfl, ?_, en⟩
        rw [upd_ne (ne_of hna er6 (fun z => nomatch z))]
        exact hna
      refine ⟨_, _, _, _, _, rfl, same_grow nr0 s46, us ++ [.ref p], upd_same, by simp [hul], fun j hj => ?_⟩
      by_cases hji : j ≤ i
      · obtain ⟨z, hz, hzr⟩ := R6.at_ j hji
        exact ⟨z, by rw [List.getElem?_append_left (by omega)]; exact hz, row hzr⟩
      · obtain rfl : j = i + 1 := by omega
        refine ⟨.ref p, by rw [List.getElem?_append_right (by omega), hul, Nat.sub_self]; rfl, row ⟨p, wv, rfl, ?_, ?_⟩⟩
        · rw [run_snoc hst, ep, Int.natCast_add]
        · rw [run_snoc hst]
          exact hw6
    · rintro σ H4 ⟨v3, v4, v5, v6, v7, rfl, s4, us, hus, R⟩
      rw [hlb] at R
      exact ⟨_, rfl, q ks r us H4 nd hks s4 hus R⟩
end
end Fr
/-! ## FrRun8 -/
set_option Elab.async false
set_option linter.all false
set_option maxRecDepth 100000
set_option maxHeartbeats 4000000
/-! Moments. -/
namespace Fr
open PySem PySem.Spec PyProof.Rows L2
theorem int00 : decide (V.int 0 = V.int 0) = true := decide_eq_true rfl
section
variable {P : Program} {w : World} {K : PySem.W.Frag} {mg : Str → Option Value} {base : Heap}
theorem sc_spot : FnScope ["program", "row", "moment", "found", "k"] ["program", "row", "moment"] (defScope (top 45)) := ⟨rfl, rfl, rfl, by decide +kernel, rfl, by decide +kernel, by decide +kernel⟩
def spSpot : Sp := fun vs H Q _ => ∃ (x : V) (r : Addr) (us : List V) (ks : List Str) (f : Str → Nat) (b : List Sm) (k : Nat), vs = [x, .ref r, .int ((runF f (b.take k)).1 : Nat)] ∧ H r = some (.lst us) ∧ Rows H us ks f b b.length ∧ k ≤ b.length ∧ b.length ≤ 1000 ∧
  ∀ (t : Addr) H', Same H H' → H' t = some (.tup [.int (k : Int), .int 0]) → Q (.ref t) H'
theorem c_spot (T : Txt K mg) : Cl P w K mg base 1 "spot" ["program", "row", "moment"] spSpot := by
  refine cl_of T.fspot T.gspot sc_spot (fun _ _ _ _ _ _ us hl => match us, hl with | [_, _, _], _ => rfl) (fun vs H Q E h => ?_) (fun cdv A outer s H vs Q E hr h => ?_)
  · obtain ⟨x, r, us, ks, f, b, k, rfl, _⟩ := h
    rfl
  · obtain ⟨x, r, us, ks, f, b, k, rfl, hr', R, hk, hb, q⟩ := h
    refine ⟨_, (pss_cons (ps_set (i := 3) sc_spot.nd rfl (Or.inl rfl) pe_int)
      (pss_cons (ps_for PassesOwn.never rfl (pi_range1 (by rfl) T.zrange (pa_cons (pe_callB call_len_seq (by rfl) T.zlen bo_len (pa_cons (pv 1) pa_nil)) pa_nil)) (pg_name (i := 4) sc_spot.nd rfl (Or.inl rfl)) (pss_one (ps_if (pt_cmpR op_le (pe_ix ix_tup (pe_ix ix_list (pv 1) (pv 4) (fun _ _ => rfl)) pe_int (fun _ _ => rfl)) (pv 2) (nomark _)) (pss_one (ps_set (i := 3) sc_spot.nd rfl (Or.inl rfl) (pv 4))) pss_nil)))
      (pss_one (ps_ret (pe_tup (pa_cons (pv 3) (pa_cons (pe_op op_sub (pv 2) (pe_ix ix_tup (pe_ix ix_list (pv 1) (pv 3) (fun _ _ => rfl)) pe_int (fun _ _ => rfl))) pa_nil))))))), ?_⟩
    have hul := R.len
    refine ⟨_, rfl, r, us, rfl, .inl (SqL.of hr'), (us.length : Int), rfl, by omega, by omega, ?_⟩
    refine for_it walk_range (fun i σ H1 => ∃ v4, σ = [some x, some (.ref r), some (.int ((runF f (b.take k)).1 : Nat)), some (.int ((min k (i - 1) : Nat) : Int)), v4] ∧ H1 = H) ⟨_, by simp; rfl, rfl⟩ (fun _ _ _ _ _ => trivial) ?_ ?_
    · rintro i v σ H1 H2 hi ⟨v4, rfl, rfl⟩ ⟨rfl, rfl⟩
      have hi2 : i ≤ b.length := by omega
      obtain ⟨z, hz, za, zv, rfl, hza, hzv⟩ := R.at_ i hi2
      refine ⟨_, rfl, _, rfl, r, us, (0 + (i : Int)), _, rfl, rfl, SqL.of hr', by rw [Int.zero_add]; exact atI_nat hz, za, _, 0, _, rfl, rfl, SqT.of hza, rfl, _, rfl, _, _, rfl, rfl, _, rfl, ?_⟩
      by_cases hik : i ≤ k
      · have hle : (runF f (b.take i)).1 ≤ (runF f (b.take k)).1 := by
          by_cases e : i = k
          · rw [e]
            exact Nat.le_refl _
          · exact Nat.le_of_lt (run_lt (by omega) hk)
        rw [decide_eq_true (by omega)]
        refine ⟨_, rfl, some (.int (0 + (i : Int))), ?_, rfl⟩
        have e1 : (V.int ((min k (i + 1 - 1) : Nat) : Int)) = .int (0 + (i : Int)) := by
          have : min k (i + 1 - 1) = i := by omega
          rw [this, Int.zero_add]
        rw [e1]
        rfl
      · have hlt := run_lt (f := f) (b := b) (i := k) (j := i) (by omega) hi2
        rw [decide_eq_false (by omega)]
        refine ⟨some (.int (0 + (i : Int))), ?_, rfl⟩
        have : min k (i + 1 - 1) = min k (i - 1) := by omega
        rw [this]
        rfl
    · rintro σ H1 ⟨v4, rfl, rfl⟩
      have ek : min k ((us.length : Int).toNat - 1) = k := by omega
      rw [ek]
      obtain ⟨z, hz, za, zv, rfl, hza, hzv⟩ := R.at_ k hk
      refine ⟨_, rfl, _, rfl, _, rfl, _, rfl, r, us, (k : Int), _, rfl, rfl, SqL.of hr', atI_nat hz, za, _, 0, _, rfl, rfl, SqT.of hza, rfl, _, _, rfl, rfl, by show 2 ≤ sizeLine; decide, fun t nt => ?_⟩
      refine q t _ (same_upd nt) ?_
      rw [upd_same]
      show some (HO.tup [V.int (k : Int), V.int (((runF f (b.take k)).1 : Int) - ((runF f (b.take k)).1 : Int))]) = _
      rw [Int.sub_self]
theorem sc_numbers_in : FnScope ["program", "row", "moment", "k", "inner", "numbers", "own", "inside"] ["program", "row", "moment"] (defScope (top 46)) := ⟨rfl, rfl, rfl, by decide +kernel, rfl, by decide +kernel, by decide +kernel⟩
def spNumbersIn : Sp := fun vs H Q _ => ∃ (x : V) (r : Addr) (us : List V) (ks : List Str) (f : Str → Nat) (b : List Sm) (k : Nat), vs = [x, .ref r, .int ((runF f (b.take k)).1 : Nat)] ∧ H r = some (.lst us) ∧ Rows H us ks f b b.length ∧ k ≤ b.length ∧ b.length ≤ 1000 ∧
  ∀ v H', Same H H' → NuAt H' v ks (runF f (b.take k)).2 → Q v H'
theorem c_numbers_in (T : Txt K mg) : Cl P w K mg base 2 "numbers_in" ["program", "row", "moment"] spNumbersIn := by
  refine cl_of T.fnumbers_in T.gnumbers_in sc_numbers_in (fun _ _ _ _ _ _ us hl => match us, hl with | [_, _, _], _ => rfl) (fun vs H Q E h => ?_) (fun cdv A outer s H vs Q E hr h => ?_)
  · obtain ⟨x, r, us, ks, f, b, k, rfl, _⟩ := h
    rfl
  · obtain ⟨x, r, us, ks, f, b, k, rfl, hr', R, hk, hb, q⟩ := h
    refine ⟨_, (pss_cons (ps_asg (pe_f (c_spot T) hr (pa_cons (pv 0) (pa_cons (pv 1) (pa_cons (pv 2) pa_nil)))) (pg_tup (by rfl) (pgs_cons (pg_name (i := 3) sc_numbers_in.nd rfl (Or.inl rfl)) (pgs_cons (pg_name (i := 4) sc_numbers_in.nd rfl (Or.inl rfl)) pgs_nil))))
      (pss_cons (ps_set (i := 5) sc_numbers_in.nd rfl (Or.inl rfl) (pe_ix ix_tup (pe_ix ix_list (pv 1) (pv 3) (fun _ _ => rfl)) pe_int (fun _ _ => rfl)))
      (pss_cons (ps_if (pt_cmpR op_eq (pv 4) pe_int (nomark _)) (pss_one (ps_ret (pe_bm0 PySem.F.plainAttrs_dict PySem.F.slot_dict_copy PySem.F.type_dict_copy mt_copyD (pv 5)))) pss_nil)
      (pss_cons ps_never
      (pss_cons ps_never
      (pss_cons ps_never
      (pss_one ps_never))))))), ?_⟩
    refine ⟨_, rfl, _, rfl, _, rfl, x, r, us, ks, f, b, k, rfl, hr', R, hk, hb, fun t H1 s1 ht => ?_⟩
    refine ⟨t, _, rfl, SqT.of ht, rfl, _, _, rfl, _, _, rfl, rfl, ?_⟩
    obtain ⟨z, hz, za, zv, rfl, hza, hzv⟩ := (R.same s1).at_ k hk
    refine ⟨_, rfl, _, rfl, r, us, (k : Int), _, rfl, rfl, SqL.of (s1 _ _ hr'), atI_nat hz, za, _, 1, _, rfl, rfl, SqT.of hza, rfl, ?_⟩
    refine ⟨_, rfl, rfl, _, rfl, ?_⟩
    rw [int00]
    obtain ⟨na, kvs, rfl, hna, en⟩ := hzv
    refine ⟨_, rfl, .inr (.inr (.inl ⟨rfl, .inl ⟨kvs, hna⟩⟩)), na, kvs, rfl, rfl, hna, fun p np => ?_⟩
    exact q _ _ (s1.trans (same_upd np)) ⟨p, kvs, rfl, upd_same, en⟩
theorem sc_check_moment : FnScope ["row", "thing"] ["row", "thing"] (defScope (top 47)) := ⟨rfl, rfl, rfl, by decide +kernel, rfl, by decide +kernel, by decide +kernel⟩
def spCheckMoment : Sp := fun vs H Q _ => ∃ (r : Addr) (us : List V) (ks : List Str) (f : Str → Nat) (b : List Sm) (k : Nat), vs = [.ref r, .int ((runF f (b.take k)).1 : Nat)] ∧ H r = some (.lst us) ∧ Rows H us ks f b b.length ∧ k ≤ b.length ∧ Q .non H
theorem c_check_moment (T : Txt K mg) : Cl P w K mg base 3 "check_moment" ["row", "thing"] spCheckMoment := by
  refine cl_of T.fcheck_moment T.gcheck_moment sc_check_moment (fun _ _ _ _ _ _ us hl => match us, hl with | [_, _], _ => rfl) (fun vs H Q E h => ?_) (fun cdv A outer s H vs Q E hr h => ?_)
  · obtain ⟨r, us, ks, f, b, k, rfl, _⟩ := h
    rfl
  · obtain ⟨r, us, ks, f, b, k, rfl, hr', R, hk, q⟩ := h
    refine ⟨_, (pss_one (ps_if (pt_not (pt_val (pe_f (c_is_within T) hr (pa_cons (pv 1) (pa_cons pe_int (pa_cons (pe_ix ix_tup (pe_ix ix_list (pv 0) (pe_un un_neg pe_int) (fun _ _ => rfl)) pe_int (fun _ _ => rfl)) pa_nil)))))) (pss_one ps_never) pss_nil)), ?_⟩
    obtain ⟨z, hz, za, zv, rfl, hza, hzv⟩ := R.at_ b.length (Nat.le_refl _)
    have hle : (runF f (b.take k)).1 ≤ (runF f (b.take b.length)).1 := by
      by_cases e : k = b.length
      · rw [e]
        exact Nat.le_refl _
      · exact Nat.le_of_lt (run_lt (by omega) (Nat.le_refl _))
    refine ⟨_, rfl, _, rfl, _, rfl, r, us, -1, _, rfl, rfl, SqL.of hr', atI_m1 hz R.len, za, _, 0, _, rfl, rfl, SqT.of hza, rfl, _, _, _, rfl, ?_⟩
    rw [decide_eq_true (by omega), decide_eq_true (by omega)]
    exact ⟨true, rfl, q⟩
theorem sc_numbers_at : FnScope ["program", "given", "moment", "row"] ["program", "given", "moment"] (defScope (top 48)) := ⟨rfl, rfl, rfl, by decide +kernel, rfl, by decide +kernel, by decide +kernel⟩
def spNumbersAt (K : PySem.W.Frag) : Sp := fun vs H Q _ => ∃ (x u : V) (pt : Pt) (ns : List Nat) (k : Nat), vs = [x, u, .int ((runF (pt.f0 ns) (pt.block.take k)).1 : Nat)] ∧ Pg K H x pt ∧ pt.ok ∧ IsAt H u ns ∧ ns.length = pt.given.length ∧ k ≤ pt.block.length ∧
  ∀ ks v H', ks.Nodup → (∀ n, n ∈ ks ↔ n ∈ pt.nms) → Same H H' → NuAt H' v ks (runF (pt.f0 ns) (pt.block.take k)).2 → Q v H'
theorem c_numbers_at (T : Txt K mg) : Cl P w K mg base 5 "numbers_at" ["program", "given", "moment"] (spNumbersAt K) := by
  refine cl_of T.fnumbers_at T.gnumbers_at sc_numbers_at (fun _ _ _ _ _ _ us hl => match us, hl with | [_, _, _], _ => rfl) (fun vs H Q E h => ?_) (fun cdv A outer s H vs Q E hr h => ?_)
  · obtain ⟨x, u, pt, ns, k, rfl, _⟩ := h
    rfl
  · obtain ⟨x, u, pt, ns, k, rfl, ⟨C, pc, a, dx, g, t, b, rfl, hp, ⟨ga, rfl, hga⟩, ht, hb⟩, ok, hu, hl, hk, q⟩ := h
    have hp0 : Pg K H (.ref a) pt := ⟨C, pc, a, dx, _, t, b, rfl, hp, ⟨ga, rfl, hga⟩, ht, hb⟩
    have hgl := ok.gl
    have hbl := ok.bl
    refine ⟨_, (pss_cons (ps_expr (pe_f (c_check_input T) hr (pa_cons (pv 1) (pa_cons (pe_callB call_len_seq (by rfl) T.zlen bo_len (pa_cons (pe_fld (pv 0) rfl) pa_nil)) pa_nil))))
      (pss_cons (ps_set (i := 3) sc_numbers_at.nd rfl (Or.inl rfl) (pe_f (c_parts T) hr (pa_cons (pv 0) (pa_cons (pv 1) pa_nil))))
      (pss_cons (ps_expr (pe_f (c_check_moment T) hr (pa_cons (pv 3) (pa_cons (pv 2) pa_nil))))
      (pss_one (ps_ret (pe_f (c_numbers_in T) hr (pa_cons (pv 0) (pa_cons (pv 3) (pa_cons (pv 2) pa_nil))))))))), ?_⟩
    refine ⟨_, rfl, _, rfl, a, C, dx, _, _, rfl, hp, pc.cl, pc.ng, flds_g _ _ _, ga, _, rfl, .inr (SqT.of hga), u, ns, by rw [List.length_map, hl]; rfl, hu, by omega, fun H1 s1 => ?_⟩
    refine ⟨_, rfl, _, rfl, _, u, pt, ns, rfl, hp0.same s1, ok, hu.tk s1.tk, hl, fun ks r us H2 nd hks s2 hr2 R => ?_⟩
    refine ⟨_, rfl, _, rfl, r, us, ks, _, _, k, rfl, hr2, R, hk, ?_⟩
    exact ⟨_, rfl, _, rfl, _, rfl, _, r, us, ks, _, _, k, rfl, hr2, R, hk, by omega, fun v H3 s3 hv => q ks v H3 nd hks ((s1.trans s2).trans s3) hv⟩
theorem sc_done_in : FnScope ["program", "row", "place"] ["program", "row", "place"] (defScope (top 49)) := ⟨rfl, rfl, rfl, by decide +kernel, rfl, by decide +kernel, by decide +kernel⟩
def spDoneIn : Sp := fun vs H Q _ => ∃ (x y u : V) (k : Nat), vs = [x, y, u] ∧ PlAt H u ⟨k, none⟩ ∧ Q (.int 1) H
theorem c_done_in (T : Txt K mg) : Cl P w K mg base 1 "done_in" ["program", "row", "place"] spDoneIn := by
  refine cl_of T.fdone_in T.gdone_in sc_done_in (fun _ _ _ _ _ _ us hl => match us, hl with | [_, _, _], _ => rfl) (fun vs H Q E h => ?_) (fun cdv A outer s H vs Q E hr h => ?_)
  · obtain ⟨x, y, u, k, rfl, _⟩ := h
    rfl
  · obtain ⟨x, y, u, k, rfl, ⟨c, rfl, hc⟩, q⟩ := h
    refine ⟨_, (pss_cons (ps_if (pt_cmpR op_eq (pe_callB call_len_seq (by rfl) T.zlen bo_len (pa_cons (pv 2) pa_nil)) pe_int (nomark _)) (pss_one (ps_ret pe_int)) pss_nil)
      (pss_one ps_never)), ?_⟩
    exact ⟨_, rfl, c, _, rfl, .inr (SqT.of hc), rfl, true, rfl, q⟩
theorem sc_moment_in : FnScope ["program", "row", "place", "time", "begin"] ["program", "row", "place", "time"] (defScope (top 50)) := ⟨rfl, rfl, rfl, by decide +kernel, rfl, by decide +kernel, by decide +kernel⟩
def spMomentIn : Sp := fun vs H Q _ => ∃ (x u t : V) (r : Addr) (us : List V) (ks : List Str) (f : Str → Nat) (b : List Sm) (k : Nat), vs = [x, .ref r, u, t] ∧ H r = some (.lst us) ∧ Rows H us ks f b b.length ∧ k ≤ b.length ∧ PlAt H u ⟨k, none⟩ ∧ Q (.int ((runF f (b.take k)).1 : Nat)) H
theorem c_moment_in (T : Txt K mg) : Cl P w K mg base 1 "moment_in" ["program", "row", "place", "time"] spMomentIn := by
  refine cl_of T.fmoment_in T.gmoment_in sc_moment_in (fun _ _ _ _ _ _ us hl => match us, hl with | [_, _, _, _], _ => rfl) (fun vs H Q E h => ?_) (fun cdv A outer s H vs Q E hr h => ?_)
  · obtain ⟨x, u, t, r, us, ks, f, b, k, rfl, _⟩ := h
    rfl
  · obtain ⟨x, u, t, r, us, ks, f, b, k, rfl, hr', R, hk, ⟨c, rfl, hc⟩, q⟩ := h
    refine ⟨_, (pss_cons (ps_set (i := 4) sc_moment_in.nd rfl (Or.inl rfl) (pe_ix ix_tup (pe_ix ix_list (pv 1) (pe_ix ix_tup (pv 2) pe_int (fun _ _ => rfl)) (fun _ _ => rfl)) pe_int (fun _ _ => rfl)))
      (pss_cons (ps_if (pt_cmpR op_eq (pe_callB call_len_seq (by rfl) T.zlen bo_len (pa_cons (pv 2) pa_nil)) pe_int (nomark _)) (pss_one (ps_ret (pv 4))) pss_nil)
      (pss_one ps_never))), ?_⟩
    obtain ⟨z, hz, za, zv, rfl, hza, hzv⟩ := R.at_ k hk
    refine ⟨_, rfl, _, rfl, c, _, 0, .int (k : Int), rfl, rfl, SqT.of hc, rfl, r, us, (k : Int), _, rfl, rfl, SqL.of hr', atI_nat hz, za, _, 0, _, rfl, rfl, SqT.of hza, rfl, ?_⟩
    exact ⟨_, rfl, c, _, rfl, .inr (SqT.of hc), rfl, true, rfl, _, rfl, q⟩
theorem sc_moment_of : FnScope ["program", "given", "place", "time", "row"] ["program", "given", "place", "time"] (defScope (top 51)) := ⟨rfl, rfl, rfl, by decide +kernel, rfl, by decide +kernel, by decide +kernel⟩
def spMomentOf (K : PySem.W.Frag) : Sp := fun vs H Q _ => ∃ (x u y : V) (pt : Pt) (ns : List Nat) (k : Nat), vs = [x, u, y, .int 0] ∧ Pg K H x pt ∧ pt.ok ∧ IsAt H u ns ∧ ns.length = pt.given.length ∧ PlAt H y ⟨k, none⟩ ∧ k < pt.block.length ∧
  ∀ H', Same H H' → Q (.int ((runF (pt.f0 ns) (pt.block.take k)).1 : Nat)) H'
theorem c_moment_of (T : Txt K mg) : Cl P w K mg base 5 "moment_of" ["program", "given", "place", "time"] (spMomentOf K) := by
  refine cl_of T.fmoment_of T.gmoment_of sc_moment_of (fun _ _ _ _ _ _ us hl => match us, hl with | [_, _, _, _], _ => rfl) (fun vs H Q E h => ?_) (fun cdv A outer s H vs Q E hr h => ?_)
  · obtain ⟨x, u, y, pt, ns, k, rfl, _⟩ := h
    rfl
  · obtain ⟨x, u, y, pt, ns, k, rfl, ⟨C, pc, a, dx, g, t, b, rfl, hp, ⟨ga, rfl, hga⟩, ht, hb⟩, ok, hu, hl, hy, hk, q⟩ := h
    have hp0 : Pg K H (.ref a) pt := ⟨C, pc, a, dx, _, t, b, rfl, hp, ⟨ga, rfl, hga⟩, ht, hb⟩
    have hgl := ok.gl
    refine ⟨_, (pss_cons (ps_expr (pe_f (c_check_input T) hr (pa_cons (pv 1) (pa_cons (pe_callB call_len_seq (by rfl) T.zlen bo_len (pa_cons (pe_fld (pv 0) rfl) pa_nil)) pa_nil))))
      (pss_cons (ps_expr (pe_f (c_check_place T) hr (pa_cons (pv 0) (pa_cons (pv 2) pa_nil))))
      (pss_cons (ps_set (i := 4) sc_moment_of.nd rfl (Or.inl rfl) (pe_f (c_parts T) hr (pa_cons (pv 0) (pa_cons (pv 1) pa_nil))))
      (pss_cons (ps_if (PW.pt (pw_or (pt_not (pt_val (pe_f (c_is_number T) hr (pa_cons (pv 3) pa_nil)))) (pw_or1 (pt_cmpR op_ge (pv 3) (pe_f (c_done_in T) hr (pa_cons (pv 0) (pa_cons (pv 4) (pa_cons (pv 2) pa_nil)))) (nomark _))))) (pss_one ps_never) pss_nil)
      (pss_one (ps_ret (pe_f (c_moment_in T) hr (pa_cons (pv 0) (pa_cons (pv 4) (pa_cons (pv 2) (pa_cons (pv 3) pa_nil))))))))))), ?_⟩
    refine ⟨_, rfl, _, rfl, a, C, dx, _, _, rfl, hp, pc.cl, pc.ng, flds_g _ _ _, ga, _, rfl, .inr (SqT.of hga), u, ns, by rw [List.length_map, hl]; rfl, hu, by omega, fun H1 s1 => ?_⟩
    refine ⟨_, rfl, _, rfl, _, y, pt, ⟨k, none⟩, rfl, hp0.same s1, hy.tk s1.tk, ⟨hk, fun _ z => nomatch z⟩, ?_⟩
    refine ⟨_, rfl, _, rfl, _, u, pt, ns, rfl, hp0.same s1, ok, hu.tk s1.tk, hl, fun ks r us H2 nd hks s2 hr2 R => ?_⟩
    have s12 := s1.trans s2
    refine ⟨_, rfl, 0, rfl, true, rfl, _, rfl, _, rfl, _, rfl, _, rfl, _, _, y, k, rfl, hy.tk s12.tk, _, _, rfl, rfl, _, rfl, ?_⟩
    exact ⟨_, rfl, _, rfl, _, rfl, _, rfl, _, y, .int 0, r, us, ks, _, _, k, rfl, hr2, R, Nat.le_of_lt hk, hy.tk s12.tk, q H2 s12⟩
end
end Fr
/-! ## FrSame -/
set_option Elab.async false
set_option linter.all false
set_option maxRecDepth 100000
set_option maxHeartbeats 4000000
/-! The longer program's run, up to the place, is the program's. -/
namespace Fr
open PySem PySem.Spec PyProof.Rows L2
/-- n is a name of a statement of b -/
def Nm (b : List Sm) (n : Str) : Prop := ∃ s ∈ b, n ∈ s.nms ∨ ∃ d ∈ s.ins, n ∈ d.nms
theorem nm_app {a b : List Sm} {n : Str} : Nm (a ++ b) n ↔ Nm a n ∨ Nm b n := by
  constructor
  · rintro ⟨s, hs, h⟩
    exact (List.mem_append.mp hs).elim (fun hs => .inl ⟨s, hs, h⟩) (fun hs => .inr ⟨s, hs, h⟩)
  · rintro (⟨s, hs, h⟩ | ⟨s, hs, h⟩)
    · exact ⟨s, List.mem_append_left _ hs, h⟩
    · exact ⟨s, List.mem_append_right _ hs, h⟩
theorem nm_one {s : Sm} {n : Str} : Nm [s] n ↔ n ∈ s.nms ∨ ∃ d ∈ s.ins, n ∈ d.nms := by
  constructor
  · rintro ⟨t, ht, h⟩
    rw [List.mem_singleton.mp ht] at h
    exact h
  · exact fun h => ⟨s, List.mem_singleton.mpr rfl, h⟩
theorem flat_nm {b : List Sm} {n : Str} : n ∈ (flat b).flatMap Sm.nms ↔ Nm b n := by
  constructor
  · intro h
    obtain ⟨t, ht, hn⟩ := List.mem_flatMap.mp h
    obtain ⟨s, hs, h⟩ := List.mem_flatMap.mp ht
    rcases List.mem_cons.mp h with rfl | h
    · exact ⟨t, hs, .inl hn⟩
    · obtain ⟨d, hd, rfl⟩ := List.mem_map.mp h
      exact ⟨s, hs, .inr ⟨d, hd, hn⟩⟩
  · rintro ⟨s, hs, h | ⟨d, hd, h⟩⟩
    · exact List.mem_flatMap.mpr ⟨s, List.mem_flatMap.mpr ⟨s, hs, List.mem_cons_self ..⟩, h⟩
    · exact List.mem_flatMap.mpr ⟨.deed d, List.mem_flatMap.mpr ⟨s, hs, List.mem_cons_of_mem _ (List.mem_map.mpr ⟨d, hd, rfl⟩)⟩, h⟩
theorem mem_nms {pt : Pt} {n : Str} : n ∈ pt.nms ↔ (n ∈ pt.given ∨ n ∈ pt.told) ∨ Nm pt.block n := by
  unfold Pt.nms
  rw [List.mem_append, List.mem_append, flat_nm]
/-- what is put in at p: the head up to p.k, what is given and told stand; the names too -/
theorem put_same {pt : Pt} {p : Pl} {s : Sm} (h : pt.gap p) (f : Fits p s) (hs : ∀ x ∈ s.nms, x ∈ pt.given ++ pt.told) (hi : ∀ d ∈ s.ins, ∀ x ∈ d.nms, x ∈ pt.given ++ pt.told) :
    (pt.put p s).given = pt.given ∧ (pt.put p s).block.take p.k = pt.block.take p.k ∧ pt.block.length ≤ (pt.put p s).block.length ∧ ∀ n, n ∈ (pt.put p s).nms ↔ n ∈ pt.nms := by
  obtain ⟨k, j⟩ := p
  obtain ⟨h1, h2⟩ := h
  replace h1 : k ≤ pt.block.length := h1
  have old : ∀ n, Nm [s] n → n ∈ pt.given ∨ n ∈ pt.told := fun n hn => by
    rcases nm_one.mp hn with hn | ⟨d, hd, hn⟩
    · exact List.mem_append.mp (hs n hn)
    · exact List.mem_append.mp (hi d hd n hn)
  cases j with
  | none =>
    refine ⟨rfl, ?_, ?_, fun n => ?_⟩
    · show ((pt.block.take k ++ [s]) ++ pt.block.drop k).take k = _
      rw [List.append_assoc]
      exact List.take_left' (by rw [List.length_take]; omega)
    · show _ ≤ ((pt.block.take k ++ [s]) ++ pt.block.drop k).length
      rw [List.length_append, List.length_append, List.length_take, List.length_drop]
      simp
      omega
    · have e : Nm pt.block n ↔ Nm (pt.block.take k) n ∨ Nm (pt.block.drop k) n := by
        conv => lhs; rw [← List.take_append_drop k pt.block]
        exact nm_app
      rw [mem_nms, mem_nms, e]
      show _ ∨ Nm ((pt.block.take k ++ [s]) ++ pt.block.drop k) n ↔ _
      rw [nm_app, nm_app]
      constructor
      · rintro (h | (h | h) | h)
        · exact .inl h
        · exact .inr (.inl h)
        · exact .inl (old n h)
        · exact .inr (.inr h)
      · rintro (h | h | h)
        · exact .inl h
        · exact .inr (.inl (.inl h))
        · exact .inr (.inr h)
  | some j =>
    obtain ⟨d, rfl⟩ := f j rfl
    obtain ⟨y, ds, hk, hj⟩ := h2 j rfl
    replace hk : pt.block[k]? = some (.round y ds) := hk
    obtain ⟨hlt, ek⟩ := List.getElem?_eq_some_iff.mp hk
    have e1 : pt.put ⟨k, some j⟩ (.deed d) = pt.at k (.round y ((ds.take j ++ [d]) ++ ds.drop j)) := by
      rw [put_some hk, Pt.at_eq hlt]
    rw [e1]
    refine ⟨rfl, ?_, ?_, fun n => ?_⟩
    · show ((pt.block.take k ++ [_]) ++ pt.block.drop (k + 1)).take k = _
      rw [List.append_assoc]
      exact List.take_left' (by rw [List.length_take]; omega)
    · show _ ≤ ((pt.block.take k ++ [_]) ++ pt.block.drop (k + 1)).length
      rw [List.length_append, List.length_append, List.length_take, List.length_drop]
      simp
      omega
    · have e : Nm pt.block n ↔ (Nm (pt.block.take k) n ∨ Nm [.round y ds] n) ∨ Nm (pt.block.drop (k + 1)) n := by
        conv => lhs; rw [← List.take_append_drop k pt.block, List.drop_eq_getElem_cons hlt, ek]
        rw [show (Sm.round y ds :: pt.block.drop (k + 1)) = [Sm.round y ds] ++ pt.block.drop (k + 1) from rfl, ← List.append_assoc, nm_app, nm_app]
      rw [mem_nms, mem_nms, e]
      show _ ∨ Nm ((pt.block.take k ++ [_]) ++ pt.block.drop (k + 1)) n ↔ _
      rw [nm_app, nm_app]
      have r1 : Nm [.round y ((ds.take j ++ [d]) ++ ds.drop j)] n → Nm [.round y ds] n ∨ Nm [.deed d] n := fun h => by
        rcases nm_one.mp h with hq | ⟨d', hd, hq⟩
        · exact .inl (nm_one.mpr (.inl hq))
        · rcases mem_put hd with hd | rfl
          · exact .inl (nm_one.mpr (.inr ⟨d', hd, hq⟩))
          · exact .inr (nm_one.mpr (.inl hq))
      have r2 : Nm [.round y ds] n → Nm [.round y ((ds.take j ++ [d]) ++ ds.drop j)] n := fun h => by
        rcases nm_one.mp h with h | ⟨d', hd, h⟩
        · exact nm_one.mpr (.inl h)
        · refine nm_one.mpr (.inr ⟨d', ?_, h⟩)
          have hd : d' ∈ ds := hd
          rw [← List.take_append_drop j ds] at hd
          show d' ∈ (ds.take j ++ [d]) ++ ds.drop j
          rcases List.mem_append.mp hd with hd | hd
          · exact List.mem_append_left _ (List.mem_append_left _ hd)
          · exact List.mem_append_right _ hd
      constructor
      · rintro (h | (h | h) | h)
        · exact .inl h
        · exact .inr (.inl (.inl h))
        · rcases r1 h with h | h
          · exact .inr (.inl (.inr h))
          · exact .inl (old n h)
        · exact .inr (.inr h)
      · rintro (h | (h | h) | h)
        · exact .inl h
        · exact .inr (.inl (.inl h))
        · exact .inr (.inl (.inr (r2 h)))
        · exact .inr (.inr h)
theorem ents_mem {F : V → Str → Prop} {p : Key × V} : ∀ {kvs : List (Key × V)} {ks : List Str}, Ents F kvs ks → p ∈ kvs → ∃ n ∈ ks, p.1 = Sum.inr n ∧ F p.2 n
  | _, _, .cons r t, h => by
    rcases List.mem_cons.mp h with rfl | h
    · exact ⟨_, List.mem_cons_self .., r.1, r.2⟩
    · obtain ⟨n, hn, e⟩ := ents_mem t h
      exact ⟨n, List.mem_cons_of_mem _ hn, e⟩
/-- the same numbers of the same names: != says no -/
theorem nu_ne {H : Hp} {x y : V} {ks ls : List Str} {f g : Str → Nat} {Q : VK} (hx : NuAt H x ks f) (hy : NuAt H y ls g) (nk : ks.Nodup) (nl : ls.Nodup) (e : ∀ n, n ∈ ks ↔ n ∈ ls) (ef : f = g) (q : Q (.bl false) H) : rNeDA x y H Q := by
  subst ef
  obtain ⟨a, kvs, rfl, ha, ea⟩ := hx
  obtain ⟨b, lvs, rfl, hb, eb⟩ := hy
  have l1 := ea.len
  have l2 := eb.len
  have l3 := nodup_le nk fun x hx => (e x).mp hx
  have l4 := nodup_le nl fun x hx => (e x).mpr hx
  refine ⟨a, b, kvs, lvs, rfl, rfl, ha, hb, by omega, fun p hp => ?_, q⟩
  obtain ⟨n, hn, e1, e2⟩ := ents_mem ea hp
  obtain ⟨v, hv, ev⟩ := eb.get ((e n).mp hn)
  rw [e1, hv, ev, e2]
  exact ⟨rfl, rfl⟩
end Fr
/-! ## FrLaw7 -/
set_option Elab.async false
set_option linter.all false
set_option maxRecDepth 100000
set_option maxHeartbeats 4000000
/-! The law. -/
namespace Fr
open PySem PySem.Spec PyProof.Rows L2
section
variable {P : Program} {w : World} {K : PySem.W.Frag} {mg : Str → Option Value} {base : Heap}
theorem sc_law : FnScope ["_law_script", "_law_hand_here", "_law_turn", "_law_parts_here", "_law_program", "_law_place", "_law_shorter", "_law_gaps_here", "_law_step", "_law_own_here", "_law_thing", "_law_longer", "_law_given", "_law_at_here"] ["_law_script"] (defScope (top 72)) := ⟨rfl, rfl, rfl, by decide +kernel, rfl, by decide +kernel, by decide +kernel⟩
def spLaw (K : PySem.W.Frag) : Sp := fun vs H Q _ => ∃ (a : Addr) (ns : List Int), vs = [.ref a] ∧ SqL K H a (ns.map .int) ∧ ns.length ≤ 63 ∧ ∀ H', Q (.bl true) H'
/-- a drawn thing that can be put in at p -/
structure Thing (pt : Pt) (p : Pl) (s : Sm) : Prop where
  fit : Fits p s
  nm : ∀ x ∈ s.nms, x ∈ pt.given ++ pt.told
  im : ∀ d ∈ s.ins, ∀ x ∈ d.nms, x ∈ pt.given ++ pt.told
  ok : s.ok
theorem fn_of_d {x : Str} {i : Nat} {N ps : List Str} {k : Nat} {sp : Sp} {fd : FuncData} (F : FnP K x i (He.ga K x) fd) (S : FnScope N ps (defScope (top i))) (len : ∀ vs H Q E, sp vs H Q E → vs.length = ps.length)
    (body : ∀ (cdv : Value) (A : Around) (outer : List Env) (s : Shared) (H : Hp) (vs : List V) (Q : VK) (E : XK), Room k (A.deeper (envOfC x (defScope (top i)) s.heap.objs.size (He.ga K x) cdv)) → sp vs H Q E →
      ∃ t, PSs (cxOf CX0 P w K mg base N x (defScope (top i)) (He.ga K x) cdv A outer s H E).nox (defBody (top i)) t ∧ t { nx := fun _ H' => Q .non H', rt := Q } (start N vs) H) : FnOk P w K mg base CX0 (k + 1) (He.ga K x) fd ps sp :=
  F.ok S len fun cdv A outer s H vs Q E hr h => by
    obtain ⟨t, h1, h2⟩ := body cdv A outer s H vs Q E hr h
    exact ⟨t, PSs.nox h1, h2⟩
theorem c_law (T : Txt K mg) {fd : FuncData} (F : FnP K "law" 72 (He.ga K "law") fd) : FnOk P w K mg base CX0 9 (He.ga K "law") fd ["_law_script"] (spLaw K) := by
  obtain ⟨fdE, hEq, hEb⟩ := c_eq (P := P) (w := w) (base := base) T
  refine fn_of_d F sc_law (fun vs H Q E h => ?_) (fun cdv A outer s H vs Q E hr h => ?_)
  · obtain ⟨a, ns, rfl, _⟩ := h
    rfl
  · obtain ⟨sa, sns, rfl, hsa, hsl, q⟩ := h
    refine ⟨_, (pss_cons (ps_set (i := 1) sc_law.nd rfl (Or.inl rfl) (pe_f (c__law_hand T) hr (pa_cons (pv 0) pa_nil)))
      (pss_cons (ps_if (PW.pt (pw_and (pt_cmpR op_eq (pe_f (c__law_draw T) hr (pa_cons (pv 1) (pa_cons pe_int pa_nil))) pe_int (nomark _)) (pw_and1 (pt_not (pt_val (pe_f (c__law_large_right T) hr (pa_cons (pv 1) pa_nil))))))) (pss_one (ps_ret pe_bl)) pss_nil)
      (pss_cons (ps_for PassesOwn.never rfl (pi_range1 (by rfl) T.zrange (pa_cons pe_int pa_nil)) (pg_name (i := 2) sc_law.nd rfl (Or.inl rfl)) (pss_cons (ps_set (i := 3) sc_law.nd rfl (Or.inl rfl) (pe_f (c__law_parts T) hr (pa_cons (pv 1) (pa_cons pe_int (pa_cons pe_int (pa_cons pe_int (pa_cons pe_int pa_nil)))))))
      (pss_cons (ps_set (i := 4) sc_law.nd rfl (Or.inl rfl) (pe_f (c__law_made T) hr (pa_cons (pv 3) pa_nil)))
      (pss_cons (ps_for PassesOwn.never rfl (pi_list (pe_f (c__law_places T) hr (pa_cons (pv 3) pa_nil))) (pg_name (i := 5) sc_law.nd rfl (Or.inl rfl)) (pss_cons (ps_set (i := 6) sc_law.nd rfl (Or.inl rfl) (pe_f (c_left_out T) hr (pa_cons (pv 4) (pa_cons (pv 5) pa_nil))))
      (pss_cons (ps_if (pt_not (pt_val (pe_f (c__law_holds T) hr (pa_cons (pv 6) (pa_cons (pe_f (c__law_without T) hr (pa_cons (pv 3) (pa_cons (pv 5) pa_nil))) pa_nil))))) (pss_one (ps_ret pe_bl)) pss_nil)
      (pss_one (ps_if (pt_cmpR (op_neOwn (E := E0) hEq (hr.mono (by decide)) T.meq.fn hEb pass0) (pe_f (c_put_in T) hr (pa_cons (pv 6) (pa_cons (pv 5) (pa_cons (pe_f (c__law_at T) hr (pa_cons (pv 3) (pa_cons (pv 5) pa_nil))) pa_nil)))) (pv 4) (nomark _)) (pss_one (ps_ret pe_bl)) pss_nil)))))
      (pss_cons (ps_set (i := 7) sc_law.nd rfl (Or.inl rfl) (pe_f (c__law_gaps T) hr (pa_cons (pv 3) pa_nil)))
      (pss_cons (ps_for PassesOwn.never rfl (pi_range1 (by rfl) T.zrange (pa_cons pe_int pa_nil)) (pg_name (i := 8) sc_law.nd rfl (Or.inl rfl)) (pss_cons (ps_set (i := 5) sc_law.nd rfl (Or.inl rfl) (pe_f (c__law_some T) hr (pa_cons (pv 1) (pa_cons (pv 7) pa_nil))))
      (pss_cons (ps_set (i := 9) sc_law.nd rfl (Or.inl rfl) (pe_callTy call_list_of (by rfl) T.zlist bo_list (pa_cons (pe_op op_catF (pe_ix ix_tup (pv 3) pe_int (fun _ _ => rfl)) (pe_ix ix_tup (pv 3) pe_int (fun _ _ => rfl))) pa_nil)))
      (pss_cons (ps_set (i := 10) sc_law.nd rfl (Or.inl rfl) (pe_ifExp (pt_cmpR op_eq (pe_callB call_len_seq (by rfl) T.zlen bo_len (pa_cons (pv 5) pa_nil)) pe_int (nomark _)) (pe_f (c__law_statement T) hr (pa_cons (pv 1) (pa_cons (pv 9) (pa_cons pe_int pa_nil)))) (pe_f (c__law_deed T) hr (pa_cons (pv 1) (pa_cons (pv 9) pa_nil)))))
      (pss_cons (ps_set (i := 11) sc_law.nd rfl (Or.inl rfl) (pe_f (c_put_in T) hr (pa_cons (pv 4) (pa_cons (pv 5) (pa_cons (pv 10) pa_nil)))))
      (pss_cons (ps_if (PW.pt (pw_or (pt_not (pt_val (pe_f (c__law_holds T) hr (pa_cons (pv 11) (pa_cons (pe_f (c__law_with T) hr (pa_cons (pv 3) (pa_cons (pv 5) (pa_cons (pv 10) pa_nil)))) pa_nil))))) (pw_or1 (pt_cmpR (op_neOwn (E := E0) hEq (hr.mono (by decide)) T.meq.fn hEb pass0) (pe_f (c_left_out T) hr (pa_cons (pv 11) (pa_cons (pv 5) pa_nil))) (pv 4) (nomark _))))) (pss_one (ps_ret pe_bl)) pss_nil)
      (pss_one (ps_if (PW.pt (pw_and (pt_cmpR op_eq (pv 8) pe_int (nomark _)) (pw_and1 (pt_cmpR op_lt (pe_ix ix_tup (pv 5) pe_int (fun _ _ => rfl)) (pe_callB call_len_seq (by rfl) T.zlen bo_len (pa_cons (pe_ix ix_tup (pv 3) pe_int (fun _ _ => rfl)) pa_nil)) (nomark _))))) (pss_cons (ps_set (i := 12) sc_law.nd rfl (Or.inl rfl) (pe_f (c__law_input T) hr (pa_cons (pv 1) (pa_cons (pv 3) (pa_cons pe_int pa_nil)))))
      (pss_cons (ps_set (i := 13) sc_law.nd rfl (Or.inl rfl) (pe_f (c_moment_of T) hr (pa_cons (pv 4) (pa_cons (pv 12) (pa_cons (pe_slice sl_B (pv 5) po_none (po_some pe_int)) (pa_cons pe_int pa_nil))))))
      (pss_one (ps_if (pt_cmpR (op_ne_dictA hr.units0) (pe_f (c_numbers_at T) hr (pa_cons (pv 4) (pa_cons (pv 12) (pa_cons (pv 13) pa_nil)))) (pe_f (c_numbers_at T) hr (pa_cons (pv 11) (pa_cons (pv 12) (pa_cons (pe_f (c_moment_of T) hr (pa_cons (pv 11) (pa_cons (pv 12) (pa_cons (pe_slice sl_B (pv 5) po_none (po_some pe_int)) (pa_cons pe_int pa_nil))))) pa_nil)))) (nomark _)) (pss_one (ps_ret pe_bl)) pss_nil)))) pss_nil))))))))
      (pss_one (ps_if (pt_not (pt_val (pe_f (c__law_holds T) hr (pa_cons (pv 4) (pa_cons (pv 3) pa_nil))))) (pss_one (ps_ret pe_bl)) pss_nil))))))))
      (pss_one (ps_ret pe_bl))))), ?_⟩
    refine ⟨_, rfl, sa, sns, rfl, hsa, hsl, fun h H1 s1 hh => ?_⟩
    dsimp only [gName]
    refine cut_seq (fun σ H2 => ∃ v2 v3 v4 v5 v6 v7 v8 v9 v10 v11 v12 v13, σ = [some (.ref sa), some (.ref h), v2, v3, v4, v5, v6, v7, v8, v9, v10, v11, v12, v13] ∧ Hand H2 h) ?_ ?_
    · rintro σ H2 ⟨v2, v3, v4, v5, v6, v7, v8, v9, v10, v11, v12, v13, rfl, hh⟩
      refine ⟨2, rfl, by decide, by decide, for_it walk_range (fun i σ H3 => ∃ v2 v3 v4 v5 v6 v7 v8 v9 v10 v11 v12 v13, σ = [some (.ref sa), some (.ref h), v2, v3, v4, v5, v6, v7, v8, v9, v10, v11, v12, v13] ∧ Hand H3 h) ⟨_, _, _, _, _, _, _, _, _, _, _, _, rfl, hh⟩ (fun _ _ _ _ _ => trivial) ?_ ?_⟩
      · rintro i v σ H4 H3 hi ⟨v2, v3, v4, v5, v6, v7, v8, v9, v10, v11, v12, v13, rfl, hh⟩ ⟨rfl, rfl⟩
        refine ⟨_, rfl, h, 5, 7, 4, rfl, hh, by decide, by decide, by decide, by decide, fun pt pv H4 sm hp g4 => ?_⟩
        have ok := sm.ok
        have hb60 : pt.block.length ≤ 60 := Nat.le_trans sm.bl (by decide)
        have hf12 : ∀ s ∈ pt.block, s.ins.length ≤ 12 := fun s hs => Nat.le_trans (sm.fw s hs) (by decide)
        have hgl := ok.gl
        have htl := ok.t4
        have ht1 := ok.t1
        refine ⟨_, rfl, pv, pt, rfl, hp, ok, fun x H5 s5 hx => ?_⟩
        replace hp := hp.tk s5.tk
        have hh5 := g4.b.same s5
        clear g4 s5
        dsimp only [gName]
        refine cut_seq (fun σ H6 => ∃ v2 v5 v6 v7 v8 v9 v10 v11 v12 v13, σ = [some (.ref sa), some (.ref h), v2, some pv, some x, v5, v6, v7, v8, v9, v10, v11, v12, v13] ∧ Go h H5 H6) ?_ ?_
        · rintro σ H6 ⟨v2, v5, v6, v7, v8, v9, v10, v11, v12, v13, rfl, g6⟩
          replace hp := hp.tk g6.tk
          replace hx := hx.go g6
          refine ⟨_, rfl, pv, pt, rfl, hp, ok, fun r us H7 nr s7 hr7 l1 l2 pl => ?_⟩
          have hrh : r ≠ h := g6.b.ne nr
          have hh7 := g6.b.same s7
          replace hp := hp.tk s7.tk
          replace hx := hx.same s7
          clear g6 s7 nr hh5
          dsimp only [gName]
          refine cut_seq (fun σ H8 => ∃ v2 v5 v6 v8 v9 v10 v11 v12 v13, σ = [some (.ref sa), some (.ref h), v2, some pv, some x, v5, v6, some (.ref r), v8, v9, v10, v11, v12, v13] ∧ Go h H7 H8) ?_ ?_
          · rintro σ H8 ⟨v2, v5, v6, v8, v9, v10, v11, v12, v13, rfl, g8⟩
            refine ⟨_, rfl, _, rfl, x, pv, pt, rfl, ⟨_, pcP T, hx.go g8⟩, hp.tk g8.tk, ok, fun H9 s9 => ⟨true, rfl, ?_⟩⟩
            exact ⟨_, _, _, _, _, _, _, _, _, _, _, _, rfl, g8.b.same s9⟩
          · intro N next
            refine ⟨6, rfl, by decide, by decide, for_it walk_range (fun i σ H8 => ∃ v2 v5 v6 v8 v9 v10 v11 v12 v13, σ = [some (.ref sa), some (.ref h), v2, some pv, some x, v5, v6, some (.ref r), v8, v9, v10, v11, v12, v13] ∧ Go h H7 H8) ⟨_, _, _, _, _, _, _, _, _, rfl, .refl hh7⟩ (fun _ _ _ _ _ => trivial) ?_ ?_⟩
            · rintro stp v σ H9 H8 hst ⟨v2, v5, v6, v8, v9, v10, v11, v12, v13, rfl, g8⟩ ⟨rfl, rfl⟩
              replace hp := hp.tk g8.tk
              replace hx := hx.go g8
              have hr8 := g8.lst hr7 hrh
              refine ⟨_, rfl, _, rfl, h, r, us, rfl, g8.b, hr8, hrh, l1, by omega, fun u H9 hu g9 => ?_⟩
              obtain ⟨p, hpl, hgap⟩ := pl u hu
              replace hpl := (hpl.tk g8.tk).tk g9.tk
              replace hp := hp.tk g9.tk
              replace hx := hx.go g9
              replace g8 := g8.trans g9
              clear g9 hr8
              obtain ⟨pa, gv, tv, bv, rfl, hpa, ⟨ga, rfl, hga⟩, ⟨ta, rfl, hta⟩, hbv⟩ := hp
              have hp : PtAt H9 (.ref pa) pt := ⟨pa, _, _, bv, rfl, hpa, ⟨ga, rfl, hga⟩, ⟨ta, rfl, hta⟩, hbv⟩
              refine ⟨_, rfl, pa, _, 0, .ref ga, rfl, rfl, SqT.of hpa, rfl, _, rfl, pa, _, 1, .ref ta, rfl, rfl, SqT.of hpa, rfl, ga, ta, _, _, rfl, rfl, hga, hta, lineS (by rw [List.length_map, List.length_map]; omega), fun q1 H10 s10 hq1 => ?_⟩
              rw [← List.map_append] at hq1
              refine ⟨q1, _, rfl, .inr (SqT.of hq1), fun l nl => ?_⟩
              have s11 := s10.trans (same_upd (o := .lst ((pt.given ++ pt.told).map V.str)) nl)
              have hl : (upd H10 l (.lst ((pt.given ++ pt.told).map V.str))) l = some (.lst ((pt.given ++ pt.told).map V.str)) := upd_same
              generalize (upd H10 l (.lst ((pt.given ++ pt.told).map V.str))) = H11 at *
              replace hp := hp.tk s11.tk
              replace hx := hx.same s11
              replace hpl := hpl.tk s11.tk
              replace g8 := g8.then s11
              clear hq1 s10 nl s11 hpa hga hta hbv
              have nn : pt.given ++ pt.told ≠ [] := fun z => by
                have := congrArg List.length z
                rw [List.length_append] at this
                have : pt.given.length + pt.told.length = 0 := this
                omega
              have nl : (pt.given ++ pt.told).length ≤ 100 := by
                rw [List.length_append]
                omega
              have inm : ∀ x ∈ pt.given ++ pt.told, x ∈ menu := fun x hx => (List.mem_append.mp hx).elim (ok.gm x) (ok.tm x)
              dsimp only [gName]
              refine cut_seq (fun σ H12 => ∃ (st : Sm) (z : V), (∃ v6 v11 v12 v13, σ = [some (.ref sa), some (.ref h), v2, some (.ref pa), some x, some u, v6, some (.ref r), some (.int (0 + (stp : Int))), some (.ref l), some z, v11, v12, v13]) ∧ Go h H11 H12 ∧ SmAt H12 z st ∧ Thing pt p st) ?_ ?_
              · rintro σ H12 ⟨st, z, ⟨v6, v11, v12, v13, rfl⟩, g12, hz, th⟩
                replace hp := hp.tk g12.tk
                replace hx := hx.go g12
                replace hpl := hpl.tk g12.tk
                replace g8 := g8.trans g12
                clear g12 hl
                have fit := th.fit
                have sok := th.ok
                refine ⟨_, rfl, _, rfl, _, rfl, x, u, z, pt, p, st, rfl, ⟨_, pcP T, hx⟩, hpl, hz, ok, sok, hgap, fit, fun y H13 s13 hy => ?_⟩
                have ok2 := put_ok ok hb60 hf12 sok hgap fit
                have hc := put_cut hgap fit
                replace hz := SmAt.tk s13.tk hz
                replace hp := hp.tk s13.tk
                replace hx := hx.same s13
                replace hpl := hpl.tk s13.tk
                replace g8 := g8.then s13
                clear s13
                refine ⟨_, rfl, _, rfl, _, rfl, _, rfl, .ref pa, u, z, pt, p, st, rfl, hp, hpl, hz, ok, hgap, fit, fun w2 H14 s14 hw2 => ?_⟩
                refine ⟨y, w2, _, rfl, ⟨_, pcR T, hy.same s14⟩, hw2, ok2, fun H15 s15 => ⟨true, rfl, ?_⟩⟩
                have s1415 := s14.trans s15
                refine ⟨_, rfl, _, rfl, y, u, _, p, rfl, ⟨_, pcR T, hy.same s1415⟩, hpl.tk s1415.tk, ok2, hc.1, fun z2 H16 s16 hz2 => ?_⟩
                rw [hc.2] at hz2
                refine ⟨_, rfl, ne_read T hz2 (hx.same (s1415.trans s16)) fun H17 s17 => ⟨_, rfl, ?_⟩⟩
                have s1317 := (s1415.trans s16).trans s17
                replace hy := hy.same s1317
                replace hp := hp.tk s1317.tk
                replace hx := hx.same s1317
                replace hpl := hpl.tk s1317.tk
                replace g8 := g8.then s1317
                clear s1317 s17 hz2 s16 s1415 s15 s14 hw2 hz
                -- the runs
                refine ⟨_, rfl, rfl, _, rfl, ?_⟩
                by_cases h0 : stp = 0
                · subst h0
                  rw [show decide (V.int (0 + ((0 : Nat) : Int)) = V.int 0) = true from decide_eq_true rfl]
                  obtain ⟨e1, e2, e3, e4⟩ := put_same hgap fit th.nm th.im
                  generalize pt.put p st = pt2 at *
                  obtain ⟨k, j⟩ := p
                  replace e2 : pt2.block.take k = pt.block.take k := e2
                  obtain ⟨pc, rfl, hpc⟩ := hpl
                  obtain ⟨pa', gv, tv, bv, ea, hpa, hga, hta, hbv⟩ := hp
                  cases ea
                  have hp : PtAt _ (.ref pa) pt := ⟨pa, _, _, bv, rfl, hpa, hga, hta, hbv⟩
                  obtain ⟨bb, bs, rfl, hbb, pr, hbl⟩ := hbv.len
                  refine ⟨_, rfl, pc, _, 0, .int (k : Int), rfl, rfl, SqT.of hpc, atI_nat (j := 0) rfl, _, rfl, pa, _, 2, .ref bb, rfl, rfl, SqT.of hpa, rfl, bb, bs, rfl, .inr (SqT.of hbb), _, _, rfl, rfl, _, rfl, ?_⟩
                  by_cases hk : (k : Int) < (bs.length : Int)
                  · rw [decide_eq_true hk]
                    have hk : k < pt.block.length := by omega
                    refine ⟨_, rfl, _, rfl, h, _, pt, rfl, g8.b, hp, ok, fun gns gu H18 hgn _ hgv g18 => ?_⟩
                    replace hx := hx.go g18
                    replace hy := hy.go g18
                    replace hpc := g18.tk _ _ hpc
                    replace g8 := g8.trans g18
                    clear hpa hga hta hbv hp hbb pr g18
                    refine ⟨_, rfl, _, rfl, _, rfl, 1, rfl, pc, _, 1, rfl, rfl, rfl, hpc, fun pp H19 s19 hpp => ?_⟩
                    refine ⟨_, _, _, pt, gns, k, rfl, ⟨_, pcP T, hx.same s19⟩, ok, hgv.tk s19.tk, hgn, ⟨pp, rfl, hpp⟩, hk, fun H20 s20 => ?_⟩
                    have s1920 := s19.trans s20
                    refine ⟨_, rfl, _, rfl, _, rfl, _, _, pt, gns, k, rfl, ⟨_, pcP T, hx.same s1920⟩, ok, hgv.tk s1920.tk, hgn, Nat.le_of_lt hk, fun ks1 w1 H21 nd1 hk1 s21 hw1 => ?_⟩
                    have s1921 := s1920.trans s21
                    refine ⟨_, rfl, _, rfl, _, rfl, _, rfl, _, rfl, 1, rfl, pc, _, 1, rfl, rfl, rfl, s1921 _ _ hpc, fun pp2 H22 s22 hpp2 => ?_⟩
                    have s1922 := s1921.trans s22
                    have hgn2 : gns.length = pt2.given.length := by rw [e1]; exact hgn
                    refine ⟨_, _, _, pt2, gns, k, rfl, ⟨_, pcR T, hy.same s1922⟩, ok2, hgv.tk s1922.tk, hgn2, ⟨pp2, rfl, hpp2⟩, Nat.lt_of_lt_of_le hk e3, fun H23 s23 => ?_⟩
                    have s1923 := s1922.trans s23
                    refine ⟨_, _, pt2, gns, k, rfl, ⟨_, pcR T, hy.same s1923⟩, ok2, hgv.tk s1923.tk, hgn2, Nat.le_trans (Nat.le_of_lt hk) e3, fun ks2 w2 H24 nd2 hk2 s24 hw2 => ?_⟩
                    have ef : (runF (pt.f0 gns) (pt.block.take k)).2 = (runF (pt2.f0 gns) (pt2.block.take k)).2 := by
                      unfold Pt.f0
                      rw [e1, e2]
                    refine nu_ne (hw1.same ((s22.trans s23).trans s24)) hw2 nd1 nd2 (fun n => (hk1 n).trans ((e4 n).symm.trans (hk2 n).symm)) ef ⟨_, rfl, ?_⟩
                    exact ⟨_, _, _, _, _, _, _, _, _, rfl, g8.then (s1923.trans s24)⟩
                  · rw [decide_eq_false hk]
                    exact ⟨_, _, _, _, _, _, _, _, _, rfl, g8⟩
                · rw [decide_eq_false (fun z => h0 (by injection z with z; omega))]
                  exact ⟨_, _, _, _, _, _, _, _, _, rfl, g8⟩
              · intro N2 next2
                have hh11 := g8.b
                obtain ⟨k, j⟩ := p
                obtain ⟨pc, rfl, hpc⟩ := hpl
                cases j with
                | none =>
                  refine ⟨_, rfl, pc, _, rfl, .inr (SqT.of hpc), rfl, true, rfl, ?_⟩
                  refine ⟨_, rfl, _, rfl, h, l, pt.given ++ pt.told, 3, rfl, hh11, hl, nn, nl, by decide, fun st z H12 on hz g12 => ?_⟩
                  exact next2 _ _ ⟨st, z, ⟨_, _, _, _, rfl⟩, g12, hz, (fun _ z => nomatch z), on.nm, on.im, fun x hx => inm x (on.nm x hx), fun d hd x hx => inm x (on.im d hd x hx), Nat.le_trans on.few (by decide)⟩
                | some j =>
                  refine ⟨_, rfl, pc, _, rfl, .inr (SqT.of hpc), rfl, false, rfl, ?_⟩
                  refine ⟨_, rfl, _, rfl, h, l, pt.given ++ pt.told, rfl, hh11, hl, nn, nl, fun d z H12 hd hz g12 => ?_⟩
                  exact next2 _ _ ⟨.deed d, z, ⟨_, _, _, _, rfl⟩, g12, hz, (fun _ _ => ⟨d, rfl⟩), hd, (fun _ z => nomatch z), fun x hx => inm x (hd x hx), (fun _ z => nomatch z), Nat.zero_le _⟩
            · rintro σ H8 ⟨v2, v5, v6, v8, v9, v10, v11, v12, v13, rfl, g8⟩
              exact next _ _ ⟨_, _, _, _, _, _, _, _, _, rfl, g8⟩
        · intro N next
          refine ⟨_, rfl, pv, pt, rfl, hp, ok, fun r us H6 nr s6 hr6 l2 pl => ?_⟩
          have nrh : r ≠ h := hh5.ne nr
          replace hp := hp.tk s6.tk
          replace hx := hx.same s6
          refine ⟨r, rfl, ⟨_, SqL.of hr6⟩, for_it walk_list (fun i σ H7 => ∃ v2 v5 v6 v7 v8 v9 v10 v11 v12 v13, σ = [some (.ref sa), some (.ref h), v2, some pv, some x, v5, v6, v7, v8, v9, v10, v11, v12, v13] ∧ Same H6 H7) ⟨_, _, _, _, _, _, _, _, _, _, rfl, .refl _⟩ (fun i σ H7 _ ⟨_, _, _, _, _, _, _, _, _, _, _, s7⟩ => SqL.of (s7 _ _ hr6)) ?_ ?_⟩
          · rintro i u σ H8 H7 hi ⟨v2, v5, v6, v7, v8, v9, v10, v11, v12, v13, rfl, s7⟩ ⟨rfl, hu⟩
            obtain ⟨p, hpl, hhas⟩ := pl u (List.mem_of_getElem? hu)
            replace hp := hp.tk s7.tk
            replace hx := hx.same s7
            replace hpl := hpl.tk s7.tk
            refine ⟨_, rfl, _, rfl, x, u, pt, p, rfl, ⟨_, pcP T, hx⟩, hpl, ok, hhas, fun y H9 s9 hy => ?_⟩
            have ok2 := cut_ok ok hhas
            refine ⟨_, rfl, _, rfl, _, rfl, pv, u, pt, p, rfl, hp.tk s9.tk, hpl.tk s9.tk, ok, hhas, fun w2 H10 s10 hw2 => ?_⟩
            refine ⟨y, w2, _, rfl, ⟨_, pcR T, hy.same s10⟩, hw2, ok2, fun H11 s11 => ⟨true, rfl, ?_⟩⟩
            have s1011 := s10.trans s11
            have s911 := s9.trans s1011
            refine ⟨_, rfl, _, rfl, _, rfl, _, rfl, pv, u, pt, p, rfl, hp.tk s911.tk, hpl.tk s911.tk, hhas, fun st z get hz => ?_⟩
            obtain ⟨fit, gap, back⟩ := cut_put hhas get
            refine ⟨y, u, z, _, p, st, rfl, ⟨_, pcR T, hy.same s1011⟩, hpl.tk s911.tk, hz, ok2, get_ok ok get, gap, fit, fun z2 H13 s13 hz2 => ?_⟩
            rw [back] at hz2
            refine ⟨_, rfl, ne_read T hz2 (hx.same (s911.trans s13)) fun H14 s14 => ⟨_, rfl, ?_⟩⟩
            exact ⟨_, _, _, _, _, _, _, _, _, _, rfl, s7.trans ((s911.trans s13).trans s14)⟩
          · rintro σ H7 ⟨v2, v5, v6, v7, v8, v9, v10, v11, v12, v13, rfl, s7⟩
            exact next _ _ ⟨_, _, _, _, _, _, _, _, _, _, rfl, .same hh5 (s6.trans s7)⟩
      · rintro σ H3 ⟨v2, v3, v4, v5, v6, v7, v8, v9, v10, v11, v12, v13, rfl, hh⟩
        exact q H3
    · intro N next
      refine ⟨_, rfl, h, 10, rfl, hh, by decide, by decide, fun k H2 hk g => ?_⟩
      refine ⟨rfl, _, rfl, ?_⟩
      by_cases k0 : k = 0
      · subst k0
        rw [zero0]
        refine ⟨_, rfl, h, rfl, g.b, fun H3 g3 => ⟨true, rfl, ?_⟩⟩
        exact next _ _ ⟨_, _, _, _, _, _, _, _, _, _, _, _, rfl, g3.b⟩
      · rw [decide_eq_false (fun z => k0 (by injection z with z; omega))]
        exact next _ _ ⟨_, _, _, _, _, _, _, _, _, _, _, _, rfl, g.b⟩
end
end Fr
/-! ## FrEnd -/
set_option Elab.async false
set_option linter.all false
set_option maxRecDepth 100000
set_option maxHeartbeats 0
/-! The end: the law holds. -/
namespace Fr
open PySem PySem.Spec PyProof.Rows L2
theorem says_law {P : Program} {w : World} {K : PySem.W.Frag} {h : Heap} {mg : Str → Option Value} {f : Addr} (X : K.In h) (G : h.Ns mainGlobals mg) (hf : mg ("law" : Str) = some (.ref f)) (c : He.SaysD fa fn K) (e : ex K = true) :
    ∃ fd : FuncData, (∀ (s : Shared) (v : Value), BindsTo s fd ⟨[v], []⟩ [("_law_script", v)]) ∧ ∀ base : Heap, K.In base → base.Ns mainGlobals mg → L2.FnOk P w K mg base L2.CX0 9 f fd ["_law_script"] (spLaw K) := by
  have T := txt_of X G c e
  obtain ⟨fd, F⟩ := T.flaw
  have hg := hf.symm.trans T.glaw
  cases hg
  have b := L2.FunD.bindsA (ps := ["_law_script"]) F fun _ _ _ _ _ _ us hl => match us, hl with | [_], _ => rfl
  refine ⟨fd, fun s v => b s [v] rfl, fun base _ _ => ?_⟩
  exact c_law T F
end Fr
open PySem PySem.W PySem.Calls PyProof.Rows
theorem PySem.Challenge.cw_flatrounds_k04_whole_statements_left_out_holds : PySem.Challenge.rw_flatrounds_k04_whole_statements_left_out.Holds := by
  w_on; o_law
  refine HandSHeadRun.head_any (r := Fr.R) (q := view (Fr.R).prog [72]) (H := Fr.hk) (ob := Fr.ob) (M := 4000) (loose := Fr.loose) (d := HandSHeadRun.topDef (Fr.R).prog 72) (kwd := []) Fr.ob_eq
    (by kernel_rfl) (fun s => by kernel_rfl) Fr.run (by kernel_rfl) (by kernel_rfl) (by kernel_rfl) (by rfl) (by first | assumption | decide +kernel) (by decide +kernel) ⟨rfl, rfl, rfl, rfl, rfl, by decide +kernel⟩ ?hw ?hc
  case hw => w_witness2
  case hc =>
    refine L2.walk_ofE (l := PySem.Challenge.rw_flatrounds_k04_whole_statements_left_out) (n := 63) (k := 9) (x := "_law_script") (CX := L2.CX0) rfl (by decide) (by kernel_rfl) ⟨rfl, by decide, by decide⟩ ?F (fun _ _ _ _ z => z)
    intro w mg fa h Y G hmg0
    obtain ⟨K, KX, c, e⟩ := Y
    have hmg : mg ("law" : PySem.Str) = some (.ref fa) := by
      have e2 : (HandSHeadRun.topDef (Fr.R).prog 72).name = ("law" : PySem.Str) := by kernel_rfl
      rw [← e2]
      exact hmg0
    obtain ⟨fd, hb, hF⟩ := Fr.says_law (P := (PySem.Challenge.rw_flatrounds_k04_whole_statements_left_out).prog) (w := w) KX G hmg c e
    exact ⟨K, fd, Fr.spLaw K, KX, hb, fun H a ns hl _ hS => ⟨a, ns, rfl, hS, hl, fun _ => rfl⟩, hF⟩
