import PyProof.Rows.All
import Wide.All
import OpenK.AllK
import Wide.FinOn
import KE.KStateDown
import Lean
import HandS.ForMost
import HandS.Defaults
import HandS.Property
import HandS.Head0
import HandS.Head1
import HandS.Head2
import HandS.HeadEnd
import HandS.HeadHook1
import HandS.HeadHook2
import HandS.HeadHook3
import HandS.HeadHook4
import PySem.Challenge.RW_twowills_k42_whole_values
import HandS.OwnEq
import HandS.ListEq
import HandS.DictComp
import HandS.Zip
import HandS.TupAny
import KE.KDictKeyed
import KE.SortData
import KE.KDictPairs
import KE.GoesEnumKw
import HandS.SlotsOwn
import PyProof.Rows.Range3
import PyProof.CallStr
import KE.GoesMore
import KE.GoesEnum
import KE.SortCalls
import KE.LtData
import KE.LtSeq
import HandS.Evl
import HandS.Flow
import HandS.Style
import HandS.Codes
import HandS.TupMul
import HandS.Deep
import HandS.IsInst
import HandS.Conv
import HandS.FStr
import PyProof.PvWalk
import HandS.Text
import HandS.RaiseMore
import PyProof.StrLaws
import KE.OsArith
/-! TwFacts -/
section
set_option Elab.async false
set_option linter.all false
set_option maxRecDepth 100000
set_option maxHeartbeats 0
namespace Tw
open PySem PySem.Spec PyProof.Rows L2

def top (i : Nat) : Stmt := PySem.Challenge.pw_twowills_k42_whole_values.main.body.getD i (.Pass ⟨0, 0, 0, 0⟩)
abbrev sis_integer : Stmt := top 21
abbrev ais_integer : Addr := 208
abbrev sneed_number : Stmt := top 22
abbrev aneed_number : Addr := 215
abbrev sare_states : Stmt := top 23
abbrev aare_states : Addr := 220
abbrev smask_of : Stmt := top 24
abbrev amask_of : Addr := 225
abbrev sset_of : Stmt := top 25
abbrev aset_of : Addr := 230
abbrev supset_of : Stmt := top 26
abbrev aupset_of : Addr := 235
abbrev sis_least : Stmt := top 27
abbrev ais_least : Addr := 240
abbrev sleast_of : Stmt := top 28
abbrev aleast_of : Addr := 245
abbrev sare_sets : Stmt := top 29
abbrev aare_sets : Addr := 250
abbrev sall_sets : Stmt := top 32
abbrev aall_sets : Addr := 269
abbrev sneed_contract : Stmt := top 36
abbrev aneed_contract : Addr := 489
abbrev sneed_state_of : Stmt := top 37
abbrev aneed_state_of : Addr := 496
abbrev sneed_alike : Stmt := top 38
abbrev aneed_alike : Addr := 503
abbrev sis_within : Stmt := top 44
abbrev ais_within : Addr := 541
abbrev snotation_of : Stmt := top 56
abbrev anotation_of : Addr := 609
abbrev sis_around : Stmt := top 65
abbrev ais_around : Addr := 622
abbrev sis_table : Stmt := top 66
abbrev ais_table : Addr := 627
abbrev sis_form : Stmt := top 67
abbrev ais_form : Addr := 634
abbrev stexts_in : Stmt := top 68
abbrev atexts_in : Addr := 641
abbrev swrong_place : Stmt := top 69
abbrev awrong_place : Addr := 648
abbrev sfirst_wrong : Stmt := top 70
abbrev afirst_wrong : Addr := 655
abbrev splaces_from : Stmt := top 71
abbrev aplaces_from : Addr := 662
abbrev splaces_of : Stmt := top 72
abbrev aplaces_of : Addr := 669
abbrev sis_small : Stmt := top 73
abbrev ais_small : Addr := 674
abbrev sis_system : Stmt := top 74
abbrev ais_system : Addr := 681
abbrev sare_parts_of : Stmt := top 75
abbrev aare_parts_of : Addr := 686
abbrev sneed_system : Stmt := top 76
abbrev aneed_system : Addr := 693
abbrev sneed_parts : Stmt := top 77
abbrev aneed_parts : Addr := 700
abbrev sneed_name : Stmt := top 78
abbrev aneed_name : Addr := 707
abbrev sneed_word : Stmt := top 79
abbrev aneed_word : Addr := 714
abbrev sflat_table : Stmt := top 81
abbrev aflat_table : Addr := 719
abbrev sgo_table : Stmt := top 82
abbrev ago_table : Addr := 724
abbrev scontract_table : Stmt := top 83
abbrev acontract_table : Addr := 729
abbrev sbehind : Stmt := top 84
abbrev abehind : Addr := 734
abbrev sjoint_table : Stmt := top 85
abbrev ajoint_table : Addr := 739
abbrev sraw_rounds : Stmt := top 87
abbrev araw_rounds : Addr := 775
abbrev scontract_of : Stmt := top 88
abbrev acontract_of : Addr := 780
abbrev sraw_value : Stmt := top 89
abbrev araw_value : Addr := 787
abbrev svalue_of : Stmt := top 90
abbrev avalue_of : Addr := 795
abbrev stext_of_set : Stmt := top 92
abbrev atext_of_set : Addr := 800
abbrev stext_of_family : Stmt := top 93
abbrev atext_of_family : Addr := 805
abbrev swritten : Stmt := top 94
abbrev awritten : Addr := 812
abbrev sL_spread : Stmt := top 96
abbrev aL_spread : Addr := 819
abbrev sL_open : Stmt := top 97
abbrev aL_open : Addr := 826
abbrev sL_take : Stmt := top 98
abbrev aL_take : Addr := 833
abbrev sL_v_pick : Stmt := top 99
abbrev aL_v_pick : Addr := 840
abbrev sL_v_sets : Stmt := top 100
abbrev aL_v_sets : Addr := 845
abbrev sL_v_is_in : Stmt := top 101
abbrev aL_v_is_in : Addr := 850
abbrev sL_v_family : Stmt := top 102
abbrev aL_v_family : Addr := 855
abbrev sL_v_pairs : Stmt := top 103
abbrev aL_v_pairs : Addr := 860
abbrev sL_v_some_sets : Stmt := top 104
abbrev aL_v_some_sets : Addr := 867
abbrev sL_v_part_rows : Stmt := top 105
abbrev aL_v_part_rows : Addr := 872
abbrev sL_v_leaf : Stmt := top 106
abbrev aL_v_leaf : Addr := 877
abbrev sL_v_text : Stmt := top 107
abbrev aL_v_text : Addr := 882
abbrev sL_v_system : Stmt := top 108
abbrev aL_v_system : Addr := 889
abbrev sL_v_texts_in : Stmt := top 109
abbrev aL_v_texts_in : Addr := 896
abbrev sL_v_text_at : Stmt := top 110
abbrev aL_v_text_at : Addr := 903
abbrev sL_v_truths : Stmt := top 111
abbrev aL_v_truths : Addr := 908
abbrev sL_v_all : Stmt := top 112
abbrev aL_v_all : Addr := 913
abbrev sL_v_then : Stmt := top 113
abbrev aL_v_then : Addr := 918
abbrev sL_v_round : Stmt := top 114
abbrev aL_v_round : Addr := 923
abbrev sL_v_rounds : Stmt := top 115
abbrev aL_v_rounds : Addr := 928
abbrev sL_v_contract : Stmt := top 116
abbrev aL_v_contract : Addr := 933
abbrev sL_v_places : Stmt := top 117
abbrev aL_v_places : Addr := 938
abbrev sL_v_put : Stmt := top 118
abbrev aL_v_put : Addr := 945
abbrev sL_v_values : Stmt := top 119
abbrev aL_v_values : Addr := 950
abbrev sL_v_as_had : Stmt := top 120
abbrev aL_v_as_had : Addr := 955
abbrev sL_v_replaced_right : Stmt := top 121
abbrev aL_v_replaced_right : Addr := 962
abbrev sL_v_more_right : Stmt := top 122
abbrev aL_v_more_right : Addr := 967
abbrev slaw : Stmt := top 123
abbrev alaw : Addr := 972
abbrev aContract : Addr := 478
abbrev sContract___init__ : Stmt := inClass (top 35) 0
abbrev aContract___init__ : Addr := 281
abbrev sContract___getitem__ : Stmt := inClass (top 35) 6
abbrev aContract___getitem__ : Addr := 330
abbrev sContract___contains__ : Stmt := inClass (top 35) 9
abbrev aContract___contains__ : Addr := 349
abbrev sContract___str__ : Stmt := inClass (top 35) 12
abbrev aContract___str__ : Addr := 370
abbrev sContract___eq__ : Stmt := inClass (top 35) 13
abbrev aContract___eq__ : Addr := 377
abbrev sContract_within : Stmt := inClass (top 35) 14
abbrev aContract_within : Addr := 384
abbrev sContract_states : Stmt := inClass (top 35) 4
abbrev aContract_states : Addr := 314
abbrev sContract_ends : Stmt := inClass (top 35) 5
abbrev aContract_ends : Addr := 322
abbrev aTables : Addr := 766
abbrev sTables___init__ : Stmt := inClass (top 86) 0
abbrev aTables___init__ : Addr := 753
abbrev sTables_lay : Stmt := inClass (top 86) 1
abbrev aTables_lay : Addr := 758
abbrev sTables_roots : Stmt := inClass (top 86) 2
abbrev aTables_roots : Addr := 763
/-- a def of the text, where it stands -/
structure Df where
  a : Addr
  name : PySem.Str
  qual : PySem.Str
  st : Stmt
  kwd : List (PySem.Str × V)
def fnWa (K : PySem.W.Frag) (a : Addr) : He.FnW := match K.lookup a with
  | some ⟨_, _, .func fd, _⟩ => some (fd.name, fd.qualname, fd.params, fd.body, fd.scope, fd.globals, fd.closure, fd.builtins)
  | _ => none
def Df.val (d : Df) : He.FnW := some (d.name, d.qual, defArgs d.st, .stmts (defBody d.st), defScope d.st, mainGlobals, [], builtinsNs)
def Df.ok (K : PySem.W.Frag) (d : Df) : Bool := PySem.W.keepIn K (.ref d.a) && (match K.lookup d.a with
  | some ⟨_, _, .func fd, _⟩ => PySem.W.codeIn K fd.code d.qual && (He.dflB K fd.defaults [] && He.kwdB K fd.kwdefaults d.kwd)
  | _ => false)
/-- the function object at a -/
def fdAt (K : PySem.W.Frag) (a : Addr) : FuncData := match K.lookup a with
  | some ⟨_, _, .func fd, _⟩ => fd
  | _ => default
theorem Df.funD {K : PySem.W.Frag} {d : Df} (e : fnWa K d.a = d.val) (c : d.ok K = true) : FunD K d.name d.qual (defArgs d.st) (defBody d.st) (defScope d.st) [] d.kwd d.a (fdAt K d.a) := by
  unfold Df.ok at c
  obtain ⟨c0, c⟩ := He.ba c
  unfold fnWa at e
  split at c
  · rename_i oc od fd sl lk
    rw [lk] at e
    obtain ⟨c1, c2⟩ := He.ba c
    obtain ⟨c2, c3⟩ := He.ba c2
    have hfd : fdAt K d.a = fd := by unfold fdAt; rw [lk]
    rw [hfd]
    obtain ⟨nm, qn, pr, bd, sc, df, kd, gl, cl, bt, dc, pm, an, cd, ct⟩ := fd
    unfold Df.val at e
    simp only [Option.some.injEq, Prod.mk.injEq] at e
    obtain ⟨rfl, rfl, rfl, rfl, rfl, rfl, rfl, rfl⟩ := e
    exact ⟨⟨_, _, _, _, _, _, _, _, _, _, rfl, lk, c1, He.dflB_ok c2, He.kwdB_ok c3⟩, c0⟩
  · cases c
/-- facts of the text, by addresses -/
inductive Fb where
  | glo (x : PySem.Str) (a : Addr)
  | free (x : PySem.Str)
  | int (x : PySem.Str) (i : Int)
  | tup (x : PySem.Str) (vs : List V)
  | keep (a : Addr)
  | cls (C : Addr)
  | noat (C : Addr) (f : PySem.Str)
  | meth (C : Addr) (m : PySem.Str) (f : Addr)
  | mkr (C f : Addr)
  | prop (C : Addr) (f : PySem.Str) (g : Addr)
  | inst (C : Addr)
def adOf : Option (Option Value) → Addr
  | some (some (.ref a)) => a
  | _ => 0
def Fb.ok (K : PySem.W.Frag) : Fb → Bool
  | .glo x a => He.eqO (PySem.W.nsIn K mainGlobals x) (some (some (.ref a)))
  | .free x => He.eqO (PySem.W.nsIn K mainGlobals x) (some none)
  | .int x i => (match PySem.W.nsIn K mainGlobals x with
    | some (some (.int j _)) => decide (j = i)
    | _ => false)
  | .tup x vs => (match PySem.W.nsIn K mainGlobals x with
    | some (some (.ref a)) => (match K.lookup a with
      | some ⟨.type c, _, .seq its _, _⟩ => decide (c = "tuple") && (decide (its.size ≤ sizeLine) && He.relAll vs its.toList)
      | _ => false)
    | _ => false)
  | .keep a => PySem.W.keepIn K (.ref a)
  | .cls C => PySem.W.plainGet K C Str.empty && (PySem.W.hasDictIn K C && (PySem.W.plainOver K C && He.eqO (PySem.W.findIn K (.ref C) "__setattr__") (some (some (.builtin "object.__setattr__")))))
  | .noat C f => He.eqO (PySem.W.findIn K (.ref C) f) (some none)
  | .meth C m f => He.eqO (PySem.W.findIn K (.ref C) m) (some (some (.ref f))) && (PySem.W.isFn K (.ref f) && PySem.W.keepIn K (.ref f))
  | .mkr C f => PySem.W.makesIn K C && (He.eqO (PySem.W.findIn K (.ref C) "__init__") (some (some (.ref f))) && (PySem.W.isFn K (.ref f) && PySem.W.keepIn K (.ref C)))
  | .prop C f g => He.eqO (PySem.W.findIn K (.ref C) f) (some (some (.ref (adOf (PySem.W.findIn K (.ref C) f))))) &&
      (He.eqO (PySem.W.specialIn K (.ref (adOf (PySem.W.findIn K (.ref C) f))) "__get__") (some (some (.builtin "property.__get__"))) && (decide (PySem.W.takesIn K (.ref (adOf (PySem.W.findIn K (.ref C) f))) = some true) &&
      (match PySem.W.recIn K (adOf (PySem.W.findIn K (.ref C) f)) "property" with
      | some (.ref h :: _) => decide (h = g)
      | _ => false)))
  | .inst C => He.eqO (PySem.W.findIn K (.ref C) "__class__") (some (some (.builtin "object.__class__"))) &&
      (He.eqO (PySem.W.specialIn K (.builtin "object.__class__") "__get__") (some (some (.builtin "getset_descriptor.__get__"))) && (decide (PySem.W.takesIn K (.builtin "object.__class__") = some true) &&
      (decide (PySem.W.mroIn K C (.type "object") = some true) && (decide (PySem.W.kitOne K (.ref C) (.ref C) = some true) &&
      (He.eqO (PySem.W.findIn K (.ref C) "__ne__") (some (some (.builtin "object.__ne__"))) && PySem.W.notFirst K C (.ref C))))))
section
variable {K : PySem.W.Frag} {h : Heap} {mg : PySem.Str → Option Value}
theorem fglo (X : K.In h) (G : h.Ns mainGlobals mg) {x : PySem.Str} {a : Addr} (c : (Fb.glo x a).ok K = true) : mg x = some (.ref a) := PySem.W.mg_of X G (He.eqO_ok c)
theorem ffree (X : K.In h) (G : h.Ns mainGlobals mg) {x : PySem.Str} (c : (Fb.free x).ok K = true) : mg x = none := PySem.W.mg_none_of X G (He.eqO_ok c)
end
/-- what of the text the walk asks -/
def dis_integer : Df := ⟨208, "is_integer", "is_integer", sis_integer, []⟩
def dneed_number : Df := ⟨215, "need_number", "need_number", sneed_number, []⟩
def dare_states : Df := ⟨220, "are_states", "are_states", sare_states, []⟩
def dmask_of : Df := ⟨225, "mask_of", "mask_of", smask_of, []⟩
def dset_of : Df := ⟨230, "set_of", "set_of", sset_of, []⟩
def dupset_of : Df := ⟨235, "upset_of", "upset_of", supset_of, []⟩
def dis_least : Df := ⟨240, "is_least", "is_least", sis_least, []⟩
def dleast_of : Df := ⟨245, "least_of", "least_of", sleast_of, []⟩
def dare_sets : Df := ⟨250, "are_sets", "are_sets", sare_sets, []⟩
def dall_sets : Df := ⟨269, "all_sets", "all_sets", sall_sets, []⟩
def dneed_contract : Df := ⟨489, "need_contract", "need_contract", sneed_contract, []⟩
def dneed_state_of : Df := ⟨496, "need_state_of", "need_state_of", sneed_state_of, []⟩
def dneed_alike : Df := ⟨503, "need_alike", "need_alike", sneed_alike, []⟩
def dis_within : Df := ⟨541, "is_within", "is_within", sis_within, []⟩
def dnotation_of : Df := ⟨609, "notation_of", "notation_of", snotation_of, []⟩
def dis_around : Df := ⟨622, "is_around", "is_around", sis_around, []⟩
def dis_table : Df := ⟨627, "is_table", "is_table", sis_table, []⟩
def dis_form : Df := ⟨634, "is_form", "is_form", sis_form, []⟩
def dtexts_in : Df := ⟨641, "texts_in", "texts_in", stexts_in, []⟩
def dwrong_place : Df := ⟨648, "wrong_place", "wrong_place", swrong_place, []⟩
def dfirst_wrong : Df := ⟨655, "first_wrong", "first_wrong", sfirst_wrong, []⟩
def dplaces_from : Df := ⟨662, "places_from", "places_from", splaces_from, []⟩
def dplaces_of : Df := ⟨669, "places_of", "places_of", splaces_of, []⟩
def dis_small : Df := ⟨674, "is_small", "is_small", sis_small, []⟩
def dis_system : Df := ⟨681, "is_system", "is_system", sis_system, []⟩
def dare_parts_of : Df := ⟨686, "are_parts_of", "are_parts_of", sare_parts_of, []⟩
def dneed_system : Df := ⟨693, "need_system", "need_system", sneed_system, []⟩
def dneed_parts : Df := ⟨700, "need_parts", "need_parts", sneed_parts, []⟩
def dneed_name : Df := ⟨707, "need_name", "need_name", sneed_name, []⟩
def dneed_word : Df := ⟨714, "need_word", "need_word", sneed_word, []⟩
def dflat_table : Df := ⟨719, "flat_table", "flat_table", sflat_table, []⟩
def dgo_table : Df := ⟨724, "go_table", "go_table", sgo_table, []⟩
def dcontract_table : Df := ⟨729, "contract_table", "contract_table", scontract_table, []⟩
def dbehind : Df := ⟨734, "behind", "behind", sbehind, []⟩
def djoint_table : Df := ⟨739, "joint_table", "joint_table", sjoint_table, []⟩
def draw_rounds : Df := ⟨775, "raw_rounds", "raw_rounds", sraw_rounds, []⟩
def dcontract_of : Df := ⟨780, "contract_of", "contract_of", scontract_of, []⟩
def draw_value : Df := ⟨787, "raw_value", "raw_value", sraw_value, []⟩
def dvalue_of : Df := ⟨795, "value_of", "value_of", svalue_of, [("endless", .str "we")]⟩
def dtext_of_set : Df := ⟨800, "text_of_set", "text_of_set", stext_of_set, []⟩
def dtext_of_family : Df := ⟨805, "text_of_family", "text_of_family", stext_of_family, []⟩
def dwritten : Df := ⟨812, "written", "written", swritten, []⟩
def dL_spread : Df := ⟨819, "_law_spread", "_law_spread", sL_spread, []⟩
def dL_open : Df := ⟨826, "_law_open", "_law_open", sL_open, []⟩
def dL_take : Df := ⟨833, "_law_take", "_law_take", sL_take, []⟩
def dL_v_pick : Df := ⟨840, "_law_v_pick", "_law_v_pick", sL_v_pick, []⟩
def dL_v_sets : Df := ⟨845, "_law_v_sets", "_law_v_sets", sL_v_sets, []⟩
def dL_v_is_in : Df := ⟨850, "_law_v_is_in", "_law_v_is_in", sL_v_is_in, []⟩
def dL_v_family : Df := ⟨855, "_law_v_family", "_law_v_family", sL_v_family, []⟩
def dL_v_pairs : Df := ⟨860, "_law_v_pairs", "_law_v_pairs", sL_v_pairs, []⟩
def dL_v_some_sets : Df := ⟨867, "_law_v_some_sets", "_law_v_some_sets", sL_v_some_sets, []⟩
def dL_v_part_rows : Df := ⟨872, "_law_v_part_rows", "_law_v_part_rows", sL_v_part_rows, []⟩
def dL_v_leaf : Df := ⟨877, "_law_v_leaf", "_law_v_leaf", sL_v_leaf, []⟩
def dL_v_text : Df := ⟨882, "_law_v_text", "_law_v_text", sL_v_text, []⟩
def dL_v_system : Df := ⟨889, "_law_v_system", "_law_v_system", sL_v_system, []⟩
def dL_v_texts_in : Df := ⟨896, "_law_v_texts_in", "_law_v_texts_in", sL_v_texts_in, []⟩
def dL_v_text_at : Df := ⟨903, "_law_v_text_at", "_law_v_text_at", sL_v_text_at, []⟩
def dL_v_truths : Df := ⟨908, "_law_v_truths", "_law_v_truths", sL_v_truths, []⟩
def dL_v_all : Df := ⟨913, "_law_v_all", "_law_v_all", sL_v_all, []⟩
def dL_v_then : Df := ⟨918, "_law_v_then", "_law_v_then", sL_v_then, []⟩
def dL_v_round : Df := ⟨923, "_law_v_round", "_law_v_round", sL_v_round, []⟩
def dL_v_rounds : Df := ⟨928, "_law_v_rounds", "_law_v_rounds", sL_v_rounds, []⟩
def dL_v_contract : Df := ⟨933, "_law_v_contract", "_law_v_contract", sL_v_contract, []⟩
def dL_v_places : Df := ⟨938, "_law_v_places", "_law_v_places", sL_v_places, []⟩
def dL_v_put : Df := ⟨945, "_law_v_put", "_law_v_put", sL_v_put, []⟩
def dL_v_values : Df := ⟨950, "_law_v_values", "_law_v_values", sL_v_values, []⟩
def dL_v_as_had : Df := ⟨955, "_law_v_as_had", "_law_v_as_had", sL_v_as_had, []⟩
def dL_v_replaced_right : Df := ⟨962, "_law_v_replaced_right", "_law_v_replaced_right", sL_v_replaced_right, []⟩
def dL_v_more_right : Df := ⟨967, "_law_v_more_right", "_law_v_more_right", sL_v_more_right, []⟩
def dlaw : Df := ⟨972, "law", "law", slaw, []⟩
def dContract___init__ : Df := ⟨281, "__init__", "Contract.__init__", sContract___init__, []⟩
def dContract___getitem__ : Df := ⟨330, "__getitem__", "Contract.__getitem__", sContract___getitem__, []⟩
def dContract___contains__ : Df := ⟨349, "__contains__", "Contract.__contains__", sContract___contains__, []⟩
def dContract___str__ : Df := ⟨370, "__str__", "Contract.__str__", sContract___str__, []⟩
def dContract___eq__ : Df := ⟨377, "__eq__", "Contract.__eq__", sContract___eq__, []⟩
def dContract_within : Df := ⟨384, "within", "Contract.within", sContract_within, []⟩
def dContract_states : Df := ⟨314, "states", "Contract.states", sContract_states, []⟩
def dContract_ends : Df := ⟨322, "ends", "Contract.ends", sContract_ends, []⟩
def dTables___init__ : Df := ⟨753, "__init__", "Tables.__init__", sTables___init__, []⟩
def dTables_lay : Df := ⟨758, "lay", "Tables.lay", sTables_lay, []⟩
def dTables_roots : Df := ⟨763, "roots", "Tables.roots", sTables_roots, []⟩
def dfs0 : List Df := [dis_integer, dneed_number, dare_states, dmask_of, dset_of, dupset_of, dis_least, dleast_of, dare_sets, dall_sets, dneed_contract, dneed_state_of, dneed_alike, dis_within, dnotation_of, dis_around, dis_table, dis_form, dtexts_in, dwrong_place, dfirst_wrong, dplaces_from, dplaces_of, dis_small, dis_system, dare_parts_of, dneed_system, dneed_parts, dneed_name, dneed_word]
def dfs1 : List Df := [dflat_table, dgo_table, dcontract_table, dbehind, djoint_table, draw_rounds, dcontract_of, draw_value, dvalue_of, dtext_of_set, dtext_of_family, dwritten, dL_spread, dL_open, dL_take, dL_v_pick, dL_v_sets, dL_v_is_in, dL_v_family, dL_v_pairs, dL_v_some_sets, dL_v_part_rows, dL_v_leaf, dL_v_text, dL_v_system, dL_v_texts_in, dL_v_text_at, dL_v_truths, dL_v_all, dL_v_then]
def dfs2 : List Df := [dL_v_round, dL_v_rounds, dL_v_contract, dL_v_places, dL_v_put, dL_v_values, dL_v_as_had, dL_v_replaced_right, dL_v_more_right, dlaw, dContract___init__, dContract___getitem__, dContract___contains__, dContract___str__, dContract___eq__, dContract_within, dContract_states, dContract_ends, dTables___init__, dTables_lay, dTables_roots]
def dfs : List Df := dfs0 ++ (dfs1 ++ (dfs2))
def fbs0 : List Fb := [.glo "is_integer" 208, .glo "need_number" 215, .glo "are_states" 220, .glo "mask_of" 225, .glo "set_of" 230, .glo "upset_of" 235, .glo "is_least" 240, .glo "least_of" 245, .glo "are_sets" 250, .glo "all_sets" 269, .glo "need_contract" 489, .glo "need_state_of" 496, .glo "need_alike" 503, .glo "is_within" 541, .glo "notation_of" 609, .glo "is_around" 622, .glo "is_table" 627, .glo "is_form" 634, .glo "texts_in" 641, .glo "wrong_place" 648, .glo "first_wrong" 655, .glo "places_from" 662, .glo "places_of" 669, .glo "is_small" 674, .glo "is_system" 681, .glo "are_parts_of" 686, .glo "need_system" 693, .glo "need_parts" 700, .glo "need_name" 707, .glo "need_word" 714]
def fbs1 : List Fb := [.glo "flat_table" 719, .glo "go_table" 724, .glo "contract_table" 729, .glo "behind" 734, .glo "joint_table" 739, .glo "raw_rounds" 775, .glo "contract_of" 780, .glo "raw_value" 787, .glo "value_of" 795, .glo "text_of_set" 800, .glo "text_of_family" 805, .glo "written" 812, .glo "_law_spread" 819, .glo "_law_open" 826, .glo "_law_take" 833, .glo "_law_v_pick" 840, .glo "_law_v_sets" 845, .glo "_law_v_is_in" 850, .glo "_law_v_family" 855, .glo "_law_v_pairs" 860, .glo "_law_v_some_sets" 867, .glo "_law_v_part_rows" 872, .glo "_law_v_leaf" 877, .glo "_law_v_text" 882, .glo "_law_v_system" 889, .glo "_law_v_texts_in" 896, .glo "_law_v_text_at" 903, .glo "_law_v_truths" 908, .glo "_law_v_all" 913, .glo "_law_v_then" 918]
def fbs2 : List Fb := [.glo "_law_v_round" 923, .glo "_law_v_rounds" 928, .glo "_law_v_contract" 933, .glo "_law_v_places" 938, .glo "_law_v_put" 945, .glo "_law_v_values" 950, .glo "_law_v_as_had" 955, .glo "_law_v_replaced_right" 962, .glo "_law_v_more_right" 967, .glo "law" 972, .glo "Contract" 478, .glo "Tables" 766, .free "isinstance", .free "all", .free "len", .free "zip", .free "sum", .free "tuple", .free "range", .free "any", .free "sorted", .free "str", .free "enumerate", .free "list", .free "int", .free "min", .free "dict", .free "bool", .int "MOST_STATES" 4, .int "MOST_SETS" 40]
def fbs3 : List Fb := [.int "MOST_PARTS" 3, .int "MOST_TEXTS" 4, .int "MOST_CHOICES" 6, .int "MOST_DEEP" 6, .int "MOST_PLACES" 100, .tup "POWERS" [.int 1, .int 2, .int 4, .int 8], .tup "SIZES" [.int 1, .int 2, .int 4, .int 8, .int 16], .tup "SIDES" [.str "we", .str "they"], .cls 478, .mkr 478 281, .noat 478 "width", .noat 478 "rows", .meth 478 "__init__" 281, .meth 478 "__getitem__" 330, .meth 478 "__contains__" 349, .meth 478 "__str__" 370, .meth 478 "__eq__" 377, .meth 478 "within" 384, .prop 478 "states" 314, .prop 478 "ends" 322, .cls 766, .mkr 766 753, .noat 766 "system", .noat 766 "parts", .noat 766 "calls", .noat 766 "at", .meth 766 "__init__" 753, .meth 766 "lay" 758, .meth 766 "roots" 763, .inst 478]
def fbs : List Fb := fbs0 ++ (fbs1 ++ (fbs2 ++ (fbs3)))
def kas0 : List Addr := [mainGlobals, 478, 477, 766, 765, 200, 201, 615, 315, 323, 788, 208, 215, 220, 225, 230, 235, 240, 245, 250, 269, 489, 496, 503, 541, 609, 622, 627, 634, 641, 648, 655, 662, 669, 674, 681, 686, 693, 700, 707]
def kas1 : List Addr := [714, 719, 724, 729, 734, 739, 775, 780, 787, 795, 800, 805, 812, 819, 826, 833, 840, 845, 850, 855, 860, 867, 872, 877, 882, 889, 896, 903, 908, 913, 918, 923, 928, 933, 938, 945, 950, 955, 962, 967]
def kas2 : List Addr := [972, 281, 330, 349, 370, 377, 384, 314, 322, 753, 758, 763, 207, 214, 219, 224, 229, 234, 239, 244, 249, 268, 488, 495, 502, 540, 608, 621, 626, 633, 640, 647, 654, 661, 668, 673, 680, 685, 692, 699]
def kas3 : List Addr := [706, 713, 718, 723, 728, 733, 738, 774, 779, 786, 794, 799, 804, 811, 818, 825, 832, 839, 844, 849, 854, 859, 866, 871, 876, 881, 888, 895, 902, 907, 912, 917, 922, 927, 932, 937, 944, 949, 954, 961]
def kas4 : List Addr := [966, 971, 280, 329, 348, 369, 376, 383, 313, 321, 752, 757, 762]
def kas : List Addr := kas0 ++ (kas1 ++ (kas2 ++ (kas3 ++ (kas4))))
def names0 : List PySem.Str := [("_wall" : PySem.Str), ("WillError" : PySem.Str), ("NoNumber" : PySem.Str), ("NoSet" : PySem.Str), ("NoSets" : PySem.Str), ("NoRows" : PySem.Str), ("NoState" : PySem.Str), ("NoMatch" : PySem.Str), ("NoPower" : PySem.Str), ("NoTable" : PySem.Str), ("NoContract" : PySem.Str), ("NoParts" : PySem.Str), ("NoName" : PySem.Str), ("NoWord" : PySem.Str), ("NoSystem" : PySem.Str), ("POWERS" : PySem.Str), ("SIZES" : PySem.Str), ("MOST_STATES" : PySem.Str), ("MOST_SETS" : PySem.Str), ("is_integer" : PySem.Str), ("need_number" : PySem.Str), ("are_states" : PySem.Str), ("mask_of" : PySem.Str), ("set_of" : PySem.Str), ("upset_of" : PySem.Str), ("is_least" : PySem.Str), ("least_of" : PySem.Str), ("are_sets" : PySem.Str), ("need_sets" : PySem.Str), ("need_set" : PySem.Str), ("all_sets" : PySem.Str), ("MOST_POWER" : PySem.Str), ("Contract" : PySem.Str), ("need_contract" : PySem.Str), ("need_state_of" : PySem.Str), ("need_alike" : PySem.Str), ("need_behind" : PySem.Str), ("need_same_ends" : PySem.Str), ("width_of" : PySem.Str), ("states_of" : PySem.Str)]
def names1 : List PySem.Str := [("raw_contract" : PySem.Str), ("is_within" : PySem.Str), ("states_with" : PySem.Str), ("exchanged" : PySem.Str), ("rows_of_either" : PySem.Str), ("rows_of_both" : PySem.Str), ("chained" : PySem.Str), ("rows_of_chain" : PySem.Str), ("skip_rows" : PySem.Str), ("rows_of_power" : PySem.Str), ("least_rows" : PySem.Str), ("rows_of_least" : PySem.Str), ("rows_of_greatest" : PySem.Str), ("notation_of" : PySem.Str), ("least_pairs" : PySem.Str), ("MOST_PARTS" : PySem.Str), ("MOST_TEXTS" : PySem.Str), ("MOST_CHOICES" : PySem.Str), ("MOST_DEEP" : PySem.Str), ("MOST_PLACES" : PySem.Str), ("SIDES" : PySem.Str), ("is_around" : PySem.Str), ("is_table" : PySem.Str), ("is_form" : PySem.Str), ("texts_in" : PySem.Str), ("wrong_place" : PySem.Str), ("first_wrong" : PySem.Str), ("places_from" : PySem.Str), ("places_of" : PySem.Str), ("is_small" : PySem.Str), ("is_system" : PySem.Str), ("are_parts_of" : PySem.Str), ("need_system" : PySem.Str), ("need_parts" : PySem.Str), ("need_name" : PySem.Str), ("need_word" : PySem.Str), ("flat_table" : PySem.Str), ("go_table" : PySem.Str), ("contract_table" : PySem.Str), ("behind" : PySem.Str)]
def names2 : List PySem.Str := [("joint_table" : PySem.Str), ("Tables" : PySem.Str), ("raw_rounds" : PySem.Str), ("contract_of" : PySem.Str), ("raw_value" : PySem.Str), ("value_of" : PySem.Str), ("text_of_set" : PySem.Str), ("text_of_family" : PySem.Str), ("written" : PySem.Str), ("_law_spread" : PySem.Str), ("_law_open" : PySem.Str), ("_law_take" : PySem.Str), ("_law_v_pick" : PySem.Str), ("_law_v_sets" : PySem.Str), ("_law_v_is_in" : PySem.Str), ("_law_v_family" : PySem.Str), ("_law_v_pairs" : PySem.Str), ("_law_v_some_sets" : PySem.Str), ("_law_v_part_rows" : PySem.Str), ("_law_v_leaf" : PySem.Str), ("_law_v_text" : PySem.Str), ("_law_v_system" : PySem.Str), ("_law_v_texts_in" : PySem.Str), ("_law_v_text_at" : PySem.Str), ("_law_v_truths" : PySem.Str), ("_law_v_all" : PySem.Str), ("_law_v_then" : PySem.Str), ("_law_v_round" : PySem.Str), ("_law_v_rounds" : PySem.Str), ("_law_v_contract" : PySem.Str), ("_law_v_places" : PySem.Str), ("_law_v_put" : PySem.Str), ("_law_v_values" : PySem.Str), ("_law_v_as_had" : PySem.Str), ("_law_v_replaced_right" : PySem.Str), ("_law_v_more_right" : PySem.Str)]
def names : List PySem.Str := names0 ++ (names1 ++ (names2))
abbrev ObT : Type := Bool × List He.FnW
def obK (K : PySem.W.Frag) : ObT := ((fbs.all fun f => f.ok K) && dfs.all fun d => d.ok K, dfs.map fun d => fnWa K d.a)
def valK : ObT := (true, dfs.map Df.val)
def Says (K : PySem.W.Frag) : Prop := obK K = valK
def hk : PySem.W.Hook where
  α := ObT
  obs := fun s => obK (He.frG s.heap.get? kas)
  val := fun _ => valK
  says := fun _ h => ∃ K : PySem.W.Frag, K.In h ∧ Says K
  of := fun _ _ e => ⟨_, He.frG_in, e⟩
  keeps := fun _ _ _ ⟨K, hK, c⟩ k => ⟨K, PySem.W.Frag.In.keeps hK k, c⟩
def ob (s : PySem.W.SharedT) : ObT := obK (He.frG (HandSHeadRun.getT s) kas)
theorem ob_eq (s : PySem.W.SharedT) : ob s = hk.obs s.abs := by
  have e : HandSHeadRun.getT s = s.abs.heap.get? := funext (HandSHeadRun.getT_eq s)
  unfold ob hk
  rw [e]
abbrev R : PySem.W.OpenRow := PySem.W.OpenLaw.row PySem.Challenge.rw_twowills_k42_whole_values
theorem Says.fact {K : PySem.W.Frag} (c : Says K) {f : Fb} (h : f ∈ fbs) : f.ok K = true := by
  have e : ((fbs.all fun f => f.ok K) && dfs.all fun d => d.ok K) = true := congrArg Prod.fst c
  exact List.all_eq_true.mp (He.ba e).1 f h
theorem Says.def_ {K : PySem.W.Frag} (c : Says K) (i : Nat) {d : Df} (h : dfs[i]? = some d) : FunD K d.name d.qual (defArgs d.st) (defBody d.st) (defScope d.st) [] d.kwd d.a (fdAt K d.a) := by
  have e : ((fbs.all fun f => f.ok K) && dfs.all fun d => d.ok K) = true := congrArg Prod.fst c
  have e2 : (dfs.map fun d => fnWa K d.a) = dfs.map Df.val := congrArg Prod.snd c
  refine Df.funD ?_ (List.all_eq_true.mp (He.ba e).2 d (List.mem_of_getElem? h))
  have e3 := congrArg (fun l => l[i]?) e2
  simp only [List.getElem?_map, h, Option.map_some, Option.some.injEq] at e3
  exact e3
end Tw
end
/-! TwRun -/
section
set_option Elab.async false
set_option linter.all false
set_option maxRecDepth 100000
set_option maxHeartbeats 0
namespace Tw
open PySem PySem.Spec PyProof.Rows L2
theorem run (w : World) : HandSHeadRun.RunEq R (PySem.W.view R.prog [123]) hk ob 20000 names w := by
  intro os
  kernel_rfl
end Tw
end
/-! TwE1 -/
section
set_option Elab.async false
set_option linter.all false
set_option maxRecDepth 100000
set_option maxHeartbeats 0
open PySem PySem.W PySem.Calls PyProof.Rows
namespace Tw
theorem e_open : opening R.prog = plainProg R.prog.main.scope.names := by kernel_rfl
theorem e_fence : ∀ s, fenceModules? R.prog s = some s := fun s => by kernel_rfl
abbrev dLaw : DefRec := HandSHeadRun.topDef R.prog 123
theorem e_def : defOf (view R.prog [123]) R.name = some (dLaw, []) := by kernel_rfl
theorem e_the : R.prog.theDef R.name = some (dLaw.params, dLaw.body, dLaw.scope) := by kernel_rfl
theorem e_kw : kwWritten? dLaw.params.kwonlyargs dLaw.params.kw_defaults = some [] := by kernel_rfl
theorem e_wr : (!R.writes || R.records.isEmpty) = true := by rfl
theorem e_well : R.wellSaid = true := by decide +kernel
theorem e_chains : (chainsOk (view R.prog [123]) && opensWell R.prog && (frees R.toRowW && R.within.isEmpty)) = true := by decide +kernel
theorem e_bare : R.prog.bare := ⟨rfl, rfl, rfl, rfl, rfl, by decide +kernel⟩
theorem e_dflt : dLaw.params.defaults = [] := by kernel_rfl
theorem e_name : dLaw.name = ("law" : PySem.Str) := by kernel_rfl
end Tw
end
/-! TwDict -/
section
set_option Elab.async false
set_option linter.all false
set_option maxRecDepth 100000
/-! Dicts whose keys are tuples (of ints and tuples), over the hand layer: told by their entries. -/
namespace Tw
open PySem PySem.Spec PyProof.Rows L2
abbrev NK := NestedKey
/-- an entry: the key, where its tuple stands, the value -/
abbrev Ent := NK × Addr × V
def EntR (x : Ent) (y : NK × Addr × Value) : Prop := x.1 = y.1 ∧ x.2.1 = y.2.1 ∧ RelV x.2.2 y.2.2
section
variable (P : Program) (w : World)
def RawE (d : Addr) (xs : List Ent) (h : Heap) : Prop := ∃ vs : List (NK × Addr × Value), Paired EntR xs vs ∧
  ∃ o es ep, h.get? d = some o ∧ o.ExactDict ∧ o.data = .dict es ep ∧ es.toList = vs.map (entryOfKey (nestedKind P w))
/-- the dict at d, its entries in their order -/
def kdO (d : Addr) (xs : List Ent) : HO := .ext fun h => (xs.length ≤ sizeLine ∧ (d == sysModules) = false ∧ (xs.map (·.1)).Nodup) ∧ RawE P w d xs h
end
/-- .. and its keys' tuples -/
structure Kd (P : Program) (w : World) (K : PySem.W.Frag) (H : Hp) (d : Addr) (xs : List Ent) : Prop where
  at_ : H d = some (kdO P w d xs)
  keys : ∀ x ∈ xs, Dp K H (.ref x.2.1) x.1.data ∧ x.1.depth ≤ 8
theorem paired_len {α β : Type} {R : α → β → Prop} : ∀ {l : List α} {m : List β}, Paired R l m → l.length = m.length
  | _, _, .nil => rfl
  | _, _, .cons _ t => congrArg (· + 1) (paired_len t)
theorem paired_app {α β : Type} {R : α → β → Prop} {x : α} {y : β} (h : R x y) : ∀ {l : List α} {m : List β}, Paired R l m → Paired R (l ++ [x]) (m ++ [y])
  | _, _, .nil => .cons h .nil
  | _, _, .cons a t => .cons a (paired_app h t)
theorem ents_keys : ∀ {xs : List Ent} {vs : List (NK × Addr × Value)}, Paired EntR xs vs → vs.map (fun y => (y.1, y.2.1)) = xs.map fun x => (x.1, x.2.1)
  | _, _, .nil => rfl
  | _, _, .cons a t => by
    obtain ⟨h1, h2, _⟩ := a
    simp only [List.map_cons, ents_keys t, h1, h2]
theorem ents_fst {xs : List Ent} {vs : List (NK × Addr × Value)} (r : Paired EntR xs vs) : vs.map (·.1) = xs.map (·.1) := by
  have e := congrArg (List.map Prod.fst) (ents_keys r)
  simpa [List.map_map, Function.comp_def] using e
theorem ents_mem {xs : List Ent} {vs : List (NK × Addr × Value)} (r : Paired EntR xs vs) {y : NK × Addr × Value} (h : y ∈ vs) : ∃ x ∈ xs, x.1 = y.1 ∧ x.2.1 = y.2.1 := by
  have hm : (y.1, y.2.1) ∈ vs.map fun y => (y.1, y.2.1) := List.mem_map.mpr ⟨y, h, rfl⟩
  rw [ents_keys r] at hm
  obtain ⟨x, hx, e⟩ := List.mem_map.mp hm
  injection e with e1 e2
  exact ⟨x, hx, e1, e2⟩
/-- what stands at a key -/
def lookE (xs : List Ent) (k : NK) : Option V := (xs.find? fun x => decide (x.1 = k)).map (·.2.2)
theorem lookE_rel (k : NK) : ∀ {xs : List Ent} {vs : List (NK × Addr × Value)}, Paired EntR xs vs → RelO (lookE xs k) ((atKey vs k).map (·.2))
  | _, _, .nil => trivial
  | x :: xs, y :: vs, .cons a t => by
    obtain ⟨h1, _, h3⟩ := a
    have ih := lookE_rel k t
    unfold lookE atKey at ih ⊢
    rw [List.find?_cons, List.find?_cons]
    by_cases e : x.1 = k
    · rw [decide_eq_true e, decide_eq_true (h1 ▸ e : y.1 = k)]
      exact h3
    · rw [decide_eq_false e, decide_eq_false (fun q : y.1 = k => e (h1.trans q))]
      exact ih
section
variable {X : Cx} {pins : List (Addr × Obj)} {σ : L2.St} {H : Hp} {s : Shared}
mutual
/-- data of the abstract heap, as a key of the heap -/
theorem key_is (I : Inv X pins σ H s) : ∀ (k : NK) (v : V) (u : Value), Dp X.K H v k.data → RelV v u → NestedIs s.heap k u
  | .none, v, u, h, r => by
    cases h
    cases r
    exact .none
  | .num i, v, u, h, r => by
    cases h
    obtain ⟨t, rfl⟩ := r
    exact .int i t
  | .text x, v, u, h, r => by
    cases h
    obtain ⟨t, rfl⟩ := r
    exact .text x t
  | .tup ks, v, u, h, r => by
    cases h with
    | tup hs ha =>
      cases r
      obtain ⟨its, rv, ⟨o, ho, hc, hd⟩, _⟩ := I.tuple hs
      obtain ⟨n, hd⟩ := hd
      exact .tup ho hc hd (keys_are I ks _ _ ha rv)
theorem keys_are (I : Inv X pins σ H s) : ∀ (ks : List NK) (vs : List V) (us : List Value), DpAll X.K H vs (NestedKey.datas ks) → Vals vs us → NestedAll s.heap ks us
  | [], vs, us, h, r => by
    cases h
    cases r
    exact .nil
  | k :: ks, vs, us, h, r => by
    cases h with
    | cons h1 h2 =>
      cases r with
      | cons r1 r2 => exact .cons (key_is I k _ _ h1 r1) (keys_are I ks _ _ h2 r2)
end
theorem key_room (I : Inv X pins σ H s) {k : NK} {b : Addr} (h : Dp X.K H (.ref b) k.data) (hk : k.depth ≤ 8) : (nestedKind X.prog X.w).is s.heap k b := ⟨key_is I k _ _ h rfl, hk⟩
theorem kd_raw (I : Inv X pins σ H s) {d : Addr} {xs : List Ent} (h : Kd X.prog X.w X.K H d xs) :
    (xs.length ≤ sizeLine ∧ (d == sysModules) = false ∧ (xs.map (·.1)).Nodup) ∧ ∃ vs, Paired EntR xs vs ∧ s.heap.DictOfH (nestedKind X.prog X.w) d vs := by
  obtain ⟨⟨h0, vs, r, o, es, ep, e1, e2, e3, e4⟩, _⟩ := I.hok d _ h.at_
  refine ⟨h0, vs, r, o, es, ep, e1, e2, e3, e4, fun y hy => ?_, by rw [ents_fst r]; exact h0.2.2⟩
  obtain ⟨x, hx, a, b⟩ := ents_mem r hy
  have q := h.keys x hx
  rw [a, b] at q
  exact key_room I q.1 q.2
/-- a dict just made or changed, as an object of the abstract heap -/
theorem kd_ok {P : Program} {w : World} {H' : Hp} {h' : Heap} {d : Addr} {xs : List Ent} {vs : List (NK × Addr × Value)} (hz : xs.length ≤ sizeLine) (hd : (d == sysModules) = false) (r : Paired EntR xs vs) (m : h'.DictOfH (nestedKind P w) d vs) :
    ObjOk P w H' h' d (kdO P w d xs) := by
  obtain ⟨o, es, ep, e1, e2, e3, e4, _, e6⟩ := m
  refine ⟨⟨⟨hz, hd, by rw [← ents_fst r]; exact e6⟩, vs, r, o, es, ep, e1, e2, e3, e4⟩, ⟨o, e1⟩, fun h1 h2 p st => ?_⟩
  obtain ⟨p0, us, q, o', es', ep', q1, q2, q3, q4⟩ := p
  exact ⟨p0, us, q, o', es', ep', st _ q1, q2, q3, q4⟩
theorem mut_kd {P : Program} {w : World} {d : Addr} {xs : List Ent} : Mut (some (kdO P w d xs)) := trivial
end
/-! ### {} -/
def tKdNew (P : Program) (w : World) : TE := fun _ H Q => ∀ p, H p = none → Q (.ref p) (upd H p (kdO P w p []))
theorem pe_kdnew {X : Cx} {pos : Pos} : PE X (.Dict [] [] pos) (tKdNew X.prog X.w) := ⟨fun pins s σ H Q I h => by
  refine wpAny_Dict_empty ⟨.ref s.heap.objs.size, _, I.laid (a := s.heap.objs.size) (o := kdO X.prog X.w s.heap.objs.size []) (t' := s.toks) (fun _ _ q => Heap.get?_push_of_some _ q) (Nat.le_refl _) ?_, rfl, h _ I.fresh⟩
  have hb : (s.heap.objs.size == sysModules) = false := by
    exact beq_eq_false_iff_ne.mpr (Nat.ne_of_gt I.big)
  exact kd_ok (vs := []) (Nat.zero_le _) hb .nil (Heap.DictOfH.new s.heap)⟩
/-! ### d[k], d[k] = v -/
def rKdGet (X : Cx) : R2 := fun x y H Q => ∃ d xs b k v, x = .ref d ∧ Kd X.prog X.w X.K H d xs ∧ y = .ref b ∧ Dp X.K H (.ref b) (NestedKey.data k) ∧ k.depth ≤ 8 ∧ lookE xs k = some v ∧ Q v H
def rKdSet (X : Cx) : V → V → V → Hp → (Hp → Prop) → Prop := fun o i v H Q => ∃ d xs b k, o = .ref d ∧ Kd X.prog X.w X.K H d xs ∧ i = .ref b ∧ Dp X.K H (.ref b) (NestedKey.data k) ∧ k.depth ≤ 8 ∧ lookE xs k = none ∧ xs.length < sizeLine ∧
  Q (upd H d (kdO X.prog X.w d (xs ++ [(k, b, v)])))
section
variable {X : Cx}
theorem set_kd (hu : X.A.units + 10 < cLine) : PSet X (rKdSet X) := by
  intro pins s σ H o i v ov iv u Q I ro ri rv h
  obtain ⟨d, xs, b, k, rfl, hd, rfl, hk, h8, hn, hz, q⟩ := h
  cases ro
  cases ri
  obtain ⟨⟨h1, h2, h3⟩, vs, r, m⟩ := kd_raw I hd
  have hr : (nestedKind X.prog X.w).room X.A.in1 := by
    show X.A.units + 1 + 8 < cLine
    omega
  have hnone : atKey vs k = none := by
    have e := lookE_rel k r
    rw [hn] at e
    have e2 := RelO.none_of e
    simpa using e2
  refine wpAny_setItem_heap hr (key_room I hk h8) m (fun h' m' hs => ?_) (by rw [← paired_len r]; exact h1)
  rw [storedH_new hnone] at m'
  refine ⟨_, d_write I (by rw [hd.at_]; exact mut_kd) hs ?_ (kd_ok (by rw [List.length_append]; exact hz) h2 (paired_app ⟨rfl, rfl, rv⟩ r) m'), q⟩
  obtain ⟨o, _, _, e, _⟩ := m'
  exact ⟨o, e⟩
theorem ix_kd (hu : X.A.units + 10 < cLine) : IxR X (rKdGet X) := by
  intro value slice pins s σ H x y v u Q I rx ry h hs
  obtain ⟨d, xs, b, k, z, rfl, hd, rfl, hk, h8, hl, q⟩ := h
  cases rx
  cases ry
  obtain ⟨_, vs, r, m⟩ := kd_raw I hd
  have hr : (nestedKind X.prog X.w).room X.A.in1 := by
    show X.A.units + 1 + 8 < cLine
    omega
  have e := lookE_rel k r
  rw [hl] at e
  obtain ⟨w, ew, rw'⟩ := RelO.some_of e
  obtain ⟨p, hp, rfl⟩ := Option.map_eq_some_iff.mp ew
  exact tail_any m.typeIs PySem.F.slot_dict_getitem.lookup (wpAny_getItem_heap hr (key_room I hk h8) m hp ⟨z, H, I.tok _, rw', q⟩) hs
end
/-! ### == of two such dicts with the same keys in the same order, their values bools; of lists of these -/
theorem lookE_at : ∀ {xs : List Ent} {j : Nat} {k : NK} {a : Addr} {v : V}, (xs.map (·.1)).Nodup → xs[j]? = some (k, a, v) → lookE xs k = some v
  | [], _, _, _, _, _, h => by simp at h
  | x :: xs, 0, k, a, v, _, h => by
    simp only [List.getElem?_cons_zero, Option.some.injEq] at h
    subst h
    simp [lookE]
  | x :: xs, j + 1, k, a, v, hn, h => by
    simp only [List.getElem?_cons_succ] at h
    rw [List.map_cons, List.nodup_cons] at hn
    have hne : ¬ x.1 = k := fun q => hn.1 (q ▸ List.mem_map.mpr ⟨_, List.mem_of_getElem? h, rfl⟩)
    have ih := lookE_at hn.2 h
    unfold lookE at ih ⊢
    rw [List.find?_cons, decide_eq_false hne]
    exact ih
section
variable {prog : Program} {w : World} {A : Around} {E : Value → Shared → Prop} {s : Shared} {knd : HeapKind prog w NK}
/-- the model's own comparison of two dicts: from the entry i on, the answers of the values being bs -/
theorem same_pairsH {nm : String} {a b : Addr} {xs ys : List (NK × Addr × Value)} {bs : List Bool} {Q : Bool → Shared → Prop} (hu : knd.room A) (hA : (a == sysModules) = false) (hB : (b == sysModules) = false)
    (ma : s.heap.DictOfH knd a xs) (mb : s.heap.DictOfH knd b ys) (hk : xs.map (·.1) = ys.map (·.1)) (hl : bs.length = xs.length)
    (he : ∀ (j : Nat) x y c, xs[j]? = some x → ys[j]? = some y → bs[j]? = some c → SeqAt.EqP prog w A s x.2.2 y.2.2 c) (h : Q (bs.all id) s) :
    wpAny (model prog w) A (Builtin.Dict.samePairs nm a b) Q E s := by
  obtain ⟨oa, ea, pa, ga, _, da, la, isa, na⟩ := ma
  obtain ⟨ob, eb, pb, gb, _, db, lb, isb, nb⟩ := mb
  have za : ea.size = xs.length := size_of_entries la
  have zb : eb.size = ys.length := size_of_entries lb
  have zz : xs.length = ys.length := by simpa using congrArg List.length hk
  unfold Builtin.Dict.samePairs Builtin.Dict.showsAll
  simp only [hA, hB, Bool.false_eq_true, if_false]
  refine wpAny_bind (wpAny_pure (wpAny_bind (wpAny_pure (wpAny_bind (wpAny_dictEntries ga da ?_)))))
  refine wpAny_bind (wpAny_dictEntries gb db ?_)
  have hne : (ea.size != eb.size) = false := by rw [za, zb, zz]; simp
  simp only [hne, Bool.false_eq_true, if_false]
  refine wpAny_bind (wpAny_dictEpoch ga da (wpAny_bind ?_))
  rw [Std.Legacy.Range.forIn_eq_forIn_range']
  simp only [Std.Legacy.Range.size, Nat.sub_zero, Nat.add_sub_cancel, Nat.div_one]
  refine wpAny_forIn_list _
    (fun todo q s2 => s2 = s ∧ q = (none, ()) ∧ ∃ i, todo = List.range' i (ea.size - i) ∧ i ≤ ea.size ∧ Q ((bs.drop i).all id) s) _ ?_ ?_ _ _ ⟨rfl, rfl, 0, by simp, Nat.zero_le _, h⟩
  · rintro i todo q s2 ⟨rfl, rfl, j, hr, hj, hq⟩
    have hlt : j < ea.size := by
      rcases Nat.lt_or_ge j ea.size with q | q
      · exact q
      · rw [Nat.sub_eq_zero_of_le q] at hr
        simp at hr
    have e1 : ea.size - j = (ea.size - (j + 1)) + 1 := by omega
    rw [e1, List.range'_succ] at hr
    injection hr with e2 e3
    subst e2
    obtain ⟨⟨k, ka, v⟩, hx⟩ : ∃ x, xs[i]? = some x := ⟨_, List.getElem?_eq_getElem (by omega)⟩
    obtain ⟨⟨k', kb, u⟩, hy⟩ : ∃ y, ys[i]? = some y := ⟨_, List.getElem?_eq_getElem (by omega)⟩
    obtain ⟨c, hc⟩ : ∃ c, bs[i]? = some c := ⟨_, List.getElem?_eq_getElem (by omega)⟩
    have hkk : k = k' := by
      have e4 := congrArg (fun l => l[i]?) hk
      simpa [List.getElem?_map, hx, hy] using e4
    subst hkk
    have hex : ea[i]? = some ⟨knd.hash k, .ref ka, v⟩ := by
      rw [entry_at la i, hx]
      rfl
    refine wpAny_bind (wpAny_dictEntries ga da ?_)
    rw [hex]
    refine wpAny_bind (wpAny_holding (wpAny_bind (wpAny_dictFind_heap hu (isa _ (List.mem_of_getElem? hx)) gb db lb isb nb ?_ ?_)))
    · intro no
      exact absurd hy (no i _)
    · intro m p hm
      obtain rfl : m = i := idxH_unique nb hm hy
      refine wpAny_bind (wpAny_dictEntries gb db ?_)
      have hey : eb[m]? = some ⟨knd.hash k, .ref kb, u⟩ := by
        rw [entry_at lb m, hy]
        rfl
      rw [hey]
      refine wpAny_holding (he m _ _ c hx hy hc _ _ ?_)
      have hd : bs.drop m = c :: bs.drop (m + 1) := by
        have hlt' : m < bs.length := by omega
        rw [List.drop_eq_getElem_cons hlt']
        rw [List.getElem?_eq_getElem hlt'] at hc
        rw [Option.some.inj hc]
      rw [hd] at hq
      cases c with
      | false =>
        exact wpAny_pure (wpAny_pure hq)
      | true =>
        simp only [Bool.not_true, Bool.false_eq_true, if_false]
        refine wpAny_bind (wpAny_dictEpoch ga da ?_)
        rw [if_neg (by simp)]
        exact wpAny_pure ⟨rfl, rfl, m + 1, e3, hlt, by simpa using hq⟩
  · rintro q s2 ⟨rfl, rfl, j, hr, hj, hq⟩
    have hj2 : j = ea.size := by
      rcases Nat.lt_or_ge j ea.size with q | q
      · have e1 : ea.size - j = (ea.size - (j + 1)) + 1 := by omega
        rw [e1, List.range'_succ] at hr
        cases hr
      · omega
    rw [hj2, za, ← hl, List.drop_length] at hq
    exact wpAny_pure hq
theorem rc_dictsH {a b : Addr} {xs ys : List (NK × Addr × Value)} {bs : List Bool} {Q : Value → Shared → Prop} (hr : knd.room A.in1) (hA : (a == sysModules) = false) (hB : (b == sysModules) = false)
    (ma : s.heap.DictOfH knd a xs) (mb : s.heap.DictOfH knd b ys) (hu : A.units < cLine) (hk : xs.map (·.1) = ys.map (·.1)) (hl : bs.length = xs.length)
    (he : ∀ (j : Nat) x y c, xs[j]? = some x → ys[j]? = some y → bs[j]? = some c → SeqAt.EqP prog w A.in1 s x.2.2 y.2.2 c) (h : Q (.bool (bs.all id)) s) :
    wpAny (model prog w) A (richCompare .Eq (.ref a) (.ref b)) Q E s := by
  refine wpAny_richCompare_same_room (op := .Eq) ma.typeIs mb.typeIs PySem.F.slot_dict_eq (wpAny_call_entry PySem.F.slot_dict_eq ma.typeIs PySem.F.entry_dict_eq ?_ (PySem.F.args_dict_eq_2 _ _)) hu
  show wpAny _ _ (Builtin.Dict.dictSlotArgs "__eq__" ⟨[.ref a, .ref b], []⟩ >>= _) _ _ s
  unfold Builtin.Dict.dictSlotArgs
  refine wpAny_bind (wpAny_bind (wpAny_notOrdered_dict ma.typeIs (wpAny_pure ?_)))
  refine wpAny_bind (wpAny_isInstance (T := "dict") mb.typeIs PySem.F.sub_dict_dict ?_)
  simp only [Bool.not_true, Bool.false_eq_true, if_false]
  refine wpAny_bind (wpAny_pure (wpAny_bind (wpAny_pure (wpAny_bind (same_pairsH hr hA hB ma mb hk hl he (wpAny_pure ⟨_, rfl, ?_, ?_⟩))))))
  · intro x
    cases x
  · simpa using h
end
/-- how two values are compared, by the abstract heap: the answer -/
abbrev EqQ := Hp → V → V → Bool → Prop
/-- two dicts of bools with the same keys in the same order -/
def EqDct (X : Cx) : EqQ := fun H x y c => ∃ a b xs ys ps qs, x = .ref a ∧ y = .ref b ∧ Kd X.prog X.w X.K H a xs ∧ Kd X.prog X.w X.K H b ys ∧ xs.map (·.1) = ys.map (·.1) ∧
  xs.map (·.2.2) = List.map V.bl ps ∧ ys.map (·.2.2) = List.map V.bl qs ∧ c = decide (ps = qs)
/-- two lists of the same length -/
def EqLst (K : PySem.W.Frag) (R : EqQ) : EqQ := fun H x y c => ∃ (a b : Addr) (xs ys : List V) (cs : List Bool), x = .ref a ∧ y = .ref b ∧ SqL K H a xs ∧ SqL K H b ys ∧ xs.length = ys.length ∧ cs.length = xs.length ∧
  (∀ (j : Nat) x y c, xs[j]? = some x → ys[j]? = some y → cs[j]? = some c → R H x y c) ∧ c = cs.all id
structure EqOk (X : Cx) (n : Nat) (R : EqQ) : Prop where
  refs : ∀ H x y c, R H x y c → ∃ a b, x = .ref a ∧ y = .ref b
  self : ∀ (pins : List (Addr × Obj)) (s : Shared) (σ : L2.St) (H : Hp) (a : Addr) (c : Bool), Inv X pins σ H s → R H (.ref a) (.ref a) c → c = true
  rc : ∀ (A : Around) (pins : List (Addr × Obj)) (s : Shared) (σ : L2.St) (H : Hp) (a b : Addr) (c : Bool) (E Q : Value → Shared → Prop), Inv X pins σ H s → A.units + n + 12 < cLine → R H (.ref a) (.ref b) c → Q (.bool c) s →
    wpAny (model X.prog X.w) A (richCompare .Eq (.ref a) (.ref b)) Q E s
section
variable {X : Cx} {n : Nat} {R : EqQ} {pins : List (Addr × Obj)} {σ : L2.St} {H : Hp} {s : Shared}
theorem EqOk.eqP (h : EqOk X n R) {A : Around} {x y : V} {v u : Value} {c : Bool} (I : Inv X pins σ H s) (hu : A.units + n + 12 < cLine) (r : R H x y c) (rx : RelV x v) (ry : RelV y u) : SeqAt.EqP X.prog X.w A s v u c := by
  obtain ⟨a, b, rfl, rfl⟩ := h.refs _ _ _ _ r
  cases rx
  cases ry
  by_cases e : a = b
  · subst e
    rw [h.self pins s σ H a c I r]
    exact (SeqAt.EqAt.same _).eqP
  · exact SeqAt.eqP_refs e fun E Q q => h.rc A pins s σ H a b c E Q I hu r q
theorem ents_vals : ∀ {xs : List Ent} {vs : List (NK × Addr × Value)} {ps : List Bool}, Paired EntR xs vs → xs.map (·.2.2) = List.map V.bl ps → vs.map (·.2.2) = ps.map Value.bool
  | [], _, ps, r, e => by
    cases r
    cases ps with
    | nil => rfl
    | cons p ps => cases e
  | x :: xs, _, ps, r, e => by
    cases r with
    | cons h t =>
      cases ps with
      | nil => cases e
      | cons p ps =>
        simp only [List.map_cons, List.cons.injEq] at e
        have h3 := h.2.2
        rw [e.1] at h3
        rw [List.map_cons, List.map_cons, ents_vals t e.2]
        exact congrArg (· :: _) h3
theorem bools_inj : ∀ {ps qs : List Bool}, ps.map Value.bool = qs.map Value.bool → ps = qs
  | [], [], _ => rfl
  | [], _ :: _, h => by cases h
  | _ :: _, [], h => by cases h
  | p :: ps, q :: qs, h => by
    simp only [List.map_cons, List.cons.injEq, Value.bool.injEq] at h
    rw [h.1, bools_inj h.2]
theorem entry_inj {knd : HeapKind X.prog X.w NK} : ∀ {vs us : List (NK × Addr × Value)}, vs.map (entryOfKey knd) = us.map (entryOfKey knd) → vs.map (·.2.2) = us.map (·.2.2)
  | [], [], _ => rfl
  | [], _ :: _, h => by cases h
  | _ :: _, [], h => by cases h
  | v :: vs, u :: us, h => by
    simp only [List.map_cons, List.cons.injEq] at h
    rw [List.map_cons, List.map_cons, entry_inj h.2]
    have e := congrArg DictEntry.val h.1
    exact congrArg (· :: _) e
theorem bools_all : ∀ {ps qs : List Bool}, ps.length = qs.length → (List.zipWith (fun p q => decide (p = q)) ps qs).all id = decide (ps = qs)
  | [], [], _ => rfl
  | [], _ :: _, h => by cases h
  | _ :: _, [], h => by cases h
  | p :: ps, q :: qs, h => by
    have ih := bools_all (ps := ps) (qs := qs) (by simpa using h)
    rw [List.zipWith_cons_cons, List.all_cons, ih]
    by_cases e : p = q
    · subst e
      simp
    · simp [e]
theorem eqAt_bools {A : Around} (p q : Bool) : SeqAt.EqP X.prog X.w A s (.bool p) (.bool q) (decide (p = q)) := by
  have h := (eqAt_V (A := A) (s := s) (y := V.bl p) (x := V.bl q) (u := .bool p) (v := .bool q) rfl rfl rfl rfl).eqP (prog := X.prog) (w := X.w)
  have e : eqV (V.bl p) (V.bl q) = decide (p = q) := by
    show (p == q) = decide (p = q)
    cases p <;> cases q <;> rfl
  rw [e] at h
  exact h
theorem eqOk_dct : EqOk X 0 (EqDct X) where
  refs := fun H x y c ⟨a, b, _, _, _, _, h1, h2, _⟩ => ⟨a, b, h1, h2⟩
  self := by
    intro pins s σ H a c I h
    obtain ⟨a1, b1, xs, ys, ps, qs, e1, e2, k1, k2, hk, h1, h2, rfl⟩ := h
    cases e1
    cases e2
    obtain ⟨_, vs, r, o, es, ep, g, _, d, l, _⟩ := kd_raw I k1
    obtain ⟨_, us, r', o', es', ep', g', _, d', l', _⟩ := kd_raw I k2
    rw [g] at g'
    cases g'
    rw [d] at d'
    injection d' with d1 d2
    have e3 : vs.map (entryOfKey (nestedKind X.prog X.w)) = us.map (entryOfKey (nestedKind X.prog X.w)) := by rw [← l, ← l', d1]
    have e4 := entry_inj e3
    rw [ents_vals r h1, ents_vals r' h2] at e4
    exact decide_eq_true (bools_inj e4)
  rc := by
    intro A pins s σ H a b c E Q I hu h q
    obtain ⟨a1, b1, xs, ys, ps, qs, e1, e2, k1, k2, hk, h1, h2, rfl⟩ := h
    cases e1
    cases e2
    obtain ⟨⟨_, da, _⟩, vs, r, m⟩ := kd_raw I k1
    obtain ⟨⟨_, db, _⟩, us, r', m'⟩ := kd_raw I k2
    have v1 := ents_vals r h1
    have v2 := ents_vals r' h2
    have l1 : vs.length = ps.length := by simpa using congrArg List.length v1
    have l2 : us.length = qs.length := by simpa using congrArg List.length v2
    have hkk : vs.map (·.1) = us.map (·.1) := by rw [ents_fst r, ents_fst r', hk]
    have l3 : vs.length = us.length := by simpa using congrArg List.length hkk
    have l4 : ps.length = qs.length := by omega
    have q' : Q (.bool ((List.zipWith (fun p q => decide (p = q)) ps qs).all id)) s := by rw [bools_all l4]; exact q
    refine rc_dictsH (knd := nestedKind X.prog X.w) (by show A.units + 1 + 8 < cLine; omega) da db m m' (by omega) hkk (by rw [List.length_zipWith]; omega) ?_ q'
    intro j x y d hx hy hd
    have ex : x.2.2 = .bool (ps.getD j false) := by
      have e := congrArg (fun l => l[j]?) v1
      simp only [List.getElem?_map, hx, Option.map_some] at e
      cases hp : ps[j]? with
      | none => rw [hp] at e; cases e
      | some p => rw [hp] at e; simp only [List.getD, hp]; exact Option.some.inj e
    have ey : y.2.2 = .bool (qs.getD j false) := by
      have e := congrArg (fun l => l[j]?) v2
      simp only [List.getElem?_map, hy, Option.map_some] at e
      cases hp : qs[j]? with
      | none => rw [hp] at e; cases e
      | some p => rw [hp] at e; simp only [List.getD, hp]; exact Option.some.inj e
    have ed : d = decide (ps.getD j false = qs.getD j false) := by
      rw [List.getElem?_zipWith] at hd
      cases hp : ps[j]? with
      | none => simp [hp] at hd
      | some p =>
        cases hq : qs[j]? with
        | none => simp [hp, hq] at hd
        | some q0 =>
          simp only [hp, hq, Option.some.injEq] at hd
          simp only [List.getD, hp, hq]
          exact hd.symm
    rw [ex, ey, ed]
    exact eqAt_bools _ _
theorem all_getD (cs : List Bool) : (List.range cs.length).all (fun j => cs.getD j false) = cs.all id := all_range cs
theorem eqOk_lst (h : EqOk X n R) : EqOk X (n + 1) (EqLst X.K R) where
  refs := fun H x y c ⟨a, b, _, _, _, h1, h2, _⟩ => ⟨a, b, h1, h2⟩
  self := by
    intro pins s σ H a c I q
    obtain ⟨a1, b1, xs, ys, cs, e1, e2, s1, s2, hl, hc, hr, rfl⟩ := q
    cases e1
    cases e2
    obtain rfl := I.list_inj s1 s2
    rw [List.all_eq_true]
    intro c hm
    obtain ⟨j, hj⟩ := List.getElem?_of_mem hm
    have hlt : j < xs.length := by rw [← hc]; exact (List.getElem?_eq_some_iff.mp hj).1
    obtain ⟨x, hx⟩ : ∃ x, xs[j]? = some x := ⟨_, List.getElem?_eq_getElem hlt⟩
    have r := hr j x x c hx hx hj
    obtain ⟨p, _, rfl, _⟩ := h.refs _ _ _ _ r
    exact h.self pins s σ H p c I r
  rc := by
    intro A pins s σ H a b c E Q I hu q hq
    obtain ⟨a1, b1, xs, ys, cs, e1, e2, s1, s2, hl, hc, hr, rfl⟩ := q
    cases e1
    cases e2
    obtain ⟨us, ru, lu, _⟩ := I.list s1
    obtain ⟨ws, rw', lw, _⟩ := I.list s2
    have l1 := ru.length
    have l2 := rw'.length
    have hz : us.toArray.size = ws.toArray.size := by simp only [List.size_toArray]; omega
    refine SeqAt.rcP_lists (e := fun j => cs.getD j false) lu.isList lw.isList hz (by omega) ?_ E Q ?_
    · intro j h1 h2
      have h1' : j < us.length := by simpa using h1
      have h2' : j < ws.length := by simpa using h2
      obtain ⟨x, hx⟩ : ∃ x, xs[j]? = some x := ⟨_, List.getElem?_eq_getElem (by omega)⟩
      obtain ⟨y, hy⟩ : ∃ y, ys[j]? = some y := ⟨_, List.getElem?_eq_getElem (by omega)⟩
      obtain ⟨c, hcj⟩ : ∃ c, cs[j]? = some c := ⟨_, List.getElem?_eq_getElem (by omega)⟩
      obtain ⟨u, eu, rxu⟩ := ru.get hx
      obtain ⟨v, ev, ryv⟩ := rw'.get hy
      have e1 : us.toArray[j] = u := by
        rw [List.getElem?_eq_getElem h1'] at eu
        simpa using Option.some.inj eu
      have e2 : ws.toArray[j] = v := by
        rw [List.getElem?_eq_getElem h2'] at ev
        simpa using Option.some.inj ev
      rw [e1, e2]
      simp only [List.getD, hcj]
      exact h.eqP (A := A.in1) I (by show A.units + 1 + n + 12 < cLine; omega) (hr j x y c hx hy hcj) rxu ryv
    · have e : us.toArray.size = cs.length := by simp only [List.size_toArray]; omega
      rw [e, all_getD]
      exact hq
/-- x == y -/
def rEqQ (R : EqQ) : R2 := fun x y H Q => ∃ c, R H x y c ∧ Q (.bl c) H
theorem op_eqQ (h : EqOk X n R) (hu : X.A.units + n + 12 < cLine) : OpR X (compareOp .Eq) (rEqQ R) := by
  intro pins s σ H x y v u Q I rx ry q
  obtain ⟨c, r, q⟩ := q
  obtain ⟨a, b, rfl, rfl⟩ := h.refs _ _ _ _ r
  cases rx
  cases ry
  exact h.rc X.A pins s σ H a b c _ _ I hu r ⟨.bl c, H, I, rfl, q⟩
end
end Tw
end
/-! TwDictC -/
section
set_option Elab.async false
set_option linter.all false
set_option maxRecDepth 100000
/-! {k: v for x in ..} whose keys are tuples; dict(a list of pairs). -/
namespace Tw
open PySem PySem.Spec PyProof.Rows L2
section
variable {X : Cx} {pins : List (Addr × Obj)} {σ : L2.St} {H : Hp} {s : Shared}
/-- the store of a comprehension -/
theorem kd_put {E : Value → Shared → Prop} {D b : Addr} {xs : List Ent} {k : NK} {v : V} {r : Value} {Q : Unit → Shared → Prop} (hu : X.A.units + 10 < cLine) (I : Inv X pins σ H s) (hd : Kd X.prog X.w X.K H D xs)
    (hk : Dp X.K H (.ref b) (NestedKey.data k)) (h8 : k.depth ≤ 8) (hn : lookE xs k = none) (hz : xs.length < sizeLine) (rv : RelV v r) (q : ∀ s', Inv X pins σ (upd H D (kdO X.prog X.w D (xs ++ [(k, b, v)]))) s' → Q () s') :
    wpAny (model X.prog X.w) X.A (dictSet D (.ref b) r) Q E s := by
  obtain ⟨⟨h1, h2, h3⟩, vs, rr, m⟩ := kd_raw I hd
  have hnone : atKey vs k = none := by
    have e := lookE_rel k rr
    rw [hn] at e
    simpa using RelO.none_of e
  refine wpAny_dictSet_heap (knd := nestedKind X.prog X.w) (by show X.A.units + 8 < cLine; omega) (key_room I hk h8) m (fun h' m' hs => q _ ?_) (by rw [← paired_len rr]; exact h1)
  rw [storedH_new hnone] at m'
  refine d_write I (by rw [hd.at_]; exact mut_kd) hs ?_ (kd_ok (by rw [List.length_append]; exact hz) h2 (paired_app ⟨rfl, rfl, rv⟩ rr) m')
  obtain ⟨o, _, _, e, _⟩ := m'
  exact ⟨o, e⟩
end
/-- its reading: D the new dict -/
def tKc (P : Program) (w : World) (K : PySem.W.Frag) (wi : TI) (g : TG) (tk tv : TE) (vs : List Nat) : TE := fun σ H Q => wi σ H fun J Ha => ∀ D, Ha D = none → ∃ W : Nat → Nat → Hp → Prop, (∃ m, W 0 m (upd Ha D (kdO P w D []))) ∧ ∀ i m Hb, W i m Hb →
  (J.stop i Hb ∧ Q (.ref D) Hb) ∨ (J.go i Hb ∧ ∃ Nx : Hp → Prop, (∀ Hc, Nx Hc → ∃ j, j < m ∧ W (i + 1) j Hc) ∧ ∀ x Hc, J.yld i Hb x Hc → g x (wipe σ vs) Hc fun σb Hd => wipe σb vs = wipe σ vs ∧
    tk σb Hd fun y He => tv σb He fun z Hf => ∃ xs b k, y = .ref b ∧ Kd P w K Hf D xs ∧ Dp K Hf (.ref b) (NestedKey.data k) ∧ k.depth ≤ 8 ∧ lookE xs k = none ∧ xs.length < sizeLine ∧ Nx (upd Hf D (kdO P w D (xs ++ [(k, b, z)]))))
section
variable {X : Cx} {kx vx tg iter : Expr} {scope : Scope} {own : List (Str × Nat)} {wi : TI} {g : TG} {tk tv : TE}
abbrev AllBlk (X : Cx) (scope : Scope) (φ : Cx → Prop) : Prop := ∀ (sz : Shared) (Hz : Hp) (C : Addr) (cl : List (Str × Addr)) (fp : List Addr), φ (X.blk sz Hz scope (compEnvC scope cl C X.env) fp)
theorem kc_core {pins : List (Addr × Obj)} {s : Shared} {σ : L2.St} {H : Hp} {Q : VK} {pos pos' : Pos} {use : Option (Value → Sem Unit)} {Qf : Value → Shared → Prop} (hu : X.A.units + 10 < cLine)
    (hc : X.calm = true) (hN : X.N.Nodup) (I : Inv X pins σ H s) (hi : PI X tg iter wi) (ok : BlkOk X.N X.env.scope scope own) (hg : AllBlk X scope fun Z => PG Z tg g) (hk : AllBlk X scope fun Z => PE Z kx tk) (he : AllBlk X scope fun Z => PE Z vx tv)
    (hs : ∀ x, foldedSetIterable iter X.env x = pure x) (h : tKc X.prog X.w X.K wi g tk tv (own.map (·.2)) σ H Q)
    (back : ∀ D C sz m Hz, Inv X pins σ Hz sz → Q (.ref D) Hz → sz.heap.Ns C m → FpOk X pins Hz C → compPost (model X.prog X.w) X.A X.xe use Qf (.ref D) C (.ok .next) sz) :
    wpAny (model X.prog X.w) X.A (comprehension (.DictComp kx vx [⟨tg, iter, [], 0⟩] scope pos) scope X.env pos' newDict false (eval iter X.env) use) Qf X.xe s := by
  have caught : ∀ n ∈ scope.names, n.2 = .free → ∃ c, X.env.cells.lookup n.1 = some c := by
    intro n hn e
    exact I.ok.has _ (ok.free n hn e)
  refine wpAny_comprehension_free (use := use) rfl hs (closure_ok caught) ok.kind (fun n hn e => (ok.uniq n hn).trans (by rw [e])) (thn (hi.run pins s σ H _ I h) fun src sa hsrc => thn hsrc fun itv sb hitv => ?_)
  obtain ⟨it, fp, tn, J, Hb, rfl, Ib, T, begin_, free_, q⟩ := hitv
  refine wpAny_newObj_type (newEnv_comp ?_)
  generalize hD : sb.heap.objs.size = D
  have new_ : Hb D = none := Ib.hok.fresh (Nat.le_of_eq hD)
  have notsys : (D == sysModules) = false := by
    rw [← hD]
    exact beq_eq_false_iff_ne.mpr (Nat.ne_of_gt Ib.big)
  obtain ⟨W, ⟨mz, wz⟩, turn⟩ := q D new_
  generalize hsc : ({ sb with heap := sb.heap.push { cls := .type "dict", data := .dict #[] } } : Shared) = sc
  have hsch : sc.heap = sb.heap.push { cls := .type "dict", data := .dict #[] } := by rw [← hsc]
  have Ic : Inv X pins σ (upd Hb D (kdO X.prog X.w D [])) sc := by
    rw [← hsc]
    refine Ib.laid (t' := sb.toks) (fun _ _ e => Heap.get?_push_of_some _ e) (Nat.le_of_eq hD) ?_
    have fresh_ := Heap.DictOfH.new (knd := nestedKind X.prog X.w) sb.heap
    rw [hD] at fresh_
    exact kd_ok (vs := []) (Nat.zero_le _) notsys .nil fresh_
  have below : ∀ b ∈ fp, b < sb.heap.objs.size := fun b hb => (T.obj _ _ begin_ b hb).elim fun o e => Heap.lt_size e.1
  have fpc : ∀ b ∈ fp, FpOk X pins (upd Hb D (kdO X.prog X.w D [])) b ∧ b < sc.heap.objs.size := by
    intro b hb
    have lt_ := below b hb
    constructor
    · refine ⟨?_, (free_ b hb).2⟩
      rw [upd_ne (by rw [← hD]; exact Nat.ne_of_lt lt_)]
      exact (free_ b hb).1
    · rw [hsch, Heap.size_push]
      exact Nat.lt_succ_of_lt lt_
  have tnc : tn 0 sc.heap := T.keep _ _ _ begin_ fun b _ o e => by
    rw [hsch]
    exact Heap.get?_push_of_some _ e
  have Id := block_start Ic ok hN fpc
  generalize hH : upd Hb D (kdO X.prog X.w D []) = Hc at *
  have PGc := hg sc Hc sc.heap.objs.size (cellsFrom (sc.heap.objs.size + 1) scope.names (cloFrom X.env.cells scope.names [])) fp
  have PKc := hk sc Hc sc.heap.objs.size (cellsFrom (sc.heap.objs.size + 1) scope.names (cloFrom X.env.cells scope.names [])) fp
  have PVc := he sc Hc sc.heap.objs.size (cellsFrom (sc.heap.objs.size + 1) scope.names (cloFrom X.env.cells scope.names [])) fp
  show codeAny _ _ (.compStart (.DictComp kx vx [⟨tg, iter, [], 0⟩] scope pos) 0 (.ref it) (.ref D) (compEnvC scope (cellsFrom (sc.heap.objs.size + 1) scope.names (cloFrom X.env.cells scope.names [])) sc.heap.objs.size X.env))
    (compPost (model X.prog X.w) X.A X.xe use Qf (.ref D) sc.heap.objs.size) { sc with heap := pushCells (sc.heap.push { cls := .type "dict", data := .dict #[] }) scope.names }
  generalize hce : compEnvC scope (cellsFrom (sc.heap.objs.size + 1) scope.names (cloFrom X.env.cells scope.names [])) sc.heap.objs.size X.env = ce at Id PGc PKc PVc ⊢
  have loc_ : ce.locals = sc.heap.objs.size := by rw [← hce]; rfl
  generalize hsd : ({ sc with heap := pushCells (sc.heap.push { cls := .type "dict", data := .dict #[] }) scope.names } : Shared) = sd at Id ⊢
  have tnd : tn 0 sd.heap := by
    refine T.keep _ _ _ tnc fun b _ o e => ?_
    rw [← hsd]
    exact pushCells_keeps _ _ _ _ (Heap.get?_push_of_some _ e)
  have blkFp : ∀ {σz : L2.St} {Hz : Hp} {sz : Shared}, Inv (X.blk sc Hc scope ce fp) [] σz Hz sz → (∀ b ∈ fp, Hz b = none) → ∀ b ∈ fp, FpOk (X.blk sc Hc scope ce fp) [] Hz b := by
    intro σz Hz sz Iz nz b hb
    refine ⟨nz b hb, (Iz.ok.exf b hb).1, Iz.ok.exfs b hb, Or.inl hb, fun n c e => (Iz.ok.exf b hb).2 n c e, fun p hp => ?_⟩
    have hp' : p ∈ ([] : List (Addr × Obj)) ++ [] := hp
    simp at hp'
  have loop : codeAny (model X.prog X.w) X.A (.compLoop (.DictComp kx vx [⟨tg, iter, [], 0⟩] scope pos) 0 (.ref it) (.ref D) ce) (compPost (model X.prog X.w) X.A X.xe use Qf (.ref D) sc.heap.objs.size) sd := by
    refine compLoop_anyD (fun m sz => ∃ i Hz, Inv (X.blk sc Hc scope ce fp) [] (wipe σ (own.map (·.2))) Hz sz ∧ tn i sz.heap ∧ (∀ b ∈ fp, Hz b = none) ∧ W i m Hz) ?_ mz ⟨0, Hc, Id, tnd, fun b hb => (fpc b hb).1.1, wz⟩
    rintro m se ⟨i, He, Ie, tne, ne_, we⟩
    rcases turn i m He we with ⟨stops, fin⟩ | ⟨goes, Nx, toNx, step⟩
    · refine thnF (T.done (X.blk sc Hc scope ce fp) rfl rfl rfl hc i [] se _ He (fun _ _ => False) Ie (blkFp Ie ne_) tne stops) fun r sf hf => ?_
      obtain ⟨rfl, If⟩ := hf
      have Ig : Inv X pins σ He sf := by
        refine Ic.call' (ch := fp) If.os If.base If.hok If.bare fun b hb => ?_
        have z := (fpc b hb).1
        exact ⟨z.2.2.2.1, z.2.1, z.2.2.2.2.1, z.2.2.2.2.2⟩
      have un_ : He sc.heap.objs.size = none := by
        rw [← loc_]
        exact If.free
      obtain ⟨mm, hmm, _⟩ := If.loc
      have hmm' : sf.heap.Ns sc.heap.objs.size mm := by
        rw [← loc_]
        exact hmm
      exact back D sc.heap.objs.size sf mm He Ig fin hmm' (Ic.fpOk (Nat.le_refl _) un_)
    · refine thnF (T.item (X.blk sc Hc scope ce fp) rfl rfl rfl hc i [] se _ He (fun _ _ => False) Ie (blkFp Ie ne_) tne goes) fun r sf hf => ?_
      obtain ⟨u, rfl, hf⟩ := hf
      refine thnF hf fun _ sg hg' => ?_
      obtain ⟨x, Hg, Ig, rx, yx, tng, ng⟩ := hg'
      have Igp := Ig.pinned (blkFp Ig ng) (T.obj _ _ tng)
      refine thnF (PGc.run _ sg _ Hg x u _ Igp rx (step x Hg yx)) fun _ sh ⟨σh, Hh, Ih, same_, qh⟩ => ?_
      have close_ : ∀ {sz : Shared} {Hz : Hp}, Inv (X.blk sc Hc scope ce fp) ([] ++ pinsAt fp sg.heap) σh Hz sz → Nx Hz →
          ∃ j, j < m ∧ ∃ i Hz, Inv (X.blk sc Hc scope ce fp) [] (wipe σ (own.map (·.2))) Hz sz ∧ tn i sz.heap ∧ (∀ b ∈ fp, Hz b = none) ∧ W i j Hz := by
        intro sz Hz Iz nx
        obtain ⟨j, hj, wj⟩ := toNx Hz nx
        have pinned_ : ∀ b ∈ fp, ∀ o, sg.heap.get? b = some o → sz.heap.get? b = some o ∧ Hz b = none := by
          intro b hb o e
          have z := Iz.pin (b, o) (List.mem_append_right _ (List.mem_append_right _ (mem_pinsAt hb e)))
          exact ⟨z.1, z.2.1⟩
        have len_ : (wipe σ (own.map (·.2))).length = σh.length := by
          rw [← same_]
          exact wipe_length _ _
        refine ⟨j, hj, i + 1, Hz, (Iz.unpinned (pins := [])).weak len_ ?_, T.keep _ _ _ tng fun b hb o e => (pinned_ b hb o e).1, ?_, wj⟩
        · intro l y e
          rw [← same_] at e
          exact (wipe_some e).1
        · intro b hb
          obtain ⟨o, e, _⟩ := T.obj _ _ tng b hb
          exact (pinned_ b hb o e).2
      refine wpAny_pure ?_
      simp only [if_true]
      refine thnF (PKc.run _ sh σh Hh _ Ih qh) fun ky si ⟨yk, Hi, Ii, rk, qi⟩ => ?_
      refine thnF (PVc.run _ si σh Hi _ Ii qi) fun vy sj ⟨yv, Hj, Ij, rv, xs, b, k, ek, kd, dk, k8, kn, kz, nx⟩ => ?_
      subst ek
      cases rk
      exact kd_put (X := X.blk sc Hc scope ce fp) hu Ij kd dk k8 kn kz rv fun sk Ik => close_ Ik nx
  exact codeAny_compStart_dict loop (T.self X.A 0 _ _ _ tnd loop)
/-- {k: v for x in ..} -/
theorem pe_kc {pos : Pos} (hu : X.A.units + 10 < cLine) (hc : X.calm = true) (hN : X.N.Nodup) (hi : PI X tg iter wi) (ok : BlkOk X.N X.env.scope scope own) (hg : AllBlk X scope fun Z => PG Z tg g) (hk : AllBlk X scope fun Z => PE Z kx tk) (he : AllBlk X scope fun Z => PE Z vx tv)
    (hs : ∀ x, foldedSetIterable iter X.env x = pure x := by intro _; rfl) : PE X (.DictComp kx vx [⟨tg, iter, [], 0⟩] scope pos) (tKc X.prog X.w X.K wi g tk tv (own.map (·.2))) := by
  constructor
  intro pins s σ H Q I h
  rw [arm_eval_DictComp]
  refine kc_core hu hc hN I hi ok hg hk he hs h fun D C sz m Hz Iz qz hm f => ⟨m, hm, fun hz same_ => ?_⟩
  obtain ⟨g0, g1, _, g3, g4, g5⟩ := f
  exact ⟨.ref D, Hz, Iz.turned (t' := sz.toks) (fun b o nb e => (same_.2 b nb).trans e) g0 g1 g3 g4 g5, rfl, qz⟩
end
/-! ### dict(a list of pairs), all keys different -/
theorem atKey_fresh {κ : Type} [DecidableEq κ] {xs : List (κ × Addr × Value)} {k : κ} (h : k ∉ xs.map (·.1)) : atKey xs k = none := by
  unfold atKey
  rw [Option.map_eq_none_iff, List.find?_eq_none]
  intro x hx e
  exact h (List.mem_map.mpr ⟨x, hx, of_decide_eq_true e⟩)
theorem storedAll_fresh {κ : Type} [DecidableEq κ] : ∀ (ps xs : List (κ × Addr × Value)), ((xs ++ ps).map (·.1)).Nodup → storedAllH xs ps = xs ++ ps
  | [], xs, _ => by simp [storedAllH]
  | p :: ps, xs, h => by
    have hn : p.1 ∉ xs.map (·.1) := by
      rw [List.map_append, List.map_cons, List.nodup_append] at h
      exact fun q => h.2.2 _ q _ List.mem_cons_self rfl
    show storedAllH (storedH xs p.1 p.2.1 p.2.2) ps = xs ++ p :: ps
    rw [storedH_new (atKey_fresh hn), storedAll_fresh ps _ (by simpa using h)]
    simp
def rDictKd (X : Cx) : List V → Hp → VK → Prop := fun xs H Q => ∃ (a : Addr) (ps : List Addr) (es : List Ent), xs = [.ref a] ∧ SqL X.K H a (ps.map V.ref) ∧ Paired (fun p (e : Ent) => SqT X.K H p [.ref e.2.1, e.2.2]) ps es ∧
  (∀ e ∈ es, Dp X.K H (.ref e.2.1) e.1.data ∧ e.1.depth ≤ 8) ∧ (es.map (·.1)).Nodup ∧ ∀ p, H p = none → Q (.ref p) (upd H p (kdO X.prog X.w p es))
theorem prs_raw {X : Cx} {pins : List (Addr × Obj)} {σ : L2.St} {H : Hp} {s : Shared} (I : Inv X pins σ H s) : ∀ {ps : List Addr} {es : List Ent}, Paired (fun p (e : Ent) => SqT X.K H p [.ref e.2.1, e.2.2]) ps es →
    ∃ vs : List (NK × Addr × Value), Paired EntR es vs ∧ ps.length = vs.length ∧ ∀ (j : Nat) p v, ps[j]? = some p → vs[j]? = some v → PairAt s.heap p (.ref v.2.1) v.2.2
  | _, _, .nil => ⟨[], .nil, rfl, fun j p v h => by simp at h⟩
  | _, _, .cons (b := e) h t => by
    obtain ⟨vs, r, l, q⟩ := prs_raw I t
    obtain ⟨us, rv, tp, _⟩ := I.tuple h
    obtain ⟨u, v, rfl, ru, rw'⟩ := Vals.two rv
    cases ru
    refine ⟨(e.1, e.2.1, v) :: vs, .cons ⟨rfl, rfl, rw'⟩ r, by simp [l], fun j p z hp hz => ?_⟩
    cases j with
    | zero =>
      simp only [List.getElem?_cons_zero, Option.some.injEq] at hp hz
      subst hp hz
      obtain ⟨o, e1, e2, n, e3⟩ := tp
      exact Or.inl ⟨o, e1, e2, n, e3⟩
    | succ j => exact q j p z (by simpa using hp) (by simpa using hz)
theorem refs_back : ∀ {ps : List Addr} {us : List Value}, Vals (ps.map V.ref) us → us = ps.map Value.ref
  | [], _, r => by cases r; rfl
  | p :: ps, _, r => by
    cases r with
    | cons h t =>
      cases h
      rw [refs_back t]
      rfl
theorem call_dictKd {X : Cx} (hcalm : X.calm = true) (hu : X.A.units + 12 < cLine) : CallR X (.type "dict") (rDictKd X) := by
  intro pins s σ H xs us Q I r q
  obtain ⟨a, ps, es, rfl, hq, hp, hk, hn, q⟩ := q
  obtain ⟨u, rfl, rx⟩ := Vals.one r
  cases rx
  obtain ⟨its, rv, pl, hz⟩ := I.list hq
  obtain rfl := refs_back rv
  rw [List.length_map] at hz
  obtain ⟨vs, re, hl, hpr⟩ := prs_raw I hp
  have hsys : (s.heap.objs.size == sysModules) = false := beq_eq_false_iff_ne.mpr (Nat.ne_of_gt I.big)
  have his : ∀ x ∈ vs, (nestedKind X.prog X.w).is s.heap x.1 x.2.1 := by
    intro y hy
    obtain ⟨x, hx, e1, e2⟩ := ents_mem re hy
    have z := hk x hx
    rw [e1, e2] at z
    exact key_room I z.1 z.2
  have P := PairArg.list (prog := X.prog) (w := X.w) a (ps.map Value.ref).toArray (fun j => ps.getD j 0) (vs.map fun v => (Value.ref v.2.1, v.2.2))
  refine call_dict_pairsH (knd := nestedKind X.prog X.w) (ps := vs) P (I.ok.hd hcalm) (by show X.A.units + 1 + 1 + 8 < cLine; omega) ⟨pl, ?_, ?_⟩ ⟨by simp, ?_⟩ ?_ (by simp only [List.length_map]; omega) ?_
  · simp [hl]
  · intro j k v e
    rw [List.getElem?_map] at e
    cases hv : vs[j]? with
    | none => rw [hv] at e; cases e
    | some z =>
      rw [hv] at e
      simp only [Option.map_some, Option.some.injEq, Prod.mk.injEq] at e
      obtain ⟨rfl, rfl⟩ := e
      have hlt : j < ps.length := by rw [hl]; exact (List.getElem?_eq_some_iff.mp hv).1
      obtain ⟨p, hpj⟩ : ∃ p, ps[j]? = some p := ⟨_, List.getElem?_eq_getElem hlt⟩
      have hgd : ps.getD j 0 = p := by simp [List.getD, hpj]
      simp only [hgd]
      exact ⟨by simp [hpj], hpr j p z hpj hv⟩
  · intro i key v rel
    have e : (vs.map fun v => (Value.ref v.2.1, v.2.2))[i]? = some (key, v) := rel
    rw [List.getElem?_map] at e
    cases hv : vs[i]? with
    | none => rw [hv] at e; cases e
    | some z =>
      rw [hv] at e
      simp only [Option.map_some, Option.some.injEq, Prod.mk.injEq] at e
      obtain ⟨rfl, rfl⟩ := e
      exact ⟨z.1, z.2.1, rfl, rfl⟩
  · intro h' st x hx
    refine nestedKind_stays.stays (fun b o _ _ hb _ => st b o (Nat.ne_of_lt (Heap.lt_size hb)) (by simp) hb) (his x hx)
  · intro h' tk m st
    have hf : storedAllH [] vs = vs := storedAll_fresh vs [] (by rw [List.nil_append, ents_fst re]; exact hn)
    rw [hf] at m
    exact ⟨.ref s.heap.objs.size, _, I.laid (t' := tk) (fun b o e => st b o (by simp) e) (Nat.le_refl _) (kd_ok (by rw [paired_len re, ← hl]; exact hz) hsys re m), rfl, q _ I.fresh⟩
end Tw
end
/-! TwZip -/
section
set_option Elab.async false
set_option linter.all false
set_option maxRecDepth 100000
/-! zip(a, b, strict=..) of two tuples. -/
namespace Tw
open PySem PySem.Spec PyProof.Rows L2
section
variable {M : Model} {A : Around} {E : Value → Shared → Prop} {s : Shared}
/-- a built-in class called with keywords -/
theorem callWith_tyKw {pos : Pos} {T : String} {env : Env} {e : Expr} {rest : List Expr} {kws : List Keyword} {Q : Value → Shared → Prop} (hall : (backToKw pos (keywordEach kws env)).all (·.1.isSome) = true)
    (h : wpAny M A (spliced (backTo pos (starEach (e :: rest) env))) (fun vs s1 => wpAny M A (evalAll ((backToKw pos (keywordEach kws env)).map (·.2)))
      (fun ks s2 => wpAny M A (call (.type T) vs (((backToKw pos (keywordEach kws env)).filterMap (·.1)).zip ks)) Q E s2) E s1) E s)
    (hpl : ((backTo pos (starEach (e :: rest) env)).any (·.1) || (backToKw pos (keywordEach kws env)).any (·.1.isNone)) = false)
    (he : starEach (e :: rest) env = (false, eval e env) :: starEach rest env) :
    wpAny M A (callWith pos (.type T) [] (backTo pos (starEach (e :: rest) env)) (backToKw pos (keywordEach kws env))) Q E s := by
  have h2 := evalArgs_kw2 (f := .type T) (Q := fun a s1 => wpAny M A (call (.type T) a.pos a.kw) Q E s1) hall h he
  unfold callWith
  refine wpAny_bind (wpAny_holding (wpAny_mono h2 (fun a sa ha => wpAny_bind (wpAny_standAt ?_)) fun _ _ x => x))
  simp only [hpl]
  refine wpAny_bind (wpAny_pure ?_)
  exact wpAny_bind (wpAny_mono ha (fun r sb hb => wpAny_bind (wpAny_holding (wpAny_point (wpAny_pure hb)))) fun _ _ x => x)
end
/-! ### the zip object, strict or not -/
abbrev ZipAt (st : Bool) (h : Heap) (z TI TO : Addr) (own : Value) : Prop := h.get? z = some { cls := .type "zip", dict := none, data := .fields #[own, .bool false, .bool st, .ref TI, .ref TO], slots := #[] }
abbrev zA1 (h : Heap) (a : Addr) : Heap := h.push { cls := .type "tuple_iterator", data := .fields #[.ref a, .int 0 0] }
abbrev zA2 (h : Heap) (a b : Addr) : Heap := (zA1 h a).push { cls := .type "tuple_iterator", data := .fields #[.ref b, .int 0 0] }
abbrev zA3 (h : Heap) (a b : Addr) : Heap := (zA2 h a b).push { cls := .type "tuple", data := .seq #[.ref h.objs.size, .ref (zA1 h a).objs.size] }
abbrev zA4 (h : Heap) (a b : Addr) : Heap := (zA3 h a b).push { cls := .type "tuple", data := .seq #[.none, .none] }
abbrev zA5 (st : Bool) (h : Heap) (a b : Addr) : Heap := (zA4 h a b).push { cls := .type "zip", data := .fields #[.none, .bool false, .bool st, .ref (zA2 h a b).objs.size, .ref (zA3 h a b).objs.size] }
theorem typeCall_zip_strict (a b c : Value) : checkTypeCall "zip" ⟨[a, b], [(Str.ofString "strict", c)]⟩ = pure () := by kernel_rfl
theorem newCall_zip_strict (a b c : Value) : checkBuiltinCall "zip.__new__" ⟨[.type "zip", a, b], [(Str.ofString "strict", c)]⟩ = pure () := by kernel_rfl
theorem args_init_strict (obj a b c : Value) : argsOk "object.__init__" ⟨[obj, a, b], [(Str.ofString "strict", c)]⟩ := by unfold argsOk; kernel_rfl
set_option maxHeartbeats 1000000 in
theorem meets_zip_strict (st : Bool) (a b : Addr) (xs ys : Array Value) :
    Meets (Builtin.«zip.__new__» ⟨[.type "zip", .ref a, .ref b], [(Str.ofString "strict", .bool st)]⟩) (fun _ R s => s.heap.IsTuple a xs ∧ s.heap.IsTuple b ys ∧
      R (.ok (.ret (.ref (zA4 s.heap a b).objs.size))) { s with heap := zA5 st s.heap a b }) :=
  .of_wp fun prog w A R s h => by
    obtain ⟨hp, g, d, tk, os⟩ := s
    obtain ⟨ha, hb, h⟩ := h
    have hsub := sub_zip
    have hA : Heap.IsTuple (Shared.heap ⟨hp, g, d, tk, os⟩) a xs := ha
    have hB : Heap.IsTuple (Shared.heap ⟨hp.push { cls := .type "tuple_iterator", data := .fields #[.ref a, .int 0 0] }, g, d, tk, os⟩) b ys := Heap.IsTuple.push hb _
    have e2 : (Str.ofString "strict" != ("strict" : Str)) = false := by decide +kernel
    wp_walk using wpAny_pyIter_tuple hA, wpAny_pyIter_tuple hB
    all_goals exact ⟨_, rfl, h⟩
end Tw
end
/-! TwZip2 -/
section
set_option Elab.async false
set_option linter.all false
set_option maxRecDepth 100000
namespace Tw
open PySem PySem.Spec PyProof.Rows L2
section
variable {prog : Program} {w : World} {A : Around} {E : Value → Shared → Prop} {s : Shared}
open Builtin.SmallTypes in
theorem orEnd_item {it l : Addr} {i : Nat} {its} {x : Value} {Q : Option Value → Shared → Prop} (hit : s.heap.IsTupleIter it l i) (hl : s.heap.IsTuple l its) (hx : its[i]? = some x)
    (q : ∀ h', h'.IsTupleIter it l (i + 1) → Heap.SameBut it s.heap h' → Q (some x) { s with heap := h' }) : wpAny (model prog w) A (nextOrEnd (.ref it)) Q E s := by
  unfold nextOrEnd
  exact wpAny_bind (wpAny_attempt (RZ.nextOf_tuple_item hit hl hx fun h' a b => wpAny_pure (q h' a b)))
open Builtin.SmallTypes in
theorem orEnd_end {it l : Addr} {i : Nat} {its} {Q : Option Value → Shared → Prop} (hh : A.handled = none) (hit : s.heap.IsTupleIter it l i) (hl : s.heap.IsTuple l its) (hx : its[i]? = none)
    (q : ∀ h', Heap.ExtBut it s.heap h' → Q none { s with heap := h' }) : wpAny (model prog w) A (nextOrEnd (.ref it)) Q E s := by
  unfold nextOrEnd
  refine wpAny_bind (wpAny_attempt (RZ.nextOf_tuple_end hh hit hl hx fun h' e st he => ?_))
  obtain ⟨o, ho, hc⟩ := he
  exact wpAny_bind (wpAny_isInstance (T := "StopIteration") (b := true) ⟨o, ho, hc⟩ isSubtype_stop (wpAny_pure (q h' st)))
theorem stop_new {α : Type} {Q : α → Shared → Prop} (hh : A.handled = none) (q : ∀ h' e, (∀ c o, s.heap.get? c = some o → h'.get? c = some o) → (∃ o, h'.get? e = some o ∧ o.cls = .type "StopIteration") → E (.ref e) { s with heap := h' }) :
    wpAny (model prog w) A (Builtin.SmallTypes.stopIteration (α := α)) Q E s := by
  unfold Builtin.SmallTypes.stopIteration
  simp only [newExc, newTuple]
  refine wpAny_bind (wpAny_bind (wpAny_newObj_type ?_ (by size_fits)))
  refine wpAny_bind (m := firstArgMember _ _) (wpAny_of_eq (a := Value.none) (by first | rfl | (simp only [firstArgMember]; rfl)) ?_)
  refine wpAny_newObj_type ?_ (by size_fits)
  simp only [raiseNew]
  refine wpAny_bind (wpAny_handled ?_)
  rw [hh]
  refine wpAny_bind (wpAny_pure (wpAny_throw ?_))
  exact q _ _ (fun c o e => Heap.get?_push_of_some _ (Heap.get?_push_of_some _ e)) ⟨_, Heap.get?_push_size _ rfl, rfl⟩
theorem zs_item {z TI TO i1 i2 a b : Addr} {k : Nat} {xs ys : Array Value} {x y p q : Value} {Q : Value → Shared → Prop} (D : ZipApart z TI TO i1 i2 a b) (hz : ZipAt true s.heap z TI TO .none) (hTI : IsPair s.heap TI (.ref i1) (.ref i2)) (hTO : IsPair s.heap TO p q)
    (h1 : s.heap.IsTupleIter i1 a k) (h2 : s.heap.IsTupleIter i2 b k) (ha : s.heap.IsTuple a xs) (hb : s.heap.IsTuple b ys) (hx : xs[k]? = some x) (hy : ys[k]? = some y)
    (fin : ∀ h', ZipAt true h' z TI TO (rawInt s.heap.objs.size) → IsPair h' TO x y → h'.IsTupleIter i1 a (k + 1) → h'.IsTupleIter i2 b (k + 1) → IsPair h' s.heap.objs.size x y → h'.objs.size = s.heap.objs.size + 1 →
      (∀ c o, c ≠ z → c ≠ TO → c ≠ i1 → c ≠ i2 → s.heap.get? c = some o → h'.get? c = some o) → Q (.ref s.heap.objs.size) { s with heap := h' }) :
    wpAny (model prog w) A (Builtin.«zip.__next__» ⟨[.ref z], []⟩) (fun r t => ∃ v, r = .done (.ret v) ∧ Q v t) E s := by
  show wpAny _ _ (field (.ref z) 2 >>= _) _ _ _
  refine wpAny_bind (wpAny_field hz rfl (x := .bool true) rfl ?_)
  show wpAny _ _ (field (.ref z) 3 >>= _) _ _ _
  refine wpAny_bind (wpAny_field hz rfl (x := .ref TI) rfl (wpAny_bind (wpAny_seqItems hTI rfl ?_)))
  show wpAny _ _ (Builtin.SmallTypes.ownedTupleIsFree (.ref z) >>= _) _ _ _
  unfold Builtin.SmallTypes.ownedTupleIsFree
  refine wpAny_bind (wpAny_bind (wpAny_field hz rfl (x := .none) rfl (wpAny_pure ?_)))
  simp only [if_true]
  refine wpAny_bind (wpAny_rule (wpAny_bind (wpAny_field hz rfl (x := .ref TO) rfl ?_)))
  refine wpAny_bind (wpAny_setField_rec hz (by simp) fun ha1 za1 sa1 => ?_)
  have za1' : ZipAt true ha1 z TI TO .ellipsis := za1
  refine wpAny_bind ?_
  simp only [List.zipIdx_cons, List.zipIdx_nil, List.forIn_cons, List.forIn_nil]
  refine wpAny_bind (wpAny_bind (wpAny_onRaise ?_))
  show wpAny _ _ (Builtin.SmallTypes.nextOrEnd (.ref i1)) _ _ _
  refine orEnd_item (h1.extBut sa1.extBut D.i1z) (ha.extBut sa1.extBut D.l1z) hx fun ha2 it1 sa2 => ?_
  have to2 : IsPair ha2 TO p q := sa2.extBut _ _ D.TOi1 (sa1.extBut _ _ D.TOz hTO)
  refine wpAny_bind (wpAny_seqItems to2 rfl (wpAny_bind (wpAny_updateSeq_pair to2 fun ha3 to3 sa3 => ?_)))
  have to3' : IsPair ha3 TO x q := to3
  refine wpAny_bind (wpAny_letGo (wpAny_pure ?_))
  refine wpAny_bind (wpAny_bind (wpAny_onRaise ?_))
  show wpAny _ _ (Builtin.SmallTypes.nextOrEnd (.ref i2)) _ _ _
  refine orEnd_item (((h2.extBut sa1.extBut D.i2z).extBut sa2.extBut D.i12.symm).extBut sa3.extBut D.TOi2.symm) (((hb.extBut sa1.extBut D.l2z).extBut sa2.extBut D.l2i1).extBut sa3.extBut D.l2TO) hy fun ha4 it2 sa4 => ?_
  have to4 : IsPair ha4 TO x q := sa4.extBut _ _ D.TOi2 to3'
  refine wpAny_bind (wpAny_seqItems to4 rfl (wpAny_bind (wpAny_updateSeq_pair to4 fun ha5 to5 sa5 => ?_)))
  have to5' : IsPair ha5 TO x y := to5
  refine wpAny_bind (wpAny_letGo (wpAny_pure (wpAny_pure ?_)))
  refine wpAny_bind (wpAny_seqItems to5' rfl (wpAny_bind (wpAny_newTuple ?_)))
  have size5 : ha5.objs.size = s.heap.objs.size := by rw [sa5.1, sa4.1, sa3.1, sa2.1, sa1.1]
  have zip5 : ZipAt true ha5 z TI TO .ellipsis := sa5.extBut _ _ D.TOz.symm (sa4.extBut _ _ D.i2z.symm (sa3.extBut _ _ D.TOz.symm (sa2.extBut _ _ D.i1z.symm za1')))
  have keep5 : ∀ c o, c ≠ z → c ≠ TO → c ≠ i1 → c ≠ i2 → s.heap.get? c = some o → ha5.get? c = some o := by
    intro c o c1 c2 c3 c4 e
    exact sa5.extBut _ _ c2 (sa4.extBut _ _ c4 (sa3.extBut _ _ c2 (sa2.extBut _ _ c3 (sa1.extBut _ _ c1 e))))
  have first5 : ha5.IsTupleIter i1 a (k + 1) := ((it1.extBut sa3.extBut D.TOi1.symm).extBut sa4.extBut D.i12).extBut sa5.extBut D.TOi1.symm
  have second5 : ha5.IsTupleIter i2 b (k + 1) := it2.extBut sa5.extBut D.TOi2.symm
  have ltz : z < ha5.objs.size := Heap.lt_size zip5
  show wpAny _ _ (Builtin.SmallTypes.ownedTupleHandOut (.ref z) (.ref ha5.objs.size) >>= _) _ _ _
  unfold Builtin.SmallTypes.ownedTupleHandOut
  have zip6 : ZipAt true (ha5.push { cls := .type "tuple", data := .seq #[x, y] }) z TI TO .ellipsis := Heap.get?_push_of_some _ zip5
  refine wpAny_bind (wpAny_bind (wpAny_setField_rec zip6 (by simp) fun ha7 za7 sa7 => ?_))
  have zip7 : ZipAt true ha7 z TI TO (rawInt ha5.objs.size) := za7
  refine wpAny_setField_rec zip7 (by simp) fun ha8 za8 sa8 => ?_
  have zip8 : ZipAt true ha8 z TI TO (rawInt ha5.objs.size) := za8
  have lift : ∀ c o, c ≠ z → ha5.get? c = some o → ha8.get? c = some o := fun c o nc e => sa8.extBut _ _ nc (sa7.extBut _ _ nc (Heap.get?_push_of_some _ e))
  have pair8 : IsPair ha8 ha5.objs.size x y := sa8.extBut _ _ (Nat.ne_of_gt ltz) (sa7.extBut _ _ (Nat.ne_of_gt ltz) (Heap.get?_push_size _ rfl))
  have size8 : ha8.objs.size = ha5.objs.size + 1 := by rw [sa8.1, sa7.1, Heap.size_push]
  rw [size5] at zip8 pair8 size8
  refine wpAny_pure ⟨_, rfl, ?_⟩
  show Q (.ref ha5.objs.size) _
  rw [size5]
  exact fin ha8 zip8 (lift _ _ D.TOz to5') (first5.at fun o e => lift _ o D.i1z e) (second5.at fun o e => lift _ o D.i2z e) pair8 size8 fun c o c1 c2 c3 c4 e => lift c o c1 (keep5 c o c1 c2 c3 c4 e)
theorem zs_end {z TI TO i1 i2 a b : Addr} {k : Nat} {xs ys : Array Value} {p q : Value} {Q : Fin → Shared → Prop} (hh : A.handled = none) (D : ZipApart z TI TO i1 i2 a b) (hz : ZipAt true s.heap z TI TO .none) (hTI : IsPair s.heap TI (.ref i1) (.ref i2))
    (hTO : IsPair s.heap TO p q) (h1 : s.heap.IsTupleIter i1 a k) (h2 : s.heap.IsTupleIter i2 b k) (ha : s.heap.IsTuple a xs) (hb : s.heap.IsTuple b ys) (hx : xs[k]? = none) (hy : ys[k]? = none)
    (fin : ∀ h' e, (∀ c o, c ≠ z → c ≠ TO → c ≠ i1 → c ≠ i2 → s.heap.get? c = some o → h'.get? c = some o) → (∃ o, h'.get? e = some o ∧ o.cls = .type "StopIteration") → E (.ref e) { s with heap := h' }) :
    wpAny (model prog w) A (Builtin.«zip.__next__» ⟨[.ref z], []⟩) Q E s := by
  show wpAny _ _ (field (.ref z) 2 >>= _) _ _ _
  refine wpAny_bind (wpAny_field hz rfl (x := .bool true) rfl ?_)
  show wpAny _ _ (field (.ref z) 3 >>= _) _ _ _
  refine wpAny_bind (wpAny_field hz rfl (x := .ref TI) rfl (wpAny_bind (wpAny_seqItems hTI rfl ?_)))
  show wpAny _ _ (Builtin.SmallTypes.ownedTupleIsFree (.ref z) >>= _) _ _ _
  unfold Builtin.SmallTypes.ownedTupleIsFree
  refine wpAny_bind (wpAny_bind (wpAny_field hz rfl (x := .none) rfl (wpAny_pure ?_)))
  simp only [if_true]
  refine wpAny_bind (wpAny_rule (wpAny_bind (wpAny_field hz rfl (x := .ref TO) rfl ?_)))
  refine wpAny_bind (wpAny_setField_rec hz (by simp) fun ha1 za1 sa1 => ?_)
  have za1' : ZipAt true ha1 z TI TO .ellipsis := za1
  refine wpAny_bind ?_
  simp only [List.zipIdx_cons, List.zipIdx_nil, List.forIn_cons, List.forIn_nil]
  refine wpAny_bind (wpAny_bind (wpAny_onRaise ?_))
  show wpAny _ _ (Builtin.SmallTypes.nextOrEnd (.ref i1)) _ _ _
  refine orEnd_end hh (h1.extBut sa1.extBut D.i1z) (ha.extBut sa1.extBut D.l1z) hx fun ha2 sa2 => ?_
  have za2 : ZipAt true ha2 z TI TO .ellipsis := sa2 _ _ D.i1z.symm za1'
  refine wpAny_bind (wpAny_setField_rec za2 (by simp) fun ha3 za3 sa3 => ?_)
  have za3' : ZipAt true ha3 z TI TO .none := za3
  refine wpAny_bind (wpAny_bind (wpAny_bind ?_))
  simp only [List.drop_succ_cons, List.drop_zero, List.zipIdx_cons, List.zipIdx_nil, List.forIn_cons, List.forIn_nil]
  have sz3 : ha3.objs.size ≥ ha2.objs.size := Nat.le_of_eq sa3.1.symm
  have it2 : ha3.IsTupleIter i2 b k := ((h2.extBut sa1.extBut D.i2z).extBut sa2 D.i12.symm).extBut sa3.extBut D.i2z
  have hb3 : ha3.IsTuple b ys := ((hb.extBut sa1.extBut D.l2z).extBut sa2 D.l2i1).extBut sa3.extBut D.l2z
  refine wpAny_bind (orEnd_end hh it2 hb3 hy fun ha4 sa4 => ?_)
  simp only [Option.isSome_none, Bool.false_eq_true, if_false]
  refine wpAny_pure (wpAny_pure (wpAny_bind (wpAny_rule ?_)))
  have keep4 : ∀ c o, c ≠ z → c ≠ TO → c ≠ i1 → c ≠ i2 → s.heap.get? c = some o → ha4.get? c = some o := by
    intro c o c1 _ c3 c4 e
    exact sa4 _ _ c4 (sa3.extBut _ _ c1 (sa2 _ _ c3 (sa1.extBut _ _ c1 e)))
  exact stop_new hh fun h' e st he => fin h' e (fun c o c1 c2 c3 c4 x => st _ _ (keep4 c o c1 c2 c3 c4 x)) he
theorem pyNext_zs_item {z TI TO i1 i2 a b : Addr} {k : Nat} {xs ys : Array Value} {x y p q : Value} {Q : Option Value → Shared → Prop} (D : ZipApart z TI TO i1 i2 a b) (hz : ZipAt true s.heap z TI TO .none) (hTI : IsPair s.heap TI (.ref i1) (.ref i2)) (hTO : IsPair s.heap TO p q)
    (h1 : s.heap.IsTupleIter i1 a k) (h2 : s.heap.IsTupleIter i2 b k) (ha : s.heap.IsTuple a xs) (hb : s.heap.IsTuple b ys) (hx : xs[k]? = some x) (hy : ys[k]? = some y)
    (fin : ∀ h', ZipAt true h' z TI TO (rawInt s.heap.objs.size) → IsPair h' TO x y → h'.IsTupleIter i1 a (k + 1) → h'.IsTupleIter i2 b (k + 1) → IsPair h' s.heap.objs.size x y → h'.objs.size = s.heap.objs.size + 1 →
      (∀ c o, c ≠ z → c ≠ TO → c ≠ i1 → c ≠ i2 → s.heap.get? c = some o → h'.get? c = some o) → Q (some (.ref s.heap.objs.size)) { s with heap := h' }) : wpAny (model prog w) A (pyNext (.ref z)) Q E s := by
  have ty : s.TypeIs (.ref z) "zip" := ⟨_, hz, rfl⟩
  unfold pyNext
  refine wpAny_bind (wpAny_attempt (wpAny_callSpecial?_slot (name := Str.ofString "__next__") ty PySem.F.slot_zip_next (wpAny_call_entry PySem.F.slot_zip_next ty PySem.F.entry_zip_next ?_ (PySem.F.args_zip_next_1 _))))
  exact zs_item D hz hTI hTO h1 h2 ha hb hx hy fun h' a1 a2 a3 a4 a5 a6 a7 => wpAny_pure (fin h' a1 a2 a3 a4 a5 a6 a7)
theorem pyNext_zs_end {z TI TO i1 i2 a b : Addr} {k : Nat} {xs ys : Array Value} {p q : Value} {Q : Option Value → Shared → Prop} (hh : A.handled = none) (D : ZipApart z TI TO i1 i2 a b) (hz : ZipAt true s.heap z TI TO .none) (hTI : IsPair s.heap TI (.ref i1) (.ref i2))
    (hTO : IsPair s.heap TO p q) (h1 : s.heap.IsTupleIter i1 a k) (h2 : s.heap.IsTupleIter i2 b k) (ha : s.heap.IsTuple a xs) (hb : s.heap.IsTuple b ys) (hx : xs[k]? = none) (hy : ys[k]? = none)
    (fin : ∀ h', (∀ c o, c ≠ z → c ≠ TO → c ≠ i1 → c ≠ i2 → s.heap.get? c = some o → h'.get? c = some o) → Q none { s with heap := h' }) : wpAny (model prog w) A (pyNext (.ref z)) Q E s := by
  have ty : s.TypeIs (.ref z) "zip" := ⟨_, hz, rfl⟩
  unfold pyNext
  refine wpAny_bind (wpAny_attempt (wpAny_callSpecial?_slot (name := Str.ofString "__next__") ty PySem.F.slot_zip_next (wpAny_call_entry PySem.F.slot_zip_next ty PySem.F.entry_zip_next ?_ (PySem.F.args_zip_next_1 _))))
  refine zs_end hh D hz hTI hTO h1 h2 ha hb hx hy fun h' e st he => ?_
  obtain ⟨o, ho, hc⟩ := he
  exact wpAny_bind (wpAny_isInstance (T := "StopIteration") (b := true) ⟨o, ho, hc⟩ isSubtype_stop (wpAny_pure (fin _ st)))
end
/-- the tuples at a and b, walked together, the items in new pairs; both end at once -/
def ItzS (K : PySem.W.Frag) (a b : Addr) : It where
  go := fun i H => ∃ (xs ys : List V) (x y : V), (SqT K H a xs ∧ SqT K H b ys) ∧ xs[i]? = some x ∧ ys[i]? = some y
  yld := fun i H v H' => ∃ T x y, v = .ref T ∧ H T = none ∧ H' = upd H T (.tup [x, y]) ∧ (∀ xs, SqT K H a xs → xs[i]? = some x) ∧ ∀ ys, SqT K H b ys → ys[i]? = some y
  stop := fun i H => ∃ xs ys : List V, (SqT K H a xs ∧ SqT K H b ys) ∧ xs.length ≤ i ∧ ys.length ≤ i
theorem five {z TI TO i1 i2 c : Addr} {φ : Addr → Prop} (h : c ∈ [z, TI, TO, i1, i2]) (hz : φ z) (hTI : φ TI) (hTO : φ TO) (h1 : φ i1) (h2 : φ i2) : φ c := by
  simp only [List.mem_cons, List.not_mem_nil, or_false] at h
  rcases h with h | h | h | h | h <;> (subst h; assumption)
theorem go_zs {P : Program} {w : World} {A : Around} {E : Value → Shared → Prop} {s : Shared} {elts : List Expr} {x1} {pos : Pos} {z TI TO T : Addr} {Q : Unit → Shared → Prop} (hz : ZipAt true s.heap z TI TO (rawInt T))
    (q : ∀ h', ZipAt true h' z TI TO .none → Heap.SameBut z s.heap h' → Q () { s with heap := h' }) : wpAny (model P w) A (letOwnedTupleGo (.Tuple elts x1 pos) (.ref z) (.ref T)) Q E s := by
  unfold letOwnedTupleGo
  refine wpAny_bind (wpAny_load hz ?_)
  show wpAny _ _ (if (["enumerate", "zip", "dict_itemiterator", "dict_reverseitemiterator", "odict_iterator", "itertools.zip_longest", "itertools.pairwise"].contains "zip" && (#[rawInt T, .bool false, .bool true, .ref TI, .ref TO] : Array Value)[0]? == some (rawInt T)) = true
    then _ else _) Q E s
  rw [if_pos (by simp)]
  refine wpAny_bind (wpAny_rule ?_)
  show wpAny _ _ (setField (.ref z) 0 .none) Q E s
  exact wpAny_setField_rec hz (by simp) fun h' a b => q h' a b
theorem self_zs {P : Program} {w : World} {A : Around} {E : Value → Shared → Prop} {s : Shared} {st : Bool} {z TI TO : Addr} {own : Value} {Q : Value → Shared → Prop} (hz : ZipAt st s.heap z TI TO own) (q : Q (.ref z) s) : wpAny (model P w) A (pyIter (.ref z)) Q E s := by
  have ty : s.TypeIs (.ref z) "zip" := ⟨_, hz, rfl⟩
  refine wpAny_pyIter_slot ty PySem.F.slot_zip_iter (wpAny_call_entry PySem.F.slot_zip_iter ty PySem.F.entry_zip_iter ?_ (PySem.F.args_zip_iter_1 _))
  show wpAny _ _ (ret (.ref z)) _ _ s
  exact wpAny_pure ⟨_, rfl, "zip", _, ty, PySem.F.slot_zip_next.lookup, q⟩
theorem turn_zs {P : Program} {w : World} {K : PySem.W.Frag} {elts : List Expr} {kk : Nat} {tpos : Pos} {a b z TI TO i1 i2 : Addr} (D : ZipApart z TI TO i1 i2 a b) :
    Turn P w K (.Tuple elts kk tpos) (ItzS K a b) [z, TI, TO, i1, i2] z (fun i h => ZipAt true h z TI TO .none ∧ IsPair h TI (.ref i1) (.ref i2) ∧ (∃ x y, IsPair h TO x y) ∧ h.IsTupleIter i1 a i ∧ h.IsTupleIter i2 b i) where
  mem := List.mem_cons_self
  obj := by
    rintro i h ⟨hz, hTI, ⟨x, y, hTO⟩, ⟨o1, e1, _, d1⟩, ⟨o2, e2, _, d2⟩⟩ c hc
    refine five (φ := fun c => ∃ o, h.get? c = some o ∧ ∀ v, o.data ≠ .cell v) hc ⟨_, hz, ?_⟩ ⟨_, hTI, ?_⟩ ⟨_, hTO, ?_⟩ ⟨o1, e1, ?_⟩ ⟨o2, e2, ?_⟩
    · intro v q; cases q
    · intro v q; cases q
    · intro v q; cases q
    · intro v q; rw [d1] at q; cases q
    · intro v q; rw [d2] at q; cases q
  keep := by
    rintro i h h' ⟨hz, hTI, ⟨x, y, hTO⟩, h1, h2⟩ k
    refine ⟨k z (by simp) _ hz, k TI (by simp) _ hTI, ⟨x, y, k TO (by simp) _ hTO⟩, ?_, ?_⟩
    · exact h1.at fun o e => k i1 (by simp) o e
    · exact h2.at fun o e => k i2 (by simp) o e
  item := by
    intro X hP hw hK hc i pins s σ H E I hf st hg
    subst hP hw hK
    obtain ⟨hz, hTI, ⟨x0, y0, hTO⟩, h1, h2⟩ := st
    obtain ⟨xs, ys, x, y, ⟨hqx, hqy⟩, hx, hy⟩ := hg
    obtain ⟨us, ru, tu, _⟩ := I.tuple hqx
    obtain ⟨ws, rw', tw, _⟩ := I.tuple hqy
    obtain ⟨u, hu, rxu⟩ := ru.get hx
    obtain ⟨v, hv, ryv⟩ := rw'.get hy
    have ltz : z < s.heap.objs.size := Heap.lt_size hz
    refine pyNext_zs_item D hz hTI hTO h1 h2 tu tw (x := u) (y := v) (by simpa using hu) (by simpa using hv) fun ha za toa ita itb pra sza kpa => ?_
    refine ⟨_, rfl, go_zs (s := { s with heap := ha }) za fun hb zb sb => ?_⟩
    have pair_ : hb.get? s.heap.objs.size = some { cls := .type "tuple", data := .seq #[u, v] } := (sb.2 _ (Nat.ne_of_gt ltz)).trans pra
    have fresh_ : ObjOk X.prog X.w (upd H s.heap.objs.size (.tup [x, y])) hb s.heap.objs.size (.tup [x, y]) :=
      ⟨(by decide : 2 ≤ sizeLine), [u, v], .cons rxu (.cons ryv .nil), ⟨_, pair_, rfl, _, rfl⟩⟩
    have Ia : Inv X pins σ (upd H s.heap.objs.size (.tup [x, y])) { s with heap := hb } := by
      refine I.turnedNew (t' := s.toks) (ch := [z, TI, TO, i1, i2]) (fun c o nb e => ?_) hf (Nat.le_refl _) fresh_
      refine (sb.2 c fun q => nb (by simp [q])).trans (kpa c o ?_ ?_ ?_ ?_ e)
      · intro q; exact nb (by simp [q])
      · intro q; exact nb (by simp [q])
      · intro q; exact nb (by simp [q])
      · intro q; exact nb (by simp [q])
    refine ⟨.ref s.heap.objs.size, _, Ia, rfl, ⟨_, x, y, rfl, I.fresh, rfl, fun l hl => ?_, fun l hl => ?_⟩, ⟨zb, ?_, ⟨u, v, ?_⟩, ?_, ?_⟩, fun c hcm => ?_⟩
    · rw [I.tuple_inj hl hqx]; exact hx
    · rw [I.tuple_inj hl hqy]; exact hy
    · exact (sb.2 _ D.TIz).trans (kpa _ _ D.TIz D.TITO D.TIi1 D.TIi2 hTI)
    · exact (sb.2 _ D.TOz).trans toa
    · exact ita.at fun o e => (sb.2 _ D.i1z).trans e
    · exact itb.at fun o e => (sb.2 _ D.i2z).trans e
    · have lt_ : c < s.heap.objs.size := five (φ := fun c => c < s.heap.objs.size) hcm ltz (Heap.lt_size hTI) (Heap.lt_size hTO) (h1.elim fun _ e => Heap.lt_size e.1) (h2.elim fun _ e => Heap.lt_size e.1)
      rw [upd_ne (Nat.ne_of_lt lt_)]
      exact (hf c hcm).1
  done := by
    intro X hP hw hK hc i pins s σ H E I hf st hg
    subst hP hw hK
    obtain ⟨hz, hTI, ⟨x0, y0, hTO⟩, h1, h2⟩ := st
    obtain ⟨xs, ys, ⟨hqx, hqy⟩, ex, ey⟩ := hg
    obtain ⟨us, ru, tu, _⟩ := I.tuple hqx
    obtain ⟨ws, rw', tw, _⟩ := I.tuple hqy
    have l1 := ru.length
    have l2 := rw'.length
    refine pyNext_zs_end (I.ok.hd hc) D hz hTI hTO h1 h2 tu tw (by simp; omega) (by simp; omega) fun ha kpa => ⟨rfl, ?_⟩
    refine I.turnedL (t' := s.toks) (ch := [z, TI, TO, i1, i2]) (fun c o nb e => kpa c o ?_ ?_ ?_ ?_ e) hf
    · intro q; exact nb (by simp [q])
    · intro q; exact nb (by simp [q])
    · intro q; exact nb (by simp [q])
    · intro q; exact nb (by simp [q])
  self := fun A i s Q E st q => self_zs st.1 q
/-- zip(e, e2, strict=..): over two tuples -/
def iZipK (K : PySem.W.Frag) (st : Bool) (ta : TA) : TI := fun σ H R => ta σ H fun vs H1 => ∃ a b xs ys, vs = [.ref a, .ref b] ∧ SqT K H1 a xs ∧ SqT K H1 b ys ∧ R (if st then ItzS K a b else RZ.ItzT K a b) H1
theorem call_zip_kw {P : Program} {w : World} {A : Around} {E : Value → Shared → Prop} {s : Shared} (st : Bool) {a b : Addr} {xs ys : Array Value} {Q : Value → Shared → Prop} (ha : s.heap.IsTuple a xs) (hb : s.heap.IsTuple b ys)
    (q : ∀ h', ZipAt st h' (s.heap.objs.size + 4) (s.heap.objs.size + 2) (s.heap.objs.size + 3) .none → IsPair h' (s.heap.objs.size + 2) (.ref s.heap.objs.size) (.ref (s.heap.objs.size + 1)) →
      IsPair h' (s.heap.objs.size + 3) .none .none → h'.IsTupleIter s.heap.objs.size a 0 → h'.IsTupleIter (s.heap.objs.size + 1) b 0 → (∀ c o, s.heap.get? c = some o → h'.get? c = some o) → Q (.ref (s.heap.objs.size + 4)) { s with heap := h' }) :
    wpAny (model P w) A (call (.type "zip") [.ref a, .ref b] [(Str.ofString "strict", .bool st)]) Q E s := by
  refine callType_newKw PySem.F.called_zip (by decide) (typeCall_zip_strict _ _ _) (newCall_zip_strict _ _ _) (fun obj => args_init_strict obj _ _ _) PySem.F.entry_zip_new (meets_zip_strict st a b xs ys) ⟨ha, hb, ?_⟩
  have n1 : (zA1 s.heap a).objs.size = s.heap.objs.size + 1 := Heap.size_push ..
  have n2 : (zA2 s.heap a b).objs.size = s.heap.objs.size + 2 := by rw [Heap.size_push, n1]
  have n3 : (zA3 s.heap a b).objs.size = s.heap.objs.size + 3 := by rw [Heap.size_push, n2]
  have n4 : (zA4 s.heap a b).objs.size = s.heap.objs.size + 4 := by rw [Heap.size_push, n3]
  have w5 : (zA5 st s.heap a b).get? (zA4 s.heap a b).objs.size = some _ := Heap.get?_push_size _ rfl
  have w4 : (zA5 st s.heap a b).get? (zA3 s.heap a b).objs.size = some _ := Heap.get?_push_of_some _ (Heap.get?_push_size _ rfl)
  have w3 : (zA5 st s.heap a b).get? (zA2 s.heap a b).objs.size = some _ := Heap.get?_push_of_some _ (Heap.get?_push_of_some _ (Heap.get?_push_size _ rfl))
  have w2 : (zA5 st s.heap a b).get? (zA1 s.heap a).objs.size = some _ := Heap.get?_push_of_some _ (Heap.get?_push_of_some _ (Heap.get?_push_of_some _ (Heap.get?_push_size _ rfl)))
  have w1 : (zA5 st s.heap a b).get? s.heap.objs.size = some _ := Heap.get?_push_of_some _ (Heap.get?_push_of_some _ (Heap.get?_push_of_some _ (Heap.get?_push_of_some _ (Heap.get?_push_size _ rfl))))
  show _ ∧ _
  rw [n2, n3, n4] at w5
  rw [n1, n2] at w3
  rw [n3] at w4
  rw [n1] at w2
  rw [n4]
  exact ⟨⟨_, w5, rfl⟩, q _ w5 w3 w4 ⟨_, w1, rfl, rfl⟩ ⟨_, w2, rfl, rfl⟩ fun c o e => Heap.get?_push_of_some _ (Heap.get?_push_of_some _ (Heap.get?_push_of_some _ (Heap.get?_push_of_some _ (Heap.get?_push_of_some _ e))))⟩
theorem pi_zipK {X : Cx} {e e2 : Expr} {ta : TA} {st : Bool} {p pos tpos cp kp : Pos} {cj : Nat} {elts : List Expr} {kk : Nat} (hg : Gl X "zip") (hm : X.mg "zip" = none) (ha : PA X [e, e2] ta)
    (hs : starEach [e, e2] X.env = (false, eval e X.env) :: starEach [e2] X.env := by rfl)
    (hpl : ((backTo pos (starEach [e, e2] X.env)).any (·.1) || (backToKw pos (keywordEach [⟨some (Str.ofString "strict"), .Constant (.bool st) cj cp, kp⟩] X.env)).any (·.1.isNone)) = false := by rfl) :
    PI X (.Tuple elts kk tpos) (.Call (.Name "zip" p) [e, e2] [⟨some (Str.ofString "strict"), .Constant (.bool st) cj cp, kp⟩] pos) (iZipK X.K st ta) := by
  constructor
  intro pins s σ H R I h
  refine wpAny_Call_Name_kw (ld_blt I hg hm PyProof.Rows.boot_zip ?_)
  refine callWith_tyKw (by rfl) (thn (ha.run pos pins s σ H _ I h) fun us sa hus => ?_) hpl hs
  obtain ⟨vs, Ha, Ia, ra, a, b, xs, ys, rfl, qx, qy, q⟩ := hus
  obtain ⟨u, v, rfl, ru, rv⟩ := Vals.two ra
  cases ru
  cases rv
  have hk : PK X [⟨some (Str.ofString "strict"), .Constant (.bool st) cj cp, kp⟩] (tCons (tC (.bl st)) tNil) := pk_cons pe_bl pk_nil
  refine thn (hk.run pos pins sa σ Ha (fun zs Hz => zs = [.bl st] ∧ Hz = Ha) Ia ⟨rfl, rfl⟩) fun ws sb hws => ?_
  obtain ⟨zs, Hb, Ib, rz, rfl, rfl⟩ := hws
  obtain ⟨wv, rfl, rwv⟩ := Vals.one rz
  cases rwv
  obtain ⟨us, ruu, tu, _⟩ := Ib.tuple qx
  obtain ⟨ws, rww, tw, _⟩ := Ib.tuple qy
  have sizes : ∀ c, c ∈ [sb.heap.objs.size + 4, sb.heap.objs.size + 2, sb.heap.objs.size + 3, sb.heap.objs.size, sb.heap.objs.size + 1] → FpOk X pins Hb c := by
    intro c hc
    have le_ : sb.heap.objs.size ≤ c := five (φ := fun c => sb.heap.objs.size ≤ c) hc (by omega) (by omega) (by omega) (by omega) (by omega)
    exact Ib.fpOk le_ (Ib.hok.fresh le_)
  have apart : ZipApart (sb.heap.objs.size + 4) (sb.heap.objs.size + 2) (sb.heap.objs.size + 3) sb.heap.objs.size (sb.heap.objs.size + 1) a b := PySem.W.ktu_apart sb.heap.objs.size a b (tu.elim fun _ z => Heap.lt_size z.1) (tw.elim fun _ z => Heap.lt_size z.1)
  refine call_zip_kw st tu tw fun hz z1 z2 z3 z4 z5 kp => self_zs z1 ?_
  have Ic : Inv X pins σ Hb { sb with heap := hz } := Ib.kept (t' := sb.toks) kp
  cases st with
  | true => exact ⟨_, _, _, _, Hb, rfl, Ic, turn_zs apart, ⟨z1, z2, ⟨_, _, z3⟩, z4, z5⟩, sizes, q⟩
  | false => exact ⟨_, _, _, _, Hb, rfl, Ic, RZ.turn_zipT apart, ⟨z1, z2, ⟨_, _, z3⟩, z4, z5⟩, sizes, q⟩
end Tw
end
/-! TwOps -/
section
set_option Elab.async false
set_option linter.all false
set_option maxRecDepth 100000
/-! Own methods that operators reach: x[i], y in x, x != y, str(x) of instances. -/
namespace Tw
open PySem PySem.Spec PyProof.Rows L2
section
variable {X : Cx} {k : Nat} {C f : Addr} {fd : FuncData} {ps : List Str} {sp : Sp} {pins : List (Addr × Obj)} {σ : L2.St} {H : Hp} {s : Shared} {a dx : Addr} {fs : List (Str × V)}
/-- the def behind an operator runs, under some built-ins -/
theorem run_own {A : Around} {us : List Value} {vs : List V} {Q : VK} {E : Value → Shared → Prop} (F : FnOk X.prog X.w X.K X.mg X.base CX0 k f fd ps sp) (hb : Binds X.K fd ps []) (hr : Room k A) (e0 : Env0 X.prog X.w X.K X.mg X.base A X.stack s H) (I : Inv X pins σ H s)
    (r : Vals vs us) (q : sp vs H Q E0) : wpAny (model X.prog X.w) A (call (.ref f) us) (EP X pins σ Q) E s := by
  have len_ := F.len _ _ _ _ q
  have hb2 := hb s us I.kIn (by rw [List.append_nil, ← r.length]; exact len_)
  rw [List.append_nil] at hb2
  refine wpAny_call (codeAny_mono (F.run A X.stack s H ⟨us, []⟩ us vs Q E0 hr e0 hb2 r q) fun res s' hq => ?_)
  cases res with
  | error e => exact (hq : False).elim
  | ok fl =>
    cases fl with
    | ret u => exact I.after hq
    | next => exact (hq : False).elim
    | brk => exact (hq : False).elim
    | cont => exact (hq : False).elim
theorem inst_at (I : Inv X pins σ H s) (h : H a = some (.ins C dx fs)) : ∃ ox od, PySem.W.InstAt s.heap a ox C od := by
  obtain ⟨mA, J, _⟩ := ins_get I.hok h
  obtain ⟨od, J, _⟩ := J.look
  exact ⟨_, _, J⟩
/-- x[i] by an own __getitem__ -/
def tOwnItem (C : Addr) (sp : Sp) (ta tb : TE) : TE := fun σ H Q => ta σ H fun x H1 => tb σ H1 fun y H2 => ∃ a dx fs, x = .ref a ∧ H2 a = some (.ins C dx fs) ∧ sp [.ref a, y] H2 Q E0
theorem pe_ownItem {o i : Expr} {pos : Pos} {ta tb : TE} (hs : PySem.W.findIn X.K (.ref C) "__getitem__" = some (some (.ref f))) (hf : PySem.W.fnIn X.K f = true) (hfn : PySem.W.isFn X.K (.ref f) = true) (F : FnOk X.prog X.w X.K X.mg X.base CX0 k f fd ps sp)
    (hr : Room (k + 1) X.A) (hb : Binds X.K fd ps []) (ho : PE X o ta) (hi : PE X i tb) (hsl : ∀ ov iv, subscripted i true ov iv = runValue (.builtin "lifetime.subscript" ⟨[ov, iv], []⟩) := by intro _ _; rfl) : PE X (.Subscript o i pos) (tOwnItem C sp ta tb) := by
  constructor
  intro pins s σ H Q I h
  refine Subscript_ (binT ho hi I h fun v u sa x y Ha Ia rx ry q => ?_)
  obtain ⟨a, dx, fs, rfl, ha, q⟩ := q
  cases rx
  obtain ⟨ox, od, J⟩ := inst_at Ia ha
  obtain ⟨m, hF⟩ := Ia.fr
  refine PySem.W.sub_K hF Ia.ok.mod.kin J hs hf hfn ?_ (hsl _ _)
  exact run_own (vs := [.ref a, y]) F hb hr.in1 Ia.env0.in1 Ia (.cons rfl (.cons ry .nil)) q
/-- y in x by an own __contains__ that gives a bool -/
def rOwnIn (C : Addr) (sp : Sp) : R2 := fun y x H Q => ∃ a dx fs, x = .ref a ∧ H a = some (.ins C dx fs) ∧ sp [.ref a, y] H (fun z H' => ∃ b, z = .bl b ∧ Q (.bl b) H') E0
theorem op_ownIn (hs : PySem.W.findIn X.K (.ref C) "__contains__" = some (some (.ref f))) (hfn : PySem.W.isFn X.K (.ref f) = true) (F : FnOk X.prog X.w X.K X.mg X.base CX0 k f fd ps sp) (hr : Room k X.A) (hb : Binds X.K fd ps []) :
    OpR X (compareOp .In) (rOwnIn C sp) := by
  intro pins s σ H y x v u Q I ry rx h
  obtain ⟨a, dx, fs, rfl, ha, q⟩ := h
  cases rx
  obtain ⟨ox, od, J⟩ := inst_at I ha
  obtain ⟨m, hF⟩ := I.fr
  refine PySem.W.in_K hF I.ok.mod.kin J hs hfn (wpAny_mono (run_own (vs := [.ref a, y]) F hb hr I.env0 I (.cons rfl (.cons ry .nil)) q) (fun r sa z => ?_) fun _ _ z => z)
  obtain ⟨z, Ha, Ia, rz, b, rfl, qb⟩ := z
  cases rz
  exact wpAny_truthy_bool ⟨.bl b, Ha, Ia, rfl, qb⟩
/-- str(x) by an own __str__ that gives a text -/
def rOwnStr (C : Addr) (sp : Sp) : List V → Hp → VK → Prop := fun xs H Q => ∃ a dx fs, xs = [.ref a] ∧ H a = some (.ins C dx fs) ∧ sp [.ref a] H (fun z H' => ∃ t, z = .str t ∧ Q (.str t) H') E0
theorem call_strOwn (hs : PySem.W.findIn X.K (.ref C) "__str__" = some (some (.ref f))) (hfn : PySem.W.isFn X.K (.ref f) = true) (F : FnOk X.prog X.w X.K X.mg X.base CX0 k f fd ps sp) (hr : Room (k + 2) X.A) (hb : Binds X.K fd ps []) :
    CallR X (.type "str") (rOwnStr C sp) := by
  intro pins s σ H xs us Q I r h
  obtain ⟨a, dx, fs, rfl, ha, q⟩ := h
  obtain ⟨u, rfl, ru⟩ := Vals.one r
  cases ru
  obtain ⟨ox, od, J⟩ := inst_at I ha
  have hr1 : Room (k + 1) X.A.in1 := Room.in1 hr
  have hr2 : Room k X.A.in1.in1 := hr1.in1
  have hu : X.A.in1.in1.units < cLine := hr2.units0
  have g : MeetsIn X.prog X.w (Builtin.«str.__new__» ⟨[.type "str", .ref a], []⟩) (fun A R sa => A = X.A.in1 ∧ sa = s ∧ ∀ r s', EP X pins σ (fun z H' => ∃ t, z = .str t ∧ Q (.str t) H') r s' → R (.ok (.ret r)) s') := by
    refine MeetsIn.of_wp fun A R sa hS => ?_
    obtain ⟨rfl, rfl, hR⟩ := hS
    rw [str_new_tree]
    refine wpAny_bind (wpAny_pure ?_)
    refine wpAny_bind (wpAny_of_eq isSubtype_str_str ?_)
    refine wpAny_bind ?_
    unfold Builtin.Str.strOf
    refine wpAny_bind (wpAny_cRoomFor hu (wpAny_bind (PySem.W.special_fn I.kIn J hs (beq_iff_eq.mp hfn) ?_)))
    refine wpAny_mono (run_own (vs := [.ref a]) F hb hr2 I.env0.in1.in1 I (.cons rfl .nil) q) (fun r sb hr' => ?_) fun _ _ z => z
    obtain ⟨z, Ha, Ia, rz, t, rfl, qt⟩ := id hr'
    obtain ⟨tk, rfl⟩ := rz
    refine wpAny_bind (wpAny_pure ?_)
    exact wpAny_pure (wpAny_pure ⟨_, rfl, hR _ _ hr'⟩)
  refine callType_newIn PySem.F.called_str (by decide) (PySem.F.typeCall_str_1 _) (PySem.F.newCall_str_1 _) (fun obj => PySem.F.args_object_init_2 obj _) PySem.F.entry_str_new g ⟨rfl, rfl, fun r s' hq => ?_⟩
  obtain ⟨z, Ha, Ia, rz, t, rfl, qt⟩ := hq
  obtain ⟨tk, rfl⟩ := rz
  exact ⟨typeIs_str _ _ _, .str t, Ha, Ia, ⟨tk, rfl⟩, qt⟩
/-- x != y by an own __eq__ that gives a bool -/
def rOwnNe (C : Addr) (sp : Sp) : R2 := fun x y H Q => ∃ a dx fs b dy gs, x = .ref a ∧ y = .ref b ∧ H a = some (.ins C dx fs) ∧ H b = some (.ins C dy gs) ∧ sp [.ref a, .ref b] H (fun z H' => ∃ c, z = .bl c ∧ Q (.bl (!c)) H') E0
theorem op_ownNe (hs : PySem.W.findIn X.K (.ref C) "__eq__" = some (some (.ref f))) (hne : PySem.W.findIn X.K (.ref C) "__ne__" = some (some (.builtin "object.__ne__"))) (hob : PySem.W.mroIn X.K C (.type "object") = some true) (hfn : PySem.W.isFn X.K (.ref f) = true)
    (F : FnOk X.prog X.w X.K X.mg X.base CX0 k f fd ps sp) (hr : Room (k + 1) X.A) (hb : Binds X.K fd ps []) : OpR X (compareOp .NotEq) (rOwnNe C sp) := by
  intro pins s σ H x y v u Q I rx ry h
  obtain ⟨a, dx, fs, b, dy, gs, rfl, rfl, ha, hb', q⟩ := h
  cases rx
  cases ry
  obtain ⟨ox, od, J⟩ := inst_at I ha
  obtain ⟨oy, oe, J'⟩ := inst_at I hb'
  have hr1 : Room k X.A.in1 := Room.in1 hr
  have slot_ : Slot "object" "__ne__" "object.__ne__" := PySem.F.cmp_object.ne
  have run_ : wpAny (model X.prog X.w) X.A (call (.builtin "object.__ne__") [.ref a, .ref b]) (fun v s' => (∃ c, v = .bool c) ∧ EP X pins σ Q v s') X.xe s := by
    have LI : PySem.W.Looks (model X.prog X.w) s.heap (isInstance (.ref a) (.type "object")) true := J.type.andThen (PySem.W.looks_mroIn I.kIn hob)
    refine wpAny_call (codeAny_call_builtin slot_.plain PySem.F.cmpEntry_ne ?_)
    refine @PySem.W.check_slot (model X.prog X.w) _ _ s "object.__ne__" "object" "__ne__" (.ref a) [.ref b] [] _ PySem.F.cmpKind_ne PySem.F.cmpSplit_ne LI (PySem.F.cmpArgs_ne _ _) ?_
    show wpAny _ _ (Builtin.«object.__ne__» ⟨[.ref a, .ref b], []⟩) _ _ s
    unfold Builtin.«object.__ne__»
    refine wpAny_bind (m := slotArgs "__ne__" 1 _) (wpAny_pure ?_)
    refine wpAny_bind (wpAny_cRoomFor hr1.units0 (wpAny_bind (PySem.W.ifBound_K I.kIn J hs hfn ?_)))
    refine wpAny_mono (run_own (vs := [.ref a, .ref b]) F hb hr1 I.env0.in1 I (.cons rfl (.cons rfl .nil)) q) (fun r sb hr' => ?_) fun _ _ z => z
    obtain ⟨z, Ha, Ia, rz, c, rfl, qc⟩ := hr'
    cases rz
    refine wpAny_bind (wpAny_truthy_bool ?_)
    exact wpAny_pure ⟨⟨!c, rfl⟩, .bl (!c), Ha, Ia, rfl, qc⟩
  have one : wpAny (model X.prog X.w) X.A (tryCompare (.ref a) "__ne__" (.ref b)) (fun r s' => ∃ v, r = some v ∧ EP X pins σ Q v s') X.xe s := by
    unfold tryCompare
    refine wpAny_bind ?_
    simp only [callSpecialIfBound?, bindSpecialIfBound?]
    refine wpAny_holding (wpAny_bind (wpAny_bind (wpAny_bind (J.type.here ((PySem.W.looks_findIn I.kIn hne).here ?_)))))
    simp only [slot_.bind]
    refine wpAny_bind (wpAny_askSetting (wpAny_ite ?_))
    have fin_ : wpAny (model X.prog X.w) X.A (call (.builtin "object.__ne__") ([.ref a] ++ [.ref b]) >>= fun v => pure (some v))
        (fun r s' => wpAny (model X.prog X.w) X.A (match r with | some .notImplemented => pure none | none => pure none | some v => pure (some v)) (fun r s' => ∃ v, r = some v ∧ EP X pins σ Q v s') X.xe s') X.xe s := by
      refine wpAny_bind (wpAny_mono run_ (fun v s' hv => wpAny_pure ?_) fun _ _ z => z)
      obtain ⟨⟨c, rfl⟩, hv⟩ := hv
      exact wpAny_pure ⟨_, rfl, hv⟩
    split
    · exact wpAny_bind (wpAny_pure (wpAny_pure fin_))
    · exact wpAny_tryCatch (wpAny_bind (wpAny_pure (wpAny_pure fin_)))
  show wpAny _ _ (richCompare .NotEq (.ref a) (.ref b)) _ _ s
  unfold richCompare
  refine wpAny_holding (wpAny_bind (wpAny_cRoomFor (show X.A.units < cLine from (Room.mono hr (Nat.zero_le _)).units0) ?_))
  refine wpAny_bind (J.type.here (wpAny_bind (J'.type.here ?_)))
  simp only [bne_self_eq_false, Bool.false_eq_true, if_false]
  refine wpAny_bind (wpAny_pure ?_)
  simp only [Bool.false_eq_true, if_false]
  refine wpAny_bind (wpAny_mono one (fun r s' z => ?_) fun _ _ z => z)
  obtain ⟨v, rfl, hv⟩ := z
  exact wpAny_pure hv
end
end Tw
end
/-! TwEnum -/
section
set_option Elab.async false
set_option linter.all false
set_option autoImplicit false
set_option maxRecDepth 100000
/-! enumerate over a tuple. -/
namespace Tw
open PySem PySem.Spec PyProof.Rows L2 PySem.W
/-- enumerate(v): of anything whose iterator is told -/
theorem meets_enum1 {v : Value} {oi : Obj} {Hv : Heap → Prop} (B : Begins v oi Hv) : Meets (Builtin.«enumerate.__new__» ⟨[.type "enumerate", v], []⟩)
    (fun _ R s => Hv s.heap ∧ R (.ok (.ret (.ref (s.heap.push oi).objs.size))) { s with heap := (s.heap.push oi).push { cls := .type "enumerate", data := .fields #[.none, .bool false, .ref s.heap.objs.size, rawInt 0, .none, .none] } }) :=
  .of_wp fun prog w A R s hS => by
    obtain ⟨hp, gg, dd, tt, oo⟩ := s
    obtain ⟨hv, hR⟩ := hS
    have hsub := sub_enumerate
    have qi : ∀ {A' : Around} {E : Value → Shared → Prop} {Q : Value → Shared → Prop}, Q (.ref hp.objs.size) ⟨hp.push oi, gg, dd, tt, oo⟩ → wpAny (model prog w) A' (pyIter v) Q E ⟨hp, gg, dd, tt, oo⟩ :=
      fun z => B.iter prog w _ _ ⟨hp, gg, dd, tt, oo⟩ _ hv z
    wp_walk using qi
    refine wpAny_stack_any fun st => wpAny_pure ?_
    split
    · rename_i c _ _ _ _ _
      cases (c == Value.type "enumerate")
      · wp_walk using qi
        exact ⟨_, rfl, hR⟩
      · wp_walk using qi
        exact ⟨_, rfl, hR⟩
    · wp_walk using qi
      exact ⟨_, rfl, hR⟩
section
variable {prog : Program} {w : World} {A : Around} {E : Value → Shared → Prop} {s : Shared}
theorem call_enum_tup {t : Addr} {items : Array Value} {Q : Value → Shared → Prop} (ht : s.heap.IsTuple t items)
    (q : ∀ h', IsEnum h' (s.heap.objs.size + 1) s.heap.objs.size 0 .none → h'.IsTupleIter s.heap.objs.size t 0 → h'.objs.size = s.heap.objs.size + 2 → (∀ b o, s.heap.get? b = some o → h'.get? b = some o) → Q (.ref (s.heap.objs.size + 1)) { s with heap := h' }) :
    wpAny (model prog w) A (call (.type "enumerate") [.ref t]) Q E s := by
  have B := begins_tuple t items
  refine callType_new F.called_enumerate (by decide) (F.typeCall_enumerate_1 _) (F.newCall_enumerate_1 _) (fun obj => F.args_object_init_2 obj _) F.entry_enumerate_new (meets_enum1 B) ⟨ht, ?_⟩
  generalize ho : ({ cls := .type "tuple_iterator", data := .fields #[.ref t, .int 0 0] } : Obj) = oi
  have hf : oi.isFreed = false := by rw [← ho]; rfl
  have hz : (s.heap.push oi).objs.size = s.heap.objs.size + 1 := Heap.size_push ..
  show _ ∧ _
  rw [hz]
  have he := Heap.get?_push_size (s.heap.push oi) (o := { cls := .type "enumerate", data := .fields #[.none, .bool false, .ref s.heap.objs.size, rawInt 0, .none, .none] }) rfl
  rw [hz] at he
  refine ⟨⟨_, he, rfl⟩, q _ he ⟨_, Heap.get?_push_of_some _ (Heap.get?_push_size _ hf), by rw [← ho], by rw [← ho]; rfl⟩ (by rw [Heap.size_push, hz]) fun b o x => Heap.get?_push_of_some _ (Heap.get?_push_of_some _ x)⟩
end
/-- the tuple at a, each item in a new pair -/
def IteT (K : PySem.W.Frag) (a : Addr) : It where
  go := fun i H => ∃ (xs : List V) (x : V), SqT K H a xs ∧ xs[i]? = some x
  yld := fun i H v H' => ∃ T x, v = .ref T ∧ H T = none ∧ H' = upd H T (.tup [.int (i : Nat), x]) ∧ ∀ xs, SqT K H a xs → xs[i]? = some x
  stop := fun i H => ∃ xs : List V, SqT K H a xs ∧ xs.length = i
theorem turn_enumT {P : Program} {w : World} {K : PySem.W.Frag} {elts : List Expr} {kk : Nat} {tpos : Pos} (a e it : Addr) :
    Turn P w K (.Tuple elts kk tpos) (IteT K a) [e, it] e (fun i h => (∃ old, IsEnum h e it ((i : Nat) : Int) old) ∧ h.IsTupleIter it a i ∧ e ≠ it) where
  mem := by simp
  obj := fun i h st b hb => by
    obtain ⟨⟨old, he⟩, ⟨o, ho, hc, hd⟩, _⟩ := st
    have e' : b = e ∨ b = it := by simpa using hb
    rcases e' with z | z
    · rw [z]; exact ⟨_, he, fun v q => nomatch q⟩
    · rw [z]; exact ⟨o, ho, fun v q => by rw [hd] at q; cases q⟩
  keep := fun i h h' st k => let ⟨⟨old, he⟩, hi, hne⟩ := st; ⟨⟨old, k e (by simp) _ he⟩, hi.at fun o q => k it (by simp) o q, hne⟩
  item := by
    intro X hP hw hK hc i pins s σ H E I hf st hg
    subst hP hw hK
    obtain ⟨⟨old, he⟩, hit, hne⟩ := st
    obtain ⟨xs, x, hq, hx⟩ := hg
    obtain ⟨its, rv, p, hz⟩ := I.tuple hq
    obtain ⟨u, hu, ru⟩ := rv.get hx
    have hel : e < s.heap.objs.size := Heap.lt_size he
    have hil : it < s.heap.objs.size := by obtain ⟨_, z, _⟩ := hit; exact Heap.lt_size z
    have hai : a ≠ it := by
      rintro rfl
      obtain ⟨o, ho, hcl, _⟩ := p
      obtain ⟨o2, ho2, hcl2, _⟩ := hit
      rw [ho] at ho2
      cases ho2
      rw [hcl] at hcl2
      exact absurd hcl2 (by decide)
    have hae : a ≠ e := by
      rintro rfl
      obtain ⟨o, ho, hcl, _⟩ := p
      have he2 : s.heap.get? a = _ := he
      rw [ho] at he2
      cases he2
      exact absurd (Value.type.inj hcl) (by decide)
    have D := Draws.tuple (prog := X.prog) (w := X.w) (A := X.A.in1) (show X.A.in1.handled = none from I.ok.hd hc) it a hai its.toArray
    have hlt : i < its.toArray.size := by
      rw [List.size_toArray, ← rv.length]
      exact (List.getElem?_eq_some_iff.mp hx).1
    refine wpAny_pyNext_enum_itemC D he ⟨hit, p⟩ hlt hne (by simp [hne, hae.symm]) fun y h' tk hy ho ht' hT hsz hk => ?_
    have ey : y = u := by
      have hy' : its[i]? = some y := by simpa using hy
      rw [hu] at hy'
      exact (Option.some.inj hy').symm
    subst ey
    refine ⟨_, rfl, wpAny_letOwnedTupleGo_enum (s := { s with heap := h', toks := tk + 1 }) ho fun h'' he' sb => ?_⟩
    have hT2 : h''.get? s.heap.objs.size = some { cls := .type "tuple", data := .seq #[.int i tk, y] } := (sb.2 _ (Nat.ne_of_gt hel)).trans hT
    have new : ObjOk X.prog X.w (upd H s.heap.objs.size (.tup [.int (i : Nat), x])) h'' s.heap.objs.size (.tup [.int (i : Nat), x]) :=
      ⟨by show 2 ≤ sizeLine; decide, [.int i tk, y], .cons ⟨_, rfl⟩ (.cons ru .nil), ⟨_, hT2, rfl, _, rfl⟩⟩
    have I1 : Inv X pins σ (upd H s.heap.objs.size (.tup [.int (i : Nat), x])) { s with heap := h'', toks := tk + 1 } :=
      I.turnedNew (ch := [e, it]) (fun b ob hb z => (sb.2 b (fun c => hb (by simp [c]))).trans (hk b ob (fun c => hb (by simp [c])) (fun c => hb (by simp [c])) z)) hf (Nat.le_refl _) new
    refine ⟨.ref s.heap.objs.size, _, I1, rfl, ⟨_, x, rfl, I.hok.fresh (Nat.le_refl _), rfl, fun ys hy => by rw [I.tuple_inj hy hq]; exact hx⟩, ⟨⟨y, ?_⟩, ht'.1.at fun o z => (sb.2 it (Ne.symm hne)).trans z, hne⟩, fun b hb => ?_⟩
    · have e1 : ((i + 1 : Nat) : Int) = (i : Int) + 1 := by omega
      rw [e1]; exact he'
    · have hb' : b < s.heap.objs.size := by
        have e' : b = e ∨ b = it := by simpa using hb
        rcases e' with z | z
        · rw [z]; exact hel
        · rw [z]; exact hil
      rw [upd_ne (Nat.ne_of_lt hb')]
      exact (hf b hb).1
  done := by
    intro X hP hw hK hc i pins s σ H E I hf st hg
    subst hP hw hK
    obtain ⟨⟨old, he⟩, hit, hne⟩ := st
    obtain ⟨xs, hq, hx⟩ := hg
    obtain ⟨its, rv, p, hz⟩ := I.tuple hq
    obtain ⟨f0, f1, f2, f3, f4, f5⟩ := hf it (by simp)
    have hai : a ≠ it := by
      rintro rfl
      obtain ⟨o, ho, hcl, _⟩ := p
      obtain ⟨o2, ho2, hcl2, _⟩ := hit
      rw [ho] at ho2
      cases ho2
      rw [hcl] at hcl2
      exact absurd hcl2 (by decide)
    have D := Draws.tuple (prog := X.prog) (w := X.w) (A := X.A.in1) (show X.A.in1.handled = none from I.ok.hd hc) it a hai its.toArray
    have hl := rv.length
    exact wpAny_pyNext_enum_endD D he (by rw [show its.toArray.size = i from by rw [List.size_toArray, ← hl, hx]]; exact ⟨hit, p⟩) fun h' eb => ⟨rfl, I.turned (t' := s.toks) (fun b o hb z => eb b o hb z) f0 f1 f3 f4 f5⟩
  self := fun A i s Q E st h => let ⟨⟨_, he⟩, _⟩ := st; wpAny_pyIter_enum he h
def iEnumT (K : PySem.W.Frag) (ta : TA) : TI := fun σ H R => ta σ H fun vs H1 => ∃ a xs, vs = [.ref a] ∧ SqT K H1 a xs ∧ R (IteT K a) H1
theorem pi_enumT {X : Cx} {e : Expr} {ta : TA} {p pos tpos : Pos} {elts : List Expr} {kk : Nat} (hg : Gl X "enumerate") (hm : X.mg "enumerate" = none) (ha : PA X [e] ta) (hst : starEach [e] X.env = [(false, eval e X.env)] := by rfl) :
    PI X (.Tuple elts kk tpos) (.Call (.Name "enumerate" p) [e] [] pos) (iEnumT X.K ta) := by
  constructor
  intro pins s σ H R I h
  refine Call_ (ld_blt I hg hm boot_enumerate (PyProof.Rows.callWith_type1 (thn (ha.run pos pins s σ H _ I h) fun us sa ⟨vs, Ha, Ia, ra, qa⟩ => ?_) hst rfl))
  obtain ⟨a, xs, rfl, hq, q⟩ := qa
  obtain ⟨u, rfl, ru⟩ := Vals.one ra
  cases ru
  obtain ⟨its, rv, pt, hz⟩ := Ia.tuple hq
  refine call_enum_tup pt fun h' he hit hsz hk => wpAny_pyIter_enum he ?_
  refine ⟨sa.heap.objs.size + 1, [sa.heap.objs.size + 1, sa.heap.objs.size], _, _, Ha, rfl, Ia.kept (t' := sa.toks) hk, turn_enumT a (sa.heap.objs.size + 1) sa.heap.objs.size, ⟨⟨.none, he⟩, hit, Nat.succ_ne_self _⟩, fun b hb => ?_, q⟩
  have hle : sa.heap.objs.size ≤ b := by
    rcases List.mem_cons.mp hb with z | z
    · rw [z]; exact Nat.le_succ _
    · rw [List.mem_singleton.mp z]; exact Nat.le_refl _
  exact Ia.fpOk hle (Ia.hok.fresh hle)
end Tw
end
/-! TwSort -/
section
set_option Elab.async false
set_option linter.all false
set_option autoImplicit false
set_option maxRecDepth 100000
/-! sorted of tuples, () among them. -/
namespace Tw
open PySem PySem.W PySem.SeqAt PyProof.Rows
section
variable {prog : Program} {w : World} {A : Around} {E : Value → Shared → Prop} {s : Shared}
theorem call_tup_lt {Q : Value → Shared → Prop} {l b : Addr} {xs ys : Array Value} {e r : Nat → Bool} (hl : s.heap.IsTuple l xs) (hb : s.heap.IsTuple b ys)
    (he : ∀ j (h1 : j < xs.size) (h2 : j < ys.size), EqAt A.in1 s xs[j] ys[j] (e j)) (hr : ∀ j (h1 : j < xs.size) (h2 : j < ys.size), e j = false → RcLt A.in1 s xs[j] ys[j] (r j))
    (q : Q (.bool (firstLt e r (decide (xs.size < ys.size)) (List.range (min xs.size ys.size)))) s) : wpAny (model prog w) A (call (.builtin "tuple.__lt__") [.ref l, .ref b]) Q E s := by
  obtain ⟨⟨c1, d1, t1, s1⟩, ho, hc, n, hd⟩ := id hl
  obtain ⟨⟨c2, d2, t2, s2⟩, ho2, hc2, n2, hd2⟩ := id hb
  simp only at hc hd hc2 hd2
  subst hc hd hc2 hd2
  exact call_meets F.slot_tuple_lt ⟨_, ho, rfl⟩ F.entry_tuple_lt (F.args_tuple_lt_2 _ _) (tuple_ltAt l b xs ys n n2 d1 d2 s1 s2 e r) ⟨ho, ho2, he, hr, q⟩
/-- a tuple's own __lt__, as sorting asks it -/
theorem oneLt_tups {xs ys : List PyData} {a b : Value} {as bs : List Addr} {Q : Bool → Shared → Prop} (ra : Reads s.heap a (.tuple xs) as) (rb : Reads s.heap b (.tuple ys) bs) (h : alike (.tuple xs) (.tuple ys) = true)
    (hu : A.units + min (PyData.tuple xs).depth (PyData.tuple ys).depth < cLine) (q : Q (dataLt (.tuple xs) (.tuple ys)) s) : wpAny (model prog w) A (oneLt' true a b) Q E s := by
  have hal : alikeAll xs ys = true := by simpa [alike] using h
  cases ra with
  | @tuple l o vs n _ as₁ h1 h2 h3 h4 =>
    cases rb with
    | @tuple l' o' vs' n' _ bs₁ k1 k2 k3 k4 =>
      have n1 : vs.size = xs.length := by simpa using ReadsAll.length _ _ _ h4
      have n2 : vs'.size = ys.length := by simpa using ReadsAll.length _ _ _ k4
      rw [dataLt_tuple, ← firstLt_toks xs ys hal, ← n1, ← n2] at q
      rw [oneLt'_eq]
      simp only [if_true]
      refine wpAny_bind (wpAny_cRoomFor (room_here hu) ?_)
      refine wpAny_bind (wpAny_callSpecialIfBound?_slot (T := "tuple") ⟨_, h1, h2⟩ F.slot_tuple_lt (call_tup_lt (e := pairEq xs ys) (r := fun j => dataLt (xs.getD j .none) (ys.getD j .none)) ⟨_, h1, h2, _, h3⟩ ⟨_, k1, k2, _, k3⟩ (fun j j1 j2 => ?_) (fun j j1 j2 hj => ?_) ?_))
      · have := eqAt_alikeAll xs ys A.in1 s vs.toList vs'.toList _ _ h4 k4 hal (room_in hu) j (by simpa using j1) (by simpa using j2)
        simpa using this
      · have := rcLt_alikeAll xs ys A.in1 s vs.toList vs'.toList _ _ h4 k4 hal (room_in hu) j (by simpa using j1) (by simpa using j2) hj
        simpa using this
      · exact wpAny_truthy_bool q
/-- the first item of each -/
def firstD : PyData → Bool
  | .tuple (_ :: _) => true
  | _ => false
theorem firsts_any : ∀ {vs : List Value} {ds : List PyData} {Q : List (Option Value) → Shared → Prop}, EachIs (fun v d => ∃ as, Reads s.heap v d as) vs ds → (∀ d, d ∈ ds → ∃ xs, d = .tuple xs) →
    (∀ fs : List (Option Value), fs.map (·.isSome) = ds.map firstD → Q fs s) → wpAny (model prog w) A (vs.mapM firstOfTuple') Q E s
  | _, _, Q, .nil, _, q => by
    rw [List.mapM_nil]
    exact wpAny_pure (q [] rfl)
  | _, _, Q, .cons (b := d) ⟨as, r⟩ t, ht, q => by
    obtain ⟨ys, rfl⟩ := ht d (List.mem_cons_self ..)
    cases r with
    | @tuple a o xs n _ _ ho hc hd hr =>
      rw [List.mapM_cons]
      refine wpAny_bind ?_
      rw [kas_first_eq]
      refine wpAny_bind (Looks.here (show Looks (model prog w) s.heap (typeOf (.ref a)) o.cls from (Looks.ld ho).andThen .now) ?_)
      rw [hc, if_neg (by first | decide | simp)]
      refine wpAny_bind (listItems_at ho hd (wpAny_pure ?_))
      refine wpAny_bind (firsts_any t (fun d hd => ht d (List.mem_cons_of_mem _ hd)) fun fs hf => wpAny_pure (q _ ?_))
      rw [List.map_cons, List.map_cons, hf]
      have e : (xs[0]?).isSome = firstD (.tuple ys) := by
        cases hx : xs.toList with
        | nil =>
          rw [hx] at hr
          cases hr
          have : xs[0]? = none := by rw [← Array.getElem?_toList, hx]; rfl
          rw [this]
          rfl
        | cons f fr =>
          rw [hx] at hr
          cases hr
          have : xs[0]? = some f := by rw [← Array.getElem?_toList, hx]; rfl
          rw [this]
          rfl
      rw [e]
theorem alike_tups {ds : List PyData} (hal : AllAlike ds) (ht : ∀ d, d ∈ ds → ∃ xs, d = .tuple xs) (d d' : PyData) (hd : d ∈ ds) (hd' : d' ∈ ds) : ∃ xs ys, d = .tuple xs ∧ d' = .tuple ys ∧ alike (.tuple xs) (.tuple ys) = true := by
  obtain ⟨xs, rfl⟩ := ht d hd
  obtain ⟨ys, rfl⟩ := ht d' hd'
  exact ⟨xs, ys, rfl, rfl, hal _ hd _ hd'⟩
/-- tuples can be sorted -/
theorem sortsTups {vs : List Value} {ds : List PyData} (e : EachIs (fun v d => ∃ as, Reads s.heap v d as) vs ds) (hal : AllAlike ds) (ht : ∀ d, d ∈ ds → ∃ xs, d = .tuple xs) (hu : ∀ d, d ∈ ds → A.units + d.depth < cLine) : SortsAt prog w A s (dataKind s.heap ds) vs := by
  by_cases hall : ∀ d, d ∈ ds → ∃ x r, d = .tuple (x :: r)
  · exact SortsAt.data e hal (.inl hall) hu
  have room : ∀ {d d' : PyData}, d ∈ ds → A.units + min d.depth d'.depth < cLine := fun {d d'} hd => Nat.lt_of_le_of_lt (Nat.add_le_add_left (Nat.min_le_left _ _) _) (hu d hd)
  have notall : ds.all firstD = false := by
    cases q : ds.all firstD with
    | false => rfl
    | true =>
      refine absurd (fun d hd => ?_) hall
      have z := List.all_eq_true.mp q d hd
      obtain ⟨xs, rfl⟩ := ht d hd
      cases xs with
      | nil => cases z
      | cons x r => exact ⟨x, r, rfl⟩
  refine ⟨fun v hv => ?_, if (ds.head?.map firstD).getD false = true then general' else oneType', ?_, fun h2 E Q hq => ?_⟩
  · obtain ⟨d, hd, as, r⟩ := e.left v hv
    exact ⟨_, dataKind_some hal hd r⟩
  · intro E x y a b Q ha hb q
    obtain ⟨d, as, hd, ra, rfl⟩ := dataKind_inv ha
    obtain ⟨d', as', hd', rb, rfl⟩ := dataKind_inv hb
    obtain ⟨xs, ys, rfl, rfl, hl⟩ := alike_tups hal ht d d' hd hd'
    split
    · show wpAny _ _ (oneLt' false x y) _ _ _
      exact oneLt_alike (fun c => nomatch c) ra rb hl (fun c => nomatch c) (room hd) q
    · show wpAny _ _ (oneLt' true x y) _ _ _
      exact oneLt_tups ra rb hl (room hd) q
  · obtain ⟨d₀, ds₀, rfl⟩ : ∃ d ds', ds = d :: ds' := by
      cases ds with
      | nil => exact absurd (fun d hd => nomatch hd) hall
      | cons d ds' => exact ⟨d, ds', rfl⟩
    rw [keyKind'_eq, List.mapM_toArray, map_eq_pure_bind]
    refine wpAny_bind (wpAny_bind (firsts_any e ht fun fs hf => wpAny_pure ?_))
    have c1 : (fs.toArray.all fun x => x.isSome) = false := by
      rw [List.all_toArray]
      have : (fs.all fun x => x.isSome) = (fs.map (·.isSome)).all id := by rw [List.all_map]; rfl
      rw [this, hf, List.all_map]
      exact notall
    rw [if_neg (by rw [c1]; exact Bool.false_ne_true)]
    have c2 : (fs.toArray[0]?.bind id).isSome = firstD d₀ := by
      cases fs with
      | nil => cases hf
      | cons f fr =>
        have h0 := (List.cons.inj hf).1
        cases f with
        | none => exact h0
        | some v => exact h0
    rw [c2]
    cases q : firstD d₀ with
    | true =>
      rw [if_pos rfl]
      simp only [List.head?_cons, Option.map_some, Option.getD_some, q, if_true] at hq
      exact wpAny_pure hq
    | false =>
      rw [if_neg Bool.false_ne_true]
      simp only [List.head?_cons, Option.map_some, Option.getD_some, q, Bool.false_eq_true, if_false] at hq
      have tys : ∀ v ∈ vs, Looks (model prog w) s.heap (typeOf v) (Value.type "tuple") := fun v hv => by
        obtain ⟨d, hd, as, r⟩ := e.left v hv
        obtain ⟨xs, rfl⟩ := ht d hd
        exact looks_reads r
      obtain ⟨v₁, rest, rfl⟩ : ∃ v₁ rest, vs = v₁ :: rest := by
        cases vs with
        | nil => exact absurd h2 (by simp)
        | cons v r => exact ⟨v, r, rfl⟩
      rw [oneTypeOnly'_eq, List.mapM_toArray, map_eq_pure_bind]
      refine wpAny_bind (wpAny_bind (wpAny_bind (kas_mapM (r := Value.type "tuple") _ (fun v hv Q' hq => (tys v hv).here hq) (wpAny_pure ?_))))
      have hall : ((List.map (fun _ => Value.type "tuple") (v₁ :: rest)).toArray.all fun x => x == Value.type "tuple") = true := by
        simp only [List.all_toArray, List.all_map, List.all_eq_true]
        intro _ _
        exact beq_self_eq_true _
      have h0 : (List.map (fun _ => Value.type "tuple") (v₁ :: rest)).toArray[0]? = some (Value.type "tuple") := by simp
      rw [h0]
      simp only [hall, if_true]
      exact wpAny_pure (wpAny_pure hq)
end
end Tw
end
/-! TwDictP -/
section
set_option Elab.async false
set_option linter.all false
set_option maxRecDepth 100000
/-! == of two dicts with the same keys, in any order. -/
namespace Tw
open PySem PySem.Spec PyProof.Rows L2
section
variable {prog : Program} {w : World} {A : Around} {E : Value → Shared → Prop} {s : Shared} {knd : HeapKind prog w NK}
theorem same_pairsP {nm : String} {a b : Addr} {xs ys : List (NK × Addr × Value)} {bs : List Bool} {Q : Bool → Shared → Prop} (hu : knd.room A) (hA : (a == sysModules) = false) (hB : (b == sysModules) = false)
    (ma : s.heap.DictOfH knd a xs) (mb : s.heap.DictOfH knd b ys) (hz : xs.length = ys.length) (hk : ∀ x ∈ xs, ∃ (m : Nat) (y : NK × Addr × Value), ys[m]? = some y ∧ y.1 = x.1) (hl : bs.length = xs.length)
    (he : ∀ (j m : Nat) x y c, xs[j]? = some x → ys[m]? = some y → y.1 = x.1 → bs[j]? = some c → SeqAt.EqP prog w A s x.2.2 y.2.2 c) (h : Q (bs.all id) s) :
    wpAny (model prog w) A (Builtin.Dict.samePairs nm a b) Q E s := by
  obtain ⟨oa, ea, pa, ga, _, da, la, isa, na⟩ := ma
  obtain ⟨ob, eb, pb, gb, _, db, lb, isb, nb⟩ := mb
  have za : ea.size = xs.length := size_of_entries la
  have zb : eb.size = ys.length := size_of_entries lb
  unfold Builtin.Dict.samePairs Builtin.Dict.showsAll
  simp only [hA, hB, Bool.false_eq_true, if_false]
  refine wpAny_bind (wpAny_pure (wpAny_bind (wpAny_pure (wpAny_bind (wpAny_dictEntries ga da ?_)))))
  refine wpAny_bind (wpAny_dictEntries gb db ?_)
  have hne : (ea.size != eb.size) = false := by rw [za, zb, hz]; simp
  simp only [hne, Bool.false_eq_true, if_false]
  refine wpAny_bind (wpAny_dictEpoch ga da (wpAny_bind ?_))
  rw [Std.Legacy.Range.forIn_eq_forIn_range']
  simp only [Std.Legacy.Range.size, Nat.sub_zero, Nat.add_sub_cancel, Nat.div_one]
  refine wpAny_forIn_list _
    (fun todo q s2 => s2 = s ∧ q = (none, ()) ∧ ∃ i, todo = List.range' i (ea.size - i) ∧ i ≤ ea.size ∧ Q ((bs.drop i).all id) s) _ ?_ ?_ _ _ ⟨rfl, rfl, 0, by simp, Nat.zero_le _, h⟩
  · rintro i todo q s2 ⟨rfl, rfl, j, hr, hj, hq⟩
    have hlt : j < ea.size := by
      rcases Nat.lt_or_ge j ea.size with q | q
      · exact q
      · rw [Nat.sub_eq_zero_of_le q] at hr
        simp at hr
    have e1 : ea.size - j = (ea.size - (j + 1)) + 1 := by omega
    rw [e1, List.range'_succ] at hr
    injection hr with e2 e3
    subst e2
    obtain ⟨⟨k, ka, v⟩, hx⟩ : ∃ x, xs[i]? = some x := ⟨_, List.getElem?_eq_getElem (by omega)⟩
    obtain ⟨mm, ⟨k', kb, u⟩, hy, hkk⟩ := hk _ (List.mem_of_getElem? hx)
    obtain ⟨c, hc⟩ : ∃ c, bs[i]? = some c := ⟨_, List.getElem?_eq_getElem (by omega)⟩
    have hkk : k' = k := hkk
    subst hkk
    have hex : ea[i]? = some ⟨knd.hash k', .ref ka, v⟩ := by
      rw [entry_at la i, hx]
      rfl
    refine wpAny_bind (wpAny_dictEntries ga da ?_)
    rw [hex]
    refine wpAny_bind (wpAny_holding (wpAny_bind (wpAny_dictFind_heap hu (isa _ (List.mem_of_getElem? hx)) gb db lb isb nb ?_ ?_)))
    · intro no
      exact absurd hy (no mm _)
    · intro m p hm
      obtain rfl : m = mm := idxH_unique nb hm hy
      refine wpAny_bind (wpAny_dictEntries gb db ?_)
      have hey : eb[m]? = some ⟨knd.hash k', .ref kb, u⟩ := by
        rw [entry_at lb m, hy]
        rfl
      rw [hey]
      refine wpAny_holding (he i m _ _ c hx hy rfl hc _ _ ?_)
      have hd : bs.drop i = c :: bs.drop (i + 1) := by
        have hlt' : i < bs.length := by omega
        rw [List.drop_eq_getElem_cons hlt']
        rw [List.getElem?_eq_getElem hlt'] at hc
        rw [Option.some.inj hc]
      rw [hd] at hq
      cases c with
      | false =>
        exact wpAny_pure (wpAny_pure hq)
      | true =>
        simp only [Bool.not_true, Bool.false_eq_true, if_false]
        refine wpAny_bind (wpAny_dictEpoch ga da ?_)
        rw [if_neg (by simp)]
        exact wpAny_pure ⟨rfl, rfl, i + 1, e3, hlt, by simpa using hq⟩
  · rintro q s2 ⟨rfl, rfl, j, hr, hj, hq⟩
    have hj2 : j = ea.size := by
      rcases Nat.lt_or_ge j ea.size with q | q
      · have e1 : ea.size - j = (ea.size - (j + 1)) + 1 := by omega
        rw [e1, List.range'_succ] at hr
        cases hr
      · omega
    rw [hj2, za, ← hl, List.drop_length] at hq
    exact wpAny_pure hq
theorem rc_dictsP {a b : Addr} {xs ys : List (NK × Addr × Value)} {bs : List Bool} {Q : Value → Shared → Prop} (hr : knd.room A.in1) (hA : (a == sysModules) = false) (hB : (b == sysModules) = false)
    (ma : s.heap.DictOfH knd a xs) (mb : s.heap.DictOfH knd b ys) (hu : A.units < cLine) (hz : xs.length = ys.length) (hk : ∀ x ∈ xs, ∃ (m : Nat) (y : NK × Addr × Value), ys[m]? = some y ∧ y.1 = x.1) (hl : bs.length = xs.length)
    (he : ∀ (j m : Nat) x y c, xs[j]? = some x → ys[m]? = some y → y.1 = x.1 → bs[j]? = some c → SeqAt.EqP prog w A.in1 s x.2.2 y.2.2 c) (h : Q (.bool (bs.all id)) s) :
    wpAny (model prog w) A (richCompare .Eq (.ref a) (.ref b)) Q E s := by
  refine wpAny_richCompare_same_room (op := .Eq) ma.typeIs mb.typeIs PySem.F.slot_dict_eq (wpAny_call_entry PySem.F.slot_dict_eq ma.typeIs PySem.F.entry_dict_eq ?_ (PySem.F.args_dict_eq_2 _ _)) hu
  show wpAny _ _ (Builtin.Dict.dictSlotArgs "__eq__" ⟨[.ref a, .ref b], []⟩ >>= _) _ _ s
  unfold Builtin.Dict.dictSlotArgs
  refine wpAny_bind (wpAny_bind (wpAny_notOrdered_dict ma.typeIs (wpAny_pure ?_)))
  refine wpAny_bind (wpAny_isInstance (T := "dict") mb.typeIs PySem.F.sub_dict_dict ?_)
  simp only [Bool.not_true, Bool.false_eq_true, if_false]
  refine wpAny_bind (wpAny_pure (wpAny_bind (wpAny_pure (wpAny_bind (same_pairsP hr hA hB ma mb hz hk hl he (wpAny_pure ⟨_, rfl, ?_, ?_⟩))))))
  · intro x
    cases x
  · simpa using h
end
/-- two dicts of bools with the same keys in any order -/
def EqDcP (X : Cx) : EqQ := fun H x y c => ∃ (a b : Addr) (xs ys : List Ent) (f g : NK → Bool), x = .ref a ∧ y = .ref b ∧ Kd X.prog X.w X.K H a xs ∧ Kd X.prog X.w X.K H b ys ∧ (xs.map (·.1)).Perm (ys.map (·.1)) ∧
  (∀ e ∈ xs, e.2.2 = V.bl (f e.1)) ∧ (∀ e ∈ ys, e.2.2 = V.bl (g e.1)) ∧ c = (xs.map (·.1)).all fun k => f k == g k
section
variable {X : Cx} {pins : List (Addr × Obj)} {σ : L2.St} {H : Hp} {s : Shared}
theorem ents_bl {f : NK → Bool} : ∀ {xs : List Ent} {vs : List (NK × Addr × Value)}, Paired EntR xs vs → (∀ e ∈ xs, e.2.2 = V.bl (f e.1)) → ∀ e ∈ vs, e.2.2 = Value.bool (f e.1)
  | _, _, .nil, _, e, h => nomatch h
  | x :: xs, y :: vs, .cons a t, h, e, he => by
    rcases List.mem_cons.mp he with rfl | he
    · obtain ⟨h1, h2, h3⟩ := a
      rw [h x List.mem_cons_self] at h3
      rw [← h1]
      exact h3
    · exact ents_bl t (fun e he => h e (List.mem_cons_of_mem _ he)) e he
theorem eqOk_dcP : EqOk X 0 (EqDcP X) where
  refs := fun H x y c ⟨a, b, _, _, _, _, h1, h2, _⟩ => ⟨a, b, h1, h2⟩
  self := by
    intro pins s σ H a c I h
    obtain ⟨a1, b1, xs, ys, f, g, e1, e2, k1, k2, hp, h1, h2, rfl⟩ := h
    cases e1
    cases e2
    obtain ⟨⟨_, _, nd⟩, vs, r, m⟩ := kd_raw I k1
    obtain ⟨_, us, r', m'⟩ := kd_raw I k2
    have v1 := ents_bl r h1
    have v2 := ents_bl r' h2
    obtain ⟨o, es, ep, g1, _, d, l, is1, _⟩ := m
    obtain ⟨o', es', ep', g1', _, d', l', is2, _⟩ := m'
    rw [g1] at g1'
    cases g1'
    rw [d] at d'
    injection d' with d1 d2
    have e3 : vs.map (entryOfKey (nestedKind X.prog X.w)) = us.map (entryOfKey (nestedKind X.prog X.w)) := by rw [← l, ← l', d1]
    have key : ∀ {vs us : List (NK × Addr × Value)}, vs.map (entryOfKey (nestedKind X.prog X.w)) = us.map (entryOfKey (nestedKind X.prog X.w)) → (∀ e ∈ vs, (nestedKind X.prog X.w).is s.heap e.1 e.2.1 ∧ e.2.2 = Value.bool (f e.1)) → (∀ e ∈ us, (nestedKind X.prog X.w).is s.heap e.1 e.2.1 ∧ e.2.2 = Value.bool (g e.1)) → ∀ e ∈ vs, f e.1 = g e.1 := by
      intro vs
      induction vs with
      | nil => exact fun _ _ _ e h => nomatch h
      | cons v vs ih =>
        intro us hh ha hb e he
        cases us with
        | nil => cases hh
        | cons u us =>
          simp only [List.map_cons, List.cons.injEq] at hh
          rcases List.mem_cons.mp he with rfl | he
          · obtain ⟨i1, b1⟩ := ha e List.mem_cons_self
            obtain ⟨i2, b2⟩ := hb u List.mem_cons_self
            have q := hh.1
            simp only [entryOfKey, DictEntry.mk.injEq, Value.ref.injEq] at q
            have q2 : e.2.1 = u.2.1 := q.2.1
            have q3 : e.2.2 = u.2.2 := q.2.2
            rw [q2] at i1
            have hk := NestedIs.inj _ _ _ i1.1 i2.1
            rw [b1, b2] at q3
            have q4 := Value.bool.inj q3
            rw [hk] at q4 ⊢
            exact q4
          · exact ih hh.2 (fun e he => ha e (List.mem_cons_of_mem _ he)) (fun e he => hb e (List.mem_cons_of_mem _ he)) e he
    have hall := key e3 (fun e he => ⟨is1 e he, v1 e he⟩) fun e he => ⟨is2 e he, v2 e he⟩
    rw [List.all_eq_true]
    intro k hk
    rw [← ents_fst r] at hk
    obtain ⟨e, he, rfl⟩ := List.mem_map.mp hk
    rw [hall e he]
    exact beq_self_eq_true _
  rc := by
    intro A pins s σ H a b c E Q I hu h q
    obtain ⟨a1, b1, xs, ys, f, g, e1, e2, k1, k2, hp, h1, h2, rfl⟩ := h
    cases e1
    cases e2
    obtain ⟨⟨_, da, _⟩, vs, r, m⟩ := kd_raw I k1
    obtain ⟨⟨_, db, _⟩, us, r', m'⟩ := kd_raw I k2
    have v1 := ents_bl r h1
    have v2 := ents_bl r' h2
    have hp' : (vs.map (·.1)).Perm (us.map (·.1)) := by rw [ents_fst r, ents_fst r']; exact hp
    have l3 : vs.length = us.length := by simpa using hp'.length_eq
    have q' : Q (.bool (((vs.map (·.1)).map fun k => f k == g k).all id)) s := by
      rw [ents_fst r, List.all_map]
      exact q
    refine rc_dictsP (knd := nestedKind X.prog X.w) (by show A.units + 1 + 8 < cLine; omega) da db m m' (by omega) l3 ?_ (by rw [List.length_map, List.length_map]) ?_ q'
    · intro x hx
      have hm : x.1 ∈ us.map (·.1) := hp'.mem_iff.mp (List.mem_map.mpr ⟨x, hx, rfl⟩)
      obtain ⟨y, hy, e⟩ := List.mem_map.mp hm
      obtain ⟨i, hi⟩ := List.getElem?_of_mem hy
      exact ⟨i, y, hi, e⟩
    · intro j mm x y d hx hy hxy hd
      rw [v1 x (List.mem_of_getElem? hx), v2 y (List.mem_of_getElem? hy), hxy]
      have ed : d = (f x.1 == g x.1) := by
        rw [List.getElem?_map, List.getElem?_map, hx] at hd
        exact (Option.some.inj hd).symm
      rw [ed]
      exact eqAt_bools _ _
end
end Tw
end
/-! TwLogic -/
section
set_option Elab.async false
set_option linter.all false
set_option autoImplicit false
set_option maxRecDepth 100000
/-! A logic of types over the hand layer's readings: what an expression's value is (a type: a predicate of the part of the heap that never changes again), what a block does with the slots' types and the objects it owns. -/
namespace Tw
open PySem PySem.Spec PyProof.Rows L2
open Evl (Ex ex_l ex_t ex_rd)
/-- a type: kept when the heap grows -/
structure Ty where
  r : Hp → V → Prop
  mono : ∀ {I J : Hp} {v : V}, Ex I J → r I v → r J v
structure Cell where
  r : Hp → HO → Prop
  mono : ∀ {I J : Hp} {o : HO}, Ex I J → r I o → r J o
abbrev TEnv := List (Option Ty)
abbrev Mem := List (Addr × Cell)
def AllTy (I : Hp) (Ts : List Ty) (vs : List V) : Prop := Paired (fun (T : Ty) v => T.r I v) Ts vs
theorem AllTy.mono {I J : Hp} (e : Ex I J) : ∀ {Ts : List Ty} {vs : List V}, AllTy I Ts vs → AllTy J Ts vs
  | _, _, .nil => .nil
  | _, _, .cons a t => .cons (Ty.mono _ e a) (AllTy.mono e t)
theorem AllTy.length {I : Hp} : ∀ {Ts : List Ty} {vs : List V}, AllTy I Ts vs → Ts.length = vs.length
  | _, _, .nil => rfl
  | _, _, .cons _ t => congrArg (· + 1) (AllTy.length t)
theorem AllTy.get {I : Hp} : ∀ {Ts : List Ty} {vs : List V} {i : Nat} {T : Ty}, AllTy I Ts vs → Ts[i]? = some T → ∃ v, vs[i]? = some v ∧ T.r I v
  | _ :: _, _ :: _, 0, _, .cons a _, h => by
    cases h
    exact ⟨_, rfl, a⟩
  | _ :: Ts, _ :: vs, i + 1, _, .cons _ t, h => AllTy.get (Ts := Ts) (vs := vs) (i := i) t h
theorem AllTy.get' {I : Hp} {Ts : List Ty} {vs : List V} {i : Nat} {v : V} (h : AllTy I Ts vs) (q : vs[i]? = some v) : ∃ T, Ts[i]? = some T ∧ T.r I v := by
  have hl : i < Ts.length := by
    rw [h.length]
    exact (List.getElem?_eq_some_iff.mp q).1
  obtain ⟨u, a, b⟩ := h.get (List.getElem?_eq_getElem hl)
  rw [q] at a
  cases a
  exact ⟨_, List.getElem?_eq_getElem hl, b⟩
theorem AllTy.app {I : Hp} : ∀ {Ts Us : List Ty} {vs us : List V}, AllTy I Ts vs → AllTy I Us us → AllTy I (Ts ++ Us) (vs ++ us)
  | _, _, _, _, .nil, h => h
  | _, _, _, _, .cons a t, h => .cons a (AllTy.app t h)
theorem AllTy.drop {I : Hp} : ∀ {Ts : List Ty} {vs : List V} (n : Nat), AllTy I Ts vs → AllTy I (Ts.drop n) (vs.drop n)
  | _, _, 0, h => h
  | _, _, _ + 1, .nil => .nil
  | _, _, n + 1, .cons _ t => AllTy.drop n t
theorem AllTy.take {I : Hp} : ∀ {Ts : List Ty} {vs : List V} (n : Nat), AllTy I Ts vs → AllTy I (Ts.take n) (vs.take n)
  | _, _, 0, _ => .nil
  | _, _, _ + 1, .nil => .nil
  | _, _, n + 1, .cons a t => .cons a (AllTy.take n t)
theorem AllTy.set {I : Hp} {T : Ty} {v : V} (q : T.r I v) : ∀ {Ts : List Ty} {vs : List V} (n : Nat), AllTy I Ts vs → AllTy I (Ts.set n T) (vs.set n v)
  | _, _, _, .nil => .nil
  | _, _, 0, .cons _ t => .cons q t
  | _, _, n + 1, .cons a t => .cons a (AllTy.set q n t)
theorem AllTy.rep {I : Hp} {Ts : List Ty} {vs : List V} (h : AllTy I Ts vs) : ∀ n : Nat, AllTy I (List.replicate n Ts).flatten (List.replicate n vs).flatten
  | 0 => .nil
  | n + 1 => AllTy.app h (AllTy.rep h n)

/-! ### the types -/
section
variable (K : PySem.W.Frag)
mutual
/-- data; its lists are tracked -/
inductive Dq (H : Hp) : V → PyData → Prop
  | non : Dq H .non .none
  | bl (b : Bool) : Dq H (.bl b) (.bool b)
  | int (i : Int) : Dq H (.int i) (.int i)
  | str (x : Str) : Dq H (.str x) (.str x)
  | lst {p : Addr} {ys : List V} {es : List PyData} : H p = some (.lst ys) → DqAll H ys es → Dq H (.ref p) (.list es)
  | tup {p : Addr} {ys : List V} {es : List PyData} : SqT K H p ys → DqAll H ys es → Dq H (.ref p) (.tuple es)
inductive DqAll (H : Hp) : List V → List PyData → Prop
  | nil : DqAll H [] []
  | cons {u : V} {us : List V} {e : PyData} {es : List PyData} : Dq H u e → DqAll H us es → DqAll H (u :: us) (e :: es)
end
mutual
theorem dp_ex {I J : Hp} (e : Ex I J) : ∀ (d : PyData) (v : V), Dq K I v d → Dq K J v d
  | .list ds, v, h => by
    cases h with
    | lst a b => exact .lst (e _ _ a) (dpa_ex e ds _ b)
  | .tuple ds, v, h => by
    cases h with
    | tup a b => exact .tup (ex_t e a) (dpa_ex e ds _ b)
  | .none, v, h => by
    cases h
    exact .non
  | .bool b, v, h => by
    cases h
    exact .bl b
  | .int i, v, h => by
    cases h
    exact .int i
  | .str x, v, h => by
    cases h
    exact .str x
  | .dict _, v, h => nomatch h
theorem dpa_ex {I J : Hp} (e : Ex I J) : ∀ (ds : List PyData) (vs : List V), DqAll K I vs ds → DqAll K J vs ds
  | [], vs, h => by
    cases h
    exact .nil
  | d :: ds, vs, h => by
    cases h with
    | cons a b => exact .cons (dp_ex e d _ a) (dpa_ex e ds _ b)
end
mutual
theorem dq_dp {I : Hp} : ∀ (d : PyData) (v : V), Dq K I v d → Dp K I v d
  | .list ds, v, h => by
    cases h with
    | lst a b => exact .lst (SqL.of a) (dqa_dp ds _ b)
  | .tuple ds, v, h => by
    cases h with
    | tup a b => exact .tup a (dqa_dp ds _ b)
  | .none, v, h => by
    cases h
    exact .non
  | .bool b, v, h => by
    cases h
    exact .bl b
  | .int i, v, h => by
    cases h
    exact .int i
  | .str x, v, h => by
    cases h
    exact .str x
  | .dict _, v, h => nomatch h
theorem dqa_dp {I : Hp} : ∀ (ds : List PyData) (vs : List V), DqAll K I vs ds → DpAll K I vs ds
  | [], vs, h => by
    cases h
    exact .nil
  | d :: ds, vs, h => by
    cases h with
    | cons a b => exact .cons (dq_dp d _ a) (dqa_dp ds _ b)
end
/-- data -/
def DT (d : PyData) : Ty := ⟨fun I v => Dq K I v d, fun e h => dp_ex K e d _ h⟩
/-- a list, a tuple of given types -/
def LstT (Ts : List Ty) : Ty := ⟨fun I v => ∃ p xs, v = .ref p ∧ I p = some (.lst xs) ∧ AllTy I Ts xs, fun e ⟨p, xs, h1, h2, h3⟩ => ⟨p, xs, h1, e _ _ h2, h3.mono e⟩⟩
def TupT (Ts : List Ty) : Ty := ⟨fun I v => ∃ p xs, v = .ref p ∧ SqT K I p xs ∧ AllTy I Ts xs, fun e ⟨p, xs, h1, h2, h3⟩ => ⟨p, xs, h1, ex_t e h2, h3.mono e⟩⟩
end
/-- a value that is known -/
def VT (v : V) : Ty := ⟨fun _ u => u = v, fun _ h => h⟩
/-- one of a family -/
def XT {α : Type} (p : α → Prop) (F : α → Ty) : Ty := ⟨fun I v => ∃ a, p a ∧ (F a).r I v, fun e ⟨a, q, h⟩ => ⟨a, q, (F a).mono e h⟩⟩
def Sub (S T : Ty) : Prop := ∀ I v, S.r I v → T.r I v
theorem Sub.refl (T : Ty) : Sub T T := fun _ _ h => h
theorem sub_x {α : Type} {p : α → Prop} {F : α → Ty} (a : α) (h : p a) : Sub (F a) (XT p F) := fun _ _ q => ⟨a, h, q⟩
theorem Ty.ext' {S T : Ty} (h : ∀ I v, S.r I v ↔ T.r I v) : S = T := by
  cases S with
  | mk r m =>
    cases T with
    | mk r' m' =>
      have e : r = r' := funext fun I => funext fun v => propext (h I v)
      subst e
      rfl
section
variable {K : PySem.W.Frag} {I : Hp}
theorem dp_vals : ∀ {ds : List PyData} {vs : List V}, DqAll K I vs ds ↔ AllTy I (ds.map (DT K)) vs
  | [], vs => ⟨fun h => by cases h; exact .nil, fun h => by cases h; exact .nil⟩
  | d :: ds, vs => ⟨fun h => by
      cases h with
      | cons a b => exact .cons a (dp_vals.mp b), fun h => by
      cases h with
      | cons a b => exact .cons a (dp_vals.mpr b)⟩
theorem tt_dt (ds : List PyData) : TupT K (ds.map (DT K)) = DT K (.tuple ds) := Ty.ext' fun I v => ⟨fun ⟨p, xs, h1, h2, h3⟩ => h1 ▸ .tup h2 (dp_vals.mpr h3), fun h => by
  cases h with
  | tup a b => exact ⟨_, _, rfl, a, dp_vals.mp b⟩⟩
theorem lt_dt (ds : List PyData) : LstT (ds.map (DT K)) = DT K (.list ds) := Ty.ext' fun I v => ⟨fun ⟨p, xs, h1, h2, h3⟩ => h1 ▸ .lst h2 (dp_vals.mpr h3), fun h => by
  cases h with
  | lst a b => exact ⟨_, _, rfl, a, dp_vals.mp b⟩⟩
theorem dt_int {i : Int} {v : V} (h : (DT K (.int i)).r I v) : v = .int i := by cases h; rfl
theorem dt_bl {i : Bool} {v : V} (h : (DT K (.bool i)).r I v) : v = .bl i := by cases h; rfl
theorem dt_str {i : Str} {v : V} (h : (DT K (.str i)).r I v) : v = .str i := by cases h; rfl
theorem dt_non {v : V} (h : (DT K .none).r I v) : v = .non := by cases h; rfl
theorem dt_tup {ds : List PyData} {v : V} (h : (DT K (.tuple ds)).r I v) : ∃ p xs, v = .ref p ∧ SqT K I p xs ∧ AllTy I (ds.map (DT K)) xs := by
  rw [← tt_dt] at h
  exact h
theorem dt_lst {ds : List PyData} {v : V} (h : (DT K (.list ds)).r I v) : ∃ p xs, v = .ref p ∧ I p = some (.lst xs) ∧ AllTy I (ds.map (DT K)) xs := by
  rw [← lt_dt] at h
  exact h
theorem dt_dp {d : PyData} {v : V} (h : (DT K d).r I v) : Dp K I v d := dq_dp K d v h
end

/-! ### slots, owned objects -/
def EnvOk (σ : L2.St) (I : Hp) (Γ : TEnv) : Prop := Γ.length ≤ σ.length ∧ ∀ (i : Nat) (T : Ty), Γ[i]? = some (some T) → ∃ v, σ[i]? = some (some v) ∧ T.r I v
theorem EnvOk.mono {σ : L2.St} {I J : Hp} {Γ : TEnv} (e : Ex I J) (h : EnvOk σ I Γ) : EnvOk σ J Γ := ⟨h.1, fun i T q => by
  obtain ⟨v, a, b⟩ := h.2 i T q
  exact ⟨v, a, T.mono e b⟩⟩
theorem EnvOk.set {σ : L2.St} {I : Hp} {Γ : TEnv} {T : Ty} {v : V} (h : EnvOk σ I Γ) (q : T.r I v) (i : Nat) : EnvOk (σ.set i (some v)) I (Γ.set i (some T)) := by
  refine ⟨by rw [List.length_set, List.length_set]; exact h.1, fun j U hj => ?_⟩
  rw [List.getElem?_set] at hj ⊢
  split at hj
  · rename_i e
    split at hj
    · rename_i hlt
      cases hj
      rw [if_pos e, if_pos (Nat.lt_of_lt_of_le hlt h.1)]
      exact ⟨v, rfl, q⟩
    · cases hj
  · rename_i e
    rw [if_neg e]
    exact h.2 j U hj
/-- fewer slots told -/
def Less (Δ Γ : TEnv) : Prop := Δ.length = Γ.length ∧ ∀ (i : Nat) (T : Ty), Δ[i]? = some (some T) → ∃ S, Γ[i]? = some (some S) ∧ Sub S T
theorem EnvOk.less {σ : L2.St} {I : Hp} {Γ Δ : TEnv} (h : EnvOk σ I Γ) (l : Less Δ Γ) : EnvOk σ I Δ := ⟨l.1 ▸ h.1, fun i T q => by
  obtain ⟨S, a, b⟩ := l.2 i T q
  obtain ⟨v, c, d⟩ := h.2 i S a
  exact ⟨v, c, b _ _ d⟩⟩
theorem EnvOk.drop {σ : L2.St} {I : Hp} {Γ : TEnv} (h : EnvOk σ I Γ) (i : Nat) (x : Option V) : EnvOk (σ.set i x) I (Γ.set i none) := by
  refine ⟨by rw [List.length_set, List.length_set]; exact h.1, fun j U hj => ?_⟩
  rw [List.getElem?_set] at hj ⊢
  split at hj
  · split at hj <;> cases hj
  · rename_i e
    rw [if_neg e]
    exact h.2 j U hj
def wipeT (Γ : TEnv) : List Nat → TEnv
  | [] => Γ
  | v :: vs => (wipeT Γ vs).set v none
theorem EnvOk.wipe {σ : L2.St} {I : Hp} {Γ : TEnv} (h : EnvOk σ I Γ) : ∀ vs, EnvOk (wipe σ vs) I (wipeT Γ vs)
  | [] => h
  | v :: vs => (EnvOk.wipe h vs).drop v none
/-- where a def's run began: the part that stays, the heap, the objects given to it -/
structure Org where
  I0 : Hp
  H0 : Hp
  m0 : List Addr
structure Holds (O : Org) (I H : Hp) (M : Mem) : Prop where
  ex : Ex I H
  nd : (M.map (·.1)).Nodup
  at_ : ∀ m ∈ M, I m.1 = none ∧ (m.1 ∈ O.m0 ∨ O.H0 m.1 = none) ∧ ∃ o, H m.1 = some o ∧ m.2.r I o
  from_ : Ex O.I0 I
  keep : ∀ a o, O.H0 a = some o → a ∉ O.m0 → H a = some o
  new : ∀ a, O.H0 a ≠ none → I a = O.I0 a
  there : ∀ a, O.H0 a ≠ none → H a ≠ none
theorem ex_new {I : Hp} {p : Addr} {o : HO} (h : I p = none) : Ex I (upd I p o) := Evl.Ex.new h
theorem ex_none {I H : Hp} {p : Addr} (e : Ex I H) (h : H p = none) : I p = none := by
  cases q : I p with
  | none => rfl
  | some o =>
    rw [e _ _ q] at h
    cases h
theorem some_ne {H : Hp} {p : Addr} {o : HO} (h : H p = some o) : H p ≠ none := by
  rw [h]
  exact fun e => nomatch e
section
variable {O : Org} {I H : Hp} {M : Mem}
/-- an object comes that stays as it is -/
theorem Holds.new_ (h : Holds O I H M) {p : Addr} {o : HO} (hp : H p = none) : Ex I (upd I p o) ∧ Holds O (upd I p o) (upd H p o) M := by
  have hi := ex_none h.ex hp
  have e := ex_new (o := o) hi
  have hz : O.H0 p = none := by
    cases q : O.H0 p with
    | none => rfl
    | some u => exact absurd hp (h.there p (some_ne q))
  refine ⟨e, ⟨fun a u q => ?_, h.nd, fun m hm => ?_, fun a u q => e _ _ (h.from_ _ _ q), fun a u q n => ?_, fun a q => ?_, fun a q => ?_⟩⟩
  · by_cases c : a = p
    · subst c
      rw [upd_same] at q ⊢
      exact q
    · rw [upd_ne c] at q ⊢
      exact h.ex _ _ q
  · obtain ⟨a, b, u, c, d⟩ := h.at_ m hm
    have ne : m.1 ≠ p := ne_of_none c hp
    exact ⟨by rw [upd_ne ne]; exact a, b, u, by rw [upd_ne ne]; exact c, m.2.mono e d⟩
  · rw [upd_ne (ne_of_none (h.keep a u q n) hp)]
    exact h.keep a u q n
  · have ne : a ≠ p := fun z => q (z ▸ hz)
    rw [upd_ne ne]
    exact h.new a q
  · have ne : a ≠ p := fun z => q (z ▸ hz)
    rw [upd_ne ne]
    exact h.there a q
/-- an object comes that is owned -/
theorem Holds.own (h : Holds O I H M) {p : Addr} {o : HO} (c : Cell) (hp : H p = none) (hc : c.r I o) : O.H0 p = none ∧ Holds O I (upd H p o) ((p, c) :: M) := by
  have hi := ex_none h.ex hp
  have hz : O.H0 p = none := by
    cases q : O.H0 p with
    | none => rfl
    | some u => exact absurd hp (h.there p (some_ne q))
  refine ⟨hz, ⟨fun a u q => ?_, ?_, fun m hm => ?_, h.from_, fun a u q n => ?_, h.new, fun a q => ?_⟩⟩
  · rw [upd_ne (ne_of_none q hi)]
    exact h.ex _ _ q
  · rw [List.map_cons]
    refine List.nodup_cons.mpr ⟨fun z => ?_, h.nd⟩
    obtain ⟨m, hm, e⟩ := List.mem_map.mp z
    obtain ⟨_, _, u, q, _⟩ := h.at_ m hm
    rw [e, hp] at q
    cases q
  · rcases List.mem_cons.mp hm with rfl | hm
    · exact ⟨hi, .inr hz, o, upd_same, hc⟩
    · obtain ⟨a, b, u, q, d⟩ := h.at_ m hm
      exact ⟨a, b, u, by rw [upd_ne (ne_of_none q hp)]; exact q, d⟩
  · rw [upd_ne (ne_of_none (h.keep a u q n) hp)]
    exact h.keep a u q n
  · by_cases c : a = p
    · subst c
      rw [upd_same]
      exact fun e => nomatch e
    · rw [upd_ne c]
      exact h.there a q
theorem nodup_set {α : Type} {f : α → Addr} : ∀ {l : List α} {j : Nat} {x y : α}, l[j]? = some x → f y = f x → (l.map f).Nodup → ((l.set j y).map f).Nodup
  | l, j, x, y, h, e, n => by
    have q : (l.set j y).map f = l.map f := by
      rw [List.map_set, e]
      apply List.ext_getElem?
      intro i
      rw [List.getElem?_set]
      split
      · rename_i c
        subst c
        rw [List.getElem?_map, h]
        have : j < (l.map f).length := by
          rw [List.length_map]
          exact (List.getElem?_eq_some_iff.mp h).1
        rw [if_pos this]
        rfl
      · rfl
    rw [q]
    exact n
theorem nodup_at {N : List Addr} (hN : N.Nodup) {i j : Nat} {x : Addr} (a : N[i]? = some x) (b : N[j]? = some x) : i = j := by
  obtain ⟨h1, e1⟩ := List.getElem?_eq_some_iff.mp a
  obtain ⟨h2, e2⟩ := List.getElem?_eq_some_iff.mp b
  exact (List.getElem_inj hN).mp (e1.trans e2.symm)
theorem mem_uniq {l : Mem} (n : (l.map (·.1)).Nodup) {i j : Nat} {x y : Addr × Cell} (hi : l[i]? = some x) (hj : l[j]? = some y) (e : x.1 = y.1) : i = j := by
  have a : (l.map (·.1))[i]? = some x.1 := by rw [List.getElem?_map, hi]; rfl
  have b : (l.map (·.1))[j]? = some x.1 := by rw [List.getElem?_map, hj, e]; rfl
  exact nodup_at n a b
/-- an owned object is written -/
theorem Holds.write (h : Holds O I H M) {j : Nat} {l : Addr} {c c' : Cell} {o : HO} (hm : M[j]? = some (l, c)) (hc : c'.r I o) : Holds O I (upd H l o) (M.set j (l, c')) := by
  obtain ⟨hi, hl, u, hu, _⟩ := h.at_ _ (List.mem_of_getElem? hm)
  refine ⟨fun a u q => ?_, nodup_set hm rfl h.nd, fun m hx => ?_, h.from_, fun a u q n => ?_, h.new, fun a q => ?_⟩
  · rw [upd_ne (ne_of_none q hi)]
    exact h.ex _ _ q
  · obtain ⟨i, hi'⟩ := List.getElem?_of_mem hx
    rw [List.getElem?_set] at hi'
    split at hi'
    · split at hi'
      · cases hi'
        exact ⟨hi, hl, o, upd_same, hc⟩
      · cases hi'
    · rename_i ne
      obtain ⟨a, b, v, q, d⟩ := h.at_ m (List.mem_of_getElem? hi')
      have n2 : m.1 ≠ l := fun e => ne (mem_uniq h.nd hm hi' e.symm)
      exact ⟨a, b, v, by rw [upd_ne n2]; exact q, d⟩
  · have ne : a ≠ l := fun e => by
      subst e
      rcases hl with z | z
      · exact n z
      · rw [q] at z
        cases z
    rw [upd_ne ne]
    exact h.keep a u q n
  · by_cases c : a = l
    · subst c
      rw [upd_same]
      exact fun e => nomatch e
    · rw [upd_ne c]
      exact h.there a q
/-- an owned object of our own stays from now on as it is -/
theorem Holds.freeze (h : Holds O I H M) {j : Nat} {l : Addr} {c : Cell} {o : HO} (hm : M[j]? = some (l, c)) (ho : H l = some o) (hz : O.H0 l = none) : Ex I (upd I l o) ∧ Holds O (upd I l o) H (M.eraseIdx j) := by
  obtain ⟨hi, hl, _⟩ := h.at_ _ (List.mem_of_getElem? hm)
  have e := ex_new (o := o) hi
  refine ⟨e, ⟨fun a u q => ?_, ?_, fun m hx => ?_, fun a u q => e _ _ (h.from_ _ _ q), h.keep, fun a q => ?_, h.there⟩⟩
  · by_cases c : a = l
    · subst c
      rw [upd_same] at q
      exact ho.trans q
    · rw [upd_ne c] at q
      exact h.ex _ _ q
  · exact h.nd.sublist ((List.eraseIdx_sublist _ _).map _)
  · obtain ⟨i, hx⟩ := List.getElem?_of_mem hx
    have hx' : ∃ k, k ≠ j ∧ M[k]? = some m := by
      rw [List.getElem?_eraseIdx] at hx
      split at hx
      · exact ⟨i, by omega, hx⟩
      · exact ⟨i + 1, by omega, hx⟩
    obtain ⟨k, hk, hx⟩ := hx'
    obtain ⟨a, b, v, q, d⟩ := h.at_ m (List.mem_of_getElem? hx)
    have n2 : m.1 ≠ l := fun e => hk (mem_uniq h.nd hx hm e)
    exact ⟨by rw [upd_ne n2]; exact a, b, v, q, m.2.mono e d⟩
  · have ne : a ≠ l := fun z => q (z ▸ hz)
    rw [upd_ne ne]
    exact h.new a q
/-- what is owned is forgotten -/
theorem Holds.less {M' : Mem} (h : Holds O I H M) (s : M'.Sublist M) : Holds O I H M' :=
  ⟨h.ex, h.nd.sublist (s.map _), fun m hm => h.at_ m (s.subset hm), h.from_, h.keep, h.new, h.there⟩
/-- the start of a callee -/
theorem Holds.start (h : Holds O I H M) {M' : Mem} (hs : ∀ m ∈ M', m ∈ M) (n : (M'.map (·.1)).Nodup) : Holds ⟨I, H, M'.map (·.1)⟩ I H M' :=
  ⟨h.ex, n, fun m hm => by
    obtain ⟨a, _, c⟩ := h.at_ m (hs m hm)
    exact ⟨a, .inl (List.mem_map_of_mem hm), c⟩, fun _ _ q => q, fun _ _ q _ => q, fun _ _ => rfl, fun _ q => q⟩
/-- behind a callee: its objects have changed -/
theorem Holds.back (h : Holds O I H M) {M' N N' : Mem} {I' H' : Hp} (hs : ∀ m ∈ M', m ∈ M) (h' : Holds ⟨I, H, M'.map (·.1)⟩ I' H' N')
    (hN : N.map (·.1) = M.map (·.1)) (hn : ∀ m ∈ N, m ∈ N' ∨ (m ∈ M ∧ m.1 ∉ M'.map (·.1))) : Holds O I' H' N := by
  refine ⟨h'.ex, by rw [hN]; exact h.nd, fun m hm => ?_, fun a u q => h'.from_ _ _ (h.from_ _ _ q), fun a u q n => ?_, fun a q => ?_, fun a q => h'.there a (h.there a q)⟩
  · have ha : m.1 ∈ O.m0 ∨ O.H0 m.1 = none := by
      have z : m.1 ∈ M.map (·.1) := by
        rw [← hN]
        exact List.mem_map_of_mem hm
      obtain ⟨y, hy, e⟩ := List.mem_map.mp z
      rw [← e]
      exact (h.at_ y hy).2.1
    rcases hn m hm with z | ⟨z, nz⟩
    · obtain ⟨a, _, c⟩ := h'.at_ m z
      exact ⟨a, ha, c⟩
    · obtain ⟨a, _, o, c, d⟩ := h.at_ m z
      exact ⟨(h'.new m.1 (some_ne c)).trans a, ha, o, h'.keep _ _ c nz, m.2.mono h'.from_ d⟩
  · refine h'.keep _ _ (h.keep a u q n) fun z => ?_
    obtain ⟨y, hy, e⟩ := List.mem_map.mp z
    rcases (h.at_ y (hs y hy)).2.1 with w | w
    · exact n (e ▸ w)
    · rw [e, q] at w
      cases w
  · exact (h'.new a (h.there a q)).trans (h.new a q)
theorem Holds.back_ (h : Holds O I H M) {M' : Mem} {I' H' : Hp} (hs : ∀ m ∈ M', m ∈ M) (h' : Holds ⟨I, H, M'.map (·.1)⟩ I' H' M') : Holds O I' H' M :=
  h.back hs h' rfl fun m hm => by
    by_cases c : m.1 ∈ M'.map (·.1)
    · obtain ⟨y, hy, e⟩ := List.mem_map.mp c
      obtain ⟨i, hi⟩ := List.getElem?_of_mem hm
      obtain ⟨j, hj⟩ := List.getElem?_of_mem (hs y hy)
      have q := mem_uniq h.nd hi hj e.symm
      subst q
      rw [hi] at hj
      cases hj
      exact .inl hy
    · exact .inr ⟨hm, c⟩
end

/-! ### what a reading gives -/
/-- te's value is of type T, what is owned stays so -/
def ET (te : TE) (Γ : TEnv) (M : Mem) (T : Ty) : Prop := ∀ (O : Org) (σ : L2.St) (I H : Hp) (Q : VK), EnvOk σ I Γ → Holds O I H M → (∀ v I' H', Ex I I' → Holds O I' H' M → T.r I' v → Q v H') → te σ H Q
def EA (ta : TA) (Γ : TEnv) (M : Mem) (Ts : List Ty) : Prop := ∀ (O : Org) (σ : L2.St) (I H : Hp) (Q : List V → Hp → Prop), EnvOk σ I Γ → Holds O I H M → (∀ vs I' H', Ex I I' → Holds O I' H' M → AllTy I' Ts vs → Q vs H') → ta σ H Q
def BT (tt : TT) (Γ : TEnv) (M : Mem) (b : Bool) : Prop := ∀ (O : Org) (σ : L2.St) (I H : Hp) (Q : Bool → Hp → Prop), EnvOk σ I Γ → Holds O I H M → (∀ I' H', Ex I I' → Holds O I' H' M → Q b H') → tt σ H Q
/-- .. a test whose answer is not told -/
def BX (tt : TT) (Γ : TEnv) (M : Mem) (p : Bool → Prop) : Prop := ∀ (O : Org) (σ : L2.St) (I H : Hp) (Q : Bool → Hp → Prop), EnvOk σ I Γ → Holds O I H M → (∀ b I' H', p b → Ex I I' → Holds O I' H' M → Q b H') → tt σ H Q
/-- two-place operations, one-place ones, calls of values -/
def RX (r : R2) (M : Mem) (S T U : Ty) : Prop := ∀ (O : Org) (I H : Hp) (x y : V) (Q : VK), Holds O I H M → S.r I x → T.r I y → (∀ v I' H', Ex I I' → Holds O I' H' M → U.r I' v → Q v H') → r x y H Q
def UX (r : V → Hp → VK → Prop) (M : Mem) (S U : Ty) : Prop := ∀ (O : Org) (I H : Hp) (x : V) (Q : VK), Holds O I H M → S.r I x → (∀ v I' H', Ex I I' → Holds O I' H' M → U.r I' v → Q v H') → r x H Q
def CX' (r : List V → Hp → VK → Prop) (M : Mem) (Ts : List Ty) (U : Ty) : Prop := ∀ (O : Org) (I H : Hp) (xs : List V) (Q : VK), Holds O I H M → AllTy I Ts xs → (∀ v I' H', Ex I I' → Holds O I' H' M → U.r I' v → Q v H') → r xs H Q
section
variable {K : PySem.W.Frag} {Γ : TEnv} {M : Mem} {S T U : Ty} {ta tb te : TE} {tt tu : TT} {r : R2} {ts : TA} {Ts : List Ty}
theorem et_sub (h : ET te Γ M S) (s : Sub S T) : ET te Γ M T := fun O σ I H Q e h0 q => h O σ I H Q e h0 fun v I' H' a b c => q v I' H' a b (s _ _ c)
theorem et_eq (h : ET te Γ M S) (s : S = T) : ET te Γ M T := s ▸ h
theorem et_var {i : Nat} (h : Γ[i]? = some (some T)) : ET (tVar i) Γ M T := fun O σ I H Q e h0 q => by
  obtain ⟨v, a, b⟩ := e.2 i T h
  exact ⟨v, a, q v I H (Evl.Ex.refl I) h0 b⟩
theorem et_val {v : V} (h : ∀ I, T.r I v) : ET (tC v) Γ M T := fun O σ I H Q e h0 q => q v I H (Evl.Ex.refl I) h0 (h I)
theorem et_v {v : V} : ET (tC v) Γ M (VT v) := et_val fun _ => rfl
theorem et_int {i : Int} : ET (tC (.int i)) Γ M (DT K (.int i)) := et_val fun _ => .int i
theorem et_bl {i : Bool} : ET (tC (.bl i)) Γ M (DT K (.bool i)) := et_val fun _ => .bl i
theorem et_str {i : Str} : ET (tC (.str i)) Γ M (DT K (.str i)) := et_val fun _ => .str i
theorem et_non : ET (tC .non) Γ M (DT K .none) := et_val fun _ => .non
theorem et_op (ha : ET ta Γ M S) (hb : ET tb Γ M T) (hr : RX r M S T U) : ET (tOp r ta tb) Γ M U := fun O σ I H Q e h0 q =>
  ha O σ I H _ e h0 fun x I1 H1 e1 h1 a => hb O σ I1 H1 _ (e.mono e1) h1 fun y I2 H2 e2 h2 b => hr O I2 H2 x y Q h2 (S.mono e2 a) b fun v I3 H3 e3 h3 c => q v I3 H3 (e1.trans (e2.trans e3)) h3 c
theorem et_un {u : V → Hp → VK → Prop} (ha : ET ta Γ M S) (hr : UX u M S U) : ET (tUn u ta) Γ M U := fun O σ I H Q e h0 q =>
  ha O σ I H _ e h0 fun x I1 H1 e1 h1 a => hr O I1 H1 x Q h1 a fun v I3 H3 e3 h3 c => q v I3 H3 (e1.trans e3) h3 c
theorem et_if {b : Bool} (hc : BT tt Γ M b) (ha : b = true → ET ta Γ M T) (hb : b = false → ET tb Γ M T) : ET (tIf tt ta tb) Γ M T := fun O σ I H Q e h0 q =>
  hc O σ I H _ e h0 fun I1 H1 e1 h1 => by
    cases b with
    | true =>
      rw [if_pos rfl]
      exact ha rfl O σ I1 H1 Q (e.mono e1) h1 fun v I3 H3 e3 h3 c => q v I3 H3 (e1.trans e3) h3 c
    | false =>
      rw [if_neg Bool.false_ne_true]
      exact hb rfl O σ I1 H1 Q (e.mono e1) h1 fun v I3 H3 e3 h3 c => q v I3 H3 (e1.trans e3) h3 c
theorem ea_nil : EA tNil Γ M [] := fun O σ I H Q e h0 q => q [] I H (Evl.Ex.refl I) h0 .nil
theorem ea_cons (ha : ET ta Γ M T) (hs : EA ts Γ M Ts) : EA (tCons ta ts) Γ M (T :: Ts) := fun O σ I H Q e h0 q =>
  ha O σ I H _ e h0 fun x I1 H1 e1 h1 a => hs O σ I1 H1 _ (e.mono e1) h1 fun xs I2 H2 e2 h2 b => q (x :: xs) I2 H2 (e1.trans e2) h2 (.cons (T.mono e2 a) b)
theorem et_tup (h : EA ts Γ M Ts) (hz : Ts.length ≤ sizeLine) : ET (tTup ts) Γ M (TupT K Ts) := fun O σ I H Q e h0 q =>
  h O σ I H _ e h0 fun xs I1 H1 e1 h1 a => ⟨a.length ▸ hz, fun p hp => by
    obtain ⟨e2, h2⟩ := h1.new_ (o := .tup xs) hp
    exact q _ _ _ (e1.trans e2) h2 ⟨p, xs, rfl, SqT.of upd_same, a.mono e2⟩⟩
theorem et_lst (h : EA ts Γ M Ts) (hz : Ts.length ≤ sizeLine) : ET (tLst ts) Γ M (LstT Ts) := fun O σ I H Q e h0 q =>
  h O σ I H _ e h0 fun xs I1 H1 e1 h1 a => ⟨a.length ▸ hz, fun p hp => by
    obtain ⟨e2, h2⟩ := h1.new_ (o := .lst xs) hp
    exact q _ _ _ (e1.trans e2) h2 ⟨p, xs, rfl, upd_same, a.mono e2⟩⟩
/-- written data -/
def EAD (K : PySem.W.Frag) (ts : TA) (Γ : TEnv) (M : Mem) (ds : List PyData) : Prop := EA ts Γ M (ds.map (DT K))
theorem ead_nil : EAD K tNil Γ M [] := ea_nil
theorem ead_cons {d : PyData} {ds : List PyData} (ha : ET ta Γ M (DT K d)) (hs : EAD K ts Γ M ds) : EAD K (tCons ta ts) Γ M (d :: ds) := ea_cons ha hs
theorem et_tupD {ds : List PyData} (h : EAD K ts Γ M ds) (hz : ds.length ≤ sizeLine) : ET (tTup ts) Γ M (DT K (.tuple ds)) := tt_dt (K := K) ds ▸ et_tup h (by rw [List.length_map]; exact hz)
theorem et_lstD {ds : List PyData} (h : EAD K ts Γ M ds) (hz : ds.length ≤ sizeLine) : ET (tLst ts) Γ M (DT K (.list ds)) := lt_dt (K := K) ds ▸ et_lst h (by rw [List.length_map]; exact hz)
theorem et_cb {u : List V → Hp → VK → Prop} (h : EA ts Γ M Ts) (hr : CX' u M Ts U) : ET (tCB u ts) Γ M U := fun O σ I H Q e h0 q =>
  h O σ I H _ e h0 fun xs I1 H1 e1 h1 a => hr O I1 H1 xs Q h1 a fun v I3 H3 e3 h3 c => q v I3 H3 (e1.trans e3) h3 c
/-! tests -/
theorem bt_test {b : Bool} (h : ET te Γ M (DT K (.bool b))) : BT (tTest te) Γ M b := fun O σ I H Q e h0 q => h O σ I H _ e h0 fun v I1 H1 e1 h1 a => ⟨b, dt_bl a, q I1 H1 e1 h1⟩
theorem bt_B {b : Bool} (h : ET te Γ M (DT K (.bool b))) : BT (tB te) Γ M b := fun O σ I H Q e h0 q => h O σ I H _ e h0 fun v I1 H1 e1 h1 a => ⟨b, dt_bl a, q I1 H1 e1 h1⟩
theorem bt_not {b : Bool} (h : BT tt Γ M b) : BT (tNot tt) Γ M (!b) := fun O σ I H Q e h0 q => h O σ I H _ e h0 fun I1 H1 e1 h1 => q I1 H1 e1 h1
theorem bt_and {a b : Bool} (h : BT tt Γ M a) (k : a = true → BT tu Γ M b) : BT (tAnd tt tu) Γ M (a && b) := fun O σ I H Q e h0 q => h O σ I H _ e h0 fun I1 H1 e1 h1 => by
  cases a with
  | true =>
    rw [if_pos rfl]
    exact k rfl O σ I1 H1 Q (e.mono e1) h1 fun I2 H2 e2 h2 => q I2 H2 (e1.trans e2) h2
  | false =>
    rw [if_neg Bool.false_ne_true]
    exact q I1 H1 e1 h1
theorem bt_or {a b : Bool} (h : BT tt Γ M a) (k : a = false → BT tu Γ M b) : BT (tOr tt tu) Γ M (a || b) := fun O σ I H Q e h0 q => h O σ I H _ e h0 fun I1 H1 e1 h1 => by
  cases a with
  | true =>
    rw [if_pos rfl]
    exact q I1 H1 e1 h1
  | false =>
    rw [if_neg Bool.false_ne_true]
    exact k rfl O σ I1 H1 Q (e.mono e1) h1 fun I2 H2 e2 h2 => q I2 H2 (e1.trans e2) h2
theorem bt_yes : BT tYes Γ M true := fun O σ I H Q e h0 q => q I H (Evl.Ex.refl I) h0
theorem bt_eq {a b : Bool} (h : BT tt Γ M a) (e : a = b) : BT tt Γ M b := e ▸ h
theorem bx_of {b : Bool} (h : BT tt Γ M b) : BX tt Γ M (· = b) := fun O σ I H Q e h0 q => h O σ I H _ e h0 fun I1 H1 e1 h1 => q b I1 H1 rfl e1 h1
theorem bx_imp {p q : Bool → Prop} (h : BX tt Γ M p) (i : ∀ b, p b → q b) : BX tt Γ M q := fun O σ I H Q e h0 k => h O σ I H _ e h0 fun b I1 H1 hp e1 h1 => k b I1 H1 (i b hp) e1 h1
theorem bx_not {p : Bool → Prop} (h : BX tt Γ M p) : BX (tNot tt) Γ M (fun b => p (!b)) := fun O σ I H Q e h0 q => h O σ I H _ e h0 fun b I1 H1 hp e1 h1 => q (!b) I1 H1 (by show p (!!b); rw [Bool.not_not]; exact hp) e1 h1
theorem bx_test {α : Type} {p : α → Prop} {f : α → Bool} (h : ET te Γ M (XT p fun a => DT K (.bool (f a)))) : BX (tTest te) Γ M (fun _ => True) := fun O σ I H Q e h0 q =>
  h O σ I H _ e h0 fun v I1 H1 e1 h1 ⟨a, _, d⟩ => ⟨f a, dt_bl d, q _ I1 H1 trivial e1 h1⟩
theorem bx_or {p p' : Bool → Prop} (h : BX tt Γ M p) (k : BX tu Γ M p') : BX (tOr tt tu) Γ M (fun _ => True) := fun O σ I H Q e h0 q => h O σ I H _ e h0 fun a I1 H1 _ e1 h1 => by
  cases a with
  | true =>
    rw [if_pos rfl]
    exact q _ I1 H1 trivial e1 h1
  | false =>
    rw [if_neg Bool.false_ne_true]
    exact k O σ I1 H1 Q (e.mono e1) h1 fun b I2 H2 _ e2 h2 => q b I2 H2 trivial (e1.trans e2) h2
/-! and, or, not as bools -/
theorem et_and {a b : Bool} (h : ET ta Γ M (DT K (.bool a))) (k : a = true → ET tb Γ M (DT K (.bool b))) : ET (tAndV ta tb) Γ M (DT K (.bool (a && b))) := fun O σ I H Q e h0 q => h O σ I H _ e h0 fun v I1 H1 e1 h1 c => ⟨a, dt_bl c, by
  cases a with
  | true =>
    rw [if_pos rfl]
    exact k rfl O σ I1 H1 Q (e.mono e1) h1 fun v I2 H2 e2 h2 c => q v I2 H2 (e1.trans e2) h2 c
  | false =>
    rw [if_neg Bool.false_ne_true]
    exact q _ I1 H1 e1 h1 (.bl false)⟩
theorem et_or {a b : Bool} (h : ET ta Γ M (DT K (.bool a))) (k : a = false → ET tb Γ M (DT K (.bool b))) : ET (tOrV ta tb) Γ M (DT K (.bool (a || b))) := fun O σ I H Q e h0 q => h O σ I H _ e h0 fun v I1 H1 e1 h1 c => ⟨a, dt_bl c, by
  cases a with
  | true =>
    rw [if_pos rfl]
    exact q _ I1 H1 e1 h1 (.bl true)
  | false =>
    rw [if_neg Bool.false_ne_true]
    exact k rfl O σ I1 H1 Q (e.mono e1) h1 fun v I2 H2 e2 h2 c => q v I2 H2 (e1.trans e2) h2 c⟩
theorem et_not {a : Bool} (h : ET ta Γ M (DT K (.bool a))) : ET (tNotV ta) Γ M (DT K (.bool (!a))) := fun O σ I H Q e h0 q => h O σ I H _ e h0 fun v I1 H1 e1 h1 c => ⟨a, dt_bl c, q _ I1 H1 e1 h1 (.bl _)⟩
end
/-- a type that is one of a family: case by case -/
theorem rx_x1 {α : Type} {p : α → Prop} {F : α → Ty} {r : R2} {M : Mem} {T U : Ty} (h : ∀ a, p a → RX r M (F a) T U) : RX r M (XT p F) T U := fun O I H x y Q h0 ⟨a, pa, ha⟩ hb q => h a pa O I H x y Q h0 ha hb q
theorem rx_x2 {α : Type} {p : α → Prop} {F : α → Ty} {r : R2} {M : Mem} {S U : Ty} (h : ∀ a, p a → RX r M S (F a) U) : RX r M S (XT p F) U := fun O I H x y Q h0 hb ⟨a, pa, ha⟩ q => h a pa O I H x y Q h0 hb ha q
theorem rx_sub {r : R2} {M : Mem} {S T U U' : Ty} (h : RX r M S T U) (s : Sub U U') : RX r M S T U' := fun O I H x y Q h0 a b q => h O I H x y Q h0 a b fun v I' H' e h1 c => q v I' H' e h1 (s _ _ c)
end Tw
end
/-! TwLogic2 -/
section
set_option Elab.async false
set_option linter.all false
set_option autoImplicit false
set_option maxRecDepth 100000
/-! The logic's loops, comprehensions, blocks, calls. -/
namespace Tw
open PySem PySem.Spec PyProof.Rows L2
open Evl (Ex ex_l ex_t ex_rd)
/-! ### iterators -/
/-- from the state I on, the iterator gives the items xs, of types gT -/
structure Iter {α : Type} (J : It) (I0 : Hp) (xs : List α) (gT : α → Ty) : Prop where
  go : ∀ (i : Nat) (a : α) (I H : Hp), xs[i]? = some a → Ex I0 I → Ex I H → J.go i H
  yld : ∀ (i : Nat) (a : α) (I H : Hp) (x : V) (H' : Hp), xs[i]? = some a → Ex I0 I → Ex I H → J.yld i H x H' → (H' = H ∧ (gT a).r I x) ∨ (∃ p o, H p = none ∧ H' = upd H p o ∧ (gT a).r (upd I p o) x)
  stop : ∀ (I H : Hp), Ex I0 I → Ex I H → J.stop xs.length H
def IX {α : Type} (wi : TI) (Γ : TEnv) (M : Mem) (xs : List α) (gT : α → Ty) : Prop := ∀ (O : Org) (σ : L2.St) (I H : Hp) (R : It → Hp → Prop), EnvOk σ I Γ → Holds O I H M → (∀ J I' H', Ex I I' → Holds O I' H' M → Iter J I' xs gT → R J H') → wi σ H R
/-! ### targets -/
def setsT (Γ : TEnv) : List (Nat × Ty) → TEnv
  | [] => Γ
  | w :: ws => setsT (Γ.set w.1 (some w.2)) ws
def setsV (σ : L2.St) : List (Nat × Ty) → List V → L2.St
  | w :: ws, v :: vs => setsV (σ.set w.1 (some v)) ws vs
  | _, _ => σ
abbrev Paid (I : Hp) (ws : List (Nat × Ty)) (vs : List V) : Prop := Paired (fun (w : Nat × Ty) v => w.2.r I v) ws vs
theorem EnvOk.sets {I : Hp} : ∀ {ws : List (Nat × Ty)} {vs : List V} {σ : L2.St} {Γ : TEnv}, EnvOk σ I Γ → Paid I ws vs → EnvOk (setsV σ ws vs) I (setsT Γ ws)
  | _, _, _, _, h, .nil => h
  | w :: ws, _ :: vs, _, _, h, .cons a t => EnvOk.sets (ws := ws) (vs := vs) (h.set a w.1) t
theorem Paid.app {I : Hp} : ∀ {ws us : List (Nat × Ty)} {vs xs : List V}, Paid I ws vs → Paid I us xs → Paid I (ws ++ us) (vs ++ xs)
  | _, _, _, _, .nil, h => h
  | _, _, _, _, .cons a t, h => .cons a (Paid.app t h)
theorem setsV_app {I : Hp} : ∀ {ws us : List (Nat × Ty)} {vs xs : List V} {σ : L2.St}, Paid I ws vs → setsV σ (ws ++ us) (vs ++ xs) = setsV (setsV σ ws vs) us xs
  | _, _, _, _, _, .nil => rfl
  | w :: ws, us, v :: vs, xs, σ, .cons a t => setsV_app (ws := ws) (vs := vs) (us := us) (xs := xs) (σ := σ.set w.1 (some v)) t
/-- a value of type T goes to the target: the slots ws get their types -/
def GT (g : TG) (T : Ty) (ws : List (Nat × Ty)) : Prop := ∀ (σ : L2.St) (I H : Hp) (v : V) (Q : L2.St → Hp → Prop), Ex I H → T.r I v → (∀ vs, Paid I ws vs → Q (setsV σ ws vs) H) → g v σ H Q
def GTs (g : TGs) (Ts : List Ty) (ws : List (Nat × Ty)) : Prop := ∀ (σ : L2.St) (I H : Hp) (xs : List V) (Q : L2.St → Hp → Prop), Ex I H → AllTy I Ts xs → (∀ vs, Paid I ws vs → Q (setsV σ ws vs) H) → g xs σ H Q
section
variable {K : PySem.W.Frag} {T : Ty} {Ts : List Ty} {ws us : List (Nat × Ty)} {g : TG} {gs : TGs}
theorem gt_name {i : Nat} : GT (gName i) T [(i, T)] := fun σ I H v Q e a q => q [v] (.cons a .nil)
theorem gts_nil : GTs gNil [] [] := fun σ I H v Q e a q => by
  cases a
  exact ⟨rfl, q [] .nil⟩
theorem gts_cons (h : GT g T ws) (hs : GTs gs Ts us) : GTs (gCons g gs) (T :: Ts) (ws ++ us) := fun σ I H xs Q e a q => by
  cases a with
  | cons a t => exact ⟨_, _, rfl, h σ I H _ _ e a fun vs p => hs _ I H _ _ e t fun xs p' => by
      have z := q (vs ++ xs) (p.app p')
      rw [setsV_app p] at z
      exact z⟩
theorem gt_tup {n : Nat} (h : GTs gs Ts ws) (hn : Ts.length = n) : GT (gTup K n gs) (TupT K Ts) ws := fun σ I H v Q e ⟨p, xs, h1, h2, h3⟩ q =>
  ⟨p, xs, h1, ex_t e h2, h3.length ▸ hn, h σ I H xs Q e h3 q⟩
theorem gt_tupD {n : Nat} {ds : List PyData} (h : GTs gs (ds.map (DT K)) ws) (hn : ds.length = n) : GT (gTup K n gs) (DT K (.tuple ds)) ws := tt_dt (K := K) ds ▸ gt_tup h (by rw [List.length_map]; exact hn)
end
theorem wipe_set {σ : L2.St} {i : Nat} {x : Option V} : ∀ {vs : List Nat}, i ∈ vs → wipe (σ.set i x) vs = wipe σ vs
  | [], h => nomatch h
  | v :: vs, h => by
    show (wipe (σ.set i x) vs).set v none = (wipe σ vs).set v none
    by_cases c : i ∈ vs
    · rw [wipe_set c]
    · have e : i = v := by
        rcases List.mem_cons.mp h with e | e
        · exact e
        · exact absurd e c
      subst e
      have q : ∀ (us : List Nat), i ∉ us → wipe (σ.set i x) us = (wipe σ us).set i x := by
        intro us
        induction us with
        | nil => exact fun _ => rfl
        | cons u us ih =>
          intro hn
          have h1 : i ≠ u := fun e => hn (e ▸ List.mem_cons_self)
          have h2 : i ∉ us := fun e => hn (List.mem_cons_of_mem _ e)
          show (wipe (σ.set i x) us).set u none = ((wipe σ us).set u none).set i x
          rw [ih h2, List.set_comm _ _ h1]
      rw [q vs c, List.set_set]
theorem wipe_wipe {σ : L2.St} : ∀ {vs us : List Nat}, (∀ i ∈ us, i ∈ vs) → wipe (wipe σ us) vs = wipe σ vs
  | vs, [], _ => rfl
  | vs, u :: us, h => by
    show wipe ((wipe σ us).set u none) vs = wipe σ vs
    rw [wipe_set (h u List.mem_cons_self)]
    exact wipe_wipe fun i hi => h i (List.mem_cons_of_mem _ hi)
theorem wipe_sets {vs : List Nat} : ∀ {ws : List (Nat × Ty)} {xs : List V} {σ : L2.St}, (∀ w ∈ ws, w.1 ∈ vs) → wipe (setsV σ ws xs) vs = wipe σ vs
  | [], _, _, _ => rfl
  | _ :: _, [], _, _ => rfl
  | w :: ws, x :: xs, σ, h => by
    show wipe (setsV (σ.set w.1 (some x)) ws xs) vs = wipe σ vs
    rw [wipe_sets fun u hu => h u (List.mem_cons_of_mem _ hu), wipe_set (h w List.mem_cons_self)]
/-! ### cells -/
/-- an owned list of items of given types -/
def lstC (Ts : List Ty) : Cell := ⟨fun I o => ∃ vs, o = .lst vs ∧ AllTy I Ts vs, fun e ⟨vs, h1, h2⟩ => ⟨vs, h1, h2.mono e⟩⟩
/-! ### list comprehensions -/
theorem take_succ_at {α : Type} {xs : List α} {i : Nat} {a : α} (h : xs[i]? = some a) : xs.take (i + 1) = xs.take i ++ [a] := by
  rw [List.take_add_one, h]
  rfl
section
variable {K : PySem.W.Frag} {Γ : TEnv} {M : Mem} {α : Type} {xs : List α} {gT : α → Ty} {ws : α → List (Nat × Ty)} {f : α → Ty} {p : α → Bool} {wi : TI} {g : TG} {tt : TT} {te : TE} {vs : List Nat}
theorem et_lcIf (hi : IX wi Γ M xs gT) (hg : ∀ a ∈ xs, GT g (gT a) (ws a)) (hw : ∀ a, ∀ w ∈ ws a, w.1 ∈ vs) (ht : ∀ a ∈ xs, BT tt (setsT (wipeT Γ vs) (ws a)) M (p a)) (he : ∀ a ∈ xs, p a = true → ET te (setsT (wipeT Γ vs) (ws a)) M (f a))
    (hz : xs.length < sizeLine) : ET (tLc wi g tt te vs) Γ M (LstT ((xs.filter p).map f)) := by
  intro O σ I H Q e0 h0 q
  refine hi O σ I H _ e0 h0 fun J I1 H1 e1 h1 it D hD => ?_
  have hz0 := (h1.own (o := .lst []) (lstC []) hD ⟨[], rfl, .nil⟩).1
  have cn : (lstC (((xs.take 0).filter p).map f)).r I1 (.lst []) := ⟨[], rfl, .nil⟩
  refine ⟨fun i m H => m = xs.length - i ∧ i ≤ xs.length ∧ ∃ I', Ex I1 I' ∧ Holds O I' H ((D, lstC (((xs.take i).filter p).map f)) :: M), ⟨_, rfl, Nat.zero_le _, I1, Evl.Ex.refl I1, (h1.own _ hD cn).2⟩, ?_⟩
  rintro i m H2 ⟨rfl, hle, I2, e2, h2⟩
  by_cases c : i = xs.length
  · subst c
    left
    refine ⟨it.stop I2 H2 e2 h2.ex, ?_⟩
    obtain ⟨_, _, o, ho, us, rfl, hu⟩ := h2.at_ _ List.mem_cons_self
    obtain ⟨e3, h3⟩ := h2.freeze (j := 0) rfl ho hz0
    rw [List.take_length] at hu
    exact q _ _ _ (e1.trans (e2.trans e3)) h3 ⟨D, us, rfl, upd_same, hu.mono e3⟩
  · right
    have hlt : i < xs.length := Nat.lt_of_le_of_ne hle c
    obtain ⟨a, ha⟩ : ∃ a, xs[i]? = some a := ⟨_, List.getElem?_eq_getElem hlt⟩
    have hm : a ∈ xs := List.mem_of_getElem? ha
    refine ⟨it.go i a I2 H2 ha e2 h2.ex, fun H' => ∃ I', Ex I1 I' ∧ Holds O I' H' ((D, lstC (((xs.take (i + 1)).filter p).map f)) :: M), fun H' ⟨I', a1, a2⟩ => ⟨_, Nat.sub_lt_sub_left hlt (Nat.lt_succ_self i), rfl, hlt, I', a1, a2⟩, fun x H3 hy => ?_⟩
    have main : ∀ I3, Ex I2 I3 → Holds O I3 H3 ((D, lstC (((xs.take i).filter p).map f)) :: M) → (gT a).r I3 x → g x (wipe σ vs) H3 fun σ2 H2 => wipe σ2 vs = wipe σ vs ∧ tt σ2 H2 fun b H3 =>
        if b = true then te σ2 H3 fun y H4 => ∃ acc, H4 D = some (.lst acc) ∧ acc.length < sizeLine ∧ ∃ I', Ex I1 I' ∧ Holds O I' (upd H4 D (.lst (acc ++ [y]))) ((D, lstC (((xs.take (i + 1)).filter p).map f)) :: M) else ∃ I', Ex I1 I' ∧ Holds O I' H3 ((D, lstC (((xs.take (i + 1)).filter p).map f)) :: M) := by
      intro I3 e3 h3 hx
      refine hg a hm (wipe σ vs) I3 H3 x _ h3.ex hx fun us hu => ⟨(wipe_sets (hw a)).trans (wipe_wipe fun _ h => h), ?_⟩
      have env : EnvOk (setsV (wipe σ vs) (ws a) us) I3 (setsT (wipeT Γ vs) (ws a)) := EnvOk.sets ((e0.mono (e1.trans (e2.trans e3))).wipe vs) hu
      have sub : ∀ m ∈ M, m ∈ (D, lstC (((xs.take i).filter p).map f)) :: M := fun m h => List.mem_cons_of_mem _ h
      have nd : (M.map (·.1)).Nodup := h1.nd
      refine ht a hm _ _ I3 H3 _ env (h3.start sub nd) fun I4 H4 e4 h4 => ?_
      have h4 := h3.back_ sub h4
      cases hp : p a with
      | true =>
        rw [if_pos rfl]
        refine he a hm hp _ _ I4 H4 _ (env.mono e4) (h4.start sub nd) fun y I5 H5 e5 h5 hy => ?_
        have h5 := h4.back_ sub h5
        obtain ⟨_, _, o, ho, us, rfl, hu⟩ := h5.at_ _ List.mem_cons_self
        refine ⟨us, ho, ?_, I5, e2.trans (e3.trans (e4.trans e5)), ?_⟩
        · rw [← hu.length, List.length_map]
          refine Nat.lt_of_le_of_lt (List.length_filter_le _ _) (Nat.lt_of_le_of_lt ?_ hz)
          rw [List.length_take]
          exact Nat.min_le_right _ _
        · refine h5.write (j := 0) (c' := lstC (((xs.take (i + 1)).filter p).map f)) rfl ⟨_, rfl, ?_⟩
          rw [take_succ_at ha, List.filter_append, List.map_append, List.filter_cons, if_pos hp]
          exact hu.app (.cons hy .nil)
      | false =>
        rw [if_neg Bool.false_ne_true]
        refine ⟨I4, e2.trans (e3.trans e4), ?_⟩
        rw [take_succ_at ha, List.filter_append, List.map_append, List.filter_cons, if_neg (by rw [hp]; decide)]
        simpa using h4
    rcases it.yld i a I2 H2 x H3 ha e2 h2.ex hy with ⟨rfl, hx⟩ | ⟨P, o, hP, rfl, hx⟩
    · exact main I2 (Evl.Ex.refl I2) h2 hx
    · obtain ⟨e3, h3⟩ := h2.new_ (o := o) hP
      exact main _ e3 h3 hx
theorem et_lc (hi : IX wi Γ M xs gT) (hg : ∀ a ∈ xs, GT g (gT a) (ws a)) (hw : ∀ a, ∀ w ∈ ws a, w.1 ∈ vs) (he : ∀ a ∈ xs, ET te (setsT (wipeT Γ vs) (ws a)) M (f a)) (hz : xs.length < sizeLine) : ET (tLc wi g tYes te vs) Γ M (LstT (xs.map f)) := by
  have h := et_lcIf (p := fun _ => true) hi hg hw (fun a _ => bt_yes) (fun a ha _ => he a ha) hz
  rw [List.filter_eq_self.mpr (fun _ _ => rfl)] at h
  exact h
/-- of data -/
theorem et_lcD {f : α → PyData} (hi : IX wi Γ M xs gT) (hg : ∀ a ∈ xs, GT g (gT a) (ws a)) (hw : ∀ a, ∀ w ∈ ws a, w.1 ∈ vs) (he : ∀ a ∈ xs, ET te (setsT (wipeT Γ vs) (ws a)) M (DT K (f a))) (hz : xs.length < sizeLine) : ET (tLc wi g tYes te vs) Γ M (DT K (.list (xs.map f))) := by
  have h := et_lc hi hg hw he hz
  rw [← lt_dt, List.map_map]
  exact h
theorem et_lcDIf {f : α → PyData} (hi : IX wi Γ M xs gT) (hg : ∀ a ∈ xs, GT g (gT a) (ws a)) (hw : ∀ a, ∀ w ∈ ws a, w.1 ∈ vs) (ht : ∀ a ∈ xs, BT tt (setsT (wipeT Γ vs) (ws a)) M (p a)) (he : ∀ a ∈ xs, p a = true → ET te (setsT (wipeT Γ vs) (ws a)) M (DT K (f a))) (hz : xs.length < sizeLine) : ET (tLc wi g tt te vs) Γ M (DT K (.list ((xs.filter p).map f))) := by
  have h := et_lcIf hi hg hw ht he hz
  rw [← lt_dt, List.map_map]
  exact h
end
/-! ### effects: what an expression does with the owned objects -/
def EW (te : TE) (O : Org) (Γ : TEnv) (M : Mem) (N : Ty → Mem → Prop) : Prop := ∀ (σ : L2.St) (I H : Hp) (Q : VK), EnvOk σ I Γ → Holds O I H M → (∀ T M' v I' H', N T M' → Ex I I' → Holds O I' H' M' → T.r I' v → Q v H') → te σ H Q
def AW (ta : TA) (O : Org) (Γ : TEnv) (M : Mem) (N : List Ty → Mem → Prop) : Prop := ∀ (σ : L2.St) (I H : Hp) (Q : List V → Hp → Prop), EnvOk σ I Γ → Holds O I H M → (∀ Ts M' vs I' H', N Ts M' → Ex I I' → Holds O I' H' M' → AllTy I' Ts vs → Q vs H') → ta σ H Q
section
variable {K : PySem.W.Frag} {O : Org} {Γ : TEnv} {M : Mem} {T : Ty} {te : TE} {ts : TA} {N : Ty → Mem → Prop} {NN : List Ty → Mem → Prop}
theorem ew_of (h : ET te Γ M T) (k : N T M) : EW te O Γ M N := fun σ I H Q e h0 q => h O σ I H Q e h0 fun v I' H' a b c => q T M v I' H' k a b c
theorem ew_x {α : Type} {p : α → Prop} {F : α → Ty} (h : ET te Γ M (XT p F)) (k : ∀ a, p a → N (F a) M) : EW te O Γ M N := fun σ I H Q e h0 q => h O σ I H Q e h0 fun v I' H' a b ⟨x, px, hx⟩ => q (F x) M v I' H' (k x px) a b hx
theorem ew_imp {N' : Ty → Mem → Prop} (h : EW te O Γ M N') (k : ∀ T M', N' T M' → N T M') : EW te O Γ M N := fun σ I H Q e h0 q => h σ I H Q e h0 fun T M' v I' H' n => q T M' v I' H' (k T M' n)
/-- [], owned -/
theorem ew_own (k : ∀ l, O.H0 l = none → N (VT (.ref l)) ((l, lstC []) :: M)) : EW (tLst tNil) O Γ M N := fun σ I H Q e h0 q => ⟨Nat.zero_le _, fun p hp => by
  obtain ⟨z, h1⟩ := h0.own (o := .lst []) (lstC []) hp ⟨[], rfl, .nil⟩
  exact q _ _ _ I _ (k p z) (Evl.Ex.refl I) h1 rfl⟩
theorem ew_tup (h : AW ts O Γ M fun Ts M' => Ts.length ≤ sizeLine ∧ N (TupT K Ts) M') : EW (tTup ts) O Γ M N := fun σ I H Q e h0 q =>
  h σ I H _ e h0 fun Ts M' xs I1 H1 n e1 h1 a => ⟨a.length ▸ n.1, fun p hp => by
    obtain ⟨e2, h2⟩ := h1.new_ (o := .tup xs) hp
    exact q _ _ _ _ _ n.2 (e1.trans e2) h2 ⟨p, xs, rfl, SqT.of upd_same, a.mono e2⟩⟩
/-- a list owned, its items given -/
theorem ew_lst (h : AW ts O Γ M fun Ts M' => Ts.length ≤ sizeLine ∧ ∀ l, O.H0 l = none → N (VT (.ref l)) ((l, lstC Ts) :: M')) : EW (tLst ts) O Γ M N := fun σ I H Q e h0 q =>
  h σ I H _ e h0 fun Ts M' xs I1 H1 n e1 h1 a => ⟨a.length ▸ n.1, fun p hp => by
    obtain ⟨z, h2⟩ := h1.own (o := .lst xs) (lstC Ts) hp ⟨xs, rfl, a⟩
    exact q _ _ _ I1 _ (n.2 p z) e1 h2 rfl⟩
theorem aw_nil (k : NN [] M) : AW tNil O Γ M NN := fun σ I H Q e h0 q => q [] M [] I H k (Evl.Ex.refl I) h0 .nil
theorem aw_cons (h : EW te O Γ M fun T M' => AW ts O Γ M' fun Ts M'' => NN (T :: Ts) M'') : AW (tCons te ts) O Γ M NN := fun σ I H Q e h0 q =>
  h σ I H _ e h0 fun T M' v I1 H1 n e1 h1 a => n σ I1 H1 _ (e.mono e1) h1 fun Ts M'' vs I2 H2 n2 e2 h2 b => q (T :: Ts) M'' (v :: vs) I2 H2 n2 (e1.trans e2) h2 (.cons (T.mono e2 a) b)
theorem aw_of {Ts : List Ty} (h : EA ts Γ M Ts) (k : NN Ts M) : AW ts O Γ M NN := fun σ I H Q e h0 q => h O σ I H Q e h0 fun vs I' H' a b c => q Ts M vs I' H' k a b c
end
/-! ### statements -/
structure Dest where
  nx : TEnv → Mem → Prop
  rt : Ty → Mem → Prop
  bk : TEnv → Mem → Prop := fun _ _ => False
  ct : TEnv → Mem → Prop := fun _ _ => False
structure EndsOf (O : Org) (I : Hp) (D : Dest) (E : Ends) : Prop where
  nx : ∀ Γ M σ J H, D.nx Γ M → Ex I J → EnvOk σ J Γ → Holds O J H M → E.nx σ H
  rt : ∀ T M v J H, D.rt T M → Ex I J → T.r J v → Holds O J H M → E.rt v H
  bk : ∀ Γ M σ J H, D.bk Γ M → Ex I J → EnvOk σ J Γ → Holds O J H M → E.bk σ H
  ct : ∀ Γ M σ J H, D.ct Γ M → Ex I J → EnvOk σ J Γ → Holds O J H M → E.ct σ H
theorem EndsOf.mono {O : Org} {I J : Hp} {D : Dest} {E : Ends} (e : Ex I J) (h : EndsOf O I D E) : EndsOf O J D E :=
  ⟨fun _ _ _ _ _ a b => h.nx _ _ _ _ _ a (e.trans b), fun _ _ _ _ _ a b => h.rt _ _ _ _ _ a (e.trans b), fun _ _ _ _ _ a b => h.bk _ _ _ _ _ a (e.trans b), fun _ _ _ _ _ a b => h.ct _ _ _ _ _ a (e.trans b)⟩
def ST (t : TS) (O : Org) (Γ : TEnv) (M : Mem) (D : Dest) : Prop := ∀ (σ : L2.St) (I H : Hp) (E : Ends), EnvOk σ I Γ → Holds O I H M → EndsOf O I D E → t E σ H
section
variable {K : PySem.W.Frag} {O : Org} {Γ : TEnv} {M : Mem} {D : Dest} {t u : TS} {te : TE} {ts : TA} {tt : TT} {T : Ty}
theorem st_next (k : D.nx Γ M) : ST tNext O Γ M D := fun σ I H E e h q => q.nx _ _ _ _ _ k (Evl.Ex.refl I) e h
theorem st_seq (h : ST t O Γ M { D with nx := fun Γ' M' => ST u O Γ' M' D }) : ST (tSeq t u) O Γ M D := fun σ I H E e h0 q =>
  h σ I H { E with nx := u E } e h0 ⟨fun Γ' M' σ' J H' s ej e' h' => s σ' J H' E e' h' (q.mono ej), q.rt, q.bk, q.ct⟩
theorem st_imp {D' : Dest} (h : ST t O Γ M D') (k1 : ∀ Γ M, D'.nx Γ M → D.nx Γ M) (k2 : ∀ T M, D'.rt T M → D.rt T M) (k3 : ∀ Γ M, D'.bk Γ M → D.bk Γ M) (k4 : ∀ Γ M, D'.ct Γ M → D.ct Γ M) : ST t O Γ M D := fun σ I H E e h0 q =>
  h σ I H E e h0 ⟨fun _ _ _ _ _ a => q.nx _ _ _ _ _ (k1 _ _ a), fun _ _ _ _ _ a => q.rt _ _ _ _ _ (k2 _ _ a), fun _ _ _ _ _ a => q.bk _ _ _ _ _ (k3 _ _ a), fun _ _ _ _ _ a => q.ct _ _ _ _ _ (k4 _ _ a)⟩
theorem st_set {i : Nat} (h : EW te O Γ M fun T M' => D.nx (Γ.set i (some T)) M') : ST (tAsg te (gName i)) O Γ M D := fun σ I H E e h0 q =>
  h σ I H _ e h0 fun T M' v I1 H1 n e1 h1 a => q.nx _ _ _ _ _ n e1 ((e.mono e1).set a i) h1
theorem st_asg {g : TG} (h : EW te O Γ M fun T M' => ∃ ws, GT g T ws ∧ D.nx (setsT Γ ws) M') : ST (tAsg te g) O Γ M D := fun σ I H E e h0 q =>
  h σ I H _ e h0 fun T M' v I1 H1 ⟨ws, hg, n⟩ e1 h1 a => hg σ I1 H1 v _ h1.ex a fun vs hv => q.nx _ _ _ _ _ n e1 ((e.mono e1).sets hv) h1
theorem st_par {i j : Nat} (h : AW ts O Γ M fun Ts M' => ∃ T1 T2, Ts = [T1, T2] ∧ D.nx ((Γ.set i (some T1)).set j (some T2)) M') : ST (tPar i j ts) O Γ M D := fun σ I H E e h0 q =>
  h σ I H _ e h0 fun Ts M' vs I1 H1 ⟨T1, T2, hT, n⟩ e1 h1 a => by
    subst hT
    cases a with
    | cons a1 a =>
      cases a with
      | cons a2 a =>
        cases a
        exact ⟨_, _, rfl, q.nx _ _ _ _ _ n e1 (((e.mono e1).set a1 i).set a2 j) h1⟩
theorem st_par3 {i j l : Nat} (h : AW ts O Γ M fun Ts M' => ∃ T1 T2 T3, Ts = [T1, T2, T3] ∧ D.nx (((Γ.set i (some T1)).set j (some T2)).set l (some T3)) M') : ST (tPar3 i j l ts) O Γ M D := fun σ I H E e h0 q =>
  h σ I H _ e h0 fun Ts M' vs I1 H1 ⟨T1, T2, T3, hT, n⟩ e1 h1 a => by
    subst hT
    cases a with
    | cons a1 a =>
      cases a with
      | cons a2 a =>
        cases a with
        | cons a3 a =>
          cases a
          exact ⟨_, _, _, rfl, q.nx _ _ _ _ _ n e1 ((((e.mono e1).set a1 i).set a2 j).set a3 l) h1⟩
theorem st_ret (h : EW te O Γ M D.rt) : ST (tRet te) O Γ M D := fun σ I H E e h0 q => h σ I H _ e h0 fun T M' v I1 H1 n e1 h1 a => q.rt _ _ _ _ _ n e1 a h1
theorem st_drop (h : EW te O Γ M fun _ M' => D.nx Γ M') : ST (tDrop te) O Γ M D := fun σ I H E e h0 q => h σ I H _ e h0 fun T M' v I1 H1 n e1 h1 a => q.nx _ _ _ _ _ n e1 (e.mono e1) h1
theorem st_if {b : Bool} (hc : BT tt Γ M b) (h1 : b = true → ST t O Γ M D) (h2 : b = false → ST u O Γ M D) : ST (tIfS tt t u) O Γ M D := fun σ I H E e h0 q => hc O σ I H _ e h0 fun I1 H1 e1 h1' => by
  cases b with
  | true =>
    rw [if_pos rfl]
    exact h1 rfl σ I1 H1 E (e.mono e1) h1' (q.mono e1)
  | false =>
    rw [if_neg Bool.false_ne_true]
    exact h2 rfl σ I1 H1 E (e.mono e1) h1' (q.mono e1)
theorem st_ifX {p : Bool → Prop} (hc : BX tt Γ M p) (h1 : p true → ST t O Γ M D) (h2 : p false → ST u O Γ M D) : ST (tIfS tt t u) O Γ M D := fun σ I H E e h0 q => hc O σ I H _ e h0 fun b I1 H1 hp e1 h1' => by
  cases b with
  | true =>
    rw [if_pos rfl]
    exact h1 hp σ I1 H1 E (e.mono e1) h1' (q.mono e1)
  | false =>
    rw [if_neg Bool.false_ne_true]
    exact h2 hp σ I1 H1 E (e.mono e1) h1' (q.mono e1)
/-- a slot of a family's type: case by case -/
theorem st_open {i : Nat} {α : Type} {p : α → Prop} {F : α → Ty} (hi : Γ[i]? = some (some (XT p F))) (k : ∀ a, p a → ST t O (Γ.set i (some (F a))) M D) : ST t O Γ M D := fun σ I H E e h0 q => by
  obtain ⟨v, hv, a, pa, ha⟩ := e.2 i _ hi
  refine k a pa σ I H E ?_ h0 q
  have z := e.set ha i
  have e2 : σ.set i (some v) = σ := by
    apply List.ext_getElem?
    intro j
    rw [List.getElem?_set]
    split
    · rename_i c
      subst c
      rw [if_pos (List.getElem?_eq_some_iff.mp hv).1, hv]
    · rfl
  rw [e2] at z
  exact z
/-- .. a slot's type by a wider one -/
theorem st_less {Δ : TEnv} (l : Less Δ Γ) (h : ST t O Δ M D) : ST t O Γ M D := fun σ I H E e h0 q => h σ I H E (e.less l) h0 q
theorem st_mem {M' : Mem} (s : M'.Sublist M) (h : ST t O Γ M' D) : ST t O Γ M D := fun σ I H E e h0 q => h σ I H E e (h0.less s) q
/-- an owned list of our own is a list from now on -/
theorem st_freeze {i j : Nat} {l : Addr} {Ts : List Ty} (hi : Γ[i]? = some (some (VT (.ref l)))) (hm : M[j]? = some (l, lstC Ts)) (hz : O.H0 l = none) (k : ST t O (Γ.set i (some (LstT Ts))) (M.eraseIdx j) D) : ST t O Γ M D := fun σ I H E e h0 q => by
  obtain ⟨v, hv, rfl⟩ := e.2 i _ hi
  obtain ⟨_, _, o, ho, us, rfl, hu⟩ := h0.at_ _ (List.mem_of_getElem? hm)
  obtain ⟨e3, h3⟩ := h0.freeze hm ho hz
  refine k σ _ H E ?_ h3 (q.mono e3)
  have z := (e.mono e3).set (T := LstT Ts) (v := .ref l) ⟨l, us, rfl, upd_same, hu.mono e3⟩ i
  have e2 : σ.set i (some (.ref l)) = σ := by
    apply List.ext_getElem?
    intro j
    rw [List.getElem?_set]
    split
    · rename_i c
      subst c
      rw [if_pos (List.getElem?_eq_some_iff.mp hv).1, hv]
    · rfl
  rw [e2] at z
  exact z
/-- found.append(e) -/
theorem st_app {i : Nat} {l : Addr} (hi : Γ[i]? = some (some (VT (.ref l)))) (hl : ∃ (j : Nat) (Ts : List Ty), M[j]? = some (l, lstC Ts)) (h : EW te O Γ M fun T M' => ∃ (j : Nat) (Ts : List Ty), M'[j]? = some (l, lstC Ts) ∧ Ts.length < sizeLine ∧ D.nx Γ (M'.set j (l, lstC (Ts ++ [T])))) :
    ST (tDrop (tBM K "list" rAppend (tVar i) (tCons te tNil))) O Γ M D := fun σ I H E e h0 q => by
  obtain ⟨v, hv, rfl⟩ := e.2 i _ hi
  obtain ⟨j0, T0, hj0⟩ := hl
  obtain ⟨_, _, o, ho, us, rfl, hu⟩ := h0.at_ _ (List.mem_of_getElem? hj0)
  refine ⟨_, hv, .inl ⟨rfl, us, SqL.of ho⟩, ?_⟩
  refine h σ I H _ e h0 fun T M' v I1 H1 ⟨j, Ts, hj, hz, n⟩ e1 h1 a => ?_
  obtain ⟨_, _, o, ho, us, rfl, hu⟩ := h1.at_ _ (List.mem_of_getElem? hj)
  refine ⟨l, us, v, rfl, rfl, ho, hu.length ▸ hz, ?_⟩
  exact q.nx _ _ _ _ _ n e1 (e.mono e1) (h1.write hj ⟨_, rfl, hu.app (.cons a .nil)⟩)
/-- found.extend(e), e a list -/
theorem st_ext {i : Nat} {l : Addr} (hi : Γ[i]? = some (some (VT (.ref l)))) (hl : ∃ (j : Nat) (Ts : List Ty), M[j]? = some (l, lstC Ts)) (h : EW te O Γ M fun T M' => ∃ (j : Nat) (Ts Us : List Ty), T = LstT Us ∧ M'[j]? = some (l, lstC Ts) ∧ Ts.length + Us.length ≤ sizeLine ∧ D.nx Γ (M'.set j (l, lstC (Ts ++ Us)))) :
    ST (tDrop (tBM K "list" rExtend (tVar i) (tCons te tNil))) O Γ M D := fun σ I H E e h0 q => by
  obtain ⟨v, hv, rfl⟩ := e.2 i _ hi
  obtain ⟨j0, T0, hj0⟩ := hl
  obtain ⟨_, _, o, ho, us, rfl, hu⟩ := h0.at_ _ (List.mem_of_getElem? hj0)
  refine ⟨_, hv, .inl ⟨rfl, us, SqL.of ho⟩, ?_⟩
  refine h σ I H _ e h0 fun T M' v I1 H1 ⟨j, Ts, Us, hT, hj, hz, n⟩ e1 h1 a => ?_
  subst hT
  obtain ⟨b, zs, rfl, hb, hw⟩ := a
  obtain ⟨_, _, o, ho, us, rfl, hu⟩ := h1.at_ _ (List.mem_of_getElem? hj)
  refine ⟨l, b, us, zs, rfl, rfl, ho, h1.ex _ _ hb, by rw [← hu.length, ← hw.length]; exact hz, ?_⟩
  exact q.nx _ _ _ _ _ n e1 (e.mono e1) (h1.write hj ⟨_, rfl, hu.app hw⟩)
theorem st_for {α : Type} {xs : List α} {gT : α → Ty} {ws : α → List (Nat × Ty)} {wi : TI} {g : TG} (J : Nat → TEnv → Mem → Prop) (hi : IX wi Γ M xs gT) (hg : ∀ a ∈ xs, GT g (gT a) (ws a)) (h0 : J 0 Γ M)
    (hs : ∀ i a Γ' M', xs[i]? = some a → J i Γ' M' → ST t O (setsT Γ' (ws a)) M' { nx := J (i + 1), rt := D.rt, bk := D.nx, ct := J (i + 1) }) (hd : ∀ Γ' M', J xs.length Γ' M' → D.nx Γ' M') : ST (tFor wi g t) O Γ M D := fun σ I H E e hh q => by
  refine hi O σ I H _ e hh fun Jt I1 H1 e1 h1 it => ?_
  refine ⟨fun i m σ' H' => m = xs.length - i ∧ i ≤ xs.length ∧ ∃ Γ' M' I', J i Γ' M' ∧ Ex I1 I' ∧ EnvOk σ' I' Γ' ∧ Holds O I' H' M', ⟨_, rfl, Nat.zero_le _, Γ, M, I1, h0, Evl.Ex.refl I1, e.mono e1, h1⟩, ?_⟩
  rintro i m σ2 H2 ⟨rfl, hle, Γ2, M2, I2, j2, e2, v2, h2⟩
  by_cases c : i = xs.length
  · subst c
    left
    exact ⟨it.stop I2 H2 e2 h2.ex, q.nx _ _ _ _ _ (hd _ _ j2) (e1.trans e2) v2 h2⟩
  · right
    have hlt : i < xs.length := Nat.lt_of_le_of_ne hle c
    obtain ⟨a, ha⟩ : ∃ a, xs[i]? = some a := ⟨_, List.getElem?_eq_getElem hlt⟩
    have hm : a ∈ xs := List.mem_of_getElem? ha
    refine ⟨it.go i a I2 H2 ha e2 h2.ex, fun σ' H' => ∃ Γ' M' I', J (i + 1) Γ' M' ∧ Ex I1 I' ∧ EnvOk σ' I' Γ' ∧ Holds O I' H' M', fun σ' H' w => ⟨_, Nat.sub_lt_sub_left hlt (Nat.lt_succ_self i), rfl, hlt, w⟩, fun x H3 hy => ?_⟩
    have main : ∀ I3, Ex I2 I3 → Holds O I3 H3 M2 → (gT a).r I3 x → g x σ2 H3 fun σ4 H4 => t { E with nx := fun σ' H' => ∃ Γ' M' I', J (i + 1) Γ' M' ∧ Ex I1 I' ∧ EnvOk σ' I' Γ' ∧ Holds O I' H' M', ct := fun σ' H' => ∃ Γ' M' I', J (i + 1) Γ' M' ∧ Ex I1 I' ∧ EnvOk σ' I' Γ' ∧ Holds O I' H' M', bk := E.nx } σ4 H4 := by
      intro I3 e3 h3 hx
      refine hg a hm σ2 I3 H3 x _ h3.ex hx fun us hu => ?_
      refine hs i a Γ2 M2 ha j2 _ I3 H3 _ ((v2.mono e3).sets hu) h3 ⟨?_, ?_, ?_, ?_⟩
      · exact fun Γ' M' σ' J' H' w ej v' h' => ⟨Γ', M', J', w, e2.trans (e3.trans ej), v', h'⟩
      · exact fun T M' v J' H' w ej r' h' => q.rt _ _ _ _ _ w (e1.trans (e2.trans (e3.trans ej))) r' h'
      · exact fun Γ' M' σ' J' H' w ej v' h' => q.nx _ _ _ _ _ w (e1.trans (e2.trans (e3.trans ej))) v' h'
      · exact fun Γ' M' σ' J' H' w ej v' h' => ⟨Γ', M', J', w, e2.trans (e3.trans ej), v', h'⟩
    rcases it.yld i a I2 H2 x H3 ha e2 h2.ex hy with ⟨rfl, hx⟩ | ⟨P, o, hP, rfl, hx⟩
    · exact main I2 (Evl.Ex.refl I2) h2 hx
    · obtain ⟨e3, h3⟩ := h2.new_ (o := o) hP
      exact main _ e3 h3 hx
theorem st_while (J : Nat → TEnv → Mem → Prop) (h0 : ∃ m, J m Γ M)
    (hs : ∀ m Γ' M', J m Γ' M' → ∃ b, BT tt Γ' M' b ∧ (b = true → ST t O Γ' M' { nx := fun Γ2 M2 => ∃ m', m' < m ∧ J m' Γ2 M2, rt := D.rt, bk := D.nx, ct := fun Γ2 M2 => ∃ m', m' < m ∧ J m' Γ2 M2 }) ∧ (b = false → D.nx Γ' M')) : ST (tWhile tt t) O Γ M D := fun σ I H E e hh q => by
  obtain ⟨m0, j0⟩ := h0
  refine ⟨fun m σ' H' => ∃ Γ' M' I', J m Γ' M' ∧ Ex I I' ∧ EnvOk σ' I' Γ' ∧ Holds O I' H' M', ⟨m0, Γ, M, I, j0, Evl.Ex.refl I, e, hh⟩, ?_⟩
  rintro m σ2 H2 ⟨Γ2, M2, I2, j2, e2, v2, h2⟩
  obtain ⟨b, hb, k1, k2⟩ := hs m Γ2 M2 j2
  refine hb O σ2 I2 H2 _ v2 h2 fun I3 H3 e3 h3 => ?_
  cases b with
  | true =>
    rw [if_pos rfl]
    refine ⟨fun σ' H' => ∃ m', m' < m ∧ ∃ Γ' M' I', J m' Γ' M' ∧ Ex I I' ∧ EnvOk σ' I' Γ' ∧ Holds O I' H' M', fun _ _ w => w, ?_⟩
    refine k1 rfl σ2 I3 H3 _ (v2.mono e3) h3 ⟨?_, ?_, ?_, ?_⟩
    · exact fun Γ' M' σ' J' H' ⟨m', l, w⟩ ej v' h' => ⟨m', l, Γ', M', J', w, e2.trans (e3.trans ej), v', h'⟩
    · exact fun T M' v J' H' w ej r' h' => q.rt _ _ _ _ _ w (e2.trans (e3.trans ej)) r' h'
    · exact fun Γ' M' σ' J' H' w ej v' h' => q.nx _ _ _ _ _ w (e2.trans (e3.trans ej)) v' h'
    · exact fun Γ' M' σ' J' H' ⟨m', l, w⟩ ej v' h' => ⟨m', l, Γ', M', J', w, e2.trans (e3.trans ej), v', h'⟩
  | false =>
    rw [if_neg Bool.false_ne_true]
    exact q.nx _ _ _ _ _ (k2 rfl) (e2.trans e3) (v2.mono e3) h3
end
/-! ### defs -/
/-- a def's promise: given a (with ok), the objects Ms a and arguments of types As a, it gives a value of type T and leaves the objects as M', R a T M' -/
def spG {α : Type} (ok : α → Prop) (Ms : α → Mem) (As : α → List Ty) (R : α → Ty → Mem → Prop) : Sp := fun vs H Q _ => ∃ a I, ok a ∧ Holds ⟨I, H, (Ms a).map (·.1)⟩ I H (Ms a) ∧ AllTy I (As a) vs ∧
  ∀ T M' v I' H', R a T M' → Ex I I' → Holds ⟨I, H, (Ms a).map (·.1)⟩ I' H' M' → T.r I' v → Q v H'
/-- .. it leaves the objects so -/
def spI {α : Type} (ok : α → Prop) (Ms : α → Mem) (As : α → List Ty) (Rt : α → Ty) : Sp := spG ok Ms As fun a T M' => T = Rt a ∧ M' = Ms a
/-- .. none -/
def spP {α : Type} (ok : α → Prop) (As : α → List Ty) (Rt : α → Ty) : Sp := spI ok (fun _ => []) As Rt
section
variable {α : Type} {ok : α → Prop} {Ms : α → Mem} {As : α → List Ty} {R : α → Ty → Mem → Prop} {Rt : α → Ty} {Γ : TEnv} {M : Mem} {ta : TA} {E : XK} {O : Org}
theorem et_callI (a : α) (ha : ok a) (hM : ∀ m ∈ Ms a, m ∈ M) (nd : ((Ms a).map (·.1)).Nodup) (h : EA ta Γ M (As a)) : ET (tCall (spI ok Ms As Rt) [] E ta) Γ M (Rt a) := fun O σ I H Q e h0 q =>
  h O σ I H _ e h0 fun vs I1 H1 e1 h1 hv => ⟨a, I1, ha, h1.start hM nd, by rw [List.append_nil]; exact hv, fun T M' v I2 H2 ⟨rT, rM⟩ e2 h2 hr => by
    subst rT
    subst rM
    exact q v I2 H2 (e1.trans e2) (h1.back_ hM h2) hr⟩
theorem et_call (a : α) (ha : ok a) (h : EA ta Γ M (As a)) : ET (tCall (spP ok As Rt) [] E ta) Γ M (Rt a) := et_callI a ha (fun _ h => nomatch h) .nil h
/-- a call of the general kind: the arguments without effects, the objects told anew -/
theorem ew_call {N : Ty → Mem → Prop} (a : α) (ha : ok a) (hM : ∀ m ∈ Ms a, m ∈ M) (nd : ((Ms a).map (·.1)).Nodup) (h : EA ta Γ M (As a))
    (k : ∀ T M', R a T M' → ∃ N', N'.map (·.1) = M.map (·.1) ∧ (∀ m ∈ N', m ∈ M' ∨ (m ∈ M ∧ m.1 ∉ (Ms a).map (·.1))) ∧ N T N') : EW (tCall (spG ok Ms As R) [] E ta) O Γ M N := fun σ I H Q e h0 q =>
  h O σ I H _ e h0 fun vs I1 H1 e1 h1 hv => ⟨a, I1, ha, h1.start hM nd, by rw [List.append_nil]; exact hv, fun T M' v I2 H2 hR e2 h2 hr => by
    obtain ⟨N', n1, n2, n3⟩ := k T M' hR
    exact q T N' v I2 H2 n3 (e1.trans e2) (h1.back hM h2 n1 n2) hr⟩
end
def startT (N : List Str) (Ts : List Ty) : TEnv := Ts.map some ++ List.replicate (N.length - Ts.length) none
theorem env_start {I : Hp} {N : List Str} {Ts : List Ty} {vs : List V} (h : AllTy I Ts vs) : EnvOk (L2.start N vs) I (startT N Ts) := by
  refine ⟨?_, fun i T hi => ?_⟩
  · unfold L2.start startT
    rw [List.length_append, List.length_append, List.length_map, List.length_map, List.length_replicate, List.length_replicate, h.length]
    exact Nat.le_refl _
  · unfold startT at hi
    by_cases c : i < Ts.length
    · rw [List.getElem?_append_left (by rw [List.length_map]; exact c), List.getElem?_map] at hi
      cases q : Ts[i]? with
      | none =>
        rw [q] at hi
        cases hi
      | some U =>
        rw [q] at hi
        cases hi
        obtain ⟨v, hv, hr⟩ := h.get q
        refine ⟨v, ?_, hr⟩
        unfold L2.start
        rw [List.getElem?_append_left (by rw [List.length_map, ← h.length]; exact c), List.getElem?_map, hv]
        rfl
    · rw [List.getElem?_append_right (by rw [List.length_map]; exact Nat.le_of_not_lt c)] at hi
      have := List.mem_of_getElem? hi
      rw [List.mem_replicate] at this
      cases this.2
/-- the destination of a body -/
def destOf {α : Type} (R : α → Ty → Mem → Prop) (a : α) : Dest where
  nx := fun _ M => ∃ T M', R a T M' ∧ T.r (fun _ => none) .non ∧ M'.Sublist M
  rt := fun S M => ∃ T M', R a T M' ∧ Sub S T ∧ M'.Sublist M
theorem fn_ok {P : Program} {w : World} {K : PySem.W.Frag} {mg : Str → Option Value} {base : Heap} {x qual : Str} {params : Arguments} {body : List Stmt} {scope : Scope} {kws : List (Str × V)} {dvs : List V} {f : Addr} {fd : FuncData}
    {N ps : List Str} {k : Nat} {α : Type} {ok : α → Prop} {Ms : α → Mem} {As : α → List Ty} {R : α → Ty → Mem → Prop} (F : FunD K x qual params body scope dvs kws f fd) (S : FnScope N ps scope) (len : ∀ a, (As a).length = ps.length)
    (hb : ∀ (cdv : Value) (A : Around) (outer : List Env) (s : Shared) (H : Hp) (E : XK), Room k (A.deeper (envOfC qual scope s.heap.objs.size f cdv)) →
      ∃ t, PSs (cxOf CX0 P w K mg base N qual scope f cdv A outer s H E).nox body t ∧ ∀ a (O : Org), ok a → (O.m0 = (Ms a).map (·.1) ∧ ∀ m ∈ Ms a, O.H0 m.1 ≠ none) → ST t O (startT N (As a)) (Ms a) (destOf R a)) :
    FnOk P w K mg base CX0 (k + 1) f fd ps (spG ok Ms As R) := by
  refine F.ok S (fun vs H Q E ⟨a, I, _, _, h, _⟩ => by rw [← h.length]; exact len a) fun cdv A outer s H vs Q E hr hsp => ?_
  obtain ⟨t, h1, h2⟩ := hb cdv A outer s H E hr
  obtain ⟨a, I, ha, hh, hv, q⟩ := hsp
  refine ⟨t, h1.nox, h2 a _ ha ⟨rfl, fun m hm => by obtain ⟨_, _, o, ho, _⟩ := hh.at_ m hm; exact some_ne ho⟩ _ I H _ (env_start hv) hh ⟨?_, ?_, ?_, ?_⟩⟩
  · exact fun Γ M σ J H' ⟨T, M', r, z, sl⟩ e _ h => q T M' .non J H' r e (h.less sl) (T.mono (fun _ _ q => by cases q) z)
  · exact fun T0 M v J H' ⟨T, M', r, z, sl⟩ e hv h => q T M' v J H' r e (h.less sl) (z _ _ hv)
  · exact fun _ _ _ _ _ n => n.elim
  · exact fun _ _ _ _ _ n => n.elim
theorem rt_I {α : Type} {Ms : α → Mem} {Rt : α → Ty} {a : α} {S : Ty} {M : Mem} (h : Sub S (Rt a)) (m : (Ms a).Sublist M) : (destOf (fun a T M' => T = Rt a ∧ M' = Ms a) a).rt S M := ⟨_, _, ⟨rfl, rfl⟩, h, m⟩
theorem rt_P {α : Type} {Rt : α → Ty} {a : α} {S : Ty} {M : Mem} (h : Sub S (Rt a)) : (destOf (fun a T M' => T = Rt a ∧ M' = (fun _ => []) a) a).rt S M := ⟨_, _, ⟨rfl, rfl⟩, h, List.nil_sublist _⟩
theorem nx_P {α : Type} {Rt : α → Ty} {a : α} {Γ : TEnv} {M : Mem} (h : (Rt a).r (fun _ => none) .non) : (destOf (fun a T M' => T = Rt a ∧ M' = (fun _ => []) a) a).nx Γ M := ⟨_, _, ⟨rfl, rfl⟩, h, List.nil_sublist _⟩
end Tw
namespace Tw
open PySem PySem.Spec PyProof.Rows L2
/-- a promise that is never asked -/
theorem fn_absurd {P : Program} {w : World} {K : PySem.W.Frag} {mg : Str → Option Value} {base : Heap} {CX : CXT} {k : Nat} {f : Addr} {fd : FuncData} {ps : List Str} {α : Type} {ok : α → Prop} {Ms : α → Mem} {As : α → List Ty} {R : α → Ty → Mem → Prop} (h : ∀ a, ¬ ok a) : FnOk P w K mg base CX k f fd ps (spG ok Ms As R) :=
  ⟨fun _ _ _ _ ⟨a, _, ha, _⟩ => absurd ha (h a), fun _ _ _ _ _ _ _ _ _ _ _ _ _ ⟨a, _, ha, _⟩ => absurd ha (h a)⟩
end Tw
end
/-! TwRules -/
section
set_option Elab.async false
set_option linter.all false
set_option autoImplicit false
set_option maxRecDepth 100000
set_option maxHeartbeats 4000000
/-! Operators, subscripts, calls of built-ins, by types. -/
namespace Tw
open PySem PySem.Spec PyProof.Rows L2
open Evl (Ex ex_l ex_t ex_rd)
/-! ### a tuple times one -/
theorem tuple_mul1 (l : Addr) (items : Array Value) (n : Nat) (dd : Option Addr) (sl : Array (Option Value)) (u : Tok) :
    Meets (Builtin.«tuple.__mul__» ⟨[.ref l, .int 1 u], []⟩) (fun _ R s => s.heap.get? l = some { cls := .type "tuple", dict := dd, data := .seq items n, slots := sl } ∧ R (.ok (.ret (Value.ref l))) s) :=
  .of_wp fun prog w A R s h => by
    obtain ⟨hp, g, d, tk, os⟩ := s
    obtain ⟨hl, h⟩ := h
    have f1 := AutoSeq1.idx_int
    have c0 : (decide ((1 : Int) < -(2 ^ 63)) || decide ((1 : Int) ≥ 2 ^ 63)) = false := by decide
    have c1 : (items.isEmpty || (1 : Int) == 1) = true := by simp
    wp_walk using wpAny_loadPart' hl
    repeat (first
      | (refine wpAny_ite_false (decide_eq_false (by rw [c0]; exact Bool.false_ne_true)) ?_; wp_walk using wpAny_loadPart' hl)
      | (refine wpAny_ite_true (decide_eq_true c1) ?_; wp_walk using wpAny_loadPart' hl))
    exact ⟨_, rfl, h⟩
def rRep1 (K : PySem.W.Frag) : R2 := fun x y H Q => ∃ l xs, x = .ref l ∧ y = .int 1 ∧ SqT K H l xs ∧ Q (.ref l) H
theorem op_rep1 {X : Cx} : OpR X (binaryOp .Mult) (rRep1 X.K) := by
  intro pins s σ H x y v u Q I rx ry h
  obtain ⟨l, xs, rfl, rfl, hT, q⟩ := h
  cases rx
  obtain ⟨t, rfl⟩ := ry
  obtain ⟨its, r, ⟨⟨cls, dd, data, sl⟩, ho, hc, n, hd⟩, hs⟩ := I.tuple hT
  simp only at hc hd
  subst hc hd
  refine wpAny_binaryOp_repeat_ref (T := "tuple") (U := "int") (by decide) ⟨_, ho, rfl⟩ (fun s' => typeIs_int s' 1 t) noFill_tuple_mul F.fills_int_mul F.slot_int_rmul repeat_tuple F.slot_int_index.lookup
    (call_meets F.slot_int_rmul (typeIs_int s 1 t) F.entry_int_rmul (F.args_int_rmul_2 _ _) (int_rmul_tuple 1 t l its.toArray n dd sl)
      ⟨ho, rfl, ⟨_, ho, rfl⟩, call_meets F.slot_tuple_mul ⟨_, ho, rfl⟩ F.entry_tuple_mul (F.args_tuple_mul_2 _ _) (tuple_mul1 l its.toArray n dd sl t) ⟨ho, ?_⟩⟩)
  exact ⟨.ref l, H, I, rfl, q⟩
/-! ### + and * of any kind -/
def rAddA (K : PySem.W.Frag) : R2 := fun x y H Q => rI0 (fun i j => .int (i + j)) x y H Q ∨ (rCatA K x y H Q ∨ (rCat x y H Q ∨ ∃ i j, x = .str i ∧ y = .str j ∧ i.length + j.length ≤ sizeLine ∧ Q (.str (i ++ j)) H))
theorem op_addA {X : Cx} : OpR X (binaryOp .Add) (rAddA X.K) := OpR.or op_add (OpR.or op_catA (OpR.or op_cat op_add_str))
def rMulA (K : PySem.W.Frag) : R2 := fun x y H Q => rI CMul (fun i j => .int (i * j)) x y H Q ∨ (rRepT K x y H Q ∨ (rRep1 K x y H Q ∨ rRep x y H Q))
theorem op_mulA {X : Cx} : OpR X (binaryOp .Mult) (rMulA X.K) := OpR.or op_mul (OpR.or op_repT (OpR.or op_rep1 op_rep))
section
variable {K : PySem.W.Frag} {M : Mem} {Γ : TEnv} {Ts Us : List Ty}
theorem rx_of {r : R2} {i j : Int} {z : V} {U : Ty} (h : ∀ H (Q : VK), Q z H → r (.int i) (.int j) H Q) (hz : ∀ I, U.r I z) : RX r M (DT K (.int i)) (DT K (.int j)) U := fun O I H x y Q h0 a b q => by
  cases dt_int a
  cases dt_int b
  exact h H Q (q z I H (Evl.Ex.refl I) h0 (hz I))
theorem rx_addI {i j : Int} : RX (rAddA K) M (DT K (.int i)) (DT K (.int j)) (DT K (.int (i + j))) := rx_of (fun H Q q => .inl ⟨i, j, rfl, rfl, q⟩) fun _ => .int _
theorem rx_subI {i j : Int} : RX (rI0 fun i j => .int (i - j)) M (DT K (.int i)) (DT K (.int j)) (DT K (.int (i - j))) := rx_of (fun H Q q => ⟨i, j, rfl, rfl, q⟩) fun _ => .int _
theorem rx_I {C : Int → Int → Prop} {g : Int → Int → Int} {i j : Int} (hc : C i j) : RX (rI C fun i j => .int (g i j)) M (DT K (.int i)) (DT K (.int j)) (DT K (.int (g i j))) := rx_of (fun H Q q => ⟨i, j, rfl, rfl, hc, q⟩) fun _ => .int _
theorem rx_I0 {g : Int → Int → Int} {i j : Int} : RX (rI0 fun i j => .int (g i j)) M (DT K (.int i)) (DT K (.int j)) (DT K (.int (g i j))) := rx_of (fun H Q q => ⟨i, j, rfl, rfl, q⟩) fun _ => .int _
theorem rx_B0 {g : Int → Int → Bool} {i j : Int} : RX (rI0 fun i j => .bl (g i j)) M (DT K (.int i)) (DT K (.int j)) (DT K (.bool (g i j))) := rx_of (fun H Q q => ⟨i, j, rfl, rfl, q⟩) fun _ => .bl _
theorem rx_mulI {i j : Int} (hc : CMul i j) : RX (rMulA K) M (DT K (.int i)) (DT K (.int j)) (DT K (.int (i * j))) := rx_of (fun H Q q => .inl ⟨i, j, rfl, rfl, hc, q⟩) fun _ => .int _
theorem rx_addS {i j : Str} (hz : i.length + j.length ≤ sizeLine) : RX (rAddA K) M (DT K (.str i)) (DT K (.str j)) (DT K (.str (i ++ j))) := fun O I H x y Q h0 a b q => by
  cases dt_str a
  cases dt_str b
  exact .inr (.inr (.inr ⟨i, j, rfl, rfl, hz, q _ I H (Evl.Ex.refl I) h0 (.str _)⟩))
theorem rx_addT (hz : Ts.length + Us.length ≤ sizeLine) : RX (rAddA K) M (TupT K Ts) (TupT K Us) (TupT K (Ts ++ Us)) := fun O I H x y Q h0 ⟨a, xs, h1, h2, h3⟩ ⟨b, ys, g1, g2, g3⟩ q => by
  subst h1
  subst g1
  refine .inr (.inl ⟨a, b, xs, ys, rfl, rfl, ex_t h0.ex h2, ex_t h0.ex g2, by rw [← h3.length, ← g3.length]; exact hz, ?_, ?_, ?_⟩)
  · intro e
    subst e
    cases h3
    exact q _ I H (Evl.Ex.refl I) h0 ⟨b, ys, rfl, g2, g3⟩
  · intro _ e
    subst e
    cases g3
    exact q _ I H (Evl.Ex.refl I) h0 ⟨a, xs, rfl, h2, by rw [List.append_nil]; exact h3⟩
  · intro _ _ p hp
    obtain ⟨e2, h2'⟩ := h0.new_ (o := .tup (xs ++ ys)) hp
    exact q _ _ _ e2 h2' ⟨p, _, rfl, SqT.of upd_same, (h3.app g3).mono e2⟩
theorem rx_addTD {a b : List PyData} (hz : a.length + b.length ≤ sizeLine) : RX (rAddA K) M (DT K (.tuple a)) (DT K (.tuple b)) (DT K (.tuple (a ++ b))) := by
  rw [← tt_dt, ← tt_dt, ← tt_dt, List.map_append]
  exact rx_addT (by rw [List.length_map, List.length_map]; exact hz)
theorem rx_addL (hz : Ts.length + Us.length ≤ sizeLine) : RX (rAddA K) M (LstT Ts) (LstT Us) (LstT (Ts ++ Us)) := fun O I H x y Q h0 ⟨a, xs, h1, h2, h3⟩ ⟨b, ys, g1, g2, g3⟩ q => by
  subst h1
  subst g1
  refine .inr (.inr (.inl ⟨a, b, xs, ys, rfl, rfl, h0.ex _ _ h2, h0.ex _ _ g2, by rw [← h3.length, ← g3.length]; exact hz, fun p hp => ?_⟩))
  obtain ⟨e2, h2'⟩ := h0.new_ (o := .lst (xs ++ ys)) hp
  exact q _ _ _ e2 h2' ⟨p, _, rfl, upd_same, (h3.app g3).mono e2⟩
theorem rx_addLD {a b : List PyData} (hz : a.length + b.length ≤ sizeLine) : RX (rAddA K) M (DT K (.list a)) (DT K (.list b)) (DT K (.list (a ++ b))) := by
  rw [← lt_dt, ← lt_dt, ← lt_dt, List.map_append]
  exact rx_addL (by rw [List.length_map, List.length_map]; exact hz)
/-- t * n, n > 0 -/
theorem rx_mulT {n : Nat} (hn : 0 < n) (h1 : n ≤ 1000) (hz : 0 < Ts.length) (h2 : Ts.length ≤ 1000) : RX (rMulA K) M (TupT K Ts) (DT K (.int (n : Int))) (TupT K (List.replicate n Ts).flatten) := fun O I H x y Q h0 ⟨a, xs, g1, g2, g3⟩ b q => by
  subst g1
  cases dt_int b
  by_cases c : n = 1
  · subst c
    refine .inr (.inr (.inl ⟨a, xs, rfl, rfl, ex_t h0.ex g2, q _ I H (Evl.Ex.refl I) h0 ⟨a, xs, rfl, g2, ?_⟩⟩))
    simpa using g3
  · refine .inr (.inl ⟨a, (n : Int), xs, rfl, rfl, ex_t h0.ex g2, ?_, by omega, by omega, by rw [← g3.length]; exact h2, fun p hp => ?_⟩)
    · intro e
      subst e
      cases g3
      exact absurd hz (by decide)
    · obtain ⟨e2, h2'⟩ := h0.new_ (o := .tup (List.replicate (n : Int).toNat xs).flatten) hp
      exact q _ _ _ e2 h2' ⟨p, _, rfl, SqT.of upd_same, by rw [Int.toNat_natCast]; exact (g3.rep n).mono e2⟩
/-- l * n -/
theorem rx_mulL {n : Nat} (hn : n ≤ 1000) (hz : Ts.length ≤ 1000) : RX (rMulA K) M (LstT Ts) (DT K (.int (n : Int))) (LstT (List.replicate n Ts).flatten) := fun O I H x y Q h0 ⟨a, xs, g1, g2, g3⟩ b q => by
  subst g1
  cases dt_int b
  refine .inr (.inr (.inr ⟨a, (n : Int), xs, rfl, rfl, h0.ex _ _ g2, by omega, by omega, ?_, fun p hp => ?_⟩))
  · rw [← g3.length, Int.toNat_natCast]
    refine Nat.le_trans (Nat.mul_le_mul hz hn) (by decide)
  · obtain ⟨e2, h2'⟩ := h0.new_ (o := .lst (List.replicate (n : Int).toNat xs).flatten) hp
    exact q _ _ _ e2 h2' ⟨p, _, rfl, upd_same, by rw [Int.toNat_natCast]; exact (g3.rep n).mono e2⟩
end
/-! ### subscripts -/
/-- dicts with tuple keys: the entries' types -/
def KdR (K : PySem.W.Frag) (I : Hp) (es : List (NK × Ty)) (xs : List Ent) : Prop := Paired (fun (e : NK × Ty) (x : Ent) => e.1 = x.1 ∧ e.2.r I x.2.2 ∧ Dp K I (.ref x.2.1) x.1.data ∧ x.1.depth ≤ 8) es xs
section
variable {K : PySem.W.Frag}
mutual
theorem dpp_ex {I J : Hp} (e : Ex I J) : ∀ (d : PyData) (v : V), Dp K I v d → Dp K J v d
  | .list ds, v, h => by
    cases h with
    | lst a b => exact .lst (ex_l e a) (dppa_ex e ds _ b)
  | .tuple ds, v, h => by
    cases h with
    | tup a b => exact .tup (ex_t e a) (dppa_ex e ds _ b)
  | .none, v, h => by
    cases h
    exact .non
  | .bool b, v, h => by
    cases h
    exact .bl b
  | .int i, v, h => by
    cases h
    exact .int i
  | .str x, v, h => by
    cases h
    exact .str x
  | .dict _, v, h => nomatch h
theorem dppa_ex {I J : Hp} (e : Ex I J) : ∀ (ds : List PyData) (vs : List V), DpAll K I vs ds → DpAll K J vs ds
  | [], vs, h => by
    cases h
    exact .nil
  | d :: ds, vs, h => by
    cases h with
    | cons a b => exact .cons (dpp_ex e d _ a) (dppa_ex e ds _ b)
end
theorem KdR.mono {I J : Hp} (e : Ex I J) : ∀ {es : List (NK × Ty)} {xs : List Ent}, KdR K I es xs → KdR K J es xs
  | _, _, .nil => .nil
  | (_, T) :: _, _, .cons ⟨a, b, c, d⟩ t => .cons ⟨a, T.mono e b, dpp_ex e _ _ c, d⟩ (KdR.mono e t)
theorem KdR.keys {I : Hp} : ∀ {es : List (NK × Ty)} {xs : List Ent}, KdR K I es xs → xs.map (·.1) = es.map (·.1)
  | _, _, .nil => rfl
  | _ :: _, _ :: _, .cons ⟨a, _⟩ t => by rw [List.map_cons, List.map_cons, a, KdR.keys t]
theorem KdR.mem {I : Hp} : ∀ {es : List (NK × Ty)} {xs : List Ent}, KdR K I es xs → ∀ x ∈ xs, Dp K I (.ref x.2.1) x.1.data ∧ x.1.depth ≤ 8
  | _, _, .nil, x, h => nomatch h
  | _ :: es, _ :: xs, .cons ⟨_, _, a⟩ t, x, h => by
    rcases List.mem_cons.mp h with rfl | h
    · exact a
    · exact KdR.mem (es := es) (xs := xs) t x h
theorem KdR.look {I : Hp} {k : NK} {T : Ty} : ∀ {es : List (NK × Ty)} {xs : List Ent}, KdR K I es xs → es.lookup k = some T → ∃ v, lookE xs k = some v ∧ T.r I v
  | _, _, .nil, h => nomatch h
  | (k', T') :: es, x :: xs, .cons ⟨a, b, _⟩ t, h => by
    unfold lookE
    rw [List.lookup_cons] at h
    rw [List.find?_cons]
    by_cases c : k = k'
    · subst c
      rw [beq_self_eq_true] at h
      cases h
      rw [decide_eq_true a.symm]
      exact ⟨_, rfl, b⟩
    · rw [beq_eq_false_iff_ne.mpr c] at h
      have n : ¬ x.1 = k := fun e => c (by rw [← e]; exact a.symm)
      rw [decide_eq_false n]
      exact KdR.look (es := es) (xs := xs) t h
theorem KdR.app {I : Hp} : ∀ {es fs : List (NK × Ty)} {xs ys : List Ent}, KdR K I es xs → KdR K I fs ys → KdR K I (es ++ fs) (xs ++ ys)
  | _, _, _, _, .nil, h => h
  | _, _, _, _, .cons a t, h => .cons a (KdR.app t h)
theorem KdR.length {I : Hp} : ∀ {es : List (NK × Ty)} {xs : List Ent}, KdR K I es xs → es.length = xs.length
  | _, _, .nil => rfl
  | _, _, .cons _ t => congrArg (· + 1) (KdR.length t)
end
/-- a dict with tuple keys that stays -/
def KdT (P : Program) (w : World) (K : PySem.W.Frag) (es : List (NK × Ty)) : Ty := ⟨fun I v => ∃ d xs, v = .ref d ∧ I d = some (kdO P w d xs) ∧ KdR K I es xs, fun e ⟨d, xs, h1, h2, h3⟩ => ⟨d, xs, h1, e _ _ h2, h3.mono e⟩⟩
/-- .. one that is owned, at l -/
def kdC (P : Program) (w : World) (K : PySem.W.Frag) (l : Addr) (es : List (NK × Ty)) : Cell := ⟨fun I o => ∃ xs, o = kdO P w l xs ∧ KdR K I es xs, fun e ⟨xs, h1, h2⟩ => ⟨xs, h1, h2.mono e⟩⟩
def rKdG (P : Program) (w : World) (K : PySem.W.Frag) : R2 := fun x y H Q => ∃ d xs b k v, x = .ref d ∧ Kd P w K H d xs ∧ y = .ref b ∧ Dp K H (.ref b) (NestedKey.data k) ∧ k.depth ≤ 8 ∧ lookE xs k = some v ∧ Q v H
theorem ix_kdG {X : Cx} (hu : X.A.units + 10 < cLine) : IxR X (rKdG X.prog X.w X.K) := ix_kd hu
def rKdS (P : Program) (w : World) (K : PySem.W.Frag) : V → V → V → Hp → (Hp → Prop) → Prop := fun o i v H Q => ∃ d xs b k, o = .ref d ∧ Kd P w K H d xs ∧ i = .ref b ∧ Dp K H (.ref b) (NestedKey.data k) ∧ k.depth ≤ 8 ∧ lookE xs k = none ∧ xs.length < sizeLine ∧
  Q (upd H d (kdO P w d (xs ++ [(k, b, v)])))
theorem set_kdS {X : Cx} (hu : X.A.units + 10 < cLine) : PSet X (rKdS X.prog X.w X.K) := set_kd hu
def rIxA (P : Program) (w : World) (K : PySem.W.Frag) : R2 := fun x y H Q => rIxT K x y H Q ∨ (rIxL K x y H Q ∨ rKdG P w K x y H Q)
theorem ix_any {X : Cx} (hu : X.A.units + 10 < cLine) : IxR X (rIxA X.prog X.w X.K) := IxR.or ix_tup (IxR.or ix_list (ix_kdG hu))
theorem atI_ty {I : Hp} {Ts : List Ty} {vs : List V} {T : Ty} {i : Int} (h : AllTy I Ts vs) (q : atI Ts i = some T) : ∃ v, atI vs i = some v ∧ T.r I v := by
  unfold atI at q ⊢
  rw [h.length] at q
  cases c : ixN vs.length i with
  | none =>
    rw [c] at q
    cases q
  | some j =>
    rw [c] at q
    exact h.get q
section
variable {P : Program} {w : World} {K : PySem.W.Frag} {M : Mem} {Γ : TEnv} {Ts Us : List Ty} {T U : Ty}
theorem rx_ixT {i : Int} (h : atI Ts i = some T) : RX (rIxA P w K) M (TupT K Ts) (DT K (.int i)) T := fun O I H x y Q h0 ⟨a, xs, h1, h2, h3⟩ b q => by
  cases dt_int b
  obtain ⟨v, hv, r⟩ := atI_ty h3 h
  exact .inl ⟨a, xs, i, v, h1, rfl, ex_t h0.ex h2, hv, q v I H (Evl.Ex.refl I) h0 r⟩
theorem rx_ixL {i : Int} (h : atI Ts i = some T) : RX (rIxA P w K) M (LstT Ts) (DT K (.int i)) T := fun O I H x y Q h0 ⟨a, xs, h1, h2, h3⟩ b q => by
  cases dt_int b
  obtain ⟨v, hv, r⟩ := atI_ty h3 h
  exact .inr (.inl ⟨a, xs, i, v, h1, rfl, SqL.of (h0.ex _ _ h2), hv, q v I H (Evl.Ex.refl I) h0 r⟩)
theorem rx_ixO {i : Int} {j : Nat} {l : Addr} (hm : M[j]? = some (l, lstC Ts)) (h : atI Ts i = some T) : RX (rIxA P w K) M (VT (.ref l)) (DT K (.int i)) T := fun O I H x y Q h0 a b q => by
  cases a
  cases dt_int b
  obtain ⟨_, _, o, ho, us, rfl, hu⟩ := h0.at_ _ (List.mem_of_getElem? hm)
  obtain ⟨v, hv, r⟩ := atI_ty hu h
  exact .inr (.inl ⟨l, us, i, v, rfl, rfl, SqL.of ho, hv, q v I H (Evl.Ex.refl I) h0 r⟩)
theorem atI_map {α β : Type} {f : α → β} {xs : List α} {i : Int} {a : α} (h : atI xs i = some a) : atI (xs.map f) i = some (f a) := by
  unfold atI at h ⊢
  rw [List.length_map]
  cases c : ixN xs.length i with
  | none =>
    rw [c] at h
    cases h
  | some j =>
    rw [c] at h
    show (xs.map f)[j]? = some (f a)
    rw [List.getElem?_map, (show xs[j]? = some a from h)]
    rfl
theorem rx_ixTD {ds : List PyData} {d : PyData} {i : Int} (h : atI ds i = some d) : RX (rIxA P w K) M (DT K (.tuple ds)) (DT K (.int i)) (DT K d) := by
  rw [← tt_dt]
  exact rx_ixT (atI_map h)
theorem rx_ixLD {ds : List PyData} {d : PyData} {i : Int} (h : atI ds i = some d) : RX (rIxA P w K) M (DT K (.list ds)) (DT K (.int i)) (DT K d) := by
  rw [← lt_dt]
  exact rx_ixL (atI_map h)
theorem rx_ixK {es : List (NK × Ty)} {k : NK} (h : es.lookup k = some T) (h8 : k.depth ≤ 8) {ks : List NK} (hk : k = .tup ks) : RX (rIxA P w K) M (KdT P w K es) (DT K k.data) T := fun O I H x y Q h0 ⟨d, xs, h1, h2, h3⟩ b q => by
  have ye : ∃ b, y = .ref b := by
    subst hk
    cases b with
    | tup a c => exact ⟨_, rfl⟩
  obtain ⟨a, rfl⟩ := ye
  obtain ⟨v, hv, r⟩ := h3.look h
  exact .inr (.inr ⟨d, xs, a, k, v, h1, ⟨h0.ex _ _ h2, fun e he => ⟨dpp_ex h0.ex _ _ (h3.mem e he).1, (h3.mem e he).2⟩⟩, rfl, dpp_ex h0.ex _ _ (dt_dp b), h8, hv, q v I H (Evl.Ex.refl I) h0 r⟩)
theorem rx_ixKO {es : List (NK × Ty)} {k : NK} {j : Nat} {l : Addr} (hm : M[j]? = some (l, kdC P w K l es)) (h : es.lookup k = some T) (h8 : k.depth ≤ 8) {ks : List NK} (hk : k = .tup ks) : RX (rIxA P w K) M (VT (.ref l)) (DT K k.data) T := fun O I H x y Q h0 a b q => by
  cases a
  have ye : ∃ b, y = .ref b := by
    subst hk
    cases b with
    | tup a c => exact ⟨_, rfl⟩
  obtain ⟨a, rfl⟩ := ye
  obtain ⟨_, _, o, ho, xs, rfl, h3⟩ := h0.at_ _ (List.mem_of_getElem? hm)
  obtain ⟨v, hv, r⟩ := h3.look h
  exact .inr (.inr ⟨l, xs, a, k, v, rfl, ⟨ho, fun e he => ⟨dpp_ex h0.ex _ _ (h3.mem e he).1, (h3.mem e he).2⟩⟩, rfl, dpp_ex h0.ex _ _ (dt_dp b), h8, hv, q v I H (Evl.Ex.refl I) h0 r⟩)
end
/-! ### slices -/
def rSlN (K : PySem.W.Frag) : V → Option Int → Option Int → Hp → VK → Prop := fun x lo hi H Q => rSlA K x lo hi H Q ∨ rSlL K x lo hi H Q
theorem sl_any {X : Cx} : SlR X (rSlN X.K) := SlR.or sl_tupA sl_list
def OT (to : TO) (Γ : TEnv) (M : Mem) (o : Option Int) : Prop := ∀ (O : Org) (σ : L2.St) (I H : Hp) (Q : Option Int → Hp → Prop), EnvOk σ I Γ → Holds O I H M → (∀ I' H', Ex I I' → Holds O I' H' M → Q o H') → to σ H Q
def cut {α : Type} (xs : List α) (lo hi : Option Int) : List α := (xs.drop (HT.sIx xs.length 0 lo)).take (HT.sIx xs.length xs.length hi - HT.sIx xs.length 0 lo)
theorem cut_map {α β : Type} (f : α → β) (xs : List α) (lo hi : Option Int) : cut (xs.map f) lo hi = (cut xs lo hi).map f := by
  unfold cut
  rw [List.length_map, List.map_take, List.map_drop]
theorem cut_whole {α : Type} {xs : List α} {lo hi : Option Int} (h : HT.sIx xs.length 0 lo = 0 ∧ HT.sIx xs.length xs.length hi = xs.length) : cut xs lo hi = xs := by
  unfold cut
  rw [h.1, h.2, List.drop_zero, Nat.sub_zero, List.take_length]
theorem cut_ty {I : Hp} {Ts : List Ty} {vs : List V} (h : AllTy I Ts vs) (lo hi : Option Int) : AllTy I (cut Ts lo hi) (cutV vs lo hi) := by
  unfold cut cutV
  rw [h.length]
  exact (h.drop _).take _
section
variable {K : PySem.W.Frag} {M : Mem} {Γ : TEnv} {Ts Us : List Ty} {te : TE} {tl th : TO} {lo hi : Option Int}
theorem ot_no : OT tNoPart Γ M none := fun O σ I H Q e h q => q I H (Evl.Ex.refl I) h
theorem ot_int {i : Int} (h : ET te Γ M (DT K (.int i))) : OT (tPart te) Γ M (some i) := fun O σ I H Q e h0 q => h O σ I H _ e h0 fun v I' H' e' h' a => ⟨i, dt_int a, q I' H' e' h'⟩
theorem et_slT (h : ET te Γ M (TupT K Ts)) (hl : OT tl Γ M lo) (hh : OT th Γ M hi) : ET (tSl (rSlN K) te tl th) Γ M (TupT K (cut Ts lo hi)) := fun O σ I H Q e h0 q =>
  h O σ I H _ e h0 fun v I1 H1 e1 h1 ⟨a, xs, g1, g2, g3⟩ => hl O σ I1 H1 _ (e.mono e1) h1 fun I2 H2 e2 h2 => hh O σ I2 H2 _ (e.mono (e1.trans e2)) h2 fun I3 H3 e3 h3 => by
    have g3 := g3.mono (e2.trans e3)
    have g2 := ex_t (e2.trans e3) g2
    refine .inl ⟨a, xs, g1, ex_t h3.ex g2, fun hw => ?_, fun _ p hp => ?_⟩
    · refine q _ I3 H3 (e1.trans (e2.trans e3)) h3 ⟨a, xs, rfl, g2, ?_⟩
      rw [cut_whole (by rw [g3.length]; exact hw)]
      exact g3
    · obtain ⟨e4, h4⟩ := h3.new_ (o := .tup (cutV xs lo hi)) hp
      exact q _ _ _ (e1.trans (e2.trans (e3.trans e4))) h4 ⟨p, _, rfl, SqT.of upd_same, (cut_ty g3 lo hi).mono e4⟩
theorem et_slL (h : ET te Γ M (LstT Ts)) (hl : OT tl Γ M lo) (hh : OT th Γ M hi) : ET (tSl (rSlN K) te tl th) Γ M (LstT (cut Ts lo hi)) := fun O σ I H Q e h0 q =>
  h O σ I H _ e h0 fun v I1 H1 e1 h1 ⟨a, xs, g1, g2, g3⟩ => hl O σ I1 H1 _ (e.mono e1) h1 fun I2 H2 e2 h2 => hh O σ I2 H2 _ (e.mono (e1.trans e2)) h2 fun I3 H3 e3 h3 => by
    have g3 := g3.mono (e2.trans e3)
    have g2 := (e2.trans e3) _ _ g2
    refine .inr ⟨a, xs, g1, SqL.of (h3.ex _ _ g2), fun p hp => ?_⟩
    obtain ⟨e4, h4⟩ := h3.new_ (o := .lst (cutV xs lo hi)) hp
    exact q _ _ _ (e1.trans (e2.trans (e3.trans e4))) h4 ⟨p, _, rfl, upd_same, (cut_ty g3 lo hi).mono e4⟩
theorem et_slTD {ds : List PyData} (h : ET te Γ M (DT K (.tuple ds))) (hl : OT tl Γ M lo) (hh : OT th Γ M hi) : ET (tSl (rSlN K) te tl th) Γ M (DT K (.tuple (cut ds lo hi))) := by
  rw [← tt_dt, ← cut_map]
  exact et_slT (tt_dt (K := K) ds ▸ h) hl hh
theorem et_slLD {ds : List PyData} (h : ET te Γ M (DT K (.list ds))) (hl : OT tl Γ M lo) (hh : OT th Γ M hi) : ET (tSl (rSlN K) te tl th) Γ M (DT K (.list (cut ds lo hi))) := by
  rw [← lt_dt, ← cut_map]
  exact et_slL (lt_dt (K := K) ds ▸ h) hl hh
theorem cut_from {α : Type} (xs : List α) (k : Nat) : cut xs (some (k : Int)) none = xs.drop k := by
  unfold cut
  rw [HT.sIx_nat, HT.sIx_none, List.take_of_length_le (by rw [List.length_drop]; exact Nat.le_refl _)]
  by_cases c : k ≤ xs.length
  · rw [Nat.min_eq_left c]
  · rw [Nat.min_eq_right (Nat.le_of_not_le c), List.drop_eq_nil_of_le (Nat.le_refl _), List.drop_eq_nil_of_le (Nat.le_of_not_le c)]
theorem cut_to {α : Type} (xs : List α) (k : Nat) : cut xs none (some (k : Int)) = xs.take k := by
  unfold cut
  rw [HT.sIx_nat, HT.sIx_none, List.drop_zero, Nat.sub_zero]
  by_cases c : k ≤ xs.length
  · rw [Nat.min_eq_left c]
  · rw [Nat.min_eq_right (Nat.le_of_not_le c), List.take_length, List.take_of_length_le (Nat.le_of_not_le c)]
end
/-! ### == and in -/
section
variable {K : PySem.W.Frag} {M : Mem} {Γ : TEnv} {d e : PyData}
theorem rx_eq (hd : SeqAt.shaped d = true) (he : SeqAt.shaped e = true) : RX (rEqD K) M (DT K d) (DT K e) (DT K (.bool (PyData.eqv d e))) := fun O I H x y Q h0 a b q =>
  ⟨d, e, dpp_ex h0.ex _ _ (dt_dp a), dpp_ex h0.ex _ _ (dt_dp b), hd, he, q _ I H (Evl.Ex.refl I) h0 (.bl _)⟩
theorem rx_ne (hd : SeqAt.shaped d = true) (he : SeqAt.shaped e = true) : RX (rNeD K) M (DT K d) (DT K e) (DT K (.bool (!PyData.eqv d e))) := fun O I H x y Q h0 a b q =>
  ⟨d, e, dpp_ex h0.ex _ _ (dt_dp a), dpp_ex h0.ex _ _ (dt_dp b), hd, he, q _ I H (Evl.Ex.refl I) h0 (.bl _)⟩
def rInA (K : PySem.W.Frag) : R2 := fun x y H Q => rIn K false x y H Q ∨ rInD K x y H Q
theorem op_inA {X : Cx} (hu : X.A.units + 65 < cLine) : OpR X (compareOp .In) (rInA X.K) := OpR.or op_in_seq (op_inD hu)
def rNiA (K : PySem.W.Frag) : R2 := fun x y H Q => rIn K true x y H Q ∨ rNotInD K x y H Q
theorem op_niA {X : Cx} (hu : X.A.units + 65 < cLine) : OpR X (compareOp .NotIn) (rNiA X.K) := OpR.or op_notIn_seq (op_notInD hu)
theorem rx_in {ds : List PyData} (hd : SeqAt.shaped d = true) (he : SeqAt.shaped (.list ds) = true) : RX (rInA K) M (DT K d) (DT K (.list ds)) (DT K (.bool (ds.any fun z => PyData.eqv z d))) := fun O I H x y Q h0 a b q =>
  .inr ⟨d, ds, dpp_ex h0.ex _ _ (dt_dp a), dpp_ex h0.ex _ _ (dt_dp b), hd, he, q _ I H (Evl.Ex.refl I) h0 (.bl _)⟩
theorem rx_ni {ds : List PyData} (hd : SeqAt.shaped d = true) (he : SeqAt.shaped (.list ds) = true) : RX (rNiA K) M (DT K d) (DT K (.list ds)) (DT K (.bool (!ds.any fun z => PyData.eqv z d))) := fun O I H x y Q h0 a b q =>
  .inr ⟨d, ds, dpp_ex h0.ex _ _ (dt_dp a), dpp_ex h0.ex _ _ (dt_dp b), hd, he, q _ I H (Evl.Ex.refl I) h0 (.bl _)⟩
/-- flat data -/
def flatD : PyData → Bool
  | .none => true
  | .bool _ => true
  | .int _ => true
  | .str _ => true
  | _ => false
theorem flat_v {I : Hp} {d : PyData} {v : V} (h : Dq K I v d) (f : flatD d = true) : flatV v = true := by
  cases h <;> first | rfl | cases f
theorem flat_eq {I : Hp} {d e : PyData} {v u : V} (h : Dq K I v d) (k : Dq K I u e) (f : flatD d = true) (g : flatD e = true) : eqV v u = PyData.eqv d e := by
  cases h <;> cases k <;> first | rfl | (simp [flatD] at f; done) | (simp [flatD] at g; done)
theorem flat_all {I : Hp} : ∀ {ds : List PyData} {vs : List V}, DqAll K I vs ds → ds.all flatD = true → vs.all flatV = true
  | [], vs, h, _ => by
    cases h
    rfl
  | d :: ds, vs, h, f => by
    cases h with
    | cons a b =>
      rw [List.all_cons, Bool.and_eq_true] at f
      rw [List.all_cons, flat_v a f.1, flat_all b f.2]
      rfl
theorem flat_any {I : Hp} {e : PyData} {u : V} (k : Dq K I u e) (g : flatD e = true) : ∀ {ds : List PyData} {vs : List V}, DqAll K I vs ds → ds.all flatD = true → inV u vs = ds.any fun z => PyData.eqv z e
  | [], vs, h, _ => by
    cases h
    rfl
  | d :: ds, vs, h, f => by
    cases h with
    | cons a b =>
      rw [List.all_cons, Bool.and_eq_true] at f
      have ih := flat_any k g b f.2
      unfold inV at ih ⊢
      rw [List.any_cons, List.any_cons, flat_eq a k f.1 g, ih]
/-- x in a tuple of flat items -/
theorem rx_inT {ds : List PyData} (g : flatD d = true) (f : ds.all flatD = true) : RX (rInA K) M (DT K d) (DT K (.tuple ds)) (DT K (.bool (ds.any fun z => PyData.eqv z d))) := fun O I H x y Q h0 a b q => by
  cases b with
  | tup b c =>
    refine .inl ⟨_, _, rfl, .inr (ex_t h0.ex b), flat_v a g, flat_all c f, ?_⟩
    rw [if_neg Bool.false_ne_true, flat_any a g c f]
    exact q _ I H (Evl.Ex.refl I) h0 (.bl _)
/-- .. of bools, of texts: in a list -/
theorem rx_inF {ds : List PyData} (g : flatD d = true) (f : ds.all flatD = true) : RX (rInA K) M (DT K d) (DT K (.list ds)) (DT K (.bool (ds.any fun z => PyData.eqv z d))) := fun O I H x y Q h0 a b q => by
  cases b with
  | lst b c =>
    refine .inl ⟨_, _, rfl, .inl (SqL.of (h0.ex _ _ b)), flat_v a g, flat_all c f, ?_⟩
    rw [if_neg Bool.false_ne_true, flat_any a g c f]
    exact q _ I H (Evl.Ex.refl I) h0 (.bl _)
theorem rx_niT {ds : List PyData} (g : flatD d = true) (f : ds.all flatD = true) : RX (rNiA K) M (DT K d) (DT K (.tuple ds)) (DT K (.bool (!ds.any fun z => PyData.eqv z d))) := fun O I H x y Q h0 a b q => by
  cases b with
  | tup b c =>
    refine .inl ⟨_, _, rfl, .inr (ex_t h0.ex b), flat_v a g, flat_all c f, ?_⟩
    rw [if_pos rfl, flat_any a g c f]
    exact q _ I H (Evl.Ex.refl I) h0 (.bl _)
theorem rx_niF {ds : List PyData} (g : flatD d = true) (f : ds.all flatD = true) : RX (rNiA K) M (DT K d) (DT K (.list ds)) (DT K (.bool (!ds.any fun z => PyData.eqv z d))) := fun O I H x y Q h0 a b q => by
  cases b with
  | lst b c =>
    refine .inl ⟨_, _, rfl, .inl (SqL.of (h0.ex _ _ b)), flat_v a g, flat_all c f, ?_⟩
    rw [if_pos rfl, flat_any a g c f]
    exact q _ I H (Evl.Ex.refl I) h0 (.bl _)
/-- is None, is not None -/
theorem rx_is {T : Ty} {b : Bool} (hb : ∀ I v, T.r I v → decide (v = .non) = b) : RX (fun x y H Q => y = .non ∧ Q (.bl (decide (x = .non))) H) M T (DT K .none) (DT K (.bool b)) := fun O I H x y Q h0 a c q =>
  ⟨dt_non c, by rw [hb I x a]; exact q _ I H (Evl.Ex.refl I) h0 (.bl _)⟩
theorem rx_isnt {T : Ty} {b : Bool} (hb : ∀ I v, T.r I v → decide (v = .non) = b) : RX (fun x y H Q => y = .non ∧ Q (.bl (!decide (x = .non))) H) M T (DT K .none) (DT K (.bool (!b))) := fun O I H x y Q h0 a c q =>
  ⟨dt_non c, by rw [hb I x a]; exact q _ I H (Evl.Ex.refl I) h0 (.bl _)⟩
end
/-! ### a op1 b op2 c of ints -/
section
variable {K : PySem.W.Frag} {M : Mem} {Γ : TEnv} {ta tb tc : TE}
theorem et_chain {r r' : R2} {S T U : Ty} {p q : Bool} (ha : ET ta Γ M S) (hb : ET tb Γ M T) (hc : ET tc Γ M U) (hr : RX r M S T (DT K (.bool p))) (hr' : RX r' M T U (DT K (.bool q))) : ET (tChain r r' ta tb tc) Γ M (DT K (.bool (p && q))) := fun O σ I H Q e h0 k =>
  ha O σ I H _ e h0 fun x I1 H1 e1 h1 a => hb O σ I1 H1 _ (e.mono e1) h1 fun y I2 H2 e2 h2 b => hr O I2 H2 x y _ h2 (S.mono e2 a) b fun z I3 H3 e3 h3 c => ⟨p, dt_bl c, by
    cases p with
    | true =>
      rw [if_pos rfl]
      exact hc O σ I3 H3 _ (e.mono (e1.trans (e2.trans e3))) h3 fun u I4 H4 e4 h4 d => hr' O I4 H4 y u Q h4 (T.mono (e3.trans e4) b) d fun v I5 H5 e5 h5 g => k v I5 H5 (e1.trans (e2.trans (e3.trans (e4.trans e5)))) h5 g
    | false =>
      rw [if_neg Bool.false_ne_true]
      exact k _ I3 H3 (e1.trans (e2.trans e3)) h3 (.bl _)⟩
end
end Tw
end
/-! TwSort2 -/
section
set_option Elab.async false
set_option linter.all false
set_option autoImplicit false
set_option maxRecDepth 100000
namespace Tw
open PySem PySem.Spec PyProof.Rows L2
open Evl (Ex)
theorem each_vs {K : PySem.W.Frag} {H : Hp} {X : Cx} {pins : List (Addr × Obj)} {σ : L2.St} {s : Shared} (I : Inv X pins σ H s) {Pr : V → PyData → Prop} (hP : ∀ v d, Pr v d → Dp X.K H v d) : ∀ {ds : List PyData} {xs : List V} {us : List Value}, Paired Pr xs ds → Vals xs us →
    PySem.W.EachIs (fun v d => ∃ x : V, RelV x v ∧ Pr x d) us ds ∧ PySem.W.EachIs (fun v d => ∃ as, Reads s.heap v d as) us ds
  | [], _, _, h, r => by
    cases h
    cases r
    exact ⟨.nil, .nil⟩
  | d :: ds, _, _, h, r => by
    cases h with
    | cons h1 h2 =>
      cases r with
      | cons r1 r2 =>
        obtain ⟨a, b⟩ := each_vs (K := K) I hP h2 r2
        exact ⟨.cons ⟨_, r1, h1⟩ a, .cons (Dp.reads I d _ _ (hP _ _ h1) r1) b⟩
theorem each_back {Pr : V → PyData → Prop} : ∀ {ds : List PyData} {us : List Value}, PySem.W.EachIs (fun v d => ∃ x : V, RelV x v ∧ Pr x d) us ds → ∃ ys, Vals ys us ∧ Paired Pr ys ds
  | _, _, .nil => ⟨[], .nil, .nil⟩
  | _, _, .cons ⟨x, h1, h2⟩ t => by
    obtain ⟨ys, a, b⟩ := each_back t
    exact ⟨x :: ys, .cons h1 a, .cons h2 b⟩
/-- sorted(a list of tuples) -/
def rSortT (K : PySem.W.Frag) : List V → Hp → VK → Prop := fun vs H Q => ∃ (a : Addr) (xs : List V) (ds : List PyData) (Pr : V → PyData → Prop), vs = [.ref a] ∧ SqL K H a xs ∧ Paired Pr xs ds ∧ (∀ v d, Pr v d → Dp K H v d) ∧ PySem.W.AllAlike ds ∧ (∀ d, d ∈ ds → ∃ ys, d = .tuple ys) ∧ (∀ d, d ∈ ds → d.depth ≤ 50) ∧
  ∀ p ys, H p = none → Paired Pr ys (ds.mergeSort (PySem.W.dataLe false id)) → Q (.ref p) (upd H p (.lst ys))
theorem cr_sortT {X : Cx} (hu : X.A.units + 64 < cLine) : CallR X (.builtin "sorted") (rSortT X.K) := by
  intro pins s σ H vs us Q I r h
  obtain ⟨a, xs, ds, Pr, rfl, hq, hd, hP, hal, ht, h50, q⟩ := h
  cases Vals.ref1 r
  obtain ⟨its, rv, pl, hz⟩ := I.list hq
  obtain ⟨e, er⟩ := each_vs (K := X.K) I hP hd rv
  have hL : its.length ≤ sizeLine := by rw [← rv.length]; exact hz
  have er' : PySem.W.EachIs (fun v d => ∃ as, Reads (PySem.W.sortingHeap (PySem.W.copyHeap s.heap its) (s.heap.objs.size + 1) its) v d as) its ds := er.mono fun _ _ ⟨as, z⟩ => ⟨as, PyProof.Rows.Reads.keeps (fun _ _ => PySem.W.sorting_copy_old) z⟩
  refine PySem.W.sorted_vals pl.isList (sortsTups (s := { s with heap := PySem.W.sortingHeap (PySem.W.copyHeap s.heap its) (s.heap.objs.size + 1) its }) er' hal ht fun d hd => ?_) hL ?_
  · have := h50 d hd
    show X.A.units + 2 + d.depth < cLine
    omega
  · have es := PySem.W.sortVals_data (enc := id) (bs := ds) (h' := PySem.W.sortingHeap (PySem.W.copyHeap s.heap its) (s.heap.objs.size + 1) its) false e (by exact er') (by rw [List.map_id]; exact hal)
    rw [List.map_id] at es
    obtain ⟨ys, y1, y2⟩ := each_back es
    obtain ⟨c, hc⟩ := PyProof.Rows.sortedAll_at s.heap its (PySem.W.sortVals (PySem.W.dataKind (PySem.W.sortingHeap (PySem.W.copyHeap s.heap its) (s.heap.objs.size + 1) its) ds) false its its).toArray
    have hle : ys.length ≤ sizeLine := by
      rw [y1.length, PySem.W.sortVals_length false rfl]
      exact hL
    exact ⟨.ref (s.heap.objs.size + 1), _, I.laid (t' := s.toks) (o := .lst ys) (fun _ _ => PyProof.Rows.sortedAll_old) (Nat.le_succ _) ⟨hle, _, c, y1, hc⟩, rfl, q _ _ (I.hok.fresh (Nat.le_succ _)) y2⟩
theorem dqa_paired {K : PySem.W.Frag} {I : Hp} : ∀ {ds : List PyData} {xs : List V}, DqAll K I xs ds ↔ Paired (Dq K I) xs ds
  | [], xs => ⟨fun h => by cases h; exact .nil, fun h => by cases h; exact .nil⟩
  | d :: ds, xs => ⟨fun h => by
      cases h with
      | cons a b => exact .cons a (dqa_paired.mp b), fun h => by
      cases h with
      | cons a b => exact .cons a (dqa_paired.mpr b)⟩
section
variable {K : PySem.W.Frag} {M : Mem}
theorem cx_sort {ds : List PyData} (hal : PySem.W.AllAlike ds) (ht : ∀ d, d ∈ ds → ∃ ys, d = .tuple ys) (h50 : ∀ d, d ∈ ds → d.depth ≤ 50) : CX' (rSortT K) M [DT K (.list ds)] (DT K (.list (ds.mergeSort (PySem.W.dataLe false id)))) := fun O I H xs Q h0 a q => by
  cases a with
  | cons a t =>
    cases t
    cases a with
    | lst a b =>
      refine ⟨_, _, ds, Dq K I, rfl, SqL.of (h0.ex _ _ a), dqa_paired.mp b, fun v d h => dpp_ex h0.ex _ _ (dq_dp _ _ _ h), hal, ht, h50, fun p ys hp hy => ?_⟩
      obtain ⟨e2, h2⟩ := h0.new_ (o := .lst ys) hp
      exact q _ _ _ e2 h2 (.lst upd_same (dpa_ex K e2 _ _ (dqa_paired.mpr hy)))
end
end Tw
end
/-! TwRules2 -/
section
set_option Elab.async false
set_option linter.all false
set_option autoImplicit false
set_option maxRecDepth 100000
set_option maxHeartbeats 4000000
/-! What is walked; calls of built-ins; fields; dicts; by types. -/
namespace Tw
open PySem PySem.Spec PyProof.Rows L2
open Evl (Ex ex_l ex_t ex_rd)
section
variable {K : PySem.W.Frag} {Γ : TEnv} {M : Mem} {α β : Type} {xs : List α} {gT : α → Ty} {tl : TE} {ta : TA}
/-! ### iterables -/
theorem iter_L {p : Addr} {I0 : Hp} {vs : List V} (hp : I0 p = some (.lst vs)) (hv : AllTy I0 (xs.map gT) vs) : Iter (Itl K p) I0 xs gT where
  go := fun i a I H hi e1 e2 => by
    obtain ⟨v, hv', _⟩ := hv.get (i := i) (T := gT a) (by rw [List.getElem?_map, hi]; rfl)
    exact ⟨vs, v, SqL.of (e2 _ _ (e1 _ _ hp)), hv'⟩
  yld := fun i a I H x H' hi e1 e2 ⟨h1, h2⟩ => by
    obtain ⟨v, hv', r⟩ := hv.get (i := i) (T := gT a) (by rw [List.getElem?_map, hi]; rfl)
    have := h2 vs (SqL.of (e2 _ _ (e1 _ _ hp)))
    rw [hv'] at this
    cases this
    exact .inl ⟨h1, Ty.mono _ e1 r⟩
  stop := fun I H e1 e2 => ⟨vs, SqL.of (e2 _ _ (e1 _ _ hp)), by rw [← hv.length, List.length_map]; exact Nat.le_refl _⟩
theorem iter_T {p : Addr} {I0 : Hp} {vs : List V} (hp : SqT K I0 p vs) (hv : AllTy I0 (xs.map gT) vs) : Iter (Itt K p) I0 xs gT where
  go := fun i a I H hi e1 e2 => by
    obtain ⟨v, hv', _⟩ := hv.get (i := i) (T := gT a) (by rw [List.getElem?_map, hi]; rfl)
    exact ⟨vs, v, ex_t e2 (ex_t e1 hp), hv'⟩
  yld := fun i a I H x H' hi e1 e2 ⟨h1, h2⟩ => by
    obtain ⟨v, hv', r⟩ := hv.get (i := i) (T := gT a) (by rw [List.getElem?_map, hi]; rfl)
    have := h2 vs (ex_t e2 (ex_t e1 hp))
    rw [hv'] at this
    cases this
    exact .inl ⟨h1, Ty.mono _ e1 r⟩
  stop := fun I H e1 e2 => ⟨vs, ex_t e2 (ex_t e1 hp), by rw [← hv.length, List.length_map]; exact Nat.le_refl _⟩
theorem ix_LT (h : ET tl Γ M (LstT (xs.map gT))) : IX (iList K tl) Γ M xs gT := fun O σ I H R e h0 q =>
  h O σ I H _ e h0 fun v I1 H1 e1 h1 ⟨p, vs, g1, g2, g3⟩ => ⟨p, g1, ⟨vs, SqL.of (h1.ex _ _ g2)⟩, q _ I1 H1 e1 h1 (iter_L g2 g3)⟩
theorem ix_TT (h : ET tl Γ M (TupT K (xs.map gT))) : IX (iTup K tl) Γ M xs gT := fun O σ I H R e h0 q =>
  h O σ I H _ e h0 fun v I1 H1 e1 h1 ⟨p, vs, g1, g2, g3⟩ => ⟨p, g1, ⟨vs, ex_t h1.ex g2⟩, q _ I1 H1 e1 h1 (iter_T g2 g3)⟩
theorem ix_L {g : α → PyData} (h : ET tl Γ M (DT K (.list (xs.map g)))) : IX (iList K tl) Γ M xs (fun a => DT K (g a)) := ix_LT (by
  rw [← lt_dt, List.map_map] at h
  exact h)
theorem ix_T {g : α → PyData} (h : ET tl Γ M (DT K (.tuple (xs.map g)))) : IX (iTup K tl) Γ M xs (fun a => DT K (g a)) := ix_TT (by
  rw [← tt_dt, List.map_map] at h
  exact h)
/-- over data as they stand -/
theorem ix_LD {ds : List PyData} (h : ET tl Γ M (DT K (.list ds))) : IX (iList K tl) Γ M ds (DT K) := ix_LT (by
  rw [← lt_dt] at h
  exact h)
theorem ix_TD {ds : List PyData} (h : ET tl Γ M (DT K (.tuple ds))) : IX (iTup K tl) Γ M ds (DT K) := ix_TT (by
  rw [← tt_dt] at h
  exact h)
def iD (K : PySem.W.Frag) (i : Nat) : Ty := DT K (.int (i : Nat))
theorem ix_R {n : Nat} (h : EA ta Γ M [DT K (.int (n : Nat))]) (hn : (n : Int) < 2 ^ 62) : IX (iRng1 ta) Γ M (List.range n) (fun i => DT K (.int (i : Nat))) := fun O σ I H R e h0 q =>
  h O σ I H _ e h0 fun vs I1 H1 e1 h1 a => by
    cases a with
    | cons a t =>
      cases t
      cases dt_int a
      refine ⟨(n : Int), rfl, by omega, hn, q _ I1 H1 e1 h1 ⟨?_, ?_, ?_⟩⟩
      · intro i b I H hi _ _
        have := (List.getElem?_eq_some_iff.mp hi).1
        rw [List.length_range] at this
        exact (by rw [Int.toNat_natCast]; exact this : i < (n : Int).toNat)
      · intro i b I H x H' hi _ _ ⟨y1, y2⟩
        have hb : b = i := by
          rw [List.getElem?_range ((by have := (List.getElem?_eq_some_iff.mp hi).1; rw [List.length_range] at this; exact this) : i < n)] at hi
          exact (Option.some.inj hi).symm
        subst hb
        subst y2
        exact .inl ⟨y1, by rw [Int.zero_add]; exact .int _⟩
      · intro I H _ _
        exact (by rw [List.length_range, Int.toNat_natCast]; exact Nat.le_refl _ : (n : Int).toNat ≤ (List.range n).length)
/-- range(a, -1, -1) -/
theorem ix_R3 {n : Nat} (h : EA ta Γ M [DT K (.int ((n : Int) - 1)), DT K (.int (-1)), DT K (.int (-1))]) (hn : (n : Int) < 2 ^ 61) : IX (iRng3 ta) Γ M (List.range n).reverse (fun i => DT K (.int (i : Nat))) := fun O σ I H R e h0 q =>
  h O σ I H _ e h0 fun vs I1 H1 e1 h1 a => by
    cases a with
    | cons a t =>
      cases t with
      | cons b t =>
        cases t with
        | cons c t =>
          cases t
          cases dt_int a
          cases dt_int b
          cases dt_int c
          have hc : RgC ((n : Int) - 1) (-1) (-1) n := by
            have := RgC.neg (i := (n : Int) - 1) (j := -1) (by omega) (by omega) (by decide) (by decide)
            rw [show ((n : Int) - 1 - -1).toNat = n by omega] at this
            exact this
          refine ⟨_, _, _, n, rfl, hc, q _ I1 H1 e1 h1 ⟨?_, ?_, ?_⟩⟩
          · intro i b I H hi _ _
            have := (List.getElem?_eq_some_iff.mp hi).1
            rw [List.length_reverse, List.length_range] at this
            exact this
          · intro i b I H x H' hi _ _ ⟨y1, y2⟩
            have hlt := (List.getElem?_eq_some_iff.mp hi).1
            rw [List.length_reverse, List.length_range] at hlt
            have hb : b = n - 1 - i := by
              rw [List.getElem?_reverse (by rw [List.length_range]; exact hlt), List.length_range, List.getElem?_range (by omega)] at hi
              exact (Option.some.inj hi).symm
            subst hb
            subst y2
            refine .inl ⟨y1, ?_⟩
            rw [show (n : Int) - 1 + (i : Int) * -1 = ((n - 1 - i : Nat) : Int) by omega]
            exact .int _
          · intro I H _ _
            exact (by rw [List.length_reverse, List.length_range]; exact Nat.le_refl _ : n ≤ (List.range n).reverse.length)
/-- enumerate(a tuple) -/
theorem ix_E {g : α → PyData} (h : EA ta Γ M [DT K (.tuple (xs.map g))]) : IX (iEnumT K ta) Γ M xs.zipIdx (fun p => TupT K [DT K (.int (p.2 : Nat)), DT K (g p.1)]) := fun O σ I H R e h0 q =>
  h O σ I H _ e h0 fun vs I1 H1 e1 h1 a => by
    cases a with
    | cons a t =>
      cases t
      obtain ⟨p, us, rfl, hp, hu⟩ := dt_tup a
      have at_ : ∀ (i : Nat) (b : α × Nat), xs.zipIdx[i]? = some b → b.2 = i ∧ ∃ v, us[i]? = some v ∧ (DT K (g b.1)).r I1 v := by
        intro i b hi
        rw [List.getElem?_zipIdx] at hi
        cases hx : xs[i]? with
        | none =>
          rw [hx] at hi
          cases hi
        | some y =>
          rw [hx] at hi
          cases hi
          refine ⟨Nat.zero_add _, ?_⟩
          have := hu.get (i := i) (T := DT K (g y)) (by rw [List.getElem?_map, List.getElem?_map, hx]; rfl)
          exact this
      refine ⟨p, us, rfl, ex_t h1.ex hp, q _ I1 H1 e1 h1 ⟨?_, ?_, ?_⟩⟩
      · intro i b I H hi ea eb
        obtain ⟨_, v, hv, _⟩ := at_ i b hi
        exact ⟨us, v, ex_t eb (ex_t ea hp), hv⟩
      · rintro i ⟨b1, b2⟩ I H x H' hi ea eb ⟨T, y, rfl, hT, rfl, hy⟩
        obtain ⟨rfl, v, hv, r⟩ := at_ i _ hi
        have := hy us (ex_t eb (ex_t ea hp))
        rw [hv] at this
        cases this
        have hn : I T = none := ex_none eb hT
        exact .inr ⟨T, _, hT, rfl, T, _, rfl, SqT.of upd_same, .cons (.int _) (.cons (Ty.mono _ (ea.trans (ex_new hn)) r) .nil)⟩
      · intro I H ea eb
        refine ⟨us, ex_t eb (ex_t ea hp), ?_⟩
        rw [List.length_zipIdx, ← hu.length, List.length_map, List.length_map]
/-- zip(a, b, strict=..) of two tuples -/
theorem ix_Z {ys : List β} {hT : β → Ty} {st : Bool} (h : EA ta Γ M [TupT K (xs.map gT), TupT K (ys.map hT)]) (hl : st = true → xs.length = ys.length) : IX (iZipK K st ta) Γ M (xs.zip ys) (fun p => TupT K [gT p.1, hT p.2]) := fun O σ I H R e h0 q =>
  h O σ I H _ e h0 fun vs I1 H1 e1 h1 a => by
    cases a with
    | cons a t =>
      cases t with
      | cons b t =>
        cases t
        obtain ⟨p, us, rfl, hp, hu⟩ := a
        obtain ⟨p2, ws, rfl, hp2, hw⟩ := b
        have lu : us.length = xs.length := by rw [← hu.length, List.length_map]
        have lw : ws.length = ys.length := by rw [← hw.length, List.length_map]
        have at_ : ∀ (i : Nat) (b : α × β), (xs.zip ys)[i]? = some b → ∃ v w, us[i]? = some v ∧ ws[i]? = some w ∧ (gT b.1).r I1 v ∧ (hT b.2).r I1 w := by
          intro i b hi
          obtain ⟨ha, hb⟩ := List.getElem?_zip_eq_some.mp hi
          obtain ⟨v, v1, v2⟩ := hu.get (i := i) (T := gT b.1) (by rw [List.getElem?_map, ha]; rfl)
          obtain ⟨w, w1, w2⟩ := hw.get (i := i) (T := hT b.2) (by rw [List.getElem?_map, hb]; rfl)
          exact ⟨v, w, v1, w1, v2, w2⟩
        refine ⟨p, p2, us, ws, rfl, ex_t h1.ex hp, ex_t h1.ex hp2, q _ I1 H1 e1 h1 ?_⟩
        cases st with
        | false =>
          refine ⟨?_, ?_, ?_⟩
          · intro i b I H hi ea eb
            obtain ⟨v, w, v1, w1, _⟩ := at_ i b hi
            exact ⟨us, ws, v, w, ex_t eb (ex_t ea hp), ex_t eb (ex_t ea hp2), v1, w1⟩
          · rintro i b I H x H' hi ea eb ⟨T, y, z, rfl, hT, rfl, hy, hz⟩
            obtain ⟨v, w, v1, w1, v2, w2⟩ := at_ i b hi
            have z1 := hy us (ex_t eb (ex_t ea hp))
            have z2 := hz ws (ex_t eb (ex_t ea hp2))
            rw [v1] at z1
            rw [w1] at z2
            cases z1
            cases z2
            have hn : I T = none := ex_none eb hT
            have e3 := ea.trans (ex_new (o := .tup [y, z]) hn)
            exact .inr ⟨T, _, hT, rfl, T, _, rfl, SqT.of upd_same, .cons (Ty.mono _ e3 v2) (.cons (Ty.mono _ e3 w2) .nil)⟩
          · intro I H ea eb
            refine ⟨us, ws, ex_t eb (ex_t ea hp), ex_t eb (ex_t ea hp2), ?_⟩
            rw [List.length_zip, lu, lw]
            omega
        | true =>
          have hl := hl rfl
          refine ⟨?_, ?_, ?_⟩
          · intro i b I H hi ea eb
            obtain ⟨v, w, v1, w1, _⟩ := at_ i b hi
            exact ⟨us, ws, v, w, ⟨ex_t eb (ex_t ea hp), ex_t eb (ex_t ea hp2)⟩, v1, w1⟩
          · rintro i b I H x H' hi ea eb ⟨T, y, z, rfl, hT, rfl, hy, hz⟩
            obtain ⟨v, w, v1, w1, v2, w2⟩ := at_ i b hi
            have z1 := hy us (ex_t eb (ex_t ea hp))
            have z2 := hz ws (ex_t eb (ex_t ea hp2))
            rw [v1] at z1
            rw [w1] at z2
            cases z1
            cases z2
            have hn : I T = none := ex_none eb hT
            have e3 := ea.trans (ex_new (o := .tup [y, z]) hn)
            exact .inr ⟨T, _, hT, rfl, T, _, rfl, SqT.of upd_same, .cons (Ty.mono _ e3 v2) (.cons (Ty.mono _ e3 w2) .nil)⟩
          · intro I H ea eb
            refine ⟨us, ws, ⟨ex_t eb (ex_t ea hp), ex_t eb (ex_t ea hp2)⟩, ?_, ?_⟩
            · rw [List.length_zip, lu]
              omega
            · rw [List.length_zip, lw]
              omega
end
/-! ### calls of built-ins -/
section
variable {K : PySem.W.Frag} {Γ : TEnv} {M : Mem} {te : TE} {ts : TA} {Ts : List Ty}
/-- len -/
def rLen (K : PySem.W.Frag) : List V → Hp → VK → Prop := fun xs H Q => ∃ x n, xs = [x] ∧ LenV K x H n ∧ Q (.int n) H
theorem call_lenA {X : Cx} : CallR X (.builtin "len") (rLen X.K) := call_len
theorem cx_lenT : CX' (rLen K) M [TupT K Ts] (DT K (.int (Ts.length : Nat))) := fun O I H xs Q h0 a q => by
  cases a with
  | cons a t =>
    cases t
    obtain ⟨p, us, rfl, hp, hu⟩ := a
    exact ⟨_, us.length, rfl, .inr ⟨us, ex_t h0.ex hp, rfl⟩, q _ I H (Evl.Ex.refl I) h0 (by rw [hu.length]; exact .int _)⟩
theorem cx_lenL : CX' (rLen K) M [LstT Ts] (DT K (.int (Ts.length : Nat))) := fun O I H xs Q h0 a q => by
  cases a with
  | cons a t =>
    cases t
    obtain ⟨p, us, rfl, hp, hu⟩ := a
    exact ⟨_, us.length, rfl, .inl ⟨us, SqL.of (h0.ex _ _ hp), rfl⟩, q _ I H (Evl.Ex.refl I) h0 (by rw [hu.length]; exact .int _)⟩
theorem cx_lenO {j : Nat} {l : Addr} (hm : M[j]? = some (l, lstC Ts)) : CX' (rLen K) M [VT (.ref l)] (DT K (.int (Ts.length : Nat))) := fun O I H xs Q h0 a q => by
  cases a with
  | cons a t =>
    cases t
    cases a
    obtain ⟨_, _, o, ho, us, rfl, hu⟩ := h0.at_ _ (List.mem_of_getElem? hm)
    exact ⟨_, us.length, rfl, .inl ⟨us, SqL.of ho, rfl⟩, q _ I H (Evl.Ex.refl I) h0 (by rw [hu.length]; exact .int _)⟩
theorem cx_lenTD {ds : List PyData} : CX' (rLen K) M [DT K (.tuple ds)] (DT K (.int (ds.length : Nat))) := by
  have h := cx_lenT (K := K) (M := M) (Ts := ds.map (DT K))
  rw [tt_dt, List.length_map] at h
  exact h
theorem cx_lenLD {ds : List PyData} : CX' (rLen K) M [DT K (.list ds)] (DT K (.int (ds.length : Nat))) := by
  have h := cx_lenL (K := K) (M := M) (Ts := ds.map (DT K))
  rw [lt_dt, List.length_map] at h
  exact h
theorem ints_v {I : Hp} : ∀ {ns : List Int} {vs : List V}, DqAll K I vs (ns.map PyData.int) → vs = ns.map V.int
  | [], _, h => by
    cases h
    rfl
  | n :: ns, _, h => by
    cases h with
    | cons a b =>
      cases a
      rw [ints_v b]
      rfl
theorem bools_v {I : Hp} : ∀ {ns : List Bool} {vs : List V}, DqAll K I vs (ns.map PyData.bool) → vs = ns.map V.bl
  | [], _, h => by
    cases h
    rfl
  | n :: ns, _, h => by
    cases h with
    | cons a b =>
      cases a
      rw [bools_v b]
      rfl
theorem cx_sum {ns : List Int} : CX' (rSum K) M [DT K (.list (ns.map PyData.int))] (DT K (.int ns.sum)) := fun O I H xs Q h0 a q => by
  cases a with
  | cons a t =>
    cases t
    cases a with
    | lst a b =>
      rw [ints_v b] at a
      exact ⟨_, ns, rfl, SqL.of (h0.ex _ _ a), q _ I H (Evl.Ex.refl I) h0 (.int _)⟩
theorem cx_any {bs : List Bool} : CX' (rAny K) M [DT K (.list (bs.map PyData.bool))] (DT K (.bool (bs.any id))) := fun O I H xs Q h0 a q => by
  cases a with
  | cons a t =>
    cases t
    cases a with
    | lst a b =>
      rw [bools_v b] at a
      exact ⟨_, bs, rfl, SqL.of (h0.ex _ _ a), q _ I H (Evl.Ex.refl I) h0 (.bl _)⟩
theorem cx_all {bs : List Bool} : CX' (rAll K) M [DT K (.list (bs.map PyData.bool))] (DT K (.bool (bs.all id))) := fun O I H xs Q h0 a q => by
  cases a with
  | cons a t =>
    cases t
    cases a with
    | lst a b =>
      rw [bools_v b] at a
      exact ⟨_, bs, rfl, SqL.of (h0.ex _ _ a), q _ I H (Evl.Ex.refl I) h0 (.bl _)⟩
/-- tuple(a list) -/
theorem et_tupleL (h : ET te Γ M (LstT Ts)) : ET (tThen te (kTup K)) Γ M (TupT K Ts) := fun O σ I H Q e h0 q =>
  h O σ I H _ e h0 fun v I1 H1 e1 h1 ⟨p, vs, g1, g2, g3⟩ => .inl ⟨p, vs, g1, SqL.of (h1.ex _ _ g2), fun t ht => by
    obtain ⟨e2, h2⟩ := h1.new_ (o := .tup vs) ht
    exact q _ _ _ (e1.trans e2) h2 ⟨t, vs, rfl, SqT.of upd_same, g3.mono e2⟩⟩
theorem et_tupleLD {ds : List PyData} (h : ET te Γ M (DT K (.list ds))) : ET (tThen te (kTup K)) Γ M (DT K (.tuple ds)) := by
  rw [← tt_dt]
  exact et_tupleL (lt_dt (K := K) ds ▸ h)
/-- tuple(an owned list) -/
theorem et_tupleO {j : Nat} {l : Addr} (hm : M[j]? = some (l, lstC Ts)) (h : ET te Γ M (VT (.ref l))) : ET (tThen te (kTup K)) Γ M (TupT K Ts) := fun O σ I H Q e h0 q =>
  h O σ I H _ e h0 fun v I1 H1 e1 h1 a => by
    cases a
    obtain ⟨_, _, o, ho, us, rfl, hu⟩ := h1.at_ _ (List.mem_of_getElem? hm)
    refine .inl ⟨l, us, rfl, SqL.of ho, fun t ht => ?_⟩
    obtain ⟨e2, h2⟩ := h1.new_ (o := .tup us) ht
    exact q _ _ _ (e1.trans e2) h2 ⟨t, us, rfl, SqT.of upd_same, hu.mono e2⟩
/-- list(range(n)) -/
theorem et_listRg {n : Nat} (h : ET te Γ M (DT K (.int (n : Nat)))) (hn : n ≤ 1000) : ET (tLstRg (tRg1 te)) Γ M (DT K (.list ((List.range n).map fun i => PyData.int (i : Nat)))) := fun O σ I H Q e h0 q =>
  h O σ I H _ e h0 fun v I1 H1 e1 h1 a => ⟨(n : Int), dt_int a, ⟨by omega, by omega, by omega, by omega, by omega⟩, fun t ht => by
    obtain ⟨e2, h2⟩ := h1.new_ (o := .lst (rgV 0 n)) ht
    refine q _ _ _ (e1.trans e2) h2 (.lst upd_same ?_)
    unfold rgV
    rw [show ((n : Int) - 0).toNat = n by omega]
    have z : ∀ l : List Nat, DqAll K (upd I1 t (.lst ((List.range n).map fun i => V.int (0 + ((i : Nat) : Int))))) (l.map fun i => V.int (0 + ((i : Nat) : Int))) (l.map fun i => PyData.int (i : Nat)) := by
      intro l
      induction l with
      | nil => exact .nil
      | cons i l ih =>
        rw [List.map_cons, List.map_cons]
        refine .cons ?_ ih
        rw [Int.zero_add]
        exact .int _
    exact z _⟩
/-- list(a tuple or a list): a new list, ours -/
def rListO (K : PySem.W.Frag) : List V → Hp → VK → Prop := fun xs H Q => ∃ p ys, xs = [.ref p] ∧ (SqL K H p ys ∨ SqT K H p ys) ∧ ∀ l, H l = none → Q (.ref l) (upd H l (.lst ys))
theorem call_listO {X : Cx} : CallR X (.type "list") (rListO X.K) := call_list_of
theorem ew_listT {O : Org} {N : Ty → Mem → Prop} (h : EA ts Γ M [TupT K Ts]) (k : ∀ l, O.H0 l = none → N (VT (.ref l)) ((l, lstC Ts) :: M)) : EW (tCB (rListO K) ts) O Γ M N := fun σ I H Q e h0 q =>
  h O σ I H _ e h0 fun vs I1 H1 e1 h1 a => by
    cases a with
    | cons a t =>
      cases t
      obtain ⟨p, us, rfl, hp, hu⟩ := a
      refine ⟨p, us, rfl, .inr (ex_t h1.ex hp), fun l hl => ?_⟩
      obtain ⟨z, h2⟩ := h1.own (o := .lst us) (lstC Ts) hl ⟨us, rfl, hu⟩
      exact q _ _ _ _ _ (k l z) e1 h2 rfl
theorem cx_list1 : CX' (rListO K) M [LstT Ts] (LstT Ts) := fun O I H xs Q h0 a q => by
  cases a with
  | cons a t =>
    cases t
    obtain ⟨p, us, rfl, hp, hu⟩ := a
    refine ⟨p, us, rfl, .inl (SqL.of (h0.ex _ _ hp)), fun l hl => ?_⟩
    obtain ⟨e2, h2⟩ := h0.new_ (o := .lst us) hl
    exact q _ _ _ e2 h2 ⟨l, us, rfl, upd_same, hu.mono e2⟩
def rMin2 : List V → Hp → VK → Prop := fun xs H Q => ∃ i j, xs = [.int i, .int j] ∧ Q (.int (if j < i then j else i)) H
theorem call_min2' {X : Cx} (hc : X.calm = true) : CallR X (.builtin "min") rMin2 := call_min2 hc
theorem cx_min {i j : Int} : CX' rMin2 M [DT K (.int i), DT K (.int j)] (DT K (.int (if j < i then j else i))) := fun O I H xs Q h0 a q => by
  cases a with
  | cons a t =>
    cases t with
    | cons b t =>
      cases t
      cases dt_int a
      cases dt_int b
      exact ⟨i, j, rfl, q _ I H (Evl.Ex.refl I) h0 (.int _)⟩
def rInt1 : List V → Hp → VK → Prop := fun xs H Q => (∃ i, xs = [.int i] ∧ Q (.int i) H) ∨ ∃ k, xs = [.bl k] ∧ Q (.int (if k then 1 else 0)) H
theorem call_int1' {X : Cx} : CallR X (.type "int") rInt1 := call_int1
theorem cx_int {i : Int} : CX' rInt1 M [DT K (.int i)] (DT K (.int i)) := fun O I H xs Q h0 a q => by
  cases a with
  | cons a t =>
    cases t
    cases dt_int a
    exact .inl ⟨i, rfl, q _ I H (Evl.Ex.refl I) h0 (.int _)⟩
theorem cx_intB {b : Bool} : CX' rInt1 M [DT K (.bool b)] (DT K (.int (if b then 1 else 0))) := fun O I H xs Q h0 a q => by
  cases a with
  | cons a t =>
    cases t
    cases dt_bl a
    exact .inr ⟨b, rfl, q _ I H (Evl.Ex.refl I) h0 (.int _)⟩
def rStrI : List V → Hp → VK → Prop := fun xs H Q => ∃ i, xs = [.int i] ∧ i.natAbs.log2 < 1920 ∧ Q (.str (toString i)) H
theorem call_strI {X : Cx} : CallR X (.type "str") rStrI := call_str_int
theorem cx_strI {i : Int} (h : i.natAbs.log2 < 1920) : CX' rStrI M [DT K (.int i)] (DT K (.str (toString i))) := fun O I H xs Q h0 a q => by
  cases a with
  | cons a t =>
    cases t
    cases dt_int a
    exact ⟨i, rfl, h, q _ I H (Evl.Ex.refl I) h0 (.str _)⟩
/-- isinstance of data -/
def tyD : PyData → String
  | .none => "NoneType"
  | .bool _ => "bool"
  | .int _ => "int"
  | .str _ => "str"
  | .list _ => "list"
  | .tuple _ => "tuple"
  | .dict _ => "dict"
end
end Tw
end
/-! TwTx -/
section
set_option Elab.async false
set_option linter.all false
set_option autoImplicit false
set_option maxRecDepth 100000
namespace Tw
open PySem PySem.Spec PyProof.Rows L2
structure Tx (K : PySem.W.Frag) (mg : PySem.Str → Option Value) : Prop where
  says : Says K
  heap : ∃ h, K.In h ∧ h.Ns mainGlobals mg
section
variable {K : PySem.W.Frag} {mg : PySem.Str → Option Value}
theorem Tx.ok (T : Tx K mg) (i : Nat) {f : Fb} (h : fbs[i]? = some f) : f.ok K = true := T.says.fact (List.mem_of_getElem? h)
theorem Tx.glo (T : Tx K mg) (i : Nat) {x : PySem.Str} {a : Addr} (h : fbs[i]? = some (.glo x a)) : mg x = some (.ref a) := by
  obtain ⟨_, hK, G⟩ := T.heap
  exact fglo hK G (T.ok i h)
theorem Tx.fre (T : Tx K mg) (i : Nat) {x : PySem.Str} (h : fbs[i]? = some (.free x)) : mg x = none := by
  obtain ⟨_, hK, G⟩ := T.heap
  exact ffree hK G (T.ok i h)
theorem Tx.int (T : Tx K mg) (i : Nat) {x : PySem.Str} {n : Int} (h : fbs[i]? = some (.int x n)) : ∃ t, mg x = some (.int n t) := by
  obtain ⟨_, hK, G⟩ := T.heap
  have c := T.ok i h
  simp only [Fb.ok] at c
  split at c
  · rename_i j t e
    have e2 := of_decide_eq_true c
    subst e2
    exact ⟨t, PySem.W.mg_of hK G e⟩
  · cases c
theorem relAll_ok : ∀ {vs : List V} {us : List Value}, He.relAll vs us = true → Vals vs us := by
  intro vs us h
  exact He.relAll_ok h
theorem Tx.tup (T : Tx K mg) (i : Nat) {x : PySem.Str} {vs : List V} (h : fbs[i]? = some (.tup x vs)) : ∃ a, mg x = some (.ref a) ∧ (∀ H, SqT K H a vs) := by
  obtain ⟨_, hK, G⟩ := T.heap
  have c := T.ok i h
  simp only [Fb.ok] at c
  split at c
  · rename_i a e
    refine ⟨a, PySem.W.mg_of hK G e, ?_⟩
    split at c
    · rename_i cl dd its n sl lk
      obtain ⟨c1, c2⟩ := He.ba c
      obtain ⟨c2, c3⟩ := He.ba c2
      have e1 := of_decide_eq_true c1
      subst e1
      have r := relAll_ok c3
      have hs := of_decide_eq_true c2
      exact fun H => Or.inr ⟨_, its, n, lk, rfl, rfl, hs, r⟩
    · cases c
  · cases c
theorem Tx.cls (T : Tx K mg) (i : Nat) {C : Addr} (h : fbs[i]? = some (.cls C)) : Cls K C := by
  obtain ⟨a, b⟩ := He.ba (T.ok i h)
  obtain ⟨b, c⟩ := He.ba b
  obtain ⟨c, d⟩ := He.ba c
  exact ⟨a, b, c, He.eqO_ok d⟩
theorem Tx.noat (T : Tx K mg) (i : Nat) {C : Addr} {f : PySem.Str} (h : fbs[i]? = some (.noat C f)) : NoAttr K C f := He.eqO_ok (T.ok i h)
theorem Tx.meth (T : Tx K mg) (i : Nat) {C f : Addr} {m : PySem.Str} (h : fbs[i]? = some (.meth C m f)) : Meth K C m f := by
  obtain ⟨a, b⟩ := He.ba (T.ok i h)
  obtain ⟨b, c⟩ := He.ba b
  exact ⟨He.eqO_ok a, b, c⟩
theorem Tx.mkr (T : Tx K mg) (i : Nat) {C f : Addr} (h : fbs[i]? = some (.mkr C f)) : Mk K C f := by
  obtain ⟨a, b⟩ := He.ba (T.ok i h)
  obtain ⟨b, c⟩ := He.ba b
  obtain ⟨c, d⟩ := He.ba c
  exact ⟨a, He.eqO_ok b, c, d⟩
theorem Tx.prop (T : Tx K mg) (i : Nat) {C g : Addr} {f : PySem.Str} (h : fbs[i]? = some (.prop C f g)) : ∃ p, PropOf K C f p g := by
  obtain ⟨a, b⟩ := He.ba (T.ok i h)
  obtain ⟨b, c⟩ := He.ba b
  obtain ⟨c, d⟩ := He.ba c
  refine ⟨adOf (PySem.W.findIn K (.ref C) f), He.eqO_ok a, He.eqO_ok b, of_decide_eq_true c, ?_⟩
  split at d
  · rename_i hh rest e
    have e2 := of_decide_eq_true d
    subst e2
    exact ⟨rest, e⟩
  · cases d
structure InstOf (K : PySem.W.Frag) (C : Addr) : Prop where
  cl : PySem.W.findIn K (.ref C) "__class__" = some (some (.builtin "object.__class__"))
  get : PySem.W.specialIn K (.builtin "object.__class__") "__get__" = some (some (.builtin "getset_descriptor.__get__"))
  tak : PySem.W.takesIn K (.builtin "object.__class__") = some true
  mro : PySem.W.mroIn K C (.type "object") = some true
  kit : PySem.W.kitOne K (.ref C) (.ref C) = some true
  ne : PySem.W.findIn K (.ref C) "__ne__" = some (some (.builtin "object.__ne__"))
theorem Tx.inst (T : Tx K mg) (i : Nat) {C : Addr} (h : fbs[i]? = some (.inst C)) : InstOf K C := by
  obtain ⟨a, b⟩ := He.ba (T.ok i h)
  obtain ⟨b, c⟩ := He.ba b
  obtain ⟨c, d⟩ := He.ba c
  obtain ⟨d, e⟩ := He.ba d
  obtain ⟨e, f⟩ := He.ba e
  obtain ⟨f, _⟩ := He.ba f
  exact ⟨He.eqO_ok a, He.eqO_ok b, of_decide_eq_true c, of_decide_eq_true d, of_decide_eq_true e, He.eqO_ok f⟩
theorem Tx.g_is_integer (T : Tx K mg) : mg "is_integer" = some (.ref ais_integer) := T.glo 0 rfl
theorem Tx.g_need_number (T : Tx K mg) : mg "need_number" = some (.ref aneed_number) := T.glo 1 rfl
theorem Tx.g_are_states (T : Tx K mg) : mg "are_states" = some (.ref aare_states) := T.glo 2 rfl
theorem Tx.g_mask_of (T : Tx K mg) : mg "mask_of" = some (.ref amask_of) := T.glo 3 rfl
theorem Tx.g_set_of (T : Tx K mg) : mg "set_of" = some (.ref aset_of) := T.glo 4 rfl
theorem Tx.g_upset_of (T : Tx K mg) : mg "upset_of" = some (.ref aupset_of) := T.glo 5 rfl
theorem Tx.g_is_least (T : Tx K mg) : mg "is_least" = some (.ref ais_least) := T.glo 6 rfl
theorem Tx.g_least_of (T : Tx K mg) : mg "least_of" = some (.ref aleast_of) := T.glo 7 rfl
theorem Tx.g_are_sets (T : Tx K mg) : mg "are_sets" = some (.ref aare_sets) := T.glo 8 rfl
theorem Tx.g_all_sets (T : Tx K mg) : mg "all_sets" = some (.ref aall_sets) := T.glo 9 rfl
theorem Tx.g_need_contract (T : Tx K mg) : mg "need_contract" = some (.ref aneed_contract) := T.glo 10 rfl
theorem Tx.g_need_state_of (T : Tx K mg) : mg "need_state_of" = some (.ref aneed_state_of) := T.glo 11 rfl
theorem Tx.g_need_alike (T : Tx K mg) : mg "need_alike" = some (.ref aneed_alike) := T.glo 12 rfl
theorem Tx.g_is_within (T : Tx K mg) : mg "is_within" = some (.ref ais_within) := T.glo 13 rfl
theorem Tx.g_notation_of (T : Tx K mg) : mg "notation_of" = some (.ref anotation_of) := T.glo 14 rfl
theorem Tx.g_is_around (T : Tx K mg) : mg "is_around" = some (.ref ais_around) := T.glo 15 rfl
theorem Tx.g_is_table (T : Tx K mg) : mg "is_table" = some (.ref ais_table) := T.glo 16 rfl
theorem Tx.g_is_form (T : Tx K mg) : mg "is_form" = some (.ref ais_form) := T.glo 17 rfl
theorem Tx.g_texts_in (T : Tx K mg) : mg "texts_in" = some (.ref atexts_in) := T.glo 18 rfl
theorem Tx.g_wrong_place (T : Tx K mg) : mg "wrong_place" = some (.ref awrong_place) := T.glo 19 rfl
theorem Tx.g_first_wrong (T : Tx K mg) : mg "first_wrong" = some (.ref afirst_wrong) := T.glo 20 rfl
theorem Tx.g_places_from (T : Tx K mg) : mg "places_from" = some (.ref aplaces_from) := T.glo 21 rfl
theorem Tx.g_places_of (T : Tx K mg) : mg "places_of" = some (.ref aplaces_of) := T.glo 22 rfl
theorem Tx.g_is_small (T : Tx K mg) : mg "is_small" = some (.ref ais_small) := T.glo 23 rfl
theorem Tx.g_is_system (T : Tx K mg) : mg "is_system" = some (.ref ais_system) := T.glo 24 rfl
theorem Tx.g_are_parts_of (T : Tx K mg) : mg "are_parts_of" = some (.ref aare_parts_of) := T.glo 25 rfl
theorem Tx.g_need_system (T : Tx K mg) : mg "need_system" = some (.ref aneed_system) := T.glo 26 rfl
theorem Tx.g_need_parts (T : Tx K mg) : mg "need_parts" = some (.ref aneed_parts) := T.glo 27 rfl
theorem Tx.g_need_name (T : Tx K mg) : mg "need_name" = some (.ref aneed_name) := T.glo 28 rfl
theorem Tx.g_need_word (T : Tx K mg) : mg "need_word" = some (.ref aneed_word) := T.glo 29 rfl
theorem Tx.g_flat_table (T : Tx K mg) : mg "flat_table" = some (.ref aflat_table) := T.glo 30 rfl
theorem Tx.g_go_table (T : Tx K mg) : mg "go_table" = some (.ref ago_table) := T.glo 31 rfl
theorem Tx.g_contract_table (T : Tx K mg) : mg "contract_table" = some (.ref acontract_table) := T.glo 32 rfl
theorem Tx.g_behind (T : Tx K mg) : mg "behind" = some (.ref abehind) := T.glo 33 rfl
theorem Tx.g_joint_table (T : Tx K mg) : mg "joint_table" = some (.ref ajoint_table) := T.glo 34 rfl
theorem Tx.g_raw_rounds (T : Tx K mg) : mg "raw_rounds" = some (.ref araw_rounds) := T.glo 35 rfl
theorem Tx.g_contract_of (T : Tx K mg) : mg "contract_of" = some (.ref acontract_of) := T.glo 36 rfl
theorem Tx.g_raw_value (T : Tx K mg) : mg "raw_value" = some (.ref araw_value) := T.glo 37 rfl
theorem Tx.g_value_of (T : Tx K mg) : mg "value_of" = some (.ref avalue_of) := T.glo 38 rfl
theorem Tx.g_text_of_set (T : Tx K mg) : mg "text_of_set" = some (.ref atext_of_set) := T.glo 39 rfl
theorem Tx.g_text_of_family (T : Tx K mg) : mg "text_of_family" = some (.ref atext_of_family) := T.glo 40 rfl
theorem Tx.g_written (T : Tx K mg) : mg "written" = some (.ref awritten) := T.glo 41 rfl
theorem Tx.g_L_spread (T : Tx K mg) : mg "_law_spread" = some (.ref aL_spread) := T.glo 42 rfl
theorem Tx.g_L_open (T : Tx K mg) : mg "_law_open" = some (.ref aL_open) := T.glo 43 rfl
theorem Tx.g_L_take (T : Tx K mg) : mg "_law_take" = some (.ref aL_take) := T.glo 44 rfl
theorem Tx.g_L_v_pick (T : Tx K mg) : mg "_law_v_pick" = some (.ref aL_v_pick) := T.glo 45 rfl
theorem Tx.g_L_v_sets (T : Tx K mg) : mg "_law_v_sets" = some (.ref aL_v_sets) := T.glo 46 rfl
theorem Tx.g_L_v_is_in (T : Tx K mg) : mg "_law_v_is_in" = some (.ref aL_v_is_in) := T.glo 47 rfl
theorem Tx.g_L_v_family (T : Tx K mg) : mg "_law_v_family" = some (.ref aL_v_family) := T.glo 48 rfl
theorem Tx.g_L_v_pairs (T : Tx K mg) : mg "_law_v_pairs" = some (.ref aL_v_pairs) := T.glo 49 rfl
theorem Tx.g_L_v_some_sets (T : Tx K mg) : mg "_law_v_some_sets" = some (.ref aL_v_some_sets) := T.glo 50 rfl
theorem Tx.g_L_v_part_rows (T : Tx K mg) : mg "_law_v_part_rows" = some (.ref aL_v_part_rows) := T.glo 51 rfl
theorem Tx.g_L_v_leaf (T : Tx K mg) : mg "_law_v_leaf" = some (.ref aL_v_leaf) := T.glo 52 rfl
theorem Tx.g_L_v_text (T : Tx K mg) : mg "_law_v_text" = some (.ref aL_v_text) := T.glo 53 rfl
theorem Tx.g_L_v_system (T : Tx K mg) : mg "_law_v_system" = some (.ref aL_v_system) := T.glo 54 rfl
theorem Tx.g_L_v_texts_in (T : Tx K mg) : mg "_law_v_texts_in" = some (.ref aL_v_texts_in) := T.glo 55 rfl
theorem Tx.g_L_v_text_at (T : Tx K mg) : mg "_law_v_text_at" = some (.ref aL_v_text_at) := T.glo 56 rfl
theorem Tx.g_L_v_truths (T : Tx K mg) : mg "_law_v_truths" = some (.ref aL_v_truths) := T.glo 57 rfl
theorem Tx.g_L_v_all (T : Tx K mg) : mg "_law_v_all" = some (.ref aL_v_all) := T.glo 58 rfl
theorem Tx.g_L_v_then (T : Tx K mg) : mg "_law_v_then" = some (.ref aL_v_then) := T.glo 59 rfl
theorem Tx.g_L_v_round (T : Tx K mg) : mg "_law_v_round" = some (.ref aL_v_round) := T.glo 60 rfl
theorem Tx.g_L_v_rounds (T : Tx K mg) : mg "_law_v_rounds" = some (.ref aL_v_rounds) := T.glo 61 rfl
theorem Tx.g_L_v_contract (T : Tx K mg) : mg "_law_v_contract" = some (.ref aL_v_contract) := T.glo 62 rfl
theorem Tx.g_L_v_places (T : Tx K mg) : mg "_law_v_places" = some (.ref aL_v_places) := T.glo 63 rfl
theorem Tx.g_L_v_put (T : Tx K mg) : mg "_law_v_put" = some (.ref aL_v_put) := T.glo 64 rfl
theorem Tx.g_L_v_values (T : Tx K mg) : mg "_law_v_values" = some (.ref aL_v_values) := T.glo 65 rfl
theorem Tx.g_L_v_as_had (T : Tx K mg) : mg "_law_v_as_had" = some (.ref aL_v_as_had) := T.glo 66 rfl
theorem Tx.g_L_v_replaced_right (T : Tx K mg) : mg "_law_v_replaced_right" = some (.ref aL_v_replaced_right) := T.glo 67 rfl
theorem Tx.g_L_v_more_right (T : Tx K mg) : mg "_law_v_more_right" = some (.ref aL_v_more_right) := T.glo 68 rfl
theorem Tx.g_law (T : Tx K mg) : mg "law" = some (.ref alaw) := T.glo 69 rfl
theorem Tx.g_Contract (T : Tx K mg) : mg "Contract" = some (.ref 478) := T.glo 70 rfl
theorem Tx.g_Tables (T : Tx K mg) : mg "Tables" = some (.ref 766) := T.glo 71 rfl
theorem Tx.f_isinstance (T : Tx K mg) : mg "isinstance" = none := T.fre 72 rfl
theorem Tx.f_all (T : Tx K mg) : mg "all" = none := T.fre 73 rfl
theorem Tx.f_len (T : Tx K mg) : mg "len" = none := T.fre 74 rfl
theorem Tx.f_zip (T : Tx K mg) : mg "zip" = none := T.fre 75 rfl
theorem Tx.f_sum (T : Tx K mg) : mg "sum" = none := T.fre 76 rfl
theorem Tx.f_tuple (T : Tx K mg) : mg "tuple" = none := T.fre 77 rfl
theorem Tx.f_range (T : Tx K mg) : mg "range" = none := T.fre 78 rfl
theorem Tx.f_any (T : Tx K mg) : mg "any" = none := T.fre 79 rfl
theorem Tx.f_sorted (T : Tx K mg) : mg "sorted" = none := T.fre 80 rfl
theorem Tx.f_str (T : Tx K mg) : mg "str" = none := T.fre 81 rfl
theorem Tx.f_enumerate (T : Tx K mg) : mg "enumerate" = none := T.fre 82 rfl
theorem Tx.f_list (T : Tx K mg) : mg "list" = none := T.fre 83 rfl
theorem Tx.f_int (T : Tx K mg) : mg "int" = none := T.fre 84 rfl
theorem Tx.f_min (T : Tx K mg) : mg "min" = none := T.fre 85 rfl
theorem Tx.f_dict (T : Tx K mg) : mg "dict" = none := T.fre 86 rfl
theorem Tx.f_bool (T : Tx K mg) : mg "bool" = none := T.fre 87 rfl
theorem Tx.i_MOST_STATES (T : Tx K mg) : ∃ t, mg "MOST_STATES" = some (.int 4 t) := T.int 88 rfl
theorem Tx.i_MOST_SETS (T : Tx K mg) : ∃ t, mg "MOST_SETS" = some (.int 40 t) := T.int 89 rfl
theorem Tx.i_MOST_PARTS (T : Tx K mg) : ∃ t, mg "MOST_PARTS" = some (.int 3 t) := T.int 90 rfl
theorem Tx.i_MOST_TEXTS (T : Tx K mg) : ∃ t, mg "MOST_TEXTS" = some (.int 4 t) := T.int 91 rfl
theorem Tx.i_MOST_CHOICES (T : Tx K mg) : ∃ t, mg "MOST_CHOICES" = some (.int 6 t) := T.int 92 rfl
theorem Tx.i_MOST_DEEP (T : Tx K mg) : ∃ t, mg "MOST_DEEP" = some (.int 6 t) := T.int 93 rfl
theorem Tx.i_MOST_PLACES (T : Tx K mg) : ∃ t, mg "MOST_PLACES" = some (.int 100 t) := T.int 94 rfl
theorem Tx.t_POWERS (T : Tx K mg) : ∃ a, mg "POWERS" = some (.ref a) ∧ ∀ H, SqT K H a [.int 1, .int 2, .int 4, .int 8] := T.tup 95 rfl
theorem Tx.t_SIZES (T : Tx K mg) : ∃ a, mg "SIZES" = some (.ref a) ∧ ∀ H, SqT K H a [.int 1, .int 2, .int 4, .int 8, .int 16] := T.tup 96 rfl
theorem Tx.t_SIDES (T : Tx K mg) : ∃ a, mg "SIDES" = some (.ref a) ∧ ∀ H, SqT K H a [.str "we", .str "they"] := T.tup 97 rfl
theorem Tx.c_Contract (T : Tx K mg) : Cls K 478 := T.cls 98 rfl
theorem Tx.k_Contract (T : Tx K mg) : Mk K 478 aContract___init__ := T.mkr 99 rfl
theorem Tx.n_Contract_width (T : Tx K mg) : NoAttr K 478 "width" := T.noat 100 rfl
theorem Tx.n_Contract_rows (T : Tx K mg) : NoAttr K 478 "rows" := T.noat 101 rfl
theorem Tx.m_Contract___init__ (T : Tx K mg) : Meth K 478 "__init__" aContract___init__ := T.meth 102 rfl
theorem Tx.m_Contract___getitem__ (T : Tx K mg) : Meth K 478 "__getitem__" aContract___getitem__ := T.meth 103 rfl
theorem Tx.m_Contract___contains__ (T : Tx K mg) : Meth K 478 "__contains__" aContract___contains__ := T.meth 104 rfl
theorem Tx.m_Contract___str__ (T : Tx K mg) : Meth K 478 "__str__" aContract___str__ := T.meth 105 rfl
theorem Tx.m_Contract___eq__ (T : Tx K mg) : Meth K 478 "__eq__" aContract___eq__ := T.meth 106 rfl
theorem Tx.m_Contract_within (T : Tx K mg) : Meth K 478 "within" aContract_within := T.meth 107 rfl
theorem Tx.p_Contract_states (T : Tx K mg) : ∃ p, PropOf K 478 "states" p aContract_states := T.prop 108 rfl
theorem Tx.p_Contract_ends (T : Tx K mg) : ∃ p, PropOf K 478 "ends" p aContract_ends := T.prop 109 rfl
theorem Tx.c_Tables (T : Tx K mg) : Cls K 766 := T.cls 110 rfl
theorem Tx.k_Tables (T : Tx K mg) : Mk K 766 aTables___init__ := T.mkr 111 rfl
theorem Tx.n_Tables_system (T : Tx K mg) : NoAttr K 766 "system" := T.noat 112 rfl
theorem Tx.n_Tables_parts (T : Tx K mg) : NoAttr K 766 "parts" := T.noat 113 rfl
theorem Tx.n_Tables_calls (T : Tx K mg) : NoAttr K 766 "calls" := T.noat 114 rfl
theorem Tx.n_Tables_at (T : Tx K mg) : NoAttr K 766 "at" := T.noat 115 rfl
theorem Tx.m_Tables___init__ (T : Tx K mg) : Meth K 766 "__init__" aTables___init__ := T.meth 116 rfl
theorem Tx.m_Tables_lay (T : Tx K mg) : Meth K 766 "lay" aTables_lay := T.meth 117 rfl
theorem Tx.m_Tables_roots (T : Tx K mg) : Meth K 766 "roots" aTables_roots := T.meth 118 rfl
theorem Tx.x_Contract (T : Tx K mg) : InstOf K 478 := T.inst 119 rfl
end
theorem bt_isinstance : bootBuiltins "isinstance" = some (.builtin "isinstance") := by decide +kernel
theorem bt_all : bootBuiltins "all" = some (.builtin "all") := by decide +kernel
theorem bt_len : bootBuiltins "len" = some (.builtin "len") := by decide +kernel
theorem bt_sum : bootBuiltins "sum" = some (.builtin "sum") := by decide +kernel
theorem bt_any : bootBuiltins "any" = some (.builtin "any") := by decide +kernel
theorem bt_sorted : bootBuiltins "sorted" = some (.builtin "sorted") := by decide +kernel
theorem bt_min : bootBuiltins "min" = some (.builtin "min") := by decide +kernel
theorem bt_tuple : bootBuiltins "tuple" = some (.type "tuple") := by decide +kernel
theorem bt_zip : bootBuiltins "zip" = some (.type "zip") := by decide +kernel
theorem bt_range : bootBuiltins "range" = some (.type "range") := by decide +kernel
theorem bt_str : bootBuiltins "str" = some (.type "str") := by decide +kernel
theorem bt_enumerate : bootBuiltins "enumerate" = some (.type "enumerate") := by decide +kernel
theorem bt_list : bootBuiltins "list" = some (.type "list") := by decide +kernel
theorem bt_int : bootBuiltins "int" = some (.type "int") := by decide +kernel
theorem bt_dict : bootBuiltins "dict" = some (.type "dict") := by decide +kernel
theorem bt_bool : bootBuiltins "bool" = some (.type "bool") := by decide +kernel
def N_is_integer : List PySem.Str := [("thing" : PySem.Str), ("least" : PySem.Str), ("most" : PySem.Str)]
def P_is_integer : List PySem.Str := [("thing" : PySem.Str), ("least" : PySem.Str), ("most" : PySem.Str)]
theorem sc_is_integer : FnScope N_is_integer P_is_integer (defScope sis_integer) := ⟨rfl, rfl, rfl, by decide +kernel, rfl, by decide +kernel, by decide +kernel⟩
theorem Tx.d_is_integer {K : PySem.W.Frag} {mg : PySem.Str → Option Value} (T : Tx K mg) : FunD K "is_integer" "is_integer" (defArgs sis_integer) (defBody sis_integer) (defScope sis_integer) [] [] ais_integer (fdAt K ais_integer) := T.says.def_ 0 rfl
theorem Tx.b_is_integer {K : PySem.W.Frag} {mg : PySem.Str → Option Value} (T : Tx K mg) : Binds K (fdAt K ais_integer) P_is_integer [] := T.d_is_integer.bindsN fun _ _ _ _ _ _ us hl => match us, hl with | [_, _, _], _ => rfl
def N_need_number : List PySem.Str := [("n" : PySem.Str)]
def P_need_number : List PySem.Str := [("n" : PySem.Str)]
theorem sc_need_number : FnScope N_need_number P_need_number (defScope sneed_number) := ⟨rfl, rfl, rfl, by decide +kernel, rfl, by decide +kernel, by decide +kernel⟩
theorem Tx.d_need_number {K : PySem.W.Frag} {mg : PySem.Str → Option Value} (T : Tx K mg) : FunD K "need_number" "need_number" (defArgs sneed_number) (defBody sneed_number) (defScope sneed_number) [] [] aneed_number (fdAt K aneed_number) := T.says.def_ 1 rfl
theorem Tx.b_need_number {K : PySem.W.Frag} {mg : PySem.Str → Option Value} (T : Tx K mg) : Binds K (fdAt K aneed_number) P_need_number [] := T.d_need_number.bindsN fun _ _ _ _ _ _ us hl => match us, hl with | [_], _ => rfl
def N_are_states : List PySem.Str := [("n" : PySem.Str), ("thing" : PySem.Str), ("one" : PySem.Str), ("other" : PySem.Str)]
def P_are_states : List PySem.Str := [("n" : PySem.Str), ("thing" : PySem.Str)]
theorem sc_are_states : FnScope N_are_states P_are_states (defScope sare_states) := ⟨rfl, rfl, rfl, by decide +kernel, rfl, by decide +kernel, by decide +kernel⟩
theorem Tx.d_are_states {K : PySem.W.Frag} {mg : PySem.Str → Option Value} (T : Tx K mg) : FunD K "are_states" "are_states" (defArgs sare_states) (defBody sare_states) (defScope sare_states) [] [] aare_states (fdAt K aare_states) := T.says.def_ 2 rfl
theorem Tx.b_are_states {K : PySem.W.Frag} {mg : PySem.Str → Option Value} (T : Tx K mg) : Binds K (fdAt K aare_states) P_are_states [] := T.d_are_states.bindsN fun _ _ _ _ _ _ us hl => match us, hl with | [_, _], _ => rfl
def N_mask_of : List PySem.Str := [("x" : PySem.Str), ("t" : PySem.Str)]
def P_mask_of : List PySem.Str := [("x" : PySem.Str)]
theorem sc_mask_of : FnScope N_mask_of P_mask_of (defScope smask_of) := ⟨rfl, rfl, rfl, by decide +kernel, rfl, by decide +kernel, by decide +kernel⟩
theorem Tx.d_mask_of {K : PySem.W.Frag} {mg : PySem.Str → Option Value} (T : Tx K mg) : FunD K "mask_of" "mask_of" (defArgs smask_of) (defBody smask_of) (defScope smask_of) [] [] amask_of (fdAt K amask_of) := T.says.def_ 3 rfl
theorem Tx.b_mask_of {K : PySem.W.Frag} {mg : PySem.Str → Option Value} (T : Tx K mg) : Binds K (fdAt K amask_of) P_mask_of [] := T.d_mask_of.bindsN fun _ _ _ _ _ _ us hl => match us, hl with | [_], _ => rfl
def N_set_of : List PySem.Str := [("n" : PySem.Str), ("mask" : PySem.Str), ("t" : PySem.Str)]
def P_set_of : List PySem.Str := [("n" : PySem.Str), ("mask" : PySem.Str)]
theorem sc_set_of : FnScope N_set_of P_set_of (defScope sset_of) := ⟨rfl, rfl, rfl, by decide +kernel, rfl, by decide +kernel, by decide +kernel⟩
theorem Tx.d_set_of {K : PySem.W.Frag} {mg : PySem.Str → Option Value} (T : Tx K mg) : FunD K "set_of" "set_of" (defArgs sset_of) (defBody sset_of) (defScope sset_of) [] [] aset_of (fdAt K aset_of) := T.says.def_ 4 rfl
theorem Tx.b_set_of {K : PySem.W.Frag} {mg : PySem.Str → Option Value} (T : Tx K mg) : Binds K (fdAt K aset_of) P_set_of [] := T.d_set_of.bindsN fun _ _ _ _ _ _ us hl => match us, hl with | [_, _], _ => rfl
def N_upset_of : List PySem.Str := [("n" : PySem.Str), ("some" : PySem.Str), ("one" : PySem.Str), ("mask" : PySem.Str)]
def P_upset_of : List PySem.Str := [("n" : PySem.Str), ("some" : PySem.Str)]
theorem sc_upset_of : FnScope N_upset_of P_upset_of (defScope supset_of) := ⟨rfl, rfl, rfl, by decide +kernel, rfl, by decide +kernel, by decide +kernel⟩
theorem Tx.d_upset_of {K : PySem.W.Frag} {mg : PySem.Str → Option Value} (T : Tx K mg) : FunD K "upset_of" "upset_of" (defArgs supset_of) (defBody supset_of) (defScope supset_of) [] [] aupset_of (fdAt K aupset_of) := T.says.def_ 5 rfl
theorem Tx.b_upset_of {K : PySem.W.Frag} {mg : PySem.Str → Option Value} (T : Tx K mg) : Binds K (fdAt K aupset_of) P_upset_of [] := T.d_upset_of.bindsN fun _ _ _ _ _ _ us hl => match us, hl with | [_, _], _ => rfl
def N_is_least : List PySem.Str := [("n" : PySem.Str), ("row" : PySem.Str), ("mask" : PySem.Str), ("t" : PySem.Str)]
def P_is_least : List PySem.Str := [("n" : PySem.Str), ("row" : PySem.Str), ("mask" : PySem.Str)]
theorem sc_is_least : FnScope N_is_least P_is_least (defScope sis_least) := ⟨rfl, rfl, rfl, by decide +kernel, rfl, by decide +kernel, by decide +kernel⟩
theorem Tx.d_is_least {K : PySem.W.Frag} {mg : PySem.Str → Option Value} (T : Tx K mg) : FunD K "is_least" "is_least" (defArgs sis_least) (defBody sis_least) (defScope sis_least) [] [] ais_least (fdAt K ais_least) := T.says.def_ 6 rfl
theorem Tx.b_is_least {K : PySem.W.Frag} {mg : PySem.Str → Option Value} (T : Tx K mg) : Binds K (fdAt K ais_least) P_is_least [] := T.d_is_least.bindsN fun _ _ _ _ _ _ us hl => match us, hl with | [_, _, _], _ => rfl
def N_least_of : List PySem.Str := [("n" : PySem.Str), ("row" : PySem.Str), ("mask" : PySem.Str)]
def P_least_of : List PySem.Str := [("n" : PySem.Str), ("row" : PySem.Str)]
theorem sc_least_of : FnScope N_least_of P_least_of (defScope sleast_of) := ⟨rfl, rfl, rfl, by decide +kernel, rfl, by decide +kernel, by decide +kernel⟩
theorem Tx.d_least_of {K : PySem.W.Frag} {mg : PySem.Str → Option Value} (T : Tx K mg) : FunD K "least_of" "least_of" (defArgs sleast_of) (defBody sleast_of) (defScope sleast_of) [] [] aleast_of (fdAt K aleast_of) := T.says.def_ 7 rfl
theorem Tx.b_least_of {K : PySem.W.Frag} {mg : PySem.Str → Option Value} (T : Tx K mg) : Binds K (fdAt K aleast_of) P_least_of [] := T.d_least_of.bindsN fun _ _ _ _ _ _ us hl => match us, hl with | [_, _], _ => rfl
def N_are_sets : List PySem.Str := [("n" : PySem.Str), ("thing" : PySem.Str), ("one" : PySem.Str)]
def P_are_sets : List PySem.Str := [("n" : PySem.Str), ("thing" : PySem.Str)]
theorem sc_are_sets : FnScope N_are_sets P_are_sets (defScope sare_sets) := ⟨rfl, rfl, rfl, by decide +kernel, rfl, by decide +kernel, by decide +kernel⟩
theorem Tx.d_are_sets {K : PySem.W.Frag} {mg : PySem.Str → Option Value} (T : Tx K mg) : FunD K "are_sets" "are_sets" (defArgs sare_sets) (defBody sare_sets) (defScope sare_sets) [] [] aare_sets (fdAt K aare_sets) := T.says.def_ 8 rfl
theorem Tx.b_are_sets {K : PySem.W.Frag} {mg : PySem.Str → Option Value} (T : Tx K mg) : Binds K (fdAt K aare_sets) P_are_sets [] := T.d_are_sets.bindsN fun _ _ _ _ _ _ us hl => match us, hl with | [_, _], _ => rfl
def N_all_sets : List PySem.Str := [("n" : PySem.Str), ("mask" : PySem.Str)]
def P_all_sets : List PySem.Str := [("n" : PySem.Str)]
theorem sc_all_sets : FnScope N_all_sets P_all_sets (defScope sall_sets) := ⟨rfl, rfl, rfl, by decide +kernel, rfl, by decide +kernel, by decide +kernel⟩
theorem Tx.d_all_sets {K : PySem.W.Frag} {mg : PySem.Str → Option Value} (T : Tx K mg) : FunD K "all_sets" "all_sets" (defArgs sall_sets) (defBody sall_sets) (defScope sall_sets) [] [] aall_sets (fdAt K aall_sets) := T.says.def_ 9 rfl
theorem Tx.b_all_sets {K : PySem.W.Frag} {mg : PySem.Str → Option Value} (T : Tx K mg) : Binds K (fdAt K aall_sets) P_all_sets [] := T.d_all_sets.bindsN fun _ _ _ _ _ _ us hl => match us, hl with | [_], _ => rfl
def N_need_contract : List PySem.Str := [("thing" : PySem.Str)]
def P_need_contract : List PySem.Str := [("thing" : PySem.Str)]
theorem sc_need_contract : FnScope N_need_contract P_need_contract (defScope sneed_contract) := ⟨rfl, rfl, rfl, by decide +kernel, rfl, by decide +kernel, by decide +kernel⟩
theorem Tx.d_need_contract {K : PySem.W.Frag} {mg : PySem.Str → Option Value} (T : Tx K mg) : FunD K "need_contract" "need_contract" (defArgs sneed_contract) (defBody sneed_contract) (defScope sneed_contract) [] [] aneed_contract (fdAt K aneed_contract) := T.says.def_ 10 rfl
theorem Tx.b_need_contract {K : PySem.W.Frag} {mg : PySem.Str → Option Value} (T : Tx K mg) : Binds K (fdAt K aneed_contract) P_need_contract [] := T.d_need_contract.bindsN fun _ _ _ _ _ _ us hl => match us, hl with | [_], _ => rfl
def N_need_state_of : List PySem.Str := [("contract" : PySem.Str), ("s" : PySem.Str)]
def P_need_state_of : List PySem.Str := [("contract" : PySem.Str), ("s" : PySem.Str)]
theorem sc_need_state_of : FnScope N_need_state_of P_need_state_of (defScope sneed_state_of) := ⟨rfl, rfl, rfl, by decide +kernel, rfl, by decide +kernel, by decide +kernel⟩
theorem Tx.d_need_state_of {K : PySem.W.Frag} {mg : PySem.Str → Option Value} (T : Tx K mg) : FunD K "need_state_of" "need_state_of" (defArgs sneed_state_of) (defBody sneed_state_of) (defScope sneed_state_of) [] [] aneed_state_of (fdAt K aneed_state_of) := T.says.def_ 11 rfl
theorem Tx.b_need_state_of {K : PySem.W.Frag} {mg : PySem.Str → Option Value} (T : Tx K mg) : Binds K (fdAt K aneed_state_of) P_need_state_of [] := T.d_need_state_of.bindsN fun _ _ _ _ _ _ us hl => match us, hl with | [_, _], _ => rfl
def N_need_alike : List PySem.Str := [("one" : PySem.Str), ("other" : PySem.Str)]
def P_need_alike : List PySem.Str := [("one" : PySem.Str), ("other" : PySem.Str)]
theorem sc_need_alike : FnScope N_need_alike P_need_alike (defScope sneed_alike) := ⟨rfl, rfl, rfl, by decide +kernel, rfl, by decide +kernel, by decide +kernel⟩
theorem Tx.d_need_alike {K : PySem.W.Frag} {mg : PySem.Str → Option Value} (T : Tx K mg) : FunD K "need_alike" "need_alike" (defArgs sneed_alike) (defBody sneed_alike) (defScope sneed_alike) [] [] aneed_alike (fdAt K aneed_alike) := T.says.def_ 12 rfl
theorem Tx.b_need_alike {K : PySem.W.Frag} {mg : PySem.Str → Option Value} (T : Tx K mg) : Binds K (fdAt K aneed_alike) P_need_alike [] := T.d_need_alike.bindsN fun _ _ _ _ _ _ us hl => match us, hl with | [_, _], _ => rfl
def N_is_within : List PySem.Str := [("rows" : PySem.Str), ("others" : PySem.Str), ("row" : PySem.Str), ("other" : PySem.Str), ("one" : PySem.Str), ("two" : PySem.Str)]
def P_is_within : List PySem.Str := [("rows" : PySem.Str), ("others" : PySem.Str)]
theorem sc_is_within : FnScope N_is_within P_is_within (defScope sis_within) := ⟨rfl, rfl, rfl, by decide +kernel, rfl, by decide +kernel, by decide +kernel⟩
theorem Tx.d_is_within {K : PySem.W.Frag} {mg : PySem.Str → Option Value} (T : Tx K mg) : FunD K "is_within" "is_within" (defArgs sis_within) (defBody sis_within) (defScope sis_within) [] [] ais_within (fdAt K ais_within) := T.says.def_ 13 rfl
theorem Tx.b_is_within {K : PySem.W.Frag} {mg : PySem.Str → Option Value} (T : Tx K mg) : Binds K (fdAt K ais_within) P_is_within [] := T.d_is_within.bindsN fun _ _ _ _ _ _ us hl => match us, hl with | [_, _], _ => rfl
def N_notation_of : List PySem.Str := [("ends" : PySem.Str), ("rows" : PySem.Str), ("found" : PySem.Str), ("row" : PySem.Str), ("sets" : PySem.Str), ("t" : PySem.Str), ("x" : PySem.Str)]
def P_notation_of : List PySem.Str := [("ends" : PySem.Str), ("rows" : PySem.Str)]
theorem sc_notation_of : FnScope N_notation_of P_notation_of (defScope snotation_of) := ⟨rfl, rfl, rfl, by decide +kernel, rfl, by decide +kernel, by decide +kernel⟩
theorem Tx.d_notation_of {K : PySem.W.Frag} {mg : PySem.Str → Option Value} (T : Tx K mg) : FunD K "notation_of" "notation_of" (defArgs snotation_of) (defBody snotation_of) (defScope snotation_of) [] [] anotation_of (fdAt K anotation_of) := T.says.def_ 14 rfl
theorem Tx.b_notation_of {K : PySem.W.Frag} {mg : PySem.Str → Option Value} (T : Tx K mg) : Binds K (fdAt K anotation_of) P_notation_of [] := T.d_notation_of.bindsN fun _ _ _ _ _ _ us hl => match us, hl with | [_, _], _ => rfl
def N_is_around : List PySem.Str := [("thing" : PySem.Str)]
def P_is_around : List PySem.Str := [("thing" : PySem.Str)]
theorem sc_is_around : FnScope N_is_around P_is_around (defScope sis_around) := ⟨rfl, rfl, rfl, by decide +kernel, rfl, by decide +kernel, by decide +kernel⟩
theorem Tx.d_is_around {K : PySem.W.Frag} {mg : PySem.Str → Option Value} (T : Tx K mg) : FunD K "is_around" "is_around" (defArgs sis_around) (defBody sis_around) (defScope sis_around) [] [] ais_around (fdAt K ais_around) := T.says.def_ 15 rfl
theorem Tx.b_is_around {K : PySem.W.Frag} {mg : PySem.Str → Option Value} (T : Tx K mg) : Binds K (fdAt K ais_around) P_is_around [] := T.d_is_around.bindsN fun _ _ _ _ _ _ us hl => match us, hl with | [_], _ => rfl
def N_is_table : List PySem.Str := [("n" : PySem.Str), ("thing" : PySem.Str), ("t" : PySem.Str)]
def P_is_table : List PySem.Str := [("n" : PySem.Str), ("thing" : PySem.Str)]
theorem sc_is_table : FnScope N_is_table P_is_table (defScope sis_table) := ⟨rfl, rfl, rfl, by decide +kernel, rfl, by decide +kernel, by decide +kernel⟩
theorem Tx.d_is_table {K : PySem.W.Frag} {mg : PySem.Str → Option Value} (T : Tx K mg) : FunD K "is_table" "is_table" (defArgs sis_table) (defBody sis_table) (defScope sis_table) [] [] ais_table (fdAt K ais_table) := T.says.def_ 16 rfl
theorem Tx.b_is_table {K : PySem.W.Frag} {mg : PySem.Str → Option Value} (T : Tx K mg) : Binds K (fdAt K ais_table) P_is_table [] := T.d_is_table.bindsN fun _ _ _ _ _ _ us hl => match us, hl with | [_, _], _ => rfl
def N_is_form : List PySem.Str := [("system" : PySem.Str), ("text" : PySem.Str), ("n" : PySem.Str), ("many" : PySem.Str), ("texts" : PySem.Str), ("limits" : PySem.Str)]
def P_is_form : List PySem.Str := [("system" : PySem.Str), ("text" : PySem.Str)]
theorem sc_is_form : FnScope N_is_form P_is_form (defScope sis_form) := ⟨rfl, rfl, rfl, by decide +kernel, rfl, by decide +kernel, by decide +kernel⟩
theorem Tx.d_is_form {K : PySem.W.Frag} {mg : PySem.Str → Option Value} (T : Tx K mg) : FunD K "is_form" "is_form" (defArgs sis_form) (defBody sis_form) (defScope sis_form) [] [] ais_form (fdAt K ais_form) := T.says.def_ 17 rfl
theorem Tx.b_is_form {K : PySem.W.Frag} {mg : PySem.Str → Option Value} (T : Tx K mg) : Binds K (fdAt K ais_form) P_is_form [] := T.d_is_form.bindsN fun _ _ _ _ _ _ us hl => match us, hl with | [_, _], _ => rfl
def N_texts_in : List PySem.Str := [("text" : PySem.Str)]
def P_texts_in : List PySem.Str := [("text" : PySem.Str)]
theorem sc_texts_in : FnScope N_texts_in P_texts_in (defScope stexts_in) := ⟨rfl, rfl, rfl, by decide +kernel, rfl, by decide +kernel, by decide +kernel⟩
theorem Tx.d_texts_in {K : PySem.W.Frag} {mg : PySem.Str → Option Value} (T : Tx K mg) : FunD K "texts_in" "texts_in" (defArgs stexts_in) (defBody stexts_in) (defScope stexts_in) [] [] atexts_in (fdAt K atexts_in) := T.says.def_ 18 rfl
theorem Tx.b_texts_in {K : PySem.W.Frag} {mg : PySem.Str → Option Value} (T : Tx K mg) : Binds K (fdAt K atexts_in) P_texts_in [] := T.d_texts_in.bindsN fun _ _ _ _ _ _ us hl => match us, hl with | [_], _ => rfl
def N_wrong_place : List PySem.Str := [("system" : PySem.Str), ("place" : PySem.Str), ("text" : PySem.Str), ("number" : PySem.Str), ("one" : PySem.Str), ("wrong" : PySem.Str)]
def P_wrong_place : List PySem.Str := [("system" : PySem.Str), ("place" : PySem.Str), ("text" : PySem.Str)]
theorem sc_wrong_place : FnScope N_wrong_place P_wrong_place (defScope swrong_place) := ⟨rfl, rfl, rfl, by decide +kernel, rfl, by decide +kernel, by decide +kernel⟩
theorem Tx.d_wrong_place {K : PySem.W.Frag} {mg : PySem.Str → Option Value} (T : Tx K mg) : FunD K "wrong_place" "wrong_place" (defArgs swrong_place) (defBody swrong_place) (defScope swrong_place) [] [] awrong_place (fdAt K awrong_place) := T.says.def_ 19 rfl
theorem Tx.b_wrong_place {K : PySem.W.Frag} {mg : PySem.Str → Option Value} (T : Tx K mg) : Binds K (fdAt K awrong_place) P_wrong_place [] := T.d_wrong_place.bindsN fun _ _ _ _ _ _ us hl => match us, hl with | [_, _, _], _ => rfl
def N_first_wrong : List PySem.Str := [("system" : PySem.Str), ("k" : PySem.Str), ("text" : PySem.Str), ("wrong" : PySem.Str)]
def P_first_wrong : List PySem.Str := [("system" : PySem.Str)]
theorem sc_first_wrong : FnScope N_first_wrong P_first_wrong (defScope sfirst_wrong) := ⟨rfl, rfl, rfl, by decide +kernel, rfl, by decide +kernel, by decide +kernel⟩
theorem Tx.d_first_wrong {K : PySem.W.Frag} {mg : PySem.Str → Option Value} (T : Tx K mg) : FunD K "first_wrong" "first_wrong" (defArgs sfirst_wrong) (defBody sfirst_wrong) (defScope sfirst_wrong) [] [] afirst_wrong (fdAt K afirst_wrong) := T.says.def_ 20 rfl
theorem Tx.b_first_wrong {K : PySem.W.Frag} {mg : PySem.Str → Option Value} (T : Tx K mg) : Binds K (fdAt K afirst_wrong) P_first_wrong [] := T.d_first_wrong.bindsN fun _ _ _ _ _ _ us hl => match us, hl with | [_], _ => rfl
def N_places_from : List PySem.Str := [("place" : PySem.Str), ("text" : PySem.Str), ("found" : PySem.Str), ("number" : PySem.Str), ("one" : PySem.Str)]
def P_places_from : List PySem.Str := [("place" : PySem.Str), ("text" : PySem.Str)]
theorem sc_places_from : FnScope N_places_from P_places_from (defScope splaces_from) := ⟨rfl, rfl, rfl, by decide +kernel, rfl, by decide +kernel, by decide +kernel⟩
theorem Tx.d_places_from {K : PySem.W.Frag} {mg : PySem.Str → Option Value} (T : Tx K mg) : FunD K "places_from" "places_from" (defArgs splaces_from) (defBody splaces_from) (defScope splaces_from) [] [] aplaces_from (fdAt K aplaces_from) := T.says.def_ 21 rfl
theorem Tx.b_places_from {K : PySem.W.Frag} {mg : PySem.Str → Option Value} (T : Tx K mg) : Binds K (fdAt K aplaces_from) P_places_from [] := T.d_places_from.bindsN fun _ _ _ _ _ _ us hl => match us, hl with | [_, _], _ => rfl
def N_places_of : List PySem.Str := [("system" : PySem.Str), ("found" : PySem.Str), ("k" : PySem.Str), ("text" : PySem.Str)]
def P_places_of : List PySem.Str := [("system" : PySem.Str)]
theorem sc_places_of : FnScope N_places_of P_places_of (defScope splaces_of) := ⟨rfl, rfl, rfl, by decide +kernel, rfl, by decide +kernel, by decide +kernel⟩
theorem Tx.d_places_of {K : PySem.W.Frag} {mg : PySem.Str → Option Value} (T : Tx K mg) : FunD K "places_of" "places_of" (defArgs splaces_of) (defBody splaces_of) (defScope splaces_of) [] [] aplaces_of (fdAt K aplaces_of) := T.says.def_ 22 rfl
theorem Tx.b_places_of {K : PySem.W.Frag} {mg : PySem.Str → Option Value} (T : Tx K mg) : Binds K (fdAt K aplaces_of) P_places_of [] := T.d_places_of.bindsN fun _ _ _ _ _ _ us hl => match us, hl with | [_], _ => rfl
def N_is_small : List PySem.Str := [("system" : PySem.Str), ("places" : PySem.Str), ("k" : PySem.Str), ("path" : PySem.Str)]
def P_is_small : List PySem.Str := [("system" : PySem.Str)]
theorem sc_is_small : FnScope N_is_small P_is_small (defScope sis_small) := ⟨rfl, rfl, rfl, by decide +kernel, rfl, by decide +kernel, by decide +kernel⟩
theorem Tx.d_is_small {K : PySem.W.Frag} {mg : PySem.Str → Option Value} (T : Tx K mg) : FunD K "is_small" "is_small" (defArgs sis_small) (defBody sis_small) (defScope sis_small) [] [] ais_small (fdAt K ais_small) := T.says.def_ 23 rfl
theorem Tx.b_is_small {K : PySem.W.Frag} {mg : PySem.Str → Option Value} (T : Tx K mg) : Binds K (fdAt K ais_small) P_is_small [] := T.d_is_small.bindsN fun _ _ _ _ _ _ us hl => match us, hl with | [_], _ => rfl
def N_is_system : List PySem.Str := [("thing" : PySem.Str)]
def P_is_system : List PySem.Str := [("thing" : PySem.Str)]
theorem sc_is_system : FnScope N_is_system P_is_system (defScope sis_system) := ⟨rfl, rfl, rfl, by decide +kernel, rfl, by decide +kernel, by decide +kernel⟩
theorem Tx.d_is_system {K : PySem.W.Frag} {mg : PySem.Str → Option Value} (T : Tx K mg) : FunD K "is_system" "is_system" (defArgs sis_system) (defBody sis_system) (defScope sis_system) [] [] ais_system (fdAt K ais_system) := T.says.def_ 24 rfl
theorem Tx.b_is_system {K : PySem.W.Frag} {mg : PySem.Str → Option Value} (T : Tx K mg) : Binds K (fdAt K ais_system) P_is_system [] := T.d_is_system.bindsN fun _ _ _ _ _ _ us hl => match us, hl with | [_], _ => rfl
def N_are_parts_of : List PySem.Str := [("system" : PySem.Str), ("thing" : PySem.Str), ("one" : PySem.Str)]
def P_are_parts_of : List PySem.Str := [("system" : PySem.Str), ("thing" : PySem.Str)]
theorem sc_are_parts_of : FnScope N_are_parts_of P_are_parts_of (defScope sare_parts_of) := ⟨rfl, rfl, rfl, by decide +kernel, rfl, by decide +kernel, by decide +kernel⟩
theorem Tx.d_are_parts_of {K : PySem.W.Frag} {mg : PySem.Str → Option Value} (T : Tx K mg) : FunD K "are_parts_of" "are_parts_of" (defArgs sare_parts_of) (defBody sare_parts_of) (defScope sare_parts_of) [] [] aare_parts_of (fdAt K aare_parts_of) := T.says.def_ 25 rfl
theorem Tx.b_are_parts_of {K : PySem.W.Frag} {mg : PySem.Str → Option Value} (T : Tx K mg) : Binds K (fdAt K aare_parts_of) P_are_parts_of [] := T.d_are_parts_of.bindsN fun _ _ _ _ _ _ us hl => match us, hl with | [_, _], _ => rfl
def N_need_system : List PySem.Str := [("system" : PySem.Str), ("wrong" : PySem.Str)]
def P_need_system : List PySem.Str := [("system" : PySem.Str)]
theorem sc_need_system : FnScope N_need_system P_need_system (defScope sneed_system) := ⟨rfl, rfl, rfl, by decide +kernel, rfl, by decide +kernel, by decide +kernel⟩
theorem Tx.d_need_system {K : PySem.W.Frag} {mg : PySem.Str → Option Value} (T : Tx K mg) : FunD K "need_system" "need_system" (defArgs sneed_system) (defBody sneed_system) (defScope sneed_system) [] [] aneed_system (fdAt K aneed_system) := T.says.def_ 26 rfl
theorem Tx.b_need_system {K : PySem.W.Frag} {mg : PySem.Str → Option Value} (T : Tx K mg) : Binds K (fdAt K aneed_system) P_need_system [] := T.d_need_system.bindsN fun _ _ _ _ _ _ us hl => match us, hl with | [_], _ => rfl
def N_need_parts : List PySem.Str := [("system" : PySem.Str), ("parts" : PySem.Str)]
def P_need_parts : List PySem.Str := [("system" : PySem.Str), ("parts" : PySem.Str)]
theorem sc_need_parts : FnScope N_need_parts P_need_parts (defScope sneed_parts) := ⟨rfl, rfl, rfl, by decide +kernel, rfl, by decide +kernel, by decide +kernel⟩
theorem Tx.d_need_parts {K : PySem.W.Frag} {mg : PySem.Str → Option Value} (T : Tx K mg) : FunD K "need_parts" "need_parts" (defArgs sneed_parts) (defBody sneed_parts) (defScope sneed_parts) [] [] aneed_parts (fdAt K aneed_parts) := T.says.def_ 27 rfl
theorem Tx.b_need_parts {K : PySem.W.Frag} {mg : PySem.Str → Option Value} (T : Tx K mg) : Binds K (fdAt K aneed_parts) P_need_parts [] := T.d_need_parts.bindsN fun _ _ _ _ _ _ us hl => match us, hl with | [_, _], _ => rfl
def N_need_name : List PySem.Str := [("system" : PySem.Str), ("k" : PySem.Str)]
def P_need_name : List PySem.Str := [("system" : PySem.Str), ("k" : PySem.Str)]
theorem sc_need_name : FnScope N_need_name P_need_name (defScope sneed_name) := ⟨rfl, rfl, rfl, by decide +kernel, rfl, by decide +kernel, by decide +kernel⟩
theorem Tx.d_need_name {K : PySem.W.Frag} {mg : PySem.Str → Option Value} (T : Tx K mg) : FunD K "need_name" "need_name" (defArgs sneed_name) (defBody sneed_name) (defScope sneed_name) [] [] aneed_name (fdAt K aneed_name) := T.says.def_ 28 rfl
theorem Tx.b_need_name {K : PySem.W.Frag} {mg : PySem.Str → Option Value} (T : Tx K mg) : Binds K (fdAt K aneed_name) P_need_name [] := T.d_need_name.bindsN fun _ _ _ _ _ _ us hl => match us, hl with | [_, _], _ => rfl
def N_need_word : List PySem.Str := [("endless" : PySem.Str)]
def P_need_word : List PySem.Str := [("endless" : PySem.Str)]
theorem sc_need_word : FnScope N_need_word P_need_word (defScope sneed_word) := ⟨rfl, rfl, rfl, by decide +kernel, rfl, by decide +kernel, by decide +kernel⟩
theorem Tx.d_need_word {K : PySem.W.Frag} {mg : PySem.Str → Option Value} (T : Tx K mg) : FunD K "need_word" "need_word" (defArgs sneed_word) (defBody sneed_word) (defScope sneed_word) [] [] aneed_word (fdAt K aneed_word) := T.says.def_ 29 rfl
theorem Tx.b_need_word {K : PySem.W.Frag} {mg : PySem.Str → Option Value} (T : Tx K mg) : Binds K (fdAt K aneed_word) P_need_word [] := T.d_need_word.bindsN fun _ _ _ _ _ _ us hl => match us, hl with | [_], _ => rfl
def N_flat_table : List PySem.Str := [("n" : PySem.Str), ("has_all" : PySem.Str), ("x" : PySem.Str), ("s" : PySem.Str)]
def P_flat_table : List PySem.Str := [("n" : PySem.Str), ("has_all" : PySem.Str)]
theorem sc_flat_table : FnScope N_flat_table P_flat_table (defScope sflat_table) := ⟨rfl, rfl, rfl, by decide +kernel, rfl, by decide +kernel, by decide +kernel⟩
theorem Tx.d_flat_table {K : PySem.W.Frag} {mg : PySem.Str → Option Value} (T : Tx K mg) : FunD K "flat_table" "flat_table" (defArgs sflat_table) (defBody sflat_table) (defScope sflat_table) [] [] aflat_table (fdAt K aflat_table) := T.says.def_ 30 rfl
theorem Tx.b_flat_table {K : PySem.W.Frag} {mg : PySem.Str → Option Value} (T : Tx K mg) : Binds K (fdAt K aflat_table) P_flat_table [] := T.d_flat_table.bindsN fun _ _ _ _ _ _ us hl => match us, hl with | [_, _], _ => rfl
def N_go_table : List PySem.Str := [("n" : PySem.Str), ("table" : PySem.Str), ("x" : PySem.Str), ("t" : PySem.Str)]
def P_go_table : List PySem.Str := [("n" : PySem.Str), ("table" : PySem.Str)]
theorem sc_go_table : FnScope N_go_table P_go_table (defScope sgo_table) := ⟨rfl, rfl, rfl, by decide +kernel, rfl, by decide +kernel, by decide +kernel⟩
theorem Tx.d_go_table {K : PySem.W.Frag} {mg : PySem.Str → Option Value} (T : Tx K mg) : FunD K "go_table" "go_table" (defArgs sgo_table) (defBody sgo_table) (defScope sgo_table) [] [] ago_table (fdAt K ago_table) := T.says.def_ 31 rfl
theorem Tx.b_go_table {K : PySem.W.Frag} {mg : PySem.Str → Option Value} (T : Tx K mg) : Binds K (fdAt K ago_table) P_go_table [] := T.d_go_table.bindsN fun _ _ _ _ _ _ us hl => match us, hl with | [_, _], _ => rfl
def N_contract_table : List PySem.Str := [("n" : PySem.Str), ("contract" : PySem.Str), ("x" : PySem.Str), ("s" : PySem.Str)]
def P_contract_table : List PySem.Str := [("n" : PySem.Str), ("contract" : PySem.Str)]
theorem sc_contract_table : FnScope N_contract_table P_contract_table (defScope scontract_table) := ⟨rfl, rfl, rfl, by decide +kernel, rfl, by decide +kernel, by decide +kernel⟩
theorem Tx.d_contract_table {K : PySem.W.Frag} {mg : PySem.Str → Option Value} (T : Tx K mg) : FunD K "contract_table" "contract_table" (defArgs scontract_table) (defBody scontract_table) (defScope scontract_table) [] [] acontract_table (fdAt K acontract_table) := T.says.def_ 32 rfl
theorem Tx.b_contract_table {K : PySem.W.Frag} {mg : PySem.Str → Option Value} (T : Tx K mg) : Binds K (fdAt K acontract_table) P_contract_table [] := T.d_contract_table.bindsN fun _ _ _ _ _ _ us hl => match us, hl with | [_, _], _ => rfl
def N_behind : List PySem.Str := [("n" : PySem.Str), ("one" : PySem.Str), ("other" : PySem.Str), ("found" : PySem.Str), ("row" : PySem.Str), ("t" : PySem.Str), ("x" : PySem.Str)]
def P_behind : List PySem.Str := [("n" : PySem.Str), ("one" : PySem.Str), ("other" : PySem.Str)]
theorem sc_behind : FnScope N_behind P_behind (defScope sbehind) := ⟨rfl, rfl, rfl, by decide +kernel, rfl, by decide +kernel, by decide +kernel⟩
theorem Tx.d_behind {K : PySem.W.Frag} {mg : PySem.Str → Option Value} (T : Tx K mg) : FunD K "behind" "behind" (defArgs sbehind) (defBody sbehind) (defScope sbehind) [] [] abehind (fdAt K abehind) := T.says.def_ 33 rfl
theorem Tx.b_behind {K : PySem.W.Frag} {mg : PySem.Str → Option Value} (T : Tx K mg) : Binds K (fdAt K abehind) P_behind [] := T.d_behind.bindsN fun _ _ _ _ _ _ us hl => match us, hl with | [_, _, _], _ => rfl
def N_joint_table : List PySem.Str := [("n" : PySem.Str), ("side" : PySem.Str), ("tables" : PySem.Str), ("found" : PySem.Str), ("s" : PySem.Str), ("ways" : PySem.Str), ("table" : PySem.Str), ("way" : PySem.Str), ("x" : PySem.Str)]
def P_joint_table : List PySem.Str := [("n" : PySem.Str), ("side" : PySem.Str), ("tables" : PySem.Str)]
theorem sc_joint_table : FnScope N_joint_table P_joint_table (defScope sjoint_table) := ⟨rfl, rfl, rfl, by decide +kernel, rfl, by decide +kernel, by decide +kernel⟩
theorem Tx.d_joint_table {K : PySem.W.Frag} {mg : PySem.Str → Option Value} (T : Tx K mg) : FunD K "joint_table" "joint_table" (defArgs sjoint_table) (defBody sjoint_table) (defScope sjoint_table) [] [] ajoint_table (fdAt K ajoint_table) := T.says.def_ 34 rfl
theorem Tx.b_joint_table {K : PySem.W.Frag} {mg : PySem.Str → Option Value} (T : Tx K mg) : Binds K (fdAt K ajoint_table) P_joint_table [] := T.d_joint_table.bindsN fun _ _ _ _ _ _ us hl => match us, hl with | [_, _, _], _ => rfl
def N_raw_rounds : List PySem.Str := [("system" : PySem.Str), ("parts" : PySem.Str), ("endless" : PySem.Str), ("n" : PySem.Str), ("tables" : PySem.Str), ("part" : PySem.Str), ("calls" : PySem.Str), ("text" : PySem.Str), ("found" : PySem.Str), ("later" : PySem.Str)]
def P_raw_rounds : List PySem.Str := [("system" : PySem.Str), ("parts" : PySem.Str), ("endless" : PySem.Str)]
theorem sc_raw_rounds : FnScope N_raw_rounds P_raw_rounds (defScope sraw_rounds) := ⟨rfl, rfl, rfl, by decide +kernel, rfl, by decide +kernel, by decide +kernel⟩
theorem Tx.d_raw_rounds {K : PySem.W.Frag} {mg : PySem.Str → Option Value} (T : Tx K mg) : FunD K "raw_rounds" "raw_rounds" (defArgs sraw_rounds) (defBody sraw_rounds) (defScope sraw_rounds) [] [] araw_rounds (fdAt K araw_rounds) := T.says.def_ 35 rfl
theorem Tx.b_raw_rounds {K : PySem.W.Frag} {mg : PySem.Str → Option Value} (T : Tx K mg) : Binds K (fdAt K araw_rounds) P_raw_rounds [] := T.d_raw_rounds.bindsN fun _ _ _ _ _ _ us hl => match us, hl with | [_, _, _], _ => rfl
def N_contract_of : List PySem.Str := [("n" : PySem.Str), ("table" : PySem.Str), ("x" : PySem.Str), ("row" : PySem.Str)]
def P_contract_of : List PySem.Str := [("n" : PySem.Str), ("table" : PySem.Str)]
theorem sc_contract_of : FnScope N_contract_of P_contract_of (defScope scontract_of) := ⟨rfl, rfl, rfl, by decide +kernel, rfl, by decide +kernel, by decide +kernel⟩
theorem Tx.d_contract_of {K : PySem.W.Frag} {mg : PySem.Str → Option Value} (T : Tx K mg) : FunD K "contract_of" "contract_of" (defArgs scontract_of) (defBody scontract_of) (defScope scontract_of) [] [] acontract_of (fdAt K acontract_of) := T.says.def_ 36 rfl
theorem Tx.b_contract_of {K : PySem.W.Frag} {mg : PySem.Str → Option Value} (T : Tx K mg) : Binds K (fdAt K acontract_of) P_contract_of [] := T.d_contract_of.bindsN fun _ _ _ _ _ _ us hl => match us, hl with | [_, _], _ => rfl
def N_raw_value : List PySem.Str := [("system" : PySem.Str), ("parts" : PySem.Str), ("k" : PySem.Str), ("endless" : PySem.Str)]
def P_raw_value : List PySem.Str := [("system" : PySem.Str), ("parts" : PySem.Str), ("k" : PySem.Str), ("endless" : PySem.Str)]
theorem sc_raw_value : FnScope N_raw_value P_raw_value (defScope sraw_value) := ⟨rfl, rfl, rfl, by decide +kernel, rfl, by decide +kernel, by decide +kernel⟩
theorem Tx.d_raw_value {K : PySem.W.Frag} {mg : PySem.Str → Option Value} (T : Tx K mg) : FunD K "raw_value" "raw_value" (defArgs sraw_value) (defBody sraw_value) (defScope sraw_value) [] [] araw_value (fdAt K araw_value) := T.says.def_ 37 rfl
theorem Tx.b_raw_value {K : PySem.W.Frag} {mg : PySem.Str → Option Value} (T : Tx K mg) : Binds K (fdAt K araw_value) P_raw_value [] := T.d_raw_value.bindsN fun _ _ _ _ _ _ us hl => match us, hl with | [_, _, _, _], _ => rfl
def N_value_of : List PySem.Str := [("system" : PySem.Str), ("parts" : PySem.Str), ("k" : PySem.Str), ("endless" : PySem.Str)]
def P_value_of : List PySem.Str := [("system" : PySem.Str), ("parts" : PySem.Str), ("k" : PySem.Str), ("endless" : PySem.Str)]
theorem sc_value_of : FnScope N_value_of P_value_of (defScope svalue_of) := ⟨rfl, rfl, rfl, by decide +kernel, rfl, by decide +kernel, by decide +kernel⟩
theorem Tx.d_value_of {K : PySem.W.Frag} {mg : PySem.Str → Option Value} (T : Tx K mg) : FunD K "value_of" "value_of" (defArgs svalue_of) (defBody svalue_of) (defScope svalue_of) [] [("endless", V.str "we")] avalue_of (fdAt K avalue_of) := T.says.def_ 38 rfl
def N_text_of_set : List PySem.Str := [("n" : PySem.Str), ("x" : PySem.Str), ("t" : PySem.Str)]
def P_text_of_set : List PySem.Str := [("n" : PySem.Str), ("x" : PySem.Str)]
theorem sc_text_of_set : FnScope N_text_of_set P_text_of_set (defScope stext_of_set) := ⟨rfl, rfl, rfl, by decide +kernel, rfl, by decide +kernel, by decide +kernel⟩
theorem Tx.d_text_of_set {K : PySem.W.Frag} {mg : PySem.Str → Option Value} (T : Tx K mg) : FunD K "text_of_set" "text_of_set" (defArgs stext_of_set) (defBody stext_of_set) (defScope stext_of_set) [] [] atext_of_set (fdAt K atext_of_set) := T.says.def_ 39 rfl
theorem Tx.b_text_of_set {K : PySem.W.Frag} {mg : PySem.Str → Option Value} (T : Tx K mg) : Binds K (fdAt K atext_of_set) P_text_of_set [] := T.d_text_of_set.bindsN fun _ _ _ _ _ _ us hl => match us, hl with | [_, _], _ => rfl
def N_text_of_family : List PySem.Str := [("n" : PySem.Str), ("family" : PySem.Str), ("x" : PySem.Str)]
def P_text_of_family : List PySem.Str := [("n" : PySem.Str), ("family" : PySem.Str)]
theorem sc_text_of_family : FnScope N_text_of_family P_text_of_family (defScope stext_of_family) := ⟨rfl, rfl, rfl, by decide +kernel, rfl, by decide +kernel, by decide +kernel⟩
theorem Tx.d_text_of_family {K : PySem.W.Frag} {mg : PySem.Str → Option Value} (T : Tx K mg) : FunD K "text_of_family" "text_of_family" (defArgs stext_of_family) (defBody stext_of_family) (defScope stext_of_family) [] [] atext_of_family (fdAt K atext_of_family) := T.says.def_ 40 rfl
theorem Tx.b_text_of_family {K : PySem.W.Frag} {mg : PySem.Str → Option Value} (T : Tx K mg) : Binds K (fdAt K atext_of_family) P_text_of_family [] := T.d_text_of_family.bindsN fun _ _ _ _ _ _ us hl => match us, hl with | [_, _], _ => rfl
def N_written : List PySem.Str := [("contract" : PySem.Str), ("n" : PySem.Str), ("found" : PySem.Str), ("s" : PySem.Str)]
def P_written : List PySem.Str := [("contract" : PySem.Str)]
theorem sc_written : FnScope N_written P_written (defScope swritten) := ⟨rfl, rfl, rfl, by decide +kernel, rfl, by decide +kernel, by decide +kernel⟩
theorem Tx.d_written {K : PySem.W.Frag} {mg : PySem.Str → Option Value} (T : Tx K mg) : FunD K "written" "written" (defArgs swritten) (defBody swritten) (defScope swritten) [] [] awritten (fdAt K awritten) := T.says.def_ 41 rfl
theorem Tx.b_written {K : PySem.W.Frag} {mg : PySem.Str → Option Value} (T : Tx K mg) : Binds K (fdAt K awritten) P_written [] := T.d_written.bindsN fun _ _ _ _ _ _ us hl => match us, hl with | [_], _ => rfl
def N_L_spread : List PySem.Str := [("_law_cell" : PySem.Str), ("_law_at" : PySem.Str), ("_law_primes" : PySem.Str), ("_law_one" : PySem.Str), ("_law_two" : PySem.Str), ("_law_three" : PySem.Str)]
def P_L_spread : List PySem.Str := [("_law_cell" : PySem.Str), ("_law_at" : PySem.Str)]
theorem sc_L_spread : FnScope N_L_spread P_L_spread (defScope sL_spread) := ⟨rfl, rfl, rfl, by decide +kernel, rfl, by decide +kernel, by decide +kernel⟩
theorem Tx.d_L_spread {K : PySem.W.Frag} {mg : PySem.Str → Option Value} (T : Tx K mg) : FunD K "_law_spread" "_law_spread" (defArgs sL_spread) (defBody sL_spread) (defScope sL_spread) [] [] aL_spread (fdAt K aL_spread) := T.says.def_ 42 rfl
theorem Tx.b_L_spread {K : PySem.W.Frag} {mg : PySem.Str → Option Value} (T : Tx K mg) : Binds K (fdAt K aL_spread) P_L_spread [] := T.d_L_spread.bindsN fun _ _ _ _ _ _ us hl => match us, hl with | [_, _], _ => rfl
def N_L_open : List PySem.Str := [("_law_script" : PySem.Str), ("_law_cells" : PySem.Str), ("_law_nth" : PySem.Str), ("_law_cell" : PySem.Str)]
def P_L_open : List PySem.Str := [("_law_script" : PySem.Str)]
theorem sc_L_open : FnScope N_L_open P_L_open (defScope sL_open) := ⟨rfl, rfl, rfl, by decide +kernel, rfl, by decide +kernel, by decide +kernel⟩
theorem Tx.d_L_open {K : PySem.W.Frag} {mg : PySem.Str → Option Value} (T : Tx K mg) : FunD K "_law_open" "_law_open" (defArgs sL_open) (defBody sL_open) (defScope sL_open) [] [] aL_open (fdAt K aL_open) := T.says.def_ 43 rfl
theorem Tx.b_L_open {K : PySem.W.Frag} {mg : PySem.Str → Option Value} (T : Tx K mg) : Binds K (fdAt K aL_open) P_L_open [] := T.d_L_open.bindsN fun _ _ _ _ _ _ us hl => match us, hl with | [_], _ => rfl
def N_L_take : List PySem.Str := [("_law_pen" : PySem.Str), ("_law_many" : PySem.Str), ("_law_at" : PySem.Str), ("_law_cell" : PySem.Str), ("_law_found" : PySem.Str)]
def P_L_take : List PySem.Str := [("_law_pen" : PySem.Str), ("_law_many" : PySem.Str)]
theorem sc_L_take : FnScope N_L_take P_L_take (defScope sL_take) := ⟨rfl, rfl, rfl, by decide +kernel, rfl, by decide +kernel, by decide +kernel⟩
theorem Tx.d_L_take {K : PySem.W.Frag} {mg : PySem.Str → Option Value} (T : Tx K mg) : FunD K "_law_take" "_law_take" (defArgs sL_take) (defBody sL_take) (defScope sL_take) [] [] aL_take (fdAt K aL_take) := T.says.def_ 44 rfl
theorem Tx.b_L_take {K : PySem.W.Frag} {mg : PySem.Str → Option Value} (T : Tx K mg) : Binds K (fdAt K aL_take) P_L_take [] := T.d_L_take.bindsN fun _ _ _ _ _ _ us hl => match us, hl with | [_, _], _ => rfl
def N_L_v_pick : List PySem.Str := [("_law_pen" : PySem.Str), ("_law_some" : PySem.Str)]
def P_L_v_pick : List PySem.Str := [("_law_pen" : PySem.Str), ("_law_some" : PySem.Str)]
theorem sc_L_v_pick : FnScope N_L_v_pick P_L_v_pick (defScope sL_v_pick) := ⟨rfl, rfl, rfl, by decide +kernel, rfl, by decide +kernel, by decide +kernel⟩
theorem Tx.d_L_v_pick {K : PySem.W.Frag} {mg : PySem.Str → Option Value} (T : Tx K mg) : FunD K "_law_v_pick" "_law_v_pick" (defArgs sL_v_pick) (defBody sL_v_pick) (defScope sL_v_pick) [] [] aL_v_pick (fdAt K aL_v_pick) := T.says.def_ 45 rfl
theorem Tx.b_L_v_pick {K : PySem.W.Frag} {mg : PySem.Str → Option Value} (T : Tx K mg) : Binds K (fdAt K aL_v_pick) P_L_v_pick [] := T.d_L_v_pick.bindsN fun _ _ _ _ _ _ us hl => match us, hl with | [_, _], _ => rfl
def N_L_v_sets : List PySem.Str := [("_law_n" : PySem.Str), ("_law_found" : PySem.Str), ("_law_t" : PySem.Str), ("_law_x" : PySem.Str)]
def P_L_v_sets : List PySem.Str := [("_law_n" : PySem.Str)]
theorem sc_L_v_sets : FnScope N_L_v_sets P_L_v_sets (defScope sL_v_sets) := ⟨rfl, rfl, rfl, by decide +kernel, rfl, by decide +kernel, by decide +kernel⟩
theorem Tx.d_L_v_sets {K : PySem.W.Frag} {mg : PySem.Str → Option Value} (T : Tx K mg) : FunD K "_law_v_sets" "_law_v_sets" (defArgs sL_v_sets) (defBody sL_v_sets) (defScope sL_v_sets) [] [] aL_v_sets (fdAt K aL_v_sets) := T.says.def_ 46 rfl
theorem Tx.b_L_v_sets {K : PySem.W.Frag} {mg : PySem.Str → Option Value} (T : Tx K mg) : Binds K (fdAt K aL_v_sets) P_L_v_sets [] := T.d_L_v_sets.bindsN fun _ _ _ _ _ _ us hl => match us, hl with | [_], _ => rfl
def N_L_v_is_in : List PySem.Str := [("_law_x" : PySem.Str), ("_law_y" : PySem.Str), ("_law_t" : PySem.Str)]
def P_L_v_is_in : List PySem.Str := [("_law_x" : PySem.Str), ("_law_y" : PySem.Str)]
theorem sc_L_v_is_in : FnScope N_L_v_is_in P_L_v_is_in (defScope sL_v_is_in) := ⟨rfl, rfl, rfl, by decide +kernel, rfl, by decide +kernel, by decide +kernel⟩
theorem Tx.d_L_v_is_in {K : PySem.W.Frag} {mg : PySem.Str → Option Value} (T : Tx K mg) : FunD K "_law_v_is_in" "_law_v_is_in" (defArgs sL_v_is_in) (defBody sL_v_is_in) (defScope sL_v_is_in) [] [] aL_v_is_in (fdAt K aL_v_is_in) := T.says.def_ 47 rfl
theorem Tx.b_L_v_is_in {K : PySem.W.Frag} {mg : PySem.Str → Option Value} (T : Tx K mg) : Binds K (fdAt K aL_v_is_in) P_L_v_is_in [] := T.d_L_v_is_in.bindsN fun _ _ _ _ _ _ us hl => match us, hl with | [_, _], _ => rfl
def N_L_v_family : List PySem.Str := [("_law_n" : PySem.Str), ("_law_sets" : PySem.Str), ("_law_found" : PySem.Str), ("_law_x" : PySem.Str), ("_law_less" : PySem.Str), ("_law_y" : PySem.Str)]
def P_L_v_family : List PySem.Str := [("_law_n" : PySem.Str), ("_law_sets" : PySem.Str)]
theorem sc_L_v_family : FnScope N_L_v_family P_L_v_family (defScope sL_v_family) := ⟨rfl, rfl, rfl, by decide +kernel, rfl, by decide +kernel, by decide +kernel⟩
theorem Tx.d_L_v_family {K : PySem.W.Frag} {mg : PySem.Str → Option Value} (T : Tx K mg) : FunD K "_law_v_family" "_law_v_family" (defArgs sL_v_family) (defBody sL_v_family) (defScope sL_v_family) [] [] aL_v_family (fdAt K aL_v_family) := T.says.def_ 48 rfl
theorem Tx.b_L_v_family {K : PySem.W.Frag} {mg : PySem.Str → Option Value} (T : Tx K mg) : Binds K (fdAt K aL_v_family) P_L_v_family [] := T.d_L_v_family.bindsN fun _ _ _ _ _ _ us hl => match us, hl with | [_, _], _ => rfl
def N_L_v_pairs : List PySem.Str := [("_law_n" : PySem.Str), ("_law_found" : PySem.Str), ("_law_s" : PySem.Str), ("_law_x" : PySem.Str)]
def P_L_v_pairs : List PySem.Str := [("_law_n" : PySem.Str)]
theorem sc_L_v_pairs : FnScope N_L_v_pairs P_L_v_pairs (defScope sL_v_pairs) := ⟨rfl, rfl, rfl, by decide +kernel, rfl, by decide +kernel, by decide +kernel⟩
theorem Tx.d_L_v_pairs {K : PySem.W.Frag} {mg : PySem.Str → Option Value} (T : Tx K mg) : FunD K "_law_v_pairs" "_law_v_pairs" (defArgs sL_v_pairs) (defBody sL_v_pairs) (defScope sL_v_pairs) [] [] aL_v_pairs (fdAt K aL_v_pairs) := T.says.def_ 49 rfl
theorem Tx.b_L_v_pairs {K : PySem.W.Frag} {mg : PySem.Str → Option Value} (T : Tx K mg) : Binds K (fdAt K aL_v_pairs) P_L_v_pairs [] := T.d_L_v_pairs.bindsN fun _ _ _ _ _ _ us hl => match us, hl with | [_], _ => rfl
def N_L_v_some_sets : List PySem.Str := [("_law_pen" : PySem.Str), ("_law_n" : PySem.Str), ("_law_sets" : PySem.Str), ("_law_found" : PySem.Str), ("_law_turn" : PySem.Str), ("_law_x" : PySem.Str)]
def P_L_v_some_sets : List PySem.Str := [("_law_pen" : PySem.Str), ("_law_n" : PySem.Str)]
theorem sc_L_v_some_sets : FnScope N_L_v_some_sets P_L_v_some_sets (defScope sL_v_some_sets) := ⟨rfl, rfl, rfl, by decide +kernel, rfl, by decide +kernel, by decide +kernel⟩
theorem Tx.d_L_v_some_sets {K : PySem.W.Frag} {mg : PySem.Str → Option Value} (T : Tx K mg) : FunD K "_law_v_some_sets" "_law_v_some_sets" (defArgs sL_v_some_sets) (defBody sL_v_some_sets) (defScope sL_v_some_sets) [] [] aL_v_some_sets (fdAt K aL_v_some_sets) := T.says.def_ 50 rfl
theorem Tx.b_L_v_some_sets {K : PySem.W.Frag} {mg : PySem.Str → Option Value} (T : Tx K mg) : Binds K (fdAt K aL_v_some_sets) P_L_v_some_sets [] := T.d_L_v_some_sets.bindsN fun _ _ _ _ _ _ us hl => match us, hl with | [_, _], _ => rfl
def N_L_v_part_rows : List PySem.Str := [("_law_pen" : PySem.Str), ("_law_n" : PySem.Str), ("_law_s" : PySem.Str)]
def P_L_v_part_rows : List PySem.Str := [("_law_pen" : PySem.Str), ("_law_n" : PySem.Str)]
theorem sc_L_v_part_rows : FnScope N_L_v_part_rows P_L_v_part_rows (defScope sL_v_part_rows) := ⟨rfl, rfl, rfl, by decide +kernel, rfl, by decide +kernel, by decide +kernel⟩
theorem Tx.d_L_v_part_rows {K : PySem.W.Frag} {mg : PySem.Str → Option Value} (T : Tx K mg) : FunD K "_law_v_part_rows" "_law_v_part_rows" (defArgs sL_v_part_rows) (defBody sL_v_part_rows) (defScope sL_v_part_rows) [] [] aL_v_part_rows (fdAt K aL_v_part_rows) := T.says.def_ 51 rfl
theorem Tx.b_L_v_part_rows {K : PySem.W.Frag} {mg : PySem.Str → Option Value} (T : Tx K mg) : Binds K (fdAt K aL_v_part_rows) P_L_v_part_rows [] := T.d_L_v_part_rows.bindsN fun _ _ _ _ _ _ us hl => match us, hl with | [_, _], _ => rfl
def N_L_v_leaf : List PySem.Str := [("_law_pen" : PySem.Str), ("_law_n" : PySem.Str), ("_law_heads" : PySem.Str), ("_law_count" : PySem.Str), ("_law_many" : PySem.Str), ("_law_some" : PySem.Str), ("_law_s" : PySem.Str), ("_law_j" : PySem.Str)]
def P_L_v_leaf : List PySem.Str := [("_law_pen" : PySem.Str), ("_law_n" : PySem.Str), ("_law_heads" : PySem.Str)]
theorem sc_L_v_leaf : FnScope N_L_v_leaf P_L_v_leaf (defScope sL_v_leaf) := ⟨rfl, rfl, rfl, by decide +kernel, rfl, by decide +kernel, by decide +kernel⟩
theorem Tx.d_L_v_leaf {K : PySem.W.Frag} {mg : PySem.Str → Option Value} (T : Tx K mg) : FunD K "_law_v_leaf" "_law_v_leaf" (defArgs sL_v_leaf) (defBody sL_v_leaf) (defScope sL_v_leaf) [] [] aL_v_leaf (fdAt K aL_v_leaf) := T.says.def_ 52 rfl
theorem Tx.b_L_v_leaf {K : PySem.W.Frag} {mg : PySem.Str → Option Value} (T : Tx K mg) : Binds K (fdAt K aL_v_leaf) P_L_v_leaf [] := T.d_L_v_leaf.bindsN fun _ _ _ _ _ _ us hl => match us, hl with | [_, _, _], _ => rfl
def N_L_v_text : List PySem.Str := [("_law_pen" : PySem.Str), ("_law_n" : PySem.Str), ("_law_heads" : PySem.Str), ("_law_deep" : PySem.Str), ("_law_left" : PySem.Str), ("_law_way" : PySem.Str), ("_law_first" : PySem.Str), ("_law_x" : PySem.Str), ("_law_some" : PySem.Str), ("_law_side" : PySem.Str), ("_law_many" : PySem.Str), ("_law_turn" : PySem.Str)]
def P_L_v_text : List PySem.Str := [("_law_pen" : PySem.Str), ("_law_n" : PySem.Str), ("_law_heads" : PySem.Str), ("_law_deep" : PySem.Str), ("_law_left" : PySem.Str)]
theorem sc_L_v_text : FnScope N_L_v_text P_L_v_text (defScope sL_v_text) := ⟨rfl, rfl, rfl, by decide +kernel, rfl, by decide +kernel, by decide +kernel⟩
theorem Tx.d_L_v_text {K : PySem.W.Frag} {mg : PySem.Str → Option Value} (T : Tx K mg) : FunD K "_law_v_text" "_law_v_text" (defArgs sL_v_text) (defBody sL_v_text) (defScope sL_v_text) [] [] aL_v_text (fdAt K aL_v_text) := T.says.def_ 53 rfl
theorem Tx.b_L_v_text {K : PySem.W.Frag} {mg : PySem.Str → Option Value} (T : Tx K mg) : Binds K (fdAt K aL_v_text) P_L_v_text [] := T.d_L_v_text.bindsN fun _ _ _ _ _ _ us hl => match us, hl with | [_, _, _, _, _], _ => rfl
def N_L_v_system : List PySem.Str := [("_law_pen" : PySem.Str), ("_law_limit" : PySem.Str), ("_law_deep" : PySem.Str), ("_law_n" : PySem.Str), ("_law_many" : PySem.Str), ("_law_found" : PySem.Str), ("_law_count" : PySem.Str), ("_law_k" : PySem.Str)]
def P_L_v_system : List PySem.Str := [("_law_pen" : PySem.Str), ("_law_limit" : PySem.Str), ("_law_deep" : PySem.Str)]
theorem sc_L_v_system : FnScope N_L_v_system P_L_v_system (defScope sL_v_system) := ⟨rfl, rfl, rfl, by decide +kernel, rfl, by decide +kernel, by decide +kernel⟩
theorem Tx.d_L_v_system {K : PySem.W.Frag} {mg : PySem.Str → Option Value} (T : Tx K mg) : FunD K "_law_v_system" "_law_v_system" (defArgs sL_v_system) (defBody sL_v_system) (defScope sL_v_system) [] [] aL_v_system (fdAt K aL_v_system) := T.says.def_ 54 rfl
theorem Tx.b_L_v_system {K : PySem.W.Frag} {mg : PySem.Str → Option Value} (T : Tx K mg) : Binds K (fdAt K aL_v_system) P_L_v_system [] := T.d_L_v_system.bindsN fun _ _ _ _ _ _ us hl => match us, hl with | [_, _, _], _ => rfl
def N_L_v_texts_in : List PySem.Str := [("_law_text" : PySem.Str)]
def P_L_v_texts_in : List PySem.Str := [("_law_text" : PySem.Str)]
theorem sc_L_v_texts_in : FnScope N_L_v_texts_in P_L_v_texts_in (defScope sL_v_texts_in) := ⟨rfl, rfl, rfl, by decide +kernel, rfl, by decide +kernel, by decide +kernel⟩
theorem Tx.d_L_v_texts_in {K : PySem.W.Frag} {mg : PySem.Str → Option Value} (T : Tx K mg) : FunD K "_law_v_texts_in" "_law_v_texts_in" (defArgs sL_v_texts_in) (defBody sL_v_texts_in) (defScope sL_v_texts_in) [] [] aL_v_texts_in (fdAt K aL_v_texts_in) := T.says.def_ 55 rfl
theorem Tx.b_L_v_texts_in {K : PySem.W.Frag} {mg : PySem.Str → Option Value} (T : Tx K mg) : Binds K (fdAt K aL_v_texts_in) P_L_v_texts_in [] := T.d_L_v_texts_in.bindsN fun _ _ _ _ _ _ us hl => match us, hl with | [_], _ => rfl
def N_L_v_text_at : List PySem.Str := [("_law_texts" : PySem.Str), ("_law_place" : PySem.Str), ("_law_text" : PySem.Str), ("_law_number" : PySem.Str), ("_law_some" : PySem.Str)]
def P_L_v_text_at : List PySem.Str := [("_law_texts" : PySem.Str), ("_law_place" : PySem.Str)]
theorem sc_L_v_text_at : FnScope N_L_v_text_at P_L_v_text_at (defScope sL_v_text_at) := ⟨rfl, rfl, rfl, by decide +kernel, rfl, by decide +kernel, by decide +kernel⟩
theorem Tx.d_L_v_text_at {K : PySem.W.Frag} {mg : PySem.Str → Option Value} (T : Tx K mg) : FunD K "_law_v_text_at" "_law_v_text_at" (defArgs sL_v_text_at) (defBody sL_v_text_at) (defScope sL_v_text_at) [] [] aL_v_text_at (fdAt K aL_v_text_at) := T.says.def_ 56 rfl
theorem Tx.b_L_v_text_at {K : PySem.W.Frag} {mg : PySem.Str → Option Value} (T : Tx K mg) : Binds K (fdAt K aL_v_text_at) P_L_v_text_at [] := T.d_L_v_text_at.bindsN fun _ _ _ _ _ _ us hl => match us, hl with | [_, _], _ => rfl
def N_L_v_truths : List PySem.Str := [("_law_n" : PySem.Str), ("_law_rows" : PySem.Str), ("_law_found" : PySem.Str), ("_law_s" : PySem.Str), ("_law_x" : PySem.Str), ("_law_y" : PySem.Str)]
def P_L_v_truths : List PySem.Str := [("_law_n" : PySem.Str), ("_law_rows" : PySem.Str)]
theorem sc_L_v_truths : FnScope N_L_v_truths P_L_v_truths (defScope sL_v_truths) := ⟨rfl, rfl, rfl, by decide +kernel, rfl, by decide +kernel, by decide +kernel⟩
theorem Tx.d_L_v_truths {K : PySem.W.Frag} {mg : PySem.Str → Option Value} (T : Tx K mg) : FunD K "_law_v_truths" "_law_v_truths" (defArgs sL_v_truths) (defBody sL_v_truths) (defScope sL_v_truths) [] [] aL_v_truths (fdAt K aL_v_truths) := T.says.def_ 57 rfl
theorem Tx.b_L_v_truths {K : PySem.W.Frag} {mg : PySem.Str → Option Value} (T : Tx K mg) : Binds K (fdAt K aL_v_truths) P_L_v_truths [] := T.d_L_v_truths.bindsN fun _ _ _ _ _ _ us hl => match us, hl with | [_, _], _ => rfl
def N_L_v_all : List PySem.Str := [("_law_n" : PySem.Str), ("_law_truth" : PySem.Str), ("_law_pair" : PySem.Str)]
def P_L_v_all : List PySem.Str := [("_law_n" : PySem.Str), ("_law_truth" : PySem.Str)]
theorem sc_L_v_all : FnScope N_L_v_all P_L_v_all (defScope sL_v_all) := ⟨rfl, rfl, rfl, by decide +kernel, rfl, by decide +kernel, by decide +kernel⟩
theorem Tx.d_L_v_all {K : PySem.W.Frag} {mg : PySem.Str → Option Value} (T : Tx K mg) : FunD K "_law_v_all" "_law_v_all" (defArgs sL_v_all) (defBody sL_v_all) (defScope sL_v_all) [] [] aL_v_all (fdAt K aL_v_all) := T.says.def_ 58 rfl
theorem Tx.b_L_v_all {K : PySem.W.Frag} {mg : PySem.Str → Option Value} (T : Tx K mg) : Binds K (fdAt K aL_v_all) P_L_v_all [] := T.d_L_v_all.bindsN fun _ _ _ _ _ _ us hl => match us, hl with | [_, _], _ => rfl
def N_L_v_then : List PySem.Str := [("_law_n" : PySem.Str), ("_law_first" : PySem.Str), ("_law_later" : PySem.Str), ("_law_found" : PySem.Str), ("_law_x" : PySem.Str), ("_law_y" : PySem.Str), ("_law_t" : PySem.Str), ("_law_s" : PySem.Str)]
def P_L_v_then : List PySem.Str := [("_law_n" : PySem.Str), ("_law_first" : PySem.Str), ("_law_later" : PySem.Str)]
theorem sc_L_v_then : FnScope N_L_v_then P_L_v_then (defScope sL_v_then) := ⟨rfl, rfl, rfl, by decide +kernel, rfl, by decide +kernel, by decide +kernel⟩
theorem Tx.d_L_v_then {K : PySem.W.Frag} {mg : PySem.Str → Option Value} (T : Tx K mg) : FunD K "_law_v_then" "_law_v_then" (defArgs sL_v_then) (defBody sL_v_then) (defScope sL_v_then) [] [] aL_v_then (fdAt K aL_v_then) := T.says.def_ 59 rfl
theorem Tx.b_L_v_then {K : PySem.W.Frag} {mg : PySem.Str → Option Value} (T : Tx K mg) : Binds K (fdAt K aL_v_then) P_L_v_then [] := T.d_L_v_then.bindsN fun _ _ _ _ _ _ us hl => match us, hl with | [_, _, _], _ => rfl
def N_L_v_round : List PySem.Str := [("_law_n" : PySem.Str), ("_law_text" : PySem.Str), ("_law_parts" : PySem.Str), ("_law_calls" : PySem.Str), ("_law_kind" : PySem.Str), ("_law_found" : PySem.Str), ("_law_some" : PySem.Str), ("_law_one" : PySem.Str), ("_law_s" : PySem.Str), ("_law_x" : PySem.Str)]
def P_L_v_round : List PySem.Str := [("_law_n" : PySem.Str), ("_law_text" : PySem.Str), ("_law_parts" : PySem.Str), ("_law_calls" : PySem.Str)]
theorem sc_L_v_round : FnScope N_L_v_round P_L_v_round (defScope sL_v_round) := ⟨rfl, rfl, rfl, by decide +kernel, rfl, by decide +kernel, by decide +kernel⟩
theorem Tx.d_L_v_round {K : PySem.W.Frag} {mg : PySem.Str → Option Value} (T : Tx K mg) : FunD K "_law_v_round" "_law_v_round" (defArgs sL_v_round) (defBody sL_v_round) (defScope sL_v_round) [] [] aL_v_round (fdAt K aL_v_round) := T.says.def_ 60 rfl
theorem Tx.b_L_v_round {K : PySem.W.Frag} {mg : PySem.Str → Option Value} (T : Tx K mg) : Binds K (fdAt K aL_v_round) P_L_v_round [] := T.d_L_v_round.bindsN fun _ _ _ _ _ _ us hl => match us, hl with | [_, _, _, _], _ => rfl
def N_L_v_rounds : List PySem.Str := [("_law_system" : PySem.Str), ("_law_rows" : PySem.Str), ("_law_rule" : PySem.Str), ("_law_n" : PySem.Str), ("_law_many" : PySem.Str), ("_law_texts" : PySem.Str), ("_law_parts" : PySem.Str), ("_law_one" : PySem.Str), ("_law_found" : PySem.Str), ("_law_text" : PySem.Str), ("_law_now" : PySem.Str)]
def P_L_v_rounds : List PySem.Str := [("_law_system" : PySem.Str), ("_law_rows" : PySem.Str), ("_law_rule" : PySem.Str)]
theorem sc_L_v_rounds : FnScope N_L_v_rounds P_L_v_rounds (defScope sL_v_rounds) := ⟨rfl, rfl, rfl, by decide +kernel, rfl, by decide +kernel, by decide +kernel⟩
theorem Tx.d_L_v_rounds {K : PySem.W.Frag} {mg : PySem.Str → Option Value} (T : Tx K mg) : FunD K "_law_v_rounds" "_law_v_rounds" (defArgs sL_v_rounds) (defBody sL_v_rounds) (defScope sL_v_rounds) [] [] aL_v_rounds (fdAt K aL_v_rounds) := T.says.def_ 61 rfl
theorem Tx.b_L_v_rounds {K : PySem.W.Frag} {mg : PySem.Str → Option Value} (T : Tx K mg) : Binds K (fdAt K aL_v_rounds) P_L_v_rounds [] := T.d_L_v_rounds.bindsN fun _ _ _ _ _ _ us hl => match us, hl with | [_, _, _], _ => rfl
def N_L_v_contract : List PySem.Str := [("_law_n" : PySem.Str), ("_law_truths" : PySem.Str), ("_law_x" : PySem.Str), ("_law_s" : PySem.Str)]
def P_L_v_contract : List PySem.Str := [("_law_n" : PySem.Str), ("_law_truths" : PySem.Str)]
theorem sc_L_v_contract : FnScope N_L_v_contract P_L_v_contract (defScope sL_v_contract) := ⟨rfl, rfl, rfl, by decide +kernel, rfl, by decide +kernel, by decide +kernel⟩
theorem Tx.d_L_v_contract {K : PySem.W.Frag} {mg : PySem.Str → Option Value} (T : Tx K mg) : FunD K "_law_v_contract" "_law_v_contract" (defArgs sL_v_contract) (defBody sL_v_contract) (defScope sL_v_contract) [] [] aL_v_contract (fdAt K aL_v_contract) := T.says.def_ 62 rfl
theorem Tx.b_L_v_contract {K : PySem.W.Frag} {mg : PySem.Str → Option Value} (T : Tx K mg) : Binds K (fdAt K aL_v_contract) P_L_v_contract [] := T.d_L_v_contract.bindsN fun _ _ _ _ _ _ us hl => match us, hl with | [_, _], _ => rfl
def N_L_v_places : List PySem.Str := [("_law_texts" : PySem.Str), ("_law_found" : PySem.Str), ("_law_k" : PySem.Str), ("_law_at" : PySem.Str), ("_law_path" : PySem.Str), ("_law_some" : PySem.Str), ("_law_number" : PySem.Str)]
def P_L_v_places : List PySem.Str := [("_law_texts" : PySem.Str)]
theorem sc_L_v_places : FnScope N_L_v_places P_L_v_places (defScope sL_v_places) := ⟨rfl, rfl, rfl, by decide +kernel, rfl, by decide +kernel, by decide +kernel⟩
theorem Tx.d_L_v_places {K : PySem.W.Frag} {mg : PySem.Str → Option Value} (T : Tx K mg) : FunD K "_law_v_places" "_law_v_places" (defArgs sL_v_places) (defBody sL_v_places) (defScope sL_v_places) [] [] aL_v_places (fdAt K aL_v_places) := T.says.def_ 63 rfl
theorem Tx.b_L_v_places {K : PySem.W.Frag} {mg : PySem.Str → Option Value} (T : Tx K mg) : Binds K (fdAt K aL_v_places) P_L_v_places [] := T.d_L_v_places.bindsN fun _ _ _ _ _ _ us hl => match us, hl with | [_], _ => rfl
def N_L_v_put : List PySem.Str := [("_law_text" : PySem.Str), ("_law_path" : PySem.Str), ("_law_other" : PySem.Str), ("_law_some" : PySem.Str)]
def P_L_v_put : List PySem.Str := [("_law_text" : PySem.Str), ("_law_path" : PySem.Str), ("_law_other" : PySem.Str)]
theorem sc_L_v_put : FnScope N_L_v_put P_L_v_put (defScope sL_v_put) := ⟨rfl, rfl, rfl, by decide +kernel, rfl, by decide +kernel, by decide +kernel⟩
theorem Tx.d_L_v_put {K : PySem.W.Frag} {mg : PySem.Str → Option Value} (T : Tx K mg) : FunD K "_law_v_put" "_law_v_put" (defArgs sL_v_put) (defBody sL_v_put) (defScope sL_v_put) [] [] aL_v_put (fdAt K aL_v_put) := T.says.def_ 64 rfl
theorem Tx.b_L_v_put {K : PySem.W.Frag} {mg : PySem.Str → Option Value} (T : Tx K mg) : Binds K (fdAt K aL_v_put) P_L_v_put [] := T.d_L_v_put.bindsN fun _ _ _ _ _ _ us hl => match us, hl with | [_, _, _], _ => rfl
def N_L_v_values : List PySem.Str := [("_law_system" : PySem.Str), ("_law_parts" : PySem.Str), ("_law_rule" : PySem.Str), ("_law_k" : PySem.Str)]
def P_L_v_values : List PySem.Str := [("_law_system" : PySem.Str), ("_law_parts" : PySem.Str), ("_law_rule" : PySem.Str)]
theorem sc_L_v_values : FnScope N_L_v_values P_L_v_values (defScope sL_v_values) := ⟨rfl, rfl, rfl, by decide +kernel, rfl, by decide +kernel, by decide +kernel⟩
theorem Tx.d_L_v_values {K : PySem.W.Frag} {mg : PySem.Str → Option Value} (T : Tx K mg) : FunD K "_law_v_values" "_law_v_values" (defArgs sL_v_values) (defBody sL_v_values) (defScope sL_v_values) [] [] aL_v_values (fdAt K aL_v_values) := T.says.def_ 65 rfl
theorem Tx.b_L_v_values {K : PySem.W.Frag} {mg : PySem.Str → Option Value} (T : Tx K mg) : Binds K (fdAt K aL_v_values) P_L_v_values [] := T.d_L_v_values.bindsN fun _ _ _ _ _ _ us hl => match us, hl with | [_, _, _], _ => rfl
def N_L_v_as_had : List PySem.Str := [("_law_n" : PySem.Str), ("_law_rows" : PySem.Str), ("_law_system" : PySem.Str), ("_law_place" : PySem.Str), ("_law_rule" : PySem.Str), ("_law_last" : PySem.Str), ("_law_text" : PySem.Str), ("_law_found" : PySem.Str), ("_law_one" : PySem.Str)]
def P_L_v_as_had : List PySem.Str := [("_law_n" : PySem.Str), ("_law_rows" : PySem.Str), ("_law_system" : PySem.Str), ("_law_place" : PySem.Str), ("_law_rule" : PySem.Str)]
theorem sc_L_v_as_had : FnScope N_L_v_as_had P_L_v_as_had (defScope sL_v_as_had) := ⟨rfl, rfl, rfl, by decide +kernel, rfl, by decide +kernel, by decide +kernel⟩
theorem Tx.d_L_v_as_had {K : PySem.W.Frag} {mg : PySem.Str → Option Value} (T : Tx K mg) : FunD K "_law_v_as_had" "_law_v_as_had" (defArgs sL_v_as_had) (defBody sL_v_as_had) (defScope sL_v_as_had) [] [] aL_v_as_had (fdAt K aL_v_as_had) := T.says.def_ 66 rfl
theorem Tx.b_L_v_as_had {K : PySem.W.Frag} {mg : PySem.Str → Option Value} (T : Tx K mg) : Binds K (fdAt K aL_v_as_had) P_L_v_as_had [] := T.d_L_v_as_had.bindsN fun _ _ _ _ _ _ us hl => match us, hl with | [_, _, _, _, _], _ => rfl
def N_L_v_replaced_right : List PySem.Str := [("_law_pen" : PySem.Str), ("_law_system" : PySem.Str), ("_law_parts" : PySem.Str), ("_law_rows" : PySem.Str), ("_law_rule" : PySem.Str), ("_law_n" : PySem.Str), ("_law_many" : PySem.Str), ("_law_texts" : PySem.Str), ("_law_k" : PySem.Str), ("_law_path" : PySem.Str), ("_law_other" : PySem.Str), ("_law_more" : PySem.Str)]
def P_L_v_replaced_right : List PySem.Str := [("_law_pen" : PySem.Str), ("_law_system" : PySem.Str), ("_law_parts" : PySem.Str), ("_law_rows" : PySem.Str), ("_law_rule" : PySem.Str)]
theorem sc_L_v_replaced_right : FnScope N_L_v_replaced_right P_L_v_replaced_right (defScope sL_v_replaced_right) := ⟨rfl, rfl, rfl, by decide +kernel, rfl, by decide +kernel, by decide +kernel⟩
theorem Tx.d_L_v_replaced_right {K : PySem.W.Frag} {mg : PySem.Str → Option Value} (T : Tx K mg) : FunD K "_law_v_replaced_right" "_law_v_replaced_right" (defArgs sL_v_replaced_right) (defBody sL_v_replaced_right) (defScope sL_v_replaced_right) [] [] aL_v_replaced_right (fdAt K aL_v_replaced_right) := T.says.def_ 67 rfl
theorem Tx.b_L_v_replaced_right {K : PySem.W.Frag} {mg : PySem.Str → Option Value} (T : Tx K mg) : Binds K (fdAt K aL_v_replaced_right) P_L_v_replaced_right [] := T.d_L_v_replaced_right.bindsN fun _ _ _ _ _ _ us hl => match us, hl with | [_, _, _, _, _], _ => rfl
def N_L_v_more_right : List PySem.Str := [("_law_pen" : PySem.Str), ("_law_system" : PySem.Str), ("_law_parts" : PySem.Str), ("_law_rows" : PySem.Str), ("_law_rule" : PySem.Str), ("_law_n" : PySem.Str), ("_law_many" : PySem.Str), ("_law_texts" : PySem.Str), ("_law_greater" : PySem.Str), ("_law_sets" : PySem.Str), ("_law_one" : PySem.Str), ("_law_others" : PySem.Str), ("_law_k" : PySem.Str), ("_law_value" : PySem.Str), ("_law_longer" : PySem.Str)]
def P_L_v_more_right : List PySem.Str := [("_law_pen" : PySem.Str), ("_law_system" : PySem.Str), ("_law_parts" : PySem.Str), ("_law_rows" : PySem.Str), ("_law_rule" : PySem.Str)]
theorem sc_L_v_more_right : FnScope N_L_v_more_right P_L_v_more_right (defScope sL_v_more_right) := ⟨rfl, rfl, rfl, by decide +kernel, rfl, by decide +kernel, by decide +kernel⟩
theorem Tx.d_L_v_more_right {K : PySem.W.Frag} {mg : PySem.Str → Option Value} (T : Tx K mg) : FunD K "_law_v_more_right" "_law_v_more_right" (defArgs sL_v_more_right) (defBody sL_v_more_right) (defScope sL_v_more_right) [] [] aL_v_more_right (fdAt K aL_v_more_right) := T.says.def_ 68 rfl
theorem Tx.b_L_v_more_right {K : PySem.W.Frag} {mg : PySem.Str → Option Value} (T : Tx K mg) : Binds K (fdAt K aL_v_more_right) P_L_v_more_right [] := T.d_L_v_more_right.bindsN fun _ _ _ _ _ _ us hl => match us, hl with | [_, _, _, _, _], _ => rfl
def N_law : List PySem.Str := [("_law_script" : PySem.Str), ("_law_pen" : PySem.Str), ("_law_turn" : PySem.Str), ("_law_system" : PySem.Str), ("_law_n" : PySem.Str), ("_law_rows" : PySem.Str), ("_law_j" : PySem.Str), ("_law_parts" : PySem.Str), ("_law_one" : PySem.Str), ("_law_rule" : PySem.Str), ("_law_k" : PySem.Str)]
def P_law : List PySem.Str := [("_law_script" : PySem.Str)]
theorem sc_law : FnScope N_law P_law (defScope slaw) := ⟨rfl, rfl, rfl, by decide +kernel, rfl, by decide +kernel, by decide +kernel⟩
theorem Tx.d_law {K : PySem.W.Frag} {mg : PySem.Str → Option Value} (T : Tx K mg) : FunD K "law" "law" (defArgs slaw) (defBody slaw) (defScope slaw) [] [] alaw (fdAt K alaw) := T.says.def_ 69 rfl
theorem Tx.b_law {K : PySem.W.Frag} {mg : PySem.Str → Option Value} (T : Tx K mg) : Binds K (fdAt K alaw) P_law [] := T.d_law.bindsN fun _ _ _ _ _ _ us hl => match us, hl with | [_], _ => rfl
def N_Contract___init__ : List PySem.Str := [("self" : PySem.Str), ("ends" : PySem.Str), ("rows" : PySem.Str), ("sets" : PySem.Str), ("x" : PySem.Str)]
def P_Contract___init__ : List PySem.Str := [("self" : PySem.Str), ("ends" : PySem.Str), ("rows" : PySem.Str)]
theorem sc_Contract___init__ : FnScope N_Contract___init__ P_Contract___init__ (defScope sContract___init__) := ⟨rfl, rfl, rfl, by decide +kernel, rfl, by decide +kernel, by decide +kernel⟩
theorem Tx.d_Contract___init__ {K : PySem.W.Frag} {mg : PySem.Str → Option Value} (T : Tx K mg) : FunD K "__init__" "Contract.__init__" (defArgs sContract___init__) (defBody sContract___init__) (defScope sContract___init__) [] [] aContract___init__ (fdAt K aContract___init__) := T.says.def_ 70 rfl
theorem Tx.b_Contract___init__ {K : PySem.W.Frag} {mg : PySem.Str → Option Value} (T : Tx K mg) : Binds K (fdAt K aContract___init__) P_Contract___init__ [] := T.d_Contract___init__.bindsN fun _ _ _ _ _ _ us hl => match us, hl with | [_, _, _], _ => rfl
def N_Contract___getitem__ : List PySem.Str := [("self" : PySem.Str), ("s" : PySem.Str)]
def P_Contract___getitem__ : List PySem.Str := [("self" : PySem.Str), ("s" : PySem.Str)]
theorem sc_Contract___getitem__ : FnScope N_Contract___getitem__ P_Contract___getitem__ (defScope sContract___getitem__) := ⟨rfl, rfl, rfl, by decide +kernel, rfl, by decide +kernel, by decide +kernel⟩
theorem Tx.d_Contract___getitem__ {K : PySem.W.Frag} {mg : PySem.Str → Option Value} (T : Tx K mg) : FunD K "__getitem__" "Contract.__getitem__" (defArgs sContract___getitem__) (defBody sContract___getitem__) (defScope sContract___getitem__) [] [] aContract___getitem__ (fdAt K aContract___getitem__) := T.says.def_ 71 rfl
theorem Tx.b_Contract___getitem__ {K : PySem.W.Frag} {mg : PySem.Str → Option Value} (T : Tx K mg) : Binds K (fdAt K aContract___getitem__) P_Contract___getitem__ [] := T.d_Contract___getitem__.bindsN fun _ _ _ _ _ _ us hl => match us, hl with | [_, _], _ => rfl
def N_Contract___contains__ : List PySem.Str := [("self" : PySem.Str), ("pair" : PySem.Str)]
def P_Contract___contains__ : List PySem.Str := [("self" : PySem.Str), ("pair" : PySem.Str)]
theorem sc_Contract___contains__ : FnScope N_Contract___contains__ P_Contract___contains__ (defScope sContract___contains__) := ⟨rfl, rfl, rfl, by decide +kernel, rfl, by decide +kernel, by decide +kernel⟩
theorem Tx.d_Contract___contains__ {K : PySem.W.Frag} {mg : PySem.Str → Option Value} (T : Tx K mg) : FunD K "__contains__" "Contract.__contains__" (defArgs sContract___contains__) (defBody sContract___contains__) (defScope sContract___contains__) [] [] aContract___contains__ (fdAt K aContract___contains__) := T.says.def_ 72 rfl
theorem Tx.b_Contract___contains__ {K : PySem.W.Frag} {mg : PySem.Str → Option Value} (T : Tx K mg) : Binds K (fdAt K aContract___contains__) P_Contract___contains__ [] := T.d_Contract___contains__.bindsN fun _ _ _ _ _ _ us hl => match us, hl with | [_, _], _ => rfl
def N_Contract___str__ : List PySem.Str := [("self" : PySem.Str)]
def P_Contract___str__ : List PySem.Str := [("self" : PySem.Str)]
theorem sc_Contract___str__ : FnScope N_Contract___str__ P_Contract___str__ (defScope sContract___str__) := ⟨rfl, rfl, rfl, by decide +kernel, rfl, by decide +kernel, by decide +kernel⟩
theorem Tx.d_Contract___str__ {K : PySem.W.Frag} {mg : PySem.Str → Option Value} (T : Tx K mg) : FunD K "__str__" "Contract.__str__" (defArgs sContract___str__) (defBody sContract___str__) (defScope sContract___str__) [] [] aContract___str__ (fdAt K aContract___str__) := T.says.def_ 73 rfl
theorem Tx.b_Contract___str__ {K : PySem.W.Frag} {mg : PySem.Str → Option Value} (T : Tx K mg) : Binds K (fdAt K aContract___str__) P_Contract___str__ [] := T.d_Contract___str__.bindsN fun _ _ _ _ _ _ us hl => match us, hl with | [_], _ => rfl
def N_Contract___eq__ : List PySem.Str := [("self" : PySem.Str), ("other" : PySem.Str)]
def P_Contract___eq__ : List PySem.Str := [("self" : PySem.Str), ("other" : PySem.Str)]
theorem sc_Contract___eq__ : FnScope N_Contract___eq__ P_Contract___eq__ (defScope sContract___eq__) := ⟨rfl, rfl, rfl, by decide +kernel, rfl, by decide +kernel, by decide +kernel⟩
theorem Tx.d_Contract___eq__ {K : PySem.W.Frag} {mg : PySem.Str → Option Value} (T : Tx K mg) : FunD K "__eq__" "Contract.__eq__" (defArgs sContract___eq__) (defBody sContract___eq__) (defScope sContract___eq__) [] [] aContract___eq__ (fdAt K aContract___eq__) := T.says.def_ 74 rfl
theorem Tx.b_Contract___eq__ {K : PySem.W.Frag} {mg : PySem.Str → Option Value} (T : Tx K mg) : Binds K (fdAt K aContract___eq__) P_Contract___eq__ [] := T.d_Contract___eq__.bindsN fun _ _ _ _ _ _ us hl => match us, hl with | [_, _], _ => rfl
def N_Contract_within : List PySem.Str := [("self" : PySem.Str), ("other" : PySem.Str)]
def P_Contract_within : List PySem.Str := [("self" : PySem.Str), ("other" : PySem.Str)]
theorem sc_Contract_within : FnScope N_Contract_within P_Contract_within (defScope sContract_within) := ⟨rfl, rfl, rfl, by decide +kernel, rfl, by decide +kernel, by decide +kernel⟩
theorem Tx.d_Contract_within {K : PySem.W.Frag} {mg : PySem.Str → Option Value} (T : Tx K mg) : FunD K "within" "Contract.within" (defArgs sContract_within) (defBody sContract_within) (defScope sContract_within) [] [] aContract_within (fdAt K aContract_within) := T.says.def_ 75 rfl
theorem Tx.b_Contract_within {K : PySem.W.Frag} {mg : PySem.Str → Option Value} (T : Tx K mg) : Binds K (fdAt K aContract_within) P_Contract_within [] := T.d_Contract_within.bindsN fun _ _ _ _ _ _ us hl => match us, hl with | [_, _], _ => rfl
def N_Contract_states : List PySem.Str := [("self" : PySem.Str)]
def P_Contract_states : List PySem.Str := [("self" : PySem.Str)]
theorem sc_Contract_states : FnScope N_Contract_states P_Contract_states (defScope sContract_states) := ⟨rfl, rfl, rfl, by decide +kernel, rfl, by decide +kernel, by decide +kernel⟩
theorem Tx.d_Contract_states {K : PySem.W.Frag} {mg : PySem.Str → Option Value} (T : Tx K mg) : FunD K "states" "Contract.states" (defArgs sContract_states) (defBody sContract_states) (defScope sContract_states) [] [] aContract_states (fdAt K aContract_states) := T.says.def_ 76 rfl
theorem Tx.b_Contract_states {K : PySem.W.Frag} {mg : PySem.Str → Option Value} (T : Tx K mg) : Binds K (fdAt K aContract_states) P_Contract_states [] := T.d_Contract_states.bindsN fun _ _ _ _ _ _ us hl => match us, hl with | [_], _ => rfl
def N_Contract_ends : List PySem.Str := [("self" : PySem.Str)]
def P_Contract_ends : List PySem.Str := [("self" : PySem.Str)]
theorem sc_Contract_ends : FnScope N_Contract_ends P_Contract_ends (defScope sContract_ends) := ⟨rfl, rfl, rfl, by decide +kernel, rfl, by decide +kernel, by decide +kernel⟩
theorem Tx.d_Contract_ends {K : PySem.W.Frag} {mg : PySem.Str → Option Value} (T : Tx K mg) : FunD K "ends" "Contract.ends" (defArgs sContract_ends) (defBody sContract_ends) (defScope sContract_ends) [] [] aContract_ends (fdAt K aContract_ends) := T.says.def_ 77 rfl
theorem Tx.b_Contract_ends {K : PySem.W.Frag} {mg : PySem.Str → Option Value} (T : Tx K mg) : Binds K (fdAt K aContract_ends) P_Contract_ends [] := T.d_Contract_ends.bindsN fun _ _ _ _ _ _ us hl => match us, hl with | [_], _ => rfl
def N_Tables___init__ : List PySem.Str := [("self" : PySem.Str), ("system" : PySem.Str), ("parts" : PySem.Str), ("calls" : PySem.Str), ("k" : PySem.Str), ("text" : PySem.Str)]
def P_Tables___init__ : List PySem.Str := [("self" : PySem.Str), ("system" : PySem.Str), ("parts" : PySem.Str), ("calls" : PySem.Str)]
theorem sc_Tables___init__ : FnScope N_Tables___init__ P_Tables___init__ (defScope sTables___init__) := ⟨rfl, rfl, rfl, by decide +kernel, rfl, by decide +kernel, by decide +kernel⟩
theorem Tx.d_Tables___init__ {K : PySem.W.Frag} {mg : PySem.Str → Option Value} (T : Tx K mg) : FunD K "__init__" "Tables.__init__" (defArgs sTables___init__) (defBody sTables___init__) (defScope sTables___init__) [] [] aTables___init__ (fdAt K aTables___init__) := T.says.def_ 78 rfl
theorem Tx.b_Tables___init__ {K : PySem.W.Frag} {mg : PySem.Str → Option Value} (T : Tx K mg) : Binds K (fdAt K aTables___init__) P_Tables___init__ [] := T.d_Tables___init__.bindsN fun _ _ _ _ _ _ us hl => match us, hl with | [_, _, _, _], _ => rfl
def N_Tables_lay : List PySem.Str := [("self" : PySem.Str), ("place" : PySem.Str), ("text" : PySem.Str), ("n" : PySem.Str), ("inner" : PySem.Str), ("number" : PySem.Str), ("one" : PySem.Str), ("ways" : PySem.Str), ("found" : PySem.Str), ("s" : PySem.Str)]
def P_Tables_lay : List PySem.Str := [("self" : PySem.Str), ("place" : PySem.Str), ("text" : PySem.Str)]
theorem sc_Tables_lay : FnScope N_Tables_lay P_Tables_lay (defScope sTables_lay) := ⟨rfl, rfl, rfl, by decide +kernel, rfl, by decide +kernel, by decide +kernel⟩
theorem Tx.d_Tables_lay {K : PySem.W.Frag} {mg : PySem.Str → Option Value} (T : Tx K mg) : FunD K "lay" "Tables.lay" (defArgs sTables_lay) (defBody sTables_lay) (defScope sTables_lay) [] [] aTables_lay (fdAt K aTables_lay) := T.says.def_ 79 rfl
theorem Tx.b_Tables_lay {K : PySem.W.Frag} {mg : PySem.Str → Option Value} (T : Tx K mg) : Binds K (fdAt K aTables_lay) P_Tables_lay [] := T.d_Tables_lay.bindsN fun _ _ _ _ _ _ us hl => match us, hl with | [_, _, _], _ => rfl
def N_Tables_roots : List PySem.Str := [("self" : PySem.Str), ("k" : PySem.Str)]
def P_Tables_roots : List PySem.Str := [("self" : PySem.Str)]
theorem sc_Tables_roots : FnScope N_Tables_roots P_Tables_roots (defScope sTables_roots) := ⟨rfl, rfl, rfl, by decide +kernel, rfl, by decide +kernel, by decide +kernel⟩
theorem Tx.d_Tables_roots {K : PySem.W.Frag} {mg : PySem.Str → Option Value} (T : Tx K mg) : FunD K "roots" "Tables.roots" (defArgs sTables_roots) (defBody sTables_roots) (defScope sTables_roots) [] [] aTables_roots (fdAt K aTables_roots) := T.says.def_ 80 rfl
theorem Tx.b_Tables_roots {K : PySem.W.Frag} {mg : PySem.Str → Option Value} (T : Tx K mg) : Binds K (fdAt K aTables_roots) P_Tables_roots [] := T.d_Tables_roots.bindsN fun _ _ _ _ _ _ us hl => match us, hl with | [_], _ => rfl
end Tw
end
/-! TwRules3 -/
section
set_option Elab.async false
set_option linter.all false
set_option autoImplicit false
set_option maxRecDepth 100000
set_option maxHeartbeats 4000000
/-! Instances, own methods, dicts, texts; by types. -/
namespace Tw
open PySem PySem.Spec PyProof.Rows L2
open Evl (Ex ex_l ex_t ex_rd)
section
variable {k : Nat} {A : Around}
theorem hu64 (hr : Room k A) : A.units + 64 < cLine := hr.units
theorem hu65 (hr : Room k A) : A.units + 65 < cLine := by have := hr.un; omega
theorem hu10 (hr : Room k A) : A.units + 10 < cLine := by have := hr.un; omega
theorem hu12 (hr : Room k A) : A.units + 12 < cLine := by have := hr.un; omega
theorem hu16 (hr : Room k A) : A.units + 3 + 12 < cLine := by have := hr.un; omega
end
/-! ### what is walked, a list or a tuple -/
def iSeq (K : PySem.W.Frag) (tl : TE) : TI := fun σ H R => tl σ H fun x H1 => ∃ a, x = .ref a ∧ ((∃ xs, SqL K H1 a xs ∧ R (Itl K a) H1) ∨ ∃ xs, SqT K H1 a xs ∧ R (Itt K a) H1)
theorem pi_seq {X : Cx} {tg l : Expr} {tl : TE} (hl : PE X l tl) : PI X tg l (iSeq X.K tl) := by
  constructor
  intro pins s σ H R I h
  refine thn (hl.run pins s σ H _ I h) fun v sa ⟨x, Ha, Ia, ra, qa⟩ => ?_
  obtain ⟨a, rfl, qa⟩ := qa
  cases ra
  rcases qa with ⟨xs, hq, q⟩ | ⟨xs, hq, q⟩
  · obtain ⟨its, rv, pl, hz⟩ := Ia.list hq
    refine wpAny_pyIter_list pl.isList ?_
    refine ⟨sa.heap.objs.size, [sa.heap.objs.size], _, _, Ha, rfl, Ia.kept (t' := sa.toks) fun b o z => Heap.get?_push_of_some _ z, turn_list a _, ⟨_, Heap.get?_push_size _ rfl, rfl, rfl⟩, fun b hb => ?_, q⟩
    rw [List.mem_singleton.mp hb]
    exact Ia.fpOk (Nat.le_refl _) (Ia.hok.fresh (Nat.le_refl _))
  · obtain ⟨its, rv, pl, hz⟩ := Ia.tuple hq
    refine wpAny_pyIter_tuple (show sa.heap.IsTuple a its.toArray from pl) ?_
    refine ⟨sa.heap.objs.size, [sa.heap.objs.size], _, _, Ha, rfl, Ia.kept (t' := sa.toks) fun b o z => Heap.get?_push_of_some _ z, turn_tuple a _, ⟨_, Heap.get?_push_size _ rfl, rfl, rfl⟩, fun b hb => ?_, q⟩
    rw [List.mem_singleton.mp hb]
    exact Ia.fpOk (Nat.le_refl _) (Ia.hok.fresh (Nat.le_refl _))
section
variable {K : PySem.W.Frag} {Γ : TEnv} {M : Mem} {α : Type} {xs : List α} {gT : α → Ty} {tl : TE}
theorem ix_sLT (h : ET tl Γ M (LstT (xs.map gT))) : IX (iSeq K tl) Γ M xs gT := fun O σ I H R e h0 q =>
  h O σ I H _ e h0 fun v I1 H1 e1 h1 ⟨p, vs, g1, g2, g3⟩ => ⟨p, g1, .inl ⟨vs, SqL.of (h1.ex _ _ g2), q _ I1 H1 e1 h1 (iter_L g2 g3)⟩⟩
theorem ix_sTT (h : ET tl Γ M (TupT K (xs.map gT))) : IX (iSeq K tl) Γ M xs gT := fun O σ I H R e h0 q =>
  h O σ I H _ e h0 fun v I1 H1 e1 h1 ⟨p, vs, g1, g2, g3⟩ => ⟨p, g1, .inr ⟨vs, ex_t h1.ex g2, q _ I1 H1 e1 h1 (iter_T g2 g3)⟩⟩
theorem ix_sL {g : α → PyData} (h : ET tl Γ M (DT K (.list (xs.map g)))) : IX (iSeq K tl) Γ M xs (fun a => DT K (g a)) := ix_sLT (by
  rw [← lt_dt, List.map_map] at h
  exact h)
theorem ix_sT {g : α → PyData} (h : ET tl Γ M (DT K (.tuple (xs.map g)))) : IX (iSeq K tl) Γ M xs (fun a => DT K (g a)) := ix_sTT (by
  rw [← tt_dt, List.map_map] at h
  exact h)
end
/-! ### isinstance -/
section
variable {K : PySem.W.Frag} {Γ : TEnv} {M : Mem} {Ts : List Ty}
theorem tyx_tup {H : Hp} {a : Addr} {xs : List V} (h : SqT K H a xs) : TyX K H (.ref a) (.type "tuple") := by
  rcases h with (h | ⟨o, h⟩) | ⟨o, its, n, h, hc, _⟩
  · exact .base (.tup h)
  · exact .fTuple h
  · exact .kTuple h hc
theorem tyx_d {I H : Hp} {d : PyData} {v : V} (e : Ex I H) (h : Dq K I v d) : TyX K H v (.type (tyD d)) := by
  cases h with
  | non => exact .base .non
  | bl b => exact .base (.bl b)
  | int i => exact .base (.int i)
  | str x => exact .base (.str x)
  | lst a b => exact .base (.lst (e _ _ a))
  | tup a b => exact tyx_tup (ex_t e a)
theorem cx_isi {d : PyData} {c : String} {b : Bool} (h : kitB (tyD d) c = some b) : CX' (rIsi K) M [DT K d, VT (.ty c)] (DT K (.bool b)) := fun O I H xs Q h0 a q => by
  cases a with
  | cons a t =>
    cases t with
    | cons a2 t =>
      cases t
      cases a2
      exact ⟨_, _, _, _, b, rfl, .ty c, tyx_d h0.ex a, kit_ty h, q _ I H (Evl.Ex.refl I) h0 (.bl b)⟩
theorem cx_isiL {c : String} {b : Bool} (h : kitB "list" c = some b) : CX' (rIsi K) M [LstT Ts, VT (.ty c)] (DT K (.bool b)) := fun O I H xs Q h0 a q => by
  cases a with
  | cons a t =>
    cases t with
    | cons a2 t =>
      cases t
      cases a2
      obtain ⟨p, us, rfl, hp, hu⟩ := a
      exact ⟨_, _, _, _, b, rfl, .ty c, .base (.lst (h0.ex _ _ hp)), kit_ty h, q _ I H (Evl.Ex.refl I) h0 (.bl b)⟩
theorem cx_isiT {c : String} {b : Bool} (h : kitB "tuple" c = some b) : CX' (rIsi K) M [TupT K Ts, VT (.ty c)] (DT K (.bool b)) := fun O I H xs Q h0 a q => by
  cases a with
  | cons a t =>
    cases t with
    | cons a2 t =>
      cases t
      cases a2
      obtain ⟨p, us, rfl, hp, hu⟩ := a
      exact ⟨_, _, _, _, b, rfl, .ty c, tyx_tup (ex_t h0.ex hp), kit_ty h, q _ I H (Evl.Ex.refl I) h0 (.bl b)⟩
end
/-! ### instances -/
abbrev Fds := List (Str × Ty)
def FdR (I : Hp) (fs : Fds) (gs : List (Str × V)) : Prop := Paired (fun (f : Str × Ty) (g : Str × V) => f.1 = g.1 ∧ f.2.r I g.2) fs gs
theorem FdR.mono {I J : Hp} (e : Ex I J) : ∀ {fs : Fds} {gs : List (Str × V)}, FdR I fs gs → FdR J fs gs
  | _, _, .nil => .nil
  | (_, T) :: _, _, .cons ⟨a, b⟩ t => .cons ⟨a, T.mono e b⟩ (FdR.mono e t)
theorem FdR.look {I : Hp} {f : Str} {T : Ty} : ∀ {fs : Fds} {gs : List (Str × V)}, FdR I fs gs → fs.lookup f = some T → ∃ v, gs.lookup f = some v ∧ T.r I v
  | _, _, .nil, h => nomatch h
  | (f', T') :: fs, (g, v) :: gs, .cons ⟨a, b⟩ t, h => by
    have a' : f' = g := a
    subst a'
    rw [List.lookup_cons] at h ⊢
    cases c : f == f' with
    | true =>
      rw [c] at h
      cases h
      exact ⟨v, rfl, b⟩
    | false =>
      rw [c] at h
      exact FdR.look (fs := fs) (gs := gs) t h
theorem FdR.look0 {I : Hp} {f : Str} : ∀ {fs : Fds} {gs : List (Str × V)}, FdR I fs gs → fs.lookup f = none → gs.lookup f = none
  | _, _, .nil, h => rfl
  | (f', T') :: fs, (g, v) :: gs, .cons ⟨a, b⟩ t, h => by
    have a' : f' = g := a
    subst a'
    rw [List.lookup_cons] at h ⊢
    cases c : f == f' with
    | true =>
      rw [c] at h
      cases h
    | false =>
      rw [c] at h
      exact FdR.look0 (fs := fs) (gs := gs) t h
theorem FdR.length {I : Hp} : ∀ {fs : Fds} {gs : List (Str × V)}, FdR I fs gs → fs.length = gs.length
  | _, _, .nil => rfl
  | _, _, .cons _ t => congrArg (· + 1) (FdR.length t)
def putT (f : Str) (T : Ty) : Fds → Fds
  | [] => [(f, T)]
  | (g, U) :: r => if g = f then (g, T) :: r else (g, U) :: putT f T r
theorem FdR.put {I : Hp} {f : Str} {T : Ty} {v : V} (q : T.r I v) : ∀ {fs : Fds} {gs : List (Str × V)}, FdR I fs gs → FdR I (putT f T fs) (putF f v gs)
  | _, _, .nil => .cons ⟨rfl, q⟩ .nil
  | (f', T') :: fs, (g, u) :: gs, .cons ⟨a, b⟩ t => by
    have a' : f' = g := a
    subst a'
    unfold putT putF
    by_cases c : f' = f
    · rw [if_pos c, if_pos c]
      exact .cons ⟨rfl, q⟩ t
    · rw [if_neg c, if_neg c]
      exact .cons ⟨rfl, b⟩ (FdR.put (fs := fs) (gs := gs) q t)
/-- an instance that stays; one that is owned -/
def InsT (C : Addr) (fs : Fds) : Ty := ⟨fun I v => ∃ p dx gs, v = .ref p ∧ I p = some (.ins C dx gs) ∧ FdR I fs gs, fun e ⟨p, dx, gs, h1, h2, h3⟩ => ⟨p, dx, gs, h1, e _ _ h2, h3.mono e⟩⟩
def insC (C : Addr) (fs : Fds) : Cell := ⟨fun I o => ∃ dx gs, o = .ins C dx gs ∧ FdR I fs gs, fun e ⟨dx, gs, h1, h2⟩ => ⟨dx, gs, h1, h2.mono e⟩⟩
section
variable {K : PySem.W.Frag} {Γ : TEnv} {M : Mem} {O : Org} {D : Dest} {C : Addr} {fs : Fds} {f : Str} {T U : Ty} {te ta tb : TE} {ts : TA} {E : XK}
theorem et_fld (hc : Cls K C) (hn : NoAttr K C f) (h : ET te Γ M (InsT C fs)) (hf : fs.lookup f = some T) : ET (tFld K te f) Γ M T := fun O σ I H Q e h0 q =>
  h O σ I H _ e h0 fun v I1 H1 e1 h1 ⟨p, dx, gs, g1, g2, g3⟩ => by
    obtain ⟨u, hu, r⟩ := g3.look hf
    exact ⟨p, C, dx, gs, u, g1, h1.ex _ _ g2, hc, hn, hu, q u I1 H1 e1 h1 r⟩
/-- a field of an owned instance -/
theorem et_fldO (hc : Cls K C) (hn : NoAttr K C f) {j : Nat} {l : Addr} (hm : M[j]? = some (l, insC C fs)) (h : ET te Γ M (VT (.ref l))) (hf : fs.lookup f = some T) : ET (tFld K te f) Γ M T := fun O σ I H Q e h0 q =>
  h O σ I H _ e h0 fun v I1 H1 e1 h1 a => by
    cases a
    obtain ⟨_, _, o, ho, dx, gs, rfl, g3⟩ := h1.at_ _ (List.mem_of_getElem? hm)
    obtain ⟨u, hu, r⟩ := g3.look hf
    exact ⟨l, C, dx, gs, u, rfl, ho, hc, hn, hu, q u I1 H1 e1 h1 r⟩
/-- self.f = e, self owned -/
theorem st_fld (hc : Cls K C) (hn : NoAttr K C f) {i : Nat} {l : Addr} (hi : Γ[i]? = some (some (VT (.ref l)))) (h : EW te O Γ M fun T M' => ∃ (j : Nat) (fs : Fds), M'[j]? = some (l, insC C fs) ∧ fs.length < 1000 ∧ D.nx Γ (M'.set j (l, insC C (putT f T fs)))) :
    ST (sFld K (tVar i) te f) O Γ M D := fun σ I H E e h0 q =>
  h σ I H _ e h0 fun T M' v I1 H1 ⟨j, fs, hj, hl, n⟩ e1 h1 a => by
    obtain ⟨u, hu, rfl⟩ := e.2 i _ hi
    obtain ⟨_, _, o, ho, dx, gs, rfl, g3⟩ := h1.at_ _ (List.mem_of_getElem? hj)
    exact ⟨_, hu, l, C, dx, gs, rfl, ho, hc, hn, g3.length ▸ hl, q.nx _ _ _ _ _ n e1 (e.mono e1) (h1.write hj ⟨dx, _, rfl, g3.put a⟩)⟩
end
/-! ### own methods -/
section
variable {α : Type} {ok : α → Prop} {As : α → List Ty} {Rt : α → Ty} {Γ : TEnv} {M : Mem} {K : PySem.W.Frag} {C : Addr} {fs : Fds} {T U : Ty} {te ta tb : TE} {ts : TA} {E : XK} {Ts : List Ty}
/-- the promise of a def without effects, used by values -/
theorem use_P {O : Org} {I H : Hp} {vs : List V} {Q : VK} (a : α) (ha : ok a) (h0 : Holds O I H M) (hv : AllTy I (As a) vs) (q : ∀ v I' H', Ex I I' → Holds O I' H' M → (Rt a).r I' v → Q v H') : spP ok As Rt vs H Q E :=
  ⟨a, I, ha, h0.start (M' := []) (fun _ h => nomatch h) .nil, hv, fun T M' v I2 H2 ⟨rT, rM⟩ e2 h2 hr => by
    subst rT
    subst rM
    exact q v I2 H2 e2 (h0.back_ (M' := []) (fun _ h => nomatch h) h2) hr⟩
theorem et_prop (a : α) (ha : ok a) (hA : As a = [InsT C fs]) (h : ET te Γ M (InsT C fs)) : ET (tProp C (spP ok As Rt) [] E te) Γ M (Rt a) := fun O σ I H Q e h0 q =>
  h O σ I H _ e h0 fun v I1 H1 e1 h1 hr => by
    obtain ⟨p, dx, gs, g1, g2, g3⟩ := id hr
    exact ⟨p, dx, gs, g1, h1.ex _ _ g2, use_P a ha h1 (by rw [hA]; exact .cons (g1 ▸ hr) .nil) fun v I2 H2 e2 h2 r => q v I2 H2 (e1.trans e2) h2 r⟩
theorem et_meth {m : Str} (a : α) (ha : ok a) (hA : As a = InsT C fs :: Ts) (hm : fs.lookup m = none) (h : ET te Γ M (InsT C fs)) (hs : EA ts Γ M Ts) : ET (tMeth C m (spP ok As Rt) [] E te ts) Γ M (Rt a) := fun O σ I H Q e h0 q =>
  h O σ I H _ e h0 fun v I1 H1 e1 h1 hr => by
    obtain ⟨p, dx, gs, g1, g2, g3⟩ := id hr
    refine ⟨p, dx, gs, g1, h1.ex _ _ g2, g3.look0 hm, hs O σ I1 H1 _ (e.mono e1) h1 fun vs I2 H2 e2 h2 hv => ?_⟩
    refine use_P a ha h2 ?_ fun v I3 H3 e3 h3 r => q v I3 H3 (e1.trans (e2.trans e3)) h3 r
    rw [hA, List.append_nil]
    exact .cons (Ty.mono _ e2 hr) hv
theorem et_ownItem (a : α) (ha : ok a) (hA : As a = [InsT C fs, U]) (h : ET ta Γ M (InsT C fs)) (hb : ET tb Γ M U) : ET (tOwnItem C (spP ok As Rt) ta tb) Γ M (Rt a) := fun O σ I H Q e h0 q =>
  h O σ I H _ e h0 fun v I1 H1 e1 h1 hr => hb O σ I1 H1 _ (e.mono e1) h1 fun u I2 H2 e2 h2 hu => by
    have hr2 := Ty.mono _ e2 hr
    obtain ⟨p, dx, gs, g1, g2, g3⟩ := id hr2
    exact ⟨p, dx, gs, g1, h2.ex _ _ g2, use_P a ha h2 (by rw [hA]; exact .cons (g1 ▸ hr2) (.cons hu .nil)) fun v I3 H3 e3 h3 r => q v I3 H3 (e1.trans (e2.trans e3)) h3 r⟩
theorem rx_ownIn {b : Bool} (a : α) (ha : ok a) (hA : As a = [InsT C fs, U]) (hR : Rt a = DT K (.bool b)) : RX (rOwnIn C (spP ok As Rt)) M U (InsT C fs) (DT K (.bool b)) := fun O I H y x Q h0 hy hx q => by
  obtain ⟨p, dx, gs, g1, g2, g3⟩ := id hx
  refine ⟨p, dx, gs, g1, h0.ex _ _ g2, use_P a ha h0 (by rw [hA]; exact .cons (g1 ▸ hx) (.cons hy .nil)) fun v I3 H3 e3 h3 r => ?_⟩
  rw [hR] at r
  exact ⟨b, dt_bl r, q _ I3 H3 e3 h3 (.bl b)⟩
theorem cx_ownStr {t : Str} (a : α) (ha : ok a) (hA : As a = [InsT C fs]) (hR : Rt a = DT K (.str t)) : CX' (rOwnStr C (spP ok As Rt)) M [InsT C fs] (DT K (.str t)) := fun O I H xs Q h0 hx q => by
  cases hx with
  | cons hx z =>
    cases z
    obtain ⟨p, dx, gs, g1, g2, g3⟩ := id hx
    refine ⟨p, dx, gs, by rw [g1], h0.ex _ _ g2, use_P a ha h0 (by rw [hA]; exact .cons (g1 ▸ hx) .nil) fun v I3 H3 e3 h3 r => ?_⟩
    rw [hR] at r
    exact ⟨t, dt_str r, q _ I3 H3 e3 h3 (.str t)⟩
theorem rx_ownNe {b : Bool} {gs : Fds} (a : α) (ha : ok a) (hA : As a = [InsT C fs, InsT C gs]) (hR : Rt a = DT K (.bool b)) : RX (rOwnNe C (spP ok As Rt)) M (InsT C fs) (InsT C gs) (DT K (.bool (!b))) := fun O I H x y Q h0 hx hy q => by
  obtain ⟨p, dx, us, g1, g2, g3⟩ := id hx
  obtain ⟨p', dx', us', g1', g2', g3'⟩ := id hy
  refine ⟨p, dx, us, p', dx', us', g1, g1', h0.ex _ _ g2, h0.ex _ _ g2', use_P a ha h0 (by rw [hA]; exact .cons (g1 ▸ hx) (.cons (g1' ▸ hy) .nil)) fun v I3 H3 e3 h3 r => ?_⟩
  rw [hR] at r
  exact ⟨b, dt_bl r, q _ I3 H3 e3 h3 (.bl _)⟩
theorem cx_isiO (hc : Cls K C) (hi : InstOf K C) : CX' (rIsi K) M [InsT C fs, VT (.ref C)] (DT K (.bool true)) := fun O I H xs Q h0 a q => by
  cases a with
  | cons a t =>
    cases t with
    | cons a2 t =>
      cases t
      cases a2
      obtain ⟨p, dx, gs, rfl, g2, g3⟩ := a
      exact ⟨_, _, _, _, true, rfl, .own C, .base (.ins (h0.ex _ _ g2) hc hi.cl hi.get hi.tak hi.mro), hi.kit, q _ I H (Evl.Ex.refl I) h0 (.bl true)⟩
/-- C(..): __init__ fills the new instance's fields -/
theorem et_make {Ms : α → Mem} {R : α → Ty → Mem → Prop} (a : Addr → α) (ha : ∀ x, ok (a x)) (hM : ∀ x, Ms (a x) = [(x, insC C [])]) (hA : ∀ x, As (a x) = VT (.ref x) :: Ts) (hR : ∀ x S M', R (a x) S M' → S = DT K .none ∧ M' = [(x, insC C fs)]) (hs : EA ts Γ M Ts) :
    ET (tMake C (spG ok Ms As R) [] E ts) Γ M (InsT C fs) := fun O σ I H Q e h0 q =>
  hs O σ I H _ e h0 fun vs I1 H1 e1 h1 hv x dx hx hd ne => by
    have ix := ex_none h1.ex hx
    have idx := ex_none h1.ex hd
    -- the new dict stands in the heap alone, the instance is owned
    have hH : Holds O I1 (upd H1 dx (.own x)) M := by
      refine ⟨fun b o z => ?_, h1.nd, fun m hm => ?_, h1.from_, fun b o z n => ?_, h1.new, fun b z => ?_⟩
      · rw [upd_ne (ne_of_none z idx)]
        exact h1.ex _ _ z
      · obtain ⟨a1, a2, o, a3, a4⟩ := h1.at_ m hm
        exact ⟨a1, a2, o, by rw [upd_ne (ne_of_none a3 hd)]; exact a3, a4⟩
      · rw [upd_ne (ne_of_none (h1.keep b o z n) hd)]
        exact h1.keep b o z n
      · by_cases c : b = dx
        · subst c
          rw [upd_same]
          exact fun z => nomatch z
        · rw [upd_ne c]
          exact h1.there b z
    have hx2 : upd H1 dx (.own x) x = none := by rw [upd_ne (Ne.symm ne)]; exact hx
    obtain ⟨hz, h2⟩ := hH.own (o := .ins C dx []) (insC C []) hx2 ⟨dx, [], rfl, .nil⟩
    have hs1 : ∀ m ∈ Ms (a x), m ∈ (x, insC C []) :: M := by
      rw [hM]
      intro m hm
      rw [List.mem_singleton.mp hm]
      exact List.mem_cons_self
    refine ⟨a x, I1, ha x, h2.start hs1 (by rw [hM]; simp), by rw [hA, List.append_nil]; exact .cons rfl hv, fun S M' v I2 H2 hRR e2 h3 hr => ?_⟩
    obtain ⟨rfl, rfl⟩ := hR x S M' hRR
    refine ⟨dt_non hr, ?_⟩
    have h4 : Holds O I2 H2 ((x, insC C fs) :: M) := h2.back hs1 h3 rfl fun m hm => by
      rcases List.mem_cons.mp hm with rfl | hm
      · exact .inl List.mem_cons_self
      · right
        refine ⟨List.mem_cons_of_mem _ hm, fun z => ?_⟩
        rw [hM] at z
        have z := List.mem_singleton.mp z
        have nd := h2.nd
        rw [List.map_cons] at nd
        have z2 : m.1 ∈ M.map (·.1) := List.mem_map_of_mem hm
        rw [show m.1 = x from z] at z2
        exact (List.nodup_cons.mp nd).1 z2
    obtain ⟨_, _, o, ho, dx2, gs, rfl, g3⟩ := h4.at_ _ List.mem_cons_self
    obtain ⟨e5, h5⟩ := h4.freeze (j := 0) rfl ho hz
    exact q _ _ _ (e1.trans (e2.trans e5)) h5 ⟨x, dx2, gs, rfl, upd_same, g3.mono e5⟩
end
/-! ### dicts with tuple keys -/
section
variable {P : Program} {w : World} {K : PySem.W.Frag} {Γ : TEnv} {M : Mem} {O : Org} {D : Dest} {T : Ty} {te ta tb tk tv : TE} {ts : TA} {α : Type} {xs : List α} {gT : α → Ty} {ws : α → List (Nat × Ty)} {wi : TI} {g : TG} {vs : List Nat} {N : Ty → Mem → Prop}
/-- {}, owned -/
theorem ew_kd (k : ∀ l, O.H0 l = none → N (VT (.ref l)) ((l, kdC P w K l []) :: M)) : EW (tKdNew P w) O Γ M N := fun σ I H Q e h0 q p hp => by
  obtain ⟨z, h1⟩ := h0.own (o := kdO P w p []) (kdC P w K p []) hp ⟨[], rfl, .nil⟩
  exact q _ _ _ I _ (k p z) (Evl.Ex.refl I) h1 rfl
theorem look_none {I : Hp} {k : NK} : ∀ {es : List (NK × Ty)} {xs : List Ent}, KdR K I es xs → k ∉ es.map (·.1) → lookE xs k = none
  | _, _, .nil, _ => rfl
  | (k', T') :: es, x :: xs, .cons ⟨a, _⟩ t, h => by
    rw [List.map_cons] at h
    have h1 : k ≠ k' := fun e => h (e ▸ List.mem_cons_self)
    have h2 : k ∉ es.map (·.1) := fun z => h (List.mem_cons_of_mem _ z)
    have ih := look_none (es := es) (xs := xs) t h2
    unfold lookE at ih ⊢
    rw [List.find?_cons, decide_eq_false (fun e => h1 (by rw [← e]; exact a.symm))]
    exact ih
/-- d[k] = e, d owned, k new -/
theorem st_kdset {to ti : TE} (h : EW te O Γ M fun T M' => ∃ (j : Nat) (l : Addr) (es : List (NK × Ty)) (ks : List NK), M'[j]? = some (l, kdC P w K l es) ∧ ET to Γ M' (VT (.ref l)) ∧ ET ti Γ M' (DT K (NestedKey.tup ks : NK).data) ∧ (NestedKey.tup ks : NK).depth ≤ 8 ∧ (NestedKey.tup ks : NK) ∉ es.map (·.1) ∧ es.length < sizeLine ∧
    D.nx Γ (M'.set j (l, kdC P w K l (es ++ [(NestedKey.tup ks, T)])))) : ST (tAsg te (gSub to ti (rKdS P w K))) O Γ M D := fun σ I H E e h0 q =>
  h σ I H _ e h0 fun T M' v I1 H1 ⟨j, l, es, ks, hj, h1, h2, h3, h4, h5, n⟩ e1 hh a => h1 O σ I1 H1 _ (e.mono e1) hh fun x I2 H2 e2 hh2 hx => h2 O σ I2 H2 _ (e.mono (e1.trans e2)) hh2 fun y I3 H3 e3 hh3 hy => by
    cases hx
    obtain ⟨b, rfl⟩ : ∃ b, y = .ref b := by
      cases hy
      exact ⟨_, rfl⟩
    obtain ⟨_, _, o, ho, us, rfl, g3⟩ := hh3.at_ _ (List.mem_of_getElem? hj)
    refine ⟨l, us, b, .tup ks, rfl, ⟨ho, fun z hz => ⟨dpp_ex hh3.ex _ _ (g3.mem z hz).1, (g3.mem z hz).2⟩⟩, rfl, dpp_ex hh3.ex _ _ (dt_dp hy), h3, look_none g3 h4, g3.length ▸ h5, ?_⟩
    exact q.nx _ _ _ _ _ n (e1.trans (e2.trans e3)) (e.mono (e1.trans (e2.trans e3))) (hh3.write hj ⟨_, rfl, g3.app (.cons ⟨rfl, T.mono (e2.trans e3) a, dt_dp hy, h3⟩ .nil)⟩)
/-- an owned dict stays from now on -/
theorem st_freezeK {t : TS} {i j : Nat} {l : Addr} {es : List (NK × Ty)} (hi : Γ[i]? = some (some (VT (.ref l)))) (hm : M[j]? = some (l, kdC P w K l es)) (hz : O.H0 l = none) (k : ST t O (Γ.set i (some (KdT P w K es))) (M.eraseIdx j) D) : ST t O Γ M D := fun σ I H E e h0 q => by
  obtain ⟨v, hv, rfl⟩ := e.2 i _ hi
  obtain ⟨_, _, o, ho, us, rfl, hu⟩ := h0.at_ _ (List.mem_of_getElem? hm)
  obtain ⟨e3, h3⟩ := h0.freeze hm ho hz
  refine k σ _ H E ?_ h3 (q.mono e3)
  have z := (e.mono e3).set (T := KdT P w K es) (v := .ref l) ⟨l, us, rfl, upd_same, hu.mono e3⟩ i
  have e2 : σ.set i (some (.ref l)) = σ := by
    apply List.ext_getElem?
    intro j
    rw [List.getElem?_set]
    split
    · rename_i c
      subst c
      rw [if_pos (List.getElem?_eq_some_iff.mp hv).1, hv]
    · rfl
  rw [e2] at z
  exact z
/-- {k: v for x in ..}, the keys tuples that differ -/
theorem et_kc {kf : α → List NK} {vf : α → Ty} (hi : IX wi Γ M xs gT) (hg : ∀ a ∈ xs, GT g (gT a) (ws a)) (hw : ∀ a, ∀ w ∈ ws a, w.1 ∈ vs) (hk : ∀ a ∈ xs, ET tk (setsT (wipeT Γ vs) (ws a)) M (DT K (NestedKey.tup (kf a) : NK).data)) (hv : ∀ a ∈ xs, ET tv (setsT (wipeT Γ vs) (ws a)) M (vf a))
    (h8 : ∀ a ∈ xs, (NestedKey.tup (kf a) : NK).depth ≤ 8) (hn : (xs.map fun a => (NestedKey.tup (kf a) : NK)).Nodup) (hz : xs.length < sizeLine) : ET (tKc P w K wi g tk tv vs) Γ M (KdT P w K (xs.map fun a => (NestedKey.tup (kf a), vf a))) := by
  intro O σ I H Q e0 h0 q
  refine hi O σ I H _ e0 h0 fun J I1 H1 e1 h1 it D hD => ?_
  let mk : List α → List (NK × Ty) := fun l => l.map fun a => ((NestedKey.tup (kf a) : NK), vf a)
  have hz0 := (h1.own (o := kdO P w D []) (kdC P w K D (mk (xs.take 0))) hD ⟨[], rfl, .nil⟩).1
  refine ⟨fun i m H => m = xs.length - i ∧ i ≤ xs.length ∧ ∃ I', Ex I1 I' ∧ Holds O I' H ((D, kdC P w K D (mk (xs.take i))) :: M), ⟨_, rfl, Nat.zero_le _, I1, Evl.Ex.refl I1, (h1.own (kdC P w K D (mk (xs.take 0))) hD ⟨[], rfl, .nil⟩).2⟩, ?_⟩
  rintro i m H2 ⟨rfl, hle, I2, e2, h2⟩
  by_cases c : i = xs.length
  · subst c
    left
    refine ⟨it.stop I2 H2 e2 h2.ex, ?_⟩
    obtain ⟨_, _, o, ho, us, rfl, hu⟩ := h2.at_ _ List.mem_cons_self
    obtain ⟨e3, h3⟩ := h2.freeze (j := 0) rfl ho hz0
    rw [List.take_length] at hu
    exact q _ _ _ (e1.trans (e2.trans e3)) h3 ⟨D, us, rfl, upd_same, hu.mono e3⟩
  · right
    have hlt : i < xs.length := Nat.lt_of_le_of_ne hle c
    obtain ⟨a, ha⟩ : ∃ a, xs[i]? = some a := ⟨_, List.getElem?_eq_getElem hlt⟩
    have hm : a ∈ xs := List.mem_of_getElem? ha
    refine ⟨it.go i a I2 H2 ha e2 h2.ex, fun H' => ∃ I', Ex I1 I' ∧ Holds O I' H' ((D, kdC P w K D (mk (xs.take (i + 1)))) :: M), fun H' ⟨I', a1, a2⟩ => ⟨_, Nat.sub_lt_sub_left hlt (Nat.lt_succ_self i), rfl, hlt, I', a1, a2⟩, fun x H3 hy => ?_⟩
    have main : ∀ I3, Ex I2 I3 → Holds O I3 H3 ((D, kdC P w K D (mk (xs.take i))) :: M) → (gT a).r I3 x → g x (wipe σ vs) H3 fun σb Hd => wipe σb vs = wipe σ vs ∧
        tk σb Hd fun y He => tv σb He fun z Hf => ∃ ys b k, y = .ref b ∧ Kd P w K Hf D ys ∧ Dp K Hf (.ref b) (NestedKey.data k) ∧ k.depth ≤ 8 ∧ lookE ys k = none ∧ ys.length < sizeLine ∧ ∃ I', Ex I1 I' ∧ Holds O I' (upd Hf D (kdO P w D (ys ++ [(k, b, z)]))) ((D, kdC P w K D (mk (xs.take (i + 1)))) :: M) := by
      intro I3 e3 h3 hx
      refine hg a hm (wipe σ vs) I3 H3 x _ h3.ex hx fun us hu => ⟨(wipe_sets (hw a)).trans (wipe_wipe fun _ h => h), ?_⟩
      have env : EnvOk (setsV (wipe σ vs) (ws a) us) I3 (setsT (wipeT Γ vs) (ws a)) := EnvOk.sets ((e0.mono (e1.trans (e2.trans e3))).wipe vs) hu
      have sub : ∀ m ∈ M, m ∈ (D, kdC P w K D (mk (xs.take i))) :: M := fun m h => List.mem_cons_of_mem _ h
      have nd : (M.map (·.1)).Nodup := h1.nd
      refine hk a hm _ _ I3 H3 _ env (h3.start sub nd) fun y I4 H4 e4 h4 hy => ?_
      have h4 := h3.back_ sub h4
      refine hv a hm _ _ I4 H4 _ (env.mono e4) (h4.start sub nd) fun z I5 H5 e5 h5 hz' => ?_
      have h5 := h4.back_ sub h5
      have hy := Ty.mono _ e5 hy
      obtain ⟨b, rfl⟩ : ∃ b, y = .ref b := by
        cases hy
        exact ⟨_, rfl⟩
      obtain ⟨_, _, o, ho, ys, rfl, g3⟩ := h5.at_ _ List.mem_cons_self
      have hnew : (NestedKey.tup (kf a) : NK) ∉ (mk (xs.take i)).map (·.1) := by
        show _ ∉ ((xs.take i).map fun a => ((NestedKey.tup (kf a) : NK), vf a)).map (·.1)
        rw [List.map_map]
        intro hin
        have hin' : (NestedKey.tup (kf a) : NK) ∈ (xs.take i).map fun a => (NestedKey.tup (kf a) : NK) := hin
        have h9 : (xs.map fun a => (NestedKey.tup (kf a) : NK)) = ((xs.take i).map fun a => (NestedKey.tup (kf a) : NK)) ++ ((xs.drop i).map fun a => (NestedKey.tup (kf a) : NK)) := by
          rw [← List.map_append, List.take_append_drop]
        rw [h9] at hn
        have h10 : xs.drop i = a :: xs.drop (i + 1) := by
          rw [← List.getElem_cons_drop hlt]
          have := (List.getElem?_eq_some_iff.mp ha).2
          rw [this]
        rw [h10, List.map_cons] at hn
        exact (List.nodup_append.mp hn).2.2 _ hin' _ List.mem_cons_self rfl
      refine ⟨ys, b, .tup (kf a), rfl, ⟨ho, fun z hz => ⟨dpp_ex h5.ex _ _ (g3.mem z hz).1, (g3.mem z hz).2⟩⟩, dpp_ex h5.ex _ _ (dt_dp hy), h8 a hm, look_none g3 hnew, ?_, I5, e2.trans (e3.trans (e4.trans e5)), ?_⟩
      · rw [← g3.length]
        show ((xs.take i).map _).length < _
        rw [List.length_map, List.length_take]
        omega
      · refine h5.write (j := 0) (c' := kdC P w K D (mk (xs.take (i + 1)))) rfl ⟨_, rfl, ?_⟩
        have e9 : mk (xs.take (i + 1)) = mk (xs.take i) ++ [(NestedKey.tup (kf a), vf a)] := by
          show (xs.take (i + 1)).map _ = (xs.take i).map _ ++ _
          rw [take_succ_at ha, List.map_append]
          rfl
        rw [e9]
        exact g3.app (.cons ⟨rfl, hz', dt_dp hy, h8 a hm⟩ .nil)
    rcases it.yld i a I2 H2 x H3 ha e2 h2.ex hy with ⟨rfl, hx⟩ | ⟨Pn, o, hP, rfl, hx⟩
    · exact main I2 (Evl.Ex.refl I2) h2 hx
    · obtain ⟨e3, h3⟩ := h2.new_ (o := o) hP
      exact main _ e3 h3 hx
/-- xs[i] = e, xs owned -/
theorem st_setL {to ti : TE} (h : EW te O Γ M fun T M' => ∃ (j : Nat) (l : Addr) (Ts : List Ty) (i : Int) (n : Nat), M'[j]? = some (l, lstC Ts) ∧ ET to Γ M' (VT (.ref l)) ∧ ET ti Γ M' (DT K (.int i)) ∧ ixN Ts.length i = some n ∧ D.nx Γ (M'.set j (l, lstC (Ts.set n T)))) :
    ST (tAsg te (gSub to ti rSetL)) O Γ M D := fun σ I H E e h0 q =>
  h σ I H _ e h0 fun T M' v I1 H1 ⟨j, l, Ts, i, m, hj, h1, h2, h3, n⟩ e1 hh a => h1 O σ I1 H1 _ (e.mono e1) hh fun x I2 H2 e2 hh2 hx => h2 O σ I2 H2 _ (e.mono (e1.trans e2)) hh2 fun y I3 H3 e3 hh3 hy => by
    cases hx
    cases dt_int hy
    obtain ⟨_, _, o, ho, us, rfl, g3⟩ := hh3.at_ _ (List.mem_of_getElem? hj)
    exact ⟨l, us, i, m, rfl, rfl, ho, by rw [← g3.length]; exact h3, q.nx _ _ _ _ _ n (e1.trans (e2.trans e3)) (e.mono (e1.trans (e2.trans e3))) (hh3.write hj ⟨_, rfl, g3.set (T.mono (e2.trans e3) a) m⟩)⟩
end
end Tw
namespace Tw
open PySem PySem.Spec PyProof.Rows L2
/-! the rules with the program, the World and the frame named -/
section
variable {X : Cx} {P : Program} {w : World} {K : PySem.W.Frag}
theorem ixK (hP : X.prog = P) (hw : X.w = w) (hK : X.K = K) (hu : X.A.units + 10 < cLine) : IxR X (rIxA P w K) := by
  subst hP hw hK
  exact ix_any hu
theorem addK (hK : X.K = K) : OpR X (binaryOp .Add) (rAddA K) := by
  subst hK
  exact op_addA
theorem mulK (hK : X.K = K) : OpR X (binaryOp .Mult) (rMulA K) := by
  subst hK
  exact op_mulA
theorem eqK (hK : X.K = K) (hu : X.A.units + 64 < cLine) : OpR X (compareOp .Eq) (rEqD K) := by
  subst hK
  exact op_eqD hu
theorem neK (hK : X.K = K) (hu : X.A.units + 64 < cLine) : OpR X (compareOp .NotEq) (rNeD K) := by
  subst hK
  exact op_neD hu
theorem inK (hK : X.K = K) (hu : X.A.units + 65 < cLine) : OpR X (compareOp .In) (rInA K) := by
  subst hK
  exact op_inA hu
theorem niK (hK : X.K = K) (hu : X.A.units + 65 < cLine) : OpR X (compareOp .NotIn) (rNiA K) := by
  subst hK
  exact op_niA hu
theorem slK (hK : X.K = K) : SlR X (rSlN K) := by
  subst hK
  exact sl_any
theorem seqK {tg l : Expr} {tl : TE} (hK : X.K = K) (hl : PE X l tl) : PI X tg l (iSeq K tl) := by
  subst hK
  exact pi_seq hl
theorem isiK (hK : X.K = K) : CallR X (.builtin "isinstance") (rIsi K) := by
  subst hK
  exact call_isi
theorem lenK (hK : X.K = K) : CallR X (.builtin "len") (rLen K) := by
  subst hK
  exact call_lenA
theorem sumK (hK : X.K = K) (hc : X.calm = true) : CallR X (.builtin "sum") (rSum K) := by
  subst hK
  exact cr_sum hc
theorem anyK (hK : X.K = K) (hc : X.calm = true) : CallR X (.builtin "any") (rAny K) := by
  subst hK
  exact cr_any hc
theorem allK (hK : X.K = K) (hc : X.calm = true) : CallR X (.builtin "all") (rAll K) := by
  subst hK
  exact cr_all hc
theorem sortK (hK : X.K = K) (hu : X.A.units + 64 < cLine) : CallR X (.builtin "sorted") (rSortT K) := by
  subst hK
  exact cr_sortT hu
theorem listK (hK : X.K = K) : CallR X (.type "list") (rListO K) := by
  subst hK
  exact call_listO
end
theorem kb_ii : kitB "int" "int" = some true := by decide +kernel
theorem kb_ib : kitB "int" "bool" = some false := by decide +kernel
theorem kb_tt : kitB "tuple" "tuple" = some true := by decide +kernel
theorem kb_ll : kitB "list" "list" = some true := by decide +kernel
theorem kb_ss : kitB "str" "str" = some true := by decide +kernel
end Tw
namespace Tw
open PySem PySem.Spec PyProof.Rows L2
theorem ws_in {α : Type} {ws : α → List (Nat × Ty)} {vs : List Nat} (h : ∀ a, (ws a).map (·.1) = vs) : ∀ a, ∀ u ∈ ws a, u.1 ∈ vs := fun a u hu => by
  rw [← h a]
  exact List.mem_map_of_mem hu
section
variable {K : PySem.W.Frag} {Γ : TEnv} {M : Mem} {α : Type} {xs : List α} {gT : α → Ty} {ws : α → List (Nat × Ty)} {p : α → Bool} {wi : TI} {g : TG} {tt : TT} {te tk tv : TE} {vs : List Nat}
/-- [e for x in xs]: data, ints, bools, any types; with an if -/
theorem lcD {f : α → PyData} (hi : IX wi Γ M xs gT) (hg : ∀ a ∈ xs, GT g (gT a) (ws a)) (hw : ∀ a, (ws a).map (·.1) = vs) (he : ∀ a ∈ xs, ET te (setsT (wipeT Γ vs) (ws a)) M (DT K (f a))) (hz : xs.length < sizeLine) : ET (tLc wi g tYes te vs) Γ M (DT K (.list (xs.map f))) := et_lcD hi hg (ws_in hw) he hz
theorem lcT {f : α → Ty} (hi : IX wi Γ M xs gT) (hg : ∀ a ∈ xs, GT g (gT a) (ws a)) (hw : ∀ a, (ws a).map (·.1) = vs) (he : ∀ a ∈ xs, ET te (setsT (wipeT Γ vs) (ws a)) M (f a)) (hz : xs.length < sizeLine) : ET (tLc wi g tYes te vs) Γ M (LstT (xs.map f)) := et_lc hi hg (ws_in hw) he hz
theorem lcI {f : α → Int} (hi : IX wi Γ M xs gT) (hg : ∀ a ∈ xs, GT g (gT a) (ws a)) (hw : ∀ a, (ws a).map (·.1) = vs) (he : ∀ a ∈ xs, ET te (setsT (wipeT Γ vs) (ws a)) M (DT K (.int (f a)))) (hz : xs.length < sizeLine) : ET (tLc wi g tYes te vs) Γ M (DT K (.list ((xs.map f).map PyData.int))) := by
  have h := et_lcD hi hg (ws_in hw) he hz
  rw [List.map_map]
  exact h
theorem lcB {f : α → Bool} (hi : IX wi Γ M xs gT) (hg : ∀ a ∈ xs, GT g (gT a) (ws a)) (hw : ∀ a, (ws a).map (·.1) = vs) (he : ∀ a ∈ xs, ET te (setsT (wipeT Γ vs) (ws a)) M (DT K (.bool (f a)))) (hz : xs.length < sizeLine) : ET (tLc wi g tYes te vs) Γ M (DT K (.list ((xs.map f).map PyData.bool))) := by
  have h := et_lcD hi hg (ws_in hw) he hz
  rw [List.map_map]
  exact h
theorem lcDIf {f : α → PyData} (hi : IX wi Γ M xs gT) (hg : ∀ a ∈ xs, GT g (gT a) (ws a)) (hw : ∀ a, (ws a).map (·.1) = vs) (ht : ∀ a ∈ xs, BT tt (setsT (wipeT Γ vs) (ws a)) M (p a)) (he : ∀ a ∈ xs, p a = true → ET te (setsT (wipeT Γ vs) (ws a)) M (DT K (f a))) (hz : xs.length < sizeLine) :
    ET (tLc wi g tt te vs) Γ M (DT K (.list ((xs.filter p).map f))) := et_lcDIf hi hg (ws_in hw) ht he hz
theorem lcK {P : Program} {w : World} {kf : α → List NK} {vf : α → Ty} (hi : IX wi Γ M xs gT) (hg : ∀ a ∈ xs, GT g (gT a) (ws a)) (hw : ∀ a, (ws a).map (·.1) = vs) (hk : ∀ a ∈ xs, ET tk (setsT (wipeT Γ vs) (ws a)) M (DT K (NestedKey.tup (kf a) : NK).data)) (hv : ∀ a ∈ xs, ET tv (setsT (wipeT Γ vs) (ws a)) M (vf a))
    (h8 : ∀ a ∈ xs, (NestedKey.tup (kf a) : NK).depth ≤ 8) (hn : (xs.map fun a => (NestedKey.tup (kf a) : NK)).Nodup) (hz : xs.length < sizeLine) : ET (tKc P w K wi g tk tv vs) Γ M (KdT P w K (xs.map fun a => (NestedKey.tup (kf a), vf a))) := et_kc hi hg (ws_in hw) hk hv h8 hn hz
end
theorem sz100 {n : Nat} (h : n < 1000) : n < sizeLine := Nat.lt_trans h (by decide)
end Tw
namespace Tw
open PySem PySem.Spec PyProof.Rows L2
theorem tupK {X : Cx} {K : PySem.W.Frag} {pos : Pos} {es : List Expr} {k : Nat} {t : TGs} {n : Nat} (hK : X.K = K) (hc : X.calm = true) (h : PGs X es t) (hn : (assignEach es X.env).length = n := by rfl) (hst : (assignEach es X.env).findIdx? (·.1) = none := by rfl) : PG X (.Tuple es k pos) (gTup K n t) := by
  subst hK
  exact pg_tup hc h hn hst
end Tw
namespace Tw
open PySem PySem.Spec PyProof.Rows L2
theorem ot_c {Γ : TEnv} {M : Mem} {i : Int} : OT (tPart (tC (.int i))) Γ M (some i) := fun O σ I H Q e h0 q => ⟨i, rfl, q I H (Evl.Ex.refl I) h0⟩
theorem all_id {α : Type} (xs : List α) (f : α → Bool) : (xs.map f).all id = xs.all f := by rw [List.all_map]; rfl
theorem any_id {α : Type} (xs : List α) (f : α → Bool) : (xs.map f).any id = xs.any f := by rw [List.any_map]; rfl
end Tw
end
/-! TwRules4 -/
section
set_option Elab.async false
set_option linter.all false
set_option autoImplicit false
set_option maxRecDepth 100000
set_option maxHeartbeats 4000000
/-! Texts; more rules with the frame named. -/
namespace Tw
open PySem PySem.Spec PyProof.Rows L2
open Evl (Ex ex_l ex_t ex_rd)
def rStrS : List V → Hp → VK → Prop := fun xs H Q => ∃ a, xs = [.str a] ∧ Q (.str a) H
theorem call_strS {X : Cx} : CallR X (.type "str") rStrS := SkE.call_str_str
def rJoin (K : PySem.W.Frag) : V → List V → Hp → VK → Prop := fun x xs H Q => ∃ a p, ∃ ys : List Str, x = .str a ∧ xs = [.ref p] ∧ (SqL K H p (ys.map V.str) ∨ SqT K H p (ys.map V.str)) ∧ (ys.map (·.length)).sum + ys.length * a.length ≤ 16777216 ∧ Q (.str (Txt.join a ys)) H
section
variable {X : Cx} {K : PySem.W.Frag} {o e : Expr} {es : List Expr} {to te ta : TE} {t : TA} {apos cpos pos p : Pos} {f : Str}
theorem joinK (hK : X.K = K) : MtR X "str.join" (rJoin K) := by
  subst hK
  exact mt_join
theorem joinE (hK : X.K = K) (ho : PE X o to) (ha : PA X (e :: es) t) (hbase : attributeBase o "join" X.env (eval o X.env) = eval o X.env := by rfl)
    (hfew : ((backTo cpos (starEach (e :: es) X.env)).all (fun z => !z.1) && (backToKw cpos (keywordEach [] X.env)).all (fun z => z.1.isSome) && decide ((e :: es).length + ([] : List Keyword).length + (if ([] : List Keyword).isEmpty then 0 else 1) < 30)) = true := by rfl)
    (hline : (apos.endLine == cpos.line) = true := by rfl) (hs : starEach (e :: es) X.env = (false, eval e X.env) :: starEach es X.env := by rfl) (hplain : (backTo cpos (starEach es X.env)).any (·.1) = false := by rfl) :
    PE X (.Call (.Attribute o "join" apos) (e :: es) [] cpos) (tBM K "str" (rJoin K) to t) := by
  subst hK
  exact pe_bm PySem.F.plainAttrs_str PySem.F.slot_str_join PySem.F.type_str_join mt_join ho ha hbase hfew hline hs hplain
theorem fldK (hK : X.K = K) (he : PE X e ta) (hb : attributeBase e f X.env (eval e X.env) = eval e X.env) : PE X (.Attribute e f pos) (tFld K ta f) := by
  subst hK
  exact pe_fld he hb
theorem tupOfK (hK : X.K = K) (hg : Gl X "tuple") (hm : X.mg "tuple" = none) (ha : PE X e ta) (na : starEach [e] X.env = (false, eval e X.env) :: starEach [] X.env := by rfl) : PE X (.Call (.Name "tuple" p) [e] [] pos) (tThen ta (kTup K)) := by
  subst hK
  exact pe_tupleOf hg hm ha na
end
section
variable {K : PySem.W.Frag} {Γ : TEnv} {M : Mem} {te : TE} {T : Ty}
theorem cx_strS {a : Str} : CX' rStrS M [DT K (.str a)] (DT K (.str a)) := fun O I H xs Q h0 h q => by
  cases h with
  | cons h t =>
    cases t
    cases dt_str h
    exact ⟨a, rfl, q _ I H (Evl.Ex.refl I) h0 (.str a)⟩
theorem strs_v {I : Hp} : ∀ {ns : List Str} {vs : List V}, DqAll K I vs (ns.map PyData.str) → vs = ns.map V.str
  | [], _, h => by
    cases h
    rfl
  | n :: ns, _, h => by
    cases h with
    | cons a b =>
      cases a
      rw [strs_v b]
      rfl
theorem et_join {sep : Str} {ys : List Str} (h : ET te Γ M (DT K (.list (ys.map PyData.str)))) (hz : (ys.map (·.length)).sum + ys.length * sep.length ≤ 16777216) : ET (tBM K "str" (rJoin K) (tC (.str sep)) (tCons te tNil)) Γ M (DT K (.str (Txt.join sep ys))) := fun O σ I H Q e h0 q =>
  ⟨rfl, h O σ I H _ e h0 fun v I1 H1 e1 h1 a => by
    cases a with
    | lst a b =>
      rw [strs_v b] at a
      exact ⟨sep, _, ys, rfl, rfl, .inl (SqL.of (h1.ex _ _ a)), hz, q _ I1 H1 e1 h1 (.str _)⟩⟩
def JS (ts : List TE) (Γ : TEnv) (M : Mem) (acc out : Str) : Prop := ∀ (O : Org) (σ : L2.St) (I H : Hp) (Q : Str → Hp → Prop), EnvOk σ I Γ → Holds O I H M → (∀ I' H', Ex I I' → Holds O I' H' M → Q out H') → tJs ts acc σ H Q
theorem js_nil {acc : Str} : JS [] Γ M acc acc := fun O σ I H Q e h0 q => q I H (Evl.Ex.refl I) h0
theorem js_cons {t : TE} {ts : List TE} {acc y out : Str} (h : ET t Γ M (DT K (.str y))) (hz : (acc ++ y).length ≤ sizeLine) (r : JS ts Γ M (acc ++ y) out) : JS (t :: ts) Γ M acc out := fun O σ I H Q e h0 q =>
  h O σ I H _ e h0 fun v I1 H1 e1 h1 a => ⟨y, dt_str a, hz, r O σ I1 H1 Q (e.mono e1) h1 fun I2 H2 e2 h2 => q I2 H2 (e1.trans e2) h2⟩
theorem et_fstr {ts : List TE} {out : Str} (h : JS ts Γ M Str.empty out) : ET (fun σ H Q => tJs ts Str.empty σ H fun out H1 => Q (.str out) H1) Γ M (DT K (.str out)) := fun O σ I H Q e h0 q =>
  h O σ I H _ e h0 fun I1 H1 e1 h1 => q _ I1 H1 e1 h1 (.str out)
theorem et_fmtI {i : Int} (h : ET te Γ M (DT K (.int i))) (hz : i.natAbs.log2 < 1920) : ET (tFmt te) Γ M (DT K (.str (toString i))) := fun O σ I H Q e h0 q =>
  h O σ I H _ e h0 fun v I1 H1 e1 h1 a => .inr ⟨i, dt_int a, hz, q _ I1 H1 e1 h1 (.str _)⟩
end
theorem len_app (x y : Str) : (x ++ y).length = x.length + y.length := PySem.Str.length_append x y
theorem join_len (sep : Str) : ∀ ys : List Str, (Str.join sep ys).length ≤ (ys.map (·.length)).sum + ys.length * sep.length
  | [] => Nat.zero_le _
  | [x] => by
    show x.length ≤ _
    simp
  | x :: y :: r => by
    show (x ++ sep ++ Str.join sep (y :: r)).length ≤ _
    have ih := join_len sep (y :: r)
    rw [len_app, len_app]
    simp only [List.map_cons, List.sum_cons, List.length_cons] at ih ⊢
    rw [Nat.add_mul (r.length + 1) 1 sep.length]
    omega
end Tw
namespace Tw
open PySem PySem.Spec PyProof.Rows L2
theorem et_eq_cx {u : List V → Hp → VK → Prop} {M : Mem} {Ts : List Ty} {S T : Ty} (h : CX' u M Ts S) (e : S = T) : CX' u M Ts T := e ▸ h
end Tw
namespace Tw
open PySem PySem.Spec PyProof.Rows L2
open Evl (Ex ex_l ex_t ex_rd)
/-! a dict of texts: two entries, ints -/
abbrev kvs2 (a b : Str) (c m : Int) : List (Key × V) := [(.inr a, .int c), (.inr b, .int m)]
def SdT (a b : Str) (c m : Int) : Ty := ⟨fun I v => ∃ p, v = .ref p ∧ I p = some (.dK (kvs2 a b c m)), fun e ⟨p, h1, h2⟩ => ⟨p, h1, e _ _ h2⟩⟩
def exC (o : HO) : Cell := ⟨fun _ u => u = o, fun _ h => h⟩
section
variable {K : PySem.W.Frag} {Γ : TEnv} {M : Mem} {t1 t2 td ty : TE} {a b : Str} {c m : Int}
theorem merge2 (h : a ≠ b) : mergeK [] (kvs2 a b c m) = kvs2 a b c m := by
  have e : decide ((Sum.inr a : Key) = Sum.inr b) = false := decide_eq_false fun q => h (Sum.inr.inj q)
  unfold mergeK
  simp only [List.foldl_cons, List.foldl_nil]
  unfold putK
  simp [h]
theorem et_disp2 (hab : a ≠ b) (h1 : ∀ M, ET t1 Γ M (DT K (.int c))) (h2 : ∀ M, ET t2 Γ M (DT K (.int m))) : ET (tDisp [(tC (.str a), t1), (tC (.str b), t2)]) Γ M (SdT a b c m) := fun O σ I H Q e h0 q p hp => by
  obtain ⟨hz, h3⟩ := h0.own (o := .dK []) (exC (.dK [])) hp rfl
  refine h1 _ O σ I _ _ e h3 fun v I1 H1 e1 h4 a1 => ?_
  refine h2 _ O σ I1 H1 _ (e.mono e1) h4 fun u I2 H2 e2 h5 a2 => ?_
  cases dt_int a1
  cases dt_int a2
  obtain ⟨_, _, o, ho, ho2⟩ := h5.at_ _ List.mem_cons_self
  have ho2 : o = .dK [] := ho2
  subst ho2
  refine ⟨ho, kvs2 a b c m, rfl, (by decide : 2 ≤ 15), ?_⟩
  rw [merge2 hab]
  have h6 := h5.write (j := 0) (o := .dK (kvs2 a b c m)) (c' := exC (.dK (kvs2 a b c m))) rfl rfl
  obtain ⟨e7, h7⟩ := h6.freeze (j := 0) rfl upd_same hz
  exact q _ _ _ (e1.trans (e2.trans e7)) h7 ⟨p, rfl, upd_same⟩
theorem et_din {x : Str} (hx : ET ty Γ M (DT K (.str x))) (hd : ET td Γ M (SdT a b c m)) : ET (tDIn ty td) Γ M (DT K (.bool (decide (a = x) || decide (b = x)))) := fun O σ I H Q e h0 q =>
  hx O σ I H _ e h0 fun v I1 H1 e1 h1 a1 => hd O σ I1 H1 _ (e.mono e1) h1 fun u I2 H2 e2 h2 ⟨p, g1, g2⟩ => by
    cases dt_str a1
    refine ⟨p, _, g1, DGet.k (k := .inr x) (h2.ex _ _ g2), ?_⟩
    have z : (valV (kvs2 a b c m) (.inr x)).isSome = (decide (a = x) || decide (b = x)) := by
      unfold valV
      by_cases h : a = x
      · simp [h]
      · by_cases h' : b = x
        · simp [h, h']
        · simp [h, h']
    rw [z]
    exact q _ I2 H2 (e1.trans e2) h2 (.bl _)
theorem et_dget {x : Str} {i : Int} (hd : ET td Γ M (SdT a b c m)) (hx : ET ty Γ M (DT K (.str x))) (hi : valV (kvs2 a b c m) (.inr x) = some (.int i)) : ET (tDGet td ty) Γ M (DT K (.int i)) := fun O σ I H Q e h0 q =>
  hd O σ I H _ e h0 fun u I1 H1 e1 h1 ⟨p, g1, g2⟩ => hx O σ I1 H1 _ (e.mono e1) h1 fun v I2 H2 e2 h2 a1 => by
    cases dt_str a1
    refine ⟨p, .int i, g1, ?_, q _ I2 H2 (e1.trans e2) h2 (.int i)⟩
    rw [← hi]
    exact DGet.k (k := .inr x) (h2.ex _ _ (e2 _ _ g2))
end
end Tw
namespace Tw
open PySem PySem.Spec PyProof.Rows L2
theorem kcK {X : Cx} {P : Program} {w : World} {K : PySem.W.Frag} {kx vx tg iter : Expr} {scope : Scope} {own : List (Str × Nat)} {wi : TI} {g : TG} {tk tv : TE} {pos : Pos} (hP : X.prog = P) (hw : X.w = w) (hK : X.K = K) (hu : X.A.units + 10 < cLine) (hc : X.calm = true) (hN : X.N.Nodup) (hi : PI X tg iter wi) (ok : BlkOk X.N X.env.scope scope own)
    (hg : AllBlk X scope fun Z => PG Z tg g) (hk : AllBlk X scope fun Z => PE Z kx tk) (he : AllBlk X scope fun Z => PE Z vx tv) (hs : ∀ x, foldedSetIterable iter X.env x = pure x := by intro _; rfl) : PE X (.DictComp kx vx [⟨tg, iter, [], 0⟩] scope pos) (tKc P w K wi g tk tv (own.map (·.2))) := by
  subst hP hw hK
  exact pe_kc hu hc hN hi ok hg hk he hs
end Tw
namespace Tw
open PySem PySem.Spec PyProof.Rows L2
theorem setKdK {X : Cx} {P : Program} {w : World} {K : PySem.W.Frag} (hP : X.prog = P) (hw : X.w = w) (hK : X.K = K) (hu : X.A.units + 10 < cLine) : PSet X (rKdS P w K) := by
  subst hP hw hK
  exact set_kdS hu
theorem sFldK {X : Cx} {K : PySem.W.Frag} {o value : Expr} {f : Str} {pos pos' : Pos} {ta tv : TE} (hK : X.K = K) (ha : PE X o ta) (hv : PE X value tv) (hs : swapsWith value (some (.Attribute o f pos')) pos.line X.env = pure false) : PS X (.Assign [.Attribute o f pos'] value pos) (sFld K ta tv f) := by
  subst hK
  exact ps_fld ha hv hs
theorem kdnewK {X : Cx} {P : Program} {w : World} {pos : Pos} (hP : X.prog = P) (hw : X.w = w) : PE X (.Dict [] [] pos) (tKdNew P w) := by
  subst hP hw
  exact pe_kdnew
end Tw
end
/-! TwLogic3 -/
section
set_option Elab.async false
set_option linter.all false
set_option autoImplicit false
set_option maxRecDepth 100000
/-! Effects, more: comprehensions, methods, operators whose parts change what is owned. -/
namespace Tw
open PySem PySem.Spec PyProof.Rows L2
open Evl (Ex ex_l ex_t ex_rd)
section
variable {K : PySem.W.Frag} {Γ : TEnv} {M : Mem} {O : Org} {α : Type} {xs : List α} {gT : α → Ty} {ws : α → List (Nat × Ty)} {wi : TI} {g : TG} {te ta tb : TE} {ts : TA} {vs : List Nat} {N : Ty → Mem → Prop} {r : R2} {tt : TT}
/-- [e for x in xs], e with effects: J by the turn, the types made, what is owned -/
theorem ew_lc (J : Nat → List Ty → Mem → Prop) (hi : IX wi Γ M xs gT) (hg : ∀ a ∈ xs, GT g (gT a) (ws a)) (hw : ∀ a, (ws a).map (·.1) = vs) (h0 : J 0 [] M)
    (he : ∀ (i : Nat) (a : α) (Ts : List Ty) (M' : Mem), xs[i]? = some a → J i Ts M' → M'.map (·.1) = M.map (·.1) ∧ ∀ O', EW te O' (setsT (wipeT Γ vs) (ws a)) M' fun T M2 => M2.map (·.1) = M.map (·.1) ∧ J (i + 1) (Ts ++ [T]) M2)
    (hl : xs.length < sizeLine) (k : ∀ Ts M', Ts.length = xs.length → J xs.length Ts M' → M'.map (·.1) = M.map (·.1) → N (LstT Ts) M') : EW (tLc wi g tYes te vs) O Γ M N := by
  have hw' := ws_in hw
  intro σ I H Q e0 hh q
  refine hi O σ I H _ e0 hh fun J1 I1 H1 e1 h1 it D hD => ?_
  have hz0 := (h1.own (o := .lst []) (lstC []) hD ⟨[], rfl, .nil⟩).1
  refine ⟨fun i m H => m = xs.length - i ∧ i ≤ xs.length ∧ ∃ I' Ts M', Ts.length = i ∧ J i Ts M' ∧ M'.map (·.1) = M.map (·.1) ∧ Ex I1 I' ∧ Holds O I' H ((D, lstC Ts) :: M'), ⟨_, rfl, Nat.zero_le _, I1, [], M, rfl, h0, rfl, Evl.Ex.refl I1, (h1.own (lstC []) hD ⟨[], rfl, .nil⟩).2⟩, ?_⟩
  rintro i m H2 ⟨rfl, hle, I2, Ts, M2, hTs, j2, n2, e2, h2⟩
  by_cases c : i = xs.length
  · subst c
    left
    refine ⟨it.stop I2 H2 e2 h2.ex, ?_⟩
    obtain ⟨_, _, o, ho, us, rfl, hu⟩ := h2.at_ _ List.mem_cons_self
    obtain ⟨e3, h3⟩ := h2.freeze (j := 0) rfl ho hz0
    exact q _ _ _ _ _ (k Ts M2 hTs j2 n2) (e1.trans (e2.trans e3)) h3 ⟨D, us, rfl, upd_same, hu.mono e3⟩
  · right
    have hlt : i < xs.length := Nat.lt_of_le_of_ne hle c
    obtain ⟨a, ha⟩ : ∃ a, xs[i]? = some a := ⟨_, List.getElem?_eq_getElem hlt⟩
    have hm : a ∈ xs := List.mem_of_getElem? ha
    refine ⟨it.go i a I2 H2 ha e2 h2.ex, fun H' => ∃ I' Ts M', Ts.length = i + 1 ∧ J (i + 1) Ts M' ∧ M'.map (·.1) = M.map (·.1) ∧ Ex I1 I' ∧ Holds O I' H' ((D, lstC Ts) :: M'), fun H' w => ⟨_, Nat.sub_lt_sub_left hlt (Nat.lt_succ_self i), rfl, hlt, w⟩, fun x H3 hy => ?_⟩
    have main : ∀ I3, Ex I2 I3 → Holds O I3 H3 ((D, lstC Ts) :: M2) → (gT a).r I3 x → g x (wipe σ vs) H3 fun σ2 H2 => wipe σ2 vs = wipe σ vs ∧ tYes σ2 H2 fun b H3 =>
        if b = true then te σ2 H3 fun y H4 => ∃ acc, H4 D = some (.lst acc) ∧ acc.length < sizeLine ∧ ∃ I' Ts M', Ts.length = i + 1 ∧ J (i + 1) Ts M' ∧ M'.map (·.1) = M.map (·.1) ∧ Ex I1 I' ∧ Holds O I' (upd H4 D (.lst (acc ++ [y]))) ((D, lstC Ts) :: M') else ∃ I' Ts M', Ts.length = i + 1 ∧ J (i + 1) Ts M' ∧ M'.map (·.1) = M.map (·.1) ∧ Ex I1 I' ∧ Holds O I' H3 ((D, lstC Ts) :: M') := by
      intro I3 e3 h3 hx
      refine hg a hm (wipe σ vs) I3 H3 x _ h3.ex hx fun us hu => ⟨(wipe_sets (hw' a)).trans (wipe_wipe fun _ h => h), ?_⟩
      have env : EnvOk (setsV (wipe σ vs) (ws a) us) I3 (setsT (wipeT Γ vs) (ws a)) := EnvOk.sets ((e0.mono (e1.trans (e2.trans e3))).wipe vs) hu
      have sub : ∀ m ∈ M2, m ∈ (D, lstC Ts) :: M2 := fun m h => List.mem_cons_of_mem _ h
      have nd : (M2.map (·.1)).Nodup := by
        rw [n2]
        exact h1.nd
      simp only [tYes, if_true]
      refine (he i a Ts M2 ha j2).2 ⟨I3, H3, M2.map (·.1)⟩ _ I3 H3 _ env (h3.start sub nd) fun T M4 y I5 H5 ⟨n5, j5⟩ e5 h5 hy => ?_
      have h6 : Holds O I5 H5 ((D, lstC Ts) :: M4) := h3.back sub h5 (by rw [List.map_cons, List.map_cons, n5, n2]) fun m hm => by
        rcases List.mem_cons.mp hm with rfl | hm
        · right
          refine ⟨List.mem_cons_self, fun z => ?_⟩
          have nd3 := h3.nd
          rw [List.map_cons] at nd3
          exact (List.nodup_cons.mp nd3).1 z
        · exact .inl hm
      obtain ⟨_, _, o, ho, us, rfl, hu⟩ := h6.at_ _ List.mem_cons_self
      refine ⟨us, ho, ?_, I5, Ts ++ [T], M4, ?_, j5, n5, e2.trans (e3.trans e5), ?_⟩
      · rw [← hu.length, hTs]
        omega
      · rw [List.length_append, hTs]
        rfl
      · exact h6.write (j := 0) (c' := lstC (Ts ++ [T])) rfl ⟨_, rfl, hu.app (.cons hy .nil)⟩
    rcases it.yld i a I2 H2 x H3 ha e2 h2.ex hy with ⟨rfl, hx⟩ | ⟨P, o, hP, rfl, hx⟩
    · exact main I2 (Evl.Ex.refl I2) h2 hx
    · obtain ⟨e3, h3⟩ := h2.new_ (o := o) hP
      exact main _ e3 h3 hx
/-- an operator whose operands have effects -/
theorem ew_op (h : EW ta O Γ M fun S M1 => EW tb O Γ M1 fun T M2 => ∃ U, RX r M2 S T U ∧ N U M2) : EW (tOp r ta tb) O Γ M N := fun σ I H Q e h0 q =>
  h σ I H _ e h0 fun S M1 x I1 H1 n1 e1 h1 a => n1 σ I1 H1 _ (e.mono e1) h1 fun T M2 y I2 H2 ⟨U, hr, n2⟩ e2 h2 b => hr O I2 H2 x y Q h2 (S.mono e2 a) b fun v I3 H3 e3 h3 c => q U M2 v I3 H3 n2 (e1.trans (e2.trans e3)) h3 c
theorem ew_cb {u : List V → Hp → VK → Prop} (h : AW ts O Γ M fun Ts M' => ∃ U, CX' u M' Ts U ∧ N U M') : EW (tCB u ts) O Γ M N := fun σ I H Q e h0 q =>
  h σ I H _ e h0 fun Ts M' xs I1 H1 ⟨U, hr, n⟩ e1 h1 a => hr O I1 H1 xs Q h1 a fun v I3 H3 e3 h3 c => q U M' v I3 H3 n (e1.trans e3) h3 c
theorem ew_if {b : Bool} (hc : BT tt Γ M b) (ha : b = true → EW ta O Γ M N) (hb : b = false → EW tb O Γ M N) : EW (tIf tt ta tb) O Γ M N := fun σ I H Q e h0 q =>
  hc O σ I H _ e h0 fun I1 H1 e1 h1 => by
    cases b with
    | true =>
      rw [if_pos rfl]
      exact ha rfl σ I1 H1 Q (e.mono e1) h1 fun T M' v I3 H3 n e3 h3 c => q T M' v I3 H3 n (e1.trans e3) h3 c
    | false =>
      rw [if_neg Bool.false_ne_true]
      exact hb rfl σ I1 H1 Q (e.mono e1) h1 fun T M' v I3 H3 n e3 h3 c => q T M' v I3 H3 n (e1.trans e3) h3 c
end
section
variable {α : Type} {ok : α → Prop} {Ms : α → Mem} {As : α → List Ty} {R : α → Ty → Mem → Prop} {Γ : TEnv} {M : Mem} {ta te : TE} {ts : TA} {E : XK} {O : Org} {N : Ty → Mem → Prop} {C : Addr} {m : Str} {Ts : List Ty}
/-- f(..) with effects in the arguments and in f -/
theorem ew_callA (h : AW ts O Γ M fun Ts M1 => ∃ a, As a = Ts ∧ ok a ∧ (∀ m ∈ Ms a, m ∈ M1) ∧ ((Ms a).map (·.1)).Nodup ∧ ∀ T M', R a T M' → ∃ N', N'.map (·.1) = M1.map (·.1) ∧ (∀ m ∈ N', m ∈ M' ∨ (m ∈ M1 ∧ m.1 ∉ (Ms a).map (·.1))) ∧ N T N') :
    EW (tCall (spG ok Ms As R) [] E ts) O Γ M N := fun σ I H Q e h0 q =>
  h σ I H _ e h0 fun Ts M1 vs I1 H1 ⟨a, hA, ha, hM, nd, k⟩ e1 h1 hv => ⟨a, I1, ha, h1.start hM nd, by rw [List.append_nil, hA]; exact hv, fun T M' v I2 H2 hR e2 h2 hr => by
    obtain ⟨N', n1, n2, n3⟩ := k T M' hR
    exact q T N' v I2 H2 n3 (e1.trans e2) (h1.back hM h2 n1 n2) hr⟩
/-- o.m(..), o an owned instance -/
theorem ew_meth {l : Addr} {fs : Fds} (a : α) (ha : ok a) (hA : As a = VT (.ref l) :: Ts) (hM : ∀ m ∈ Ms a, m ∈ M) (nd : ((Ms a).map (·.1)).Nodup) (hl : (l, insC C fs) ∈ M) (hm : fs.lookup m = none) (ho : ET ta Γ M (VT (.ref l))) (h : EA ts Γ M Ts)
    (k : ∀ T M', R a T M' → ∃ N', N'.map (·.1) = M.map (·.1) ∧ (∀ m ∈ N', m ∈ M' ∨ (m ∈ M ∧ m.1 ∉ (Ms a).map (·.1))) ∧ N T N') : EW (tMeth C m (spG ok Ms As R) [] E ta ts) O Γ M N := fun σ I H Q e h0 q =>
  ho O σ I H _ e h0 fun v I1 H1 e1 h1 hv => by
    cases hv
    obtain ⟨_, _, o, ho, dx, gs, rfl, g3⟩ := h1.at_ _ hl
    refine ⟨l, dx, gs, rfl, ho, g3.look0 hm, h O σ I1 H1 _ (e.mono e1) h1 fun vs I2 H2 e2 h2 hv => ?_⟩
    refine ⟨a, I2, ha, h2.start hM nd, by rw [hA, List.append_nil]; exact .cons rfl hv, fun T M' v I3 H3 hR e3 h3 hr => ?_⟩
    obtain ⟨N', n1, n2, n3⟩ := k T M' hR
    exact q T N' v I3 H3 n3 (e1.trans (e2.trans e3)) (h2.back hM h3 n1 n2) hr
end
end Tw
namespace Tw
open PySem PySem.Spec PyProof.Rows L2
open Evl (Ex ex_l ex_t ex_rd)
/-- what is known of an owned object, told anew -/
theorem Holds.recell {O : Org} {I H : Hp} {M : Mem} (h : Holds O I H M) {i : Nat} {a : Addr} {c c' : Cell} (hm : M[i]? = some (a, c)) (hc : ∀ o, c.r I o → c'.r I o) : Holds O I H (M.set i (a, c')) :=
  ⟨h.ex, nodup_set hm rfl h.nd, fun m hx => by
    obtain ⟨j, hj⟩ := List.getElem?_of_mem hx
    rw [List.getElem?_set] at hj
    split at hj
    · split at hj
      · cases hj
        obtain ⟨q1, q2, o, q3, q4⟩ := h.at_ _ (List.mem_of_getElem? hm)
        exact ⟨q1, q2, o, q3, hc o q4⟩
      · cases hj
    · exact h.at_ m (List.mem_of_getElem? hj), h.from_, h.keep, h.new, h.there⟩
/-- an owned dict that an owned instance's field names stays from now on -/
theorem st_freezeF {P : Program} {w : World} {K : PySem.W.Frag} {O : Org} {Γ : TEnv} {M : Mem} {D : Dest} {t : TS} {i j : Nat} {l s : Addr} {es : List (NK × Ty)} {C : Addr} {fs fs' : Fds} (hm : M[j]? = some (l, kdC P w K l es)) (hz : O.H0 l = none) (hi : (M.eraseIdx j)[i]? = some (s, insC C fs))
    (hc : ∀ I gs, (KdT P w K es).r I (.ref l) → FdR I fs gs → FdR I fs' gs) (k : ST t O Γ ((M.eraseIdx j).set i (s, insC C fs')) D) : ST t O Γ M D := fun σ I H E e h0 q => by
  obtain ⟨_, _, o, ho, us, rfl, hu⟩ := h0.at_ _ (List.mem_of_getElem? hm)
  obtain ⟨e3, h3⟩ := h0.freeze hm ho hz
  have h4 := h3.recell (c' := insC C fs') hi fun o ⟨dx, gs, h1, h2⟩ => ⟨dx, gs, h1, hc _ gs ⟨l, us, rfl, upd_same, hu.mono e3⟩ h2⟩
  exact k σ _ H E (e.mono e3) h4 (q.mono e3)
end Tw
namespace Tw
open PySem PySem.Spec PyProof.Rows L2
open Evl (Ex ex_l ex_t ex_rd)
/-- what is known may be told anew behind a block -/
def Gh (O : Org) (Γ : TEnv) (M : Mem) (N : TEnv → Mem → Prop) : Prop := ∀ (σ : L2.St) (I H : Hp), EnvOk σ I Γ → Holds O I H M → ∃ I' Γ' M', Ex I I' ∧ EnvOk σ I' Γ' ∧ Holds O I' H M' ∧ N Γ' M'
theorem st_ghost {t : TS} {O : Org} {Γ : TEnv} {M : Mem} {D : Dest} (h : ST t O Γ M { D with nx := fun Γ' M' => Gh O Γ' M' D.nx }) : ST t O Γ M D := fun σ I H E e h0 q =>
  h σ I H E e h0 ⟨fun Γ' M' σ' J H' n ej ev hh => by
    obtain ⟨I2, Γ2, M2, e2, v2, h2, n2⟩ := n σ' J H' ev hh
    exact q.nx _ _ _ _ _ n2 (ej.trans e2) v2 h2, q.rt, q.bk, q.ct⟩
theorem gh_freezeF {P : Program} {w : World} {K : PySem.W.Frag} {O : Org} {Γ : TEnv} {M : Mem} {N : TEnv → Mem → Prop} {i j : Nat} {l s : Addr} {es : List (NK × Ty)} {C : Addr} {fs fs' : Fds} (hm : M[j]? = some (l, kdC P w K l es)) (hz : O.H0 l = none) (hi : (M.eraseIdx j)[i]? = some (s, insC C fs))
    (hc : ∀ I gs, (KdT P w K es).r I (.ref l) → FdR I fs gs → FdR I fs' gs) (k : N Γ ((M.eraseIdx j).set i (s, insC C fs'))) : Gh O Γ M N := fun σ I H e h0 => by
  obtain ⟨_, _, o, ho, us, rfl, hu⟩ := h0.at_ _ (List.mem_of_getElem? hm)
  obtain ⟨e3, h3⟩ := h0.freeze hm ho hz
  have h4 := h3.recell (c' := insC C fs') hi fun o ⟨dx, gs, h1, h2⟩ => ⟨dx, gs, h1, hc _ gs ⟨l, us, rfl, upd_same, hu.mono e3⟩ h2⟩
  exact ⟨_, _, _, e3, e.mono e3, h4, k⟩
end Tw
end
/-! TwM0 -/
section
set_option linter.all false
set_option autoImplicit false
/-! Sets of states as ascending lists; masks. -/
namespace Tw
/-- all sets of n states (n below 4), in the order of tuples -/
def allS : Nat → List (List Nat)
  | 1 => [[], [0]]
  | 2 => [[], [0], [0, 1], [1]]
  | 3 => [[], [0], [0, 1], [0, 1, 2], [0, 2], [1], [1, 2], [2]]
  | _ => []
def setOf (n m : Nat) : List Nat := (List.range n).filter fun t => m / 2 ^ t % 2 == 1
def maskOf (x : List Nat) : Nat := (x.map fun t => 2 ^ t).sum
def sub (x y : List Nat) : Bool := x.all fun t => y.contains t
abbrev N3 (n : Nat) : Prop := 1 ≤ n ∧ n ≤ 3
theorem n3 {p : Nat → Prop} (h1 : p 1) (h2 : p 2) (h3 : p 3) : ∀ n, N3 n → p n := fun n ⟨a, b⟩ => by
  have : n = 1 ∨ n = 2 ∨ n = 3 := by omega
  rcases this with rfl | rfl | rfl
  · exact h1
  · exact h2
  · exact h3
theorem allS_nodup : ∀ n, N3 n → (allS n).Nodup := n3 (by decide) (by decide) (by decide)
theorem allS_len : ∀ n, N3 n → (allS n).length = 2 ^ n := n3 (by decide) (by decide) (by decide)
theorem allS_lt : ∀ n, N3 n → ∀ x ∈ allS n, ∀ t ∈ x, t < n := n3 (by decide) (by decide) (by decide)
theorem allS_small : ∀ n, N3 n → ∀ x ∈ allS n, x.length ≤ 3 := n3 (by decide) (by decide) (by decide)
theorem allS_up : ∀ n, N3 n → ∀ x ∈ allS n, (x.zip (x.drop 1)).all (fun p => decide (p.1 < p.2)) = true := n3 (by decide) (by decide) (by decide)
theorem setOf_mem : ∀ n, N3 n → ∀ m ∈ List.range (2 ^ n), setOf n m ∈ allS n := n3 (by decide) (by decide) (by decide)
theorem maskOf_lt : ∀ n, N3 n → ∀ x ∈ allS n, maskOf x < 2 ^ n := n3 (by decide) (by decide) (by decide)
theorem setOf_mask : ∀ n, N3 n → ∀ x ∈ allS n, setOf n (maskOf x) = x := n3 (by decide) (by decide) (by decide)
theorem maskOf_set : ∀ n, N3 n → ∀ m ∈ List.range (2 ^ n), maskOf (setOf n m) = m := n3 (by decide) (by decide) (by decide)
theorem mask_sub : ∀ n, N3 n → ∀ m ∈ List.range (2 ^ n), ∀ y ∈ allS n, ((m &&& maskOf y) == maskOf y) = sub y (setOf n m) := n3 (by decide) (by decide) (by decide)
theorem allS_perm : ∀ n, N3 n → ((List.range (2 ^ n)).map (setOf n)).isPerm (allS n) = true := n3 (by decide) (by decide) (by decide)
theorem allS_sorted : ∀ n, N3 n → (allS n).Pairwise (fun x y => x < y) := n3 (by decide) (by decide) (by decide)
end Tw
namespace Tw
def leastS (f : List Nat → Bool) (x : List Nat) : Bool := f x && !(x.any fun t => f (x.erase t))
theorem setOf_erase : ∀ n, N3 n → ∀ m ∈ List.range (2 ^ n), ∀ t ∈ setOf n m, 2 ^ t ≤ m ∧ t < 4 ∧ setOf n (m - 2 ^ t) = (setOf n m).erase t := n3 (by decide) (by decide) (by decide)
theorem setOf_len : ∀ n, N3 n → ∀ m ∈ List.range (2 ^ n), (setOf n m).length ≤ 4 := n3 (by decide) (by decide) (by decide)
theorem range_sets (n : Nat) (hn : N3 n) (p : List Nat → Bool) : (((List.range (2 ^ n)).filter fun m => p (setOf n m)).map (setOf n)).Perm ((allS n).filter p) := by
  have h := List.isPerm_iff.mp (allS_perm n hn)
  have e : ((List.range (2 ^ n)).filter fun m => p (setOf n m)).map (setOf n) = ((List.range (2 ^ n)).map (setOf n)).filter p := by
    rw [List.filter_map]
    rfl
  rw [e]
  exact h.filter p
end Tw
end
/-! TwM1 -/
section
set_option Elab.async false
set_option linter.all false
set_option autoImplicit false
set_option maxRecDepth 100000
/-! Sets as data; their order. -/
namespace Tw
open PySem PySem.Spec PyProof.Rows L2
abbrev dn (t : Nat) : PyData := .int (t : Int)
/-- a set of states -/
abbrev setD (x : List Nat) : PyData := .tuple (x.map dn)
theorem lex_cast : ∀ x y : List Nat, ((x.map Int.ofNat) < (y.map Int.ofNat)) ↔ x < y
  | [], [] => by simp
  | [], _ :: _ => by simp
  | _ :: _, [] => by simp
  | a :: x, b :: y => by
    rw [List.map_cons, List.map_cons, List.cons_lt_cons_iff, List.cons_lt_cons_iff, lex_cast x y, show (Int.ofNat a < Int.ofNat b) = (a < b) from propext Int.ofNat_lt, show (Int.ofNat a = Int.ofNat b) = (a = b) from propext Int.ofNat_inj]
theorem lt_sets (x y : List Nat) : PyProof.Rows.lexLt PyProof.Rows.itemOrd (PySem.W.keyToksAll (x.map dn)) (PySem.W.keyToksAll (y.map dn)) = decide (x < y) := by
  have h := PySem.W.dataLt_ints (x.map Int.ofNat) (y.map Int.ofNat)
  rw [List.map_map, List.map_map] at h
  refine h.trans ?_
  by_cases c : x < y
  · rw [decide_eq_true c, decide_eq_true ((lex_cast x y).mpr c)]
  · rw [decide_eq_false c, decide_eq_false (fun q => c ((lex_cast x y).mp q))]
theorem le_sets (x y : List Nat) : PySem.W.dataLe false id (setD x) (setD y) = !decide (y < x) := by
  show (!PySem.W.dataLt (setD y) (setD x)) = _
  rw [PySem.W.dataLt_tuple, lt_sets]
theorem setD_inj : ∀ {x y : List Nat}, setD x = setD y → x = y := by
  intro x y h
  have h2 : x.map dn = y.map dn := PyData.tuple.inj h
  have : ∀ {x y : List Nat}, x.map dn = y.map dn → x = y := by
    intro x
    induction x with
    | nil =>
      intro y h
      cases y with
      | nil => rfl
      | cons b y => cases h
    | cons a x ih =>
      intro y h
      cases y with
      | nil => cases h
      | cons b y =>
        rw [List.map_cons, List.map_cons] at h
        have h1 := (List.cons.inj h).1
        have h2 := (List.cons.inj h).2
        rw [ih h2, Int.ofNat_inj.mp (PyData.int.inj h1)]
  exact this h2
theorem perm_sorted {α : Type} (le : α → α → Bool) : ∀ {xs ys : List α}, (∀ a ∈ xs, ∀ b ∈ xs, le a b = true → le b a = true → a = b) → xs.Perm ys → xs.Pairwise (fun a b => le a b = true) → ys.Pairwise (fun a b => le a b = true) → xs = ys
  | [], ys, _, p, _, _ => (List.nil_perm.mp p).symm
  | x :: xs, [], _, p, _, _ => by
    have := p.length_eq
    simp at this
  | x :: xs, y :: ys, h, p, s, t => by
    rw [List.pairwise_cons] at s t
    have hxy : x = y := by
      have hx : x ∈ y :: ys := p.mem_iff.mp List.mem_cons_self
      have hy : y ∈ x :: xs := p.mem_iff.mpr List.mem_cons_self
      rcases List.mem_cons.mp hx with e | hx
      · exact e
      · rcases List.mem_cons.mp hy with e | hy
        · exact e.symm
        · exact h x List.mem_cons_self y (List.mem_cons_of_mem _ hy) (s.1 y hy) (t.1 x hx)
    subst hxy
    rw [perm_sorted le (fun a ha b hb => h a (List.mem_cons_of_mem _ ha) b (List.mem_cons_of_mem _ hb)) (List.perm_cons x |>.mp p) s.2 t.2]
theorem sort_sets {xs ys : List (List Nat)} (hp : xs.Perm ys) (hs : ys.Pairwise (· < ·)) : (xs.map setD).mergeSort (PySem.W.dataLe false id) = ys.map setD := by
  have tl := PySem.W.sortLe_total (listOrd itemOrd) false fun b : PyData => PySem.W.keyToks b
  refine perm_sorted (PySem.W.dataLe false id) ?_ ((List.mergeSort_perm _ _).trans (hp.map _)) ?_ ?_
  · intro a ha b hb h1 h2
    obtain ⟨x, _, rfl⟩ := List.mem_map.mp ((List.mergeSort_perm _ _).mem_iff.mp ha)
    obtain ⟨y, _, rfl⟩ := List.mem_map.mp ((List.mergeSort_perm _ _).mem_iff.mp hb)
    rw [le_sets] at h1 h2
    have h1 : ¬ y < x := by simpa using h1
    have h2 : ¬ x < y := by simpa using h2
    rw [List.le_antisymm (List.not_lt.mp h1) (List.not_lt.mp h2)]
  · exact List.pairwise_mergeSort tl.trans (fun a b => by rw [Bool.or_eq_true]; exact tl.total a b) _
  · rw [List.pairwise_map]
    refine hs.imp fun {x y} h => ?_
    rw [le_sets]
    have : ¬ y < x := fun q => List.lt_asymm h q
    simp [this]
end Tw
namespace Tw
open PySem PySem.Spec PyProof.Rows L2
/-! facts of set data for the rules' side conditions -/
theorem depth_set (x : List Nat) : (setD x).depth ≤ 1 := by
  have h := PySem.W.depth_ints (x.map Int.ofNat)
  rw [List.map_map] at h
  have h2 : PyData.depthAll (x.map dn) = 0 := h
  unfold PyData.depth
  rw [h2]
  exact Nat.le_refl _
theorem lay_set (x : List Nat) : (setD x).canLay0 = true := by
  unfold PyData.canLay0
  induction x with
  | nil => rfl
  | cons a x ih => exact ih
theorem shaped_set (x : List Nat) : SeqAt.shaped (setD x) = true := by
  unfold SeqAt.shaped
  rw [lay_set, decide_eq_true (Nat.le_trans (depth_set x) (by decide))]
  rfl
theorem shaped_int (i : Int) : SeqAt.shaped (.int i) = true := rfl
theorem shaped_str {i : Str} (h : (PyData.str i).canLay0 = true) : SeqAt.shaped (.str i) = true := by
  unfold SeqAt.shaped
  rw [h]
  rfl
theorem eqv_sets : ∀ x y : List Nat, PyData.eqvAll (x.map dn) (y.map dn) = decide (x = y)
  | [], [] => rfl
  | [], _ :: _ => rfl
  | _ :: _, [] => rfl
  | a :: x, b :: y => by
    show (PyData.eqv (dn a) (dn b) && PyData.eqvAll (x.map dn) (y.map dn)) = _
    rw [eqv_sets x y]
    show (((a : Int) == (b : Int)) && _) = _
    by_cases h1 : a = b
    · subst h1
      by_cases h2 : x = y
      · subst h2
        simp
      · simp [h2]
    · have : ¬ (a : Int) = (b : Int) := fun e => h1 (Int.ofNat_inj.mp e)
      simp [h1, this]
theorem eqv_set (x y : List Nat) : PyData.eqv (setD x) (setD y) = decide (x = y) := eqv_sets x y
theorem alike_set (x y : List Nat) : PySem.W.alike (setD x) (setD y) = true := by
  have h := PySem.W.alike_ints (x.map Int.ofNat) (y.map Int.ofNat)
  rw [List.map_map, List.map_map] at h
  unfold PySem.W.alike
  exact h
theorem depthAll_le (c : Nat) : ∀ ds : List PyData, (∀ d ∈ ds, d.depth ≤ c) → PyData.depthAll ds ≤ c
  | [], _ => by simp [PyData.depthAll]
  | d :: ds, h => by
    have h1 := h d List.mem_cons_self
    have h2 := depthAll_le c ds fun e he => h e (List.mem_cons_of_mem _ he)
    simp only [PyData.depthAll]
    omega
theorem layAll : ∀ ds : List PyData, (∀ d ∈ ds, d.canLay0 = true) → PyData.canLayAll0 ds = true
  | [], _ => rfl
  | d :: ds, h => by
    simp only [PyData.canLayAll0, h d List.mem_cons_self, layAll ds fun e he => h e (List.mem_cons_of_mem _ he)]
    rfl
theorem shaped_sets (xs : List (List Nat)) : SeqAt.shaped (.list (xs.map setD)) = true := by
  have h1 : PyData.canLayAll0 (xs.map setD) = true := layAll _ fun d hd => by
    obtain ⟨x, _, rfl⟩ := List.mem_map.mp hd
    exact lay_set x
  have h2 : PyData.depthAll (xs.map setD) ≤ 1 := depthAll_le 1 _ fun d hd => by
    obtain ⟨x, _, rfl⟩ := List.mem_map.mp hd
    exact depth_set x
  unfold SeqAt.shaped
  have e1 : (PyData.list (xs.map setD)).canLay0 = true := by
    simp only [PyData.canLay0]
    exact h1
  have e2 : (PyData.list (xs.map setD)).depth ≤ 64 := by
    simp only [PyData.depth]
    omega
  rw [e1, decide_eq_true e2]
  rfl
theorem any_sets (xs : List (List Nat)) (x : List Nat) : ((xs.map setD).any fun z => PyData.eqv z (setD x)) = xs.contains x := by
  induction xs with
  | nil => rfl
  | cons a xs ih =>
    rw [List.map_cons, List.any_cons, ih, eqv_set, List.contains_cons]
    congr 1
    by_cases h : a = x
    · subst h
      simp
    · have : ¬ x = a := fun e => h e.symm
      simp [h, this]
theorem any_ns (xs : List Nat) (x : Nat) : ((xs.map dn).any fun z => PyData.eqv z (dn x)) = xs.contains x := by
  induction xs with
  | nil => rfl
  | cons a xs ih =>
    rw [List.map_cons, List.any_cons, ih, List.contains_cons]
    congr 1
    show ((a : Int) == (x : Int)) = (x == a)
    by_cases h : a = x
    · subst h
      rw [beq_self_eq_true, beq_self_eq_true]
    · have h1 : ¬ x = a := fun e => h e.symm
      have h2 : ¬ (a : Int) = (x : Int) := fun e => h (Int.ofNat_inj.mp e)
      rw [beq_eq_false_iff_ne.mpr h1, beq_eq_false_iff_ne.mpr h2]
theorem flat_ns (xs : List Nat) : (xs.map dn).all flatD = true := by
  induction xs with
  | nil => rfl
  | cons a xs ih => exact ih
end Tw
end
/-! TwM2 -/
section
set_option Elab.async false
set_option linter.all false
set_option autoImplicit false
set_option maxRecDepth 100000
/-! Texts of a system, as data; their places. -/
namespace Tw
open PySem PySem.Spec PyProof.Rows L2
inductive Txt where
  | skip
  | go (ts : List Nat)
  | call (k : Nat)
  | part (k : Nat)
  | thn (a b : Txt)
  | ite (x : List Nat) (a b : Txt)
  | ch (we : Bool) (l : List Txt)
abbrev sideT (we : Bool) : Str := if we then "we" else "they"
mutual
def Txt.toD : Txt → PyData
  | .skip => .tuple [.str "skip"]
  | .go ts => .tuple [.str "go", setD ts]
  | .call k => .tuple [.str "call", dn k]
  | .part k => .tuple [.str "part", dn k]
  | .thn a b => .tuple [.str "then", a.toD, b.toD]
  | .ite x a b => .tuple [.str "if", setD x, a.toD, b.toD]
  | .ch we l => .tuple [.str (sideT we), .tuple (Txt.toDs l)]
def Txt.toDs : List Txt → List PyData
  | [] => []
  | t :: l => t.toD :: Txt.toDs l
end
theorem toDs_map : ∀ l : List Txt, Txt.toDs l = l.map Txt.toD
  | [] => rfl
  | t :: l => by
    rw [Txt.toDs, toDs_map l]
    rfl
def Txt.kids : Txt → List Txt
  | .thn a b => [a, b]
  | .ite _ a b => [a, b]
  | .ch _ l => l
  | _ => []
mutual
def Txt.size : Txt → Nat
  | .thn a b => 1 + a.size + b.size
  | .ite _ a b => 1 + a.size + b.size
  | .ch _ l => 1 + Txt.sizes l
  | .skip => 1
  | .go _ => 1
  | .call _ => 1
  | .part _ => 1
def Txt.sizes : List Txt → Nat
  | [] => 0
  | t :: l => t.size + Txt.sizes l
end
mutual
def Txt.dep : Txt → Nat
  | .thn a b => 1 + max a.dep b.dep
  | .ite _ a b => 1 + max a.dep b.dep
  | .ch _ l => 1 + Txt.deps l
  | .skip => 1
  | .go _ => 1
  | .call _ => 1
  | .part _ => 1
def Txt.deps : List Txt → Nat
  | [] => 0
  | t :: l => max t.dep (Txt.deps l)
end
mutual
/-- as the program wants it: n states, cnt texts, many parts -/
def Txt.Ok (n cnt many : Nat) : Txt → Prop
  | .skip => True
  | .go ts => ts.length = n ∧ ∀ t ∈ ts, t < n
  | .call k => k < cnt
  | .part k => k < many
  | .thn a b => a.Ok n cnt many ∧ b.Ok n cnt many
  | .ite x a b => x ∈ allS n ∧ a.Ok n cnt many ∧ b.Ok n cnt many
  | .ch _ l => l.length ≤ 6 ∧ Txt.Oks n cnt many l
def Txt.Oks (n cnt many : Nat) : List Txt → Prop
  | [] => True
  | t :: l => t.Ok n cnt many ∧ Txt.Oks n cnt many l
end
theorem oks_all {n cnt many : Nat} : ∀ {l : List Txt}, Txt.Oks n cnt many l ↔ ∀ t ∈ l, t.Ok n cnt many
  | [] => Iff.intro (fun _ _ h => nomatch h) (fun _ => trivial)
  | t :: l => by
    rw [Txt.Oks, oks_all (l := l)]
    simp
theorem deps_le {l : List Txt} : ∀ {t : Txt}, t ∈ l → t.dep ≤ Txt.deps l := by
  induction l with
  | nil => exact fun h => nomatch h
  | cons a l ih =>
    intro t h
    rw [Txt.deps]
    rcases List.mem_cons.mp h with rfl | h
    · exact Nat.le_max_left _ _
    · exact Nat.le_trans (ih h) (Nat.le_max_right _ _)
theorem kid_dep {t u : Txt} (h : u ∈ t.kids) : u.dep < t.dep := by
  cases t with
  | thn a b =>
    rw [Txt.dep]
    rcases List.mem_cons.mp h with rfl | h
    · omega
    · rw [List.mem_singleton.mp h]
      omega
  | ite x a b =>
    rw [Txt.dep]
    rcases List.mem_cons.mp h with rfl | h
    · omega
    · rw [List.mem_singleton.mp h]
      omega
  | ch w l =>
    rw [Txt.dep]
    have := deps_le (show u ∈ l from h)
    omega
  | skip => cases h
  | go _ => cases h
  | call _ => cases h
  | part _ => cases h
theorem kid_ok {n cnt many : Nat} {t u : Txt} (ho : t.Ok n cnt many) (h : u ∈ t.kids) : u.Ok n cnt many := by
  cases t with
  | thn a b =>
    rw [Txt.Ok] at ho
    rcases List.mem_cons.mp h with rfl | h
    · exact ho.1
    · rw [List.mem_singleton.mp h]
      exact ho.2
  | ite x a b =>
    rw [Txt.Ok] at ho
    rcases List.mem_cons.mp h with rfl | h
    · exact ho.2.1
    · rw [List.mem_singleton.mp h]
      exact ho.2.2
  | ch w l =>
    rw [Txt.Ok] at ho
    exact oks_all.mp ho.2 u h
  | skip => cases h
  | go _ => cases h
  | call _ => cases h
  | part _ => cases h
theorem sizes_sum : ∀ l : List Txt, Txt.sizes l = (l.map Txt.size).sum
  | [] => rfl
  | t :: l => by rw [Txt.sizes, sizes_sum l, List.map_cons, List.sum_cons]
theorem size_kids (t : Txt) : t.size = 1 + (t.kids.map Txt.size).sum := by
  cases t with
  | thn a b => rw [Txt.size]; simp [Txt.kids]; omega
  | ite x a b => rw [Txt.size]; simp [Txt.kids]; omega
  | ch w l => rw [Txt.size, sizes_sum]; rfl
  | skip => rfl
  | go _ => rfl
  | call _ => rfl
  | part _ => rfl
theorem size_pos (t : Txt) : 1 ≤ t.size := by
  rw [size_kids]
  omega
theorem len_sum : ∀ l : List Txt, l.length ≤ (l.map Txt.size).sum
  | [] => Nat.zero_le _
  | t :: l => by
    have := len_sum l
    have := size_pos t
    rw [List.map_cons, List.sum_cons, List.length_cons]
    omega
theorem kid_size {t u : Txt} (h : u ∈ t.kids) : u.size < t.size := by
  rw [size_kids t]
  have : ∀ l : List Txt, u ∈ l → u.size ≤ (l.map Txt.size).sum := by
    intro l
    induction l with
    | nil => exact fun h => nomatch h
    | cons a l ih =>
      intro h
      rw [List.map_cons, List.sum_cons]
      rcases List.mem_cons.mp h with rfl | h
      · omega
      · have := ih h
        omega
  have := this _ h
  omega
/-- a place: the text's number, the way to it -/
abbrev Plc := Nat × List Nat
abbrev plD (p : Plc) : PyData := .tuple [dn p.1, setD p.2]
/-- the places within a text that stands at p, of depth below d -/
def plcs : Nat → Plc → Txt → List Plc
  | 0, _, _ => []
  | d + 1, p, t => p :: (t.kids.zipIdx.flatMap fun u => plcs d (p.1, p.2 ++ [u.2]) u.1)
theorem plcs_mono : ∀ (d e : Nat) (p : Plc) (t : Txt), t.dep ≤ d → d ≤ e → plcs e p t = plcs d p t
  | 0, _, p, t, h, _ => by
    have : 1 ≤ t.dep := by cases t <;> rw [Txt.dep] <;> omega
    omega
  | d + 1, 0, _, _, _, h => by omega
  | d + 1, e + 1, p, t, h, he => by
    unfold plcs
    congr 1
    have : ∀ l : List (Txt × Nat), (∀ u ∈ l, u.1 ∈ t.kids) → l.flatMap (fun u => plcs e (p.1, p.2 ++ [u.2]) u.1) = l.flatMap fun u => plcs d (p.1, p.2 ++ [u.2]) u.1 := by
      intro l hl
      induction l with
      | nil => rfl
      | cons u l ih =>
        rw [List.flatMap_cons, List.flatMap_cons, ih fun v hv => hl v (List.mem_cons_of_mem _ hv), plcs_mono d e _ _ (by have := kid_dep (hl u List.mem_cons_self); omega) (by omega)]
    exact this _ fun u hu => List.fst_mem_of_mem_zipIdx hu
theorem plcs_len : ∀ (d : Nat) (p : Plc) (t : Txt), t.dep ≤ d → (plcs d p t).length = t.size
  | 0, p, t, h => by
    have : 1 ≤ t.dep := by cases t <;> rw [Txt.dep] <;> omega
    omega
  | d + 1, p, t, h => by
    rw [size_kids]
    unfold plcs
    rw [List.length_cons, List.length_flatMap, Nat.add_comm]
    congr 1
    have : ∀ (l : List Txt) (k : Nat), (∀ u ∈ l, u ∈ t.kids) → ((l.zipIdx k).map fun u => (plcs d (p.1, p.2 ++ [u.2]) u.1).length).sum = (l.map Txt.size).sum := by
      intro l
      induction l with
      | nil => exact fun _ _ => rfl
      | cons u l ih =>
        intro k hl
        rw [List.zipIdx_cons, List.map_cons, List.map_cons, List.sum_cons, List.sum_cons, ih (k + 1) fun v hv => hl v (List.mem_cons_of_mem _ hv), plcs_len d _ u (by have := kid_dep (hl u List.mem_cons_self); omega)]
    exact this _ 0 fun u hu => hu
abbrev sysD (n many : Nat) (ts : List Txt) : PyData := .tuple [dn n, dn many, .tuple (ts.map Txt.toD)]
/-- a system as the law draws it, or with another text in it -/
structure SysOk (n many : Nat) (ts : List Txt) : Prop where
  n3 : N3 n
  m3 : many ≤ 3
  l1 : 1 ≤ ts.length
  l4 : ts.length ≤ 4
  ok : ∀ t ∈ ts, t.Ok n ts.length many
  dep : ∀ t ∈ ts, t.dep ≤ 12
  size : ∀ t ∈ ts, t.size ≤ 1000
end Tw
namespace Tw
open PySem PySem.Spec PyProof.Rows L2
mutual
theorem toD_lay : ∀ t : Txt, t.toD.canLay0 = true
  | .skip => by rw [Txt.toD]; decide +kernel
  | .go ts => by
    rw [Txt.toD]
    simp only [PyData.canLay0, PyData.canLayAll0]
    have := lay_set ts
    simp only [PyData.canLay0] at this
    rw [this]
    decide +kernel
  | .call k => by
    rw [Txt.toD]
    simp only [PyData.canLay0, PyData.canLayAll0]
    decide +kernel
  | .part k => by
    rw [Txt.toD]
    simp only [PyData.canLay0, PyData.canLayAll0]
    decide +kernel
  | .thn a b => by
    rw [Txt.toD]
    have h1 := toD_lay a
    have h2 := toD_lay b
    simp only [PyData.canLay0, PyData.canLayAll0, h1, h2]
    decide +kernel
  | .ite x a b => by
    rw [Txt.toD]
    have h1 := toD_lay a
    have h2 := toD_lay b
    have h3 := lay_set x
    simp only [PyData.canLay0] at h3
    simp only [PyData.canLay0, PyData.canLayAll0, h1, h2, h3]
    decide +kernel
  | .ch w l => by
    rw [Txt.toD]
    have h1 := toDs_lay l
    simp only [PyData.canLay0, PyData.canLayAll0, h1]
    cases w <;> decide +kernel
theorem toDs_lay : ∀ l : List Txt, PyData.canLayAll0 (Txt.toDs l) = true
  | [] => rfl
  | t :: l => by
    rw [Txt.toDs]
    simp only [PyData.canLayAll0, toD_lay t, toDs_lay l]
    rfl
end
mutual
theorem toD_depth : ∀ t : Txt, t.toD.depth ≤ 2 * t.dep
  | .skip => by rw [Txt.toD, Txt.dep]; simp [PyData.depth, PyData.depthAll]
  | .go ts => by
    rw [Txt.toD, Txt.dep]
    have := depth_set ts
    simp only [PyData.depth, PyData.depthAll] at this ⊢
    omega
  | .call k => by rw [Txt.toD, Txt.dep]; simp [PyData.depth, PyData.depthAll]
  | .part k => by rw [Txt.toD, Txt.dep]; simp [PyData.depth, PyData.depthAll]
  | .thn a b => by
    rw [Txt.toD, Txt.dep]
    have h1 := toD_depth a
    have h2 := toD_depth b
    simp only [PyData.depth, PyData.depthAll]
    omega
  | .ite x a b => by
    rw [Txt.toD, Txt.dep]
    have h1 := toD_depth a
    have h2 := toD_depth b
    have h3 := depth_set x
    have : 1 ≤ a.dep := by cases a <;> rw [Txt.dep] <;> omega
    simp only [PyData.depth, PyData.depthAll] at h3 ⊢
    omega
  | .ch w l => by
    rw [Txt.toD, Txt.dep]
    have h1 := toDs_depth l
    simp only [PyData.depth, PyData.depthAll]
    omega
theorem toDs_depth : ∀ l : List Txt, PyData.depthAll (Txt.toDs l) ≤ 2 * Txt.deps l
  | [] => by simp [Txt.toDs, PyData.depthAll]
  | t :: l => by
    rw [Txt.toDs, Txt.deps]
    have h1 := toD_depth t
    have h2 := toDs_depth l
    simp only [PyData.depthAll]
    omega
end
theorem shaped_txt {t : Txt} (h : t.dep ≤ 12) : SeqAt.shaped t.toD = true := by
  unfold SeqAt.shaped
  have := toD_depth t
  rw [toD_lay, decide_eq_true (by omega)]
  rfl
end Tw
end
/-! TwM3 -/
section
set_option Elab.async false
set_option linter.all false
set_option autoImplicit false
set_option maxRecDepth 100000
/-! Tables as data; what a text gives. -/
namespace Tw
open PySem PySem.Spec PyProof.Rows L2
abbrev Row := List Nat → Bool
def numK (t : Nat) : NK := .num (t : Int)
/-- a set, a place, a state with a set: as keys -/
def keyS (x : List Nat) : NK := .tup (x.map numK)
def keyP (p : Plc) : NK := .tup [numK p.1, keyS p.2]
theorem datas_nums : ∀ x : List Nat, NestedKey.datas (x.map numK) = x.map dn
  | [] => rfl
  | t :: x => by
    rw [List.map_cons, List.map_cons, NestedKey.datas, datas_nums x]
    rfl
theorem keyS_data (x : List Nat) : (keyS x).data = setD x := by
  unfold keyS
  rw [NestedKey.data, datas_nums]
theorem keyP_data (p : Plc) : (keyP p).data = plD p := by
  unfold keyP
  rw [NestedKey.data, NestedKey.datas, NestedKey.datas, NestedKey.datas, keyS_data]
  rfl
theorem depths_nums : ∀ x : List Nat, NestedKey.depthAll (x.map numK) ≤ 1
  | [] => by simp [NestedKey.depthAll]
  | t :: x => by
    have := depths_nums x
    simp only [List.map_cons, NestedKey.depthAll, numK, NestedKey.depth]
    omega
theorem keyS_depth (x : List Nat) : (keyS x).depth ≤ 3 := by
  unfold keyS
  have := depths_nums x
  simp only [NestedKey.depth]
  omega
theorem keyP_depth (p : Plc) : (keyP p).depth ≤ 8 := by
  unfold keyP
  have := keyS_depth p.2
  simp only [NestedKey.depth, NestedKey.depthAll, numK]
  omega
theorem nums_inj : ∀ {x y : List Nat}, x.map numK = y.map numK → x = y
  | [], [], _ => rfl
  | [], _ :: _, h => nomatch h
  | _ :: _, [], h => nomatch h
  | a :: x, b :: y, h => by
    rw [List.map_cons, List.map_cons] at h
    have h1 := (List.cons.inj h).1
    have h2 := (List.cons.inj h).2
    rw [nums_inj h2, Int.ofNat_inj.mp (NestedKey.num.inj h1)]
theorem keyS_inj {x y : List Nat} (h : keyS x = keyS y) : x = y := nums_inj (NestedKey.tup.inj h)
theorem keyP_inj {p q : Plc} (h : keyP p = keyP q) : p = q := by
  have h1 := (List.cons.inj (NestedKey.tup.inj h)).1
  have h2 := (List.cons.inj (List.cons.inj (NestedKey.tup.inj h)).2).1
  have e1 : p.1 = q.1 := Int.ofNat_inj.mp (NestedKey.num.inj h1)
  have e2 := keyS_inj h2
  cases p
  cases q
  simp_all
theorem look_map {α : Type} {β : Type} {kf : α → NK} {f : α → β} (hi : ∀ a b, kf a = kf b → a = b) {a : α} : ∀ {xs : List α}, a ∈ xs → (xs.map fun x => (kf x, f x)).lookup (kf a) = some (f a)
  | [], h => nomatch h
  | b :: xs, h => by
    rw [List.map_cons, List.lookup_cons]
    by_cases c : a = b
    · subst c
      rw [beq_self_eq_true]
    · rw [beq_eq_false_iff_ne.mpr fun e => c (hi _ _ e)]
      rcases List.mem_cons.mp h with e | h
      · exact absurd e c
      · exact look_map hi h
theorem nodup_map {α : Type} {kf : α → NK} (hi : ∀ a b, kf a = kf b → a = b) {xs : List α} (h : xs.Nodup) : (xs.map kf).Nodup := by
  rw [List.nodup_iff_pairwise_ne, List.pairwise_map]
  exact (List.nodup_iff_pairwise_ne.mp h).imp fun n e => n (hi _ _ e)
section
variable (P : Program) (w : World) (K : PySem.W.Frag)
/-- one state's dict; a table: a dict for each state -/
def dctT (n : Nat) (f : Row) : Ty := KdT P w K ((allS n).map fun x => (keyS x, DT K (.bool (f x))))
def tabT (n : Nat) (F : Nat → Row) : Ty := LstT ((List.range n).map fun s => dctT P w K n (F s))
def tabsT (n cnt : Nat) (Fs : Nat → Nat → Row) : Ty := LstT ((List.range cnt).map fun k => tabT P w K n (Fs k))
end
/-- the states from which a set is reached -/
def pre (n : Nat) (G : Nat → Row) (x : List Nat) : List Nat := (List.range n).filter fun t => G t x
theorem filter_mem : ∀ n, N3 n → ∀ p : Nat → Bool, (List.range n).filter p ∈ allS n := n3
  (fun p => by
    show (List.range 1).filter p ∈ [[], [0]]
    cases h0 : p 0 <;> simp [List.range, List.range.loop, List.filter_cons, h0])
  (fun p => by
    show (List.range 2).filter p ∈ [[], [0], [0, 1], [1]]
    cases h0 : p 0 <;> cases h1 : p 1 <;> simp [List.range, List.range.loop, List.filter_cons, h0, h1])
  (fun p => by
    show (List.range 3).filter p ∈ [[], [0], [0, 1], [0, 1, 2], [0, 2], [1], [1, 2], [2]]
    cases h0 : p 0 <;> cases h1 : p 1 <;> cases h2 : p 2 <;> simp [List.range, List.range.loop, List.filter_cons, h0, h1, h2])
theorem pre_mem {n : Nat} (hn : N3 n) (G : Nat → Row) (x : List Nat) : pre n G x ∈ allS n := filter_mem n hn _
mutual
/-- what a text gives, with what the parts and the other texts give -/
def sem (n : Nat) (Ps Cs : Nat → Nat → Row) : Txt → Nat → Row
  | .skip => fun s x => x.contains s
  | .go ts => fun s x => x.contains (ts.getD s 0)
  | .call k => Cs k
  | .part k => Ps k
  | .thn a b => fun s x => sem n Ps Cs a s (pre n (sem n Ps Cs b) x)
  | .ite y a b => fun s x => if y.contains s then sem n Ps Cs a s x else sem n Ps Cs b s x
  | .ch we l => fun s x => if we then (sems n Ps Cs l).any (fun F => F s x) else (sems n Ps Cs l).all (fun F => F s x)
def sems (n : Nat) (Ps Cs : Nat → Nat → Row) : List Txt → List (Nat → Row)
  | [] => []
  | t :: l => sem n Ps Cs t :: sems n Ps Cs l
end
theorem sems_map (n : Nat) (Ps Cs : Nat → Nat → Row) : ∀ l : List Txt, sems n Ps Cs l = l.map (sem n Ps Cs)
  | [] => rfl
  | t :: l => by
    rw [sems, sems_map n Ps Cs l]
    rfl
end Tw
namespace Tw
abbrev txtAt (ts : List Txt) (k : Nat) : Txt := ts.getD k .skip
/-- the rounds: i times from b -/
def rnd (n : Nat) (ts : List Txt) (Ps : Nat → Nat → Row) (b : Bool) : Nat → Nat → Nat → Row
  | 0 => fun _ _ _ => b
  | i + 1 => fun k => sem n Ps (rnd n ts Ps b i) (txtAt ts k)
/-- the parts' contracts, by number and state -/
def partF (ps : List (List Row)) (j s : Nat) : Row := (ps.getD j []).getD s fun _ => false
end Tw
end
/-! W1 -/
section
set_option Elab.async false
set_option linter.all false
set_option autoImplicit false
set_option maxRecDepth 100000
set_option maxHeartbeats 4000000
/-! The walk: families. -/
namespace Tw
open PySem PySem.Spec PyProof.Rows L2
section
variable {P : Program} {w : World} {K : PySem.W.Frag} {mg : PySem.Str → Option Value} {base : Heap}
def sp_is_integer (K : PySem.W.Frag) : Sp := spP (fun _ : Int × Int × Int => True) (fun a => [DT K (.int a.1), DT K (.int a.2.1), DT K (.int a.2.2)]) (fun a => DT K (.bool (decide (a.2.1 ≤ a.1) && decide (a.1 ≤ a.2.2))))
theorem ok_is_integer (T : Tx K mg) : FnOk P w K mg base CX0 1 ais_integer (fdAt K ais_integer) P_is_integer (sp_is_integer K) := by
  refine fn_ok T.d_is_integer sc_is_integer (fun _ => rfl) fun cdv A outer s H E hr => ⟨_, (pss_one (ps_ret (pe_and (pe_callB (isiK (K := K) rfl) rfl T.f_isinstance bt_isinstance (pa_cons (pv 0) (pa_cons (pe_bltn (v := .ty "int") rfl T.f_int bt_int rfl) pa_nil))) (pe_and (pe_not (pe_callB (isiK (K := K) rfl) rfl T.f_isinstance bt_isinstance (pa_cons (pv 0) (pa_cons (pe_bltn (v := .ty "bool") rfl T.f_bool bt_bool rfl) pa_nil)))) (pe_one (pe_chain op_le op_le (pv 1) (pv 0) (pv 2))))))), ?_⟩
  rintro ⟨i, lo, hi⟩ O - hO
  refine st_ret (ew_of (et_and (et_cb (ea_cons (et_var rfl) (ea_cons et_v ea_nil)) (cx_isi kb_ii)) fun _ => et_and (et_not (et_cb (ea_cons (et_var rfl) (ea_cons et_v ea_nil)) (cx_isi kb_ib))) fun _ => et_chain (et_var rfl) (et_var rfl) (et_var rfl) rx_B0 rx_B0) (rt_P ?_))
  exact Sub.refl _
/-- a number between two others -/
theorem et_isint {Γ : TEnv} {M : Mem} {ta : TA} {E : XK} (i lo hi : Int) (h1 : lo ≤ i) (h2 : i ≤ hi) (h : EA ta Γ M [DT K (.int i), DT K (.int lo), DT K (.int hi)]) : ET (tCall (sp_is_integer K) [] E ta) Γ M (DT K (.bool true)) := by
  have z := et_call (E := E) (ok := fun _ : Int × Int × Int => True) (As := fun a => [DT K (.int a.1), DT K (.int a.2.1), DT K (.int a.2.2)]) (Rt := fun a => DT K (.bool (decide (a.2.1 ≤ a.1) && decide (a.1 ≤ a.2.2)))) (i, lo, hi) trivial h
  refine et_eq z ?_
  simp only [decide_eq_true h1, decide_eq_true h2, Bool.and_self]
def sp_need_number (K : PySem.W.Frag) : Sp := spP (fun n : Nat => 1 ≤ n ∧ n ≤ 4) (fun n => [DT K (dn n)]) (fun _ => DT K .none)
theorem ok_need_number (T : Tx K mg) : FnOk P w K mg base CX0 2 aneed_number (fdAt K aneed_number) P_need_number (sp_need_number K) := by
  refine fn_ok T.d_need_number sc_need_number (fun _ => rfl) fun cdv A outer s H E hr => ⟨_, (pss_one (ps_if (pt_not (pt_val (pe_call (ok_is_integer (P := P) (w := w) T) (hr.mono (by omega)) rfl T.g_is_integer T.d_is_integer.kp T.b_is_integer .nil pass0 (pa_cons (pv 0) (pa_cons (pe_int) (pa_cons (pe_glob (v := .int 4) rfl T.i_MOST_STATES.choose_spec ⟨_, rfl⟩) pa_nil)))))) (pss_one (ps_never)) pss_nil)), ?_⟩
  rintro n O ⟨h1, h2⟩ hO
  exact st_if (b := false) (bt_not (bt_B (et_isint n 1 4 (by omega) (by omega) (ea_cons (et_var rfl) (ea_cons et_int (ea_cons et_int ea_nil)))))) (fun h => nomatch h) fun _ => st_next (nx_P .non)
theorem powers_at {t : Nat} (h : t < 4) : L2.atI [PyData.int 1, .int 2, .int 4, .int 8] (t : Int) = some (.int ((2 ^ t : Nat) : Int)) := by
  have : t = 0 ∨ t = 1 ∨ t = 2 ∨ t = 3 := by omega
  rcases this with rfl | rfl | rfl | rfl <;> rfl
theorem sizes_at {n : Nat} (h : n ≤ 4) : L2.atI [PyData.int 1, .int 2, .int 4, .int 8, .int 16] (n : Int) = some (dn (2 ^ n)) := by
  have : n = 0 ∨ n = 1 ∨ n = 2 ∨ n = 3 ∨ n = 4 := by omega
  rcases this with rfl | rfl | rfl | rfl | rfl <;> rfl
theorem et_powers (T : Tx K mg) {Γ : TEnv} {M : Mem} : ET (tC (.ref T.t_POWERS.choose)) Γ M (DT K (.tuple [.int 1, .int 2, .int 4, .int 8])) := et_val fun I => .tup (T.t_POWERS.choose_spec.2 I) (.cons (.int _) (.cons (.int _) (.cons (.int _) (.cons (.int _) .nil))))
theorem et_sizes (T : Tx K mg) {Γ : TEnv} {M : Mem} : ET (tC (.ref T.t_SIZES.choose)) Γ M (DT K (.tuple [.int 1, .int 2, .int 4, .int 8, .int 16])) := et_val fun I => .tup (T.t_SIZES.choose_spec.2 I) (.cons (.int _) (.cons (.int _) (.cons (.int _) (.cons (.int _) (.cons (.int _) .nil)))))
theorem et_sides (T : Tx K mg) {Γ : TEnv} {M : Mem} : ET (tC (.ref T.t_SIDES.choose)) Γ M (DT K (.tuple [.str "we", .str "they"])) := et_val fun I => .tup (T.t_SIDES.choose_spec.2 I) (.cons (.str _) (.cons (.str _) .nil))
theorem sum_cast (x : List Nat) : (x.map fun t => ((2 ^ t : Nat) : Int)).sum = (maskOf x : Int) := by
  induction x with
  | nil => rfl
  | cons a x ih =>
    unfold maskOf at ih ⊢
    rw [List.map_cons, List.map_cons, List.sum_cons, List.sum_cons, ih, Int.natCast_add]
def sp_mask_of (K : PySem.W.Frag) : Sp := spP (fun x : List Nat => (∀ t ∈ x, t < 4) ∧ x.length < 100) (fun x => [DT K (setD x)]) (fun x => DT K (dn (maskOf x)))
theorem ok_mask_of (T : Tx K mg) : FnOk P w K mg base CX0 1 amask_of (fdAt K amask_of) P_mask_of (sp_mask_of K) := by
  refine fn_ok T.d_mask_of sc_mask_of (fun _ => rfl) fun cdv A outer s H E hr => ⟨_, (pss_one (ps_ret (pe_callB (sumK (K := K) rfl rfl) rfl T.f_sum bt_sum (pa_cons (pe_lc (own := [("t", 1)]) (tt := tYes) rfl sc_mask_of.nd (seqK (K := K) rfl (pv 0)) (blkOk_by (N := N_mask_of) (sc := defScope smask_of) (by decide +kernel)) (fun _ _ _ _ _ => (pg_name (i := 1) sc_mask_of.nd rfl (by first | exact Or.inl rfl | exact Or.inr rfl))) (fun _ _ _ _ _ => pts_nil) (fun _ _ _ _ _ => (pe_ix (ixK (P := P) (w := w) (K := K) rfl rfl rfl (hu10 hr)) (pe_glob (v := .ref T.t_POWERS.choose) rfl T.t_POWERS.choose_spec.1 rfl) (pv 1) (fun _ _ => rfl)))) pa_nil)))), ?_⟩
  rintro x O ⟨hx, hl⟩ hO
  refine st_ret (ew_of (et_cb (ea_cons (lcI (f := fun t => ((2 ^ t : Nat) : Int)) (ix_sT (et_var rfl)) (fun t _ => gt_name) (fun _ => rfl)
    (fun t ht => et_op (et_powers T) (et_var rfl) (rx_ixTD (powers_at (hx t ht)))) (sz100 (by omega))) ea_nil) cx_sum) (rt_P ?_))
  rw [sum_cast]
  exact Sub.refl _
def sp_set_of (K : PySem.W.Frag) : Sp := spP (fun a : Nat × Nat => a.1 ≤ 4) (fun a => [DT K (dn a.1), DT K (dn a.2)]) (fun a => DT K (setD (setOf a.1 a.2)))
theorem ok_set_of (T : Tx K mg) : FnOk P w K mg base CX0 1 aset_of (fdAt K aset_of) P_set_of (sp_set_of K) := by
  refine fn_ok T.d_set_of sc_set_of (fun _ => rfl) fun cdv A outer s H E hr => ⟨_, (pss_one (ps_ret (tupOfK (K := K) rfl rfl T.f_tuple (pe_lc (own := [("t", 2)]) rfl sc_set_of.nd (pi_range1 rfl T.f_range (pa_cons (pv 0) pa_nil)) (blkOk_by (N := N_set_of) (sc := defScope sset_of) (by decide +kernel)) (fun _ _ _ _ _ => (pg_name (i := 2) sc_set_of.nd rfl (by first | exact Or.inl rfl | exact Or.inr rfl))) (fun _ _ _ _ _ => pts_one (pt_cmpR (eqK (K := K) rfl (hu64 hr)) (pe_op op_mod (pe_op op_fdiv (pv 1) (pe_ix (ixK (P := P) (w := w) (K := K) rfl rfl rfl (hu10 hr)) (pe_glob (v := .ref T.t_POWERS.choose) rfl T.t_POWERS.choose_spec.1 rfl) (pv 2) (fun _ _ => rfl))) (pe_int)) (pe_int) (nomark _))) (fun _ _ _ _ _ => (pv 2)))))), ?_⟩
  rintro ⟨n, m⟩ O hn hO
  have hn : n ≤ 4 := hn
  refine st_ret (ew_of (et_tupleLD (lcDIf (p := fun t => m / 2 ^ t % 2 == 1) (f := dn) (ix_R (ea_cons (et_var rfl) ea_nil) (by omega)) (fun t _ => gt_name) (fun _ => rfl)
    (fun t ht => bt_eq (bt_test (et_op (et_op (et_op (et_var rfl) (et_op (et_powers T) (et_var rfl) (rx_ixTD (powers_at (by have := List.mem_range.mp ht; omega)))) (rx_I ?_)) et_int (rx_I ?_)) et_int (rx_eq rfl rfl))) ?_) (fun t _ _ => et_var rfl) (sz100 (by rw [List.length_range]; omega)))) (rt_P (Sub.refl _)))
  · have h4 : t < 4 := by have := List.mem_range.mp ht; omega
    have : t = 0 ∨ t = 1 ∨ t = 2 ∨ t = 3 := by omega
    rcases this with rfl | rfl | rfl | rfl <;> exact ⟨by decide, by decide⟩
  · show (0 : Int) < 2
    decide
  · show ((m : Int) / ((2 ^ t : Nat) : Int) % 2 == 1) = (m / 2 ^ t % 2 == 1)
    rw [← Int.natCast_ediv, show (2 : Int) = ((2 : Nat) : Int) from rfl, ← Int.natCast_emod, show (1 : Int) = ((1 : Nat) : Int) from rfl]
    by_cases c : m / 2 ^ t % 2 = 1
    · rw [c]
      rfl
    · rw [beq_eq_false_iff_ne.mpr c, beq_eq_false_iff_ne.mpr (fun e => c (Int.ofNat_inj.mp e))]
/-- a row: whom it has, by sets -/
abbrev rowD (n : Nat) (f : List Nat → Bool) : PyData := .tuple ((List.range (2 ^ n)).map fun m => PyData.bool (f (setOf n m)))
def sp_are_states (K : PySem.W.Frag) : Sp := spP (fun a : Nat × List Nat => N3 a.1 ∧ a.2 ∈ allS a.1) (fun a => [DT K (dn a.1), DT K (setD a.2)]) (fun a => DT K (.bool true))
theorem all_true {α : Type} (l : List α) : (l.map fun _ => true).all id = true := by simp
theorem ok_are_states (T : Tx K mg) : FnOk P w K mg base CX0 2 aare_states (fdAt K aare_states) P_are_states (sp_are_states K) := by
  refine fn_ok T.d_are_states sc_are_states (fun _ => rfl) fun cdv A outer s H E hr => ⟨_, (pss_cons (ps_if (PW.pt (pw_or (pt_not (pt_val (pe_callB (isiK (K := K) rfl) rfl T.f_isinstance bt_isinstance (pa_cons (pv 1) (pa_cons (pe_bltn (v := .ty "tuple") rfl T.f_tuple bt_tuple rfl) pa_nil))))) (pw_or1 (pt_not (pt_val (pe_callB (allK (K := K) rfl rfl) rfl T.f_all bt_all (pa_cons (pe_lc (own := [("one", 2)]) (tt := tYes) rfl sc_are_states.nd (seqK (K := K) rfl (pv 1)) (blkOk_by (N := N_are_states) (sc := defScope sare_states) (by decide +kernel)) (fun _ _ _ _ _ => (pg_name (i := 2) sc_are_states.nd rfl (by first | exact Or.inl rfl | exact Or.inr rfl))) (fun _ _ _ _ _ => pts_nil) (fun _ _ _ _ _ => (pe_call (ok_is_integer (P := P) (w := w) T) (hr.mono (by omega)) rfl T.g_is_integer T.d_is_integer.kp T.b_is_integer .nil pass0 (pa_cons (pv 2) (pa_cons (pe_int) (pa_cons (pe_op op_sub (pv 0) (pe_int)) pa_nil)))))) pa_nil))))))) (pss_one (ps_ret (pe_bl))) pss_nil) (pss_one (ps_ret (pe_callB (allK (K := K) rfl rfl) rfl T.f_all bt_all (pa_cons (pe_lc (own := [("one", 2), ("other", 3)]) (tt := tYes) rfl sc_are_states.nd (pi_zipK rfl T.f_zip (pa_cons (pv 1) (pa_cons (pe_slice (slK (K := K) rfl) (pv 1) (po_some (pe_int)) po_none) pa_nil))) (blkOk_by (N := N_are_states) (sc := defScope sare_states) (by decide +kernel)) (fun _ _ _ _ _ => (tupK (K := K) (n := 2) rfl rfl (pgs_cons (pg_name (i := 2) sc_are_states.nd rfl (by first | exact Or.inl rfl | exact Or.inr rfl)) (pgs_cons (pg_name (i := 3) sc_are_states.nd rfl (by first | exact Or.inl rfl | exact Or.inr rfl)) pgs_nil)))) (fun _ _ _ _ _ => pts_nil) (fun _ _ _ _ _ => (pe_cmpR op_lt (pv 2) (pv 3) (nomark _)))) pa_nil))))), ?_⟩
  rintro ⟨n, x⟩ O ⟨hn, hx⟩ hO
  have hx : x ∈ allS n := hx
  have hlen := allS_small n hn x hx
  refine st_seq (st_if (b := false) (bt_eq (bt_or (bt_not (bt_B (et_cb (ea_cons (et_var rfl) (ea_cons et_v ea_nil)) (cx_isi kb_tt)))) fun _ => bt_not (bt_B (et_cb (ea_cons (lcB (f := fun _ => true) (ix_sT (xs := x) (g := dn) (et_var rfl)) (fun t _ => gt_name) (fun _ => rfl)
    (fun (t : Nat) ht => et_isint t 0 ((n : Int) - 1) (by omega) (by have := allS_lt n hn x hx t ht; omega) (ea_cons (et_var rfl) (ea_cons et_int (ea_cons (et_op (et_var rfl) et_int rx_subI) ea_nil)))) (sz100 (by omega))) ea_nil) cx_all))) ?_) (fun h => nomatch h) fun _ => st_next ?_)
  · rw [all_true]
    rfl
  · refine st_ret (ew_of (et_cb (ea_cons (lcB (f := fun p : Nat × Nat => decide (p.1 < p.2)) (ix_Z (xs := x) (ys := x.drop 1) (gT := fun t => DT K (dn t)) (hT := fun t => DT K (dn t)) (ea_cons ?_ (ea_cons ?_ ea_nil)) (fun h => nomatch h)) (fun p _ => gt_tup (gts_cons gt_name (gts_cons gt_name gts_nil)) rfl) (fun _ => rfl)
      (fun p _ => et_eq (et_op (et_var rfl) (et_var rfl) rx_B0) ?_) (sz100 ?_)) ea_nil) cx_all) (rt_P ?_))
    · have e := tt_dt (K := K) (x.map dn)
      rw [List.map_map] at e
      exact e ▸ et_var rfl
    · have e := tt_dt (K := K) ((x.drop 1).map dn)
      rw [List.map_map] at e
      refine et_eq ?_ e.symm
      refine et_eq (et_slTD (et_var rfl) ot_c ot_no) ?_
      rw [show (1 : Int) = ((1 : Nat) : Int) from rfl, cut_from, List.map_drop]
    · congr 2
      by_cases c : p.1 < p.2
      · rw [decide_eq_true c, decide_eq_true (Int.ofNat_lt.mpr c)]
      · rw [decide_eq_false c, decide_eq_false (fun q => c (Int.ofNat_lt.mp q))]
    · rw [List.length_zip]
      omega
    · rw [all_id, allS_up n hn x hx]
      exact Sub.refl _
def sp_upset_of (K : PySem.W.Frag) : Sp := spP (fun a : Nat × List (List Nat) => N3 a.1 ∧ (∀ y ∈ a.2, y ∈ allS a.1) ∧ a.2.length < 1000) (fun a => [DT K (dn a.1), DT K (.list ((a.2.map maskOf).map dn))]) (fun a => DT K (rowD a.1 fun x => a.2.any fun y => sub y x))
theorem ok_upset_of (T : Tx K mg) : FnOk P w K mg base CX0 1 aupset_of (fdAt K aupset_of) P_upset_of (sp_upset_of K) := by
  refine fn_ok T.d_upset_of sc_upset_of (fun _ => rfl) fun cdv A outer s H E hr => ⟨_, (pss_one (ps_ret (tupOfK (K := K) rfl rfl T.f_tuple (pe_lc (own := [("mask", 3)]) (tt := tYes) rfl sc_upset_of.nd (pi_range1 rfl T.f_range (pa_cons (pe_ix (ixK (P := P) (w := w) (K := K) rfl rfl rfl (hu10 hr)) (pe_glob (v := .ref T.t_SIZES.choose) rfl T.t_SIZES.choose_spec.1 rfl) (pv 0) (fun _ _ => rfl)) pa_nil)) (blkOk_by (N := N_upset_of) (sc := defScope supset_of) (by decide +kernel)) (fun _ _ _ _ _ => (pg_name (i := 3) sc_upset_of.nd rfl (by first | exact Or.inl rfl | exact Or.inr rfl))) (fun _ _ _ _ _ => pts_nil) (fun _ _ _ _ _ => (pe_callB (anyK (K := K) rfl rfl) rfl T.f_any bt_any (pa_cons (pe_lc (own := [("one", 2)]) (tt := tYes) rfl sc_upset_of.nd (seqK (K := K) rfl (pv 1)) (blkOk_by (by kernel_rfl)) (fun _ _ _ _ _ => (pg_name (i := 2) sc_upset_of.nd rfl (by first | exact Or.inl rfl | exact Or.inr rfl))) (fun _ _ _ _ _ => pts_nil) (fun _ _ _ _ _ => (pe_cmpR (eqK (K := K) rfl (hu64 hr)) (pe_op op_and (pv 3) (pv 2)) (pv 2) (nomark _)))) pa_nil))))))), ?_⟩
  rintro ⟨n, ys⟩ O ⟨hn, hy, hl⟩ hO
  have hy : ∀ y ∈ ys, y ∈ allS n := hy
  refine st_ret (ew_of (et_tupleLD (lcD (f := fun m => PyData.bool (ys.any fun y => sub y (setOf n m))) (ix_R (n := 2 ^ n) (ea_cons (et_op (et_sizes T) (et_var rfl) (rx_ixTD (sizes_at (by omega)))) ea_nil) ?_) (fun t _ => gt_name) (fun _ => rfl)
    (fun m hm => et_eq (et_cb (ea_cons (lcB (f := fun y => sub y (setOf n m)) (xs := ys) (gT := fun y => DT K (dn (maskOf y))) (ix_sL ?_) (fun t _ => gt_name) (fun _ => rfl) (fun y hy' => et_eq (et_op (et_op (et_var rfl) (et_var rfl) rx_I0) (et_var rfl) (rx_eq rfl rfl)) ?_) (sz100 hl)) ea_nil) cx_any) ?_) (sz100 ?_))) (rt_P (Sub.refl _)))
  · have : ∀ n, N3 n → ((2 ^ n : Nat) : Int) < 2 ^ 62 := n3 (by decide) (by decide) (by decide)
    exact this n hn
  · exact et_eq (et_var rfl) (by rw [List.map_map]; rfl)
  · rw [PySem.W.os_band]
    have h := mask_sub n hn m hm y (hy y hy')
    rw [← h]
    show DT K (.bool ((((m &&& maskOf y : Nat) : Int)) == ((maskOf y : Nat) : Int))) = _
    congr 2
    by_cases c : m &&& maskOf y = maskOf y
    · rw [c, beq_self_eq_true, beq_self_eq_true]
    · rw [beq_eq_false_iff_ne.mpr c, beq_eq_false_iff_ne.mpr (fun e => c (Int.ofNat_inj.mp e))]
  · congr 2
    rw [List.any_map]
    rfl
  · rw [List.length_range]
    have : ∀ n, N3 n → 2 ^ n < 1000 := n3 (by decide) (by decide) (by decide)
    exact this n hn
def sp_is_least (K : PySem.W.Frag) : Sp := spP (fun a : Nat × (List Nat → Bool) × Nat => N3 a.1 ∧ a.2.2 ∈ List.range (2 ^ a.1)) (fun a => [DT K (dn a.1), DT K (rowD a.1 a.2.1), DT K (dn a.2.2)]) (fun a => DT K (.bool (leastS a.2.1 (setOf a.1 a.2.2))))
theorem row_at {n m : Nat} (f : List Nat → Bool) (h : m ∈ List.range (2 ^ n)) : L2.atI ((List.range (2 ^ n)).map fun m => PyData.bool (f (setOf n m))) (m : Int) = some (.bool (f (setOf n m))) := by
  refine atI_nat ?_
  rw [List.getElem?_map, List.getElem?_range (List.mem_range.mp h)]
  rfl
theorem ok_is_least (T : Tx K mg) : FnOk P w K mg base CX0 3 ais_least (fdAt K ais_least) P_is_least (sp_is_least K) := by
  refine fn_ok T.d_is_least sc_is_least (fun _ => rfl) fun cdv A outer s H E hr => ⟨_, (pss_one (ps_ret (pe_and (pe_ix (ixK (P := P) (w := w) (K := K) rfl rfl rfl (hu10 hr)) (pv 1) (pv 2) (fun _ _ => rfl)) (pe_one (pe_not (pe_callB (anyK (K := K) rfl rfl) rfl T.f_any bt_any (pa_cons (pe_lc (own := [("t", 3)]) (tt := tYes) rfl sc_is_least.nd (seqK (K := K) rfl (pe_call (ok_set_of (P := P) (w := w) T) (hr.mono (by omega)) rfl T.g_set_of T.d_set_of.kp T.b_set_of .nil pass0 (pa_cons (pv 0) (pa_cons (pv 2) pa_nil)))) (blkOk_by (N := N_is_least) (sc := defScope sis_least) (by decide +kernel)) (fun _ _ _ _ _ => (pg_name (i := 3) sc_is_least.nd rfl (by first | exact Or.inl rfl | exact Or.inr rfl))) (fun _ _ _ _ _ => pts_nil) (fun _ _ _ _ _ => (pe_ix (ixK (P := P) (w := w) (K := K) rfl rfl rfl (hu10 hr)) (pv 1) (pe_op op_sub (pv 2) (pe_ix (ixK (P := P) (w := w) (K := K) rfl rfl rfl (hu10 hr)) (pe_glob (v := .ref T.t_POWERS.choose) rfl T.t_POWERS.choose_spec.1 rfl) (pv 3) (fun _ _ => rfl))) (fun _ _ => rfl)))) pa_nil))))))), ?_⟩
  rintro ⟨n, f, m⟩ O ⟨hn, hm⟩ hO
  have hm : m ∈ List.range (2 ^ n) := hm
  refine st_ret (ew_of (et_and (et_op (et_var rfl) (et_var rfl) (rx_ixTD (row_at f hm))) fun _ => et_not (et_cb (ea_cons (lcB (f := fun t => f ((setOf n m).erase t)) (ix_sT (xs := setOf n m) (g := dn) (et_call (n, m) (by show n ≤ 4; omega) (ea_cons (et_var rfl) (ea_cons (et_var rfl) ea_nil)))) (fun t _ => gt_name) (fun _ => rfl)
    (fun t ht => ?_) (sz100 ?_)) ea_nil) cx_any)) (rt_P ?_))
  · obtain ⟨h1, h2, h3⟩ := setOf_erase n hn m hm t ht
    refine et_op (et_var rfl) (et_op (et_var rfl) (et_op (et_powers T) (et_var rfl) (rx_ixTD (powers_at h2))) rx_subI) ?_
    rw [← Int.natCast_sub h1, ← h3]
    exact rx_ixTD (row_at f (List.mem_range.mpr (Nat.lt_of_le_of_lt (Nat.sub_le _ _) (List.mem_range.mp hm))))
  · have := setOf_len n hn m hm
    omega
  · rw [any_id]
    exact Sub.refl _
def sp_least_of (K : PySem.W.Frag) : Sp := spP (fun a : Nat × (List Nat → Bool) => N3 a.1) (fun a => [DT K (dn a.1), DT K (rowD a.1 a.2)]) (fun a => DT K (.list (((allS a.1).filter (leastS a.2)).map setD)))
theorem alike_sets (xs : List (List Nat)) : PySem.W.AllAlike (xs.map setD) := fun d hd e he => by
  obtain ⟨x, _, rfl⟩ := List.mem_map.mp hd
  obtain ⟨y, _, rfl⟩ := List.mem_map.mp he
  exact alike_set x y
theorem cx_sortS {M : Mem} {xs ys : List (List Nat)} (hp : xs.Perm ys) (hs : ys.Pairwise (· < ·)) : CX' (rSortT K) M [DT K (.list (xs.map setD))] (DT K (.list (ys.map setD))) := by
  have h := cx_sort (K := K) (M := M) (alike_sets xs) (fun d hd => by obtain ⟨x, _, rfl⟩ := List.mem_map.mp hd; exact ⟨_, rfl⟩) (fun d hd => by obtain ⟨x, _, rfl⟩ := List.mem_map.mp hd; exact Nat.le_trans (depth_set x) (by decide))
  rw [sort_sets hp hs] at h
  exact h
theorem pow_small : ∀ n, N3 n → 2 ^ n < 1000 ∧ ((2 ^ n : Nat) : Int) < 2 ^ 62 := n3 (by decide) (by decide) (by decide)
theorem ok_least_of (T : Tx K mg) : FnOk P w K mg base CX0 4 aleast_of (fdAt K aleast_of) P_least_of (sp_least_of K) := by
  refine fn_ok T.d_least_of sc_least_of (fun _ => rfl) fun cdv A outer s H E hr => ⟨_, (pss_one (ps_ret (pe_callB (sortK (K := K) rfl (hu64 hr)) rfl T.f_sorted bt_sorted (pa_cons (pe_lc (own := [("mask", 2)]) rfl sc_least_of.nd (pi_range1 rfl T.f_range (pa_cons (pe_ix (ixK (P := P) (w := w) (K := K) rfl rfl rfl (hu10 hr)) (pe_glob (v := .ref T.t_SIZES.choose) rfl T.t_SIZES.choose_spec.1 rfl) (pv 0) (fun _ _ => rfl)) pa_nil)) (blkOk_by (N := N_least_of) (sc := defScope sleast_of) (by decide +kernel)) (fun _ _ _ _ _ => (pg_name (i := 2) sc_least_of.nd rfl (by first | exact Or.inl rfl | exact Or.inr rfl))) (fun _ _ _ _ _ => pts_one (pt_val (pe_call (ok_is_least (P := P) (w := w) T) (hr.mono (by omega)) rfl T.g_is_least T.d_is_least.kp T.b_is_least .nil pass0 (pa_cons (pv 0) (pa_cons (pv 1) (pa_cons (pv 2) pa_nil)))))) (fun _ _ _ _ _ => (pe_call (ok_set_of (P := P) (w := w) T) (hr.mono (by omega)) rfl T.g_set_of T.d_set_of.kp T.b_set_of .nil pass0 (pa_cons (pv 0) (pa_cons (pv 2) pa_nil))))) pa_nil)))), ?_⟩
  rintro ⟨n, f⟩ O hn hO
  have hn : N3 n := hn
  have hc := range_sets n hn (leastS f)
  refine st_ret (ew_of (et_cb (ea_cons (et_eq (lcDIf (p := fun m => leastS f (setOf n m)) (f := fun m => setD (setOf n m)) (ix_R (n := 2 ^ n) (ea_cons (et_op (et_sizes T) (et_var rfl) (rx_ixTD (sizes_at (by omega)))) ea_nil) (pow_small n hn).2) (fun t _ => gt_name) (fun _ => rfl)
    (fun m hm => bt_B (et_call (n, f, m) ⟨hn, hm⟩ (ea_cons (et_var rfl) (ea_cons (et_var rfl) (ea_cons (et_var rfl) ea_nil))))) (fun m hm _ => et_call (n, m) (by show n ≤ 4; omega) (ea_cons (et_var rfl) (ea_cons (et_var rfl) ea_nil))) (sz100 (by rw [List.length_range]; exact (pow_small n hn).1)))
    (T := DT K (.list ((((List.range (2 ^ n)).filter fun m => leastS f (setOf n m)).map (setOf n)).map setD))) ?_) ea_nil) (cx_sortS hc ?_)) (rt_P (Sub.refl _)))
  · rw [List.map_map]
    rfl
  · exact (allS_sorted n hn).sublist List.filter_sublist
def sp_are_sets (K : PySem.W.Frag) : Sp := spP (fun a : Nat × List (List Nat) => N3 a.1 ∧ (∀ y ∈ a.2, y ∈ allS a.1) ∧ a.2.length ≤ 40) (fun a => [DT K (dn a.1), DT K (.list (a.2.map setD))]) (fun a => DT K (.bool true))
theorem ok_are_sets (T : Tx K mg) : FnOk P w K mg base CX0 3 aare_sets (fdAt K aare_sets) P_are_sets (sp_are_sets K) := by
  refine fn_ok T.d_are_sets sc_are_sets (fun _ => rfl) fun cdv A outer s H E hr => ⟨_, (pss_cons (ps_if (PW.pt (pw_or (pt_not (pt_val (pe_callB (isiK (K := K) rfl) rfl T.f_isinstance bt_isinstance (pa_cons (pv 1) (pa_cons (pe_bltn (v := .ty "list") rfl T.f_list bt_list rfl) pa_nil))))) (pw_or1 (pt_cmpR op_gt (pe_callB (lenK (K := K) rfl) rfl T.f_len bt_len (pa_cons (pv 1) pa_nil)) (pe_glob (v := .int 40) rfl T.i_MOST_SETS.choose_spec ⟨_, rfl⟩) (nomark _))))) (pss_one (ps_ret (pe_bl))) pss_nil) (pss_one (ps_ret (pe_callB (allK (K := K) rfl rfl) rfl T.f_all bt_all (pa_cons (pe_lc (own := [("one", 2)]) (tt := tYes) rfl sc_are_sets.nd (seqK (K := K) rfl (pv 1)) (blkOk_by (N := N_are_sets) (sc := defScope sare_sets) (by decide +kernel)) (fun _ _ _ _ _ => (pg_name (i := 2) sc_are_sets.nd rfl (by first | exact Or.inl rfl | exact Or.inr rfl))) (fun _ _ _ _ _ => pts_nil) (fun _ _ _ _ _ => (pe_call (ok_are_states (P := P) (w := w) T) (hr.mono (by omega)) rfl T.g_are_states T.d_are_states.kp T.b_are_states .nil pass0 (pa_cons (pv 0) (pa_cons (pv 2) pa_nil))))) pa_nil))))), ?_⟩
  rintro ⟨n, ys⟩ O ⟨hn, hy, hl⟩ hO
  have hy : ∀ y ∈ ys, y ∈ allS n := hy
  have hl : ys.length ≤ 40 := hl
  refine st_seq (st_if (b := false) (bt_eq (bt_or (bt_not (bt_B (et_cb (ea_cons (et_var rfl) (ea_cons et_v ea_nil)) (cx_isi kb_ll)))) fun _ => bt_test (et_op (et_cb (ea_cons (et_var rfl) ea_nil) cx_lenLD) et_int rx_B0)) ?_) (fun h => nomatch h) fun _ => st_next ?_)
  · rw [List.length_map]
    show (!true || decide ((40 : Int) < (ys.length : Int))) = false
    rw [decide_eq_false (by omega)]
    rfl
  · refine st_ret (ew_of (et_cb (ea_cons (lcB (f := fun _ => true) (ix_sL (xs := ys) (g := setD) (et_var rfl)) (fun t _ => gt_name) (fun _ => rfl)
      (fun y hy' => et_call (n, y) ⟨hn, hy y hy'⟩ (ea_cons (et_var rfl) (ea_cons (et_var rfl) ea_nil))) (sz100 (by omega))) ea_nil) cx_all) (rt_P ?_))
    rw [all_true]
    exact Sub.refl _
def sp_all_sets (K : PySem.W.Frag) : Sp := spP (fun n : Nat => N3 n) (fun n => [DT K (dn n)]) (fun n => DT K (.list ((allS n).map setD)))
theorem ok_all_sets (T : Tx K mg) : FnOk P w K mg base CX0 3 aall_sets (fdAt K aall_sets) P_all_sets (sp_all_sets K) := by
  refine fn_ok T.d_all_sets sc_all_sets (fun _ => rfl) fun cdv A outer s H E hr => ⟨_, (pss_cons (ps_expr (pe_call (ok_need_number (P := P) (w := w) T) (hr.mono (by omega)) rfl T.g_need_number T.d_need_number.kp T.b_need_number .nil pass0 (pa_cons (pv 0) pa_nil))) (pss_one (ps_ret (pe_callB (sortK (K := K) rfl (hu64 hr)) rfl T.f_sorted bt_sorted (pa_cons (pe_lc (own := [("mask", 1)]) (tt := tYes) rfl sc_all_sets.nd (pi_range1 rfl T.f_range (pa_cons (pe_ix (ixK (P := P) (w := w) (K := K) rfl rfl rfl (hu10 hr)) (pe_glob (v := .ref T.t_SIZES.choose) rfl T.t_SIZES.choose_spec.1 rfl) (pv 0) (fun _ _ => rfl)) pa_nil)) (blkOk_by (N := N_all_sets) (sc := defScope sall_sets) (by decide +kernel)) (fun _ _ _ _ _ => (pg_name (i := 1) sc_all_sets.nd rfl (by first | exact Or.inl rfl | exact Or.inr rfl))) (fun _ _ _ _ _ => pts_nil) (fun _ _ _ _ _ => (pe_call (ok_set_of (P := P) (w := w) T) (hr.mono (by omega)) rfl T.g_set_of T.d_set_of.kp T.b_set_of .nil pass0 (pa_cons (pv 0) (pa_cons (pv 1) pa_nil))))) pa_nil))))), ?_⟩
  intro n O hn hO
  have hn : N3 n := hn
  refine st_seq (st_drop (ew_of (et_call (ok := fun n : Nat => 1 ≤ n ∧ n ≤ 4) n (by omega) (ea_cons (et_var rfl) ea_nil)) ?_))
  refine st_ret (ew_of (et_cb (ea_cons (et_eq (lcD (f := fun m => setD (setOf n m)) (ix_R (n := 2 ^ n) (ea_cons (et_op (et_sizes T) (et_var rfl) (rx_ixTD (sizes_at (by omega)))) ea_nil) (pow_small n hn).2) (fun t _ => gt_name) (fun _ => rfl)
    (fun m hm => et_call (n, m) (by show n ≤ 4; omega) (ea_cons (et_var rfl) (ea_cons (et_var rfl) ea_nil))) (sz100 (by rw [List.length_range]; exact (pow_small n hn).1)))
    (T := DT K (.list (((List.range (2 ^ n)).map (setOf n)).map setD))) ?_) ea_nil) (cx_sortS (List.isPerm_iff.mp (allS_perm n hn)) (allS_sorted n hn))) (rt_P (Sub.refl _)))
  rw [List.map_map]
  rfl
end
end Tw
end
/-! W2 -/
section
set_option Elab.async false
set_option linter.all false
set_option autoImplicit false
set_option maxRecDepth 100000
set_option maxHeartbeats 4000000
/-! The walk: contracts. -/
namespace Tw
open PySem PySem.Spec PyProof.Rows L2

abbrev rowsD (n : Nat) (Fs : List Row) : PyData := .tuple (Fs.map (rowD n))
abbrev conF (K : PySem.W.Frag) (n : Nat) (Fs : List Row) : Fds := [("width", DT K (dn n)), ("rows", DT K (rowsD n Fs))]
/-- a contract from Fs.length states to n ends -/
abbrev ConT (K : PySem.W.Frag) (n : Nat) (Fs : List Row) : Ty := InsT 478 (conF K n Fs)
/-- the family that a list of sets makes -/
abbrev famF (ys : List (List Nat)) : Row := fun x => ys.any fun y => sub y x
abbrev famD (ys : List (List Nat)) : PyData := .list (ys.map setD)
section
variable {P : Program} {w : World} {K : PySem.W.Frag} {mg : PySem.Str → Option Value} {base : Heap}
abbrev FamOk (n : Nat) (ys : List (List Nat)) : Prop := (∀ y ∈ ys, y ∈ allS n) ∧ ys.length ≤ 40
def sp_Contract___init__ (K : PySem.W.Frag) : Sp := spG (fun a : Addr × Nat × List (List (List Nat)) => N3 a.2.1 ∧ 1 ≤ a.2.2.length ∧ a.2.2.length ≤ 4 ∧ ∀ ys ∈ a.2.2, FamOk a.2.1 ys) (fun a => [(a.1, insC 478 [])])
  (fun a => [VT (.ref a.1), DT K (dn a.2.1), DT K (.list (a.2.2.map famD))]) (fun a T M => T = DT K .none ∧ M = [(a.1, insC 478 (conF K a.2.1 (a.2.2.map famF)))])
theorem ok_Contract___init__ (T : Tx K mg) : FnOk P w K mg base CX0 4 aContract___init__ (fdAt K aContract___init__) P_Contract___init__ (sp_Contract___init__ K) := by
  refine fn_ok T.d_Contract___init__ sc_Contract___init__ (fun _ => rfl) fun cdv A outer s H E hr => ⟨_, (pss_cons (ps_expr (pe_call (ok_need_number (P := P) (w := w) T) (hr.mono (by omega)) rfl T.g_need_number T.d_need_number.kp T.b_need_number .nil pass0 (pa_cons (pv 1) pa_nil))) (pss_cons (ps_if (PW.pt (pw_or (pt_not (pt_val (pe_callB (isiK (K := K) rfl) rfl T.f_isinstance bt_isinstance (pa_cons (pv 2) (pa_cons (pe_bltn (v := .ty "list") rfl T.f_list bt_list rfl) pa_nil))))) (pw_or1 (pt_not (pt_chain op_le op_le (pe_int) (pe_callB (lenK (K := K) rfl) rfl T.f_len bt_len (pa_cons (pv 2) pa_nil)) (pe_glob (v := .int 4) rfl T.i_MOST_STATES.choose_spec ⟨_, rfl⟩)))))) (pss_one (ps_never)) pss_nil) (pss_cons (ps_if (pt_not (pt_val (pe_callB (allK (K := K) rfl rfl) rfl T.f_all bt_all (pa_cons (pe_lc (own := [("sets", 3)]) (tt := tYes) rfl sc_Contract___init__.nd (seqK (K := K) rfl (pv 2)) (blkOk_by (N := N_Contract___init__) (sc := defScope sContract___init__) (by decide +kernel)) (fun _ _ _ _ _ => (pg_name (i := 3) sc_Contract___init__.nd rfl (by first | exact Or.inl rfl | exact Or.inr rfl))) (fun _ _ _ _ _ => pts_nil) (fun _ _ _ _ _ => (pe_call (ok_are_sets (P := P) (w := w) T) (hr.mono (by omega)) rfl T.g_are_sets T.d_are_sets.kp T.b_are_sets .nil pass0 (pa_cons (pv 1) (pa_cons (pv 3) pa_nil))))) pa_nil)))) (pss_one (ps_never)) pss_nil) (pss_cons (sFldK (K := K) rfl (pv 0) (pv 1) rfl) (pss_one (sFldK (K := K) rfl (pv 0) (tupOfK (K := K) rfl rfl T.f_tuple (pe_lc (own := [("sets", 3)]) (tt := tYes) rfl sc_Contract___init__.nd (seqK (K := K) rfl (pv 2)) (blkOk_by (N := N_Contract___init__) (sc := defScope sContract___init__) (by decide +kernel)) (fun _ _ _ _ _ => (pg_name (i := 3) sc_Contract___init__.nd rfl (by first | exact Or.inl rfl | exact Or.inr rfl))) (fun _ _ _ _ _ => pts_nil) (fun _ _ _ _ _ => (pe_call (ok_upset_of (P := P) (w := w) T) (hr.mono (by omega)) rfl T.g_upset_of T.d_upset_of.kp T.b_upset_of .nil pass0 (pa_cons (pv 1) (pa_cons (pe_lc (own := [("x", 4)]) (tt := tYes) rfl sc_Contract___init__.nd (seqK (K := K) rfl (pv 3)) (blkOk_by (by kernel_rfl)) (fun _ _ _ _ _ => (pg_name (i := 4) sc_Contract___init__.nd rfl (by first | exact Or.inl rfl | exact Or.inr rfl))) (fun _ _ _ _ _ => pts_nil) (fun _ _ _ _ _ => (pe_call (ok_mask_of (P := P) (w := w) T) (hr.mono (by omega)) rfl T.g_mask_of T.d_mask_of.kp T.b_mask_of .nil pass0 (pa_cons (pv 4) pa_nil)))) pa_nil)))))) rfl)))))), ?_⟩
  rintro ⟨self, n, rows⟩ O ⟨hn, h1, h4, hy⟩ hO
  have hy : ∀ ys ∈ rows, FamOk n ys := hy
  have h4 : rows.length ≤ 4 := h4
  have h1 : 1 ≤ rows.length := h1
  have hn : N3 n := hn
  refine st_seq (st_drop (ew_of (et_call (ok := fun n : Nat => 1 ≤ n ∧ n ≤ 4) n (by omega) (ea_cons (et_var rfl) ea_nil)) ?_))
  refine st_seq (st_if (b := false) (bt_eq (bt_or (bt_not (bt_B (et_cb (ea_cons (et_var rfl) (ea_cons et_v ea_nil)) (cx_isi kb_ll)))) fun _ => bt_not (bt_test (et_chain et_int (et_cb (ea_cons (et_var rfl) ea_nil) cx_lenLD) et_int rx_B0 rx_B0))) ?_) (fun h => nomatch h) fun _ => st_next ?_)
  · rw [List.length_map, decide_eq_true (by omega), decide_eq_true (by omega)]
    rfl
  refine st_seq (st_if (b := false) (bt_eq (bt_not (bt_B (et_cb (ea_cons (lcB (f := fun _ => true) (ix_sL (xs := rows) (g := famD) (et_var rfl)) (fun t _ => gt_name) (fun _ => rfl)
      (fun ys h => et_call (n, ys) ⟨hn, (hy ys h).1, (hy ys h).2⟩ (ea_cons (et_var rfl) (ea_cons (et_var rfl) ea_nil))) (sz100 (by omega))) ea_nil) cx_all))) ?_) (fun h => nomatch h) fun _ => st_next ?_)
  · rw [all_true]
    rfl
  refine st_seq (st_fld T.c_Contract T.n_Contract_width rfl (ew_of (et_var rfl) ⟨0, [], rfl, (by decide : 0 < 1000), ?_⟩))
  refine st_fld T.c_Contract T.n_Contract_rows rfl (ew_of (et_eq (et_tupleLD (lcD (f := fun ys => rowD n (famF ys)) (ix_sL (xs := rows) (g := famD) (et_var rfl)) (fun t _ => gt_name) (fun _ => rfl)
      (fun ys h => et_call (n, ys) ⟨hn, (hy ys h).1, Nat.lt_of_le_of_lt (hy ys h).2 (by decide)⟩ (ea_cons (et_var rfl) (ea_cons (et_eq (lcD (f := fun y => dn (maskOf y)) (ix_sL (xs := ys) (g := setD) (et_var rfl)) (fun t _ => gt_name) (fun _ => rfl)
        (fun y h' => et_call y ⟨fun t ht => by have := allS_lt n hn y ((hy ys h).1 y h') t ht; omega, by have := allS_small n hn y ((hy ys h).1 y h'); omega⟩ (ea_cons (et_var rfl) ea_nil)) (sz100 (by have := (hy ys h).2; omega))) ?_) ea_nil))) (sz100 (by omega)))) (T := DT K (rowsD n (rows.map famF))) ?_) ⟨0, _, rfl, (by decide : 1 < 1000), ?_⟩)
  · rw [List.map_map]
    rfl
  · show _ = DT K (.tuple ((rows.map famF).map (rowD n)))
    rw [List.map_map]
    rfl
  · exact ⟨_, _, ⟨rfl, rfl⟩, .non, List.Sublist.refl _⟩
theorem et_contract {Γ : TEnv} {M : Mem} {ts : TA} {E : XK} (n : Nat) (rows : List (List (List Nat))) (hn : N3 n) (h1 : 1 ≤ rows.length) (h4 : rows.length ≤ 4) (hy : ∀ ys ∈ rows, FamOk n ys) (h : EA ts Γ M [DT K (dn n), DT K (.list (rows.map famD))]) :
    ET (tMake 478 (sp_Contract___init__ K) [] E ts) Γ M (ConT K n (rows.map famF)) :=
  et_make (fun x => (x, n, rows)) (fun _ => ⟨hn, h1, h4, hy⟩) (fun _ => rfl) (fun _ => rfl) (fun x S M' h => h) h
def sp_need_state_of (K : PySem.W.Frag) : Sp := spP (fun a : Nat × List Row × Nat => a.2.2 < a.2.1.length) (fun a => [ConT K a.1 a.2.1, DT K (dn a.2.2)]) (fun _ => DT K .none)
theorem ok_need_state_of (T : Tx K mg) : FnOk P w K mg base CX0 2 aneed_state_of (fdAt K aneed_state_of) P_need_state_of (sp_need_state_of K) := by
  refine fn_ok T.d_need_state_of sc_need_state_of (fun _ => rfl) fun cdv A outer s H E hr => ⟨_, (pss_one (ps_if (pt_not (pt_val (pe_call (ok_is_integer (P := P) (w := w) T) (hr.mono (by omega)) rfl T.g_is_integer T.d_is_integer.kp T.b_is_integer .nil pass0 (pa_cons (pv 1) (pa_cons (pe_int) (pa_cons (pe_op op_sub (pe_callB (lenK (K := K) rfl) rfl T.f_len bt_len (pa_cons (fldK (K := K) rfl (pv 0) rfl) pa_nil)) (pe_int)) pa_nil)))))) (pss_one (ps_never)) pss_nil)), ?_⟩
  rintro ⟨n, Fs, s'⟩ O hs hO
  have hs : s' < Fs.length := hs
  refine st_if (b := false) (bt_eq (bt_not (bt_B (et_isint (s' : Int) 0 ((Fs.length : Int) - 1) (by omega) (by omega) (ea_cons (et_var rfl) (ea_cons et_int (ea_cons (et_op (et_cb (ea_cons (et_fld T.c_Contract T.n_Contract_rows (et_var rfl) rfl) ea_nil) (cx_lenTD (ds := Fs.map (rowD n)))) (et_int (K := K)) ?_) ea_nil)))))) rfl) (fun h => nomatch h) fun _ => st_next (nx_P .non)
  rw [List.length_map]
  exact rx_subI
def sp_getitem (K : PySem.W.Frag) : Sp := spP (fun a : Nat × List Row × Nat => N3 a.1 ∧ a.2.2 < a.2.1.length) (fun a => [ConT K a.1 a.2.1, DT K (dn a.2.2)]) (fun a => DT K (famD ((allS a.1).filter (leastS (a.2.1.getD a.2.2 fun _ => false)))))
theorem rows_at {n : Nat} {Fs : List Row} {s' : Nat} (h : s' < Fs.length) : L2.atI (Fs.map (rowD n)) (s' : Int) = some (rowD n (Fs.getD s' fun _ => false)) := by
  refine atI_nat ?_
  rw [List.getElem?_map, List.getElem?_eq_getElem h, List.getD_eq_getElem?_getD, List.getElem?_eq_getElem h]
  rfl
theorem ok_Contract___getitem__ (T : Tx K mg) : FnOk P w K mg base CX0 5 aContract___getitem__ (fdAt K aContract___getitem__) P_Contract___getitem__ (sp_getitem K) := by
  refine fn_ok T.d_Contract___getitem__ sc_Contract___getitem__ (fun _ => rfl) fun cdv A outer s H E hr => ⟨_, (pss_cons (ps_expr (pe_call (ok_need_state_of (P := P) (w := w) T) (hr.mono (by omega)) rfl T.g_need_state_of T.d_need_state_of.kp T.b_need_state_of .nil pass0 (pa_cons (pv 0) (pa_cons (pv 1) pa_nil)))) (pss_one (ps_ret (pe_call (ok_least_of (P := P) (w := w) T) (hr.mono (by omega)) rfl T.g_least_of T.d_least_of.kp T.b_least_of .nil pass0 (pa_cons (fldK (K := K) rfl (pv 0) rfl) (pa_cons (pe_ix (ixK (P := P) (w := w) (K := K) rfl rfl rfl (hu10 hr)) (fldK (K := K) rfl (pv 0) rfl) (pv 1) (fun _ _ => rfl)) pa_nil)))))), ?_⟩
  rintro ⟨n, Fs, s'⟩ O ⟨hn, hs⟩ hO
  refine st_seq (st_drop (ew_of (et_call (ok := fun a : Nat × List Row × Nat => a.2.2 < a.2.1.length) (n, Fs, s') hs (ea_cons (et_var rfl) (ea_cons (et_var rfl) ea_nil))) ?_))
  exact st_ret (ew_of (et_call (ok := fun a : Nat × (List Nat → Bool) => N3 a.1) (n, Fs.getD s' fun _ => false) hn (ea_cons (et_fld T.c_Contract T.n_Contract_width (et_var rfl) rfl) (ea_cons (et_op (et_fld T.c_Contract T.n_Contract_rows (et_var rfl) rfl) (et_var rfl) (rx_ixTD (rows_at hs))) ea_nil))) (rt_P (Sub.refl _)))
def sp_contains (K : PySem.W.Frag) : Sp := spP (fun a : Nat × List Row × Nat × List Nat => N3 a.1 ∧ a.2.2.1 < a.2.1.length ∧ a.2.2.2 ∈ allS a.1) (fun a => [ConT K a.1 a.2.1, DT K (.tuple [dn a.2.2.1, setD a.2.2.2])]) (fun a => DT K (.bool (a.2.1.getD a.2.2.1 (fun _ => false) a.2.2.2)))
theorem ok_Contract___contains__ (T : Tx K mg) : FnOk P w K mg base CX0 3 aContract___contains__ (fdAt K aContract___contains__) P_Contract___contains__ (sp_contains K) := by
  refine fn_ok T.d_Contract___contains__ sc_Contract___contains__ (fun _ => rfl) fun cdv A outer s H E hr => ⟨_, (pss_cons (ps_if (PW.pt (pw_or (pt_not (pt_val (pe_callB (isiK (K := K) rfl) rfl T.f_isinstance bt_isinstance (pa_cons (pv 1) (pa_cons (pe_bltn (v := .ty "tuple") rfl T.f_tuple bt_tuple rfl) pa_nil))))) (pw_or (pt_cmpR (neK (K := K) rfl (hu64 hr)) (pe_callB (lenK (K := K) rfl) rfl T.f_len bt_len (pa_cons (pv 1) pa_nil)) (pe_int) (nomark _)) (pw_or1 (pt_not (pt_val (pe_call (ok_is_integer (P := P) (w := w) T) (hr.mono (by omega)) rfl T.g_is_integer T.d_is_integer.kp T.b_is_integer .nil pass0 (pa_cons (pe_ix (ixK (P := P) (w := w) (K := K) rfl rfl rfl (hu10 hr)) (pv 1) (pe_int) (fun _ _ => rfl)) (pa_cons (pe_int) (pa_cons (pe_op op_sub (pe_callB (lenK (K := K) rfl) rfl T.f_len bt_len (pa_cons (fldK (K := K) rfl (pv 0) rfl) pa_nil)) (pe_int)) pa_nil)))))))))) (pss_one (ps_ret (pe_bl))) pss_nil) (pss_one (ps_ret (pe_and (pe_call (ok_are_states (P := P) (w := w) T) (hr.mono (by omega)) rfl T.g_are_states T.d_are_states.kp T.b_are_states .nil pass0 (pa_cons (fldK (K := K) rfl (pv 0) rfl) (pa_cons (pe_ix (ixK (P := P) (w := w) (K := K) rfl rfl rfl (hu10 hr)) (pv 1) (pe_int) (fun _ _ => rfl)) pa_nil))) (pe_one (pe_ix (ixK (P := P) (w := w) (K := K) rfl rfl rfl (hu10 hr)) (pe_ix (ixK (P := P) (w := w) (K := K) rfl rfl rfl (hu10 hr)) (fldK (K := K) rfl (pv 0) rfl) (pe_ix (ixK (P := P) (w := w) (K := K) rfl rfl rfl (hu10 hr)) (pv 1) (pe_int) (fun _ _ => rfl)) (fun _ _ => rfl)) (pe_call (ok_mask_of (P := P) (w := w) T) (hr.mono (by omega)) rfl T.g_mask_of T.d_mask_of.kp T.b_mask_of .nil pass0 (pa_cons (pe_ix (ixK (P := P) (w := w) (K := K) rfl rfl rfl (hu10 hr)) (pv 1) (pe_int) (fun _ _ => rfl)) pa_nil)) (fun _ _ => rfl))))))), ?_⟩
  rintro ⟨n, Fs, s', x⟩ O ⟨hn, hs, hx⟩ hO
  have hs : s' < Fs.length := hs
  have hn : N3 n := hn
  have hx : x ∈ allS n := hx
  refine st_seq (st_if (b := false) (bt_eq (bt_or (bt_not (bt_B (et_cb (ea_cons (et_var rfl) (ea_cons et_v ea_nil)) (cx_isi kb_tt)))) fun _ => bt_or (bt_test (et_op (et_cb (ea_cons (et_var rfl) ea_nil) cx_lenTD) et_int (rx_ne rfl rfl))) fun _ => bt_not (bt_B (et_isint (s' : Int) 0 ((Fs.length : Int) - 1) (by omega) (by omega)
    (ea_cons (et_op (et_var rfl) et_int (rx_ixTD rfl)) (ea_cons et_int (ea_cons (et_op (et_cb (ea_cons (et_fld T.c_Contract T.n_Contract_rows (et_var rfl) rfl) ea_nil) (cx_lenTD (ds := Fs.map (rowD n)))) (et_int (K := K)) ?_) ea_nil)))))) ?_) (fun h => nomatch h) fun _ => st_next ?_)
  · rw [List.length_map]
    exact rx_subI
  · rfl
  refine st_ret (ew_of (et_and (et_call (n, x) ⟨hn, hx⟩ (ea_cons (et_fld T.c_Contract T.n_Contract_width (et_var rfl) rfl) (ea_cons (et_op (et_var rfl) et_int (rx_ixTD rfl)) ea_nil))) fun _ => et_op (et_op (et_fld T.c_Contract T.n_Contract_rows (et_var rfl) rfl) (et_op (et_var rfl) et_int (rx_ixTD rfl)) (rx_ixTD (rows_at hs)))
    (et_call x ⟨fun t ht => by have := allS_lt n hn x hx t ht; omega, by have := allS_small n hn x hx; omega⟩ (ea_cons (et_op (et_var rfl) et_int (rx_ixTD rfl)) ea_nil)) (rx_ixTD (row_at (Fs.getD s' fun _ => false) (List.mem_range.mpr (maskOf_lt n hn x hx))))) (rt_P ?_))
  rw [setOf_mask n hn x hx]
  exact Sub.refl _
def sp_states (K : PySem.W.Frag) : Sp := spP (fun _ : Nat × List Row => True) (fun a => [ConT K a.1 a.2]) (fun a => DT K (dn a.2.length))
theorem ok_Contract_states (T : Tx K mg) : FnOk P w K mg base CX0 1 aContract_states (fdAt K aContract_states) P_Contract_states (sp_states K) := by
  refine fn_ok T.d_Contract_states sc_Contract_states (fun _ => rfl) fun cdv A outer s H E hr => ⟨_, (pss_one (ps_ret (pe_callB (lenK (K := K) rfl) rfl T.f_len bt_len (pa_cons (fldK (K := K) rfl (pv 0) rfl) pa_nil)))), ?_⟩
  rintro ⟨n, Fs⟩ O - hO
  refine st_ret (ew_of (et_cb (ea_cons (et_fld T.c_Contract T.n_Contract_rows (et_var rfl) rfl) ea_nil) (cx_lenTD (ds := Fs.map (rowD n)))) (rt_P ?_))
  rw [List.length_map]
  exact Sub.refl _
def sp_ends (K : PySem.W.Frag) : Sp := spP (fun _ : Nat × List Row => True) (fun a => [ConT K a.1 a.2]) (fun a => DT K (dn a.1))
theorem ok_Contract_ends (T : Tx K mg) : FnOk P w K mg base CX0 1 aContract_ends (fdAt K aContract_ends) P_Contract_ends (sp_ends K) := by
  refine fn_ok T.d_Contract_ends sc_Contract_ends (fun _ => rfl) fun cdv A outer s H E hr => ⟨_, (pss_one (ps_ret (fldK (K := K) rfl (pv 0) rfl))), ?_⟩
  rintro ⟨n, Fs⟩ O - hO
  exact st_ret (ew_of (et_fld T.c_Contract T.n_Contract_width (et_var rfl) rfl) (rt_P (Sub.refl _)))
def sp_need_contract (K : PySem.W.Frag) : Sp := spP (fun _ : Nat × List Row => True) (fun a => [ConT K a.1 a.2]) (fun _ => DT K .none)
theorem ok_need_contract (T : Tx K mg) : FnOk P w K mg base CX0 1 aneed_contract (fdAt K aneed_contract) P_need_contract (sp_need_contract K) := by
  refine fn_ok T.d_need_contract sc_need_contract (fun _ => rfl) fun cdv A outer s H E hr => ⟨_, (pss_one (ps_if (pt_not (pt_val (pe_callB (isiK (K := K) rfl) rfl T.f_isinstance bt_isinstance (pa_cons (pv 0) (pa_cons (pe_glob (v := .ref 478) rfl T.g_Contract rfl) pa_nil))))) (pss_one (ps_never)) pss_nil)), ?_⟩
  rintro ⟨n, Fs⟩ O - hO
  exact st_if (b := false) (bt_eq (bt_not (bt_B (et_cb (ea_cons (et_var rfl) (ea_cons et_v ea_nil)) (cx_isiO T.c_Contract T.x_Contract)))) rfl) (fun h => nomatch h) fun _ => st_next (nx_P .non)
end
end Tw
end
/-! W3 -/
section
set_option Elab.async false
set_option linter.all false
set_option autoImplicit false
set_option maxRecDepth 100000
set_option maxHeartbeats 4000000
/-! The walk: contracts compared and written. -/
namespace Tw
open PySem PySem.Spec PyProof.Rows L2
section
variable {P : Program} {w : World} {K : PySem.W.Frag} {mg : PySem.Str → Option Value} {base : Heap}
def sp_need_alike (K : PySem.W.Frag) : Sp := spP (fun a : Nat × List Row × List Row => a.2.1.length = a.2.2.length) (fun a => [ConT K a.1 a.2.1, ConT K a.1 a.2.2]) (fun _ => DT K .none)
theorem eqv_nn (n : Nat) : PyData.eqv (dn n) (dn n) = true := beq_self_eq_true (n : Int)
theorem ok_need_alike (T : Tx K mg) : FnOk P w K mg base CX0 2 aneed_alike (fdAt K aneed_alike) P_need_alike (sp_need_alike K) := by
  refine fn_ok T.d_need_alike sc_need_alike (fun _ => rfl) fun cdv A outer s H E hr => ⟨_, (pss_cons (ps_expr (pe_call (ok_need_contract (P := P) (w := w) T) (hr.mono (by omega)) rfl T.g_need_contract T.d_need_contract.kp T.b_need_contract .nil pass0 (pa_cons (pv 1) pa_nil))) (pss_one (ps_if (PW.pt (pw_or (pt_cmpR (neK (K := K) rfl (hu64 hr)) (fldK (K := K) rfl (pv 0) rfl) (fldK (K := K) rfl (pv 1) rfl) (nomark _)) (pw_or1 (pt_cmpR (neK (K := K) rfl (hu64 hr)) (pe_callB (lenK (K := K) rfl) rfl T.f_len bt_len (pa_cons (fldK (K := K) rfl (pv 0) rfl) pa_nil)) (pe_callB (lenK (K := K) rfl) rfl T.f_len bt_len (pa_cons (fldK (K := K) rfl (pv 1) rfl) pa_nil)) (nomark _))))) (pss_one (ps_never)) pss_nil))), ?_⟩
  rintro ⟨n, Fs, Gs⟩ O hl hO
  have hl : Fs.length = Gs.length := hl
  refine st_seq (st_drop (ew_of (et_call (ok := fun _ : Nat × List Row => True) (n, Gs) trivial (ea_cons (et_var rfl) ea_nil)) ?_))
  refine st_if (b := false) (bt_eq (bt_or (bt_test (et_op (et_fld T.c_Contract T.n_Contract_width (et_var rfl) rfl) (et_fld T.c_Contract T.n_Contract_width (et_var rfl) rfl) (rx_ne rfl rfl))) fun _ => bt_test (et_op (et_cb (ea_cons (et_fld T.c_Contract T.n_Contract_rows (et_var rfl) rfl) ea_nil) (cx_lenTD (ds := Fs.map (rowD n))))
    (et_cb (ea_cons (et_fld T.c_Contract T.n_Contract_rows (et_var rfl) rfl) ea_nil) (cx_lenTD (ds := Gs.map (rowD n)))) (rx_ne rfl rfl))) ?_) (fun h => nomatch h) fun _ => st_next (nx_P .non)
  rw [List.length_map, List.length_map, hl, eqv_nn, eqv_nn]
  rfl
def sp_is_within (K : PySem.W.Frag) : Sp := spP (fun a : Nat × List Row × List Row => N3 a.1 ∧ a.2.1.length = a.2.2.length ∧ a.2.1.length < 1000 ∧ ∀ p ∈ a.2.1.zip a.2.2, ∀ x ∈ allS a.1, p.1 x = true → p.2 x = true) (fun a => [DT K (rowsD a.1 a.2.1), DT K (rowsD a.1 a.2.2)]) (fun _ => DT K (.bool true))
theorem tt_rows (n : Nat) (Fs : List Row) : TupT K (Fs.map fun f => DT K (rowD n f)) = DT K (rowsD n Fs) := by
  have e := tt_dt (K := K) (Fs.map (rowD n))
  rw [List.map_map] at e
  exact e
theorem tt_row (n : Nat) (f : Row) : TupT K ((List.range (2 ^ n)).map fun m => DT K (.bool (f (setOf n m)))) = DT K (rowD n f) := by
  have e := tt_dt (K := K) ((List.range (2 ^ n)).map fun m => PyData.bool (f (setOf n m)))
  rw [List.map_map] at e
  exact e
theorem ok_is_within (T : Tx K mg) : FnOk P w K mg base CX0 1 ais_within (fdAt K ais_within) P_is_within (sp_is_within K) := by
  refine fn_ok T.d_is_within sc_is_within (fun _ => rfl) fun cdv A outer s H E hr => ⟨_, (pss_cons (ps_for PassesOwn.never rfl (pi_zipK rfl T.f_zip (pa_cons (pv 0) (pa_cons (pv 1) pa_nil))) (tupK (K := K) (n := 2) rfl rfl (pgs_cons (pg_name (i := 2) sc_is_within.nd rfl (by first | exact Or.inl rfl | exact Or.inr rfl)) (pgs_cons (pg_name (i := 3) sc_is_within.nd rfl (by first | exact Or.inl rfl | exact Or.inr rfl)) pgs_nil))) (pss_one (ps_if (pt_val (pe_callB (anyK (K := K) rfl rfl) rfl T.f_any bt_any (pa_cons (pe_lc (own := [("one", 4), ("two", 5)]) (tt := tYes) rfl sc_is_within.nd (pi_zipK rfl T.f_zip (pa_cons (pv 2) (pa_cons (pv 3) pa_nil))) (blkOk_by (N := N_is_within) (sc := defScope sis_within) (by decide +kernel)) (fun _ _ _ _ _ => (tupK (K := K) (n := 2) rfl rfl (pgs_cons (pg_name (i := 4) sc_is_within.nd rfl (by first | exact Or.inl rfl | exact Or.inr rfl)) (pgs_cons (pg_name (i := 5) sc_is_within.nd rfl (by first | exact Or.inl rfl | exact Or.inr rfl)) pgs_nil)))) (fun _ _ _ _ _ => pts_nil) (fun _ _ _ _ _ => (pe_and (pv 4) (pe_one (pe_not (pv 5)))))) pa_nil))) (pss_one (ps_ret (pe_bl))) pss_nil))) (pss_one (ps_ret (pe_bl)))), ?_⟩
  rintro ⟨n, Fs, Gs⟩ O ⟨hn, hl, hz, hw⟩ hO
  have hn : N3 n := hn
  have hw : ∀ p ∈ Fs.zip Gs, ∀ x ∈ allS n, p.1 x = true → p.2 x = true := hw
  refine st_seq (st_for (xs := Fs.zip Gs) (gT := fun p => TupT K [DT K (rowD n p.1), DT K (rowD n p.2)]) (ws := fun p => [(2, DT K (rowD n p.1)), (3, DT K (rowD n p.2))])
    (fun _ Γ M => ∃ o2 o3, Γ = [some (DT K (rowsD n Fs)), some (DT K (rowsD n Gs)), o2, o3, none, none] ∧ M = []) (ix_Z (ea_cons (et_eq (et_var rfl) (tt_rows n Fs).symm) (ea_cons (et_eq (et_var rfl) (tt_rows n Gs).symm) ea_nil)) fun _ => hl)
    (fun p _ => gt_tup (gts_cons gt_name (gts_cons gt_name gts_nil)) rfl) ⟨none, none, rfl, rfl⟩ ?_ ?_)
  · rintro i p _ _ hp ⟨o2, o3, rfl, rfl⟩
    have hp := List.mem_of_getElem? hp
    refine st_if (b := false) (bt_eq (bt_B (et_cb (ea_cons (lcB (xs := (List.range (2 ^ n)).zip (List.range (2 ^ n))) (f := fun q => p.1 (setOf n q.1) && !p.2 (setOf n q.2)) (ix_Z (gT := fun m => DT K (.bool (p.1 (setOf n m)))) (hT := fun m => DT K (.bool (p.2 (setOf n m)))) (ea_cons (et_eq (et_var rfl) (tt_row n p.1).symm) (ea_cons (et_eq (et_var rfl) (tt_row n p.2).symm) ea_nil)) fun _ => rfl)
      (fun q _ => gt_tup (gts_cons gt_name (gts_cons gt_name gts_nil)) rfl) (fun _ => rfl) (fun q _ => et_and (et_var rfl) fun _ => et_not (et_var rfl)) (sz100 ?_)) ea_nil) cx_any)) ?_) (fun h => nomatch h) fun _ => st_next ⟨_, _, rfl, rfl⟩
    · rw [List.length_zip, List.length_range, Nat.min_self]
      exact (pow_small n hn).1
    · rw [any_id, List.any_eq_false]
      rintro ⟨a, b⟩ hq
      obtain ⟨i, hi⟩ := List.getElem?_of_mem hq
      obtain ⟨h1, h2⟩ := List.getElem?_zip_eq_some.mp hi
      rw [h1] at h2
      cases h2
      have ha : a ∈ List.range (2 ^ n) := List.mem_of_getElem? h1
      have := hw p hp (setOf n a) (setOf_mem n hn a ha)
      cases c : p.1 (setOf n a) with
      | false => simp [c]
      | true => simp [c, this c]
  · rintro _ _ ⟨o2, o3, rfl, rfl⟩
    exact st_ret (ew_of et_bl (rt_P (Sub.refl _)))
def sp_within (K : PySem.W.Frag) : Sp := spP (fun a : Nat × List Row × List Row => N3 a.1 ∧ a.2.1.length = a.2.2.length ∧ a.2.1.length < 1000 ∧ ∀ p ∈ a.2.1.zip a.2.2, ∀ x ∈ allS a.1, p.1 x = true → p.2 x = true) (fun a => [ConT K a.1 a.2.1, ConT K a.1 a.2.2]) (fun _ => DT K (.bool true))
theorem ok_Contract_within (T : Tx K mg) : FnOk P w K mg base CX0 3 aContract_within (fdAt K aContract_within) P_Contract_within (sp_within K) := by
  refine fn_ok T.d_Contract_within sc_Contract_within (fun _ => rfl) fun cdv A outer s H E hr => ⟨_, (pss_cons (ps_expr (pe_call (ok_need_alike (P := P) (w := w) T) (hr.mono (by omega)) rfl T.g_need_alike T.d_need_alike.kp T.b_need_alike .nil pass0 (pa_cons (pv 0) (pa_cons (pv 1) pa_nil)))) (pss_one (ps_ret (pe_call (ok_is_within (P := P) (w := w) T) (hr.mono (by omega)) rfl T.g_is_within T.d_is_within.kp T.b_is_within .nil pass0 (pa_cons (fldK (K := K) rfl (pv 0) rfl) (pa_cons (fldK (K := K) rfl (pv 1) rfl) pa_nil)))))), ?_⟩
  rintro ⟨n, Fs, Gs⟩ O ⟨hn, hl, hz, hw⟩ hO
  refine st_seq (st_drop (ew_of (et_call (ok := fun a : Nat × List Row × List Row => a.2.1.length = a.2.2.length) (n, Fs, Gs) hl (ea_cons (et_var rfl) (ea_cons (et_var rfl) ea_nil))) ?_))
  exact st_ret (ew_of (et_call (n, Fs, Gs) ⟨hn, hl, hz, hw⟩ (ea_cons (et_fld T.c_Contract T.n_Contract_rows (et_var rfl) rfl) (ea_cons (et_fld T.c_Contract T.n_Contract_rows (et_var rfl) rfl) ea_nil))) (rt_P (Sub.refl _)))
theorem lay_row (n : Nat) (f : Row) : (rowD n f).canLay0 = true := by
  simp only [PyData.canLay0]
  exact layAll _ fun d hd => by
    obtain ⟨m, _, rfl⟩ := List.mem_map.mp hd
    rfl
theorem depth_row (n : Nat) (f : Row) : (rowD n f).depth ≤ 1 := by
  simp only [PyData.depth]
  have := depthAll_le 0 ((List.range (2 ^ n)).map fun m => PyData.bool (f (setOf n m))) fun d hd => by
    obtain ⟨m, _, rfl⟩ := List.mem_map.mp hd
    simp [PyData.depth]
  omega
theorem shaped_rows (n : Nat) (Fs : List Row) : SeqAt.shaped (rowsD n Fs) = true := by
  have h1 : (rowsD n Fs).canLay0 = true := by
    simp only [PyData.canLay0]
    exact layAll _ fun d hd => by
      obtain ⟨f, _, rfl⟩ := List.mem_map.mp hd
      exact lay_row n f
  have h2 := depthAll_le 1 (Fs.map (rowD n)) fun d hd => by
    obtain ⟨f, _, rfl⟩ := List.mem_map.mp hd
    exact depth_row n f
  unfold SeqAt.shaped
  rw [h1, decide_eq_true (by simp only [PyData.depth]; omega)]
  rfl
def sp_eq (K : PySem.W.Frag) : Sp := spP (fun _ : Nat × List Row × List Row => True) (fun a => [ConT K a.1 a.2.1, ConT K a.1 a.2.2]) (fun a => DT K (.bool (PyData.eqv (rowsD a.1 a.2.1) (rowsD a.1 a.2.2))))
theorem ok_Contract___eq__ (T : Tx K mg) : FnOk P w K mg base CX0 1 aContract___eq__ (fdAt K aContract___eq__) P_Contract___eq__ (sp_eq K) := by
  refine fn_ok T.d_Contract___eq__ sc_Contract___eq__ (fun _ => rfl) fun cdv A outer s H E hr => ⟨_, (pss_one (ps_ret (pe_and (pe_callB (isiK (K := K) rfl) rfl T.f_isinstance bt_isinstance (pa_cons (pv 1) (pa_cons (pe_glob (v := .ref 478) rfl T.g_Contract rfl) pa_nil))) (pe_and (pe_cmpR (eqK (K := K) rfl (hu64 hr)) (fldK (K := K) rfl (pv 0) rfl) (fldK (K := K) rfl (pv 1) rfl) (nomark _)) (pe_one (pe_cmpR (eqK (K := K) rfl (hu64 hr)) (fldK (K := K) rfl (pv 0) rfl) (fldK (K := K) rfl (pv 1) rfl) (nomark _))))))), ?_⟩
  rintro ⟨n, Fs, Gs⟩ O - hO
  refine st_ret (ew_of (et_and (et_cb (ea_cons (et_var rfl) (ea_cons et_v ea_nil)) (cx_isiO T.c_Contract T.x_Contract)) fun _ => et_and (et_op (et_fld T.c_Contract T.n_Contract_width (et_var rfl) rfl) (et_fld T.c_Contract T.n_Contract_width (et_var rfl) rfl) (rx_eq rfl rfl))
    fun _ => et_op (et_fld T.c_Contract T.n_Contract_rows (et_var rfl) rfl) (et_fld T.c_Contract T.n_Contract_rows (et_var rfl) rfl) (rx_eq (shaped_rows n Fs) (shaped_rows n Gs))) (rt_P ?_))
  rw [eqv_nn]
  exact Sub.refl _
/-! ### the notation -/
def digT (t : Nat) : Str := toString (t : Int)
def setTx (x : List Nat) : Str := if x = [] then "-" else Txt.join "" (x.map digT)
def famTx (ys : List (List Nat)) : Str := if ys = [] then "." else Txt.join "|" (ys.map setTx)
def headTx (k n : Nat) : Str := Str.empty ++ (toString (k : Int) : Str) ++ (">" : Str) ++ (toString (n : Int) : Str) ++ (":" : Str)
def notaTx (n : Nat) (Fs : List Row) : Str := Fs.foldl (fun acc f => acc ++ (" " : Str) ++ famTx ((allS n).filter (leastS f))) (headTx Fs.length n)
theorem dig_len : ∀ t : Nat, t < 3 → (digT t).length ≤ 1 ∧ (t : Int).natAbs.log2 < 1920 := by
  intro t h
  have : t = 0 ∨ t = 1 ∨ t = 2 := by omega
  rcases this with rfl | rfl | rfl <;> exact ⟨by decide +kernel, by decide +kernel⟩
theorem setTx_ok : ∀ n, N3 n → ∀ x ∈ allS n, (PyData.str (setTx x)).canLay0 = true ∧ (setTx x).length ≤ 3 := n3 (by decide +kernel) (by decide +kernel) (by decide +kernel)
theorem small_ok : ∀ n : Nat, n ≤ 4 → (n : Int).natAbs.log2 < 1920 ∧ (toString (n : Int) : Str).length ≤ 1 := by
  intro n h
  have : n = 0 ∨ n = 1 ∨ n = 2 ∨ n = 3 ∨ n = 4 := by omega
  rcases this with rfl | rfl | rfl | rfl | rfl <;> exact ⟨by decide +kernel, by decide +kernel⟩
theorem sum_le (c : Nat) : ∀ ys : List Str, (∀ y ∈ ys, y.length ≤ c) → (ys.map (·.length)).sum ≤ ys.length * c
  | [], _ => Nat.zero_le _
  | y :: ys, h => by
    have h1 := h y List.mem_cons_self
    have h2 := sum_le c ys fun z hz => h z (List.mem_cons_of_mem _ hz)
    rw [List.map_cons, List.sum_cons, List.length_cons, Nat.add_mul]
    omega
theorem one_len (c : Str) : c.length * 1 = c.length := Nat.mul_one _
theorem famTx_len {n : Nat} (hn : N3 n) {ys : List (List Nat)} (h : ∀ y ∈ ys, y ∈ allS n) (hl : ys.length ≤ 8) : (famTx ys).length ≤ 40 := by
  unfold famTx
  split
  · exact (by decide +kernel : ((".") : Str).length ≤ 40)
  · rw [TL.join_eq]
    have h1 := join_len "|" (ys.map setTx)
    have h2 := sum_le 3 (ys.map setTx) fun z hz => by
      obtain ⟨y, hy, rfl⟩ := List.mem_map.mp hz
      exact (setTx_ok n hn y (h y hy)).2
    rw [List.length_map] at h1 h2
    have h3 : (("|") : Str).length = 1 := by decide +kernel
    rw [h3] at h1
    omega
theorem headTx_len {k n : Nat} (hk : k ≤ 4) (hn : n ≤ 4) : (headTx k n).length ≤ 10 := by
  unfold headTx
  rw [len_app, len_app, len_app, len_app]
  have h1 := (small_ok k hk).2
  have h2 := (small_ok n hn).2
  have h3 : ((">") : Str).length = 1 := by decide +kernel
  have h4 : ((":") : Str).length = 1 := by decide +kernel
  have h5 : (Str.empty).length = 0 := by decide +kernel
  omega
theorem allS_le8 : ∀ n, N3 n → (allS n).length ≤ 8 := n3 (by decide) (by decide) (by decide)
theorem shaped_txs {n : Nat} (hn : N3 n) {ys : List (List Nat)} (h : ∀ y ∈ ys, y ∈ allS n) : SeqAt.shaped (.list (ys.map fun y => PyData.str (setTx y))) = true := by
  have h1 : (PyData.list (ys.map fun y => PyData.str (setTx y))).canLay0 = true := by
    simp only [PyData.canLay0]
    exact layAll _ fun d hd => by
      obtain ⟨y, hy, rfl⟩ := List.mem_map.mp hd
      exact (setTx_ok n hn y (h y hy)).1
  have h2 := depthAll_le 0 (ys.map fun y => PyData.str (setTx y)) fun d hd => by
    obtain ⟨y, hy, rfl⟩ := List.mem_map.mp hd
    simp [PyData.depth]
  unfold SeqAt.shaped
  rw [h1, decide_eq_true (by simp only [PyData.depth]; omega)]
  rfl
def sp_notation_of (K : PySem.W.Frag) : Sp := spP (fun a : Nat × List Row => N3 a.1 ∧ a.2.length ≤ 4) (fun a => [DT K (dn a.1), DT K (rowsD a.1 a.2)]) (fun a => DT K (.str (notaTx a.1 a.2)))
theorem foldl_take {α β : Type} (f : β → α → β) (b : β) (xs : List α) (i : Nat) (a : α) (h : xs[i]? = some a) : (xs.take (i + 1)).foldl f b = f ((xs.take i).foldl f b) a := by
  rw [take_succ_at h, List.foldl_append]
  rfl
def notaI (n : Nat) (Fs : List Row) (i : Nat) : Str := (Fs.take i).foldl (fun acc f => acc ++ (" " : Str) ++ famTx ((allS n).filter (leastS f))) (headTx Fs.length n)
theorem notaI_len {n : Nat} (hn : N3 n) {Fs : List Row} (h4 : Fs.length ≤ 4) : ∀ i, i ≤ Fs.length → (notaI n Fs i).length ≤ 10 + 41 * i
  | 0, _ => headTx_len h4 (by omega)
  | i + 1, hi => by
    have hlt : i < Fs.length := hi
    have e := foldl_take (fun acc f => acc ++ (" " : Str) ++ famTx ((allS n).filter (leastS f))) (headTx Fs.length n) Fs i _ (List.getElem?_eq_getElem hlt)
    unfold notaI
    rw [e, len_app, len_app]
    have ih := notaI_len hn h4 i (Nat.le_of_lt hlt)
    unfold notaI at ih
    have h1 : ((" ") : Str).length = 1 := by decide +kernel
    have h2 := famTx_len hn (ys := (allS n).filter (leastS Fs[i])) (fun y hy => (List.mem_filter.mp hy).1) (Nat.le_trans (List.length_filter_le _ _) (allS_le8 n hn))
    omega
theorem eqv_nil {α : Type} (f : α → PyData) (ys : List α) : PyData.eqv (.list (ys.map f)) (.list []) = ys.isEmpty := by
  cases ys <;> rfl
theorem ok_notation_of (T : Tx K mg) : FnOk P w K mg base CX0 5 anotation_of (fdAt K anotation_of) P_notation_of (sp_notation_of K) := by
  refine fn_ok T.d_notation_of sc_notation_of (fun _ => rfl) fun cdv A outer s H E hr => ⟨_, (pss_cons (ps_set (i := 2) sc_notation_of.nd rfl (by first | exact Or.inl rfl | exact Or.inr rfl) (pe_joined (.cons (pe_fmt (pe_callB (lenK (K := K) rfl) rfl T.f_len bt_len (pa_cons (pv 1) pa_nil))) (.cons (pe_str) (.cons (pe_fmt (pv 0)) (.cons (pe_str) .nil)))))) (pss_cons (ps_for PassesOwn.never rfl (seqK (K := K) rfl (pv 1)) (pg_name (i := 3) sc_notation_of.nd rfl (by first | exact Or.inl rfl | exact Or.inr rfl)) (pss_cons (ps_setLc (i := 4) (own := [("x", 6)]) (tt := tYes) rfl sc_notation_of.nd rfl rfl (sw_true rfl rfl rfl (by decide +kernel)) (seqK (K := K) rfl (pe_call (ok_least_of (P := P) (w := w) T) (hr.mono (by omega)) rfl T.g_least_of T.d_least_of.kp T.b_least_of .nil pass0 (pa_cons (pv 0) (pa_cons (pv 3) pa_nil)))) (blkOk_by (N := N_notation_of) (sc := defScope snotation_of) (by decide +kernel)) (fun _ _ _ _ _ => (pg_name (i := 6) sc_notation_of.nd rfl (by first | exact Or.inl rfl | exact Or.inr rfl))) (fun _ _ _ _ _ => pts_nil) (fun _ _ _ _ _ => (pe_ifExp (pt_cmpR (neK (K := K) rfl (hu64 hr)) (pv 6) (pe_tup pa_nil) (nomark _)) (joinE (K := K) rfl (pe_str) (pa_cons (pe_lc (own := [("t", 5)]) (tt := tYes) rfl sc_notation_of.nd (seqK (K := K) rfl (pv 6)) (blkOk_by (by kernel_rfl)) (fun _ _ _ _ _ => (pg_name (i := 5) sc_notation_of.nd rfl (by first | exact Or.inl rfl | exact Or.inr rfl))) (fun _ _ _ _ _ => pts_nil) (fun _ _ _ _ _ => (pe_callTy call_strI rfl T.f_str bt_str (pa_cons (pv 5) pa_nil)))) pa_nil)) (pe_str)))) (pss_one (ps_set (i := 2) sc_notation_of.nd rfl (by first | exact Or.inl rfl | exact Or.inr rfl) (pe_op (addK (K := K) rfl) (pe_op (addK (K := K) rfl) (pv 2) (pe_str)) (pe_ifExp (pt_cmpR (neK (K := K) rfl (hu64 hr)) (pv 4) (pe_lst pa_nil) (nomark _)) (joinE (K := K) rfl (pe_str) (pa_cons (pv 4) pa_nil)) (pe_str))))))) (pss_one (ps_ret (pv 2))))), ?_⟩
  rintro ⟨n, Fs⟩ O ⟨hn, h4⟩ hO
  have hn : N3 n := hn
  have h4 : Fs.length ≤ 4 := h4
  have big : ∀ m : Nat, m ≤ 1000 → m ≤ sizeLine := fun m h => Nat.le_trans h (by decide)
  have hh := headTx_len h4 (n := n) (by omega)
  have hh2 := hh
  unfold headTx at hh2
  rw [len_app, len_app, len_app, len_app] at hh2
  refine st_seq (st_set (ew_of (T := DT K (.str (headTx Fs.length n))) (et_fstr (js_cons (et_fmtI (et_cb (ea_cons (et_var rfl) ea_nil) (et_eq_cx (cx_lenTD (ds := Fs.map (rowD n))) (by rw [List.length_map]))) (small_ok _ h4).1) (big _ (by rw [len_app]; omega)) (js_cons (K := K) et_str (big _ (by rw [len_app, len_app]; omega)) (js_cons (et_fmtI (i := (n : Int)) (et_var rfl) (small_ok n (by omega)).1) (big _ (by rw [len_app, len_app, len_app]; omega)) (js_cons (K := K) et_str (big _ (by rw [len_app, len_app, len_app, len_app]; omega)) js_nil))))) ?_))
  refine st_seq (st_for (xs := Fs) (gT := fun f => DT K (rowD n f)) (ws := fun f => [(3, DT K (rowD n f))])
    (fun i Γ M => ∃ t, t = notaI n Fs i ∧ ∃ o3 o4, Γ = [some (DT K (dn n)), some (DT K (rowsD n Fs)), some (DT K (.str t)), o3, o4, none, none] ∧ M = []) (ix_sT (et_var rfl)) (fun f _ => gt_name) ⟨_, rfl, none, none, rfl, rfl⟩ ?_ ?_)
  · rintro i f _ _ hf ⟨_, rfl, o3, o4, rfl, rfl⟩
    have hil := (List.getElem?_eq_some_iff.mp hf).1
    have hys : ∀ y ∈ (allS n).filter (leastS f), y ∈ allS n := fun y hy => (List.mem_filter.mp hy).1
    have h8 : ((allS n).filter (leastS f)).length ≤ 8 := Nat.le_trans (List.length_filter_le _ _) (allS_le8 n hn)
    have hil2 := notaI_len hn h4 i (Nat.le_of_lt hil)
    have hfl := famTx_len hn hys h8
    have h1 : ((" ") : Str).length = 1 := by decide +kernel
    have h0 : (("") : Str).length = 0 := by decide +kernel
    have hb : (("|") : Str).length = 1 := by decide +kernel
    generalize hyy : (allS n).filter (leastS f) = ys at hys h8 hfl
    refine st_seq (st_set (ew_of (lcD (K := K) (f := fun y => PyData.str (setTx y)) (ix_sL (xs := ys) (g := setD) (hyy ▸ et_call (ok := fun a : Nat × (List Nat → Bool) => N3 a.1) (n, f) hn (ea_cons (et_var rfl) (ea_cons (et_var rfl) ea_nil)))) (fun y _ => gt_name) (fun _ => rfl)
      (fun y hy => et_if (b := !decide (y = [])) (bt_eq (bt_test (et_op (et_var rfl) (et_tupD (K := K) ead_nil (by decide)) (rx_ne (shaped_set y) (shaped_set [])))) ?_) (fun c => et_eq (et_join (ys := y.map digT) (et_eq (lcD (K := K) (f := fun t => PyData.str (digT t)) (ix_sT (xs := y) (g := dn) (et_var rfl)) (fun t _ => gt_name) (fun _ => rfl)
        (fun t ht => et_cb (ea_cons (et_var rfl) ea_nil) (cx_strI (dig_len t (by have := allS_lt n hn y (hys y hy) t ht; omega)).2)) (sz100 ?_)) ?_) ?_) ?_) (fun c => et_eq (et_str (K := K)) ?_)) (sz100 (by omega))) ?_))
    · exact congrArg Bool.not (eqv_set y [])
    · have := allS_small n hn y (hys y hy)
      omega
    · rw [List.map_map]
      rfl
    · rw [h0, Nat.mul_zero, Nat.add_zero]
      have z1 := sum_le 1 (y.map digT) fun z hz => by
        obtain ⟨t, ht, rfl⟩ := List.mem_map.mp hz
        exact (dig_len t (by have := allS_lt n hn y (hys y hy) t ht; omega)).1
      rw [List.length_map] at z1
      have := allS_small n hn y (hys y hy)
      omega
    · unfold setTx
      rw [if_neg (by simpa using c)]
    · unfold setTx
      rw [if_pos (by simpa using c)]
    · refine st_set (ew_of (et_op (et_op (et_var rfl) (et_str (K := K)) (rx_addS (big _ (by rw [h1]; omega)))) (et_if (T := DT K (.str (famTx ys))) (b := !ys.isEmpty) (bt_eq (bt_test (et_op (et_var rfl) (et_lstD (K := K) ead_nil (by decide)) (rx_ne (shaped_txs hn hys) (by rfl)))) ?_)
        (fun c => et_eq (et_join (ys := ys.map setTx) (et_eq (et_var rfl) ?_) ?_) ?_) (fun c => et_eq (et_str (K := K)) ?_)) (rx_addS (big _ (by rw [len_app, h1]; omega)))) ?_)
      · rw [eqv_nil]
      · rw [List.map_map]
        rfl
      · have z1 := sum_le 3 (ys.map setTx) fun z hz => by
          obtain ⟨y, hy, rfl⟩ := List.mem_map.mp hz
          exact (setTx_ok n hn y (hys y hy)).2
        rw [List.length_map] at z1
        rw [List.length_map, hb]
        omega
      · unfold famTx
        rw [if_neg (by cases ys <;> simp_all)]
      · unfold famTx
        rw [if_pos (by cases ys <;> simp_all)]
      · refine ⟨_, ?_, _, _, rfl, rfl⟩
        have e := foldl_take (fun acc f => acc ++ (" " : Str) ++ famTx ((allS n).filter (leastS f))) (headTx Fs.length n) Fs i f hf
        unfold notaI
        rw [e, hyy]
  · rintro _ _ ⟨_, rfl, o3, o4, rfl, rfl⟩
    refine st_ret (ew_of (et_var rfl) (rt_P ?_))
    unfold notaI
    rw [List.take_length]
    exact Sub.refl _
def sp_str (K : PySem.W.Frag) : Sp := spP (fun a : Nat × List Row => N3 a.1 ∧ a.2.length ≤ 4) (fun a => [ConT K a.1 a.2]) (fun a => DT K (.str (notaTx a.1 a.2)))
theorem ok_Contract___str__ (T : Tx K mg) : FnOk P w K mg base CX0 6 aContract___str__ (fdAt K aContract___str__) P_Contract___str__ (sp_str K) := by
  refine fn_ok T.d_Contract___str__ sc_Contract___str__ (fun _ => rfl) fun cdv A outer s H E hr => ⟨_, (pss_one (ps_ret (pe_callTy call_strS rfl T.f_str bt_str (pa_cons (pe_call (ok_notation_of (P := P) (w := w) T) (hr.mono (by omega)) rfl T.g_notation_of T.d_notation_of.kp T.b_notation_of .nil pass0 (pa_cons (fldK (K := K) rfl (pv 0) rfl) (pa_cons (fldK (K := K) rfl (pv 0) rfl) pa_nil))) pa_nil)))), ?_⟩
  rintro ⟨n, Fs⟩ O ⟨hn, h4⟩ hO
  exact st_ret (ew_of (et_cb (ea_cons (et_call (n, Fs) ⟨hn, h4⟩ (ea_cons (et_fld T.c_Contract T.n_Contract_width (et_var rfl) rfl) (ea_cons (et_fld T.c_Contract T.n_Contract_rows (et_var rfl) rfl) ea_nil))) ea_nil) cx_strS) (rt_P (Sub.refl _)))
end
end Tw
end
/-! W4 -/
section
set_option Elab.async false
set_option linter.all false
set_option autoImplicit false
set_option maxRecDepth 100000
set_option maxHeartbeats 4000000
/-! The walk: systems. -/
namespace Tw
open PySem PySem.Spec PyProof.Rows L2
theorem hu1 {k : Nat} {A : Around} (hr : Room k A) : A.units + 1 < cLine := by have := hr.un; omega
section
variable {P : Program} {w : World} {K : PySem.W.Frag} {mg : PySem.Str → Option Value} {base : Heap}
def sp_is_around (K : PySem.W.Frag) : Sp := spP (fun a : Nat × Nat × List Txt => N3 a.1 ∧ a.2.1 ≤ 3 ∧ 1 ≤ a.2.2.length ∧ a.2.2.length ≤ 4) (fun a => [DT K (sysD a.1 a.2.1 a.2.2)]) (fun _ => DT K (.bool true))
theorem ok_is_around (T : Tx K mg) : FnOk P w K mg base CX0 2 ais_around (fdAt K ais_around) P_is_around (sp_is_around K) := by
  refine fn_ok T.d_is_around sc_is_around (fun _ => rfl) fun cdv A outer s H E hr => ⟨_, (pss_cons (ps_if (PW.pt (pw_or (pt_not (pt_val (pe_callB (isiK (K := K) rfl) rfl T.f_isinstance bt_isinstance (pa_cons (pv 0) (pa_cons (pe_bltn (v := .ty "tuple") rfl T.f_tuple bt_tuple rfl) pa_nil))))) (pw_or (pt_cmpR (neK (K := K) rfl (hu64 hr)) (pe_callB (lenK (K := K) rfl) rfl T.f_len bt_len (pa_cons (pv 0) pa_nil)) (pe_int) (nomark _)) (pw_or1 (pt_not (pt_val (pe_call (ok_is_integer (P := P) (w := w) T) (hr.mono (by omega)) rfl T.g_is_integer T.d_is_integer.kp T.b_is_integer .nil pass0 (pa_cons (pe_ix (ixK (P := P) (w := w) (K := K) rfl rfl rfl (hu10 hr)) (pv 0) (pe_int) (fun _ _ => rfl)) (pa_cons (pe_int) (pa_cons (pe_glob (v := .int 4) rfl T.i_MOST_STATES.choose_spec ⟨_, rfl⟩) pa_nil)))))))))) (pss_one (ps_ret (pe_bl))) pss_nil) (pss_cons (ps_if (PW.pt (pw_or (pt_not (pt_val (pe_call (ok_is_integer (P := P) (w := w) T) (hr.mono (by omega)) rfl T.g_is_integer T.d_is_integer.kp T.b_is_integer .nil pass0 (pa_cons (pe_ix (ixK (P := P) (w := w) (K := K) rfl rfl rfl (hu10 hr)) (pv 0) (pe_int) (fun _ _ => rfl)) (pa_cons (pe_int) (pa_cons (pe_glob (v := .int 3) rfl T.i_MOST_PARTS.choose_spec ⟨_, rfl⟩) pa_nil)))))) (pw_or1 (pt_not (pt_val (pe_callB (isiK (K := K) rfl) rfl T.f_isinstance bt_isinstance (pa_cons (pe_ix (ixK (P := P) (w := w) (K := K) rfl rfl rfl (hu10 hr)) (pv 0) (pe_int) (fun _ _ => rfl)) (pa_cons (pe_bltn (v := .ty "tuple") rfl T.f_tuple bt_tuple rfl) pa_nil)))))))) (pss_one (ps_ret (pe_bl))) pss_nil) (pss_one (ps_ret (pe_chain op_le op_le (pe_int) (pe_callB (lenK (K := K) rfl) rfl T.f_len bt_len (pa_cons (pe_ix (ixK (P := P) (w := w) (K := K) rfl rfl rfl (hu10 hr)) (pv 0) (pe_int) (fun _ _ => rfl)) pa_nil)) (pe_glob (v := .int 4) rfl T.i_MOST_TEXTS.choose_spec ⟨_, rfl⟩)))))), ?_⟩
  rintro ⟨n, many, ts⟩ O ⟨hn, hm, h1, h4⟩ hO
  have hn : N3 n := hn
  have hm : many ≤ 3 := hm
  have h1 : 1 ≤ ts.length := h1
  have h4 : ts.length ≤ 4 := h4
  refine st_seq (st_if (b := false) (bt_eq (bt_or (bt_not (bt_B (et_cb (ea_cons (et_var rfl) (ea_cons et_v ea_nil)) (cx_isi kb_tt)))) fun _ => bt_or (bt_test (et_op (et_cb (ea_cons (et_var rfl) ea_nil) cx_lenTD) et_int (rx_ne rfl rfl))) fun _ => bt_not (bt_B (et_isint (n : Int) 1 4 (by omega) (by omega)
    (ea_cons (et_op (et_var rfl) et_int (rx_ixTD rfl)) (ea_cons et_int (ea_cons et_int ea_nil)))))) ?_) (fun h => nomatch h) fun _ => st_next ?_)
  · rfl
  refine st_seq (st_if (b := false) (bt_eq (bt_or (bt_not (bt_B (et_isint (many : Int) 0 3 (by omega) (by omega)
    (ea_cons (et_op (et_var rfl) et_int (rx_ixTD rfl)) (ea_cons et_int (ea_cons et_int ea_nil)))))) fun _ => bt_not (bt_B (et_cb (ea_cons (et_op (et_var rfl) et_int (rx_ixTD rfl)) (ea_cons et_v ea_nil)) (cx_isi kb_tt)))) rfl) (fun h => nomatch h) fun _ => st_next ?_)
  refine st_ret (ew_of (et_chain et_int (et_cb (ea_cons (et_op (et_var rfl) et_int (rx_ixTD rfl)) ea_nil) (cx_lenTD (ds := ts.map Txt.toD))) et_int rx_B0 rx_B0) (rt_P ?_))
  rw [List.length_map, decide_eq_true (by omega), decide_eq_true (by omega)]
  exact Sub.refl _
def sp_is_table (K : PySem.W.Frag) : Sp := spP (fun a : Nat × List Nat => N3 a.1 ∧ a.2.length = a.1 ∧ ∀ t ∈ a.2, t < a.1) (fun a => [DT K (dn a.1), DT K (setD a.2)]) (fun _ => DT K (.bool true))
theorem ok_is_table (T : Tx K mg) : FnOk P w K mg base CX0 2 ais_table (fdAt K ais_table) P_is_table (sp_is_table K) := by
  refine fn_ok T.d_is_table sc_is_table (fun _ => rfl) fun cdv A outer s H E hr => ⟨_, (pss_one (ps_ret (pe_and (pe_callB (isiK (K := K) rfl) rfl T.f_isinstance bt_isinstance (pa_cons (pv 1) (pa_cons (pe_bltn (v := .ty "tuple") rfl T.f_tuple bt_tuple rfl) pa_nil))) (pe_and (pe_cmpR (eqK (K := K) rfl (hu64 hr)) (pe_callB (lenK (K := K) rfl) rfl T.f_len bt_len (pa_cons (pv 1) pa_nil)) (pv 0) (nomark _)) (pe_one (pe_callB (allK (K := K) rfl rfl) rfl T.f_all bt_all (pa_cons (pe_lc (own := [("t", 2)]) (tt := tYes) rfl sc_is_table.nd (seqK (K := K) rfl (pv 1)) (blkOk_by (N := N_is_table) (sc := defScope sis_table) (by decide +kernel)) (fun _ _ _ _ _ => (pg_name (i := 2) sc_is_table.nd rfl (by first | exact Or.inl rfl | exact Or.inr rfl))) (fun _ _ _ _ _ => pts_nil) (fun _ _ _ _ _ => (pe_call (ok_is_integer (P := P) (w := w) T) (hr.mono (by omega)) rfl T.g_is_integer T.d_is_integer.kp T.b_is_integer .nil pass0 (pa_cons (pv 2) (pa_cons (pe_int) (pa_cons (pe_op op_sub (pv 0) (pe_int)) pa_nil)))))) pa_nil))))))), ?_⟩
  rintro ⟨n, ts⟩ O ⟨hn, hl, ht⟩ hO
  have hn : N3 n := hn
  have hl : ts.length = n := hl
  have ht : ∀ t ∈ ts, t < n := ht
  refine st_ret (ew_of (et_and (et_cb (ea_cons (et_var rfl) (ea_cons et_v ea_nil)) (cx_isi kb_tt)) fun _ => et_and (et_op (et_cb (ea_cons (et_var rfl) ea_nil) (cx_lenTD (ds := ts.map dn))) (et_var rfl) (rx_eq rfl rfl)) fun _ => et_cb (ea_cons (lcB (f := fun _ => true) (ix_sT (xs := ts) (g := dn) (et_var rfl)) (fun t _ => gt_name) (fun _ => rfl)
    (fun (t : Nat) h => et_isint t 0 ((n : Int) - 1) (by omega) (by have := ht t h; omega) (ea_cons (et_var rfl) (ea_cons et_int (ea_cons (et_op (et_var rfl) et_int rx_subI) ea_nil)))) (sz100 (by omega))) ea_nil) cx_all) (rt_P ?_))
  rw [all_true, List.length_map, hl, eqv_nn]
  exact Sub.refl _
theorem at0 {α : Type} (a : α) (r : List α) : L2.atI (a :: r) 0 = some a := atI_nat (j := 0) rfl
theorem et_tag {Γ : TEnv} {M : Mem} {i : Nat} {tg s : Str} {rest : List PyData} (h : Γ[i]? = some (some (DT K (.tuple (.str tg :: rest))))) (h1 : (PyData.str tg).canLay0 = true) (h2 : (PyData.str s).canLay0 = true) {b : Bool} (hb : (tg == s) = b) :
    ET (tOp (rEqD K) (tOp (rIxA P w K) (tVar i) (tC (.int 0))) (tC (.str s))) Γ M (DT K (.bool b)) := et_eq (et_op (et_op (et_var h) (et_int (K := K)) (rx_ixTD (at0 _ _))) et_str (rx_eq (shaped_str h1) (shaped_str h2))) (by rw [← hb]; rfl)
theorem et_item {Γ : TEnv} {M : Mem} {i : Nat} {ds : List PyData} {d : PyData} {j : Int} (h : Γ[i]? = some (some (DT K (.tuple ds)))) (hd : L2.atI ds j = some d) : ET (tOp (rIxA P w K) (tVar i) (tC (.int j))) Γ M (DT K d) := et_op (et_var h) (et_int (K := K)) (rx_ixTD hd)
def sp_is_form (K : PySem.W.Frag) : Sp := spP (fun a : Nat × Nat × List Txt × PyData => N3 a.1 ∧ ∃ t : Txt, a.2.2.2 = t.toD ∧ t.Ok a.1 a.2.2.1.length a.2.1 ∧ t.dep ≤ 12) (fun a => [DT K (sysD a.1 a.2.1 a.2.2.1), DT K a.2.2.2]) (fun _ => DT K (.bool true))
theorem ok_is_form (T : Tx K mg) : FnOk P w K mg base CX0 3 ais_form (fdAt K ais_form) P_is_form (sp_is_form K) := by
  refine fn_ok T.d_is_form sc_is_form (fun _ => rfl) fun cdv A outer s H E hr => ⟨_, (pss_cons (ps_asg (pv 0) (tupK (K := K) (n := 3) rfl rfl (pgs_cons (pg_name (i := 2) sc_is_form.nd rfl (by first | exact Or.inl rfl | exact Or.inr rfl)) (pgs_cons (pg_name (i := 3) sc_is_form.nd rfl (by first | exact Or.inl rfl | exact Or.inr rfl)) (pgs_cons (pg_name (i := 4) sc_is_form.nd rfl (by first | exact Or.inl rfl | exact Or.inr rfl)) pgs_nil))))) (pss_cons (ps_if (PW.pt (pw_or (pt_not (pt_val (pe_callB (isiK (K := K) rfl) rfl T.f_isinstance bt_isinstance (pa_cons (pv 1) (pa_cons (pe_bltn (v := .ty "tuple") rfl T.f_tuple bt_tuple rfl) pa_nil))))) (pw_or (pt_cmpR (eqK (K := K) rfl (hu64 hr)) (pv 1) (pe_tup pa_nil) (nomark _)) (pw_or1 (pt_not (pt_val (pe_callB (isiK (K := K) rfl) rfl T.f_isinstance bt_isinstance (pa_cons (pe_ix (ixK (P := P) (w := w) (K := K) rfl rfl rfl (hu10 hr)) (pv 1) (pe_int) (fun _ _ => rfl)) (pa_cons (pe_bltn (v := .ty "str") rfl T.f_str bt_str rfl) pa_nil))))))))) (pss_one (ps_ret (pe_bl))) pss_nil) (pss_cons (ps_if (pt_cmpR (eqK (K := K) rfl (hu64 hr)) (pe_ix (ixK (P := P) (w := w) (K := K) rfl rfl rfl (hu10 hr)) (pv 1) (pe_int) (fun _ _ => rfl)) (pe_str) (nomark _)) (pss_one (ps_ret (pe_and (pe_cmpR (eqK (K := K) rfl (hu64 hr)) (pe_callB (lenK (K := K) rfl) rfl T.f_len bt_len (pa_cons (pv 1) pa_nil)) (pe_int) (nomark _)) (pe_one (pe_call (ok_are_states (P := P) (w := w) T) (hr.mono (by omega)) rfl T.g_are_states T.d_are_states.kp T.b_are_states .nil pass0 (pa_cons (pv 2) (pa_cons (pe_ix (ixK (P := P) (w := w) (K := K) rfl rfl rfl (hu10 hr)) (pv 1) (pe_int) (fun _ _ => rfl)) pa_nil))))))) pss_nil) (pss_cons (ps_if (pt_cmpR (eqK (K := K) rfl (hu64 hr)) (pe_ix (ixK (P := P) (w := w) (K := K) rfl rfl rfl (hu10 hr)) (pv 1) (pe_int) (fun _ _ => rfl)) (pe_str) (nomark _)) (pss_one (ps_ret (pe_cmpR (eqK (K := K) rfl (hu64 hr)) (pe_callB (lenK (K := K) rfl) rfl T.f_len bt_len (pa_cons (pv 1) pa_nil)) (pe_int) (nomark _)))) pss_nil) (pss_cons (ps_if (pt_cmpR (eqK (K := K) rfl (hu64 hr)) (pe_ix (ixK (P := P) (w := w) (K := K) rfl rfl rfl (hu10 hr)) (pv 1) (pe_int) (fun _ _ => rfl)) (pe_str) (nomark _)) (pss_one (ps_ret (pe_cmpR (eqK (K := K) rfl (hu64 hr)) (pe_callB (lenK (K := K) rfl) rfl T.f_len bt_len (pa_cons (pv 1) pa_nil)) (pe_int) (nomark _)))) pss_nil) (pss_cons (ps_if (pt_cmpR (neK (K := K) rfl (hu64 hr)) (pe_callB (lenK (K := K) rfl) rfl T.f_len bt_len (pa_cons (pv 1) pa_nil)) (pe_int) (nomark _)) (pss_one (ps_ret (pe_bl))) pss_nil) (pss_cons (ps_if (pt_cmpR (inK (K := K) rfl (hu65 hr)) (pe_ix (ixK (P := P) (w := w) (K := K) rfl rfl rfl (hu10 hr)) (pv 1) (pe_int) (fun _ _ => rfl)) (pe_glob (v := .ref T.t_SIDES.choose) rfl T.t_SIDES.choose_spec.1 rfl) (by with_unfolding_all rfl)) (pss_one (ps_ret (pe_and (pe_callB (isiK (K := K) rfl) rfl T.f_isinstance bt_isinstance (pa_cons (pe_ix (ixK (P := P) (w := w) (K := K) rfl rfl rfl (hu10 hr)) (pv 1) (pe_int) (fun _ _ => rfl)) (pa_cons (pe_bltn (v := .ty "tuple") rfl T.f_tuple bt_tuple rfl) pa_nil))) (pe_one (pe_cmpR op_le (pe_callB (lenK (K := K) rfl) rfl T.f_len bt_len (pa_cons (pe_ix (ixK (P := P) (w := w) (K := K) rfl rfl rfl (hu10 hr)) (pv 1) (pe_int) (fun _ _ => rfl)) pa_nil)) (pe_glob (v := .int 6) rfl T.i_MOST_CHOICES.choose_spec ⟨_, rfl⟩) (nomark _)))))) pss_nil) (pss_cons (ps_if (pt_cmpR (eqK (K := K) rfl (hu64 hr)) (pe_ix (ixK (P := P) (w := w) (K := K) rfl rfl rfl (hu10 hr)) (pv 1) (pe_int) (fun _ _ => rfl)) (pe_str) (nomark _)) (pss_one (ps_ret (pe_call (ok_is_table (P := P) (w := w) T) (hr.mono (by omega)) rfl T.g_is_table T.d_is_table.kp T.b_is_table .nil pass0 (pa_cons (pv 2) (pa_cons (pe_ix (ixK (P := P) (w := w) (K := K) rfl rfl rfl (hu10 hr)) (pv 1) (pe_int) (fun _ _ => rfl)) pa_nil))))) pss_nil) (pss_cons (ps_set (i := 5) sc_is_form.nd rfl (by first | exact Or.inl rfl | exact Or.inr rfl) (pe_disp (pps_cons (pe_str) (pe_callB (lenK (K := K) rfl) rfl T.f_len bt_len (pa_cons (pv 4) pa_nil)) (pps_cons (pe_str) (pv 3) pps_nil)) rfl rfl (fun h => nomatch h) (by decide))) (pss_one (ps_ret (pe_and (pe_cmp (pc_din (hu1 hr) (pe_ix (ixK (P := P) (w := w) (K := K) rfl rfl rfl (hu10 hr)) (pv 1) (pe_int) (fun _ _ => rfl)) (pv 5)) (by with_unfolding_all rfl)) (pe_one (pe_call (ok_is_integer (P := P) (w := w) T) (hr.mono (by omega)) rfl T.g_is_integer T.d_is_integer.kp T.b_is_integer .nil pass0 (pa_cons (pe_ix (ixK (P := P) (w := w) (K := K) rfl rfl rfl (hu10 hr)) (pv 1) (pe_int) (fun _ _ => rfl)) (pa_cons (pe_int) (pa_cons (pe_op op_sub (pe_dget (hu1 hr) (pv 5) (pe_ix (ixK (P := P) (w := w) (K := K) rfl rfl rfl (hu10 hr)) (pv 1) (pe_int) (fun _ _ => rfl)) (fun _ _ => rfl)) (pe_int)) pa_nil))))))))))))))))), ?_⟩
  rintro ⟨n, many, ts, d⟩ O ⟨hn, t, hd, ho, hdep⟩ hO
  have hn : N3 n := hn
  have hsh : SeqAt.shaped d = true := by
    have hd' : d = t.toD := hd
    rw [hd']
    exact shaped_txt hdep
  have hd : d = t.toD := hd
  have ho : t.Ok n ts.length many := ho
  refine st_seq (st_asg (ew_of (et_var rfl) ⟨_, gt_tupD (gts_cons gt_name (gts_cons gt_name (gts_cons gt_name gts_nil))) rfl, ?_⟩))
  have key : ∀ tg rest, d = .tuple (.str tg :: rest) → PyData.eqv d (.tuple []) = false := by
    intro tg rest e
    subst e
    rfl
  have first : ∀ (tg : Str) (rest : List PyData) (u v : TS) (D : Dest), d = .tuple (.str tg :: rest) → D.nx [some (DT K (sysD n many ts)), some (DT K d), some (DT K (dn n)), some (DT K (dn many)), some (DT K (.tuple (ts.map Txt.toD))), none] [] →
      ST (tIfS (tOr (tNot (tB (tCB (rIsi K) (tCons (tVar 1) (tCons (tC (.ty "tuple")) tNil))))) (tOr (tTest (tOp (rEqD K) (tVar 1) (tTup tNil))) (tNot (tB (tCB (rIsi K) (tCons (tOp (rIxA P w K) (tVar 1) (tC (.int 0))) (tCons (tC (.ty "str")) tNil))))))) u tNext) O
        [some (DT K (sysD n many ts)), some (DT K d), some (DT K (dn n)), some (DT K (dn many)), some (DT K (.tuple (ts.map Txt.toD))), none] [] D := by
    intro tg rest u v D e h
    subst e
    exact st_if (b := false) (bt_eq (bt_or (bt_not (bt_B (et_cb (ea_cons (et_var rfl) (ea_cons et_v ea_nil)) (cx_isi kb_tt)))) fun _ => bt_or (bt_test (et_op (et_var rfl) (et_tupD (K := K) ead_nil (by decide)) (rx_eq hsh (shaped_set [])))) fun _ => bt_not (bt_B (et_cb (ea_cons (et_item rfl (at0 _ _)) (ea_cons et_v ea_nil)) (cx_isi (d := .str tg) kb_ss)))) rfl) (fun h => nomatch h) fun _ => st_next h
  have sides : ∀ (tg : Str) (rest : List PyData) (b : Bool) (Γ : TEnv), Γ[1]? = some (some (DT K (.tuple (.str tg :: rest)))) → (("we" : Str) == tg || (("they" : Str) == tg || false)) = b → BT (tTest (tOp (rInA K) (tOp (rIxA P w K) (tVar 1) (tC (.int 0))) (tC (.ref T.t_SIDES.choose)))) Γ [] b := by
    intro tg rest b Γ h e
    exact bt_test (et_eq (T := DT K (.bool b)) (et_op (et_item h (at0 _ _)) (et_sides T) (rx_inT (d := .str tg) rfl rfl)) (by rw [← e]; rfl))
  cases t with
  | skip =>
    rw [Txt.toD] at hd
    subst hd
    refine st_seq (first _ _ _ tNext _ rfl ?_)
    refine st_seq (st_if (b := false) (bt_test (et_tag rfl (by decide +kernel) (by decide +kernel) (by decide +kernel))) (fun h => nomatch h) fun _ => st_next ?_)
    refine st_seq (st_if (b := false) (bt_test (et_tag rfl (by decide +kernel) (by decide +kernel) (by decide +kernel))) (fun h => nomatch h) fun _ => st_next ?_)
    refine st_seq (st_if (b := true) (bt_test (et_tag rfl (by decide +kernel) (by decide +kernel) (by decide +kernel))) (fun _ => ?_) fun h => nomatch h)
    exact st_ret (ew_of (et_op (et_cb (ea_cons (et_var rfl) ea_nil) cx_lenTD) et_int (rx_eq rfl rfl)) (rt_P (Sub.refl _)))
  | thn a b =>
    rw [Txt.toD] at hd
    subst hd
    refine st_seq (first _ _ _ tNext _ rfl ?_)
    refine st_seq (st_if (b := false) (bt_test (et_tag rfl (by decide +kernel) (by decide +kernel) (by decide +kernel))) (fun h => nomatch h) fun _ => st_next ?_)
    refine st_seq (st_if (b := true) (bt_test (et_tag rfl (by decide +kernel) (by decide +kernel) (by decide +kernel))) (fun _ => ?_) fun h => nomatch h)
    exact st_ret (ew_of (et_op (et_cb (ea_cons (et_var rfl) ea_nil) cx_lenTD) et_int (rx_eq rfl rfl)) (rt_P (Sub.refl _)))
  | ite x a b =>
    rw [Txt.toD] at hd
    subst hd
    rw [Txt.Ok] at ho
    refine st_seq (first _ _ _ tNext _ rfl ?_)
    refine st_seq (st_if (b := true) (bt_test (et_tag rfl (by decide +kernel) (by decide +kernel) (by decide +kernel))) (fun _ => ?_) fun h => nomatch h)
    exact st_ret (ew_of (et_and (et_op (et_cb (ea_cons (et_var rfl) ea_nil) cx_lenTD) et_int (rx_eq rfl rfl)) fun _ => et_call (n, x) ⟨hn, ho.1⟩ (ea_cons (et_var rfl) (ea_cons (et_item rfl rfl) ea_nil))) (rt_P (Sub.refl _)))
  | ch we l =>
    rw [Txt.toD] at hd
    subst hd
    rw [Txt.Ok] at ho
    refine st_seq (first _ _ _ tNext _ rfl ?_)
    refine st_seq (st_if (b := false) (bt_test (et_tag rfl (by cases we <;> decide +kernel) (by decide +kernel) (by cases we <;> decide +kernel))) (fun h => nomatch h) fun _ => st_next ?_)
    refine st_seq (st_if (b := false) (bt_test (et_tag rfl (by cases we <;> decide +kernel) (by decide +kernel) (by cases we <;> decide +kernel))) (fun h => nomatch h) fun _ => st_next ?_)
    refine st_seq (st_if (b := false) (bt_test (et_tag rfl (by cases we <;> decide +kernel) (by decide +kernel) (by cases we <;> decide +kernel))) (fun h => nomatch h) fun _ => st_next ?_)
    refine st_seq (st_if (b := false) (bt_test (et_op (et_cb (ea_cons (et_var rfl) ea_nil) cx_lenTD) et_int (rx_ne rfl rfl))) (fun h => nomatch h) fun _ => st_next ?_)
    refine st_seq (st_if (b := true) (sides _ _ _ _ rfl (by cases we <;> decide +kernel)) (fun _ => ?_) fun h => nomatch h)
    refine st_ret (ew_of (et_and (et_cb (ea_cons (et_item rfl rfl) (ea_cons et_v ea_nil)) (cx_isi kb_tt)) fun _ => et_op (et_cb (ea_cons (et_item rfl rfl) ea_nil) cx_lenTD) et_int rx_B0) (rt_P ?_))
    rw [toDs_map, List.length_map, decide_eq_true (by have := ho.1; omega)]
    exact Sub.refl _
  | go tb =>
    rw [Txt.toD] at hd
    subst hd
    rw [Txt.Ok] at ho
    refine st_seq (first _ _ _ tNext _ rfl ?_)
    refine st_seq (st_if (b := false) (bt_test (et_tag rfl (by decide +kernel) (by decide +kernel) (by decide +kernel))) (fun h => nomatch h) fun _ => st_next ?_)
    refine st_seq (st_if (b := false) (bt_test (et_tag rfl (by decide +kernel) (by decide +kernel) (by decide +kernel))) (fun h => nomatch h) fun _ => st_next ?_)
    refine st_seq (st_if (b := false) (bt_test (et_tag rfl (by decide +kernel) (by decide +kernel) (by decide +kernel))) (fun h => nomatch h) fun _ => st_next ?_)
    refine st_seq (st_if (b := false) (bt_test (et_op (et_cb (ea_cons (et_var rfl) ea_nil) cx_lenTD) et_int (rx_ne rfl rfl))) (fun h => nomatch h) fun _ => st_next ?_)
    refine st_seq (st_if (b := false) (sides _ _ _ _ rfl (by decide +kernel)) (fun h => nomatch h) fun _ => st_next ?_)
    refine st_seq (st_if (b := true) (bt_test (et_tag rfl (by decide +kernel) (by decide +kernel) (by decide +kernel))) (fun _ => ?_) fun h => nomatch h)
    exact st_ret (ew_of (et_call (ok := fun a : Nat × List Nat => N3 a.1 ∧ a.2.length = a.1 ∧ ∀ t ∈ a.2, t < a.1) (n, tb) ⟨hn, ho.1, ho.2⟩ (ea_cons (et_var rfl) (ea_cons (et_item rfl rfl) ea_nil))) (rt_P (Sub.refl _)))
  | call k =>
    rw [Txt.toD] at hd
    subst hd
    rw [Txt.Ok] at ho
    have ho : k < ts.length := ho
    refine st_seq (first _ _ _ tNext _ rfl ?_)
    refine st_seq (st_if (b := false) (bt_test (et_tag rfl (by decide +kernel) (by decide +kernel) (by decide +kernel))) (fun h => nomatch h) fun _ => st_next ?_)
    refine st_seq (st_if (b := false) (bt_test (et_tag rfl (by decide +kernel) (by decide +kernel) (by decide +kernel))) (fun h => nomatch h) fun _ => st_next ?_)
    refine st_seq (st_if (b := false) (bt_test (et_tag rfl (by decide +kernel) (by decide +kernel) (by decide +kernel))) (fun h => nomatch h) fun _ => st_next ?_)
    refine st_seq (st_if (b := false) (bt_test (et_op (et_cb (ea_cons (et_var rfl) ea_nil) cx_lenTD) et_int (rx_ne rfl rfl))) (fun h => nomatch h) fun _ => st_next ?_)
    refine st_seq (st_if (b := false) (sides _ _ _ _ rfl (by decide +kernel)) (fun h => nomatch h) fun _ => st_next ?_)
    refine st_seq (st_if (b := false) (bt_test (et_tag rfl (by decide +kernel) (by decide +kernel) (by decide +kernel))) (fun h => nomatch h) fun _ => st_next ?_)
    refine st_seq (st_set (ew_of (et_disp2 (K := K) (c := (ts.length : Int)) (m := (many : Int)) (by decide +kernel) (fun M => et_cb (ea_cons (et_var rfl) ea_nil) (et_eq_cx (cx_lenTD (ds := ts.map Txt.toD)) (by rw [List.length_map]))) (fun M => et_var rfl)) ?_))
    refine st_ret (ew_of (et_and (et_eq (et_din (K := K) (et_item rfl rfl) (et_var rfl)) (by show _ = DT K (.bool true); exact congrArg (fun b => DT K (.bool b)) (by decide +kernel))) fun _ => et_isint (k : Int) 0 ((ts.length : Int) - 1) (by omega) (by omega) (ea_cons (et_item rfl rfl) (ea_cons et_int (ea_cons (et_op (et_dget (K := K) (i := (ts.length : Int)) (et_var rfl) (et_item rfl rfl) ?_) et_int rx_subI) ea_nil)))) (rt_P (Sub.refl _)))
    rfl
  | part k =>
    rw [Txt.toD] at hd
    subst hd
    rw [Txt.Ok] at ho
    have ho : k < many := ho
    refine st_seq (first _ _ _ tNext _ rfl ?_)
    refine st_seq (st_if (b := false) (bt_test (et_tag rfl (by decide +kernel) (by decide +kernel) (by decide +kernel))) (fun h => nomatch h) fun _ => st_next ?_)
    refine st_seq (st_if (b := false) (bt_test (et_tag rfl (by decide +kernel) (by decide +kernel) (by decide +kernel))) (fun h => nomatch h) fun _ => st_next ?_)
    refine st_seq (st_if (b := false) (bt_test (et_tag rfl (by decide +kernel) (by decide +kernel) (by decide +kernel))) (fun h => nomatch h) fun _ => st_next ?_)
    refine st_seq (st_if (b := false) (bt_test (et_op (et_cb (ea_cons (et_var rfl) ea_nil) cx_lenTD) et_int (rx_ne rfl rfl))) (fun h => nomatch h) fun _ => st_next ?_)
    refine st_seq (st_if (b := false) (sides _ _ _ _ rfl (by decide +kernel)) (fun h => nomatch h) fun _ => st_next ?_)
    refine st_seq (st_if (b := false) (bt_test (et_tag rfl (by decide +kernel) (by decide +kernel) (by decide +kernel))) (fun h => nomatch h) fun _ => st_next ?_)
    refine st_seq (st_set (ew_of (et_disp2 (K := K) (c := (ts.length : Int)) (m := (many : Int)) (by decide +kernel) (fun M => et_cb (ea_cons (et_var rfl) ea_nil) (et_eq_cx (cx_lenTD (ds := ts.map Txt.toD)) (by rw [List.length_map]))) (fun M => et_var rfl)) ?_))
    refine st_ret (ew_of (et_and (et_eq (et_din (K := K) (et_item rfl rfl) (et_var rfl)) (by show _ = DT K (.bool true); exact congrArg (fun b => DT K (.bool b)) (by decide +kernel))) fun _ => et_isint (k : Int) 0 ((many : Int) - 1) (by omega) (by omega) (ea_cons (et_item rfl rfl) (ea_cons et_int (ea_cons (et_op (et_dget (K := K) (i := (many : Int)) (et_var rfl) (et_item rfl rfl) ?_) et_int rx_subI) ea_nil)))) (rt_P (Sub.refl _)))
    rfl
end
end Tw
end
/-! W4b -/
section
set_option Elab.async false
set_option linter.all false
set_option autoImplicit false
set_option maxRecDepth 100000
set_option maxHeartbeats 4000000
/-! The walk: systems, the rest. -/
namespace Tw
open PySem PySem.Spec PyProof.Rows L2
section
variable {P : Program} {w : World} {K : PySem.W.Frag} {mg : PySem.Str → Option Value} {base : Heap}
def sp_texts_in (K : PySem.W.Frag) : Sp := spP (fun a : PyData × Txt => a.1 = a.2.toD) (fun a => [DT K a.1]) (fun a => DT K (.tuple (a.2.kids.map Txt.toD)))
theorem bt_sides (T : Tx K mg) {Γ : TEnv} {i : Nat} {tg : Str} {rest : List PyData} {b : Bool} (h : Γ[i]? = some (some (DT K (.tuple (.str tg :: rest))))) (e : (("we" : Str) == tg || (("they" : Str) == tg || false)) = b) : BT (tTest (tOp (rInA K) (tOp (rIxA P w K) (tVar i) (tC (.int 0))) (tC (.ref T.t_SIDES.choose)))) Γ [] b :=
  bt_test (et_eq (T := DT K (.bool b)) (et_op (et_item h (at0 _ _)) (et_sides T) (rx_inT (d := .str tg) rfl rfl)) (by rw [← e]; rfl))
theorem ok_texts_in (T : Tx K mg) : FnOk P w K mg base CX0 1 atexts_in (fdAt K atexts_in) P_texts_in (sp_texts_in K) := by
  refine fn_ok T.d_texts_in sc_texts_in (fun _ => rfl) fun cdv A outer s H E hr => ⟨_, (pss_cons (ps_if (pt_cmpR (inK (K := K) rfl (hu65 hr)) (pe_ix (ixK (P := P) (w := w) (K := K) rfl rfl rfl (hu10 hr)) (pv 0) (pe_int) (fun _ _ => rfl)) (pe_glob (v := .ref T.t_SIDES.choose) rfl T.t_SIDES.choose_spec.1 rfl) (by with_unfolding_all rfl)) (pss_one (ps_ret (pe_ix (ixK (P := P) (w := w) (K := K) rfl rfl rfl (hu10 hr)) (pv 0) (pe_int) (fun _ _ => rfl)))) pss_nil) (pss_cons (ps_if (pt_cmpR (eqK (K := K) rfl (hu64 hr)) (pe_ix (ixK (P := P) (w := w) (K := K) rfl rfl rfl (hu10 hr)) (pv 0) (pe_int) (fun _ _ => rfl)) (pe_str) (nomark _)) (pss_one (ps_ret (pe_slice (slK (K := K) rfl) (pv 0) (po_some (pe_int)) po_none))) pss_nil) (pss_one (ps_ret (pe_ifExp (pt_cmpR (eqK (K := K) rfl (hu64 hr)) (pe_ix (ixK (P := P) (w := w) (K := K) rfl rfl rfl (hu10 hr)) (pv 0) (pe_int) (fun _ _ => rfl)) (pe_str) (nomark _)) (pe_slice (slK (K := K) rfl) (pv 0) (po_some (pe_int)) po_none) (pe_tup pa_nil)))))), ?_⟩
  rintro ⟨d, t⟩ O hd hO
  have hd : d = t.toD := hd
  have one : ∀ {tg : Str} {a b : PyData}, cut [PyData.str tg, a, b] (some 1) none = [a, b] := fun {tg a b} => cut_from _ 1
  have two : ∀ {tg : Str} {a b c : PyData}, cut [PyData.str tg, a, b, c] (some 2) none = [b, c] := fun {tg a b c} => cut_from _ 2
  cases t with
  | ch we l =>
    rw [Txt.toD, toDs_map] at hd
    subst hd
    refine st_seq (st_if (b := true) (bt_sides T rfl (by cases we <;> decide +kernel)) (fun _ => ?_) fun h => nomatch h)
    exact st_ret (ew_of (et_item rfl rfl) (rt_P (Sub.refl _)))
  | ite x a b =>
    rw [Txt.toD] at hd
    subst hd
    refine st_seq (st_if (b := false) (bt_sides T rfl (by decide +kernel)) (fun h => nomatch h) fun _ => st_next ?_)
    refine st_seq (st_if (b := true) (bt_test (et_tag rfl (by decide +kernel) (by decide +kernel) (by decide +kernel))) (fun _ => ?_) fun h => nomatch h)
    exact st_ret (ew_of (et_eq (et_slTD (et_var rfl) ot_c ot_no) (by rw [two]; rfl)) (rt_P (Sub.refl _)))
  | thn a b =>
    rw [Txt.toD] at hd
    subst hd
    refine st_seq (st_if (b := false) (bt_sides T rfl (by decide +kernel)) (fun h => nomatch h) fun _ => st_next ?_)
    refine st_seq (st_if (b := false) (bt_test (et_tag rfl (by decide +kernel) (by decide +kernel) (by decide +kernel))) (fun h => nomatch h) fun _ => st_next ?_)
    exact st_ret (ew_of (et_if (b := true) (bt_test (et_tag rfl (by decide +kernel) (by decide +kernel) (by decide +kernel))) (fun _ => et_eq (et_slTD (et_var rfl) ot_c ot_no) (by rw [one]; rfl)) fun h => nomatch h) (rt_P (Sub.refl _)))
  | skip =>
    rw [Txt.toD] at hd
    subst hd
    refine st_seq (st_if (b := false) (bt_sides T rfl (by decide +kernel)) (fun h => nomatch h) fun _ => st_next ?_)
    refine st_seq (st_if (b := false) (bt_test (et_tag rfl (by decide +kernel) (by decide +kernel) (by decide +kernel))) (fun h => nomatch h) fun _ => st_next ?_)
    exact st_ret (ew_of (et_if (b := false) (bt_test (et_tag rfl (by decide +kernel) (by decide +kernel) (by decide +kernel))) (fun h => nomatch h) fun _ => et_tupD (K := K) ead_nil (by decide)) (rt_P (Sub.refl _)))
  | go ts =>
    rw [Txt.toD] at hd
    subst hd
    refine st_seq (st_if (b := false) (bt_sides T rfl (by decide +kernel)) (fun h => nomatch h) fun _ => st_next ?_)
    refine st_seq (st_if (b := false) (bt_test (et_tag rfl (by decide +kernel) (by decide +kernel) (by decide +kernel))) (fun h => nomatch h) fun _ => st_next ?_)
    exact st_ret (ew_of (et_if (b := false) (bt_test (et_tag rfl (by decide +kernel) (by decide +kernel) (by decide +kernel))) (fun h => nomatch h) fun _ => et_tupD (K := K) ead_nil (by decide)) (rt_P (Sub.refl _)))
  | call k =>
    rw [Txt.toD] at hd
    subst hd
    refine st_seq (st_if (b := false) (bt_sides T rfl (by decide +kernel)) (fun h => nomatch h) fun _ => st_next ?_)
    refine st_seq (st_if (b := false) (bt_test (et_tag rfl (by decide +kernel) (by decide +kernel) (by decide +kernel))) (fun h => nomatch h) fun _ => st_next ?_)
    exact st_ret (ew_of (et_if (b := false) (bt_test (et_tag rfl (by decide +kernel) (by decide +kernel) (by decide +kernel))) (fun h => nomatch h) fun _ => et_tupD (K := K) ead_nil (by decide)) (rt_P (Sub.refl _)))
  | part k =>
    rw [Txt.toD] at hd
    subst hd
    refine st_seq (st_if (b := false) (bt_sides T rfl (by decide +kernel)) (fun h => nomatch h) fun _ => st_next ?_)
    refine st_seq (st_if (b := false) (bt_test (et_tag rfl (by decide +kernel) (by decide +kernel) (by decide +kernel))) (fun h => nomatch h) fun _ => st_next ?_)
    exact st_ret (ew_of (et_if (b := false) (bt_test (et_tag rfl (by decide +kernel) (by decide +kernel) (by decide +kernel))) (fun h => nomatch h) fun _ => et_tupD (K := K) ead_nil (by decide)) (rt_P (Sub.refl _)))
def sp_wrong_place (K : PySem.W.Frag) (d : Nat) : Sp := spP (fun a : Nat × Nat × List Txt × Plc × Txt => N3 a.1 ∧ a.2.2.2.2.Ok a.1 a.2.2.1.length a.2.1 ∧ a.2.2.2.2.dep ≤ d ∧ a.2.2.2.2.dep ≤ 12 ∧ a.2.2.2.1.2.length + a.2.2.2.2.dep ≤ 100) (fun a => [DT K (sysD a.1 a.2.1 a.2.2.1), DT K (plD a.2.2.2.1), DT K a.2.2.2.2.toD]) (fun _ => DT K .none)
theorem zip_mem {α : Type} {l : List α} {i : Nat} {p : α × Nat} (h : l.zipIdx[i]? = some p) : p.1 ∈ l := List.fst_mem_of_mem_zipIdx (List.mem_of_getElem? h)
theorem et_place {Γ : TEnv} {M : Mem} {i j : Nat} {p : Plc} {m : Nat} (h : Γ[i]? = some (some (DT K (plD p)))) (hj : Γ[j]? = some (some (DT K (dn m)))) (hz : p.2.length ≤ 100) :
    ET (tTup (tCons (tOp (rIxA P w K) (tVar i) (tC (.int 0))) (tCons (tOp (rAddA K) (tOp (rIxA P w K) (tVar i) (tC (.int 1))) (tTup (tCons (tVar j) tNil))) tNil))) Γ M (DT K (plD (p.1, p.2 ++ [m]))) := by
  refine et_eq (et_tupD (K := K) (ead_cons (et_item h rfl) (ead_cons (et_op (et_item h rfl) (et_tupD (ead_cons (et_var hj) ead_nil) (by show 1 ≤ sizeLine; decide)) (rx_addTD ?_)) ead_nil)) (by show 2 ≤ sizeLine; decide)) ?_
  · rw [List.length_map]
    exact Nat.le_trans (Nat.add_le_add_right hz 1) (by decide)
  · show _ = DT K (.tuple [dn p.1, .tuple ((p.2 ++ [m]).map dn)])
    rw [List.map_append]
    rfl
theorem ok_wrong_place (T : Tx K mg) : ∀ d, FnOk P w K mg base CX0 (4+d) awrong_place (fdAt K awrong_place) P_wrong_place (sp_wrong_place K d)
  | 0 => fn_absurd fun a ⟨_, _, h, _⟩ => by
    have : 1 ≤ a.2.2.2.2.dep := by cases a.2.2.2.2 <;> rw [Txt.dep] <;> omega
    omega
  | d + 1 => by
    have ih := ok_wrong_place T d
    show FnOk P w K mg base CX0 (4+d+1) awrong_place (fdAt K awrong_place) P_wrong_place (sp_wrong_place K (d + 1))
    refine fn_ok T.d_wrong_place sc_wrong_place (fun _ => rfl) fun cdv A outer s H E hr => ⟨_, (pss_cons (ps_if (pt_not (pt_val (pe_call (ok_is_form (P := P) (w := w) T) (hr.mono (by omega)) rfl T.g_is_form T.d_is_form.kp T.b_is_form .nil pass0 (pa_cons (pv 0) (pa_cons (pv 2) pa_nil))))) (pss_one (ps_ret (pv 1))) pss_nil) (pss_cons (ps_for PassesOwn.never rfl (pi_enumT rfl T.f_enumerate (pa_cons (pe_call (ok_texts_in (P := P) (w := w) T) (hr.mono (by omega)) rfl T.g_texts_in T.d_texts_in.kp T.b_texts_in .nil pass0 (pa_cons (pv 2) pa_nil)) pa_nil)) (tupK (K := K) (n := 2) rfl rfl (pgs_cons (pg_name (i := 3) sc_wrong_place.nd rfl (by first | exact Or.inl rfl | exact Or.inr rfl)) (pgs_cons (pg_name (i := 4) sc_wrong_place.nd rfl (by first | exact Or.inl rfl | exact Or.inr rfl)) pgs_nil))) (pss_cons (ps_set (i := 5) sc_wrong_place.nd rfl (by first | exact Or.inl rfl | exact Or.inr rfl) (pe_call ih (hr.mono (by omega)) rfl T.g_wrong_place T.d_wrong_place.kp T.b_wrong_place .nil pass0 (pa_cons (pv 0) (pa_cons (pe_tup (pa_cons (pe_ix (ixK (P := P) (w := w) (K := K) rfl rfl rfl (hu10 hr)) (pv 1) (pe_int) (fun _ _ => rfl)) (pa_cons (pe_op (addK (K := K) rfl) (pe_ix (ixK (P := P) (w := w) (K := K) rfl rfl rfl (hu10 hr)) (pv 1) (pe_int) (fun _ _ => rfl)) (pe_tup (pa_cons (pv 3) pa_nil))) pa_nil))) (pa_cons (pv 4) pa_nil))))) (pss_one (ps_if (pt_cmpR op_notN (pv 5) (pe_non) (nomark _)) (pss_one (ps_ret (pv 5))) pss_nil)))) (pss_one (ps_ret (pe_non))))), ?_⟩
    rintro ⟨n, many, ts, p, t⟩ O ⟨hn, ho, hd, h12, hp⟩ hO
    have hn : N3 n := hn
    have ho : t.Ok n ts.length many := ho
    have hd : t.dep ≤ d + 1 := hd
    have hp : p.2.length + t.dep ≤ 100 := hp
    refine st_seq (st_if (b := false) (bt_eq (bt_not (bt_B (et_call (n, many, ts, t.toD) ⟨hn, t, rfl, ho, h12⟩ (ea_cons (et_var rfl) (ea_cons (et_var rfl) ea_nil))))) rfl) (fun h => nomatch h) fun _ => st_next ?_)
    refine st_seq (st_for (xs := t.kids.zipIdx) (gT := fun u => TupT K [DT K (dn u.2), DT K u.1.toD]) (ws := fun u => [(3, DT K (dn u.2)), (4, DT K u.1.toD)])
      (fun _ Γ M => ∃ o3 o4 o5, Γ = [some (DT K (sysD n many ts)), some (DT K (plD p)), some (DT K t.toD), o3, o4, o5] ∧ M = []) (ix_E (ea_cons (et_call (t.toD, t) rfl (ea_cons (et_var rfl) ea_nil)) ea_nil)) (fun u _ => gt_tup (gts_cons gt_name (gts_cons gt_name gts_nil)) rfl) ⟨none, none, none, rfl, rfl⟩ ?_ ?_)
    · rintro i u _ _ hu ⟨o3, o4, o5, rfl, rfl⟩
      have hk := zip_mem hu
      have h1 := kid_dep hk
      refine st_seq (st_set (ew_of (et_call (n, many, ts, (p.1, p.2 ++ [u.2]), u.1) ⟨hn, kid_ok ho hk, by show u.1.dep ≤ d; omega, by show u.1.dep ≤ 12; have h12 : t.dep ≤ 12 := h12; omega, by show (p.2 ++ [u.2]).length + u.1.dep ≤ 100; rw [List.length_append, List.length_singleton]; omega⟩ (ea_cons (et_var rfl) (ea_cons (et_place rfl rfl (by omega)) (ea_cons (et_var rfl) ea_nil)))) ?_))
      exact st_if (b := false) (bt_eq (bt_test (et_op (et_var rfl) (et_non (K := K)) (rx_isnt (T := DT K .none) (b := true) fun I v h => by rw [dt_non h]; rfl))) rfl) (fun h => nomatch h) fun _ => st_next ⟨_, _, _, rfl, rfl⟩
    · rintro _ _ ⟨o3, o4, o5, rfl, rfl⟩
      exact st_ret (ew_of (et_non (K := K)) (rt_P (Sub.refl _)))
theorem prefix_ok {α : Type} {xs : List α} {i : Nat} {a : α} (h : xs[i]? = some a) : i < xs.length := (List.getElem?_eq_some_iff.mp h).1
def sp_first_wrong (K : PySem.W.Frag) : Sp := spP (fun a : Nat × Nat × List Txt => SysOk a.1 a.2.1 a.2.2) (fun a => [DT K (sysD a.1 a.2.1 a.2.2)]) (fun _ => DT K .none)
theorem ok_first_wrong (T : Tx K mg) : FnOk P w K mg base CX0 17 afirst_wrong (fdAt K afirst_wrong) P_first_wrong (sp_first_wrong K) := by
  have ih := ok_wrong_place (P := P) (w := w) (base := base) T 12
  refine fn_ok T.d_first_wrong sc_first_wrong (fun _ => rfl) fun cdv A outer s H E hr => ⟨_, (pss_cons (ps_for PassesOwn.never rfl (pi_enumT rfl T.f_enumerate (pa_cons (pe_ix (ixK (P := P) (w := w) (K := K) rfl rfl rfl (hu10 hr)) (pv 0) (pe_int) (fun _ _ => rfl)) pa_nil)) (tupK (K := K) (n := 2) rfl rfl (pgs_cons (pg_name (i := 1) sc_first_wrong.nd rfl (by first | exact Or.inl rfl | exact Or.inr rfl)) (pgs_cons (pg_name (i := 2) sc_first_wrong.nd rfl (by first | exact Or.inl rfl | exact Or.inr rfl)) pgs_nil))) (pss_cons (ps_set (i := 3) sc_first_wrong.nd rfl (by first | exact Or.inl rfl | exact Or.inr rfl) (pe_call ih (hr.mono (by omega)) rfl T.g_wrong_place T.d_wrong_place.kp T.b_wrong_place .nil pass0 (pa_cons (pv 0) (pa_cons (pe_tup (pa_cons (pv 1) (pa_cons (pe_tup pa_nil) pa_nil))) (pa_cons (pv 2) pa_nil))))) (pss_one (ps_if (pt_cmpR op_notN (pv 3) (pe_non) (nomark _)) (pss_one (ps_ret (pv 3))) pss_nil)))) (pss_one (ps_ret (pe_non)))), ?_⟩
  rintro ⟨n, many, ts⟩ O hs hO
  have hs : SysOk n many ts := hs
  refine st_seq (st_for (xs := ts.zipIdx) (gT := fun u => TupT K [DT K (dn u.2), DT K u.1.toD]) (ws := fun u => [(1, DT K (dn u.2)), (2, DT K u.1.toD)])
    (fun _ Γ M => ∃ o1 o2 o3, Γ = [some (DT K (sysD n many ts)), o1, o2, o3] ∧ M = []) (ix_E (ea_cons (et_item rfl rfl) ea_nil)) (fun u _ => gt_tup (gts_cons gt_name (gts_cons gt_name gts_nil)) rfl) ⟨none, none, none, rfl, rfl⟩ ?_ ?_)
  · rintro i u _ _ hu ⟨o1, o2, o3, rfl, rfl⟩
    have hk := zip_mem hu
    have h12 := hs.dep _ hk
    refine st_seq (st_set (ew_of (et_call (n, many, ts, (u.2, []), u.1) ⟨hs.n3, hs.ok _ hk, h12, h12, by show 0 + u.1.dep ≤ 100; omega⟩ (ea_cons (et_var rfl) (ea_cons (et_tupD (K := K) (ead_cons (et_var rfl) (ead_cons (et_tupD ead_nil (by show 0 ≤ sizeLine; decide)) ead_nil)) (by show 2 ≤ sizeLine; decide)) (ea_cons (et_var rfl) ea_nil)))) ?_))
    exact st_if (b := false) (bt_eq (bt_test (et_op (et_var rfl) (et_non (K := K)) (rx_isnt (T := DT K .none) (b := true) fun I v h => by rw [dt_non h]; rfl))) rfl) (fun h => nomatch h) fun _ => st_next ⟨_, _, _, rfl, rfl⟩
  · rintro _ _ ⟨o1, o2, o3, rfl, rfl⟩
    exact st_ret (ew_of (et_non (K := K)) (rt_P (Sub.refl _)))
def sp_places_from (K : PySem.W.Frag) (d : Nat) : Sp := spP (fun a : Plc × Txt => a.2.dep ≤ d ∧ a.1.2.length + a.2.dep ≤ 100 ∧ a.2.size ≤ 1000) (fun a => [DT K (plD a.1), DT K a.2.toD]) (fun a => LstT ((plcs d a.1 a.2).map fun p => DT K (plD p)))
theorem flat_take {α β : Type} (f : α → List β) {xs : List α} {i : Nat} {a : α} (h : xs[i]? = some a) : (xs.take (i + 1)).flatMap f = (xs.take i).flatMap f ++ f a := by
  rw [take_succ_at h, List.flatMap_append]
  simp
theorem flat_take_len {α β : Type} (f : α → List β) (xs : List α) (i : Nat) : ((xs.take i).flatMap f).length ≤ (xs.flatMap f).length := by
  conv => rhs; rw [← List.take_append_drop i xs, List.flatMap_append, List.length_append]
  omega
theorem ok_places_from (T : Tx K mg) : ∀ d, FnOk P w K mg base CX0 (2+d) aplaces_from (fdAt K aplaces_from) P_places_from (sp_places_from K d)
  | 0 => fn_absurd fun a ⟨h, _⟩ => by
    have : 1 ≤ a.2.dep := by cases a.2 <;> rw [Txt.dep] <;> omega
    omega
  | d + 1 => by
    have ih := ok_places_from T d
    show FnOk P w K mg base CX0 (2+d+1) aplaces_from (fdAt K aplaces_from) P_places_from (sp_places_from K (d + 1))
    refine fn_ok T.d_places_from sc_places_from (fun _ => rfl) fun cdv A outer s H E hr => ⟨_, (pss_cons (ps_set (i := 2) sc_places_from.nd rfl (by first | exact Or.inl rfl | exact Or.inr rfl) (pe_lst (pa_cons (pv 0) pa_nil))) (pss_cons (ps_for PassesOwn.never rfl (pi_enumT rfl T.f_enumerate (pa_cons (pe_call (ok_texts_in (P := P) (w := w) T) (hr.mono (by omega)) rfl T.g_texts_in T.d_texts_in.kp T.b_texts_in .nil pass0 (pa_cons (pv 1) pa_nil)) pa_nil)) (tupK (K := K) (n := 2) rfl rfl (pgs_cons (pg_name (i := 3) sc_places_from.nd rfl (by first | exact Or.inl rfl | exact Or.inr rfl)) (pgs_cons (pg_name (i := 4) sc_places_from.nd rfl (by first | exact Or.inl rfl | exact Or.inr rfl)) pgs_nil))) (pss_one (ps_expr (pe_bm PySem.F.plainAttrs_list PySem.F.slot_list_extend PySem.F.type_list_extend mt_extend (pv 2) (pa_cons (pe_call ih (hr.mono (by omega)) rfl T.g_places_from T.d_places_from.kp T.b_places_from .nil pass0 (pa_cons (pe_tup (pa_cons (pe_ix (ixK (P := P) (w := w) (K := K) rfl rfl rfl (hu10 hr)) (pv 0) (pe_int) (fun _ _ => rfl)) (pa_cons (pe_op (addK (K := K) rfl) (pe_ix (ixK (P := P) (w := w) (K := K) rfl rfl rfl (hu10 hr)) (pv 0) (pe_int) (fun _ _ => rfl)) (pe_tup (pa_cons (pv 3) pa_nil))) pa_nil))) (pa_cons (pv 4) pa_nil))) pa_nil))))) (pss_one (ps_ret (pv 2))))), ?_⟩
    rintro ⟨p, t⟩ O ⟨hd, hp, hsz⟩ hO
    have hd : t.dep ≤ d + 1 := hd
    have hp : p.2.length + t.dep ≤ 100 := hp
    have hsz : t.size ≤ 1000 := hsz
    have hlen := plcs_len (d + 1) p t hd
    let f : Txt × Nat → List Plc := fun u => plcs d (p.1, p.2 ++ [u.2]) u.1
    have hall : (t.kids.zipIdx.flatMap f).length + 1 = t.size := by
      rw [← hlen]
      rfl
    refine st_seq (st_set (ew_lst (aw_of (ea_cons (et_var rfl) ea_nil) ⟨by show 1 ≤ sizeLine; decide, fun l hl => ?_⟩)))
    refine st_seq (st_for (xs := t.kids.zipIdx) (gT := fun u => TupT K [DT K (dn u.2), DT K u.1.toD]) (ws := fun u => [(3, DT K (dn u.2)), (4, DT K u.1.toD)])
      (fun i Γ M => ∃ o3 o4, Γ = [some (DT K (plD p)), some (DT K t.toD), some (VT (.ref l)), o3, o4] ∧ M = [(l, lstC ((p :: (t.kids.zipIdx.take i).flatMap f).map fun q => DT K (plD q)))]) (ix_E (ea_cons (et_call (t.toD, t) rfl (ea_cons (et_var rfl) ea_nil)) ea_nil)) (fun u _ => gt_tup (gts_cons gt_name (gts_cons gt_name gts_nil)) rfl) ⟨none, none, rfl, rfl⟩ ?_ ?_)
    · rintro i u _ _ hu ⟨o3, o4, rfl, rfl⟩
      have hk := zip_mem hu
      have h1 := kid_dep hk
      have h2 := kid_size hk
      have h3 := flat_take f hu
      have h4 := flat_take_len f t.kids.zipIdx (i + 1)
      refine st_ext rfl ⟨0, _, rfl⟩ (ew_of (et_call ((p.1, p.2 ++ [u.2]), u.1) ⟨by show u.1.dep ≤ d; omega, by show (p.2 ++ [u.2]).length + u.1.dep ≤ 100; rw [List.length_append, List.length_singleton]; omega, by show u.1.size ≤ 1000; omega⟩ (ea_cons (et_place rfl rfl (by omega)) (ea_cons (et_var rfl) ea_nil))) ⟨0, _, _, rfl, rfl, ?_, _, _, rfl, ?_⟩)
      · rw [List.length_map, List.length_map, List.length_cons]
        rw [h3, List.length_append] at h4
        have : (f u).length = (plcs d (p.1, p.2 ++ [u.2]) u.1).length := rfl
        refine Nat.le_trans (m := 1000) ?_ (by decide)
        show ((t.kids.zipIdx.take i).flatMap f).length + 1 + (plcs d (p.1, p.2 ++ [u.2]) u.1).length ≤ 1000
        omega
      · rw [h3, ← List.map_append]
        rfl
    · rintro _ _ ⟨o3, o4, rfl, rfl⟩
      refine st_freeze (i := 2) (j := 0) rfl rfl hl (st_ret (ew_of (et_var rfl) (rt_P ?_)))
      rw [List.take_of_length_le (Nat.le_refl _)]
      exact Sub.refl _
/-- all places of a system -/
def plcsOf (ts : List Txt) : List Plc := ts.zipIdx.flatMap fun u => plcs 12 (u.2, []) u.1
theorem plcsOf_len {n many : Nat} {ts : List Txt} (h : SysOk n many ts) : (plcsOf ts).length ≤ 4000 := by
  have : ∀ (l : List Txt) (k : Nat), (∀ t ∈ l, t.dep ≤ 12 ∧ t.size ≤ 1000) → ((l.zipIdx k).flatMap fun u => plcs 12 (u.2, []) u.1).length ≤ l.length * 1000 := by
    intro l
    induction l with
    | nil => exact fun _ _ => Nat.zero_le _
    | cons t l ih =>
      intro k hl
      have h1 := ih (k + 1) fun u hu => hl u (List.mem_cons_of_mem _ hu)
      have h2 := hl t List.mem_cons_self
      have h3 := plcs_len 12 (k, []) t h2.1
      rw [List.zipIdx_cons, List.flatMap_cons, List.length_append, List.length_cons, h3, Nat.add_mul]
      omega
  have := this ts 0 fun t ht => ⟨h.dep t ht, h.size t ht⟩
  have h4 := h.l4
  exact Nat.le_trans this (Nat.mul_le_mul_right 1000 h4)
def sp_places_of (K : PySem.W.Frag) : Sp := spP (fun a : Nat × Nat × List Txt => SysOk a.1 a.2.1 a.2.2) (fun a => [DT K (sysD a.1 a.2.1 a.2.2)]) (fun a => DT K (.list ((plcsOf a.2.2).map plD)))
theorem ok_places_of (T : Tx K mg) : FnOk P w K mg base CX0 15 aplaces_of (fdAt K aplaces_of) P_places_of (sp_places_of K) := by
  have ih := ok_places_from (P := P) (w := w) (base := base) T 12
  refine fn_ok T.d_places_of sc_places_of (fun _ => rfl) fun cdv A outer s H E hr => ⟨_, (pss_cons (ps_set (i := 1) sc_places_of.nd rfl (by first | exact Or.inl rfl | exact Or.inr rfl) (pe_lst pa_nil)) (pss_cons (ps_for PassesOwn.never rfl (pi_enumT rfl T.f_enumerate (pa_cons (pe_ix (ixK (P := P) (w := w) (K := K) rfl rfl rfl (hu10 hr)) (pv 0) (pe_int) (fun _ _ => rfl)) pa_nil)) (tupK (K := K) (n := 2) rfl rfl (pgs_cons (pg_name (i := 2) sc_places_of.nd rfl (by first | exact Or.inl rfl | exact Or.inr rfl)) (pgs_cons (pg_name (i := 3) sc_places_of.nd rfl (by first | exact Or.inl rfl | exact Or.inr rfl)) pgs_nil))) (pss_one (ps_expr (pe_bm PySem.F.plainAttrs_list PySem.F.slot_list_extend PySem.F.type_list_extend mt_extend (pv 1) (pa_cons (pe_call ih (hr.mono (by omega)) rfl T.g_places_from T.d_places_from.kp T.b_places_from .nil pass0 (pa_cons (pe_tup (pa_cons (pv 2) (pa_cons (pe_tup pa_nil) pa_nil))) (pa_cons (pv 3) pa_nil))) pa_nil))))) (pss_one (ps_ret (pv 1))))), ?_⟩
  rintro ⟨n, many, ts⟩ O hs hO
  have hs : SysOk n many ts := hs
  have hlen := plcsOf_len hs
  let f : Txt × Nat → List Plc := fun u => plcs 12 (u.2, []) u.1
  refine st_seq (st_set (ew_own fun l hl => ?_))
  refine st_seq (st_for (xs := ts.zipIdx) (gT := fun u => TupT K [DT K (dn u.2), DT K u.1.toD]) (ws := fun u => [(2, DT K (dn u.2)), (3, DT K u.1.toD)])
    (fun i Γ M => ∃ o2 o3, Γ = [some (DT K (sysD n many ts)), some (VT (.ref l)), o2, o3] ∧ M = [(l, lstC (((ts.zipIdx.take i).flatMap f).map fun q => DT K (plD q)))]) (ix_E (ea_cons (et_item rfl rfl) ea_nil)) (fun u _ => gt_tup (gts_cons gt_name (gts_cons gt_name gts_nil)) rfl) ⟨none, none, rfl, rfl⟩ ?_ ?_)
  · rintro i u _ _ hu ⟨o2, o3, rfl, rfl⟩
    have hk := zip_mem hu
    have h12 := hs.dep _ hk
    have h3 := flat_take f hu
    have h4 := flat_take_len f ts.zipIdx (i + 1)
    refine st_ext rfl ⟨0, _, rfl⟩ (ew_of (et_call ((u.2, []), u.1) ⟨h12, by show 0 + u.1.dep ≤ 100; omega, hs.size _ hk⟩ (ea_cons (et_tupD (K := K) (ead_cons (et_var rfl) (ead_cons (et_tupD ead_nil (by show 0 ≤ sizeLine; decide)) ead_nil)) (by show 2 ≤ sizeLine; decide)) (ea_cons (et_var rfl) ea_nil))) ⟨0, _, _, rfl, rfl, ?_, _, _, rfl, ?_⟩)
    · rw [List.length_map, List.length_map]
      rw [h3, List.length_append] at h4
      have e1 : (f u).length = (plcs 12 (u.2, []) u.1).length := rfl
      have e2 : (ts.zipIdx.flatMap f).length ≤ 4000 := hlen
      refine Nat.le_trans (m := 4000) ?_ (by decide)
      show ((ts.zipIdx.take i).flatMap f).length + (plcs 12 (u.2, []) u.1).length ≤ 4000
      omega
    · rw [h3, List.map_append]
      rfl
  · rintro _ _ ⟨o2, o3, rfl, rfl⟩
    refine st_freeze (i := 1) (j := 0) rfl rfl hl (st_ret (ew_of (et_var rfl) (rt_P ?_)))
    rw [List.take_of_length_le (Nat.le_refl _), ← lt_dt, List.map_map]
    exact Sub.refl _
/-- at most a hundred places, none too deep -/
def smallB (ts : List Txt) : Bool := decide ((plcsOf ts).length ≤ 100) && (plcsOf ts).all fun p => decide (p.2.length < 6)
def sp_is_small (K : PySem.W.Frag) : Sp := spP (fun a : Nat × Nat × List Txt => SysOk a.1 a.2.1 a.2.2) (fun a => [DT K (sysD a.1 a.2.1 a.2.2)]) (fun a => DT K (.bool (smallB a.2.2)))
theorem ok_is_small (T : Tx K mg) : FnOk P w K mg base CX0 16 ais_small (fdAt K ais_small) P_is_small (sp_is_small K) := by
  refine fn_ok T.d_is_small sc_is_small (fun _ => rfl) fun cdv A outer s H E hr => ⟨_, (pss_cons (ps_set (i := 1) sc_is_small.nd rfl (by first | exact Or.inl rfl | exact Or.inr rfl) (pe_call (ok_places_of (P := P) (w := w) T) (hr.mono (by omega)) rfl T.g_places_of T.d_places_of.kp T.b_places_of .nil pass0 (pa_cons (pv 0) pa_nil))) (pss_one (ps_ret (pe_and (pe_cmpR op_le (pe_callB (lenK (K := K) rfl) rfl T.f_len bt_len (pa_cons (pv 1) pa_nil)) (pe_glob (v := .int 100) rfl T.i_MOST_PLACES.choose_spec ⟨_, rfl⟩) (nomark _)) (pe_one (pe_callB (allK (K := K) rfl rfl) rfl T.f_all bt_all (pa_cons (pe_lc (own := [("k", 2), ("path", 3)]) (tt := tYes) rfl sc_is_small.nd (seqK (K := K) rfl (pv 1)) (blkOk_by (N := N_is_small) (sc := defScope sis_small) (by decide +kernel)) (fun _ _ _ _ _ => (tupK (K := K) (n := 2) rfl rfl (pgs_cons (pg_name (i := 2) sc_is_small.nd rfl (by first | exact Or.inl rfl | exact Or.inr rfl)) (pgs_cons (pg_name (i := 3) sc_is_small.nd rfl (by first | exact Or.inl rfl | exact Or.inr rfl)) pgs_nil)))) (fun _ _ _ _ _ => pts_nil) (fun _ _ _ _ _ => (pe_cmpR op_lt (pe_callB (lenK (K := K) rfl) rfl T.f_len bt_len (pa_cons (pv 3) pa_nil)) (pe_glob (v := .int 6) rfl T.i_MOST_DEEP.choose_spec ⟨_, rfl⟩) (nomark _)))) pa_nil))))))), ?_⟩
  rintro ⟨n, many, ts⟩ O hs hO
  have hs : SysOk n many ts := hs
  have hlen := plcsOf_len hs
  refine st_seq (st_set (ew_of (et_call (ok := fun a : Nat × Nat × List Txt => SysOk a.1 a.2.1 a.2.2) (n, many, ts) hs (ea_cons (et_var rfl) ea_nil)) ?_))
  refine st_ret (ew_of (et_and (a := decide ((plcsOf ts).length ≤ 100)) (b := (plcsOf ts).all fun p => decide (p.2.length < 6)) (et_eq (et_op (et_cb (ea_cons (et_var rfl) ea_nil) (cx_lenLD (ds := (plcsOf ts).map plD))) (et_int (K := K)) rx_B0) ?_) fun c => et_eq (et_cb (ea_cons (lcB (f := fun p : Plc => decide (p.2.length < 6)) (ix_sL (xs := plcsOf ts) (g := plD) (et_var rfl)) (fun p _ => gt_tupD (gts_cons gt_name (gts_cons gt_name gts_nil)) rfl) (fun _ => rfl)
    (fun p _ => et_eq (et_op (et_cb (ea_cons (et_var rfl) ea_nil) (cx_lenTD (ds := p.2.map dn))) (et_int (K := K)) rx_B0) ?_) (sz100 ?_)) ea_nil) cx_all) ?_) (rt_P (Sub.refl _)))
  · rw [List.length_map]
    congr 2
    by_cases h : (plcsOf ts).length ≤ 100
    · rw [decide_eq_true h, decide_eq_true (by omega)]
    · rw [decide_eq_false h, decide_eq_false (by omega)]
  · rw [List.length_map]
    congr 2
    by_cases h : p.2.length < 6
    · rw [decide_eq_true h, decide_eq_true (by omega)]
    · rw [decide_eq_false h, decide_eq_false (by omega)]
  · have := of_decide_eq_true c
    omega
  · rw [all_id]
def sp_is_system (K : PySem.W.Frag) : Sp := spP (fun a : Nat × Nat × List Txt => SysOk a.1 a.2.1 a.2.2) (fun a => [DT K (sysD a.1 a.2.1 a.2.2)]) (fun a => DT K (.bool (smallB a.2.2)))
theorem ok_is_system (T : Tx K mg) : FnOk P w K mg base CX0 18 ais_system (fdAt K ais_system) P_is_system (sp_is_system K) := by
  refine fn_ok T.d_is_system sc_is_system (fun _ => rfl) fun cdv A outer s H E hr => ⟨_, (pss_one (ps_ret (pe_and (pe_call (ok_is_around (P := P) (w := w) T) (hr.mono (by omega)) rfl T.g_is_around T.d_is_around.kp T.b_is_around .nil pass0 (pa_cons (pv 0) pa_nil)) (pe_and (pe_cmpR op_isN (pe_call (ok_first_wrong (P := P) (w := w) T) (hr.mono (by omega)) rfl T.g_first_wrong T.d_first_wrong.kp T.b_first_wrong .nil pass0 (pa_cons (pv 0) pa_nil)) (pe_non) (nomark _)) (pe_one (pe_call (ok_is_small (P := P) (w := w) T) (hr.mono (by omega)) rfl T.g_is_small T.d_is_small.kp T.b_is_small .nil pass0 (pa_cons (pv 0) pa_nil))))))), ?_⟩
  rintro ⟨n, many, ts⟩ O hs hO
  have hs : SysOk n many ts := hs
  refine st_ret (ew_of (et_and (a := true) (et_call (ok := fun a : Nat × Nat × List Txt => N3 a.1 ∧ a.2.1 ≤ 3 ∧ 1 ≤ a.2.2.length ∧ a.2.2.length ≤ 4) (n, many, ts) ⟨hs.n3, hs.m3, hs.l1, hs.l4⟩ (ea_cons (et_var rfl) ea_nil)) fun _ => et_and (a := true) (et_op (et_call (ok := fun a : Nat × Nat × List Txt => SysOk a.1 a.2.1 a.2.2) (n, many, ts) hs (ea_cons (et_var rfl) ea_nil)) (et_non (K := K)) (rx_is (T := DT K .none) (b := true) fun I v h => by rw [dt_non h]; rfl))
    fun _ => et_call (ok := fun a : Nat × Nat × List Txt => SysOk a.1 a.2.1 a.2.2) (n, many, ts) hs (ea_cons (et_var rfl) ea_nil)) (rt_P (Sub.refl _)))
/-- parts: contracts from n to n states -/
abbrev PartsOk (n many : Nat) (ps : List (List Row)) : Prop := ps.length = many ∧ many ≤ 3 ∧ ∀ p ∈ ps, p.length = n
abbrev partsT (K : PySem.W.Frag) (n : Nat) (ps : List (List Row)) : Ty := LstT (ps.map (ConT K n))
def sp_are_parts_of (K : PySem.W.Frag) : Sp := spP (fun a : Nat × Nat × List Txt × List (List Row) => PartsOk a.1 a.2.1 a.2.2.2) (fun a => [DT K (sysD a.1 a.2.1 a.2.2.1), partsT K a.1 a.2.2.2]) (fun _ => DT K (.bool true))
theorem ok_are_parts_of (T : Tx K mg) : FnOk P w K mg base CX0 3 aare_parts_of (fdAt K aare_parts_of) P_are_parts_of (sp_are_parts_of K) := by
  refine fn_ok T.d_are_parts_of sc_are_parts_of (fun _ => rfl) fun cdv A outer s H E hr => ⟨_, (pss_cons (ps_if (PW.pt (pw_or (pt_not (pt_val (pe_callB (isiK (K := K) rfl) rfl T.f_isinstance bt_isinstance (pa_cons (pv 1) (pa_cons (pe_bltn (v := .ty "list") rfl T.f_list bt_list rfl) pa_nil))))) (pw_or1 (pt_cmpR (neK (K := K) rfl (hu64 hr)) (pe_callB (lenK (K := K) rfl) rfl T.f_len bt_len (pa_cons (pv 1) pa_nil)) (pe_ix (ixK (P := P) (w := w) (K := K) rfl rfl rfl (hu10 hr)) (pv 0) (pe_int) (fun _ _ => rfl)) (nomark _))))) (pss_one (ps_ret (pe_bl))) pss_nil) (pss_one (ps_ret (pe_callB (allK (K := K) rfl rfl) rfl T.f_all bt_all (pa_cons (pe_lc (own := [("one", 2)]) (tt := tYes) rfl sc_are_parts_of.nd (seqK (K := K) rfl (pv 1)) (blkOk_by (N := N_are_parts_of) (sc := defScope sare_parts_of) (by decide +kernel)) (fun _ _ _ _ _ => (pg_name (i := 2) sc_are_parts_of.nd rfl (by first | exact Or.inl rfl | exact Or.inr rfl))) (fun _ _ _ _ _ => pts_nil) (fun _ _ _ _ _ => (pe_and (pe_callB (isiK (K := K) rfl) rfl T.f_isinstance bt_isinstance (pa_cons (pv 2) (pa_cons (pe_glob (v := .ref 478) rfl T.g_Contract rfl) pa_nil))) (pe_one (pe_chain (eqK (K := K) rfl (hu64 hr)) (eqK (K := K) rfl (hu64 hr)) (pe_prop (pv 2) T.c_Contract T.p_Contract_states.choose_spec (ok_Contract_states (P := P) (w := w) T) (hr.mono (by omega)) T.b_Contract_states .nil pass0 rfl) (pe_prop (pv 2) T.c_Contract T.p_Contract_ends.choose_spec (ok_Contract_ends (P := P) (w := w) T) (hr.mono (by omega)) T.b_Contract_ends .nil pass0 rfl) (pe_ix (ixK (P := P) (w := w) (K := K) rfl rfl rfl (hu10 hr)) (pv 0) (pe_int) (fun _ _ => rfl))))))) pa_nil))))), ?_⟩
  rintro ⟨n, many, ts, ps⟩ O ⟨h1, h2, h3⟩ hO
  have h1 : ps.length = many := h1
  have h2 : many ≤ 3 := h2
  have h3 : ∀ p ∈ ps, p.length = n := h3
  refine st_seq (st_if (b := false) (bt_eq (bt_or (bt_not (bt_B (et_cb (ea_cons (et_var rfl) (ea_cons et_v ea_nil)) (cx_isiL kb_ll)))) fun _ => bt_test (et_op (et_cb (ea_cons (et_var rfl) ea_nil) cx_lenL) (et_item rfl rfl) (rx_ne rfl rfl))) ?_) (fun h => nomatch h) fun _ => st_next ?_)
  · rw [List.length_map, h1, eqv_nn]
    rfl
  refine st_ret (ew_of (et_cb (ea_cons (lcB (xs := ps) (f := fun _ => true) (ix_sLT (et_var rfl)) (fun p _ => gt_name) (fun _ => rfl)
    (fun p hp => et_and (a := true) (et_cb (ea_cons (et_var rfl) (ea_cons et_v ea_nil)) (cx_isiO T.c_Contract T.x_Contract)) fun _ => et_eq (et_chain (et_prop (ok := fun _ : Nat × List Row => True) (n, p) trivial rfl (et_var rfl)) (et_prop (ok := fun _ : Nat × List Row => True) (n, p) trivial rfl (et_var rfl)) (et_item rfl rfl) (rx_eq rfl rfl) (rx_eq rfl rfl)) ?_) (sz100 (by omega))) ea_nil) cx_all) (rt_P ?_))
  · show DT K (.bool (PyData.eqv (dn p.length) (dn n) && PyData.eqv (dn n) (dn n))) = _
    rw [h3 p hp, eqv_nn]
    rfl
  · rw [all_true]
    exact Sub.refl _
def sp_need_system (K : PySem.W.Frag) : Sp := spP (fun a : Nat × Nat × List Txt => SysOk a.1 a.2.1 a.2.2 ∧ smallB a.2.2 = true) (fun a => [DT K (sysD a.1 a.2.1 a.2.2)]) (fun _ => DT K .none)
theorem ok_need_system (T : Tx K mg) : FnOk P w K mg base CX0 18 aneed_system (fdAt K aneed_system) P_need_system (sp_need_system K) := by
  refine fn_ok T.d_need_system sc_need_system (fun _ => rfl) fun cdv A outer s H E hr => ⟨_, (pss_cons (ps_if (pt_not (pt_val (pe_call (ok_is_around (P := P) (w := w) T) (hr.mono (by omega)) rfl T.g_is_around T.d_is_around.kp T.b_is_around .nil pass0 (pa_cons (pv 0) pa_nil)))) (pss_one (ps_never)) pss_nil) (pss_cons (ps_set (i := 1) sc_need_system.nd rfl (by first | exact Or.inl rfl | exact Or.inr rfl) (pe_call (ok_first_wrong (P := P) (w := w) T) (hr.mono (by omega)) rfl T.g_first_wrong T.d_first_wrong.kp T.b_first_wrong .nil pass0 (pa_cons (pv 0) pa_nil))) (pss_one (ps_if (PW.pt (pw_or (pt_cmpR op_notN (pv 1) (pe_non) (nomark _)) (pw_or1 (pt_not (pt_val (pe_call (ok_is_small (P := P) (w := w) T) (hr.mono (by omega)) rfl T.g_is_small T.d_is_small.kp T.b_is_small .nil pass0 (pa_cons (pv 0) pa_nil))))))) (pss_one (ps_never)) pss_nil)))), ?_⟩
  rintro ⟨n, many, ts⟩ O ⟨hs, hb⟩ hO
  have hs : SysOk n many ts := hs
  have hb : smallB ts = true := hb
  refine st_seq (st_if (b := false) (bt_eq (bt_not (bt_B (et_call (ok := fun a : Nat × Nat × List Txt => N3 a.1 ∧ a.2.1 ≤ 3 ∧ 1 ≤ a.2.2.length ∧ a.2.2.length ≤ 4) (n, many, ts) ⟨hs.n3, hs.m3, hs.l1, hs.l4⟩ (ea_cons (et_var rfl) ea_nil)))) rfl) (fun h => nomatch h) fun _ => st_next ?_)
  refine st_seq (st_set (ew_of (et_call (ok := fun a : Nat × Nat × List Txt => SysOk a.1 a.2.1 a.2.2) (n, many, ts) hs (ea_cons (et_var rfl) ea_nil)) ?_))
  exact st_if (b := false) (bt_eq (bt_or (bt_test (et_op (et_var rfl) (et_non (K := K)) (rx_isnt (T := DT K .none) (b := true) fun I v h => by rw [dt_non h]; rfl))) fun _ => bt_not (bt_B (et_call (ok := fun a : Nat × Nat × List Txt => SysOk a.1 a.2.1 a.2.2) (n, many, ts) hs (ea_cons (et_var rfl) ea_nil)))) (by show (!true || !smallB ts) = false; rw [hb]; rfl)) (fun h => nomatch h) fun _ => st_next (nx_P .non)
def sp_need_parts (K : PySem.W.Frag) : Sp := spP (fun a : Nat × Nat × List Txt × List (List Row) => (SysOk a.1 a.2.1 a.2.2.1 ∧ smallB a.2.2.1 = true) ∧ PartsOk a.1 a.2.1 a.2.2.2) (fun a => [DT K (sysD a.1 a.2.1 a.2.2.1), partsT K a.1 a.2.2.2]) (fun _ => DT K .none)
theorem ok_need_parts (T : Tx K mg) : FnOk P w K mg base CX0 19 aneed_parts (fdAt K aneed_parts) P_need_parts (sp_need_parts K) := by
  refine fn_ok T.d_need_parts sc_need_parts (fun _ => rfl) fun cdv A outer s H E hr => ⟨_, (pss_cons (ps_expr (pe_call (ok_need_system (P := P) (w := w) T) (hr.mono (by omega)) rfl T.g_need_system T.d_need_system.kp T.b_need_system .nil pass0 (pa_cons (pv 0) pa_nil))) (pss_one (ps_if (pt_not (pt_val (pe_call (ok_are_parts_of (P := P) (w := w) T) (hr.mono (by omega)) rfl T.g_are_parts_of T.d_are_parts_of.kp T.b_are_parts_of .nil pass0 (pa_cons (pv 0) (pa_cons (pv 1) pa_nil))))) (pss_one (ps_never)) pss_nil))), ?_⟩
  rintro ⟨n, many, ts, ps⟩ O ⟨hs, hp⟩ hO
  refine st_seq (st_drop (ew_of (et_call (ok := fun a : Nat × Nat × List Txt => SysOk a.1 a.2.1 a.2.2 ∧ smallB a.2.2 = true) (n, many, ts) hs (ea_cons (et_var rfl) ea_nil)) ?_))
  exact st_if (b := false) (bt_eq (bt_not (bt_B (et_call (ok := fun a : Nat × Nat × List Txt × List (List Row) => PartsOk a.1 a.2.1 a.2.2.2) (n, many, ts, ps) hp (ea_cons (et_var rfl) (ea_cons (et_var rfl) ea_nil))))) rfl) (fun h => nomatch h) fun _ => st_next (nx_P .non)
def sp_need_name (K : PySem.W.Frag) : Sp := spP (fun a : Nat × Nat × List Txt × Nat => a.2.2.2 < a.2.2.1.length) (fun a => [DT K (sysD a.1 a.2.1 a.2.2.1), DT K (dn a.2.2.2)]) (fun _ => DT K .none)
theorem ok_need_name (T : Tx K mg) : FnOk P w K mg base CX0 2 aneed_name (fdAt K aneed_name) P_need_name (sp_need_name K) := by
  refine fn_ok T.d_need_name sc_need_name (fun _ => rfl) fun cdv A outer s H E hr => ⟨_, (pss_one (ps_if (pt_not (pt_val (pe_call (ok_is_integer (P := P) (w := w) T) (hr.mono (by omega)) rfl T.g_is_integer T.d_is_integer.kp T.b_is_integer .nil pass0 (pa_cons (pv 1) (pa_cons (pe_int) (pa_cons (pe_op op_sub (pe_callB (lenK (K := K) rfl) rfl T.f_len bt_len (pa_cons (pe_ix (ixK (P := P) (w := w) (K := K) rfl rfl rfl (hu10 hr)) (pv 0) (pe_int) (fun _ _ => rfl)) pa_nil)) (pe_int)) pa_nil)))))) (pss_one (ps_never)) pss_nil)), ?_⟩
  rintro ⟨n, many, ts, k⟩ O hk hO
  have hk : k < ts.length := hk
  refine st_if (b := false) (bt_eq (bt_not (bt_B (et_isint (k : Int) 0 ((ts.length : Int) - 1) (by omega) (by omega) (ea_cons (et_var rfl) (ea_cons et_int (ea_cons (et_op (et_cb (ea_cons (et_item rfl rfl) ea_nil) (et_eq_cx (cx_lenTD (ds := ts.map Txt.toD)) (by rw [List.length_map]))) (et_int (K := K)) rx_subI) ea_nil)))))) rfl) (fun h => nomatch h) fun _ => st_next (nx_P .non)
def sp_need_word (K : PySem.W.Frag) : Sp := spP (fun _ : Bool => True) (fun a => [DT K (.str (sideT a))]) (fun _ => DT K .none)
theorem ok_need_word (T : Tx K mg) : FnOk P w K mg base CX0 1 aneed_word (fdAt K aneed_word) P_need_word (sp_need_word K) := by
  refine fn_ok T.d_need_word sc_need_word (fun _ => rfl) fun cdv A outer s H E hr => ⟨_, (pss_one (ps_if (PW.pt (pw_or (pt_not (pt_val (pe_callB (isiK (K := K) rfl) rfl T.f_isinstance bt_isinstance (pa_cons (pv 0) (pa_cons (pe_bltn (v := .ty "str") rfl T.f_str bt_str rfl) pa_nil))))) (pw_or1 (pt_cmpR (niK (K := K) rfl (hu65 hr)) (pv 0) (pe_glob (v := .ref T.t_SIDES.choose) rfl T.t_SIDES.choose_spec.1 rfl) (by with_unfolding_all rfl))))) (pss_one (ps_never)) pss_nil)), ?_⟩
  rintro we O - hO
  exact st_if (b := false) (bt_eq (bt_or (bt_not (bt_B (et_cb (ea_cons (et_var rfl) (ea_cons et_v ea_nil)) (cx_isi (d := .str (sideT we)) kb_ss)))) fun _ => bt_test (et_op (et_var rfl) (et_sides T) (rx_niT (d := .str (sideT we)) rfl rfl))) (by cases we <;> decide +kernel)) (fun h => nomatch h) fun _ => st_next (nx_P .non)
end
end Tw
end
/-! W5 -/
section
set_option Elab.async false
set_option linter.all false
set_option autoImplicit false
set_option maxRecDepth 100000
set_option maxHeartbeats 4000000
/-! The walk: tables. -/
namespace Tw
open PySem PySem.Spec PyProof.Rows L2
section
variable {P : Program} {w : World} {K : PySem.W.Frag} {mg : PySem.Str → Option Value} {base : Heap}
/-- {x: e for x in all_sets(n)} -/
theorem et_dct {Γ : TEnv} {M : Mem} {i j : Nat} {tv : TE} {n : Nat} {f : Row} (hn : N3 n) (hj : Γ[j]? = some (some (DT K (dn n)))) (hv : ∀ x ∈ allS n, ET tv (setsT (wipeT Γ [i]) [(i, DT K (setD x))]) M (DT K (.bool (f x)))) (hi : Nat.blt i Γ.length = true) :
    ET (tKc P w K (iSeq K (tCall (sp_all_sets K) [] E0 (tCons (tVar j) tNil))) (gName i) (tVar i) tv [i]) Γ M (dctT P w K n f) :=
  lcK (xs := allS n) (gT := fun x => DT K (setD x)) (ws := fun x => [(i, DT K (setD x))]) (kf := fun x => x.map numK) (vf := fun x => DT K (.bool (f x))) (ix_sL (et_call (ok := fun n : Nat => N3 n) n hn (ea_cons (et_var hj) ea_nil))) (fun x _ => gt_name) (fun _ => rfl)
    (fun x hx => by
      rw [show (NestedKey.tup (x.map numK) : NK).data = setD x from keyS_data x]
      exact et_var (by
        show ((Γ.set i none).set i (some (DT K (setD x))))[i]? = _
        rw [List.getElem?_set_self (by rw [List.length_set]; exact Nat.blt_eq.mp hi)]))
    hv (fun x _ => Nat.le_trans (keyS_depth x) (by decide)) (nodup_map (kf := keyS) (fun _ _ => keyS_inj) (allS_nodup n hn)) (sz100 (by have := allS_le8 n hn; omega))
def sp_flat_table (P : Program) (w : World) (K : PySem.W.Frag) : Sp := spP (fun a : Nat × Bool => N3 a.1) (fun a => [DT K (dn a.1), DT K (.bool a.2)]) (fun a => tabT P w K a.1 fun _ _ => a.2)
theorem ok_flat_table (T : Tx K mg) : FnOk P w K mg base CX0 4 aflat_table (fdAt K aflat_table) P_flat_table (sp_flat_table P w K) := by
  refine fn_ok T.d_flat_table sc_flat_table (fun _ => rfl) fun cdv A outer s H E hr => ⟨_, (pss_one (ps_ret (pe_lc (own := [("s", 3)]) (tt := tYes) rfl sc_flat_table.nd (pi_range1 rfl T.f_range (pa_cons (pv 0) pa_nil)) (blkOk_by (N := N_flat_table) (sc := defScope sflat_table) (by decide +kernel)) (fun _ _ _ _ _ => (pg_name (i := 3) sc_flat_table.nd rfl (by first | exact Or.inl rfl | exact Or.inr rfl))) (fun _ _ _ _ _ => pts_nil) (fun _ _ _ _ _ => (kcK (P := P) (w := w) (K := K) (own := [("x", 2)]) rfl rfl rfl (hu10 hr) rfl sc_flat_table.nd (seqK (K := K) rfl (pe_call (ok_all_sets (P := P) (w := w) T) (hr.mono (by omega)) rfl T.g_all_sets T.d_all_sets.kp T.b_all_sets .nil pass0 (pa_cons (pv 0) pa_nil))) (blkOk_by (by kernel_rfl)) (fun _ _ _ _ _ => (pg_name (i := 2) sc_flat_table.nd rfl (by first | exact Or.inl rfl | exact Or.inr rfl))) (fun _ _ _ _ _ => (pv 2)) (fun _ _ _ _ _ => (pv 1))))))), ?_⟩
  rintro ⟨n, b⟩ O hn hO
  have hn : N3 n := hn
  exact st_ret (ew_of (lcT (f := fun s => dctT P w K n fun _ => b) (ix_R (ea_cons (et_var rfl) ea_nil) (by show (n : Int) < _; omega)) (fun s _ => gt_name) (fun _ => rfl) (fun s _ => et_dct hn rfl (fun x _ => et_var rfl) rfl) (sz100 (by rw [List.length_range]; show n < 1000; omega))) (rt_P (Sub.refl _)))
def seqD (b : Bool) (ds : List PyData) : PyData := if b then .list ds else .tuple ds
theorem ix_sq {Γ : TEnv} {M : Mem} {α : Type} {xs : List α} {g : α → PyData} {tl : TE} {b : Bool} (h : ET tl Γ M (DT K (seqD b (xs.map g)))) : IX (iSeq K tl) Γ M xs (fun a => DT K (g a)) := by
  cases b with
  | true => exact ix_sL h
  | false => exact ix_sT h
/-- table[s] for each state -/
theorem map_range {α β : Type} (l : List α) (g : α → β) (d : α) : l.map g = (List.range l.length).map fun s => g (l.getD s d) := by
  apply List.ext_getElem?
  intro i
  rw [List.getElem?_map, List.getElem?_map]
  by_cases h : i < l.length
  · rw [List.getElem?_eq_getElem h, List.getElem?_range h]
    show some (g l[i]) = some (g (l.getD i d))
    rw [List.getD_eq_getElem?_getD, List.getElem?_eq_getElem h]
    rfl
  · rw [List.getElem?_eq_none (Nat.le_of_not_lt h), List.getElem?_eq_none (by rw [List.length_range]; exact Nat.le_of_not_lt h)]
    rfl
def sp_go_table (P : Program) (w : World) (K : PySem.W.Frag) : Sp := spP (fun a : Nat × List Nat × Bool => N3 a.1 ∧ a.2.1.length = a.1) (fun a => [DT K (dn a.1), DT K (seqD a.2.2 (a.2.1.map dn))]) (fun a => tabT P w K a.1 fun s x => x.contains (a.2.1.getD s 0))
theorem rx_inN {M : Mem} (t : Nat) (x : List Nat) : RX (rInA K) M (DT K (dn t)) (DT K (setD x)) (DT K (.bool (x.contains t))) := by
  have h := rx_inT (K := K) (M := M) (d := dn t) (ds := x.map dn) rfl (flat_ns x)
  rw [any_ns] at h
  exact h
theorem ok_go_table (T : Tx K mg) : FnOk P w K mg base CX0 4 ago_table (fdAt K ago_table) P_go_table (sp_go_table P w K) := by
  refine fn_ok T.d_go_table sc_go_table (fun _ => rfl) fun cdv A outer s H E hr => ⟨_, (pss_one (ps_ret (pe_lc (own := [("t", 3)]) (tt := tYes) rfl sc_go_table.nd (seqK (K := K) rfl (pv 1)) (blkOk_by (N := N_go_table) (sc := defScope sgo_table) (by decide +kernel)) (fun _ _ _ _ _ => (pg_name (i := 3) sc_go_table.nd rfl (by first | exact Or.inl rfl | exact Or.inr rfl))) (fun _ _ _ _ _ => pts_nil) (fun _ _ _ _ _ => (kcK (P := P) (w := w) (K := K) (own := [("x", 2)]) rfl rfl rfl (hu10 hr) rfl sc_go_table.nd (seqK (K := K) rfl (pe_call (ok_all_sets (P := P) (w := w) T) (hr.mono (by omega)) rfl T.g_all_sets T.d_all_sets.kp T.b_all_sets .nil pass0 (pa_cons (pv 0) pa_nil))) (blkOk_by (by kernel_rfl)) (fun _ _ _ _ _ => (pg_name (i := 2) sc_go_table.nd rfl (by first | exact Or.inl rfl | exact Or.inr rfl))) (fun _ _ _ _ _ => (pv 2)) (fun _ _ _ _ _ => (pe_cmpR (inK (K := K) rfl (hu65 hr)) (pv 3) (pv 2) (by with_unfolding_all rfl)))))))), ?_⟩
  rintro ⟨n, ts, b⟩ O ⟨hn, hl⟩ hO
  have hn : N3 n := hn
  have hl : ts.length = n := hl
  refine st_ret (ew_of (lcT (f := fun t => dctT P w K n fun x => x.contains t) (ix_sq (xs := ts) (g := dn) (et_var rfl)) (fun s _ => gt_name) (fun _ => rfl) (fun t _ => et_dct hn rfl (fun x _ => et_op (et_var rfl) (et_var rfl) (rx_inN t x)) rfl) (sz100 (by omega))) (rt_P ?_))
  rw [map_range ts _ 0, hl]
  exact Sub.refl _
def sp_contract_table (P : Program) (w : World) (K : PySem.W.Frag) : Sp := spP (fun a : Nat × List Row => N3 a.1 ∧ a.2.length = a.1) (fun a => [DT K (dn a.1), ConT K a.1 a.2]) (fun a => tabT P w K a.1 fun s => a.2.getD s fun _ => false)
theorem ok_contract_table (T : Tx K mg) : FnOk P w K mg base CX0 4 acontract_table (fdAt K acontract_table) P_contract_table (sp_contract_table P w K) := by
  refine fn_ok T.d_contract_table sc_contract_table (fun _ => rfl) fun cdv A outer s H E hr => ⟨_, (pss_one (ps_ret (pe_lc (own := [("s", 3)]) (tt := tYes) rfl sc_contract_table.nd (pi_range1 rfl T.f_range (pa_cons (pv 0) pa_nil)) (blkOk_by (N := N_contract_table) (sc := defScope scontract_table) (by decide +kernel)) (fun _ _ _ _ _ => (pg_name (i := 3) sc_contract_table.nd rfl (by first | exact Or.inl rfl | exact Or.inr rfl))) (fun _ _ _ _ _ => pts_nil) (fun _ _ _ _ _ => (kcK (P := P) (w := w) (K := K) (own := [("x", 2)]) rfl rfl rfl (hu10 hr) rfl sc_contract_table.nd (seqK (K := K) rfl (pe_call (ok_all_sets (P := P) (w := w) T) (hr.mono (by omega)) rfl T.g_all_sets T.d_all_sets.kp T.b_all_sets .nil pass0 (pa_cons (pv 0) pa_nil))) (blkOk_by (by kernel_rfl)) (fun _ _ _ _ _ => (pg_name (i := 2) sc_contract_table.nd rfl (by first | exact Or.inl rfl | exact Or.inr rfl))) (fun _ _ _ _ _ => (pv 2)) (fun _ _ _ _ _ => (pe_cmpR (op_ownIn T.m_Contract___contains__.at_ T.m_Contract___contains__.fn (ok_Contract___contains__ (P := P) (w := w) T) (hr.mono (by omega)) T.b_Contract___contains__) (pe_tup (pa_cons (pv 3) (pa_cons (pv 2) pa_nil))) (pv 1) (by with_unfolding_all rfl)))))))), ?_⟩
  rintro ⟨n, Fs⟩ O ⟨hn, hl⟩ hO
  have hn : N3 n := hn
  have hl : Fs.length = n := hl
  refine st_ret (ew_of (lcT (f := fun s => dctT P w K n (Fs.getD s fun _ => false)) (ix_R (ea_cons (et_var rfl) ea_nil) (by show (n : Int) < _; omega)) (fun s _ => gt_name) (fun _ => rfl) (fun s hs => et_dct hn rfl (fun x hx => et_op (et_tupD (K := K) (ead_cons (et_var rfl) (ead_cons (et_var rfl) ead_nil)) (by show 2 ≤ sizeLine; decide)) (et_var rfl) (rx_ownIn (ok := fun a : Nat × List Row × Nat × List Nat => N3 a.1 ∧ a.2.2.1 < a.2.1.length ∧ a.2.2.2 ∈ allS a.1) (n, Fs, s, x) ⟨hn, by show s < Fs.length; rw [hl]; exact List.mem_range.mp hs, hx⟩ rfl rfl)) rfl) (sz100 (by rw [List.length_range]; show n < 1000; omega))) (rt_P (Sub.refl _)))
theorem rx_dct {M : Mem} {n : Nat} {f : Row} {x : List Nat} (hx : x ∈ allS n) : RX (rIxA P w K) M (dctT P w K n f) (DT K (setD x)) (DT K (.bool (f x))) := by
  have h := rx_ixK (P := P) (w := w) (K := K) (M := M) (es := (allS n).map fun x => (keyS x, DT K (.bool (f x)))) (k := keyS x) (T := DT K (.bool (f x))) (look_map (kf := keyS) (f := fun x => DT K (.bool (f x))) (fun _ _ => keyS_inj) hx) (Nat.le_trans (keyS_depth x) (by decide)) rfl
  rw [keyS_data] at h
  exact h
theorem rx_tab {M : Mem} {n : Nat} {F : Nat → Row} {s : Nat} (hs : s < n) : RX (rIxA P w K) M (tabT P w K n F) (DT K (dn s)) (dctT P w K n (F s)) := rx_ixL (atI_nat (by rw [List.getElem?_map, List.getElem?_range hs]; rfl))
def sp_behind (P : Program) (w : World) (K : PySem.W.Frag) : Sp := spP (fun a : Nat × (Nat → Row) × (Nat → Row) => N3 a.1) (fun a => [DT K (dn a.1), tabT P w K a.1 a.2.1, tabT P w K a.1 a.2.2]) (fun a => tabT P w K a.1 fun s x => a.2.1 s (pre a.1 a.2.2 x))
theorem ok_behind (T : Tx K mg) : FnOk P w K mg base CX0 4 abehind (fdAt K abehind) P_behind (sp_behind P w K) := by
  refine fn_ok T.d_behind sc_behind (fun _ => rfl) fun cdv A outer s H E hr => ⟨_, (pss_cons (ps_set (i := 3) sc_behind.nd rfl (by first | exact Or.inl rfl | exact Or.inr rfl) (pe_lst pa_nil)) (pss_cons (ps_for PassesOwn.never rfl (seqK (K := K) rfl (pv 1)) (pg_name (i := 4) sc_behind.nd rfl (by first | exact Or.inl rfl | exact Or.inr rfl)) (pss_one (ps_expr (pe_bm PySem.F.plainAttrs_list PySem.F.slot_list_append PySem.F.type_list_append mt_append (pv 3) (pa_cons (kcK (P := P) (w := w) (K := K) (own := [("x", 6)]) rfl rfl rfl (hu10 hr) rfl sc_behind.nd (seqK (K := K) rfl (pe_call (ok_all_sets (P := P) (w := w) T) (hr.mono (by omega)) rfl T.g_all_sets T.d_all_sets.kp T.b_all_sets .nil pass0 (pa_cons (pv 0) pa_nil))) (blkOk_by (N := N_behind) (sc := defScope sbehind) (by decide +kernel)) (fun _ _ _ _ _ => (pg_name (i := 6) sc_behind.nd rfl (by first | exact Or.inl rfl | exact Or.inr rfl))) (fun _ _ _ _ _ => (pv 6)) (fun _ _ _ _ _ => (pe_ix (ixK (P := P) (w := w) (K := K) rfl rfl rfl (hu10 hr)) (pv 4) (tupOfK (K := K) rfl rfl T.f_tuple (pe_lc (own := [("t", 5)]) rfl sc_behind.nd (pi_range1 rfl T.f_range (pa_cons (pv 0) pa_nil)) (blkOk_by (by kernel_rfl)) (fun _ _ _ _ _ => (pg_name (i := 5) sc_behind.nd rfl (by first | exact Or.inl rfl | exact Or.inr rfl))) (fun _ _ _ _ _ => pts_one (pt_val (pe_ix (ixK (P := P) (w := w) (K := K) rfl rfl rfl (hu10 hr)) (pe_ix (ixK (P := P) (w := w) (K := K) rfl rfl rfl (hu10 hr)) (pv 2) (pv 5) (fun _ _ => rfl)) (pv 6) (fun _ _ => rfl)))) (fun _ _ _ _ _ => (pv 5)))) (fun _ _ => rfl)))) pa_nil))))) (pss_one (ps_ret (pv 3))))), ?_⟩
  rintro ⟨n, F, G⟩ O hn hO
  have hn : N3 n := hn
  refine st_seq (st_set (ew_own fun l hl => ?_))
  refine st_seq (st_for (xs := List.range n) (gT := fun s => dctT P w K n (F s)) (ws := fun s => [(4, dctT P w K n (F s))])
    (fun i Γ M => ∃ o4, Γ = [some (DT K (dn n)), some (tabT P w K n F), some (tabT P w K n G), some (VT (.ref l)), o4, none, none] ∧ M = [(l, lstC (((List.range n).take i).map fun s => dctT P w K n fun x => F s (pre n G x)))]) (ix_sLT (et_var rfl)) (fun s _ => gt_name) ⟨none, rfl, rfl⟩ ?_ ?_)
  · rintro i s _ _ hs ⟨o4, rfl, rfl⟩
    have hil := (List.getElem?_eq_some_iff.mp hs).1
    rw [List.length_range] at hil
    refine st_app rfl ⟨0, _, rfl⟩ (ew_of (et_dct (f := fun x => F s (pre n G x)) hn rfl (fun x hx => et_op (et_var rfl) (et_tupleLD (lcDIf (p := fun t => G t x) (f := dn) (ix_R (ea_cons (et_var rfl) ea_nil) (by show (n : Int) < _; omega)) (fun t _ => gt_name) (fun _ => rfl)
      (fun t ht => bt_B (et_op (et_op (et_var rfl) (et_var rfl) (rx_tab (List.mem_range.mp ht))) (et_var rfl) (rx_dct hx))) (fun t _ _ => et_var rfl) (sz100 (by rw [List.length_range]; show n < 1000; omega)))) (rx_dct (pre_mem hn G x))) rfl) ⟨0, _, rfl, ?_, ⟨_, rfl, ?_⟩⟩)
    · rw [List.length_map, List.length_take, List.length_range]
      exact Nat.lt_of_le_of_lt (Nat.min_le_left _ _) (Nat.lt_trans hil (sz100 (by show n < 1000; omega)))
    · rw [take_succ_at hs, List.map_append]
      rfl
  · rintro _ _ ⟨o4, rfl, rfl⟩
    refine st_freeze (i := 3) (j := 0) rfl rfl hl (st_ret (ew_of (et_var rfl) (rt_P ?_)))
    rw [List.take_of_length_le (by rw [List.length_range]; exact Nat.le_refl _)]
    exact Sub.refl _
def sp_joint_table (P : Program) (w : World) (K : PySem.W.Frag) : Sp := spP (fun a : Nat × Bool × List (Nat → Row) => N3 a.1 ∧ a.2.2.length < 1000) (fun a => [DT K (dn a.1), DT K (.str (sideT a.2.1)), LstT (a.2.2.map (tabT P w K a.1))])
  (fun a => tabT P w K a.1 fun s x => if a.2.1 then a.2.2.any (fun F => F s x) else a.2.2.all (fun F => F s x))
theorem bt_side {Γ : TEnv} {M : Mem} {i : Nat} {we : Bool} (h : Γ[i]? = some (some (DT K (.str (sideT we))))) : BT (tTest (tOp (rEqD K) (tVar i) (tC (.str "we")))) Γ M we :=
  bt_test (et_eq (et_op (et_var h) (et_str (K := K)) (rx_eq (shaped_str (by cases we <;> decide +kernel)) (shaped_str (by decide +kernel)))) (by cases we <;> exact congrArg (fun b => DT K (.bool b)) (by decide +kernel)))
theorem ok_joint_table (T : Tx K mg) : FnOk P w K mg base CX0 4 ajoint_table (fdAt K ajoint_table) P_joint_table (sp_joint_table P w K) := by
  refine fn_ok T.d_joint_table sc_joint_table (fun _ => rfl) fun cdv A outer s H E hr => ⟨_, (pss_cons (ps_set (i := 3) sc_joint_table.nd rfl (by first | exact Or.inl rfl | exact Or.inr rfl) (pe_lst pa_nil)) (pss_cons (ps_for PassesOwn.never rfl (pi_range1 rfl T.f_range (pa_cons (pv 0) pa_nil)) (pg_name (i := 4) sc_joint_table.nd rfl (by first | exact Or.inl rfl | exact Or.inr rfl)) (pss_cons (ps_set (i := 5) sc_joint_table.nd rfl (by first | exact Or.inl rfl | exact Or.inr rfl) (pe_lc (own := [("table", 6)]) (tt := tYes) rfl sc_joint_table.nd (seqK (K := K) rfl (pv 2)) (blkOk_by (N := N_joint_table) (sc := defScope sjoint_table) (by decide +kernel)) (fun _ _ _ _ _ => (pg_name (i := 6) sc_joint_table.nd rfl (by first | exact Or.inl rfl | exact Or.inr rfl))) (fun _ _ _ _ _ => pts_nil) (fun _ _ _ _ _ => (pe_ix (ixK (P := P) (w := w) (K := K) rfl rfl rfl (hu10 hr)) (pv 6) (pv 4) (fun _ _ => rfl))))) (pss_one (ps_if (pt_cmpR (eqK (K := K) rfl (hu64 hr)) (pv 1) (pe_str) (nomark _)) (pss_one (ps_expr (pe_bm PySem.F.plainAttrs_list PySem.F.slot_list_append PySem.F.type_list_append mt_append (pv 3) (pa_cons (kcK (P := P) (w := w) (K := K) (own := [("x", 8)]) rfl rfl rfl (hu10 hr) rfl sc_joint_table.nd (seqK (K := K) rfl (pe_call (ok_all_sets (P := P) (w := w) T) (hr.mono (by omega)) rfl T.g_all_sets T.d_all_sets.kp T.b_all_sets .nil pass0 (pa_cons (pv 0) pa_nil))) (blkOk_by (N := N_joint_table) (sc := defScope sjoint_table) (by decide +kernel)) (fun _ _ _ _ _ => (pg_name (i := 8) sc_joint_table.nd rfl (by first | exact Or.inl rfl | exact Or.inr rfl))) (fun _ _ _ _ _ => (pv 8)) (fun _ _ _ _ _ => (pe_callB (anyK (K := K) rfl rfl) rfl T.f_any bt_any (pa_cons (pe_lc (own := [("way", 7)]) (tt := tYes) rfl sc_joint_table.nd (seqK (K := K) rfl (pv 5)) (blkOk_by (by kernel_rfl)) (fun _ _ _ _ _ => (pg_name (i := 7) sc_joint_table.nd rfl (by first | exact Or.inl rfl | exact Or.inr rfl))) (fun _ _ _ _ _ => pts_nil) (fun _ _ _ _ _ => (pe_ix (ixK (P := P) (w := w) (K := K) rfl rfl rfl (hu10 hr)) (pv 7) (pv 8) (fun _ _ => rfl)))) pa_nil)))) pa_nil)))) (pss_one (ps_expr (pe_bm PySem.F.plainAttrs_list PySem.F.slot_list_append PySem.F.type_list_append mt_append (pv 3) (pa_cons (kcK (P := P) (w := w) (K := K) (own := [("x", 8)]) rfl rfl rfl (hu10 hr) rfl sc_joint_table.nd (seqK (K := K) rfl (pe_call (ok_all_sets (P := P) (w := w) T) (hr.mono (by omega)) rfl T.g_all_sets T.d_all_sets.kp T.b_all_sets .nil pass0 (pa_cons (pv 0) pa_nil))) (blkOk_by (N := N_joint_table) (sc := defScope sjoint_table) (by decide +kernel)) (fun _ _ _ _ _ => (pg_name (i := 8) sc_joint_table.nd rfl (by first | exact Or.inl rfl | exact Or.inr rfl))) (fun _ _ _ _ _ => (pv 8)) (fun _ _ _ _ _ => (pe_callB (allK (K := K) rfl rfl) rfl T.f_all bt_all (pa_cons (pe_lc (own := [("way", 7)]) (tt := tYes) rfl sc_joint_table.nd (seqK (K := K) rfl (pv 5)) (blkOk_by (by kernel_rfl)) (fun _ _ _ _ _ => (pg_name (i := 7) sc_joint_table.nd rfl (by first | exact Or.inl rfl | exact Or.inr rfl))) (fun _ _ _ _ _ => pts_nil) (fun _ _ _ _ _ => (pe_ix (ixK (P := P) (w := w) (K := K) rfl rfl rfl (hu10 hr)) (pv 7) (pv 8) (fun _ _ => rfl)))) pa_nil)))) pa_nil)))))))) (pss_one (ps_ret (pv 3))))), ?_⟩
  rintro ⟨n, we, Fs⟩ O ⟨hn, hl⟩ hO
  have hn : N3 n := hn
  have hl'' : Fs.length < sizeLine := sz100 hl
  let J : Nat → Row := fun s x => if we then Fs.any (fun F => F s x) else Fs.all (fun F => F s x)
  refine st_seq (st_set (ew_own fun l hl => ?_))
  refine st_seq (st_for (xs := List.range n) (gT := fun s => DT K (dn s)) (ws := fun s => [(4, DT K (dn s))])
    (fun i Γ M => ∃ o4 o5, Γ = [some (DT K (dn n)), some (DT K (.str (sideT we))), some (LstT (Fs.map (tabT P w K n))), some (VT (.ref l)), o4, o5, none, none, none] ∧ M = [(l, lstC (((List.range n).take i).map fun s => dctT P w K n (J s)))]) (ix_R (ea_cons (et_var rfl) ea_nil) (by show (n : Int) < _; omega)) (fun s _ => gt_name) ⟨none, none, rfl, rfl⟩ ?_ ?_)
  · rintro i s _ _ hs ⟨o4, o5, rfl, rfl⟩
    have hil := (List.getElem?_eq_some_iff.mp hs).1
    rw [List.length_range] at hil
    have hsn : s < n := List.mem_range.mp (List.mem_of_getElem? hs)
    refine st_seq (st_set (ew_of (lcT (xs := Fs) (f := fun F => dctT P w K n (F s)) (ix_sLT (et_var rfl)) (fun F _ => gt_name) (fun _ => rfl) (fun F _ => et_op (et_var rfl) (et_var rfl) (rx_tab hsn)) hl'') ?_))
    have hlen : (((List.range n).take i).map fun s => dctT P w K n (J s)).length < sizeLine := by
      rw [List.length_map, List.length_take, List.length_range]
      exact Nat.lt_of_le_of_lt (Nat.min_le_left _ _) (Nat.lt_trans hil (sz100 (by show n < 1000; omega)))
    have hend : (((List.range n).take i).map fun s => dctT P w K n (J s)) ++ [dctT P w K n (J s)] = ((List.range n).take (i + 1)).map fun s => dctT P w K n (J s) := by
      rw [take_succ_at hs, List.map_append]
      rfl
    refine st_if (b := we) (bt_side rfl) (fun hw => ?_) fun hw => ?_
    · refine st_app rfl ⟨0, _, rfl⟩ (ew_of (et_dct (f := J s) hn rfl (fun x hx => et_eq (et_cb (ea_cons (lcB (xs := Fs) (f := fun F => F s x) (ix_sLT (et_var rfl)) (fun F _ => gt_name) (fun _ => rfl) (fun F _ => et_op (et_var rfl) (et_var rfl) (rx_dct hx)) hl'') ea_nil) cx_any) ?_) rfl) ⟨0, _, rfl, hlen, ⟨_, _, rfl, ?_⟩⟩)
      · rw [any_id]
        show _ = DT K (.bool (if we then _ else _))
        rw [hw]
        rfl
      · rw [← hend]
        rfl
    · refine st_app rfl ⟨0, _, rfl⟩ (ew_of (et_dct (f := J s) hn rfl (fun x hx => et_eq (et_cb (ea_cons (lcB (xs := Fs) (f := fun F => F s x) (ix_sLT (et_var rfl)) (fun F _ => gt_name) (fun _ => rfl) (fun F _ => et_op (et_var rfl) (et_var rfl) (rx_dct hx)) hl'') ea_nil) cx_all) ?_) rfl) ⟨0, _, rfl, hlen, ⟨_, _, rfl, ?_⟩⟩)
      · rw [all_id]
        show _ = DT K (.bool (if we then _ else _))
        rw [hw]
        rfl
      · rw [← hend]
        rfl
  · rintro _ _ ⟨o4, o5, rfl, rfl⟩
    refine st_freeze (i := 3) (j := 0) rfl rfl hl (st_ret (ew_of (et_var rfl) (rt_P ?_)))
    rw [List.take_of_length_le (by rw [List.length_range]; exact Nat.le_refl _)]
    exact Sub.refl _
end
end Tw
end
/-! W6 -/
section
set_option Elab.async false
set_option linter.all false
set_option autoImplicit false
set_option maxRecDepth 100000
set_option maxHeartbeats 4000000
/-! The walk: a round's tables. -/
namespace Tw
open PySem PySem.Spec PyProof.Rows L2
/-- those of a text's own texts that are laid ahead -/
def Txt.kids1 : Txt → List Txt
  | .thn a b => [a, b]
  | .ite _ a b => [a, b]
  | _ => []
theorem kids1_sub {t u : Txt} (h : u ∈ t.kids1) : u ∈ t.kids := by
  cases t <;> first | exact h | cases h
structure LayA where
  self : Addr
  l : Addr
  n : Nat
  many : Nat
  ts : List Txt
  Ps : Nat → Nat → Row
  Cs : Nat → Nat → Row
  es : List (NK × Ty)
  p : Plc
  t : Txt
section
variable {P : Program} {w : World} {K : PySem.W.Frag} {mg : PySem.Str → Option Value} {base : Heap}
abbrev layF (P : Program) (w : World) (K : PySem.W.Frag) (n many : Nat) (ts : List Txt) (Ps Cs : Nat → Nat → Row) (at_ : Ty) : Fds := [("system", DT K (sysD n many ts)), ("parts", tabsT P w K n many Ps), ("calls", tabsT P w K n ts.length Cs), ("at", at_)]
abbrev LayA.fds (P : Program) (w : World) (K : PySem.W.Frag) (a : LayA) : Fds := layF P w K a.n a.many a.ts a.Ps a.Cs (VT (.ref a.l))
abbrev LayA.mem (P : Program) (w : World) (K : PySem.W.Frag) (a : LayA) (es : List (NK × Ty)) : Mem := [(a.self, insC 766 (a.fds P w K)), (a.l, kdC P w K a.l es)]
/-- no entry of a place within p -/
def Fresh (es : List (NK × Ty)) (p : Plc) : Prop := ∀ e ∈ es, ∀ q, e.1 ≠ keyP (p.1, p.2 ++ q)
structure LayOk (d : Nat) (a : LayA) : Prop where
  n3 : N3 a.n
  ok : a.t.Ok a.n a.ts.length a.many
  dep : a.t.dep ≤ d
  len : a.p.2.length + a.t.dep ≤ 100
  size : a.es.length + a.t.size ≤ 100000
  ne : a.self ≠ a.l
  fresh : Fresh a.es a.p
/-- the entries of the first i of a text's own texts -/
def Mid (p : Plc) (i : Nat) (more : List (NK × Ty)) : Prop := ∀ e ∈ more, ∃ j q, j < i ∧ e.1 = keyP (p.1, p.2 ++ j :: q)
theorem mid_fresh {es more : List (NK × Ty)} {p : Plc} {i : Nat} (h : Fresh es p) (m : Mid p i more) : Fresh (es ++ more) (p.1, p.2 ++ [i]) := fun e he q c => by
  rcases List.mem_append.mp he with he | he
  · refine h e he (i :: q) ?_
    rw [c]
    simp
  · obtain ⟨j, q', hj, e2⟩ := m e he
    rw [e2] at c
    have := keyP_inj c
    simp at this
    omega
theorem mid_nil (p : Plc) (i : Nat) : Mid p i [] := fun _ h => nomatch h
theorem mid_next {p : Plc} {i : Nat} {more new : List (NK × Ty)} (m : Mid p i more) (h : ∀ e ∈ new, ∃ q, e.1 = keyP (p.1, (p.2 ++ [i]) ++ q)) : Mid p (i + 1) (more ++ new) := fun e he => by
  rcases List.mem_append.mp he with he | he
  · obtain ⟨j, q, h1, h2⟩ := m e he
    exact ⟨j, q, by omega, h2⟩
  · obtain ⟨q, e2⟩ := h e he
    exact ⟨i, q, by omega, by rw [e2]; simp⟩
theorem mid_mono {p : Plc} {i j : Nat} {more : List (NK × Ty)} (m : Mid p i more) (h : i ≤ j) : Mid p j more := fun e he => by
  obtain ⟨k, q, h1, h2⟩ := m e he
  exact ⟨k, q, by omega, h2⟩
theorem tab_congr {P : Program} {w : World} {K : PySem.W.Frag} {n : Nat} {F G : Nat → Row} (h : ∀ s, s < n → F s = G s) : tabT P w K n F = tabT P w K n G := by
  unfold tabT
  congr 1
  refine List.map_congr_left fun s hs => ?_
  rw [h s (List.mem_range.mp hs)]
def layR (P : Program) (w : World) (K : PySem.W.Frag) (a : LayA) (S : Ty) (M : Mem) : Prop := S = tabT P w K a.n (sem a.n a.Ps a.Cs a.t) ∧ ∃ more, more.length + 1 = a.t.size ∧ Mid a.p 1000 more ∧ M = a.mem P w K (a.es ++ (more ++ [(keyP a.p, tabT P w K a.n (sem a.n a.Ps a.Cs a.t))]))
def sp_lay (P : Program) (w : World) (K : PySem.W.Frag) (d : Nat) : Sp := spG (LayOk d) (fun a => a.mem P w K a.es) (fun a => [VT (.ref a.self), DT K (plD a.p), DT K a.t.toD]) (layR P w K)
theorem size_take {l : List Txt} {i : Nat} {u : Txt} (h : l[i]? = some u) : ((l.take (i + 1)).map Txt.size).sum = ((l.take i).map Txt.size).sum + u.size := by
  rw [take_succ_at h, List.map_append, List.sum_append]
  simp
theorem size_take_le (l : List Txt) (i : Nat) : ((l.take i).map Txt.size).sum ≤ (l.map Txt.size).sum := by
  conv => rhs; rw [← List.take_append_drop i l, List.map_append, List.sum_append]
  omega
theorem zip_at {l : List Txt} {i : Nat} {u : Txt × Nat} (h : l.zipIdx[i]? = some u) : l[i]? = some u.1 ∧ u.2 = i := by
  rw [List.getElem?_zipIdx] at h
  cases hx : l[i]? with
  | none =>
    rw [hx] at h
    cases h
  | some y =>
    rw [hx] at h
    cases h
    exact ⟨rfl, Nat.zero_add _⟩
theorem ok_Tables_lay (T : Tx K mg) : ∀ d, FnOk P w K mg base CX0 (5+d) aTables_lay (fdAt K aTables_lay) P_Tables_lay (sp_lay P w K d)
  | 0 => fn_absurd fun a h => by
    have h0 := h.dep
    have : 1 ≤ a.t.dep := by cases a.t <;> rw [Txt.dep] <;> omega
    omega
  | d + 1 => by
    have ih := ok_Tables_lay T d
    show FnOk P w K mg base CX0 (5+d+1) aTables_lay (fdAt K aTables_lay) P_Tables_lay (sp_lay P w K (d + 1))
    refine fn_ok T.d_Tables_lay sc_Tables_lay (fun _ => rfl) fun cdv A outer s H E hr => ⟨_, (pss_cons (ps_asg (pe_tup (pa_cons (pe_ix (ixK (P := P) (w := w) (K := K) rfl rfl rfl (hu10 hr)) (fldK (K := K) rfl (pv 0) rfl) (pe_int) (fun _ _ => rfl)) (pa_cons (pe_lst pa_nil) pa_nil))) (tupK (K := K) (n := 2) rfl rfl (pgs_cons (pg_name (i := 3) sc_Tables_lay.nd rfl (by first | exact Or.inl rfl | exact Or.inr rfl)) (pgs_cons (pg_name (i := 4) sc_Tables_lay.nd rfl (by first | exact Or.inl rfl | exact Or.inr rfl)) pgs_nil)))) (pss_cons (ps_for PassesOwn.never rfl (pi_enumT rfl T.f_enumerate (pa_cons (pe_ifExp (pt_cmpR (eqK (K := K) rfl (hu64 hr)) (pe_ix (ixK (P := P) (w := w) (K := K) rfl rfl rfl (hu10 hr)) (pv 2) (pe_int) (fun _ _ => rfl)) (pe_str) (nomark _)) (pe_slice (slK (K := K) rfl) (pv 2) (po_some (pe_int)) po_none) (pe_ifExp (pt_cmpR (eqK (K := K) rfl (hu64 hr)) (pe_ix (ixK (P := P) (w := w) (K := K) rfl rfl rfl (hu10 hr)) (pv 2) (pe_int) (fun _ _ => rfl)) (pe_str) (nomark _)) (pe_slice (slK (K := K) rfl) (pv 2) (po_some (pe_int)) po_none) (pe_tup pa_nil))) pa_nil)) (tupK (K := K) (n := 2) rfl rfl (pgs_cons (pg_name (i := 5) sc_Tables_lay.nd rfl (by first | exact Or.inl rfl | exact Or.inr rfl)) (pgs_cons (pg_name (i := 6) sc_Tables_lay.nd rfl (by first | exact Or.inl rfl | exact Or.inr rfl)) pgs_nil))) (pss_one (ps_expr (pe_bm PySem.F.plainAttrs_list PySem.F.slot_list_append PySem.F.type_list_append mt_append (pv 4) (pa_cons (pe_meth (pv 0) T.c_Tables T.m_Tables_lay ih (hr.mono (by omega)) T.b_Tables_lay .nil pass0 (pa_cons (pe_tup (pa_cons (pe_ix (ixK (P := P) (w := w) (K := K) rfl rfl rfl (hu10 hr)) (pv 1) (pe_int) (fun _ _ => rfl)) (pa_cons (pe_op (addK (K := K) rfl) (pe_ix (ixK (P := P) (w := w) (K := K) rfl rfl rfl (hu10 hr)) (pv 1) (pe_int) (fun _ _ => rfl)) (pe_tup (pa_cons (pv 5) pa_nil))) pa_nil))) (pa_cons (pv 6) pa_nil))) pa_nil))))) (pss_cons (ps_if (pt_cmpR (inK (K := K) rfl (hu65 hr)) (pe_ix (ixK (P := P) (w := w) (K := K) rfl rfl rfl (hu10 hr)) (pv 2) (pe_int) (fun _ _ => rfl)) (pe_tup (pa_cons (pe_str) (pa_cons (pe_str) pa_nil))) (by with_unfolding_all rfl)) (pss_cons (ps_setLc (i := 7) (own := [("number", 5), ("one", 6)]) (tt := tYes) rfl sc_Tables_lay.nd rfl rfl (sw_true rfl rfl rfl (by decide +kernel)) (pi_enumT rfl T.f_enumerate (pa_cons (pe_ix (ixK (P := P) (w := w) (K := K) rfl rfl rfl (hu10 hr)) (pv 2) (pe_int) (fun _ _ => rfl)) pa_nil)) (blkOk_by (N := N_Tables_lay) (sc := defScope sTables_lay) (by decide +kernel)) (fun _ _ _ _ _ => (tupK (K := K) (n := 2) rfl rfl (pgs_cons (pg_name (i := 5) sc_Tables_lay.nd rfl (by first | exact Or.inl rfl | exact Or.inr rfl)) (pgs_cons (pg_name (i := 6) sc_Tables_lay.nd rfl (by first | exact Or.inl rfl | exact Or.inr rfl)) pgs_nil)))) (fun _ _ _ _ _ => pts_nil) (fun _ _ _ _ _ => (pe_meth (pv 0) T.c_Tables T.m_Tables_lay ih (hr.mono (by omega)) T.b_Tables_lay .nil pass0 (pa_cons (pe_tup (pa_cons (pe_ix (ixK (P := P) (w := w) (K := K) rfl rfl rfl (hu10 hr)) (pv 1) (pe_int) (fun _ _ => rfl)) (pa_cons (pe_op (addK (K := K) rfl) (pe_ix (ixK (P := P) (w := w) (K := K) rfl rfl rfl (hu10 hr)) (pv 1) (pe_int) (fun _ _ => rfl)) (pe_tup (pa_cons (pv 5) pa_nil))) pa_nil))) (pa_cons (pv 6) pa_nil))))) (pss_one (ps_set (i := 8) sc_Tables_lay.nd rfl (by first | exact Or.inl rfl | exact Or.inr rfl) (pe_call (ok_joint_table (P := P) (w := w) T) (hr.mono (by omega)) rfl T.g_joint_table T.d_joint_table.kp T.b_joint_table .nil pass0 (pa_cons (pv 3) (pa_cons (pe_ix (ixK (P := P) (w := w) (K := K) rfl rfl rfl (hu10 hr)) (pv 2) (pe_int) (fun _ _ => rfl)) (pa_cons (pv 7) pa_nil))))))) (pss_one (ps_if (pt_cmpR (eqK (K := K) rfl (hu64 hr)) (pe_ix (ixK (P := P) (w := w) (K := K) rfl rfl rfl (hu10 hr)) (pv 2) (pe_int) (fun _ _ => rfl)) (pe_str) (nomark _)) (pss_one (ps_setLc (i := 8) (own := [("s", 9)]) (tt := tYes) rfl sc_Tables_lay.nd rfl rfl (sw_true rfl rfl rfl (by decide +kernel)) (pi_range1 rfl T.f_range (pa_cons (pv 3) pa_nil)) (blkOk_by (N := N_Tables_lay) (sc := defScope sTables_lay) (by decide +kernel)) (fun _ _ _ _ _ => (pg_name (i := 9) sc_Tables_lay.nd rfl (by first | exact Or.inl rfl | exact Or.inr rfl))) (fun _ _ _ _ _ => pts_nil) (fun _ _ _ _ _ => (pe_ifExp (pt_cmpR (inK (K := K) rfl (hu65 hr)) (pv 9) (pe_ix (ixK (P := P) (w := w) (K := K) rfl rfl rfl (hu10 hr)) (pv 2) (pe_int) (fun _ _ => rfl)) (by with_unfolding_all rfl)) (pe_ix (ixK (P := P) (w := w) (K := K) rfl rfl rfl (hu10 hr)) (pe_ix (ixK (P := P) (w := w) (K := K) rfl rfl rfl (hu10 hr)) (pv 4) (pe_int) (fun _ _ => rfl)) (pv 9) (fun _ _ => rfl)) (pe_ix (ixK (P := P) (w := w) (K := K) rfl rfl rfl (hu10 hr)) (pe_ix (ixK (P := P) (w := w) (K := K) rfl rfl rfl (hu10 hr)) (pv 4) (pe_int) (fun _ _ => rfl)) (pv 9) (fun _ _ => rfl)))))) (pss_one (ps_if (pt_cmpR (eqK (K := K) rfl (hu64 hr)) (pe_ix (ixK (P := P) (w := w) (K := K) rfl rfl rfl (hu10 hr)) (pv 2) (pe_int) (fun _ _ => rfl)) (pe_str) (nomark _)) (pss_one (ps_set (i := 8) sc_Tables_lay.nd rfl (by first | exact Or.inl rfl | exact Or.inr rfl) (pe_call (ok_behind (P := P) (w := w) T) (hr.mono (by omega)) rfl T.g_behind T.d_behind.kp T.b_behind .nil pass0 (pa_cons (pv 3) (pa_cons (pe_ix (ixK (P := P) (w := w) (K := K) rfl rfl rfl (hu10 hr)) (pv 4) (pe_int) (fun _ _ => rfl)) (pa_cons (pe_ix (ixK (P := P) (w := w) (K := K) rfl rfl rfl (hu10 hr)) (pv 4) (pe_int) (fun _ _ => rfl)) pa_nil)))))) (pss_one (ps_if (pt_cmpR (inK (K := K) rfl (hu65 hr)) (pe_ix (ixK (P := P) (w := w) (K := K) rfl rfl rfl (hu10 hr)) (pv 2) (pe_int) (fun _ _ => rfl)) (pe_tup (pa_cons (pe_str) (pa_cons (pe_str) pa_nil))) (by with_unfolding_all rfl)) (pss_one (ps_set (i := 8) sc_Tables_lay.nd rfl (by first | exact Or.inl rfl | exact Or.inr rfl) (pe_ix (ixK (P := P) (w := w) (K := K) rfl rfl rfl (hu10 hr)) (pe_ifExp (pt_cmpR (eqK (K := K) rfl (hu64 hr)) (pe_ix (ixK (P := P) (w := w) (K := K) rfl rfl rfl (hu10 hr)) (pv 2) (pe_int) (fun _ _ => rfl)) (pe_str) (nomark _)) (fldK (K := K) rfl (pv 0) rfl) (fldK (K := K) rfl (pv 0) rfl)) (pe_ix (ixK (P := P) (w := w) (K := K) rfl rfl rfl (hu10 hr)) (pv 2) (pe_int) (fun _ _ => rfl)) (fun _ _ => rfl)))) (pss_one (ps_set (i := 8) sc_Tables_lay.nd rfl (by first | exact Or.inl rfl | exact Or.inr rfl) (pe_call (ok_go_table (P := P) (w := w) T) (hr.mono (by omega)) rfl T.g_go_table T.d_go_table.kp T.b_go_table .nil pass0 (pa_cons (pv 3) (pa_cons (pe_ifExp (pt_cmpR (eqK (K := K) rfl (hu64 hr)) (pe_ix (ixK (P := P) (w := w) (K := K) rfl rfl rfl (hu10 hr)) (pv 2) (pe_int) (fun _ _ => rfl)) (pe_str) (nomark _)) (pe_listRg rfl rfl T.f_list (prg_1 rfl T.f_range (pv 3))) (pe_ix (ixK (P := P) (w := w) (K := K) rfl rfl rfl (hu10 hr)) (pv 2) (pe_int) (fun _ _ => rfl))) pa_nil)))))))))))) (pss_cons (ps_asg (pv 8) (pg_sub (fldK (K := K) rfl (pv 0) rfl) (pv 1) (setKdK (P := P) (w := w) (K := K) rfl rfl rfl (hu10 hr)))) (pss_one (ps_ret (pv 8))))))), ?_⟩
    rintro ⟨self, l, n, many, ts, Ps, Cs, es, p, t⟩ O ha ⟨-, hO⟩
    have hn : N3 n := ha.n3
    have hok : t.Ok n ts.length many := ha.ok
    have hdep : t.dep ≤ d + 1 := ha.dep
    have hlen : p.2.length + t.dep ≤ 100 := ha.len
    have hsize : es.length + t.size ≤ 100000 := ha.size
    have hne : self ≠ l := ha.ne
    have hfr : Fresh es p := ha.fresh
    have h0s : O.H0 self ≠ none := hO _ List.mem_cons_self
    have h0l : O.H0 l ≠ none := hO _ (List.mem_cons_of_mem _ List.mem_cons_self)
    let tab : Txt → Ty := fun u => tabT P w K n (sem n Ps Cs u)
    let fds := layF P w K n many ts Ps Cs (VT (.ref l))
    -- a text of the text's own
    have call : ∀ (O' : Org) (Γ : TEnv) (M : Mem) (N : Ty → Mem → Prop) (more : List (NK × Ty)) (i : Nat) (u : Txt) (ta : TA), u ∈ t.kids → Mid p i more → more.length + u.size < t.size → EA ta Γ M [DT K (plD (p.1, p.2 ++ [i])), DT K u.toD] → Γ[0]? = some (some (VT (.ref self))) →
        (self, insC 766 fds) ∈ M → (l, kdC P w K l (es ++ more)) ∈ M → (∀ m ∈ M, m.1 = self ∨ m.1 = l → m = (self, insC 766 fds) ∨ m = (l, kdC P w K l (es ++ more))) →
        (∀ new, (∀ e ∈ new, ∃ q, e.1 = keyP (p.1, (p.2 ++ [i]) ++ q)) → new.length = u.size → N (tab u) (M.map fun m => if m.1 = l then (l, kdC P w K l (es ++ (more ++ new))) else m)) →
        EW (tMeth 766 "lay" (sp_lay P w K d) [] E0 (tVar 0) ta) O' Γ M N := by
      intro O' Γ M N more i u ta hu hm hs hta h0 h1 h2 h3 k
      have hud := kid_dep hu
      refine ew_meth (ok := LayOk d) (⟨self, l, n, many, ts, Ps, Cs, es ++ more, (p.1, p.2 ++ [i]), u⟩ : LayA) ⟨hn, kid_ok hok hu, by show u.dep ≤ d; omega, by show (p.2 ++ [i]).length + u.dep ≤ 100; rw [List.length_append, List.length_singleton]; omega, by show (es ++ more).length + u.size ≤ 100000; rw [List.length_append]; omega, hne, mid_fresh hfr hm⟩ rfl ?_ ?_ h1 rfl (et_var h0) hta ?_
      · intro m hm
        rcases List.mem_cons.mp hm with rfl | hm
        · exact h1
        · rw [List.mem_singleton.mp hm]
          exact h2
      · show [self, l].Nodup
        simp [hne]
      · rintro T' M' ⟨rfl, new, hnl, hnm, rfl⟩
        refine ⟨M.map fun m => if m.1 = l then (l, kdC P w K l (es ++ (more ++ (new ++ [(keyP (p.1, p.2 ++ [i]), tab u)])))) else m, ?_, ?_, k _ ?_ ?_⟩
        · rw [List.map_map]
          refine List.map_congr_left fun m _ => ?_
          show (if m.1 = l then _ else m).1 = m.1
          split
          · rename_i c
            exact c.symm
          · rfl
        · intro m hm
          obtain ⟨m0, hm0, rfl⟩ := List.mem_map.mp hm
          by_cases c : m0.1 = l
          · left
            rw [if_pos c]
            show _ ∈ [_, _]
            rw [List.append_assoc]
            exact List.mem_cons_of_mem _ List.mem_cons_self
          · rw [if_neg c]
            by_cases c2 : m0.1 = self
            · left
              rcases h3 m0 hm0 (.inl c2) with e | e
              · rw [e]
                exact List.mem_cons_self
              · rw [e] at c
                exact absurd rfl c
            · right
              refine ⟨hm0, fun z => ?_⟩
              have z2 : m0.1 ∈ [self, l] := z
              rcases List.mem_cons.mp z2 with z | z
              · exact c2 z
              · exact c (List.mem_singleton.mp z)
        · intro e he
          rcases List.mem_append.mp he with he | he
          · obtain ⟨j, q, _, e2⟩ := hnm e he
            exact ⟨j :: q, e2⟩
          · rw [List.mem_singleton.mp he]
            exact ⟨[], by rw [List.append_nil]⟩
        · rw [List.length_append, List.length_singleton]
          exact hnl
    have memq : ∀ (li : Addr) (Ts : List Ty) (more : List (NK × Ty)), O.H0 li = none → ∀ m ∈ [((li, lstC Ts) : Addr × Cell), (self, insC 766 fds), (l, kdC P w K l (es ++ more))], m.1 = self ∨ m.1 = l → m = (self, insC 766 fds) ∨ m = (l, kdC P w K l (es ++ more)) := by
      intro li Ts more hz m hm hc
      rcases List.mem_cons.mp hm with rfl | hm
      · rcases hc with e | e
        · exact absurd (e ▸ hz) h0s
        · exact absurd (e ▸ hz) h0l
      · rcases List.mem_cons.mp hm with rfl | hm
        · exact .inl rfl
        · exact .inr (List.mem_singleton.mp hm)
    have memu : ∀ (li : Addr) (Ts : List Ty) (more more2 : List (NK × Ty)), O.H0 li = none → ([((li, lstC Ts) : Addr × Cell), (self, insC 766 fds), (l, kdC P w K l (es ++ more))].map fun m => if m.1 = l then ((l, kdC P w K l (es ++ more2)) : Addr × Cell) else m) = [(li, lstC Ts), (self, insC 766 fds), (l, kdC P w K l (es ++ more2))] := by
      intro li Ts more more2 hz
      have h1 : li ≠ l := fun e => h0l (e ▸ hz)
      simp [h1, hne]
    -- the end: the text's own entry
    have fin : ∀ (Γ : TEnv) (li : Addr) (Ts : List Ty) (more : List (NK × Ty)), O.H0 li = none → Mid p 1000 more → more.length + 1 = t.size → Γ[0]? = some (some (VT (.ref self))) → Γ[1]? = some (some (DT K (plD p))) → Γ[8]? = some (some (tab t)) →
        ST (tSeq (tAsg (tVar 8) (gSub (tFld K (tVar 0) "at") (tVar 1) (rKdS P w K))) (tRet (tVar 8))) O Γ [(li, lstC Ts), (self, insC 766 fds), (l, kdC P w K l (es ++ more))] (destOf (layR P w K) ⟨self, l, n, many, ts, Ps, Cs, es, p, t⟩) := by
      intro Γ li Ts more hz hm hl g0 g1 g8
      refine st_seq (st_kdset (ew_of (et_var g8) ⟨2, l, es ++ more, [numK p.1, keyS p.2], rfl, et_fldO T.c_Tables T.n_Tables_at (j := 1) rfl (et_var g0) rfl, ?_, keyP_depth p, ?_, ?_, ?_⟩))
      · rw [show (NestedKey.tup [numK p.1, keyS p.2] : NK).data = plD p from keyP_data p]
        exact et_var g1
      · intro hin
        obtain ⟨e, he, e2⟩ := List.mem_map.mp hin
        have e3 : e.1 = keyP p := e2
        rcases List.mem_append.mp he with he | he
        · exact hfr e he [] (by rw [e3, List.append_nil])
        · obtain ⟨j, q, _, e4⟩ := hm e he
          rw [e4] at e3
          have := keyP_inj e3
          have h5 : p.2 ++ j :: q = p.2 := congrArg Prod.snd this
          simp at h5
      · rw [List.length_append]
        exact Nat.lt_of_lt_of_le (show es.length + more.length < 100001 by omega) (by decide)
      · refine st_ret (ew_of (et_var g8) ⟨_, _, ⟨rfl, more, hl, hm, rfl⟩, Sub.refl _, ?_⟩)
        show List.Sublist _ [_, _, _]
        rw [List.append_assoc]
        exact List.sublist_cons_self _ _
    refine st_seq (st_asg (ew_tup (K := K) (aw_cons (ew_of (et_op (et_fldO T.c_Tables T.n_Tables_system (j := 0) rfl (et_var rfl) rfl) (et_int (K := K)) (rx_ixTD rfl)) (aw_cons (ew_own fun li hz => aw_nil ⟨by show 2 ≤ sizeLine; decide, _, gt_tup (gts_cons gt_name (gts_cons gt_name gts_nil)) rfl, ?_⟩))))))
    refine st_seq (st_for (xs := t.kids1.zipIdx) (gT := fun u => TupT K [DT K (dn u.2), DT K u.1.toD]) (ws := fun u => [(5, DT K (dn u.2)), (6, DT K u.1.toD)])
      (fun i Γ M => ∃ o5 o6 more, Mid p i more ∧ more.length = ((t.kids1.take i).map Txt.size).sum ∧ Γ = [some (VT (.ref self)), some (DT K (plD p)), some (DT K t.toD), some (DT K (dn n)), some (VT (.ref li)), o5, o6, none, none, none] ∧ M = [(li, lstC ((t.kids1.take i).map tab)), (self, insC 766 fds), (l, kdC P w K l (es ++ more))])
      (ix_E (g := Txt.toD) (ea_cons ?_ ea_nil)) (fun u _ => gt_tup (gts_cons gt_name (gts_cons gt_name gts_nil)) rfl) ⟨none, none, [], mid_nil p 0, rfl, rfl, ?_⟩ ?_ ?_)
    · cases t with
      | thn a b =>
        rw [Txt.toD]
        exact et_if (b := false) (bt_test (et_tag rfl (by decide +kernel) (by decide +kernel) (by decide +kernel))) (fun h => nomatch h) fun _ => et_if (b := true) (bt_test (et_tag rfl (by decide +kernel) (by decide +kernel) (by decide +kernel))) (fun _ => et_eq (et_slTD (et_var rfl) ot_c ot_no) (by rw [show (1 : Int) = ((1 : Nat) : Int) from rfl, cut_from]; rfl)) fun h => nomatch h
      | ite x a b =>
        rw [Txt.toD]
        exact et_if (b := true) (bt_test (et_tag rfl (by decide +kernel) (by decide +kernel) (by decide +kernel))) (fun _ => et_eq (et_slTD (et_var rfl) ot_c ot_no) (by rw [show (2 : Int) = ((2 : Nat) : Int) from rfl, cut_from]; rfl)) fun h => nomatch h
      | ch we l' =>
        rw [Txt.toD]
        exact et_if (b := false) (bt_test (et_tag rfl (by cases we <;> decide +kernel) (by decide +kernel) (by cases we <;> decide +kernel))) (fun h => nomatch h) fun _ => et_if (b := false) (bt_test (et_tag rfl (by cases we <;> decide +kernel) (by decide +kernel) (by cases we <;> decide +kernel))) (fun h => nomatch h) fun _ => et_tupD (K := K) ead_nil (by show 0 ≤ sizeLine; decide)
      | skip =>
        rw [Txt.toD]
        exact et_if (b := false) (bt_test (et_tag rfl (by decide +kernel) (by decide +kernel) (by decide +kernel))) (fun h => nomatch h) fun _ => et_if (b := false) (bt_test (et_tag rfl (by decide +kernel) (by decide +kernel) (by decide +kernel))) (fun h => nomatch h) fun _ => et_tupD (K := K) ead_nil (by show 0 ≤ sizeLine; decide)
      | go _ =>
        rw [Txt.toD]
        exact et_if (b := false) (bt_test (et_tag rfl (by decide +kernel) (by decide +kernel) (by decide +kernel))) (fun h => nomatch h) fun _ => et_if (b := false) (bt_test (et_tag rfl (by decide +kernel) (by decide +kernel) (by decide +kernel))) (fun h => nomatch h) fun _ => et_tupD (K := K) ead_nil (by show 0 ≤ sizeLine; decide)
      | call _ =>
        rw [Txt.toD]
        exact et_if (b := false) (bt_test (et_tag rfl (by decide +kernel) (by decide +kernel) (by decide +kernel))) (fun h => nomatch h) fun _ => et_if (b := false) (bt_test (et_tag rfl (by decide +kernel) (by decide +kernel) (by decide +kernel))) (fun h => nomatch h) fun _ => et_tupD (K := K) ead_nil (by show 0 ≤ sizeLine; decide)
      | part _ =>
        rw [Txt.toD]
        exact et_if (b := false) (bt_test (et_tag rfl (by decide +kernel) (by decide +kernel) (by decide +kernel))) (fun h => nomatch h) fun _ => et_if (b := false) (bt_test (et_tag rfl (by decide +kernel) (by decide +kernel) (by decide +kernel))) (fun h => nomatch h) fun _ => et_tupD (K := K) ead_nil (by show 0 ≤ sizeLine; decide)
    · rw [List.append_nil]
      rfl
    · rintro i u _ _ hu ⟨o5, o6, more, hm, hml, rfl, rfl⟩
      obtain ⟨hk, hui⟩ := zip_at hu
      have hmem := List.mem_of_getElem? hk
      have hkid := kids1_sub hmem
      have ht := size_take hk
      have hle := size_take_le t.kids1 (i + 1)
      have hsz : (t.kids1.map Txt.size).sum + 1 ≤ t.size := by
        rw [size_kids t]
        cases t <;> simp [Txt.kids1, Txt.kids] <;> omega
      have hlen5 : (t.kids1.take i).length < sizeLine := by
        rw [List.length_take]
        have := len_sum t.kids1
        exact Nat.lt_of_lt_of_le (show _ < 100001 by omega) (by decide)
      refine st_app rfl ⟨0, _, rfl⟩ (call O _ _ _ more i u.1 _ hkid hm (by omega) (ea_cons (et_eq (et_place rfl rfl (by omega)) (by rw [hui])) (ea_cons (et_var rfl) ea_nil)) rfl (List.mem_cons_of_mem _ List.mem_cons_self) (List.mem_cons_of_mem _ (List.mem_cons_of_mem _ List.mem_cons_self)) (memq li _ more hz) fun new hnew hnl => ?_)
      rw [memu li _ more (more ++ new) hz]
      refine ⟨0, _, rfl, by rw [List.length_map]; exact hlen5, _, _, more ++ new, mid_next hm hnew, ?_, rfl, ?_⟩
      · rw [List.length_append, hml, hnl, ht]
      · rw [take_succ_at hk, List.map_append]
        rfl
    · rintro _ _ ⟨o5, o6, more, hm, hml, rfl, rfl⟩
      have hkl : t.kids1.zipIdx.length = t.kids1.length := List.length_zipIdx
      rw [hkl] at hml
      rw [hkl] at hm
      rw [List.take_length] at hml
      rw [hkl, List.take_length]
      have tagF : ∀ {tg s : Str} {rest : List PyData} {Γ : TEnv} {M : Mem} {b : Bool}, Γ[2]? = some (some (DT K (.tuple (.str tg :: rest)))) → (PyData.str tg).canLay0 = true → (PyData.str s).canLay0 = true → (tg == s) = b → BT (tTest (tOp (rEqD K) (tOp (rIxA P w K) (tVar 2) (tC (.int 0))) (tC (.str s)))) Γ M b :=
        fun g a b c => bt_test (et_tag g a b c)
      have inF : ∀ {tg s u : Str} {rest : List PyData} {Γ : TEnv} {M : Mem} {b : Bool}, Γ[2]? = some (some (DT K (.tuple (.str tg :: rest)))) → (s == tg || (u == tg || false)) = b → BT (tTest (tOp (rInA K) (tOp (rIxA P w K) (tVar 2) (tC (.int 0))) (tTup (tCons (tC (.str s)) (tCons (tC (.str u)) tNil))))) Γ M b :=
        fun {tg s u rest Γ M b} g e => bt_test (et_eq (T := DT K (.bool b)) (et_op (et_item g (at0 _ _)) (et_tupD (K := K) (ead_cons et_str (ead_cons et_str ead_nil)) (by show 2 ≤ sizeLine; decide)) (rx_inT (d := .str tg) rfl rfl)) (by rw [← e]; rfl))
      cases t with
      | thn a b =>
        refine st_seq (st_if (b := false) (inF (by rw [Txt.toD]; rfl) (by decide +kernel)) (fun h => nomatch h) fun _ => ?_)
        refine st_if (b := false) (tagF (by rw [Txt.toD]; rfl) (by decide +kernel) (by decide +kernel) (by decide +kernel)) (fun h => nomatch h) fun _ => ?_
        refine st_if (b := true) (tagF (by rw [Txt.toD]; rfl) (by decide +kernel) (by decide +kernel) (by decide +kernel)) (fun _ => ?_) fun h => nomatch h
        refine st_set (ew_of (T := tab (.thn a b)) (et_eq (et_call (ok := fun a : Nat × (Nat → Row) × (Nat → Row) => N3 a.1) (n, sem n Ps Cs a, sem n Ps Cs b) hn (ea_cons (et_var rfl) (ea_cons (et_op (et_var rfl) (et_int (K := K)) (rx_ixO (j := 0) rfl rfl)) (ea_cons (et_op (et_var rfl) (et_int (K := K)) (rx_ixO (j := 0) rfl rfl)) ea_nil)))) ?_) ?_)
        · show _ = tabT P w K n (sem n Ps Cs (.thn a b))
          rw [sem]
          rfl
        · refine fin _ li _ more hz (mid_mono hm (by simp [Txt.kids1])) ?_ rfl rfl rfl
          rw [hml, Txt.size]
          simp [Txt.kids1]
          omega
      | ite y a b =>
        refine st_seq (st_if (b := false) (inF (by rw [Txt.toD]; rfl) (by decide +kernel)) (fun h => nomatch h) fun _ => ?_)
        refine st_if (b := true) (tagF (by rw [Txt.toD]; rfl) (by decide +kernel) (by decide +kernel) (by decide +kernel)) (fun _ => ?_) fun h => nomatch h
        refine st_set (ew_of (T := tab (.ite y a b)) (lcT (f := fun s => dctT P w K n (sem n Ps Cs (.ite y a b) s)) (ix_R (ea_cons (et_var rfl) ea_nil) (by omega)) (fun s _ => gt_name) (fun _ => rfl) (fun s hs => et_if (b := y.contains s) (bt_test (et_op (et_var rfl) (et_item (ds := [.str "if", setD y, a.toD, b.toD]) (by rw [Txt.toD]; rfl) rfl) (rx_inN s y)))
          (fun c => et_eq (et_op (et_op (et_var rfl) (et_int (K := K)) (rx_ixO (j := 0) (T := tab a) rfl rfl)) (et_var rfl) (rx_tab (List.mem_range.mp hs))) ?_) (fun c => et_eq (et_op (et_op (et_var rfl) (et_int (K := K)) (rx_ixO (j := 0) (T := tab b) rfl rfl)) (et_var rfl) (rx_tab (List.mem_range.mp hs))) ?_)) (sz100 (by rw [List.length_range]; omega))) ?_)
        · rw [sem]
          simp only [c, if_true]
        · rw [sem]
          simp only [c, Bool.false_eq_true, if_false]
        · refine fin _ li _ more hz (mid_mono hm (by simp [Txt.kids1])) ?_ rfl rfl rfl
          rw [hml, Txt.size]
          simp [Txt.kids1]
          omega
      | skip =>
        refine st_seq (st_if (b := false) (inF (by rw [Txt.toD]; rfl) (by decide +kernel)) (fun h => nomatch h) fun _ => ?_)
        refine st_if (b := false) (tagF (by rw [Txt.toD]; rfl) (by decide +kernel) (by decide +kernel) (by decide +kernel)) (fun h => nomatch h) fun _ => ?_
        refine st_if (b := false) (tagF (by rw [Txt.toD]; rfl) (by decide +kernel) (by decide +kernel) (by decide +kernel)) (fun h => nomatch h) fun _ => ?_
        refine st_if (b := false) (inF (by rw [Txt.toD]; rfl) (by decide +kernel)) (fun h => nomatch h) fun _ => ?_
        refine st_set (ew_of (T := tab .skip) (et_eq (et_call (ok := fun a : Nat × List Nat × Bool => N3 a.1 ∧ a.2.1.length = a.1) (n, List.range n, true) ⟨hn, List.length_range⟩ (ea_cons (et_var rfl) (ea_cons (et_if (b := true) (tagF (by rw [Txt.toD]; rfl) (by decide +kernel) (by decide +kernel) (by decide +kernel)) (fun _ => et_listRg (et_var rfl) (by omega)) fun h => nomatch h) ea_nil))) ?_) ?_)
        · refine tab_congr fun s hs => ?_
          rw [sem]
          show (fun x : List Nat => x.contains ((List.range n).getD s 0)) = fun x => x.contains s
          rw [List.getD_eq_getElem?_getD, List.getElem?_range hs]
          rfl
        · exact fin _ li _ more hz (mid_mono hm (by simp [Txt.kids1])) (by rw [hml]; rfl) rfl rfl rfl
      | go tb =>
        rw [Txt.Ok] at hok
        refine st_seq (st_if (b := false) (inF (by rw [Txt.toD]; rfl) (by decide +kernel)) (fun h => nomatch h) fun _ => ?_)
        refine st_if (b := false) (tagF (by rw [Txt.toD]; rfl) (by decide +kernel) (by decide +kernel) (by decide +kernel)) (fun h => nomatch h) fun _ => ?_
        refine st_if (b := false) (tagF (by rw [Txt.toD]; rfl) (by decide +kernel) (by decide +kernel) (by decide +kernel)) (fun h => nomatch h) fun _ => ?_
        refine st_if (b := false) (inF (by rw [Txt.toD]; rfl) (by decide +kernel)) (fun h => nomatch h) fun _ => ?_
        refine st_set (ew_of (T := tab (.go tb)) (et_eq (et_call (ok := fun a : Nat × List Nat × Bool => N3 a.1 ∧ a.2.1.length = a.1) (n, tb, false) ⟨hn, hok.1⟩ (ea_cons (et_var rfl) (ea_cons (et_if (b := false) (tagF (by rw [Txt.toD]; rfl) (by decide +kernel) (by decide +kernel) (by decide +kernel)) (fun h => nomatch h) fun _ => et_item (ds := [.str "go", setD tb]) (by rw [Txt.toD]; rfl) rfl) ea_nil))) ?_) ?_)
        · show _ = tabT P w K n (sem n Ps Cs (.go tb))
          rw [sem]
          rfl
        · exact fin _ li _ more hz (mid_mono hm (by simp [Txt.kids1])) (by rw [hml]; rfl) rfl rfl rfl
      | call k =>
        rw [Txt.Ok] at hok
        refine st_seq (st_if (b := false) (inF (by rw [Txt.toD]; rfl) (by decide +kernel)) (fun h => nomatch h) fun _ => ?_)
        refine st_if (b := false) (tagF (by rw [Txt.toD]; rfl) (by decide +kernel) (by decide +kernel) (by decide +kernel)) (fun h => nomatch h) fun _ => ?_
        refine st_if (b := false) (tagF (by rw [Txt.toD]; rfl) (by decide +kernel) (by decide +kernel) (by decide +kernel)) (fun h => nomatch h) fun _ => ?_
        refine st_if (b := true) (inF (by rw [Txt.toD]; rfl) (by decide +kernel)) (fun _ => ?_) fun h => nomatch h
        refine st_set (ew_of (T := tab (.call k)) (et_eq (et_op (et_if (b := true) (tagF (by rw [Txt.toD]; rfl) (by decide +kernel) (by decide +kernel) (by decide +kernel)) (fun _ => et_fldO T.c_Tables T.n_Tables_calls (j := 1) rfl (et_var rfl) rfl) fun h => nomatch h) (et_item (ds := [.str "call", dn k]) (by rw [Txt.toD]; rfl) rfl) (rx_ixL (T := tabT P w K n (Cs k)) (atI_nat (by rw [List.getElem?_map, List.getElem?_range hok]; rfl)))) ?_) ?_)
        · show _ = tabT P w K n (sem n Ps Cs (.call k))
          rw [sem]
        · exact fin _ li _ more hz (mid_mono hm (by simp [Txt.kids1])) (by rw [hml]; rfl) rfl rfl rfl
      | part k =>
        rw [Txt.Ok] at hok
        refine st_seq (st_if (b := false) (inF (by rw [Txt.toD]; rfl) (by decide +kernel)) (fun h => nomatch h) fun _ => ?_)
        refine st_if (b := false) (tagF (by rw [Txt.toD]; rfl) (by decide +kernel) (by decide +kernel) (by decide +kernel)) (fun h => nomatch h) fun _ => ?_
        refine st_if (b := false) (tagF (by rw [Txt.toD]; rfl) (by decide +kernel) (by decide +kernel) (by decide +kernel)) (fun h => nomatch h) fun _ => ?_
        refine st_if (b := true) (inF (by rw [Txt.toD]; rfl) (by decide +kernel)) (fun _ => ?_) fun h => nomatch h
        refine st_set (ew_of (T := tab (.part k)) (et_eq (et_op (et_if (b := false) (tagF (by rw [Txt.toD]; rfl) (by decide +kernel) (by decide +kernel) (by decide +kernel)) (fun h => nomatch h) fun _ => et_fldO T.c_Tables T.n_Tables_parts (j := 1) rfl (et_var rfl) rfl) (et_item (ds := [.str "part", dn k]) (by rw [Txt.toD]; rfl) rfl) (rx_ixL (T := tabT P w K n (Ps k)) (atI_nat (by rw [List.getElem?_map, List.getElem?_range hok]; rfl)))) ?_) ?_)
        · show _ = tabT P w K n (sem n Ps Cs (.part k))
          rw [sem]
        · exact fin _ li _ more hz (mid_mono hm (by simp [Txt.kids1])) (by rw [hml]; rfl) rfl rfl rfl
      | ch we kl =>
        rw [Txt.Ok] at hok
        have hm0 : more = [] := List.eq_nil_of_length_eq_zero (by rw [hml]; rfl)
        subst hm0
        refine st_seq (st_if (b := true) (inF (by rw [Txt.toD]; rfl) (by cases we <;> decide +kernel)) (fun _ => ?_) fun h => nomatch h)
        have hsz : (kl.map Txt.size).sum + 1 = (Txt.ch we kl).size := by
          rw [size_kids]
          show _ = 1 + (kl.map Txt.size).sum
          omega
        have hk6 : kl.length ≤ 6 := hok.1
        refine st_seq (st_set (ew_lc (xs := kl.zipIdx) (gT := fun u => TupT K [DT K (dn u.2), DT K u.1.toD]) (ws := fun u => [(5, DT K (dn u.2)), (6, DT K u.1.toD)]) (fun i Ts M => ∃ more, Mid p i more ∧ more.length = ((kl.take i).map Txt.size).sum ∧ Ts = (kl.take i).map tab ∧ M = [(li, lstC (([] : List Txt).map tab)), (self, insC 766 fds), (l, kdC P w K l (es ++ more))])
          (ix_E (g := Txt.toD) (ea_cons (et_item (ds := [.str (sideT we), .tuple (kl.map Txt.toD)]) (by rw [Txt.toD, toDs_map]; rfl) rfl) ea_nil)) (fun u _ => gt_tup (gts_cons gt_name (gts_cons gt_name gts_nil)) rfl) (fun _ => rfl) ⟨[], mid_nil p 0, rfl, rfl, rfl⟩ ?_ (Nat.lt_of_le_of_lt (by rw [List.length_zipIdx]; exact hk6) (by decide)) ?_))
        · rintro i u _ _ hu ⟨more, hm2, hml2, rfl, rfl⟩
          refine ⟨rfl, fun O' => ?_⟩
          obtain ⟨hk, hui⟩ := zip_at hu
          have hmem := List.mem_of_getElem? hk
          have ht := size_take hk
          have hle := size_take_le kl (i + 1)
          refine call O' _ _ _ more i u.1 _ hmem hm2 (by omega) (ea_cons (et_eq (et_place rfl rfl (by omega)) (by rw [hui])) (ea_cons (et_var rfl) ea_nil)) rfl (List.mem_cons_of_mem _ List.mem_cons_self) (List.mem_cons_of_mem _ (List.mem_cons_of_mem _ List.mem_cons_self)) (memq li _ more hz) fun new hnew hnl => ?_
          rw [memu li _ more (more ++ new) hz]
          refine ⟨rfl, more ++ new, mid_next hm2 hnew, ?_, ?_, rfl⟩
          · rw [List.length_append, hml2, hnl, ht]
          · rw [take_succ_at hk, List.map_append]
            rfl
        · rintro _ _ - ⟨more, hm2, hml2, rfl, rfl⟩ -
          rw [List.length_zipIdx, List.take_length] at hml2
          rw [List.length_zipIdx] at hm2
          rw [List.length_zipIdx, List.take_length]
          refine st_set (ew_of (T := tab (.ch we kl)) (et_eq (et_call (ok := fun a : Nat × Bool × List (Nat → Row) => N3 a.1 ∧ a.2.2.length < 1000) (n, we, kl.map (sem n Ps Cs)) ⟨hn, by show (kl.map _).length < 1000; rw [List.length_map]; omega⟩ (ea_cons (et_var rfl) (ea_cons (et_item (ds := [.str (sideT we), .tuple (kl.map Txt.toD)]) (by rw [Txt.toD, toDs_map]; rfl) rfl) (ea_cons (et_eq (et_var rfl) (by rw [List.map_map]; rfl)) ea_nil)))) ?_) ?_)
          · show _ = tabT P w K n (sem n Ps Cs (.ch we kl))
            rw [sem, sems_map]
            rfl
          · exact fin _ li _ more hz (mid_mono hm2 (by omega)) (by omega) rfl rfl rfl
end
end Tw
end
/-! W7 -/
section
set_option Elab.async false
set_option linter.all false
set_option autoImplicit false
set_option maxRecDepth 100000
set_option maxHeartbeats 4000000
/-! The walk: rounds. -/
namespace Tw
open PySem PySem.Spec PyProof.Rows L2
structure InitA where
  self : Addr
  n : Nat
  many : Nat
  ts : List Txt
  Ps : Nat → Nat → Row
  Cs : Nat → Nat → Row

section
variable {P : Program} {w : World} {K : PySem.W.Frag} {mg : PySem.Str → Option Value} {base : Heap}
/-- the dict of places: it has at least the texts' own places -/
def atT (P : Program) (w : World) (K : PySem.W.Frag) (n : Nat) (ts : List Txt) (Ps Cs : Nat → Nat → Row) : Ty := XT (fun es : List (NK × Ty) => ∀ k, k < ts.length → es.lookup (keyP (k, [])) = some (tabT P w K n (sem n Ps Cs (txtAt ts k)))) (fun es => KdT P w K es)
abbrev tblF (P : Program) (w : World) (K : PySem.W.Frag) (n many : Nat) (ts : List Txt) (Ps Cs : Nat → Nat → Row) : Fds := layF P w K n many ts Ps Cs (atT P w K n ts Ps Cs)
abbrev tblT (P : Program) (w : World) (K : PySem.W.Frag) (n many : Nat) (ts : List Txt) (Ps Cs : Nat → Nat → Row) : Ty := InsT 766 (tblF P w K n many ts Ps Cs)
theorem lookup_app {k : NK} {T : Ty} : ∀ {es fs : List (NK × Ty)}, es.lookup k = some T → (es ++ fs).lookup k = some T
  | [], _, h => nomatch h
  | (k', T') :: es, fs, h => by
    rw [List.cons_append, List.lookup_cons]
    rw [List.lookup_cons] at h
    split at h
    · exact h
    · exact lookup_app h
theorem lookup_new {k : NK} {T : Ty} : ∀ {es : List (NK × Ty)}, (∀ e ∈ es, e.1 ≠ k) → (es ++ [(k, T)]).lookup k = some T
  | [], _ => by
    rw [List.nil_append, List.lookup_cons, beq_self_eq_true]
  | (k', T') :: es, h => by
    rw [List.cons_append, List.lookup_cons, beq_eq_false_iff_ne.mpr (Ne.symm (h _ List.mem_cons_self))]
    exact lookup_new fun e he => h e (List.mem_cons_of_mem _ he)
def PreE (i : Nat) (es : List (NK × Ty)) : Prop := ∀ e ∈ es, ∃ j q, j < i ∧ e.1 = keyP (j, q)
theorem pre_nil (i : Nat) : PreE i [] := fun _ h => nomatch h
def sp_Tables___init__ (P : Program) (w : World) (K : PySem.W.Frag) : Sp := spG (fun a : InitA => SysOk a.n a.many a.ts) (fun a => [(a.self, insC 766 [])]) (fun a => [VT (.ref a.self), DT K (sysD a.n a.many a.ts), tabsT P w K a.n a.many a.Ps, tabsT P w K a.n a.ts.length a.Cs])
  (fun a T M => T = DT K .none ∧ M = [(a.self, insC 766 (tblF P w K a.n a.many a.ts a.Ps a.Cs))])
theorem ok_Tables___init__ (T : Tx K mg) : FnOk P w K mg base CX0 18 aTables___init__ (fdAt K aTables___init__) P_Tables___init__ (sp_Tables___init__ P w K) := by
  have ih := ok_Tables_lay (P := P) (w := w) (base := base) T 12
  refine fn_ok T.d_Tables___init__ sc_Tables___init__ (fun _ => rfl) fun cdv A outer s H E hr => ⟨_, (pss_cons (sFldK (K := K) rfl (pv 0) (pv 1) rfl) (pss_cons (sFldK (K := K) rfl (pv 0) (pv 2) rfl) (pss_cons (sFldK (K := K) rfl (pv 0) (pv 3) rfl) (pss_cons (sFldK (K := K) rfl (pv 0) (kdnewK (P := P) (w := w) rfl rfl) rfl) (pss_one (ps_for PassesOwn.never rfl (pi_enumT rfl T.f_enumerate (pa_cons (pe_ix (ixK (P := P) (w := w) (K := K) rfl rfl rfl (hu10 hr)) (pv 1) (pe_int) (fun _ _ => rfl)) pa_nil)) (tupK (K := K) (n := 2) rfl rfl (pgs_cons (pg_name (i := 4) sc_Tables___init__.nd rfl (by first | exact Or.inl rfl | exact Or.inr rfl)) (pgs_cons (pg_name (i := 5) sc_Tables___init__.nd rfl (by first | exact Or.inl rfl | exact Or.inr rfl)) pgs_nil))) (pss_one (ps_expr (pe_meth (pv 0) T.c_Tables T.m_Tables_lay ih (hr.mono (by omega)) T.b_Tables_lay .nil pass0 (pa_cons (pe_tup (pa_cons (pv 4) (pa_cons (pe_tup pa_nil) pa_nil))) (pa_cons (pv 5) pa_nil))))))))))), ?_⟩
  rintro ⟨self, n, many, ts, Ps, Cs⟩ O hs ⟨-, hO⟩
  have hs : SysOk n many ts := hs
  have h0s : O.H0 self ≠ none := hO _ List.mem_cons_self
  let tab : Txt → Ty := fun u => tabT P w K n (sem n Ps Cs u)
  refine st_seq (st_fld T.c_Tables T.n_Tables_system rfl (ew_of (et_var rfl) ⟨0, [], rfl, (by decide : 0 < 1000), ?_⟩))
  refine st_seq (st_fld T.c_Tables T.n_Tables_parts rfl (ew_of (et_var rfl) ⟨0, _, rfl, (by decide : 1 < 1000), ?_⟩))
  refine st_seq (st_fld T.c_Tables T.n_Tables_calls rfl (ew_of (et_var rfl) ⟨0, _, rfl, (by decide : 2 < 1000), ?_⟩))
  refine st_seq (st_fld T.c_Tables T.n_Tables_at rfl (ew_kd (K := K) fun l hz => ⟨1, _, rfl, (by decide : 3 < 1000), ?_⟩))
  have hne : self ≠ l := fun e => h0s (e ▸ hz)
  refine st_ghost (st_for (xs := ts.zipIdx) (gT := fun u => TupT K [DT K (dn u.2), DT K u.1.toD]) (ws := fun u => [(4, DT K (dn u.2)), (5, DT K u.1.toD)])
    (fun i Γ M => ∃ o4 o5, ∃ es : List (NK × Ty), PreE i es ∧ (∀ k : Nat, k < i → k < ts.length → es.lookup (keyP (k, [])) = some (tab (txtAt ts k))) ∧ es.length = ((ts.take i).map Txt.size).sum ∧
      Γ = [some (VT (.ref self)), some (DT K (sysD n many ts)), some (tabsT P w K n many Ps), some (tabsT P w K n ts.length Cs), o4, o5] ∧ M = [(l, kdC P w K l es), (self, insC 766 (layF P w K n many ts Ps Cs (VT (.ref l))))])
    (ix_E (ea_cons (et_item rfl rfl) ea_nil)) (fun u _ => gt_tup (gts_cons gt_name (gts_cons gt_name gts_nil)) rfl) ⟨none, none, [], pre_nil 0, fun k h => absurd h (Nat.not_lt_zero k), rfl, rfl, rfl⟩ ?_ ?_)
  · rintro i u _ _ hu ⟨o4, o5, es, he, hl, hlen, rfl, rfl⟩
    obtain ⟨hk, hui⟩ := zip_at hu
    have hmem := List.mem_of_getElem? hk
    have h12 := hs.dep _ hmem
    have hsz := hs.size _ hmem
    have h4 := hs.l4
    have ht := size_take hk
    have hb : ∀ j, ((ts.take j).map Txt.size).sum ≤ 1000 * ts.length := by
      have : ∀ l : List Txt, (∀ t ∈ l, t.size ≤ 1000) → (l.map Txt.size).sum ≤ 1000 * l.length := by
        intro l
        induction l with
        | nil => exact fun _ => Nat.zero_le _
        | cons t l ih =>
          intro h
          have h1 := h t List.mem_cons_self
          have h2 := ih fun u hu => h u (List.mem_cons_of_mem _ hu)
          rw [List.map_cons, List.sum_cons, List.length_cons]
          omega
      intro j
      exact Nat.le_trans (size_take_le ts j) (this ts hs.size)
    have hbi := hb i
    have hfresh : Fresh es (i, []) := fun e hh q c => by
      obtain ⟨j, q', h1, h2⟩ := he e hh
      rw [h2] at c
      have := congrArg Prod.fst (keyP_inj c)
      have : j = i := this
      omega
    refine st_drop (ew_meth (ok := LayOk 12) (⟨self, l, n, many, ts, Ps, Cs, es, (i, []), u.1⟩ : LayA) ⟨hs.n3, hs.ok _ hmem, h12, by show 0 + u.1.dep ≤ 100; omega, by show es.length + u.1.size ≤ 100000; omega, hne, hfresh⟩ rfl ?_ ?_ (List.mem_cons_of_mem _ List.mem_cons_self) rfl (et_var rfl) (ea_cons (et_eq (et_tupD (K := K) (ead_cons (et_var rfl) (ead_cons (et_tupD ead_nil (by show 0 ≤ sizeLine; decide)) ead_nil)) (by show 2 ≤ sizeLine; decide)) (by rw [hui]; rfl)) (ea_cons (et_var rfl) ea_nil)) ?_)
    · intro m hm
      rcases List.mem_cons.mp hm with rfl | hm
      · exact List.mem_cons_of_mem _ List.mem_cons_self
      · rw [List.mem_singleton.mp hm]
        exact List.mem_cons_self
    · show [self, l].Nodup
      simp [hne]
    · rintro T' M' ⟨rfl, more, hml, hmm, rfl⟩
      refine ⟨[(l, kdC P w K l (es ++ (more ++ [(keyP (i, []), tab u.1)]))), (self, insC 766 (layF P w K n many ts Ps Cs (VT (.ref l))))], rfl, ?_, _, _, es ++ (more ++ [(keyP (i, []), tab u.1)]), ?_, ?_, ?_, rfl, rfl⟩
      · intro m hm
        left
        rcases List.mem_cons.mp hm with rfl | hm
        · exact List.mem_cons_of_mem _ List.mem_cons_self
        · rw [List.mem_singleton.mp hm]
          exact List.mem_cons_self
      · intro e hh
        rcases List.mem_append.mp hh with hh | hh
        · obtain ⟨j, q, h1, h2⟩ := he e hh
          exact ⟨j, q, by omega, h2⟩
        · rcases List.mem_append.mp hh with hh | hh
          · obtain ⟨j, q, _, h2⟩ := hmm e hh
            exact ⟨i, _, by omega, h2⟩
          · rw [List.mem_singleton.mp hh]
            exact ⟨i, _, by omega, rfl⟩
      · intro k hk1 hk2
        by_cases c : k < i
        · exact lookup_app (hl k c hk2)
        · have hki : k = i := by omega
          subst hki
          have hu1 : txtAt ts k = u.1 := by
            unfold txtAt
            rw [List.getD_eq_getElem?_getD, hk]
            rfl
          rw [hu1, ← List.append_assoc]
          refine lookup_new fun e hh => ?_
          rcases List.mem_append.mp hh with hh | hh
          · have := hfresh e hh []
            exact this
          · obtain ⟨j, q, _, h2⟩ := hmm e hh
            rw [h2]
            intro c2
            have := congrArg Prod.snd (keyP_inj c2)
            simp at this
      · rw [List.length_append, List.length_append, List.length_singleton, hml, hlen, ht]
  · rintro _ _ ⟨o4, o5, es, he, hl, hlen, rfl, rfl⟩
    rw [List.length_zipIdx] at hl
    refine gh_freezeF (i := 0) (j := 0) rfl hz rfl (fs' := tblF P w K n many ts Ps Cs) (fun I gs hk hf => ?_) ⟨_, _, ⟨rfl, rfl⟩, .non, List.Sublist.refl _⟩
    cases hf with
    | cons a1 hf =>
      cases hf with
      | cons a2 hf =>
        cases hf with
        | cons a3 hf =>
          cases hf with
          | cons a4 hf =>
            cases hf
            refine .cons a1 (.cons a2 (.cons a3 (.cons ⟨a4.1, es, fun k hk => hl k hk hk, ?_⟩ .nil)))
            have e4 := a4.2
            rw [show _ = V.ref l from e4]
            exact hk
def sp_roots (P : Program) (w : World) (K : PySem.W.Frag) : Sp := spP (fun a : Nat × Nat × List Txt × (Nat → Nat → Row) × (Nat → Nat → Row) => a.2.2.1.length ≤ 4) (fun a => [tblT P w K a.1 a.2.1 a.2.2.1 a.2.2.2.1 a.2.2.2.2]) (fun a => tabsT P w K a.1 a.2.2.1.length fun k => sem a.1 a.2.2.2.1 a.2.2.2.2 (txtAt a.2.2.1 k))
theorem ok_Tables_roots (T : Tx K mg) : FnOk P w K mg base CX0 1 aTables_roots (fdAt K aTables_roots) P_Tables_roots (sp_roots P w K) := by
  refine fn_ok T.d_Tables_roots sc_Tables_roots (fun _ => rfl) fun cdv A outer s H E hr => ⟨_, (pss_one (ps_ret (pe_lc (own := [("k", 1)]) (tt := tYes) rfl sc_Tables_roots.nd (pi_range1 rfl T.f_range (pa_cons (pe_callB (lenK (K := K) rfl) rfl T.f_len bt_len (pa_cons (pe_ix (ixK (P := P) (w := w) (K := K) rfl rfl rfl (hu10 hr)) (fldK (K := K) rfl (pv 0) rfl) (pe_int) (fun _ _ => rfl)) pa_nil)) pa_nil)) (blkOk_by (N := N_Tables_roots) (sc := defScope sTables_roots) (by decide +kernel)) (fun _ _ _ _ _ => (pg_name (i := 1) sc_Tables_roots.nd rfl (by first | exact Or.inl rfl | exact Or.inr rfl))) (fun _ _ _ _ _ => pts_nil) (fun _ _ _ _ _ => (pe_ix (ixK (P := P) (w := w) (K := K) rfl rfl rfl (hu10 hr)) (fldK (K := K) rfl (pv 0) rfl) (pe_tup (pa_cons (pv 1) (pa_cons (pe_tup pa_nil) pa_nil))) (fun _ _ => rfl)))))), ?_⟩
  rintro ⟨n, many, ts, Ps, Cs⟩ O h4 hO
  have h4 : ts.length ≤ 4 := h4
  refine st_ret (ew_of (lcT (f := fun k => tabT P w K n (sem n Ps Cs (txtAt ts k))) (ix_R (n := ts.length) (ea_cons (et_cb (ea_cons (et_op (et_fld T.c_Tables T.n_Tables_system (et_var rfl) rfl) (et_int (K := K)) (rx_ixTD rfl)) ea_nil) (et_eq_cx (cx_lenTD (ds := ts.map Txt.toD)) (by rw [List.length_map]))) ea_nil) (by omega)) (fun k _ => gt_name) (fun _ => rfl)
    (fun k hk => et_op (et_fld T.c_Tables T.n_Tables_at (et_var rfl) rfl) (et_eq (et_tupD (K := K) (ead_cons (et_var rfl) (ead_cons (et_tupD ead_nil (by show 0 ≤ sizeLine; decide)) ead_nil)) (by show 2 ≤ sizeLine; decide)) (T := DT K (keyP (k, [])).data) (by rw [keyP_data]; rfl)) (rx_x1 fun es he => rx_ixK (he k (List.mem_range.mp hk)) (keyP_depth _) rfl)) (sz100 (by rw [List.length_range]; omega))) (rt_P (Sub.refl _)))
end
end Tw
namespace Tw
open PySem PySem.Spec PyProof.Rows L2
open Evl (Ex ex_l ex_t ex_rd)
section
variable {P : Program} {w : World} {K : PySem.W.Frag} {mg : PySem.Str → Option Value} {base : Heap}
/-! ### == of tables -/
theorem dct_eq {X : Cx} {I H : Hp} (e : Ex I H) {n : Nat} {f g : Row} {x y : V} (hx : (dctT X.prog X.w X.K n f).r I x) (hy : (dctT X.prog X.w X.K n g).r I y) : EqDct X H x y (decide ((allS n).map f = (allS n).map g)) := by
  obtain ⟨a, xs, rfl, ha, hra⟩ := hx
  obtain ⟨b, ys, rfl, hb, hrb⟩ := hy
  have vals : ∀ {f : Row} {l : List (List Nat)} {zs : List Ent}, KdR X.K I (l.map fun x => (keyS x, DT X.K (.bool (f x)))) zs → zs.map (·.2.2) = List.map V.bl (l.map f) := by
    intro f l
    induction l with
    | nil =>
      intro zs h
      cases h
      rfl
    | cons z l ih =>
      intro zs h
      cases h with
      | cons h1 h2 =>
        rw [List.map_cons, List.map_cons, List.map_cons, ih h2, dt_bl h1.2.1]
  refine ⟨a, b, xs, ys, (allS n).map f, (allS n).map g, rfl, rfl, ⟨e _ _ ha, fun z hz => ⟨dpp_ex e _ _ (hra.mem z hz).1, (hra.mem z hz).2⟩⟩, ⟨e _ _ hb, fun z hz => ⟨dpp_ex e _ _ (hrb.mem z hz).1, (hrb.mem z hz).2⟩⟩, ?_, vals hra, vals hrb, rfl⟩
  rw [hra.keys, hrb.keys, List.map_map, List.map_map]
  rfl
/-- the tables are alike -/
def tabB (n : Nat) (F G : Nat → Row) : Bool := ((List.range n).map fun s => decide ((allS n).map (F s) = (allS n).map (G s))).all id
def tabsB (n cnt : Nat) (F G : Nat → Nat → Row) : Bool := ((List.range cnt).map fun k => tabB n (F k) (G k)).all id
theorem lst_eq {K : PySem.W.Frag} {I H : Hp} (e : Ex I H) {R : EqQ} {α : Type} {xs : List α} {S T : α → Ty} {c : α → Bool} {x y : V} (h : ∀ a u v, (S a).r I u → (T a).r I v → R H u v (c a)) (hx : (LstT (xs.map S)).r I x) (hy : (LstT (xs.map T)).r I y) : EqLst K R H x y ((xs.map c).all id) := by
  obtain ⟨a, us, rfl, ha, hu⟩ := hx
  obtain ⟨b, vs, rfl, hb, hv⟩ := hy
  have l1 := hu.length
  have l2 := hv.length
  rw [List.length_map] at l1 l2
  refine ⟨a, b, us, vs, xs.map c, rfl, rfl, SqL.of (e _ _ ha), SqL.of (e _ _ hb), by omega, by rw [List.length_map]; omega, fun j u v d h1 h2 h3 => ?_, rfl⟩
  rw [List.getElem?_map] at h3
  cases hj : xs[j]? with
  | none =>
    rw [hj] at h3
    cases h3
  | some z =>
    rw [hj] at h3
    cases h3
    obtain ⟨u', q1, q2⟩ := hu.get (i := j) (T := S z) (by rw [List.getElem?_map, hj]; rfl)
    obtain ⟨v', r1, r2⟩ := hv.get (i := j) (T := T z) (by rw [List.getElem?_map, hj]; rfl)
    rw [h1] at q1
    rw [h2] at r1
    cases q1
    cases r1
    exact h z _ _ q2 r2
theorem rx_tabs {X : Cx} {M : Mem} {n cnt : Nat} {F G : Nat → Nat → Row} : RX (rEqQ (EqLst X.K (EqLst X.K (EqDct X)))) M (tabsT X.prog X.w X.K n cnt F) (tabsT X.prog X.w X.K n cnt G) (DT X.K (.bool (tabsB n cnt F G))) := fun O I H x y Q h0 hx hy q =>
  ⟨_, lst_eq h0.ex (fun k u v h1 h2 => lst_eq h0.ex (fun s u v h1 h2 => dct_eq h0.ex h1 h2) h1 h2) hx hy, q _ I H (Evl.Ex.refl I) h0 (.bl _)⟩
end
end Tw
end
/-! W8 -/
section
set_option Elab.async false
set_option linter.all false
set_option autoImplicit false
set_option maxRecDepth 100000
set_option maxHeartbeats 4000000
/-! The walk: values. -/
namespace Tw
open PySem PySem.Spec PyProof.Rows L2
theorem huE {k : Nat} {A : Around} (hr : Room k A) : A.units + (0 + 1 + 1) + 12 < cLine := by have := hr.un; omega
section
variable {P : Program} {w : World} {K : PySem.W.Frag} {mg : PySem.Str → Option Value} {base : Heap}
theorem ux_neg {M : Mem} {i : Int} : UX (rU fun i => .int (-i)) M (DT K (.int i)) (DT K (.int (-i))) := fun O I H x Q h0 a q => by
  cases dt_int a
  exact ⟨i, rfl, q _ I H (Evl.Ex.refl I) h0 (.int _)⟩
/-- at round m the rounds stand still -/
abbrev Still (n : Nat) (ts : List Txt) (Ps : Nat → Nat → Row) (b : Bool) (m : Nat) : Prop := tabsB n ts.length (rnd n ts Ps b (m + 1)) (rnd n ts Ps b m) = true
abbrev frontT (P : Program) (w : World) (K : PySem.W.Frag) (n many : Nat) (ts : List Txt) (Ps : Nat → Nat → Row) (b : Bool) (m : Nat) : List Ty := (List.range m).map fun j => tblT P w K n many ts Ps (rnd n ts Ps b j)
structure RndA where
  n : Nat
  many : Nat
  ts : List Txt
  ps : List (List Row)
  we : Bool
structure RndOk (a : RndA) : Prop where
  sys : SysOk a.n a.many a.ts
  parts : PartsOk a.n a.many a.ps
  ends : ∃ N, N < 1000 ∧ Still a.n a.ts (partF a.ps) (!a.we) N
def sp_raw_rounds (P : Program) (w : World) (K : PySem.W.Frag) : Sp := spP RndOk (fun a => [DT K (sysD a.n a.many a.ts), partsT K a.n a.ps, DT K (.str (sideT a.we))]) (fun a => XT (fun m => m < 1000 ∧ Still a.n a.ts (partF a.ps) (!a.we) m) fun m => LstT (frontT P w K a.n a.many a.ts (partF a.ps) (!a.we) (m + 1)))
theorem front_succ (n many : Nat) (ts : List Txt) (Ps : Nat → Nat → Row) (b : Bool) (m : Nat) : frontT P w K n many ts Ps b (m + 1) = frontT P w K n many ts Ps b m ++ [tblT P w K n many ts Ps (rnd n ts Ps b m)] := by
  unfold frontT
  rw [List.range_succ, List.map_append]
  rfl
theorem side_lay (we : Bool) : (PyData.str (sideT we)).canLay0 = true := by
  cases we <;> decide +kernel
theorem side_they (we : Bool) : PyData.eqv (.str (sideT we)) (.str "they") = !we := by
  cases we <;> decide +kernel
theorem ok_raw_rounds (T : Tx K mg) : FnOk P w K mg base CX0 20 araw_rounds (fdAt K araw_rounds) P_raw_rounds (sp_raw_rounds P w K) := by
  refine fn_ok T.d_raw_rounds sc_raw_rounds (fun _ => rfl) fun cdv A outer s H E hr => ⟨_, (pss_cons (ps_asg (pe_tup (pa_cons (pe_ix (ixK (P := P) (w := w) (K := K) rfl rfl rfl (hu10 hr)) (pv 0) (pe_int) (fun _ _ => rfl)) (pa_cons (pe_lc (own := [("part", 5)]) (tt := tYes) rfl sc_raw_rounds.nd (seqK (K := K) rfl (pv 1)) (blkOk_by (N := N_raw_rounds) (sc := defScope sraw_rounds) (by decide +kernel)) (fun _ _ _ _ _ => (pg_name (i := 5) sc_raw_rounds.nd rfl (by first | exact Or.inl rfl | exact Or.inr rfl))) (fun _ _ _ _ _ => pts_nil) (fun _ _ _ _ _ => (pe_call (ok_contract_table (P := P) (w := w) T) (hr.mono (by omega)) rfl T.g_contract_table T.d_contract_table.kp T.b_contract_table .nil pass0 (pa_cons (pe_ix (ixK (P := P) (w := w) (K := K) rfl rfl rfl (hu10 hr)) (pv 0) (pe_int) (fun _ _ => rfl)) (pa_cons (pv 5) pa_nil))))) pa_nil))) (tupK (K := K) (n := 2) rfl rfl (pgs_cons (pg_name (i := 3) sc_raw_rounds.nd rfl (by first | exact Or.inl rfl | exact Or.inr rfl)) (pgs_cons (pg_name (i := 4) sc_raw_rounds.nd rfl (by first | exact Or.inl rfl | exact Or.inr rfl)) pgs_nil)))) (pss_cons (ps_setLc (i := 6) (own := [("text", 7)]) (tt := tYes) rfl sc_raw_rounds.nd rfl rfl (sw_true rfl rfl rfl (by decide +kernel)) (seqK (K := K) rfl (pe_ix (ixK (P := P) (w := w) (K := K) rfl rfl rfl (hu10 hr)) (pv 0) (pe_int) (fun _ _ => rfl))) (blkOk_by (N := N_raw_rounds) (sc := defScope sraw_rounds) (by decide +kernel)) (fun _ _ _ _ _ => (pg_name (i := 7) sc_raw_rounds.nd rfl (by first | exact Or.inl rfl | exact Or.inr rfl))) (fun _ _ _ _ _ => pts_nil) (fun _ _ _ _ _ => (pe_call (ok_flat_table (P := P) (w := w) T) (hr.mono (by omega)) rfl T.g_flat_table T.d_flat_table.kp T.b_flat_table .nil pass0 (pa_cons (pv 3) (pa_cons (pe_cmpR (eqK (K := K) rfl (hu64 hr)) (pv 2) (pe_str) (nomark _)) pa_nil))))) (pss_cons (ps_set (i := 8) sc_raw_rounds.nd rfl (by first | exact Or.inl rfl | exact Or.inr rfl) (pe_lst pa_nil)) (pss_one (ps_while PassesOwn.never (pt_val (pe_bl)) (pss_cons (ps_expr (pe_bm PySem.F.plainAttrs_list PySem.F.slot_list_append PySem.F.type_list_append mt_append (pv 8) (pa_cons (pe_make T.k_Tables (ok_Tables___init__ (P := P) (w := w) T) (hr.mono (by omega)) rfl T.g_Tables T.b_Tables___init__ .nil pass0 (pa_cons (pv 0) (pa_cons (pv 4) (pa_cons (pv 6) pa_nil)))) pa_nil))) (pss_cons (ps_set (i := 9) sc_raw_rounds.nd rfl (by first | exact Or.inl rfl | exact Or.inr rfl) (pe_meth0 (pe_ix (ixK (P := P) (w := w) (K := K) rfl rfl rfl (hu10 hr)) (pv 8) (pe_un un_neg (pe_int)) (fun _ _ => rfl)) T.c_Tables T.m_Tables_roots (ok_Tables_roots (P := P) (w := w) T) (hr.mono (by omega)) T.b_Tables_roots .nil pass0)) (pss_cons (ps_if (pt_cmpR (op_eqQ (eqOk_lst (eqOk_lst eqOk_dct)) (huE hr)) (pv 9) (pv 6) (nomark _)) (pss_one (ps_ret (pv 8))) pss_nil) (pss_one (ps_set (i := 6) sc_raw_rounds.nd rfl (by first | exact Or.inl rfl | exact Or.inr rfl) (pv 9))))))))))), ?_⟩
  rintro ⟨n, many, ts, ps, we⟩ O ⟨hs, hp, N, hN, hst⟩ hO
  have hs : SysOk n many ts := hs
  have hp : PartsOk n many ps := hp
  have hn : N3 n := hs.n3
  have hst : Still n ts (partF ps) (!we) N := hst
  have h4 := hs.l4
  have hpl : ps.length = many := hp.1
  have hp3 : many ≤ 3 := hp.2.1
  refine st_seq (st_asg (ew_of (et_tup (K := K) (ea_cons (et_item rfl rfl) (ea_cons (et_eq (lcT (xs := ps) (f := fun p => tabT P w K n fun s => p.getD s fun _ => false) (ix_sLT (et_var rfl)) (fun p _ => gt_name) (fun _ => rfl) (fun p h => et_call (ok := fun a : Nat × List Row => N3 a.1 ∧ a.2.length = a.1) (n, p) ⟨hn, hp.2.2 p h⟩ (ea_cons (et_item rfl rfl) (ea_cons (et_var rfl) ea_nil))) (sz100 (by omega))) (T := tabsT P w K n many (partF ps)) ?_) ea_nil)) (by show 2 ≤ sizeLine; decide)) ⟨_, gt_tup (gts_cons gt_name (gts_cons gt_name gts_nil)) rfl, ?_⟩))
  · rw [map_range ps _ [], hpl]
    rfl
  refine st_seq (st_set (ew_of (T := tabsT P w K n ts.length (rnd n ts (partF ps) (!we) 0)) (et_eq (lcT (xs := ts) (f := fun _ => tabT P w K n fun _ _ => !we) (ix_sT (g := Txt.toD) (et_item rfl rfl)) (fun p _ => gt_name) (fun _ => rfl) (fun p h => et_call (ok := fun a : Nat × Bool => N3 a.1) (n, !we) hn (ea_cons (et_var rfl) (ea_cons (et_eq (et_op (et_var rfl) (et_str (K := K)) (rx_eq (shaped_str (side_lay we)) (shaped_str (by decide +kernel)))) (congrArg (fun b => DT K (.bool b)) (side_they we))) ea_nil))) (sz100 (by omega))) ?_) ?_))
  · rw [map_range ts _ .skip]
    rfl
  refine st_seq (st_set (ew_own fun l hz => ?_))
  let Fr := frontT P w K n many ts (partF ps) (!we)
  let R := rnd n ts (partF ps) (!we)
  refine st_while (fun m Γ M => ∃ i o5 o7 o9, i ≤ N ∧ m = N - i ∧ Γ = [some (DT K (sysD n many ts)), some (partsT K n ps), some (DT K (.str (sideT we))), some (DT K (dn n)), some (tabsT P w K n many (partF ps)), o5, some (tabsT P w K n ts.length (R i)), o7, some (VT (.ref l)), o9] ∧ M = [(l, lstC (Fr i))])
    ⟨_, 0, none, none, none, Nat.zero_le _, rfl, rfl, rfl⟩ ?_
  rintro m _ _ ⟨i, o5, o7, o9, hi, rfl, rfl, rfl⟩
  refine ⟨true, bt_B (et_bl (K := K)), fun _ => ?_, fun h => nomatch h⟩
  refine st_seq (st_app rfl ⟨0, _, rfl⟩ (ew_of (et_make (ok := fun a : InitA => SysOk a.n a.many a.ts) (fs := tblF P w K n many ts (partF ps) (R i)) (fun x => (⟨x, n, many, ts, partF ps, R i⟩ : InitA)) (fun _ => hs) (fun _ => rfl) (fun _ => rfl) (fun x S M' h => h) (ea_cons (et_var rfl) (ea_cons (et_var rfl) (ea_cons (et_var rfl) ea_nil)))) ⟨0, _, rfl, ?_, ?_⟩))
  · show ((List.range i).map _).length < sizeLine
    rw [List.length_map, List.length_range]
    exact sz100 (by omega)
  have hlast : L2.atI (Fr i ++ [tblT P w K n many ts (partF ps) (R i)]) (-1) = some (tblT P w K n many ts (partF ps) (R i)) := atI_last _ _
  refine st_seq (st_set (ew_of (et_meth (ok := fun a : Nat × Nat × List Txt × (Nat → Nat → Row) × (Nat → Nat → Row) => a.2.2.1.length ≤ 4) (fs := tblF P w K n many ts (partF ps) (R i)) (n, many, ts, partF ps, R i) h4 rfl rfl (et_op (et_var rfl) (et_un (et_int (K := K)) ux_neg) (rx_ixO (j := 0) rfl hlast)) ea_nil) ?_))
  refine st_seq (st_if (b := tabsB n ts.length (R (i + 1)) (R i)) (bt_test (et_op (et_var rfl) (et_var rfl) rx_tabs)) (fun hb => ?_) fun hb => st_next ?_)
  · refine st_freeze (i := 8) (j := 0) rfl rfl hz (st_ret (ew_of (et_var rfl) (rt_P ?_)))
    refine fun I v hv => ⟨i, ⟨by omega, hb⟩, ?_⟩
    show (LstT (frontT P w K n many ts (partF ps) (!we) (i + 1))).r I v
    rw [front_succ]
    exact hv
  · have hne : i ≠ N := fun e => by
      rw [e] at hb
      rw [show tabsB n ts.length (R (N + 1)) (R N) = true from hst] at hb
      cases hb
    refine st_set (ew_of (et_var rfl) ⟨N - (i + 1), by omega, i + 1, _, _, _, by omega, rfl, rfl, ?_⟩)
    show _ = [(l, lstC (frontT P w K n many ts (partF ps) (!we) (i + 1)))]
    rw [front_succ]
    rfl
end
end Tw
end
/-! W9 -/
section
set_option Elab.async false
set_option linter.all false
set_option autoImplicit false
set_option maxRecDepth 100000
set_option maxHeartbeats 4000000
namespace Tw
open PySem PySem.Spec PyProof.Rows L2
section
variable {P : Program} {w : World} {K : PySem.W.Frag} {mg : PySem.Str → Option Value} {base : Heap}
/-- the rows that a table's contract has -/
abbrev conR (n : Nat) (F : Nat → Row) : List Row := ((List.range n).map fun s => (allS n).filter (F s)).map famF
def sp_contract_of (P : Program) (w : World) (K : PySem.W.Frag) : Sp := spP (fun a : Nat × (Nat → Prop) × (Nat → Nat → Row) => N3 a.1) (fun a => [DT K (dn a.1), XT a.2.1 fun m => tabT P w K a.1 (a.2.2 m)]) (fun a => XT a.2.1 fun m => ConT K a.1 (conR a.1 (a.2.2 m)))
theorem ok_contract_of (T : Tx K mg) : FnOk P w K mg base CX0 6 acontract_of (fdAt K acontract_of) P_contract_of (sp_contract_of P w K) := by
  refine fn_ok T.d_contract_of sc_contract_of (fun _ => rfl) fun cdv A outer s H E hr => ⟨_, (pss_one (ps_ret (pe_make T.k_Contract (ok_Contract___init__ (P := P) (w := w) T) (hr.mono (by omega)) rfl T.g_Contract T.b_Contract___init__ .nil pass0 (pa_cons (pv 0) (pa_cons (pe_lc (own := [("row", 3)]) (tt := tYes) rfl sc_contract_of.nd (seqK (K := K) rfl (pv 1)) (blkOk_by (N := N_contract_of) (sc := defScope scontract_of) (by decide +kernel)) (fun _ _ _ _ _ => (pg_name (i := 3) sc_contract_of.nd rfl (by first | exact Or.inl rfl | exact Or.inr rfl))) (fun _ _ _ _ _ => pts_nil) (fun _ _ _ _ _ => (pe_lc (own := [("x", 2)]) rfl sc_contract_of.nd (seqK (K := K) rfl (pe_call (ok_all_sets (P := P) (w := w) T) (hr.mono (by omega)) rfl T.g_all_sets T.d_all_sets.kp T.b_all_sets .nil pass0 (pa_cons (pv 0) pa_nil))) (blkOk_by (by kernel_rfl)) (fun _ _ _ _ _ => (pg_name (i := 2) sc_contract_of.nd rfl (by first | exact Or.inl rfl | exact Or.inr rfl))) (fun _ _ _ _ _ => pts_one (pt_val (pe_ix (ixK (P := P) (w := w) (K := K) rfl rfl rfl (hu10 hr)) (pv 3) (pv 2) (fun _ _ => rfl)))) (fun _ _ _ _ _ => (pv 2))))) pa_nil))))), ?_⟩
  rintro ⟨n, p, G⟩ O hn hO
  have hn : N3 n := hn
  have hn' : 1 ≤ n ∧ n ≤ 3 := hn
  have hz : (allS n).length ≤ 8 := by
    obtain ⟨a, b⟩ := hn'
    obtain rfl | rfl | rfl : n = 1 ∨ n = 2 ∨ n = 3 := by omega
    all_goals decide
  refine st_open (i := 1) rfl fun m hm => ?_
  let F := G m
  refine st_ret (ew_of (et_contract n ((List.range n).map fun s => (allS n).filter (F s)) hn (by rw [List.length_map, List.length_range]; exact hn'.1) (by rw [List.length_map, List.length_range]; omega) ?_ (ea_cons (et_var rfl) (ea_cons (et_eq (lcD (K := K) (f := fun s => famD ((allS n).filter (F s))) (ix_sLT (xs := List.range n) (gT := fun s => dctT P w K n (F s)) (et_var rfl)) (fun s _ => gt_name) (fun _ => rfl)
      (fun s _ => et_eq (lcDIf (K := K) (p := fun x => F s x) (f := setD) (ix_sL (xs := allS n) (g := setD) (et_call (ok := fun n : Nat => N3 n) n hn (ea_cons (et_var rfl) ea_nil))) (fun x _ => gt_name) (fun _ => rfl) (fun x hx => bt_B (et_op (et_var rfl) (et_var rfl) (rx_dct hx))) (fun x hx _ => et_var rfl) (sz100 (by omega))) rfl) (sz100 (by rw [List.length_range]; omega))) ?_) ea_nil))) (rt_P (sub_x (F := fun m => ConT K n (conR n (G m))) m hm)))
  · intro ys h
    obtain ⟨s, hs, rfl⟩ := List.mem_map.mp h
    exact ⟨fun y hy => (List.mem_filter.mp hy).1, Nat.le_trans (List.length_filter_le _ _) (by omega)⟩
  · rw [List.map_map]
    rfl
end
end Tw
end
/-! W10 -/
section
set_option Elab.async false
set_option linter.all false
set_option autoImplicit false
set_option maxRecDepth 100000
set_option maxHeartbeats 4000000
namespace Tw
open PySem PySem.Spec PyProof.Rows L2
section
variable {P : Program} {w : World} {K : PySem.W.Frag} {mg : PySem.Str → Option Value} {base : Heap}

theorem et_fldX {α : Type} {p : α → Prop} {Γ : TEnv} {M : Mem} {te : TE} {C : Addr} {f : Str} {fs : α → Fds} {T : α → Ty} (hc : Cls K C) (hn : NoAttr K C f) (h : ET te Γ M (XT p fun a => InsT C (fs a))) (hf : ∀ a, p a → (fs a).lookup f = some (T a)) : ET (tFld K te f) Γ M (XT p T) := fun O σ I H Q e h0 q =>
  h O σ I H _ e h0 fun v I1 H1 e1 h1 ⟨a, pa, x, dx, gs, g1, g2, g3⟩ => by
    obtain ⟨u, hu, r⟩ := g3.look (hf a pa)
    exact ⟨x, C, dx, gs, u, g1, h1.ex _ _ g2, hc, hn, hu, q u I1 H1 e1 h1 ⟨a, pa, r⟩⟩

def sp_raw_value (P : Program) (w : World) (K : PySem.W.Frag) : Sp := spP (fun a : RndA × Nat => RndOk a.1 ∧ a.2 < a.1.ts.length) (fun a => [DT K (sysD a.1.n a.1.many a.1.ts), partsT K a.1.n a.1.ps, DT K (dn a.2), DT K (.str (sideT a.1.we))])
  (fun a => XT (fun m => m < 1000 ∧ Still a.1.n a.1.ts (partF a.1.ps) (!a.1.we) m) fun m => ConT K a.1.n (conR a.1.n (rnd a.1.n a.1.ts (partF a.1.ps) (!a.1.we) m a.2)))
theorem ok_raw_value (T : Tx K mg) : FnOk P w K mg base CX0 21 araw_value (fdAt K araw_value) P_raw_value (sp_raw_value P w K) := by
  refine fn_ok T.d_raw_value sc_raw_value (fun _ => rfl) fun cdv A outer s H E hr => ⟨_, (pss_one (ps_ret (pe_call (ok_contract_of (P := P) (w := w) T) (hr.mono (by omega)) rfl T.g_contract_of T.d_contract_of.kp T.b_contract_of .nil pass0 (pa_cons (pe_ix (ixK (P := P) (w := w) (K := K) rfl rfl rfl (hu10 hr)) (pv 0) (pe_int) (fun _ _ => rfl)) (pa_cons (pe_ix (ixK (P := P) (w := w) (K := K) rfl rfl rfl (hu10 hr)) (fldK (K := K) rfl (pe_ix (ixK (P := P) (w := w) (K := K) rfl rfl rfl (hu10 hr)) (pe_call (ok_raw_rounds (P := P) (w := w) T) (hr.mono (by omega)) rfl T.g_raw_rounds T.d_raw_rounds.kp T.b_raw_rounds .nil pass0 (pa_cons (pv 0) (pa_cons (pv 1) (pa_cons (pv 3) pa_nil)))) (pe_un un_neg (pe_int)) (fun _ _ => rfl)) rfl) (pv 2) (fun _ _ => rfl)) pa_nil))))), ?_⟩
  rintro ⟨a, k⟩ O ⟨hr, hk⟩ hO
  have hr : RndOk a := hr
  have hk : k < a.ts.length := hk
  let p : Nat → Prop := fun m => m < 1000 ∧ Still a.n a.ts (partF a.ps) (!a.we) m
  let R := rnd a.n a.ts (partF a.ps) (!a.we)
  refine st_ret (ew_of (et_call (ok := fun a : Nat × (Nat → Prop) × (Nat → Nat → Row) => N3 a.1) (a.n, p, fun m => R m k) hr.sys.n3 (ea_cons (et_item rfl rfl) (ea_cons
    (et_op (et_fldX (p := p) (fs := fun m => tblF P w K a.n a.many a.ts (partF a.ps) (R m)) (T := fun m => tabsT P w K a.n a.ts.length (R m)) T.c_Tables T.n_Tables_calls (et_op (et_call (ok := RndOk) a hr (ea_cons (et_var rfl) (ea_cons (et_var rfl) (ea_cons (et_var rfl) ea_nil)))) (et_un (et_int (K := K)) ux_neg) (rx_x1 fun m hm => rx_sub (rx_ixL (T := tblT P w K a.n a.many a.ts (partF a.ps) (R m)) ?_) (sub_x (F := fun m => tblT P w K a.n a.many a.ts (partF a.ps) (R m)) m hm))) fun m _ => rfl) (et_var rfl) (rx_x1 fun m hm => rx_sub (rx_ixL (atI_nat (by rw [List.getElem?_map, List.getElem?_range hk]; rfl))) (sub_x (F := fun m => tabT P w K a.n (R m k)) m hm))) ea_nil))) (rt_P (Sub.refl _)))
  rw [front_succ]
  exact atI_last _ _
end
end Tw
end
/-! W11 -/
section
set_option Elab.async false
set_option linter.all false
set_option autoImplicit false
set_option maxRecDepth 100000
set_option maxHeartbeats 4000000
namespace Tw
open PySem PySem.Spec PyProof.Rows L2
section
variable {P : Program} {w : World} {K : PySem.W.Frag} {mg : PySem.Str → Option Value} {base : Heap}


def sp_value_of (P : Program) (w : World) (K : PySem.W.Frag) : Sp := spP (fun a : RndA × Nat => (RndOk a.1 ∧ smallB a.1.ts = true) ∧ a.2 < a.1.ts.length) (fun a => [DT K (sysD a.1.n a.1.many a.1.ts), partsT K a.1.n a.1.ps, DT K (dn a.2), DT K (.str (sideT a.1.we))])
  (fun a => XT (fun m => m < 1000 ∧ Still a.1.n a.1.ts (partF a.1.ps) (!a.1.we) m) fun m => ConT K a.1.n (conR a.1.n (rnd a.1.n a.1.ts (partF a.1.ps) (!a.1.we) m a.2)))
theorem ok_value_of (T : Tx K mg) : FnOk P w K mg base CX0 22 avalue_of (fdAt K avalue_of) P_value_of (sp_value_of P w K) := by
  refine fn_ok T.d_value_of sc_value_of (fun _ => rfl) fun cdv A outer s H E hr => ⟨_, (pss_cons (ps_expr (pe_call (ok_need_parts (P := P) (w := w) T) (hr.mono (by omega)) rfl T.g_need_parts T.d_need_parts.kp T.b_need_parts .nil pass0 (pa_cons (pv 0) (pa_cons (pv 1) pa_nil)))) (pss_cons (ps_expr (pe_call (ok_need_name (P := P) (w := w) T) (hr.mono (by omega)) rfl T.g_need_name T.d_need_name.kp T.b_need_name .nil pass0 (pa_cons (pv 0) (pa_cons (pv 2) pa_nil)))) (pss_cons (ps_expr (pe_call (ok_need_word (P := P) (w := w) T) (hr.mono (by omega)) rfl T.g_need_word T.d_need_word.kp T.b_need_word .nil pass0 (pa_cons (pv 3) pa_nil))) (pss_one (ps_ret (pe_call (ok_raw_value (P := P) (w := w) T) (hr.mono (by omega)) rfl T.g_raw_value T.d_raw_value.kp T.b_raw_value .nil pass0 (pa_cons (pv 0) (pa_cons (pv 1) (pa_cons (pv 2) (pa_cons (pv 3) pa_nil)))))))))), ?_⟩
  rintro ⟨a, k⟩ O ⟨⟨hr, hsm⟩, hk⟩ hO
  have hr : RndOk a := hr
  have hk : k < a.ts.length := hk
  refine st_seq (st_drop (ew_of (et_call (ok := fun a : Nat × Nat × List Txt × List (List Row) => (SysOk a.1 a.2.1 a.2.2.1 ∧ smallB a.2.2.1 = true) ∧ PartsOk a.1 a.2.1 a.2.2.2) (a.n, a.many, a.ts, a.ps) ⟨⟨hr.sys, hsm⟩, hr.parts⟩ (ea_cons (et_var rfl) (ea_cons (et_var rfl) ea_nil))) ?_))
  refine st_seq (st_drop (ew_of (et_call (ok := fun a : Nat × Nat × List Txt × Nat => a.2.2.2 < a.2.2.1.length) (a.n, a.many, a.ts, k) hk (ea_cons (et_var rfl) (ea_cons (et_var rfl) ea_nil))) ?_))
  refine st_seq (st_drop (ew_of (et_call (ok := fun _ : Bool => True) a.we trivial (ea_cons (et_var rfl) ea_nil)) ?_))
  exact st_ret (ew_of (et_call (ok := fun a : RndA × Nat => RndOk a.1 ∧ a.2 < a.1.ts.length) (a, k) ⟨hr, hk⟩ (ea_cons (et_var rfl) (ea_cons (et_var rfl) (ea_cons (et_var rfl) (ea_cons (et_var rfl) ea_nil))))) (rt_P (Sub.refl _)))
end
end Tw
end
/-! W12 -/
section
set_option Elab.async false
set_option linter.all false
set_option autoImplicit false
set_option maxRecDepth 100000
set_option maxHeartbeats 4000000
namespace Tw
open PySem PySem.Spec PyProof.Rows L2
section
variable {P : Program} {w : World} {K : PySem.W.Frag} {mg : PySem.Str → Option Value} {base : Heap}



abbrev setTxt (n : Nat) (x : List Nat) : Txt := .ch false (x.map fun t => .go (List.replicate n t))
abbrev famTxt (n : Nat) (ys : List (List Nat)) : Txt := .ch true (ys.map (setTxt n))
def sp_text_of_set (K : PySem.W.Frag) : Sp := spP (fun a : Nat × List Nat => N3 a.1 ∧ a.2.length ≤ 3) (fun a => [DT K (dn a.1), DT K (setD a.2)]) (fun a => DT K (setTxt a.1 a.2).toD)
theorem ok_text_of_set (T : Tx K mg) : FnOk P w K mg base CX0 1 atext_of_set (fdAt K atext_of_set) P_text_of_set (sp_text_of_set K) := by
  refine fn_ok T.d_text_of_set sc_text_of_set (fun _ => rfl) fun cdv A outer s H E hr => ⟨_, (pss_one (ps_ret (pe_tup (pa_cons (pe_str) (pa_cons (tupOfK (K := K) rfl rfl T.f_tuple (pe_lc (own := [("t", 2)]) (tt := tYes) rfl sc_text_of_set.nd (seqK (K := K) rfl (pv 1)) (blkOk_by (N := N_text_of_set) (sc := defScope stext_of_set) (by decide +kernel)) (fun _ _ _ _ _ => (pg_name (i := 2) sc_text_of_set.nd rfl (by first | exact Or.inl rfl | exact Or.inr rfl))) (fun _ _ _ _ _ => pts_nil) (fun _ _ _ _ _ => (pe_tup (pa_cons (pe_str) (pa_cons (pe_op (mulK (K := K) rfl) (pe_tup (pa_cons (pv 2) pa_nil)) (pv 0)) pa_nil)))))) pa_nil))))), ?_⟩
  rintro ⟨n, x⟩ O ⟨hn, hx⟩ hO
  have hn : N3 n := hn
  have hx : x.length ≤ 3 := hx
  have hm : ∀ t : Nat, TupT K (List.replicate n [DT K (dn t)]).flatten = DT K (setD (List.replicate n t)) := fun t => by
    rw [show (List.replicate n [DT K (dn t)]).flatten = ((List.replicate n t).map dn).map (DT K) from by rw [List.map_replicate, List.map_replicate, List.flatten_replicate_singleton], tt_dt]
  refine st_ret (ew_of (et_eq (et_tupD (K := K) (ead_cons (et_str (K := K)) (ead_cons (et_tupleLD (lcD (K := K) (f := fun t => PyData.tuple [.str "go", setD (List.replicate n t)]) (ix_sT (xs := x) (g := dn) (et_var rfl)) (fun t _ => gt_name) (fun _ => rfl)
    (fun t _ => et_tupD (K := K) (ead_cons (et_str (K := K)) (ead_cons (et_eq (et_op (et_tup (K := K) (ea_cons (et_var rfl) ea_nil) (by show 1 ≤ sizeLine; decide)) (et_var rfl) (rx_mulT (n := n) hn.1 (Nat.le_trans hn.2 (by decide)) (by show 0 < 1; decide) (by show 1 ≤ 1000; decide))) (hm t)) ead_nil)) (by show 2 ≤ sizeLine; decide)) (sz100 (by omega)))) ead_nil)) (by show 2 ≤ sizeLine; decide)) ?_) (rt_P (Sub.refl _)))
  show DT K (.tuple [.str "they", .tuple _]) = DT K (.tuple [.str "they", .tuple (Txt.toDs _)])
  rw [toDs_map, List.map_map]
  rfl
def sp_text_of_family (K : PySem.W.Frag) : Sp := spP (fun a : Nat × List (List Nat) => N3 a.1 ∧ (∀ y ∈ a.2, y.length ≤ 3) ∧ a.2.length ≤ 40) (fun a => [DT K (dn a.1), DT K (famD a.2)]) (fun a => DT K (famTxt a.1 a.2).toD)
theorem ok_text_of_family (T : Tx K mg) : FnOk P w K mg base CX0 2 atext_of_family (fdAt K atext_of_family) P_text_of_family (sp_text_of_family K) := by
  refine fn_ok T.d_text_of_family sc_text_of_family (fun _ => rfl) fun cdv A outer s H E hr => ⟨_, (pss_one (ps_ret (pe_tup (pa_cons (pe_str) (pa_cons (tupOfK (K := K) rfl rfl T.f_tuple (pe_lc (own := [("x", 2)]) (tt := tYes) rfl sc_text_of_family.nd (seqK (K := K) rfl (pv 1)) (blkOk_by (N := N_text_of_family) (sc := defScope stext_of_family) (by decide +kernel)) (fun _ _ _ _ _ => (pg_name (i := 2) sc_text_of_family.nd rfl (by first | exact Or.inl rfl | exact Or.inr rfl))) (fun _ _ _ _ _ => pts_nil) (fun _ _ _ _ _ => (pe_call (ok_text_of_set (P := P) (w := w) T) (hr.mono (by omega)) rfl T.g_text_of_set T.d_text_of_set.kp T.b_text_of_set .nil pass0 (pa_cons (pv 0) (pa_cons (pv 2) pa_nil)))))) pa_nil))))), ?_⟩
  rintro ⟨n, ys⟩ O ⟨hn, hx, hz⟩ hO
  have hn : N3 n := hn
  have hx : ∀ y ∈ ys, y.length ≤ 3 := hx
  have hz : ys.length ≤ 40 := hz
  refine st_ret (ew_of (et_eq (et_tupD (K := K) (ead_cons (et_str (K := K)) (ead_cons (et_tupleLD (lcD (K := K) (f := fun y => (setTxt n y).toD) (ix_sL (xs := ys) (g := setD) (et_var rfl)) (fun t _ => gt_name) (fun _ => rfl)
    (fun y hy => et_call (ok := fun a : Nat × List Nat => N3 a.1 ∧ a.2.length ≤ 3) (n, y) ⟨hn, hx y hy⟩ (ea_cons (et_var rfl) (ea_cons (et_var rfl) ea_nil))) (sz100 (by omega)))) ead_nil)) (by show 2 ≤ sizeLine; decide)) ?_) (rt_P (Sub.refl _)))
  show DT K (.tuple [.str "we", .tuple _]) = DT K (.tuple [.str "we", .tuple (Txt.toDs _)])
  rw [toDs_map, List.map_map]
  rfl
end
end Tw
end
/-! W13 -/
section
set_option Elab.async false
set_option linter.all false
set_option autoImplicit false
set_option maxRecDepth 100000
set_option maxHeartbeats 4000000
namespace Tw
open PySem PySem.Spec PyProof.Rows L2
section
variable {P : Program} {w : World} {K : PySem.W.Frag} {mg : PySem.Str → Option Value} {base : Heap}




theorem fnInD {x q : Str} {ar : Arguments} {bo : List Stmt} {sc : Scope} {dv : List V} {kw : List (Str × V)} {f : Addr} {fd : FuncData} (h : FunD K x q ar bo sc dv kw f fd) : PySem.W.fnIn K f = true := by
  obtain ⟨⟨oc, od, dV, kV, doc, pm, an, cdv, ct, osl, _, hl, _⟩, _⟩ := h
  unfold PySem.W.fnIn
  rw [hl]
/-- the text that written makes, down from state n - 1 to state i -/
def wrTxt (n : Nat) (Fs : List Row) : Nat → Txt
  | 0 => famTxt n ((allS n).filter (leastS (Fs.getD (n - 1) fun _ => false)))
  | i + 1 => .ite [n - 2 - i] (famTxt n ((allS n).filter (leastS (Fs.getD (n - 2 - i) fun _ => false)))) (wrTxt n Fs i)
def sp_written (K : PySem.W.Frag) : Sp := spP (fun a : Nat × List Row => N3 a.1 ∧ a.2.length = a.1) (fun a => [ConT K a.1 a.2]) (fun a => DT K (wrTxt a.1 a.2 (a.1 - 1)).toD)
theorem ok_written (T : Tx K mg) : FnOk P w K mg base CX0 8 awritten (fdAt K awritten) P_written (sp_written K) := by
  refine fn_ok T.d_written sc_written (fun _ => rfl) fun cdv A outer s H E hr => ⟨_, (pss_cons (ps_expr (pe_call (ok_need_contract (P := P) (w := w) T) (hr.mono (by omega)) rfl T.g_need_contract T.d_need_contract.kp T.b_need_contract .nil pass0 (pa_cons (pv 0) pa_nil))) (pss_cons (ps_if (pt_cmpR (neK (K := K) rfl (hu64 hr)) (pe_prop (pv 0) T.c_Contract T.p_Contract_states.choose_spec (ok_Contract_states (P := P) (w := w) T) (hr.mono (by omega)) T.b_Contract_states .nil pass0 rfl) (pe_prop (pv 0) T.c_Contract T.p_Contract_ends.choose_spec (ok_Contract_ends (P := P) (w := w) T) (hr.mono (by omega)) T.b_Contract_ends .nil pass0 rfl) (nomark _)) (pss_one (ps_never)) pss_nil) (pss_cons (ps_set (i := 1) sc_written.nd rfl (by first | exact Or.inl rfl | exact Or.inr rfl) (pe_prop (pv 0) T.c_Contract T.p_Contract_states.choose_spec (ok_Contract_states (P := P) (w := w) T) (hr.mono (by omega)) T.b_Contract_states .nil pass0 rfl)) (pss_cons (ps_set (i := 2) sc_written.nd rfl (by first | exact Or.inl rfl | exact Or.inr rfl) (pe_call (ok_text_of_family (P := P) (w := w) T) (hr.mono (by omega)) rfl T.g_text_of_family T.d_text_of_family.kp T.b_text_of_family .nil pass0 (pa_cons (pv 1) (pa_cons (pe_ownItem T.m_Contract___getitem__.at_ (fnInD T.d_Contract___getitem__) T.m_Contract___getitem__.fn (ok_Contract___getitem__ (P := P) (w := w) T) (hr.mono (by omega)) T.b_Contract___getitem__ (pv 0) (pe_op op_sub (pv 1) (pe_int))) pa_nil)))) (pss_cons (ps_for PassesOwn.never rfl (pi_range3 rfl T.f_range (pa_cons (pe_op op_sub (pv 1) (pe_int)) (pa_cons (pe_un un_neg (pe_int)) (pa_cons (pe_un un_neg (pe_int)) pa_nil)))) (pg_name (i := 3) sc_written.nd rfl (by first | exact Or.inl rfl | exact Or.inr rfl)) (pss_one (ps_set (i := 2) sc_written.nd rfl (by first | exact Or.inl rfl | exact Or.inr rfl) (pe_tup (pa_cons (pe_str) (pa_cons (pe_tup (pa_cons (pv 3) pa_nil)) (pa_cons (pe_call (ok_text_of_family (P := P) (w := w) T) (hr.mono (by omega)) rfl T.g_text_of_family T.d_text_of_family.kp T.b_text_of_family .nil pass0 (pa_cons (pv 1) (pa_cons (pe_ownItem T.m_Contract___getitem__.at_ (fnInD T.d_Contract___getitem__) T.m_Contract___getitem__.fn (ok_Contract___getitem__ (P := P) (w := w) T) (hr.mono (by omega)) T.b_Contract___getitem__ (pv 0) (pv 3)) pa_nil))) (pa_cons (pv 2) pa_nil)))))))) (pss_one (ps_ret (pv 2)))))))), ?_⟩
  rintro ⟨n, Fs⟩ O ⟨hn, hl⟩ hO
  have hn : N3 n := hn
  have hl : Fs.length = n := hl
  refine st_seq (st_drop (ew_of (et_call (ok := fun _ : Nat × List Row => True) (n, Fs) trivial (ea_cons (et_var rfl) ea_nil)) ?_))
  refine st_seq (st_if (b := false) (bt_eq (bt_test (et_op (et_prop (ok := fun _ : Nat × List Row => True) (n, Fs) trivial rfl (et_var rfl)) (et_prop (ok := fun _ : Nat × List Row => True) (n, Fs) trivial rfl (et_var rfl)) (rx_ne rfl rfl))) ?_) (fun h => nomatch h) fun _ => st_next ?_)
  · show (!PyData.eqv (dn Fs.length) (dn n)) = false
    rw [hl]
    simp [PyData.eqv]
  refine st_seq (st_set (ew_of (et_eq (et_prop (ok := fun _ : Nat × List Row => True) (n, Fs) trivial rfl (et_var rfl)) (T := DT K (dn n)) (congrArg (fun m => DT K (dn m)) hl)) ?_))
  let ys := fun s => (allS n).filter (leastS (Fs.getD s fun _ => false))
  have hys : ∀ s, (∀ y ∈ ys s, y.length ≤ 3) ∧ (ys s).length ≤ 40 := fun s => ⟨fun y hy => allS_small n hn y (List.mem_filter.mp hy).1, Nat.le_trans (List.length_filter_le _ _) (by rw [allS_len n hn]; exact Nat.le_trans (Nat.pow_le_pow_right (by decide) hn.2) (by decide))⟩
  have h1 : 1 ≤ n := hn.1
  refine st_seq (st_set (ew_of (et_call (ok := fun a : Nat × List (List Nat) => N3 a.1 ∧ (∀ y ∈ a.2, y.length ≤ 3) ∧ a.2.length ≤ 40) (n, ys (n - 1)) ⟨hn, hys _⟩ (ea_cons (et_var rfl) (ea_cons (et_ownItem (ok := fun a : Nat × List Row × Nat => N3 a.1 ∧ a.2.2 < a.2.1.length) (n, Fs, n - 1) ⟨hn, by show n - 1 < Fs.length; omega⟩ rfl (et_var rfl) (et_eq (et_op (et_var rfl) (et_int (K := K)) rx_subI) (congrArg (fun i => DT K (.int i)) (by show (n : Int) - 1 = ((n - 1 : Nat) : Int); omega)))) ea_nil))) ?_))
  have hlen : (List.range (n - 1)).reverse.length = n - 1 := by rw [List.length_reverse, List.length_range]
  refine st_seq (st_for (xs := (List.range (n - 1)).reverse) (gT := fun i => DT K (.int (i : Nat))) (ws := fun i => [(3, DT K (dn i))])
    (fun i Γ M => ∃ o, Γ = [some (ConT K n Fs), some (DT K (dn n)), some (DT K (wrTxt n Fs i).toD), o] ∧ M = []) (ix_R3 (n := n - 1) (ea_cons (et_eq (et_op (et_var rfl) (et_int (K := K)) rx_subI) (congrArg (fun i => DT K (.int i)) (by omega))) (ea_cons (et_un (et_int (K := K)) ux_neg) (ea_cons (et_un (et_int (K := K)) ux_neg) ea_nil))) (by omega)) (fun _ _ => gt_name) ⟨_, rfl, rfl⟩ ?_ ?_)
  · rintro i s' _ _ hi ⟨o, rfl, rfl⟩
    have hlt : i < n - 1 := by
      have := (List.getElem?_eq_some_iff.mp hi).1
      rw [hlen] at this
      exact this
    have hs' : s' = n - 2 - i := by
      rw [List.getElem?_reverse (by rw [List.length_range]; exact hlt), List.length_range, List.getElem?_range (by omega)] at hi
      have := Option.some.inj hi
      omega
    refine st_set (ew_of (et_eq (et_tupD (K := K) (ead_cons (et_str (K := K)) (ead_cons (et_tupD (K := K) (ead_cons (et_var rfl) ead_nil) (by show 1 ≤ sizeLine; decide)) (ead_cons (et_call (ok := fun a : Nat × List (List Nat) => N3 a.1 ∧ (∀ y ∈ a.2, y.length ≤ 3) ∧ a.2.length ≤ 40) (n, ys s') ⟨hn, hys _⟩ (ea_cons (et_var rfl) (ea_cons (et_ownItem (ok := fun a : Nat × List Row × Nat => N3 a.1 ∧ a.2.2 < a.2.1.length) (n, Fs, s') ⟨hn, by show s' < Fs.length; omega⟩ rfl (et_var rfl) (et_var rfl)) ea_nil))) (ead_cons (et_var rfl) ead_nil)))) (by show 4 ≤ sizeLine; decide)) (T := DT K (wrTxt n Fs (i + 1)).toD) ?_) ⟨_, rfl, rfl⟩)
    rw [hs']
    rfl
  · rintro _ _ ⟨o, rfl, rfl⟩
    rw [hlen]
    exact st_ret (ew_of (et_var rfl) (rt_P (Sub.refl _)))
end
end Tw
end
/-! TwM4 -/
section
set_option linter.all false
set_option autoImplicit false
/-! The plain law: monotone tables, rounds, least and greatest. -/
namespace Tw
/-- the order of a side: false: up, true: down -/
def Le (b x y : Bool) : Prop := if b = true then (y = true → x = true) else (x = true → y = true)
theorem le_refl (b x : Bool) : Le b x x := by
  unfold Le
  split <;> exact fun h => h
theorem le_trans {b x y z : Bool} (h : Le b x y) (k : Le b y z) : Le b x z := by
  unfold Le at h k ⊢
  split at h
  · rename_i e
    rw [if_pos e] at k ⊢
    exact fun q => h (k q)
  · rename_i e
    rw [if_neg e] at k ⊢
    exact fun q => k (h q)
theorem le_flip {b x y : Bool} : Le (!b) x y ↔ Le b y x := by cases b <;> exact Iff.rfl
theorem le_anti {b x y : Bool} (h : Le b x y) (k : Le b y x) : x = y := by
  cases b <;> cases x <;> cases y <;> first | rfl | exact absurd (h rfl) (by decide) | exact absurd (k rfl) (by decide)
theorem le_bot (b x : Bool) : Le b b x := by cases b <;> cases x <;> simp [Le]
theorem le_imp {x y : Bool} : Le false x y ↔ (x = true → y = true) := Iff.rfl
theorem le_impT {x y : Bool} : Le true x y ↔ (y = true → x = true) := Iff.rfl
def LeT (n : Nat) (b : Bool) (F G : Nat → Row) : Prop := ∀ s, s < n → ∀ x ∈ allS n, Le b (F s x) (G s x)
def EqT (n : Nat) (F G : Nat → Row) : Prop := ∀ s, s < n → ∀ x ∈ allS n, F s x = G s x
def LeC (n cnt : Nat) (b : Bool) (Cs Ds : Nat → Nat → Row) : Prop := ∀ k, k < cnt → LeT n b (Cs k) (Ds k)
def EqC (n cnt : Nat) (Cs Ds : Nat → Nat → Row) : Prop := ∀ k, k < cnt → EqT n (Cs k) (Ds k)
def Up (n : Nat) (F : Nat → Row) : Prop := ∀ s, s < n → ∀ x ∈ allS n, ∀ y ∈ allS n, sub x y = true → F s x = true → F s y = true
def UpC (n cnt : Nat) (Cs : Nat → Nat → Row) : Prop := ∀ k, k < cnt → Up n (Cs k)
section
variable {n cnt many : Nat} {b : Bool} {F G H : Nat → Row} {Cs Ds Es Ps Qs : Nat → Nat → Row}
theorem LeT.refl : LeT n b F F := fun _ _ _ _ => le_refl _ _
theorem LeT.trans (h : LeT n b F G) (k : LeT n b G H) : LeT n b F H := fun s hs x hx => le_trans (h s hs x hx) (k s hs x hx)
theorem LeT.flip (h : LeT n b F G) : LeT n (!b) G F := fun s hs x hx => le_flip.mpr (h s hs x hx)
theorem LeT.anti (h : LeT n b F G) (k : LeT n b G F) : EqT n F G := fun s hs x hx => le_anti (h s hs x hx) (k s hs x hx)
theorem EqT.le (h : EqT n F G) : LeT n b F G := fun s hs x hx => h s hs x hx ▸ le_refl _ _
theorem EqT.symm (h : EqT n F G) : EqT n G F := fun s hs x hx => (h s hs x hx).symm
theorem EqT.trans (h : EqT n F G) (k : EqT n G H) : EqT n F H := fun s hs x hx => (h s hs x hx).trans (k s hs x hx)
theorem EqT.refl : EqT n F F := fun _ _ _ _ => rfl
theorem LeC.trans (h : LeC n cnt b Cs Ds) (k : LeC n cnt b Ds Es) : LeC n cnt b Cs Es := fun i hi => (h i hi).trans (k i hi)
theorem LeC.refl : LeC n cnt b Cs Cs := fun _ _ => LeT.refl
theorem EqC.le (h : EqC n cnt Cs Ds) : LeC n cnt b Cs Ds := fun i hi => (h i hi).le
theorem EqC.symm (h : EqC n cnt Cs Ds) : EqC n cnt Ds Cs := fun i hi => (h i hi).symm
theorem EqC.trans (h : EqC n cnt Cs Ds) (k : EqC n cnt Ds Es) : EqC n cnt Cs Es := fun i hi => (h i hi).trans (k i hi)
theorem EqC.refl : EqC n cnt Cs Cs := fun _ _ => EqT.refl
theorem LeC.anti (h : LeC n cnt b Cs Ds) (k : LeC n cnt b Ds Cs) : EqC n cnt Cs Ds := fun i hi => (h i hi).anti (k i hi)
theorem sub_of {x y : List Nat} : sub x y = true ↔ ∀ t ∈ x, t ∈ y := by
  unfold sub
  rw [List.all_eq_true]
  exact ⟨fun h t ht => List.contains_iff_mem.mp (h t ht), fun h t ht => List.contains_iff_mem.mpr (h t ht)⟩
theorem mem_pre {x : List Nat} {t : Nat} : t ∈ pre n F x ↔ t < n ∧ F t x = true := by
  unfold pre
  rw [List.mem_filter, List.mem_range]
theorem pre_congr {x : List Nat} (hx : x ∈ allS n) (h : EqT n F G) : pre n F x = pre n G x := List.filter_congr fun t ht => h t (List.mem_range.mp ht) x hx
theorem sem_ch_any {we : Bool} {l : List Txt} {s : Nat} {x : List Nat} : sem n Ps Cs (.ch we l) s x = if we then l.any (fun t => sem n Ps Cs t s x) else l.all (fun t => sem n Ps Cs t s x) := by
  show (fun s x => if we then (sems n Ps Cs l).any (fun F => F s x) else (sems n Ps Cs l).all (fun F => F s x)) s x = _
  rw [sems_map]
  simp only [List.any_map, List.all_map]
  rfl
theorem sem_ite {z : List Nat} {a c : Txt} {s : Nat} {x : List Nat} : sem n Ps Cs (.ite z a c) s x = if z.contains s then sem n Ps Cs a s x else sem n Ps Cs c s x := rfl
theorem sem_thn {a c : Txt} {s : Nat} {x : List Nat} : sem n Ps Cs (.thn a c) s x = sem n Ps Cs a s (pre n (sem n Ps Cs c) x) := rfl
theorem any_le {α : Type} {l : List α} {f g : α → Bool} (h : ∀ a ∈ l, Le b (f a) (g a)) : Le b (l.any f) (l.any g) := by
  cases b
  · intro q
    obtain ⟨a, ha, hf⟩ := List.any_eq_true.mp q
    exact List.any_eq_true.mpr ⟨a, ha, h a ha hf⟩
  · intro q
    obtain ⟨a, ha, hf⟩ := List.any_eq_true.mp q
    exact List.any_eq_true.mpr ⟨a, ha, h a ha hf⟩
theorem all_le {α : Type} {l : List α} {f g : α → Bool} (h : ∀ a ∈ l, Le b (f a) (g a)) : Le b (l.all f) (l.all g) := by
  cases b
  · intro q
    rw [List.all_eq_true] at q ⊢
    exact fun a ha => h a ha (q a ha)
  · intro q
    rw [List.all_eq_true] at q ⊢
    exact fun a ha => h a ha (q a ha)
theorem sem_up (hn : N3 n) (hc : UpC n cnt Cs) (hp : UpC n many Ps) : ∀ t : Txt, t.Ok n cnt many → Up n (sem n Ps Cs t)
  | .skip, _ => fun s hs x hx y hy h q => by
    rw [sem] at q ⊢
    exact List.contains_iff_mem.mpr (sub_of.mp h _ (List.contains_iff_mem.mp q))
  | .go ts, _ => fun s hs x hx y hy h q => by
    rw [sem] at q ⊢
    exact List.contains_iff_mem.mpr (sub_of.mp h _ (List.contains_iff_mem.mp q))
  | .call k, h => by
    rw [Txt.Ok] at h
    rw [sem]
    exact hc k h
  | .part k, h => by
    rw [Txt.Ok] at h
    rw [sem]
    exact hp k h
  | .thn a c, h => fun s hs x hx y hy h2 q => by
    rw [Txt.Ok] at h
    rw [sem_thn] at q ⊢
    have ia := sem_up hn hc hp a h.1
    have ic := sem_up hn hc hp c h.2
    refine ia s hs _ (pre_mem hn _ _) _ (pre_mem hn _ _) (sub_of.mpr fun t ht => ?_) q
    rw [mem_pre] at ht ⊢
    exact ⟨ht.1, ic t ht.1 x hx y hy h2 ht.2⟩
  | .ite z a c, h => fun s hs x hx y hy h2 q => by
    rw [Txt.Ok] at h
    have ia := sem_up hn hc hp a h.2.1
    have ic := sem_up hn hc hp c h.2.2
    rw [sem_ite] at q ⊢
    split at q
    · rename_i e
      rw [if_pos e]
      exact ia s hs x hx y hy h2 q
    · rename_i e
      rw [if_neg e]
      exact ic s hs x hx y hy h2 q
  | .ch we l, h => fun s hs x hx y hy h2 q => by
    rw [Txt.Ok] at h
    have il : ∀ t ∈ l, Up n (sem n Ps Cs t) := sem_ups hn hc hp l h.2
    rw [sem_ch_any] at q ⊢
    cases we
    · rw [if_neg Bool.false_ne_true, List.all_eq_true] at q ⊢
      exact fun t ht => il t ht s hs x hx y hy h2 (q t ht)
    · rw [if_pos rfl] at q ⊢
      obtain ⟨t, ht, e⟩ := List.any_eq_true.mp q
      exact List.any_eq_true.mpr ⟨t, ht, il t ht s hs x hx y hy h2 e⟩
where sem_ups (hn : N3 n) (hc : UpC n cnt Cs) (hp : UpC n many Ps) : ∀ l : List Txt, Txt.Oks n cnt many l → ∀ t ∈ l, Up n (sem n Ps Cs t)
  | [], _, t, ht => nomatch ht
  | u :: l, h, t, ht => by
    rw [Txt.Oks] at h
    rcases List.mem_cons.mp ht with e | ht
    · rw [e]
      exact sem_up hn hc hp u h.1
    · exact sem_ups hn hc hp l h.2 t ht
/-- then, by its parts -/
theorem thn_le {F' G' : Nat → Row} (hn : N3 n) (h : LeT n b F F') (k : LeT n b G G') (u : Up n F') {s : Nat} (hs : s < n) {x : List Nat} (hx : x ∈ allS n) : Le b (F s (pre n G x)) (F' s (pre n G' x)) := by
  refine le_trans (h s hs _ (pre_mem hn _ _)) ?_
  cases b
  · intro q
    refine u s hs _ (pre_mem hn _ _) _ (pre_mem hn _ _) (sub_of.mpr fun t ht => ?_) q
    rw [mem_pre] at ht ⊢
    exact ⟨ht.1, k t ht.1 x hx ht.2⟩
  · intro q
    refine u s hs _ (pre_mem hn _ _) _ (pre_mem hn _ _) (sub_of.mpr fun t ht => ?_) q
    rw [mem_pre] at ht ⊢
    exact ⟨ht.1, k t ht.1 x hx ht.2⟩
theorem sem_le (hn : N3 n) (hc : LeC n cnt b Cs Ds) (hp : LeC n many b Ps Qs) (ud : UpC n cnt Ds) (uq : UpC n many Qs) : ∀ t : Txt, t.Ok n cnt many → LeT n b (sem n Ps Cs t) (sem n Qs Ds t)
  | .skip, _ => fun s hs x hx => le_refl _ _
  | .go ts, _ => fun s hs x hx => le_refl _ _
  | .call k, h => by
    rw [Txt.Ok] at h
    rw [sem, sem]
    exact hc k h
  | .part k, h => by
    rw [Txt.Ok] at h
    rw [sem, sem]
    exact hp k h
  | .thn a c, h => fun s hs x hx => by
    rw [Txt.Ok] at h
    rw [sem_thn, sem_thn]
    exact thn_le hn (sem_le hn hc hp ud uq a h.1) (sem_le hn hc hp ud uq c h.2) (sem_up hn ud uq a h.1) hs hx
  | .ite z a c, h => fun s hs x hx => by
    rw [Txt.Ok] at h
    have ia := sem_le hn hc hp ud uq a h.2.1
    have ic := sem_le hn hc hp ud uq c h.2.2
    rw [sem_ite, sem_ite]
    split
    · exact ia s hs x hx
    · exact ic s hs x hx
  | .ch we l, h => fun s hs x hx => by
    rw [Txt.Ok] at h
    have il : ∀ t ∈ l, LeT n b (sem n Ps Cs t) (sem n Qs Ds t) := sem_les hn hc hp ud uq l h.2
    rw [sem_ch_any, sem_ch_any]
    cases we
    · rw [if_neg Bool.false_ne_true, if_neg Bool.false_ne_true]
      exact all_le fun t ht => il t ht s hs x hx
    · rw [if_pos rfl, if_pos rfl]
      exact any_le fun t ht => il t ht s hs x hx
where sem_les (hn : N3 n) (hc : LeC n cnt b Cs Ds) (hp : LeC n many b Ps Qs) (ud : UpC n cnt Ds) (uq : UpC n many Qs) : ∀ l : List Txt, Txt.Oks n cnt many l → ∀ t ∈ l, LeT n b (sem n Ps Cs t) (sem n Qs Ds t)
  | [], _, t, ht => nomatch ht
  | u :: l, h, t, ht => by
    rw [Txt.Oks] at h
    rcases List.mem_cons.mp ht with e | ht
    · rw [e]
      exact sem_le hn hc hp ud uq u h.1
    · exact sem_les hn hc hp ud uq l h.2 t ht
/-- alike where it counts: alike -/
theorem sem_eq (hn : N3 n) (hc : EqC n cnt Cs Ds) (hp : EqC n many Ps Qs) : ∀ t : Txt, t.Ok n cnt many → EqT n (sem n Ps Cs t) (sem n Qs Ds t)
  | .skip, _ => fun s hs x hx => rfl
  | .go ts, _ => fun s hs x hx => rfl
  | .call k, h => by
    rw [Txt.Ok] at h
    rw [sem, sem]
    exact hc k h
  | .part k, h => by
    rw [Txt.Ok] at h
    rw [sem, sem]
    exact hp k h
  | .thn a c, h => fun s hs x hx => by
    rw [Txt.Ok] at h
    rw [sem_thn, sem_thn, pre_congr hx (sem_eq hn hc hp c h.2)]
    exact sem_eq hn hc hp a h.1 s hs _ (pre_mem hn _ _)
  | .ite z a c, h => fun s hs x hx => by
    rw [Txt.Ok] at h
    rw [sem_ite, sem_ite, sem_eq hn hc hp a h.2.1 s hs x hx, sem_eq hn hc hp c h.2.2 s hs x hx]
  | .ch we l, h => fun s hs x hx => by
    rw [Txt.Ok] at h
    have il : ∀ t ∈ l, EqT n (sem n Ps Cs t) (sem n Qs Ds t) := sem_eqs hn hc hp l h.2
    rw [sem_ch_any, sem_ch_any]
    have e1 : l.any (fun t => sem n Ps Cs t s x) = l.any (fun t => sem n Qs Ds t s x) := le_anti (b := false) (any_le fun t ht => il t ht s hs x hx ▸ le_refl _ _) (any_le fun t ht => il t ht s hs x hx ▸ le_refl _ _)
    have e2 : l.all (fun t => sem n Ps Cs t s x) = l.all (fun t => sem n Qs Ds t s x) := le_anti (b := false) (all_le fun t ht => il t ht s hs x hx ▸ le_refl _ _) (all_le fun t ht => il t ht s hs x hx ▸ le_refl _ _)
    rw [e1, e2]
where sem_eqs (hn : N3 n) (hc : EqC n cnt Cs Ds) (hp : EqC n many Ps Qs) : ∀ l : List Txt, Txt.Oks n cnt many l → ∀ t ∈ l, EqT n (sem n Ps Cs t) (sem n Qs Ds t)
  | [], _, t, ht => nomatch ht
  | u :: l, h, t, ht => by
    rw [Txt.Oks] at h
    rcases List.mem_cons.mp ht with e | ht
    · rw [e]
      exact sem_eq hn hc hp u h.1
    · exact sem_eqs hn hc hp l h.2 t ht
end
/-! ### rounds -/
/-- texts that are right for cnt texts -/
abbrev TsOk (n many : Nat) (ts : List Txt) : Prop := ∀ t ∈ ts, t.Ok n ts.length many
section
variable {n many : Nat} {ts : List Txt} {b : Bool} {Ps Qs G : Nat → Nat → Row}
theorem txtAt_mem {k : Nat} (h : k < ts.length) : txtAt ts k ∈ ts := by
  unfold txtAt
  rw [List.getD_eq_getElem?_getD, List.getElem?_eq_getElem h]
  exact List.getElem_mem h
theorem rnd_up (hn : N3 n) (ht : TsOk n many ts) (hp : UpC n many Ps) : ∀ i, UpC n ts.length (rnd n ts Ps b i)
  | 0 => fun k hk s hs x hx y hy h q => q
  | i + 1 => fun k hk => sem_up hn (rnd_up hn ht hp i) hp _ (ht _ (txtAt_mem hk))
theorem rnd_step (hn : N3 n) (ht : TsOk n many ts) (hp : UpC n many Ps) : ∀ i, LeC n ts.length b (rnd n ts Ps b i) (rnd n ts Ps b (i + 1))
  | 0 => fun k hk s hs x hx => le_bot _ _
  | i + 1 => fun k hk => sem_le hn (rnd_step hn ht hp i) LeC.refl (rnd_up hn ht hp (i + 1)) hp _ (ht _ (txtAt_mem hk))
/-- below all that the texts bring lower -/
theorem rnd_least (hn : N3 n) (ht : TsOk n many ts) (hp : UpC n many Ps) (ug : UpC n ts.length G) (hg : ∀ k, k < ts.length → LeT n b (sem n Ps G (txtAt ts k)) (G k)) : ∀ i, LeC n ts.length b (rnd n ts Ps b i) G
  | 0 => fun k hk s hs x hx => le_bot _ _
  | i + 1 => fun k hk => (sem_le hn (rnd_least hn ht hp ug hg i) LeC.refl ug hp _ (ht _ (txtAt_mem hk))).trans (hg k hk)
theorem rnd_parts (hn : N3 n) (ht : TsOk n many ts) (hp : UpC n many Qs) (h : LeC n many false Ps Qs) : ∀ i, LeC n ts.length false (rnd n ts Ps b i) (rnd n ts Qs b i)
  | 0 => LeC.refl
  | i + 1 => fun k hk => sem_le hn (rnd_parts hn ht hp h i) h (rnd_up hn ht hp i) hp _ (ht _ (txtAt_mem hk))
theorem tabB_iff {F G : Nat → Row} : tabB n F G = true ↔ EqT n F G := by
  unfold tabB
  rw [List.all_map, List.all_eq_true]
  constructor
  · intro h s hs x hx
    have := h s (List.mem_range.mpr hs)
    have := of_decide_eq_true this
    exact List.map_inj_left.mp this x hx
  · intro h s hs
    show decide _ = true
    rw [decide_eq_true_eq]
    exact List.map_inj_left.mpr (h s (List.mem_range.mp hs))
theorem tabsB_iff {cnt : Nat} {F G : Nat → Nat → Row} : tabsB n cnt F G = true ↔ EqC n cnt F G := by
  unfold tabsB
  rw [List.all_map, List.all_eq_true]
  exact ⟨fun h k hk => tabB_iff.mp (h k (List.mem_range.mpr hk)), fun h k hk => tabB_iff.mpr (h k (List.mem_range.mp hk))⟩
theorem still_stay (hn : N3 n) (ht : TsOk n many ts) {m : Nat} (h : Still n ts Ps b m) : ∀ j, EqC n ts.length (rnd n ts Ps b (m + j)) (rnd n ts Ps b m)
  | 0 => EqC.refl
  | j + 1 => EqC.trans (fun k hk => sem_eq hn (still_stay hn ht h j) EqC.refl _ (ht _ (txtAt_mem hk))) (tabsB_iff.mp h)
theorem still_both (hn : N3 n) (ht : TsOk n many ts) {m m' : Nat} (h : Still n ts Ps b m) (h' : Still n ts Ps b m') : EqC n ts.length (rnd n ts Ps b m) (rnd n ts Ps b m') := by
  have h1 := still_stay hn ht h m'
  have h2 := still_stay hn ht h' m
  rw [Nat.add_comm] at h2
  exact h1.symm.trans h2
/-- at the last round each text has what its own text gives -/
theorem still_fix {m k : Nat} (h : Still n ts Ps b m) (hk : k < ts.length) : EqT n (sem n Ps (rnd n ts Ps b m) (txtAt ts k)) (rnd n ts Ps b m k) := tabsB_iff.mp h k hk
/-- with greater parts no text has less -/
theorem parts_within (hn : N3 n) (ht : TsOk n many ts) (hq : UpC n many Qs) (h : LeC n many false Ps Qs) {m m' : Nat} (h1 : Still n ts Ps b m) (h2 : Still n ts Qs b m') : LeC n ts.length false (rnd n ts Ps b m) (rnd n ts Qs b m') := by
  have e1 := still_stay hn ht h1 m'
  have e2 := still_stay hn ht h2 m
  rw [Nat.add_comm] at e2
  exact e1.symm.le.trans ((rnd_parts hn ht hq h (m + m')).trans e2.le)
end
/-! ### a round at which they stand still -/
section
variable {n many : Nat} {ts : List Txt} {b : Bool} {Ps : Nat → Nat → Row}
def points (n cnt : Nat) : List (Nat × Nat × List Nat) := (List.range cnt).flatMap fun k => (List.range n).flatMap fun s => (allS n).map fun x => (k, s, x)
theorem mem_points {cnt k s : Nat} {x : List Nat} : (k, s, x) ∈ points n cnt ↔ k < cnt ∧ s < n ∧ x ∈ allS n := by
  unfold points
  simp only [List.mem_flatMap, List.mem_map, List.mem_range, Prod.mk.injEq]
  constructor
  · rintro ⟨k', h1, s', h2, x', h3, rfl, rfl, rfl⟩
    exact ⟨h1, h2, h3⟩
  · rintro ⟨h1, h2, h3⟩
    exact ⟨k, h1, s, h2, x, h3, rfl, rfl, rfl⟩
theorem points_len (hn : N3 n) {cnt : Nat} (hc : cnt ≤ 4) : (points n cnt).length ≤ 96 := by
  obtain ⟨a, c⟩ := hn
  have h1 : n = 1 ∨ n = 2 ∨ n = 3 := by omega
  have h2 : cnt = 0 ∨ cnt = 1 ∨ cnt = 2 ∨ cnt = 3 ∨ cnt = 4 := by omega
  rcases h1 with rfl | rfl | rfl <;> rcases h2 with rfl | rfl | rfl | rfl | rfl <;> decide
def cntOf (b : Bool) (n cnt : Nat) (F : Nat → Nat → Row) : Nat := (points n cnt).countP fun p => F p.1 p.2.1 p.2.2 != b
theorem count_le {α : Type} {p q : α → Bool} : ∀ {l : List α}, (∀ a ∈ l, p a = true → q a = true) → l.countP p ≤ l.countP q := fun h => List.countP_mono_left h
theorem count_eq {α : Type} {p q : α → Bool} : ∀ {l : List α}, (∀ a ∈ l, p a = true → q a = true) → l.countP q ≤ l.countP p → ∀ a ∈ l, q a = true → p a = true
  | [], _, _, a, ha => nomatch ha
  | c :: l, h, k, a, ha => by
    have hl : ∀ a ∈ l, p a = true → q a = true := fun a ha => h a (List.mem_cons_of_mem _ ha)
    have h1 := count_le hl
    rw [List.countP_cons, List.countP_cons] at k
    have hc := h c List.mem_cons_self
    have k2 : l.countP q ≤ l.countP p := by
      cases e1 : p c <;> cases e2 : q c <;> simp [e1, e2] at k hc <;> omega
    rcases List.mem_cons.mp ha with e | ha
    · rw [e]
      intro hq
      cases e1 : p c with
      | true => rfl
      | false =>
        rw [e1, hq] at k
        simp at k
        omega
    · exact count_eq hl k2 a ha
theorem still_of (hn : N3 n) (ht : TsOk n many ts) (hp : UpC n many Ps) {i : Nat} (h : cntOf b n ts.length (rnd n ts Ps b (i + 1)) ≤ cntOf b n ts.length (rnd n ts Ps b i)) : Still n ts Ps b i := by
  refine tabsB_iff.mpr fun k hk s hs x hx => ?_
  have st := rnd_step (b := b) hn ht hp i
  have imp : ∀ p ∈ points n ts.length, (rnd n ts Ps b i p.1 p.2.1 p.2.2 != b) = true → (rnd n ts Ps b (i + 1) p.1 p.2.1 p.2.2 != b) = true := by
    rintro ⟨k, s, x⟩ hm h1
    obtain ⟨q1, q2, q3⟩ := mem_points.mp hm
    have l := st k q1 s q2 x q3
    show (rnd n ts Ps b (i + 1) k s x != b) = true
    have h1 : (rnd n ts Ps b i k s x != b) = true := h1
    revert l h1
    cases b <;> cases rnd n ts Ps _ i k s x <;> cases rnd n ts Ps _ (i + 1) k s x <;> simp [Le]
  have back := count_eq imp h (k, s, x) (mem_points.mpr ⟨hk, hs, hx⟩)
  have l := st k hk s hs x hx
  have back : (rnd n ts Ps b (i + 1) k s x != b) = true → (rnd n ts Ps b i k s x != b) = true := back
  revert l back
  cases b <;> cases rnd n ts Ps _ i k s x <;> cases rnd n ts Ps _ (i + 1) k s x <;> simp [Le]
theorem still_exists (hn : N3 n) (h4 : ts.length ≤ 4) (ht : TsOk n many ts) (hp : UpC n many Ps) : ∃ m, m < 1000 ∧ Still n ts Ps b m := by
  by_cases c : ∃ m, m < 97 ∧ Still n ts Ps b m
  · obtain ⟨m, h1, h2⟩ := c
    exact ⟨m, by omega, h2⟩
  · exfalso
    have grow : ∀ i, i ≤ 97 → i ≤ cntOf b n ts.length (rnd n ts Ps b i) := by
      intro i
      induction i with
      | zero => exact fun _ => Nat.zero_le _
      | succ i ih =>
        intro hi
        have h1 := ih (by omega)
        by_cases q : cntOf b n ts.length (rnd n ts Ps b (i + 1)) ≤ cntOf b n ts.length (rnd n ts Ps b i)
        · exact absurd ⟨i, by omega, still_of hn ht hp q⟩ c
        · omega
    have h1 := grow 97 (Nat.le_refl _)
    have h2 : cntOf b n ts.length (rnd n ts Ps b 97) ≤ (points n ts.length).length := List.countP_le_length
    have h3 := points_len hn h4
    omega
end
end Tw
end
/-! TwM5 -/
section
set_option linter.all false
set_option autoImplicit false
/-! The plain law: another text at a place; a text more; the text that is written. -/
namespace Tw
/-- a text with other texts in it -/
def Txt.with (t : Txt) (ks : List Txt) : Txt := match t with
  | .thn _ _ => .thn (ks.getD 0 .skip) (ks.getD 1 .skip)
  | .ite x _ _ => .ite x (ks.getD 0 .skip) (ks.getD 1 .skip)
  | .ch w _ => .ch w ks
  | t => t
/-- the text at a path -/
def txtGo : List Nat → Txt → Option Txt
  | [], t => some t
  | i :: p, t => t.kids[i]?.bind (txtGo p)
def putX : List Nat → Txt → Txt → Txt
  | [], _, o => o
  | i :: p, t, o => t.with (t.kids.set i (putX p (t.kids.getD i .skip) o))
section
variable {n cnt many : Nat} {b : Bool} {Cs Ds Ps Qs : Nat → Nat → Row}
theorem or_le {x y z w : Bool} (h : Le b x y) (k : Le b z w) : Le b (x || z) (y || w) := by
  revert h k
  cases b <;> cases x <;> cases y <;> cases z <;> cases w <;> simp [Le]
theorem and_le {x y z w : Bool} (h : Le b x y) (k : Le b z w) : Le b (x && z) (y && w) := by
  revert h k
  cases b <;> cases x <;> cases y <;> cases z <;> cases w <;> simp [Le]
theorem kids_sem_le (hn : N3 n) (hc : UpC n cnt Cs) (hp : UpC n many Ps) (t : Txt) (ho : t.Ok n cnt many) (i : Nat) (u o : Txt) (hi : t.kids[i]? = some u) (hu : o.Ok n cnt many) (h : LeT n b (sem n Ps Cs u) (sem n Ps Cs o)) : LeT n b (sem n Ps Cs t) (sem n Ps Cs (t.with (t.kids.set i o))) := by
  cases t with
  | skip => cases hi
  | go _ => cases hi
  | call _ => cases hi
  | part _ => cases hi
  | thn a c =>
    rw [Txt.Ok] at ho
    match i, hi with
    | 0, hi =>
      cases hi
      exact fun s hs x hx => thn_le hn h LeT.refl (sem_up hn hc hp o hu) hs hx
    | 1, hi =>
      cases hi
      exact fun s hs x hx => thn_le hn LeT.refl h (sem_up hn hc hp _ ho.1) hs hx
    | i + 2, hi => cases hi
  | ite z a c =>
    match i, hi with
    | 0, hi =>
      cases hi
      intro s hs x hx
      show Le b (sem n Ps Cs (.ite z u c) s x) (sem n Ps Cs (.ite z o c) s x)
      rw [sem_ite, sem_ite]
      split
      · exact h s hs x hx
      · exact le_refl _ _
    | 1, hi =>
      cases hi
      intro s hs x hx
      show Le b (sem n Ps Cs (.ite z a u) s x) (sem n Ps Cs (.ite z a o) s x)
      rw [sem_ite, sem_ite]
      split
      · exact le_refl _ _
      · exact h s hs x hx
    | i + 2, hi => cases hi
  | ch we l =>
    have hi : l[i]? = some u := hi
    intro s hs x hx
    show Le b (sem n Ps Cs (.ch we l) s x) (sem n Ps Cs (.ch we (l.set i o)) s x)
    rw [sem_ch_any, sem_ch_any]
    have key : ∀ (l : List Txt) (i : Nat), l[i]? = some u → Le b (l.any fun t => sem n Ps Cs t s x) ((l.set i o).any fun t => sem n Ps Cs t s x) ∧ Le b (l.all fun t => sem n Ps Cs t s x) ((l.set i o).all fun t => sem n Ps Cs t s x) := by
      intro l
      induction l with
      | nil => exact fun i hi => nomatch hi
      | cons c l ih =>
        intro i hi
        match i, hi with
        | 0, hi =>
          cases hi
          have hh := h s hs x hx
          rw [List.set_cons_zero, List.any_cons, List.any_cons, List.all_cons, List.all_cons]
          exact ⟨or_le hh (le_refl _ _), and_le hh (le_refl _ _)⟩
        | i + 1, hi =>
          have q := ih i hi
          rw [List.set_cons_succ, List.any_cons, List.any_cons, List.all_cons, List.all_cons]
          exact ⟨or_le (le_refl _ _) q.1, and_le (le_refl _ _) q.2⟩
    have := key l i hi
    split
    · exact this.1
    · exact this.2
theorem with_ok {t : Txt} {ks : List Txt} (h : t.Ok n cnt many) (hl : ks.length = t.kids.length) (hk : ∀ u ∈ ks, u.Ok n cnt many) : (t.with ks).Ok n cnt many := by
  have hg : ∀ i, (ks.getD i .skip).Ok n cnt many := fun i => by
    rw [List.getD_eq_getElem?_getD]
    cases e : ks[i]? with
    | none => simp [Txt.Ok]
    | some u => exact hk u (List.mem_of_getElem? e)
  cases t with
  | skip => exact h
  | go _ => exact h
  | call _ => exact h
  | part _ => exact h
  | thn a c =>
    show (Txt.thn _ _).Ok n cnt many
    rw [Txt.Ok]
    exact ⟨hg 0, hg 1⟩
  | ite z a c =>
    show (Txt.ite z _ _).Ok n cnt many
    rw [Txt.Ok] at h ⊢
    exact ⟨h.1, hg 0, hg 1⟩
  | ch we l =>
    show (Txt.ch we ks).Ok n cnt many
    rw [Txt.Ok] at h ⊢
    exact ⟨hl ▸ h.1, oks_all.mpr hk⟩
theorem put_ok (o : Txt) (hu : o.Ok n cnt many) : ∀ (p : List Nat) (t u : Txt), t.Ok n cnt many → txtGo p t = some u → (putX p t o).Ok n cnt many ∧ u.Ok n cnt many
  | [], t, u, h, e => by
    cases e
    exact ⟨hu, h⟩
  | i :: p, t, u, h, e => by
    rw [txtGo] at e
    cases hi : t.kids[i]? with
    | none =>
      rw [hi] at e
      cases e
    | some c =>
      rw [hi] at e
      have hc := kid_ok h (List.mem_of_getElem? hi)
      have ih := put_ok o hu p c u hc e
      refine ⟨?_, ih.2⟩
      rw [putX]
      refine with_ok h (by rw [List.length_set]) fun v hv => ?_
      rw [List.getD_eq_getElem?_getD, hi] at hv
      rcases List.mem_or_eq_of_mem_set hv with hv | rfl
      · exact kid_ok h hv
      · exact ih.1
theorem put_le (hn : N3 n) (hc : UpC n cnt Cs) (hp : UpC n many Ps) (o : Txt) (hu : o.Ok n cnt many) : ∀ (p : List Nat) (t u : Txt), t.Ok n cnt many → txtGo p t = some u → LeT n b (sem n Ps Cs u) (sem n Ps Cs o) → LeT n b (sem n Ps Cs t) (sem n Ps Cs (putX p t o))
  | [], t, u, h, e, l => by
    cases e
    exact l
  | i :: p, t, u, h, e, l => by
    have e0 := e
    rw [txtGo] at e
    cases hi : t.kids[i]? with
    | none =>
      rw [hi] at e
      cases e
    | some c =>
      rw [hi] at e
      have hc' := kid_ok h (List.mem_of_getElem? hi)
      have ih := put_le hn hc hp o hu p c u hc' e l
      rw [putX, List.getD_eq_getElem?_getD, hi]
      exact kids_sem_le hn hc hp t h i c _ hi (put_ok o hu p c u hc' e).1 ih
/-- what is put there and what stood there change places -/
theorem put_ge (hn : N3 n) (hc : UpC n cnt Cs) (hp : UpC n many Ps) (o : Txt) (hu : o.Ok n cnt many) (p : List Nat) (t u : Txt) (ht : t.Ok n cnt many) (e : txtGo p t = some u) (l : LeT n b (sem n Ps Cs o) (sem n Ps Cs u)) : LeT n b (sem n Ps Cs (putX p t o)) (sem n Ps Cs t) := by
  have h := put_le (b := !b) hn hc hp o hu p t u ht e l.flip
  have h2 := h.flip
  rw [Bool.not_not] at h2
  exact h2
end
/-! ### another text at a place -/
section
variable {n many : Nat} {ts : List Txt} {b : Bool} {Ps Qs G : Nat → Nat → Row}
theorem txtAt_set {k : Nat} {o : Txt} (j : Nat) (hk : k < ts.length) : txtAt (ts.set k o) j = if j = k then o else txtAt ts j := by
  unfold txtAt
  rw [List.getD_eq_getElem?_getD, List.getElem?_set, List.getD_eq_getElem?_getD]
  by_cases c : j = k
  · subst c
    rw [if_pos rfl, if_pos rfl, if_pos hk]
    rfl
  · rw [if_neg (Ne.symm c), if_neg c]
theorem replaced (hn : N3 n) (ht : TsOk n many ts) (hp : UpC n many Ps) {k : Nat} (hk : k < ts.length) {p : List Nat} {u o : Txt} (hu : txtGo p (txtAt ts k) = some u) (hok : o.Ok n ts.length many)
    {m : Nat} (hm : Still n ts Ps b m) (ho : ∀ Cs, EqT n (sem n Ps Cs o) (sem n Ps (rnd n ts Ps b m) u)) {m' : Nat} (hm' : Still n (ts.set k (putX p (txtAt ts k) o)) Ps b m') :
    EqC n ts.length (rnd n (ts.set k (putX p (txtAt ts k) o)) Ps b m') (rnd n ts Ps b m) := by
  let ts' := ts.set k (putX p (txtAt ts k) o)
  have hl : ts'.length = ts.length := List.length_set
  have hkt := ht _ (txtAt_mem hk)
  obtain ⟨hput, huok⟩ := put_ok o hok p _ u hkt hu
  have ht' : TsOk n many ts' := by
    intro t h
    rw [hl]
    rcases List.mem_or_eq_of_mem_set h with h | rfl
    · exact ht t h
    · exact hput
  have um := rnd_up (b := b) hn ht hp m
  have un := rnd_up (b := b) hn ht' hp m'
  have e1 : ∀ j, j < ts'.length → LeT n b (sem n Ps (rnd n ts Ps b m) (txtAt ts' j)) (rnd n ts Ps b m j) := by
    intro j hj
    rw [hl] at hj
    have e : txtAt ts' j = _ := txtAt_set j hk
    rw [e]
    split
    · rename_i c
      subst c
      refine (put_ge hn um hp o hok p _ u hkt hu ((ho _).le)).trans ?_
      exact (still_fix hm hj).le
    · exact (still_fix hm hj).le
  have le1 : LeC n ts.length b (rnd n ts' Ps b m') (rnd n ts Ps b m) := hl ▸ rnd_least hn ht' hp (hl ▸ um) e1 m'
  have e2 : ∀ j, j < ts.length → LeT n b (sem n Ps (rnd n ts' Ps b m') (txtAt ts j)) (rnd n ts' Ps b m' j) := by
    intro j hj
    have e : txtAt ts' j = _ := txtAt_set j hk
    have hf := still_fix hm' (k := j) (by rw [hl]; exact hj)
    rw [e] at hf
    split at hf
    · rename_i c
      subst c
      refine LeT.trans (put_le hn (hl ▸ un) hp o hok p _ u hkt hu ?_) hf.le
      refine LeT.trans (sem_le hn le1 LeC.refl um hp u huok) ?_
      exact (ho _).symm.le
    · exact hf.le
  exact LeC.anti le1 (rnd_least hn ht hp (hl ▸ un) e2 m)
/-! ### a text more, that calls -/
theorem txtAt_app {t : Txt} {j : Nat} (h : j < ts.length) : txtAt (ts ++ [t]) j = txtAt ts j := by
  unfold txtAt
  rw [List.getD_eq_getElem?_getD, List.getElem?_append_left h, List.getD_eq_getElem?_getD]
theorem txtAt_last {t : Txt} : txtAt (ts ++ [t]) ts.length = t := by
  unfold txtAt
  rw [List.getD_eq_getElem?_getD, List.getElem?_append_right (Nat.le_refl _), Nat.sub_self]
  rfl
theorem longer_rnd (hn : N3 n) (ht : TsOk n many ts) (t : Txt) : ∀ i, EqC n ts.length (rnd n (ts ++ [t]) Ps b i) (rnd n ts Ps b i)
  | 0 => EqC.refl
  | i + 1 => fun k hk => by
    show EqT n (sem n Ps (rnd n (ts ++ [t]) Ps b i) (txtAt (ts ++ [t]) k)) (sem n Ps (rnd n ts Ps b i) (txtAt ts k))
    rw [txtAt_app hk]
    exact sem_eq hn (longer_rnd hn ht t i) EqC.refl _ (ht _ (txtAt_mem hk))
theorem longer {k : Nat} (hn : N3 n) (ht : TsOk n many ts) (hk : k < ts.length) {m m' : Nat} (hm : Still n ts Ps b m) (hm' : Still n (ts ++ [.call k]) Ps b m') : EqT n (rnd n (ts ++ [.call k]) Ps b m' ts.length) (rnd n ts Ps b m k) := by
  have hlen : (ts ++ [Txt.call k]).length = ts.length + 1 := by rw [List.length_append]; rfl
  have h1 := still_fix hm' (k := ts.length) (by omega)
  rw [txtAt_last] at h1
  have h1 : EqT n (rnd n (ts ++ [.call k]) Ps b m' k) (rnd n (ts ++ [.call k]) Ps b m' ts.length) := h1
  have h2 := longer_rnd (b := b) (Ps := Ps) hn ht (.call k) m' k hk
  have h3 : Still n ts Ps b m' := tabsB_iff.mpr fun j hj => by
    have a1 := longer_rnd (b := b) (Ps := Ps) hn ht (.call k) (m' + 1) j hj
    have a2 := longer_rnd (b := b) (Ps := Ps) hn ht (.call k) m' j hj
    have a3 := tabsB_iff.mp hm' j (by omega)
    exact a1.symm.trans (a3.trans a2)
  exact h1.symm.trans (h2.trans (still_both hn ht h3 hm k hk))
end
/-! ### contracts -/
section
variable {n : Nat} {F G : Nat → Row}
theorem conR_eq (h : EqT n F G) : conR n F = conR n G := by
  unfold conR
  congr 1
  refine List.map_congr_left fun s hs => ?_
  exact List.filter_congr fun x hx => h s (List.mem_range.mp hs) x hx
theorem conR_len : (conR n F).length = n := by
  unfold conR
  rw [List.length_map, List.length_map, List.length_range]
theorem conR_at {s : Nat} (hs : s < n) : (conR n F).getD s (fun _ => false) = famF ((allS n).filter (F s)) := by
  unfold conR
  rw [List.getD_eq_getElem?_getD, List.getElem?_map, List.getElem?_map, List.getElem?_range hs]
  rfl
theorem sub_refl (x : List Nat) : sub x x = true := sub_of.mpr fun _ h => h
theorem sub_trans {x y z : List Nat} (h : sub x y = true) (k : sub y z = true) : sub x z = true := sub_of.mpr fun t ht => sub_of.mp k t (sub_of.mp h t ht)
theorem fam_up {ys : List (List Nat)} {x y : List Nat} (h : sub x y = true) (k : famF ys x = true) : famF ys y = true := by
  obtain ⟨z, hz, q⟩ := List.any_eq_true.mp k
  exact List.any_eq_true.mpr ⟨z, hz, sub_trans q h⟩
/-- an upward closed table's family has just what it has -/
theorem fam_filter {f : Row} (hu : ∀ x ∈ allS n, ∀ y ∈ allS n, sub x y = true → f x = true → f y = true) {x : List Nat} (hx : x ∈ allS n) : famF ((allS n).filter f) x = f x := by
  cases q : f x with
  | true => exact List.any_eq_true.mpr ⟨x, List.mem_filter.mpr ⟨hx, q⟩, sub_refl x⟩
  | false =>
    rw [Bool.eq_false_iff]
    intro h
    obtain ⟨y, hy, e⟩ := List.any_eq_true.mp h
    obtain ⟨h1, h2⟩ := List.mem_filter.mp hy
    rw [hu y h1 x hx e h2] at q
    cases q
theorem conR_up (hu : Up n F) {s : Nat} (hs : s < n) {x : List Nat} (hx : x ∈ allS n) : (conR n F).getD s (fun _ => false) x = F s x := by
  rw [conR_at hs]
  exact fam_filter (fun a ha b hb => hu s hs a ha b hb) hx
end
/-! ### least sets -/
def bitsF (n : Nat) (v : Nat) : Row := fun x => v.testBit (maskOf x)
theorem testBit_build (g : Nat → Bool) : ∀ N, ∃ v, v < 2 ^ N ∧ ∀ i, i < N → v.testBit i = g i
  | 0 => ⟨0, by decide, fun i h => absurd h (Nat.not_lt_zero i)⟩
  | N + 1 => by
    obtain ⟨v, h1, h2⟩ := testBit_build g N
    cases q : g N with
    | false =>
      refine ⟨v, Nat.lt_trans h1 (Nat.pow_lt_pow_right (by decide) (Nat.lt_succ_self N)), fun i hi => ?_⟩
      by_cases c : i = N
      · subst c
        rw [q, Nat.testBit_lt_two_pow h1]
      · exact h2 i (by omega)
    | true =>
      refine ⟨2 ^ N + v, by rw [Nat.pow_succ]; omega, fun i hi => ?_⟩
      by_cases c : i = N
      · subst c
        rw [q, Nat.testBit_two_pow_add_eq, Nat.testBit_lt_two_pow h1]
        rfl
      · rw [Nat.testBit_two_pow_add_gt (by omega)]
        exact h2 i (by omega)
theorem all_bits (n : Nat) (hn : N3 n) (f : Row) : ∃ v, v < 2 ^ 2 ^ n ∧ ∀ x ∈ allS n, f x = bitsF n v x := by
  obtain ⟨v, h1, h2⟩ := testBit_build (fun m => f (setOf n m)) (2 ^ n)
  refine ⟨v, h1, fun x hx => ?_⟩
  unfold bitsF
  rw [h2 _ (maskOf_lt n hn x hx), setOf_mask n hn x hx]
theorem erase_in : ∀ n, N3 n → ∀ x ∈ allS n, ∀ t ∈ x, x.erase t ∈ allS n := n3 (by decide) (by decide) (by decide)
theorem least_congr {n : Nat} (hn : N3 n) {f g : Row} (h : ∀ x ∈ allS n, f x = g x) {x : List Nat} (hx : x ∈ allS n) : leastS f x = leastS g x := by
  unfold leastS
  rw [h x hx]
  have : (x.any fun t => f (x.erase t)) = x.any fun t => g (x.erase t) := by
    rw [Bool.eq_iff_iff, List.any_eq_true, List.any_eq_true]
    exact ⟨fun ⟨t, ht, e⟩ => ⟨t, ht, h _ (erase_in n hn x hx t ht) ▸ e⟩, fun ⟨t, ht, e⟩ => ⟨t, ht, (h _ (erase_in n hn x hx t ht)).symm ▸ e⟩⟩
  rw [this]
abbrev leastsOf (n : Nat) (f : Row) : List (List Nat) := (allS n).filter (leastS f)
theorem leasts_congr {n : Nat} (hn : N3 n) {f g : Row} (h : ∀ x ∈ allS n, f x = g x) : leastsOf n f = leastsOf n g := List.filter_congr fun x hx => least_congr hn h hx
theorem bits1 : ∀ v ∈ List.range 4, (leastsOf 1 (bitsF 1 v)).length ≤ 6 := by decide +kernel
theorem bits2 : ∀ v ∈ List.range 16, (leastsOf 2 (bitsF 2 v)).length ≤ 6 := by decide +kernel
theorem bits3 : ∀ v ∈ List.range 256, (leastsOf 3 (bitsF 3 v)).length ≤ 6 := by decide +kernel
theorem leasts_len {n : Nat} (hn : N3 n) (f : Row) : (leastsOf n f).length ≤ 6 := by
  obtain ⟨v, h1, h2⟩ := all_bits n hn f
  rw [leasts_congr hn h2]
  obtain ⟨a, c⟩ := hn
  have h : n = 1 ∨ n = 2 ∨ n = 3 := by omega
  rcases h with rfl | rfl | rfl
  · exact bits1 v (List.mem_range.mpr h1)
  · exact bits2 v (List.mem_range.mpr h1)
  · exact bits3 v (List.mem_range.mpr h1)
def upB (n : Nat) (f : Row) : Bool := (allS n).all fun x => (allS n).all fun y => !(sub x y && f x) || f y
def famB (n : Nat) (f : Row) : Bool := (allS n).all fun x => famF (leastsOf n f) x == f x
theorem up1 : ∀ v ∈ List.range 4, upB 1 (bitsF 1 v) = true → famB 1 (bitsF 1 v) = true := by decide +kernel
theorem up2 : ∀ v ∈ List.range 16, upB 2 (bitsF 2 v) = true → famB 2 (bitsF 2 v) = true := by decide +kernel
theorem up3 : ∀ v ∈ List.range 256, upB 3 (bitsF 3 v) = true → famB 3 (bitsF 3 v) = true := by decide +kernel
theorem leasts_fam {n : Nat} (hn : N3 n) {f : Row} (hu : ∀ x ∈ allS n, ∀ y ∈ allS n, sub x y = true → f x = true → f y = true) {x : List Nat} (hx : x ∈ allS n) : famF (leastsOf n f) x = f x := by
  obtain ⟨v, h1, h2⟩ := all_bits n hn f
  rw [leasts_congr hn h2, h2 x hx]
  have hup : upB n (bitsF n v) = true := by
    unfold upB
    rw [List.all_eq_true]
    intro x hx
    rw [List.all_eq_true]
    intro y hy
    have := hu x hx y hy
    rw [h2 x hx, h2 y hy] at this
    revert this
    cases sub x y <;> cases bitsF n v x <;> cases bitsF n v y <;> simp
  have hf : famB n (bitsF n v) = true := by
    obtain ⟨a, c⟩ := hn
    have h : n = 1 ∨ n = 2 ∨ n = 3 := by omega
    rcases h with rfl | rfl | rfl
    · exact up1 v (List.mem_range.mpr h1) hup
    · exact up2 v (List.mem_range.mpr h1) hup
    · exact up3 v (List.mem_range.mpr h1) hup
  unfold famB at hf
  rw [List.all_eq_true] at hf
  exact eq_of_beq (hf x hx)
/-! ### the text that is written -/
section
variable {n cnt many : Nat} {Ps Cs : Nat → Nat → Row}
theorem set_sem {x : List Nat} (hx : ∀ t ∈ x, t < n) {s : Nat} (hs : s < n) {y : List Nat} : sem n Ps Cs (setTxt n x) s y = sub x y := by
  rw [sem_ch_any, if_neg Bool.false_ne_true, List.all_map]
  unfold sub
  refine congrArg (fun g => List.all x g) (funext fun t => ?_)
  show y.contains ((List.replicate n t).getD s 0) = y.contains t
  rw [List.getD_eq_getElem?_getD, List.getElem?_replicate, if_pos hs]
  rfl
theorem fam_sem {ys : List (List Nat)} (hy : ∀ y ∈ ys, ∀ t ∈ y, t < n) {s : Nat} (hs : s < n) {x : List Nat} : sem n Ps Cs (famTxt n ys) s x = famF ys x := by
  rw [sem_ch_any, if_pos rfl, List.any_map]
  have : ∀ l : List (List Nat), (∀ y ∈ l, y ∈ ys) → l.any ((fun t => sem n Ps Cs t s x) ∘ setTxt n) = famF l x := by
    intro l hl
    induction l with
    | nil => rfl
    | cons z l ih =>
      rw [List.any_cons, ih fun y h => hl y (List.mem_cons_of_mem _ h)]
      show (sem n Ps Cs (setTxt n z) s x || _) = famF (z :: l) x
      rw [set_sem (hy z (hl z List.mem_cons_self)) hs]
      rfl
  exact this ys fun _ h => h
theorem leasts_in {f : Row} {y : List Nat} (h : y ∈ leastsOf n f) : y ∈ allS n := (List.mem_filter.mp h).1
theorem wr_sem {Fs : List Row} (hn : N3 n) (hu : Up n fun s => Fs.getD s fun _ => false) : ∀ i, i < n → ∀ s, n - 1 - i ≤ s → s < n → ∀ x ∈ allS n, sem n Ps Cs (wrTxt n Fs i) s x = Fs.getD s (fun _ => false) x
  | 0, hi, s, h1, h2, x, hx => by
    have e : s = n - 1 := by omega
    subst e
    rw [wrTxt, fam_sem (fun y hy t ht => allS_lt n hn y (leasts_in hy) t ht) h2]
    exact leasts_fam hn (fun a ha c hc => hu _ h2 a ha c hc) hx
  | i + 1, hi, s, h1, h2, x, hx => by
    rw [wrTxt, sem_ite]
    by_cases c : s = n - 2 - i
    · subst c
      rw [if_pos (by simp), fam_sem (fun y hy t ht => allS_lt n hn y (leasts_in hy) t ht) h2]
      exact leasts_fam hn (fun a ha c hc => hu _ h2 a ha c hc) hx
    · rw [if_neg (by simpa using c)]
      exact wr_sem hn hu i (by omega) s (by omega) h2 x hx
theorem set_ok {x : List Nat} (hx : ∀ t ∈ x, t < n) (hl : x.length ≤ 6) : (setTxt n x).Ok n cnt many := by
  rw [Txt.Ok]
  refine ⟨by rw [List.length_map]; exact hl, oks_all.mpr fun t ht => ?_⟩
  obtain ⟨u, hu, rfl⟩ := List.mem_map.mp ht
  rw [Txt.Ok]
  refine ⟨List.length_replicate, fun v hv => ?_⟩
  rw [(List.mem_replicate.mp hv).2]
  exact hx u hu
theorem fam_ok (hn : N3 n) (f : Row) : (famTxt n (leastsOf n f)).Ok n cnt many := by
  rw [Txt.Ok]
  refine ⟨by rw [List.length_map]; exact leasts_len hn f, oks_all.mpr fun t ht => ?_⟩
  obtain ⟨u, hu, rfl⟩ := List.mem_map.mp ht
  have := leasts_in hu
  exact set_ok (allS_lt n hn u this) (Nat.le_trans (allS_small n hn u this) (by decide))
theorem single_in : ∀ n, N3 n → ∀ t ∈ List.range n, [t] ∈ allS n := n3 (by decide) (by decide) (by decide)
theorem wr_ok {Fs : List Row} (hn : N3 n) : ∀ i, i < n → (wrTxt n Fs i).Ok n cnt many
  | 0, _ => fam_ok hn _
  | i + 1, h => by
    rw [wrTxt, Txt.Ok]
    exact ⟨single_in n hn _ (List.mem_range.mpr (by omega)), fam_ok hn _, wr_ok hn i (by omega)⟩
theorem set_dep (x : List Nat) : (setTxt n x).dep ≤ 2 := by
  rw [Txt.dep]
  have : ∀ l : List Nat, Txt.deps (l.map fun t => Txt.go (List.replicate n t)) ≤ 1 := by
    intro l
    induction l with
    | nil => exact Nat.zero_le _
    | cons t l ih =>
      rw [List.map_cons, Txt.deps, Txt.dep]
      omega
  have := this x
  omega
theorem fam_dep (ys : List (List Nat)) : (famTxt n ys).dep ≤ 3 := by
  rw [Txt.dep]
  have : ∀ l : List (List Nat), Txt.deps (l.map (setTxt n)) ≤ 2 := by
    intro l
    induction l with
    | nil => exact Nat.zero_le _
    | cons t l ih =>
      rw [List.map_cons, Txt.deps]
      have := set_dep (n := n) t
      omega
  have := this ys
  omega
theorem wr_dep {Fs : List Row} : ∀ i, (wrTxt n Fs i).dep ≤ 3 + i
  | 0 => fam_dep _
  | i + 1 => by
    rw [wrTxt, Txt.dep]
    have h1 := fam_dep (n := n) ((allS n).filter (leastS (Fs.getD (n - 2 - i) fun _ => false)))
    have h2 := wr_dep (Fs := Fs) i
    omega
theorem sizes_le (c : Nat) : ∀ l : List Txt, (∀ t ∈ l, t.size ≤ c) → Txt.sizes l ≤ c * l.length
  | [], _ => Nat.zero_le _
  | t :: l, h => by
    rw [Txt.sizes, List.length_cons, Nat.mul_succ]
    have h1 := h t List.mem_cons_self
    have h2 := sizes_le c l fun u hu => h u (List.mem_cons_of_mem _ hu)
    omega
theorem set_size {x : List Nat} (h : x.length ≤ 3) : (setTxt n x).size ≤ 4 := by
  rw [Txt.size]
  have := sizes_le 1 (x.map fun t => Txt.go (List.replicate n t)) fun t ht => by
    obtain ⟨u, hu, rfl⟩ := List.mem_map.mp ht
    rw [Txt.size]
    exact Nat.le_refl _
  rw [List.length_map] at this
  omega
theorem fam_size (hn : N3 n) (f : Row) : (famTxt n (leastsOf n f)).size ≤ 25 := by
  rw [Txt.size]
  have := sizes_le 4 ((leastsOf n f).map (setTxt n)) fun t ht => by
    obtain ⟨u, hu, rfl⟩ := List.mem_map.mp ht
    exact set_size (allS_small n hn u (leasts_in hu))
  rw [List.length_map] at this
  have := leasts_len hn f
  omega
theorem wr_size {Fs : List Row} (hn : N3 n) : ∀ i, (wrTxt n Fs i).size ≤ 25 + 26 * i
  | 0 => fam_size hn _
  | i + 1 => by
    rw [wrTxt, Txt.size]
    have h1 : (famTxt n ((allS n).filter (leastS (Fs.getD (n - 2 - i) fun _ => false)))).size ≤ 25 := fam_size hn (Fs.getD (n - 2 - i) fun _ => false)
    have h2 := wr_size (Fs := Fs) hn i
    omega
end
end Tw
end
/-! W14 -/
section
set_option Elab.async false
set_option linter.all false
set_option autoImplicit false
set_option maxRecDepth 100000
set_option maxHeartbeats 4000000
/-! The walk: the law's own plain helpers. -/
namespace Tw
open PySem PySem.Spec PyProof.Rows L2
section
variable {P : Program} {w : World} {K : PySem.W.Frag} {mg : PySem.Str → Option Value} {base : Heap}
/-! ### sets -/
def lv : Nat → List (List Nat)
  | 0 => [[]]
  | i + 1 => lv i ++ (lv i).map fun x => x ++ [i]
theorem lv_perm : ∀ n, N3 n → (lv n).isPerm (allS n) = true := n3 (by decide) (by decide) (by decide)
theorem lv_len : ∀ i, (lv i).length = 2 ^ i
  | 0 => rfl
  | i + 1 => by
    rw [lv, List.length_append, List.length_map, lv_len i, Nat.pow_succ]
    omega
theorem lv_each : ∀ i, ∀ x ∈ lv i, x.length ≤ i
  | 0, x, h => by
    rw [lv, List.mem_singleton] at h
    rw [h]
    exact Nat.le_refl _
  | i + 1, x, h => by
    rw [lv] at h
    rcases List.mem_append.mp h with h | h
    · exact Nat.le_succ_of_le (lv_each i x h)
    · obtain ⟨y, hy, rfl⟩ := List.mem_map.mp h
      rw [List.length_append]
      exact Nat.succ_le_succ (lv_each i y hy)
theorem range_at {n i t : Nat} (h : (List.range n)[i]? = some t) : t = i ∧ i < n := by
  have h1 := (List.getElem?_eq_some_iff.mp h).1
  rw [List.length_range] at h1
  rw [List.getElem?_range h1] at h
  exact ⟨(Option.some.inj h).symm, h1⟩
def sp_L_v_sets (K : PySem.W.Frag) : Sp := spP (fun n : Nat => N3 n) (fun n => [DT K (dn n)]) (fun n => DT K (famD (allS n)))
theorem ok_L_v_sets (T : Tx K mg) : FnOk P w K mg base CX0 1 aL_v_sets (fdAt K aL_v_sets) P_L_v_sets (sp_L_v_sets K) := by
  refine fn_ok T.d_L_v_sets sc_L_v_sets (fun _ => rfl) fun cdv A outer s H E hr => ⟨_, (pss_cons (ps_set (i := 1) sc_L_v_sets.nd rfl (by first | exact Or.inl rfl | exact Or.inr rfl) (pe_lst (pa_cons (pe_tup pa_nil) pa_nil))) (pss_cons (ps_for PassesOwn.never rfl (pi_range1 rfl T.f_range (pa_cons (pv 0) pa_nil)) (pg_name (i := 2) sc_L_v_sets.nd rfl (by first | exact Or.inl rfl | exact Or.inr rfl)) (pss_one (ps_set (i := 1) sc_L_v_sets.nd rfl (by first | exact Or.inl rfl | exact Or.inr rfl) (pe_op (addK (K := K) rfl) (pv 1) (pe_lc (own := [("_law_x", 3)]) (tt := tYes) rfl sc_L_v_sets.nd (seqK (K := K) rfl (pv 1)) (blkOk_by (N := N_L_v_sets) (sc := defScope sL_v_sets) (by decide +kernel)) (fun _ _ _ _ _ => (pg_name (i := 3) sc_L_v_sets.nd rfl (by first | exact Or.inl rfl | exact Or.inr rfl))) (fun _ _ _ _ _ => pts_nil) (fun _ _ _ _ _ => (pe_op (addK (K := K) rfl) (pv 3) (pe_tup (pa_cons (pv 2) pa_nil))))))))) (pss_one (ps_ret (pe_callB (sortK (K := K) rfl (hu64 hr)) rfl T.f_sorted bt_sorted (pa_cons (pv 1) pa_nil)))))), ?_⟩
  intro n O hn hO
  have hn : N3 n := hn
  have hn3 := hn.2
  refine st_seq (st_set (ew_of (et_eq (et_lstD (K := K) (ead_cons (et_tupD ead_nil (by show 0 ≤ sizeLine; decide)) ead_nil) (by show 1 ≤ sizeLine; decide)) (T := DT K (famD (lv 0))) rfl) ?_))
  refine st_seq (st_for (xs := List.range n) (gT := fun t => DT K (dn t)) (ws := fun t => [(2, DT K (dn t))])
    (fun i Γ M => ∃ o2, Γ = [some (DT K (dn n)), some (DT K (famD (lv i))), o2, none] ∧ M = []) (ix_R (ea_cons (et_var rfl) ea_nil) (by omega)) (fun _ _ => gt_name) ⟨none, rfl, rfl⟩ ?_ ?_)
  · rintro i t _ _ ht ⟨o2, rfl, rfl⟩
    obtain ⟨rfl, hi⟩ := range_at ht
    have hl : (lv t).length ≤ 8 := by
      rw [lv_len]
      exact Nat.le_trans (Nat.pow_le_pow_right (by decide) (show t ≤ 3 by omega)) (by decide)
    refine st_set (ew_of (et_eq (et_op (et_var rfl) (lcD (K := K) (f := fun x => setD (x ++ [t])) (ix_sL (xs := lv t) (g := setD) (et_var rfl)) (fun x _ => gt_name) (fun _ => rfl)
      (fun x hx => et_eq (et_op (et_var rfl) (et_tupD (K := K) (ead_cons (et_var rfl) ead_nil) (by show 1 ≤ sizeLine; decide)) (rx_addTD (a := x.map dn) (b := [dn t]) ?_)) ?_) (sz100 (by omega))) (rx_addLD ?_)) (T := DT K (famD (lv (t + 1)))) ?_) ⟨_, rfl, rfl⟩)
    · have := lv_each t x hx
      rw [List.length_map]
      exact Nat.le_of_lt (sz100 (by show x.length + 1 < 1000; omega))
    · show DT K (.tuple (x.map dn ++ [dn t])) = DT K (.tuple ((x ++ [t]).map dn))
      rw [List.map_append]
      rfl
    · rw [List.length_map, List.length_map]
      exact Nat.le_of_lt (sz100 (by omega))
    · show DT K (.list ((lv t).map setD ++ (lv t).map fun x => setD (x ++ [t]))) = DT K (.list ((lv t ++ (lv t).map fun x => x ++ [t]).map setD))
      rw [List.map_append, List.map_map]
      rfl
  · rintro _ _ ⟨o2, rfl, rfl⟩
    rw [List.length_range]
    exact st_ret (ew_of (et_cb (ea_cons (et_var rfl) ea_nil) (cx_sortS (List.isPerm_iff.mp (lv_perm n hn)) (allS_sorted n hn))) (rt_P (Sub.refl _)))
theorem none_false (bs : List Bool) : (!((bs.map PyData.bool).any fun z => PyData.eqv z (.bool false))) = bs.all id := by
  induction bs with
  | nil => rfl
  | cons b bs ih =>
    rw [List.map_cons, List.any_cons, Bool.not_or, ih, List.all_cons]
    cases b <;> rfl
theorem some_true (bs : List Bool) : ((bs.map PyData.bool).any fun z => PyData.eqv z (.bool true)) = bs.any id := by
  induction bs with
  | nil => rfl
  | cons b bs ih =>
    rw [List.map_cons, List.any_cons, ih, List.any_cons]
    cases b <;> rfl
theorem flat_bs (bs : List Bool) : (bs.map PyData.bool).all flatD = true := by
  induction bs with
  | nil => rfl
  | cons a xs ih => exact ih
/-- False not in [..], True in [..] -/
theorem rx_allB {M : Mem} (bs : List Bool) : RX (rNiA K) M (DT K (.bool false)) (DT K (.list (bs.map PyData.bool))) (DT K (.bool (bs.all id))) := by
  have h := rx_niF (K := K) (M := M) (d := .bool false) (ds := bs.map PyData.bool) rfl (flat_bs bs)
  rw [none_false] at h
  exact h
theorem rx_anyB {M : Mem} (bs : List Bool) : RX (rInA K) M (DT K (.bool true)) (DT K (.list (bs.map PyData.bool))) (DT K (.bool (bs.any id))) := by
  have h := rx_inF (K := K) (M := M) (d := .bool true) (ds := bs.map PyData.bool) rfl (flat_bs bs)
  rw [some_true] at h
  exact h
def sp_L_v_is_in (K : PySem.W.Frag) : Sp := spP (fun a : List Nat × List Nat => a.1.length < 1000) (fun a => [DT K (setD a.1), DT K (setD a.2)]) (fun a => DT K (.bool (sub a.1 a.2)))
theorem ok_L_v_is_in (T : Tx K mg) : FnOk P w K mg base CX0 1 aL_v_is_in (fdAt K aL_v_is_in) P_L_v_is_in (sp_L_v_is_in K) := by
  refine fn_ok T.d_L_v_is_in sc_L_v_is_in (fun _ => rfl) fun cdv A outer s H E hr => ⟨_, (pss_one (ps_ret (pe_cmpR (niK (K := K) rfl (hu65 hr)) (pe_bl) (pe_lc (own := [("_law_t", 2)]) (tt := tYes) rfl sc_L_v_is_in.nd (seqK (K := K) rfl (pv 0)) (blkOk_by (N := N_L_v_is_in) (sc := defScope sL_v_is_in) (by decide +kernel)) (fun _ _ _ _ _ => (pg_name (i := 2) sc_L_v_is_in.nd rfl (by first | exact Or.inl rfl | exact Or.inr rfl))) (fun _ _ _ _ _ => pts_nil) (fun _ _ _ _ _ => (pe_cmpR (inK (K := K) rfl (hu65 hr)) (pv 2) (pv 1) (by with_unfolding_all rfl)))) (by with_unfolding_all rfl)))), ?_⟩
  rintro ⟨x, y⟩ O hl hO
  have hl : x.length < 1000 := hl
  refine st_ret (ew_of (et_op (et_bl (K := K)) (lcB (f := fun t => y.contains t) (ix_sT (xs := x) (g := dn) (et_var rfl)) (fun t _ => gt_name) (fun _ => rfl) (fun t _ => et_op (et_var rfl) (et_var rfl) (rx_inN t y)) (sz100 hl)) (rx_allB _)) (rt_P ?_))
  rw [all_id]
  exact Sub.refl _
/-- the least of some sets -/
def famOf (n : Nat) (ys : List (List Nat)) : List (List Nat) := (allS n).filter fun x => ys.contains x && (ys.filter fun y => decide (y.length < x.length) && sub y x).isEmpty
def sp_L_v_family (K : PySem.W.Frag) : Sp := spP (fun a : Nat × List (List Nat) => N3 a.1 ∧ (∀ y ∈ a.2, y ∈ allS a.1) ∧ a.2.length < 1000) (fun a => [DT K (dn a.1), DT K (famD a.2)]) (fun a => DT K (famD (famOf a.1 a.2)))
theorem ok_L_v_family (T : Tx K mg) : FnOk P w K mg base CX0 2 aL_v_family (fdAt K aL_v_family) P_L_v_family (sp_L_v_family K) := by
  refine fn_ok T.d_L_v_family sc_L_v_family (fun _ => rfl) fun cdv A outer s H E hr => ⟨_, (pss_cons (ps_set (i := 2) sc_L_v_family.nd rfl (by first | exact Or.inl rfl | exact Or.inr rfl) (pe_lst pa_nil)) (pss_cons (ps_for PassesOwn.never rfl (seqK (K := K) rfl (pe_call (ok_L_v_sets (P := P) (w := w) T) (hr.mono (by omega)) rfl T.g_L_v_sets T.d_L_v_sets.kp T.b_L_v_sets .nil pass0 (pa_cons (pv 0) pa_nil))) (pg_name (i := 3) sc_L_v_family.nd rfl (by first | exact Or.inl rfl | exact Or.inr rfl)) (pss_cons (ps_setLc (i := 4) (own := [("_law_y", 5)]) rfl sc_L_v_family.nd rfl rfl (sw_true rfl rfl rfl (by decide +kernel)) (seqK (K := K) rfl (pv 1)) (blkOk_by (N := N_L_v_family) (sc := defScope sL_v_family) (by decide +kernel)) (fun _ _ _ _ _ => (pg_name (i := 5) sc_L_v_family.nd rfl (by first | exact Or.inl rfl | exact Or.inr rfl))) (fun _ _ _ _ _ => pts_one (PW.pt (pw_and (pt_cmpR op_lt (pe_callB (lenK (K := K) rfl) rfl T.f_len bt_len (pa_cons (pv 5) pa_nil)) (pe_callB (lenK (K := K) rfl) rfl T.f_len bt_len (pa_cons (pv 3) pa_nil)) (nomark _)) (pw_and1 (pt_val (pe_call (ok_L_v_is_in (P := P) (w := w) T) (hr.mono (by omega)) rfl T.g_L_v_is_in T.d_L_v_is_in.kp T.b_L_v_is_in .nil pass0 (pa_cons (pv 5) (pa_cons (pv 3) pa_nil)))))))) (fun _ _ _ _ _ => (pv 5))) (pss_one (ps_if (PW.pt (pw_and (pt_cmpR (inK (K := K) rfl (hu65 hr)) (pv 3) (pv 1) (by with_unfolding_all rfl)) (pw_and1 (pt_cmpR (eqK (K := K) rfl (hu64 hr)) (pv 4) (pe_lst pa_nil) (nomark _))))) (pss_one (ps_expr (pe_bm PySem.F.plainAttrs_list PySem.F.slot_list_append PySem.F.type_list_append mt_append (pv 2) (pa_cons (pv 3) pa_nil)))) pss_nil)))) (pss_one (ps_ret (pv 2))))), ?_⟩
  rintro ⟨n, ys⟩ O ⟨hn, hy, hl⟩ hO
  have hn : N3 n := hn
  have hy : ∀ y ∈ ys, y ∈ allS n := hy
  have hl' : ys.length < 1000 := hl
  have h8 := allS_le8 n hn
  refine st_seq (st_set (ew_own fun l hz => ?_))
  refine st_seq (st_for (xs := allS n) (gT := fun x => DT K (setD x)) (ws := fun x => [(3, DT K (setD x))])
    (fun i Γ M => ∃ o3 o4, Γ = [some (DT K (dn n)), some (DT K (famD ys)), some (VT (.ref l)), o3, o4, none] ∧ M = [(l, lstC (((((allS n).take i).filter fun x => ys.contains x && (ys.filter fun y => decide (y.length < x.length) && sub y x).isEmpty).map setD).map (DT K)))])
    (ix_sL (g := setD) (et_call (ok := fun n : Nat => N3 n) n hn (ea_cons (et_var rfl) ea_nil))) (fun _ _ => gt_name) ⟨none, none, rfl, rfl⟩ ?_ ?_)
  · rintro i x _ _ hx ⟨o3, o4, rfl, rfl⟩
    have hxm := List.mem_of_getElem? hx
    have hlx := allS_small n hn x hxm
    refine st_seq (st_set (ew_of (et_eq (lcDIf (K := K) (p := fun y => decide (y.length < x.length) && sub y x) (f := setD) (ix_sL (xs := ys) (g := setD) (et_var rfl)) (fun y _ => gt_name) (fun _ => rfl)
      (fun y hyy => bt_and (bt_eq (bt_test (et_op (et_cb (ea_cons (et_var rfl) ea_nil) cx_lenTD) (et_cb (ea_cons (et_var rfl) ea_nil) cx_lenTD) rx_B0)) ?_) fun _ => bt_B (et_call (ok := fun a : List Nat × List Nat => a.1.length < 1000) (y, x) (by have := allS_small n hn y (hy y hyy); show y.length < 1000; omega) (ea_cons (et_var rfl) (ea_cons (et_var rfl) ea_nil)))) (fun y _ _ => et_var rfl) (sz100 hl')) (T := DT K (famD (ys.filter fun y => decide (y.length < x.length) && sub y x))) rfl) ?_))
    · rw [List.length_map, List.length_map]
      show decide (((y.length : Nat) : Int) < ((x.length : Nat) : Int)) = decide (y.length < x.length)
      by_cases c : y.length < x.length
      · rw [decide_eq_true c, decide_eq_true (Int.ofNat_lt.mpr c)]
      · rw [decide_eq_false c, decide_eq_false fun q => c (Int.ofNat_lt.mp q)]
    refine st_if (b := ys.contains x && (ys.filter fun y => decide (y.length < x.length) && sub y x).isEmpty) (bt_and (bt_eq (bt_test (et_op (et_var rfl) (et_var rfl) (rx_in (shaped_set x) (shaped_sets ys)))) (any_sets ys x)) fun _ => bt_eq (bt_test (et_op (et_var rfl) (et_lstD (K := K) ead_nil (by show 0 ≤ sizeLine; decide)) (rx_eq (shaped_sets _) (shaped_sets [])))) (eqv_nil setD _)) (fun hb => ?_) fun hb => st_next ⟨_, _, rfl, ?_⟩
    · refine st_app rfl ⟨0, _, rfl⟩ (ew_of (et_var rfl) ⟨0, _, rfl, ?_, ⟨_, _, rfl, ?_⟩⟩)
      · rw [List.length_map, List.length_map]
        exact sz100 (Nat.lt_of_le_of_lt (Nat.le_trans (List.length_filter_le _ _) (List.length_take_le _ _)) (by have := (List.getElem?_eq_some_iff.mp hx).1; omega))
      · rw [take_succ_at hx, List.filter_append, List.filter_cons, if_pos hb, List.map_append, List.map_append]
        rfl
    · rw [take_succ_at hx, List.filter_append, List.filter_cons, if_neg (by rw [hb]; decide), List.filter_nil, List.append_nil]
  · rintro _ _ ⟨o3, o4, rfl, rfl⟩
    refine st_freeze (i := 2) (j := 0) rfl rfl hz (st_ret (ew_of (et_var rfl) (rt_P ?_)))
    rw [List.take_length, lt_dt]
    exact Sub.refl _
/-! ### pairs of a state and a set -/
def prs (n : Nat) : List Plc := (List.range n).flatMap fun s => (allS n).map fun x => (s, x)
theorem mem_prs {n s : Nat} {x : List Nat} : (s, x) ∈ prs n ↔ s < n ∧ x ∈ allS n := by
  unfold prs
  simp only [List.mem_flatMap, List.mem_map, List.mem_range, Prod.mk.injEq]
  constructor
  · rintro ⟨s', h2, x', h3, rfl, rfl⟩
    exact ⟨h2, h3⟩
  · rintro ⟨h2, h3⟩
    exact ⟨s, h2, x, h3, rfl, rfl⟩
theorem prs_nodup : ∀ n, N3 n → (prs n).Nodup := n3 (by decide) (by decide) (by decide)
theorem prs_len : ∀ n, N3 n → (prs n).length ≤ 24 := n3 (by decide) (by decide) (by decide)
def sp_L_v_pairs (K : PySem.W.Frag) : Sp := spP (fun n : Nat => N3 n) (fun n => [DT K (dn n)]) (fun n => DT K (.list ((prs n).map plD)))
theorem ok_L_v_pairs (T : Tx K mg) : FnOk P w K mg base CX0 2 aL_v_pairs (fdAt K aL_v_pairs) P_L_v_pairs (sp_L_v_pairs K) := by
  refine fn_ok T.d_L_v_pairs sc_L_v_pairs (fun _ => rfl) fun cdv A outer s H E hr => ⟨_, (pss_cons (ps_set (i := 1) sc_L_v_pairs.nd rfl (by first | exact Or.inl rfl | exact Or.inr rfl) (pe_lst pa_nil)) (pss_cons (ps_for PassesOwn.never rfl (pi_range1 rfl T.f_range (pa_cons (pv 0) pa_nil)) (pg_name (i := 2) sc_L_v_pairs.nd rfl (by first | exact Or.inl rfl | exact Or.inr rfl)) (pss_one (ps_set (i := 1) sc_L_v_pairs.nd rfl (by first | exact Or.inl rfl | exact Or.inr rfl) (pe_op (addK (K := K) rfl) (pv 1) (pe_lc (own := [("_law_x", 3)]) (tt := tYes) rfl sc_L_v_pairs.nd (seqK (K := K) rfl (pe_call (ok_L_v_sets (P := P) (w := w) T) (hr.mono (by omega)) rfl T.g_L_v_sets T.d_L_v_sets.kp T.b_L_v_sets .nil pass0 (pa_cons (pv 0) pa_nil))) (blkOk_by (N := N_L_v_pairs) (sc := defScope sL_v_pairs) (by decide +kernel)) (fun _ _ _ _ _ => (pg_name (i := 3) sc_L_v_pairs.nd rfl (by first | exact Or.inl rfl | exact Or.inr rfl))) (fun _ _ _ _ _ => pts_nil) (fun _ _ _ _ _ => (pe_tup (pa_cons (pv 2) (pa_cons (pv 3) pa_nil))))))))) (pss_one (ps_ret (pv 1))))), ?_⟩
  intro n O hn hO
  have hn : N3 n := hn
  have hn3 := hn.2
  have h8 := allS_le8 n hn
  let pf : Nat → List Plc := fun i => (List.range i).flatMap fun s => (allS n).map fun x => (s, x)
  have hpl : ∀ i, (pf i).length = i * (allS n).length := by
    intro i
    induction i with
    | zero => simp [pf]
    | succ i ih =>
      show ((List.range (i + 1)).flatMap _).length = _
      rw [List.range_succ, List.flatMap_append, List.length_append]
      have ih : ((List.range i).flatMap fun s => (allS n).map fun x => (s, x)).length = _ := ih
      rw [ih, Nat.succ_mul]
      simp
  refine st_seq (st_set (ew_of (et_eq (et_lstD (K := K) ead_nil (by show 0 ≤ sizeLine; decide)) (T := DT K (.list ((pf 0).map plD))) rfl) ?_))
  refine st_seq (st_for (xs := List.range n) (gT := fun t => DT K (dn t)) (ws := fun t => [(2, DT K (dn t))])
    (fun i Γ M => ∃ o2, Γ = [some (DT K (dn n)), some (DT K (.list ((pf i).map plD))), o2, none] ∧ M = []) (ix_R (ea_cons (et_var rfl) ea_nil) (by omega)) (fun _ _ => gt_name) ⟨none, rfl, rfl⟩ ?_ ?_)
  · rintro i t _ _ ht ⟨o2, rfl, rfl⟩
    obtain ⟨rfl, hi⟩ := range_at ht
    refine st_set (ew_of (et_eq (et_op (et_var rfl) (lcD (K := K) (f := fun x => plD (t, x)) (ix_sL (xs := allS n) (g := setD) (et_call (ok := fun n : Nat => N3 n) n hn (ea_cons (et_var rfl) ea_nil))) (fun x _ => gt_name) (fun _ => rfl)
      (fun x hx => et_tupD (K := K) (ead_cons (et_var rfl) (ead_cons (et_var rfl) ead_nil)) (by show 2 ≤ sizeLine; decide)) (sz100 (by omega))) (rx_addLD ?_)) (T := DT K (.list ((pf (t + 1)).map plD))) ?_) ⟨_, rfl, rfl⟩)
    · rw [List.length_map, List.length_map, hpl]
      have : t * (allS n).length ≤ 3 * 8 := Nat.mul_le_mul (by omega) h8
      exact Nat.le_of_lt (sz100 (by omega))
    · have : pf (t + 1) = pf t ++ (allS n).map fun x => (t, x) := by
        show (List.range (t + 1)).flatMap _ = _
        rw [List.range_succ, List.flatMap_append, List.flatMap_singleton]
      rw [this, List.map_append, List.map_map]
      rfl
  · rintro _ _ ⟨o2, rfl, rfl⟩
    rw [List.length_range]
    exact st_ret (ew_of (et_var rfl) (rt_P (Sub.refl _)))
end
end Tw
end
/-! W15 -/
section
set_option Elab.async false
set_option linter.all false
set_option autoImplicit false
set_option maxRecDepth 100000
set_option maxHeartbeats 4000000
/-! The walk: the law's texts, their places. -/
namespace Tw
open PySem PySem.Spec PyProof.Rows L2
section
variable {P : Program} {w : World} {K : PySem.W.Frag} {mg : PySem.Str → Option Value} {base : Heap}
def sp_L_v_texts_in (K : PySem.W.Frag) : Sp := spP (fun a : PyData × Txt => a.1 = a.2.toD) (fun a => [DT K a.1]) (fun a => DT K (.tuple (a.2.kids.map Txt.toD)))
theorem bt_sidesL {Γ : TEnv} {M : Mem} {i : Nat} {tg : Str} {rest : List PyData} {b : Bool} (h : Γ[i]? = some (some (DT K (.tuple (.str tg :: rest))))) (e : (("we" : Str) == tg || (("they" : Str) == tg || false)) = b) : BT (tTest (tOp (rInA K) (tOp (rIxA P w K) (tVar i) (tC (.int 0))) (tLst (tCons (tC (.str "we")) (tCons (tC (.str "they")) tNil))))) Γ M b :=
  bt_test (et_eq (T := DT K (.bool b)) (et_op (et_item h (at0 _ _)) (et_lstD (K := K) (ead_cons (et_str (K := K)) (ead_cons (et_str (K := K)) ead_nil)) (by show 2 ≤ sizeLine; decide)) (rx_inF (d := .str tg) rfl rfl)) (by rw [← e]; rfl))
theorem ok_L_v_texts_in (T : Tx K mg) : FnOk P w K mg base CX0 1 aL_v_texts_in (fdAt K aL_v_texts_in) P_L_v_texts_in (sp_L_v_texts_in K) := by
  refine fn_ok T.d_L_v_texts_in sc_L_v_texts_in (fun _ => rfl) fun cdv A outer s H E hr => ⟨_, (pss_cons (ps_if (pt_cmpR (eqK (K := K) rfl (hu64 hr)) (pe_ix (ixK (P := P) (w := w) (K := K) rfl rfl rfl (hu10 hr)) (pv 0) (pe_int) (fun _ _ => rfl)) (pe_str) (nomark _)) (pss_one (ps_ret (pe_slice (slK (K := K) rfl) (pv 0) (po_some (pe_int)) po_none))) pss_nil) (pss_cons (ps_if (pt_cmpR (eqK (K := K) rfl (hu64 hr)) (pe_ix (ixK (P := P) (w := w) (K := K) rfl rfl rfl (hu10 hr)) (pv 0) (pe_int) (fun _ _ => rfl)) (pe_str) (nomark _)) (pss_one (ps_ret (pe_slice (slK (K := K) rfl) (pv 0) (po_some (pe_int)) po_none))) pss_nil) (pss_one (ps_ret (pe_ifExp (pt_cmpR (inK (K := K) rfl (hu65 hr)) (pe_ix (ixK (P := P) (w := w) (K := K) rfl rfl rfl (hu10 hr)) (pv 0) (pe_int) (fun _ _ => rfl)) (pe_lst (pa_cons (pe_str) (pa_cons (pe_str) pa_nil))) (by with_unfolding_all rfl)) (pe_ix (ixK (P := P) (w := w) (K := K) rfl rfl rfl (hu10 hr)) (pv 0) (pe_int) (fun _ _ => rfl)) (pe_tup pa_nil)))))), ?_⟩
  rintro ⟨d, t⟩ O hd hO
  have hd : d = t.toD := hd
  have one : ∀ {tg : Str} {a b : PyData}, cut [PyData.str tg, a, b] (some 1) none = [a, b] := fun {tg a b} => cut_from _ 1
  have two : ∀ {tg : Str} {a b c : PyData}, cut [PyData.str tg, a, b, c] (some 2) none = [b, c] := fun {tg a b c} => cut_from _ 2
  cases t with
  | ch we l =>
    rw [Txt.toD, toDs_map] at hd
    subst hd
    refine st_seq (st_if (b := false) (bt_test (et_tag rfl (by cases we <;> decide +kernel) (by decide +kernel) (by cases we <;> decide +kernel))) (fun h => nomatch h) fun _ => st_next ?_)
    refine st_seq (st_if (b := false) (bt_test (et_tag rfl (by cases we <;> decide +kernel) (by decide +kernel) (by cases we <;> decide +kernel))) (fun h => nomatch h) fun _ => st_next ?_)
    exact st_ret (ew_of (et_if (b := true) (bt_sidesL rfl (by cases we <;> decide +kernel)) (fun _ => et_item rfl rfl) fun h => nomatch h) (rt_P (Sub.refl _)))
  | ite x a b =>
    rw [Txt.toD] at hd
    subst hd
    refine st_seq (st_if (b := true) (bt_test (et_tag rfl (by decide +kernel) (by decide +kernel) (by decide +kernel))) (fun _ => ?_) fun h => nomatch h)
    exact st_ret (ew_of (et_eq (et_slTD (et_var rfl) ot_c ot_no) (by rw [two]; rfl)) (rt_P (Sub.refl _)))
  | thn a b =>
    rw [Txt.toD] at hd
    subst hd
    refine st_seq (st_if (b := false) (bt_test (et_tag rfl (by decide +kernel) (by decide +kernel) (by decide +kernel))) (fun h => nomatch h) fun _ => st_next ?_)
    refine st_seq (st_if (b := true) (bt_test (et_tag rfl (by decide +kernel) (by decide +kernel) (by decide +kernel))) (fun _ => ?_) fun h => nomatch h)
    exact st_ret (ew_of (et_eq (et_slTD (et_var rfl) ot_c ot_no) (by rw [one]; rfl)) (rt_P (Sub.refl _)))
  | skip =>
    rw [Txt.toD] at hd
    subst hd
    refine st_seq (st_if (b := false) (bt_test (et_tag rfl (by decide +kernel) (by decide +kernel) (by decide +kernel))) (fun h => nomatch h) fun _ => st_next ?_)
    refine st_seq (st_if (b := false) (bt_test (et_tag rfl (by decide +kernel) (by decide +kernel) (by decide +kernel))) (fun h => nomatch h) fun _ => st_next ?_)
    exact st_ret (ew_of (et_if (b := false) (bt_sidesL rfl (by decide +kernel)) (fun h => nomatch h) fun _ => et_tupD (K := K) ead_nil (by show 0 ≤ sizeLine; decide)) (rt_P (Sub.refl _)))
  | go ts =>
    rw [Txt.toD] at hd
    subst hd
    refine st_seq (st_if (b := false) (bt_test (et_tag rfl (by decide +kernel) (by decide +kernel) (by decide +kernel))) (fun h => nomatch h) fun _ => st_next ?_)
    refine st_seq (st_if (b := false) (bt_test (et_tag rfl (by decide +kernel) (by decide +kernel) (by decide +kernel))) (fun h => nomatch h) fun _ => st_next ?_)
    exact st_ret (ew_of (et_if (b := false) (bt_sidesL rfl (by decide +kernel)) (fun h => nomatch h) fun _ => et_tupD (K := K) ead_nil (by show 0 ≤ sizeLine; decide)) (rt_P (Sub.refl _)))
  | call k =>
    rw [Txt.toD] at hd
    subst hd
    refine st_seq (st_if (b := false) (bt_test (et_tag rfl (by decide +kernel) (by decide +kernel) (by decide +kernel))) (fun h => nomatch h) fun _ => st_next ?_)
    refine st_seq (st_if (b := false) (bt_test (et_tag rfl (by decide +kernel) (by decide +kernel) (by decide +kernel))) (fun h => nomatch h) fun _ => st_next ?_)
    exact st_ret (ew_of (et_if (b := false) (bt_sidesL rfl (by decide +kernel)) (fun h => nomatch h) fun _ => et_tupD (K := K) ead_nil (by show 0 ≤ sizeLine; decide)) (rt_P (Sub.refl _)))
  | part k =>
    rw [Txt.toD] at hd
    subst hd
    refine st_seq (st_if (b := false) (bt_test (et_tag rfl (by decide +kernel) (by decide +kernel) (by decide +kernel))) (fun h => nomatch h) fun _ => st_next ?_)
    refine st_seq (st_if (b := false) (bt_test (et_tag rfl (by decide +kernel) (by decide +kernel) (by decide +kernel))) (fun h => nomatch h) fun _ => st_next ?_)
    exact st_ret (ew_of (et_if (b := false) (bt_sidesL rfl (by decide +kernel)) (fun h => nomatch h) fun _ => et_tupD (K := K) ead_nil (by show 0 ≤ sizeLine; decide)) (rt_P (Sub.refl _)))
theorem go_cons {i : Nat} {r : List Nat} {t u : Txt} (h : txtGo (i :: r) t = some u) : ∃ c, t.kids[i]? = some c ∧ txtGo r c = some u := by
  rw [txtGo] at h
  cases e : t.kids[i]? with
  | none =>
    rw [e] at h
    cases h
  | some c =>
    rw [e] at h
    exact ⟨c, rfl, h⟩
def sp_L_v_text_at (K : PySem.W.Frag) : Sp := spP (fun a : List Txt × Plc × Txt => a.2.1.1 < a.1.length ∧ txtGo a.2.1.2 (txtAt a.1 a.2.1.1) = some a.2.2) (fun a => [DT K (.tuple (a.1.map Txt.toD)), DT K (plD a.2.1)]) (fun a => DT K a.2.2.toD)
theorem ok_L_v_text_at (T : Tx K mg) : FnOk P w K mg base CX0 2 aL_v_text_at (fdAt K aL_v_text_at) P_L_v_text_at (sp_L_v_text_at K) := by
  refine fn_ok T.d_L_v_text_at sc_L_v_text_at (fun _ => rfl) fun cdv A outer s H E hr => ⟨_, (pss_cons (ps_if (pt_cmpR op_ge (pe_ix (ixK (P := P) (w := w) (K := K) rfl rfl rfl (hu10 hr)) (pv 1) (pe_int) (fun _ _ => rfl)) (pe_callB (lenK (K := K) rfl) rfl T.f_len bt_len (pa_cons (pv 0) pa_nil)) (nomark _)) (pss_one (ps_ret (pe_non))) pss_nil) (pss_cons (ps_set (i := 2) sc_L_v_text_at.nd rfl (by first | exact Or.inl rfl | exact Or.inr rfl) (pe_ix (ixK (P := P) (w := w) (K := K) rfl rfl rfl (hu10 hr)) (pv 0) (pe_ix (ixK (P := P) (w := w) (K := K) rfl rfl rfl (hu10 hr)) (pv 1) (pe_int) (fun _ _ => rfl)) (fun _ _ => rfl))) (pss_cons (ps_for PassesOwn.never rfl (seqK (K := K) rfl (pe_ix (ixK (P := P) (w := w) (K := K) rfl rfl rfl (hu10 hr)) (pv 1) (pe_int) (fun _ _ => rfl))) (pg_name (i := 3) sc_L_v_text_at.nd rfl (by first | exact Or.inl rfl | exact Or.inr rfl)) (pss_cons (ps_set (i := 4) sc_L_v_text_at.nd rfl (by first | exact Or.inl rfl | exact Or.inr rfl) (pe_call (ok_L_v_texts_in (P := P) (w := w) T) (hr.mono (by omega)) rfl T.g_L_v_texts_in T.d_L_v_texts_in.kp T.b_L_v_texts_in .nil pass0 (pa_cons (pv 2) pa_nil))) (pss_cons (ps_if (pt_cmpR op_ge (pv 3) (pe_callB (lenK (K := K) rfl) rfl T.f_len bt_len (pa_cons (pv 4) pa_nil)) (nomark _)) (pss_one (ps_ret (pe_non))) pss_nil) (pss_one (ps_set (i := 2) sc_L_v_text_at.nd rfl (by first | exact Or.inl rfl | exact Or.inr rfl) (pe_ix (ixK (P := P) (w := w) (K := K) rfl rfl rfl (hu10 hr)) (pv 4) (pv 3) (fun _ _ => rfl))))))) (pss_one (ps_ret (pv 2)))))), ?_⟩
  rintro ⟨ts, ⟨k, p⟩, u⟩ O ⟨hk, hu⟩ hO
  have hk : k < ts.length := hk
  have hu : txtGo p (txtAt ts k) = some u := hu
  refine st_seq (st_if (b := false) (bt_eq (bt_test (et_op (et_item rfl rfl) (et_cb (ea_cons (et_var rfl) ea_nil) cx_lenTD) rx_B0)) ?_) (fun h => nomatch h) fun _ => st_next ?_)
  · rw [List.length_map]
    exact decide_eq_false (by show ¬ ((ts.length : Nat) : Int) ≤ ((k : Nat) : Int); omega)
  refine st_seq (st_set (ew_of (et_op (et_var rfl) (et_item rfl rfl) (rx_ixTD (d := (txtAt ts k).toD) (atI_nat (by rw [List.getElem?_map, List.getElem?_eq_getElem hk, txtAt, List.getD_eq_getElem?_getD, List.getElem?_eq_getElem hk]; rfl)))) ?_))
  refine st_seq (st_for (xs := p) (gT := fun i => DT K (dn i)) (ws := fun i => [(3, DT K (dn i))])
    (fun i Γ M => ∃ v o3 o4, txtGo (p.drop i) v = some u ∧ Γ = [some (DT K (.tuple (ts.map Txt.toD))), some (DT K (plD (k, p))), some (DT K v.toD), o3, o4] ∧ M = []) (ix_sT (g := dn) (et_item rfl rfl)) (fun _ _ => gt_name) ⟨_, none, none, hu, rfl, rfl⟩ ?_ ?_)
  · rintro i m _ _ hi ⟨v, o3, o4, hv, rfl, rfl⟩
    obtain ⟨hlt, hm⟩ := List.getElem?_eq_some_iff.mp hi
    rw [List.drop_eq_getElem_cons hlt, hm] at hv
    obtain ⟨c, hc, hr⟩ := go_cons hv
    refine st_seq (st_set (ew_of (et_call (v.toD, v) rfl (ea_cons (et_var rfl) ea_nil)) ?_))
    refine st_seq (st_if (b := false) (bt_eq (bt_test (et_op (et_var rfl) (et_cb (ea_cons (et_var rfl) ea_nil) cx_lenTD) rx_B0)) ?_) (fun h => nomatch h) fun _ => st_next ?_)
    · rw [List.length_map]
      have := (List.getElem?_eq_some_iff.mp hc).1
      exact decide_eq_false (by show ¬ ((v.kids.length : Nat) : Int) ≤ ((m : Nat) : Int); omega)
    · exact st_set (ew_of (et_op (et_var rfl) (et_var rfl) (rx_ixTD (d := c.toD) (atI_nat (by rw [List.getElem?_map, hc]; rfl)))) ⟨c, _, _, hr, rfl, rfl⟩)
  · rintro _ _ ⟨v, o3, o4, hv, rfl, rfl⟩
    rw [List.drop_length] at hv
    cases hv
    exact st_ret (ew_of (et_var rfl) (rt_P (Sub.refl _)))
/-! ### another text at a place -/
theorem map_dt (l : List Txt) : (l.map Txt.toD).map (DT K) = l.map fun u => DT K u.toD := by
  rw [List.map_map]
  rfl
theorem ixN_nat {n i : Nat} (h : i < n) : ixN n (i : Int) = some i := by
  unfold ixN
  simp [h]
/-- an item of an owned list of data -/
theorem et_own {Γ : TEnv} {M : Mem} {ds : List PyData} {d : PyData} {i j m : Nat} {l : Addr} (hi : Γ[i]? = some (some (VT (.ref l)))) (hm : M[j]? = some (l, lstC (ds.map (DT K)))) (hd : ds[m]? = some d) {ti : TE} (h : ET ti Γ M (DT K (dn m))) : ET (tOp (rIxA P w K) (tVar i) ti) Γ M (DT K d) :=
  et_op (et_var hi) h (rx_ixO hm (atI_nat (by rw [List.getElem?_map, hd]; rfl)))
theorem getD_at {l : List Txt} {i : Nat} {c : Txt} (h : l[i]? = some c) : l.getD i .skip = c := by
  rw [List.getD_eq_getElem?_getD, h]
  rfl
def sp_L_v_put (K : PySem.W.Frag) (d : Nat) : Sp := spP (fun a : List Nat × Txt × Txt => a.1.length < d ∧ (∃ u, txtGo a.1 a.2.1 = some u) ∧ a.2.1.size ≤ 1000) (fun a => [DT K a.2.1.toD, DT K (setD a.1), DT K a.2.2.toD]) (fun a => DT K (putX a.1 a.2.1 a.2.2).toD)
theorem ok_L_v_put (T : Tx K mg) : ∀ d, FnOk P w K mg base CX0 (2+d) aL_v_put (fdAt K aL_v_put) P_L_v_put (sp_L_v_put K d)
  | 0 => fn_absurd fun a ⟨h, _⟩ => Nat.not_lt_zero _ h
  | d + 1 => by
    have ih := ok_L_v_put T d
    show FnOk P w K mg base CX0 (2+d+1) aL_v_put (fdAt K aL_v_put) P_L_v_put (sp_L_v_put K (d + 1))
    refine fn_ok T.d_L_v_put sc_L_v_put (fun _ => rfl) fun cdv A outer s H E hr => ⟨_, (pss_cons (ps_if (pt_cmpR (eqK (K := K) rfl (hu64 hr)) (pv 1) (pe_tup pa_nil) (nomark _)) (pss_one (ps_ret (pv 2))) pss_nil) (pss_cons (ps_set (i := 3) sc_L_v_put.nd rfl (by first | exact Or.inl rfl | exact Or.inr rfl) (pe_callTy (listK (K := K) rfl) rfl T.f_list bt_list (pa_cons (pe_call (ok_L_v_texts_in (P := P) (w := w) T) (hr.mono (by omega)) rfl T.g_L_v_texts_in T.d_L_v_texts_in.kp T.b_L_v_texts_in .nil pass0 (pa_cons (pv 0) pa_nil)) pa_nil))) (pss_cons (ps_asg (pe_call ih (hr.mono (by omega)) rfl T.g_L_v_put T.d_L_v_put.kp T.b_L_v_put .nil pass0 (pa_cons (pe_ix (ixK (P := P) (w := w) (K := K) rfl rfl rfl (hu10 hr)) (pv 3) (pe_ix (ixK (P := P) (w := w) (K := K) rfl rfl rfl (hu10 hr)) (pv 1) (pe_int) (fun _ _ => rfl)) (fun _ _ => rfl)) (pa_cons (pe_slice (slK (K := K) rfl) (pv 1) (po_some (pe_int)) po_none) (pa_cons (pv 2) pa_nil)))) (pg_sub (pv 3) (pe_ix (ixK (P := P) (w := w) (K := K) rfl rfl rfl (hu10 hr)) (pv 1) (pe_int) (fun _ _ => rfl)) (set_list))) (pss_cons (ps_if (pt_cmpR (eqK (K := K) rfl (hu64 hr)) (pe_ix (ixK (P := P) (w := w) (K := K) rfl rfl rfl (hu10 hr)) (pv 0) (pe_int) (fun _ _ => rfl)) (pe_str) (nomark _)) (pss_one (ps_ret (pe_tup (pa_cons (pe_str) (pa_cons (pe_ix (ixK (P := P) (w := w) (K := K) rfl rfl rfl (hu10 hr)) (pv 0) (pe_int) (fun _ _ => rfl)) (pa_cons (pe_ix (ixK (P := P) (w := w) (K := K) rfl rfl rfl (hu10 hr)) (pv 3) (pe_int) (fun _ _ => rfl)) (pa_cons (pe_ix (ixK (P := P) (w := w) (K := K) rfl rfl rfl (hu10 hr)) (pv 3) (pe_int) (fun _ _ => rfl)) pa_nil))))))) pss_nil) (pss_one (ps_ret (pe_ifExp (pt_cmpR (eqK (K := K) rfl (hu64 hr)) (pe_ix (ixK (P := P) (w := w) (K := K) rfl rfl rfl (hu10 hr)) (pv 0) (pe_int) (fun _ _ => rfl)) (pe_str) (nomark _)) (pe_tup (pa_cons (pe_str) (pa_cons (pe_ix (ixK (P := P) (w := w) (K := K) rfl rfl rfl (hu10 hr)) (pv 3) (pe_int) (fun _ _ => rfl)) (pa_cons (pe_ix (ixK (P := P) (w := w) (K := K) rfl rfl rfl (hu10 hr)) (pv 3) (pe_int) (fun _ _ => rfl)) pa_nil)))) (pe_tup (pa_cons (pe_ix (ixK (P := P) (w := w) (K := K) rfl rfl rfl (hu10 hr)) (pv 0) (pe_int) (fun _ _ => rfl)) (pa_cons (tupOfK (K := K) rfl rfl T.f_tuple (pv 3)) pa_nil)))))))))), ?_⟩
    rintro ⟨p, t, o⟩ O ⟨hd, ⟨u, hu⟩, hsz⟩ hO
    have hd : p.length < d + 1 := hd
    have hu : txtGo p t = some u := hu
    have hsz : t.size ≤ 1000 := hsz
    refine st_seq (st_if (b := decide (p = [])) (bt_eq (bt_test (et_op (et_var rfl) (et_tupD (K := K) ead_nil (by show 0 ≤ sizeLine; decide)) (rx_eq (shaped_set p) (shaped_set [])))) (eqv_set p [])) (fun hp => ?_) fun hp => st_next ?_)
    · have hp := of_decide_eq_true hp
      subst hp
      exact st_ret (ew_of (et_var rfl) (rt_P (Sub.refl _)))
    have hp := of_decide_eq_false hp
    cases p with
    | nil => exact absurd rfl hp
    | cons i p =>
    obtain ⟨c, hc, hr⟩ := go_cons hu
    have hlt := (List.getElem?_eq_some_iff.mp hc).1
    have hcs := kid_size (List.mem_of_getElem? hc)
    have hput : putX (i :: p) t o = t.with (t.kids.set i (putX p c o)) := by
      rw [putX, getD_at hc]
    refine st_seq (st_set (ew_listT (Ts := (t.kids.map Txt.toD).map (DT K)) (ea_cons (et_eq (et_call (t.toD, t) rfl (ea_cons (et_var rfl) ea_nil)) (tt_dt _).symm) ea_nil) fun l hz => ?_))
    have hit : ∀ {Γ : TEnv} {M : Mem}, Γ[1]? = some (some (DT K (setD (i :: p)))) → ET (tOp (rIxA P w K) (tVar 1) (tC (.int 0))) Γ M (DT K (dn i)) := fun h => et_item h (at0 (dn i) (p.map dn))
    refine st_seq (st_setL (ew_of (et_call (ok := fun a : List Nat × Txt × Txt => a.1.length < d ∧ (∃ u, txtGo a.1 a.2.1 = some u) ∧ a.2.1.size ≤ 1000) (p, c, o) ⟨by show p.length < d; have : (i :: p).length = p.length + 1 := rfl; omega, ⟨u, hr⟩, by show c.size ≤ 1000; omega⟩ (ea_cons (et_own (j := 0) rfl rfl (by rw [List.getElem?_map, hc]; rfl) (hit rfl)) (ea_cons (et_eq (et_slTD (et_var rfl) ot_c ot_no) (by rw [show (1 : Int) = ((1 : Nat) : Int) from rfl, cut_from]; rfl)) (ea_cons (et_var rfl) ea_nil))))
      ⟨0, l, _, (i : Int), i, rfl, et_var rfl, hit rfl, ixN_nat (by rw [List.length_map, List.length_map]; exact hlt), ?_⟩))
    show ST _ O _ [(l, lstC (((t.kids.map Txt.toD).map (DT K)).set i (DT K (putX p c o).toD)))] _
    have hset : ((t.kids.map Txt.toD).map (DT K)).set i (DT K (putX p c o).toD) = ((t.kids.set i (putX p c o)).map Txt.toD).map (DT K) := by
      rw [List.map_set, List.map_set]
    rw [hset]
    generalize hks : t.kids.set i (putX p c o) = ks at hput ⊢
    have hkl : ks.length = t.kids.length := by rw [← hks, List.length_set]
    have h0 : ∀ {x y : Txt}, t.kids = [x, y] → ks[0]? = some (ks.getD 0 .skip) ∧ ks[1]? = some (ks.getD 1 .skip) := by
      intro x y h
      rw [h] at hkl
      match ks, hkl with
      | [a, b], _ => exact ⟨rfl, rfl⟩
    have fin : ∀ {S : Ty} {M : Mem}, S = DT K (t.with ks).toD → (destOf (fun a T M' => T = (fun a : List Nat × Txt × Txt => DT K (putX a.1 a.2.1 a.2.2).toD) a ∧ M' = (fun _ => []) a) (i :: p, t, o)).rt S M := fun {S M} e => rt_P (by
      show Sub S (DT K (putX (i :: p) t o).toD)
      rw [hput, e]
      exact Sub.refl _)
    have own : ∀ {Γ : TEnv} {j : Nat} {v : Txt}, Γ[3]? = some (some (VT (.ref l))) → ks[j]? = some v → ET (tOp (rIxA P w K) (tVar 3) (tC (.int (j : Int)))) Γ [(l, lstC ((ks.map Txt.toD).map (DT K)))] (DT K v.toD) := fun h hv => et_own (j := 0) h rfl (by rw [List.getElem?_map, hv]; rfl) (et_int (K := K))
    cases t with
    | ch we l' =>
      rw [Txt.toD, toDs_map]
      refine st_seq (st_if (b := false) (bt_test (et_tag rfl (by cases we <;> decide +kernel) (by decide +kernel) (by cases we <;> decide +kernel))) (fun h => nomatch h) fun _ => st_next ?_)
      refine st_ret (ew_of (et_if (b := false) (bt_test (et_tag rfl (by cases we <;> decide +kernel) (by decide +kernel) (by cases we <;> decide +kernel))) (fun h => nomatch h) fun _ => et_tupD (K := K) (ead_cons (et_item rfl rfl) (ead_cons (et_eq (et_tupleO (j := 0) rfl (et_var rfl)) (tt_dt (ks.map Txt.toD))) ead_nil)) (by show 2 ≤ sizeLine; decide)) (fin ?_))
      show _ = DT K (Txt.ch we ks).toD
      rw [Txt.toD, toDs_map]
    | ite x a b =>
      obtain ⟨k0, k1⟩ := h0 rfl
      rw [Txt.toD]
      refine st_seq (st_if (b := true) (bt_test (et_tag rfl (by decide +kernel) (by decide +kernel) (by decide +kernel))) (fun _ => ?_) fun h => nomatch h)
      refine st_ret (ew_of (et_tupD (K := K) (ead_cons (et_str (K := K)) (ead_cons (et_item rfl rfl) (ead_cons (own (j := 0) rfl k0) (ead_cons (own (j := 1) rfl k1) ead_nil)))) (by show 4 ≤ sizeLine; decide)) (fin ?_))
      show _ = DT K (Txt.ite x _ _).toD
      rw [Txt.toD]
    | thn a b =>
      obtain ⟨k0, k1⟩ := h0 rfl
      rw [Txt.toD]
      refine st_seq (st_if (b := false) (bt_test (et_tag rfl (by decide +kernel) (by decide +kernel) (by decide +kernel))) (fun h => nomatch h) fun _ => st_next ?_)
      refine st_ret (ew_of (et_if (b := true) (bt_test (et_tag rfl (by decide +kernel) (by decide +kernel) (by decide +kernel))) (fun _ => et_tupD (K := K) (ead_cons (et_str (K := K)) (ead_cons (own (j := 0) rfl k0) (ead_cons (own (j := 1) rfl k1) ead_nil))) (by show 3 ≤ sizeLine; decide)) fun h => nomatch h) (fin ?_))
      show _ = DT K (Txt.thn _ _).toD
      rw [Txt.toD]
    | skip => cases hc
    | go _ => cases hc
    | call _ => cases hc
    | part _ => cases hc
end
end Tw
end
/-! W16 -/
section
set_option Elab.async false
set_option linter.all false
set_option autoImplicit false
set_option maxRecDepth 100000
set_option maxHeartbeats 4000000
/-! The walk: the law's own tables. -/
namespace Tw
open PySem PySem.Spec PyProof.Rows L2
open Evl (Ex ex_l ex_t ex_rd)
section
variable {P : Program} {w : World} {K : PySem.W.Frag} {mg : PySem.Str → Option Value} {base : Heap}
/-! ### a dict from all pairs -/
abbrev esQ (K : PySem.W.Frag) (F : Nat → Row) (l : List Plc) : List (NK × Ty) := l.map fun q => (keyP q, DT K (.bool (F q.1 q.2)))
/-- .. in any order -/
def qT (P : Program) (w : World) (K : PySem.W.Frag) (n : Nat) (F : Nat → Row) : Ty := XT (fun l : List Plc => l.Perm (prs n)) fun l => KdT P w K (esQ K F l)
theorem sub_q {n : Nat} {F : Nat → Row} {l : List Plc} (h : l.Perm (prs n)) : Sub (KdT P w K (esQ K F l)) (qT P w K n F) := sub_x (p := fun l : List Plc => l.Perm (prs n)) (F := fun l => KdT P w K (esQ K F l)) l h
theorem rx_q {M : Mem} {n s : Nat} {x : List Nat} {F : Nat → Row} (hs : s < n) (hx : x ∈ allS n) : RX (rIxA P w K) M (qT P w K n F) (DT K (plD (s, x))) (DT K (.bool (F s x))) := rx_x1 fun l hl => by
  have h := rx_ixK (P := P) (w := w) (K := K) (M := M) (es := esQ K F l) (k := keyP (s, x)) (T := DT K (.bool (F s x))) (look_map (kf := keyP) (f := fun q => DT K (.bool (F q.1 q.2))) (fun _ _ => keyP_inj) (hl.mem_iff.mpr (mem_prs.mpr ⟨hs, hx⟩))) (keyP_depth _) rfl
  rw [keyP_data] at h
  exact h
theorem et_pairD {Γ : TEnv} {M : Mem} {ta tb : TE} {s : Nat} {x : List Nat} (ha : ET ta Γ M (DT K (dn s))) (hb : ET tb Γ M (DT K (setD x))) : ET (tTup (tCons ta (tCons tb tNil))) Γ M (DT K (plD (s, x))) :=
  et_tupD (K := K) (ead_cons ha (ead_cons hb ead_nil)) (by show 2 ≤ sizeLine; decide)
theorem esQ_new {F : Nat → Row} {es : List Plc} {q : Plc} (h : q ∉ es) : keyP q ∉ (esQ K F es).map (·.1) := fun z => by
  rw [List.map_map] at z
  obtain ⟨p, hp, e⟩ := List.mem_map.mp z
  exact h (keyP_inj e ▸ hp)
/-- found[(s, x)] = .. -/
theorem st_qset {O : Org} {Γ : TEnv} {M : Mem} {D : Dest} {te : TE} {i a b s : Nat} {x : List Nat} {l : Addr} {F : Nat → Row} {es : List Plc} (hi : Γ[i]? = some (some (VT (.ref l)))) (ha : Γ[a]? = some (some (DT K (dn s)))) (hb : Γ[b]? = some (some (DT K (setD x)))) (hm : M[0]? = some (l, kdC P w K l (esQ K F es)))
    (he : ET te Γ M (DT K (.bool (F s x)))) (hn : (s, x) ∉ es) (hz : es.length < 1000) (k : D.nx Γ (M.set 0 (l, kdC P w K l (esQ K F (es ++ [(s, x)]))))) :
    ST (tAsg te (gSub (tVar i) (tTup (tCons (tVar a) (tCons (tVar b) tNil))) (rKdS P w K))) O Γ M D :=
  st_kdset (ew_of he ⟨0, l, _, _, hm, et_var hi, by
    have h := et_pairD (K := K) (M := M) (et_var ha) (et_var hb)
    rw [← keyP_data] at h
    exact h, keyP_depth _, esQ_new hn, by rw [List.length_map]; exact sz100 hz, by
    have e : esQ K F (es ++ [(s, x)]) = esQ K F es ++ [(keyP (s, x), DT K (.bool (F s x)))] := List.map_append
    rw [e] at k
    exact k⟩)
theorem at_new {α : Type} {xs : List α} (h : xs.Nodup) {i : Nat} {a : α} (hi : xs[i]? = some a) : a ∉ xs.take i := fun q => by
  obtain ⟨j, hj⟩ := List.getElem?_of_mem q
  rw [List.getElem?_take] at hj
  split at hj
  · rename_i lt
    obtain ⟨h1, e1⟩ := List.getElem?_eq_some_iff.mp hj
    obtain ⟨h2, e2⟩ := List.getElem?_eq_some_iff.mp hi
    have := (List.getElem_inj h).mp (e1.trans e2.symm)
    omega
  · cases hj
/-- rows of sets -/
abbrev RowsOk (n : Nat) (rows : List (List (List Nat))) : Prop := rows.length = n ∧ ∀ ys ∈ rows, FamOk n ys
def rowsF (rows : List (List (List Nat))) (s : Nat) : Row := famF (rows.getD s [])
theorem getD_mem {α : Type} {l : List α} {i : Nat} {d : α} (h : i < l.length) : l.getD i d ∈ l ∧ l[i]? = some (l.getD i d) := by
  rw [List.getD_eq_getElem?_getD, List.getElem?_eq_getElem h]
  exact ⟨List.getElem_mem h, rfl⟩
def sp_L_v_truths (P : Program) (w : World) (K : PySem.W.Frag) : Sp := spP (fun a : Nat × List (List (List Nat)) => N3 a.1 ∧ RowsOk a.1 a.2) (fun a => [DT K (dn a.1), DT K (.list (a.2.map famD))]) (fun a => qT P w K a.1 (rowsF a.2))
theorem ok_L_v_truths (T : Tx K mg) : FnOk P w K mg base CX0 3 aL_v_truths (fdAt K aL_v_truths) P_L_v_truths (sp_L_v_truths P w K) := by
  refine fn_ok T.d_L_v_truths sc_L_v_truths (fun _ => rfl) fun cdv A outer s H E hr => ⟨_, (pss_cons (ps_set (i := 2) sc_L_v_truths.nd rfl (by first | exact Or.inl rfl | exact Or.inr rfl) (kdnewK (P := P) (w := w) rfl rfl)) (pss_cons (ps_for PassesOwn.never rfl (seqK (K := K) rfl (pe_call (ok_L_v_pairs (P := P) (w := w) T) (hr.mono (by omega)) rfl T.g_L_v_pairs T.d_L_v_pairs.kp T.b_L_v_pairs .nil pass0 (pa_cons (pv 0) pa_nil))) (tupK (K := K) (n := 2) rfl rfl (pgs_cons (pg_name (i := 3) sc_L_v_truths.nd rfl (by first | exact Or.inl rfl | exact Or.inr rfl)) (pgs_cons (pg_name (i := 4) sc_L_v_truths.nd rfl (by first | exact Or.inl rfl | exact Or.inr rfl)) pgs_nil))) (pss_one (ps_asg (pe_cmpR (inK (K := K) rfl (hu65 hr)) (pe_bl) (pe_lc (own := [("_law_y", 5)]) (tt := tYes) rfl sc_L_v_truths.nd (seqK (K := K) rfl (pe_ix (ixK (P := P) (w := w) (K := K) rfl rfl rfl (hu10 hr)) (pv 1) (pv 3) (fun _ _ => rfl))) (blkOk_by (N := N_L_v_truths) (sc := defScope sL_v_truths) (by decide +kernel)) (fun _ _ _ _ _ => (pg_name (i := 5) sc_L_v_truths.nd rfl (by first | exact Or.inl rfl | exact Or.inr rfl))) (fun _ _ _ _ _ => pts_nil) (fun _ _ _ _ _ => (pe_call (ok_L_v_is_in (P := P) (w := w) T) (hr.mono (by omega)) rfl T.g_L_v_is_in T.d_L_v_is_in.kp T.b_L_v_is_in .nil pass0 (pa_cons (pv 5) (pa_cons (pv 4) pa_nil))))) (by with_unfolding_all rfl)) (pg_sub (pv 2) (pe_tup (pa_cons (pv 3) (pa_cons (pv 4) pa_nil))) (setKdK (P := P) (w := w) (K := K) rfl rfl rfl (hu10 hr)))))) (pss_one (ps_ret (pv 2))))), ?_⟩
  rintro ⟨n, rows⟩ O ⟨hn, hr⟩ hO
  have hn : N3 n := hn
  have hr : RowsOk n rows := hr
  have hlen := prs_len n hn
  refine st_seq (st_set (ew_kd (K := K) fun l hz => ?_))
  refine st_seq (st_for (xs := prs n) (gT := fun q => DT K (plD q)) (ws := fun q => [(3, DT K (dn q.1)), (4, DT K (setD q.2))])
    (fun i Γ M => ∃ o3 o4, Γ = [some (DT K (dn n)), some (DT K (.list (rows.map famD))), some (VT (.ref l)), o3, o4, none] ∧ M = [(l, kdC P w K l (esQ K (rowsF rows) ((prs n).take i)))])
    (ix_sL (g := plD) (et_call (ok := fun n : Nat => N3 n) n hn (ea_cons (et_var rfl) ea_nil))) (fun _ _ => gt_tupD (gts_cons gt_name (gts_cons gt_name gts_nil)) rfl) ⟨none, none, rfl, rfl⟩ ?_ ?_)
  · rintro i ⟨s, x⟩ _ _ hq ⟨o3, o4, rfl, rfl⟩
    have hm := mem_prs.mp (List.mem_of_getElem? hq)
    have hs : s < rows.length := by rw [hr.1]; exact hm.1
    obtain ⟨h1, h2⟩ := getD_mem (d := ([] : List (List Nat))) hs
    have hf := hr.2 _ h1
    refine st_qset (i := 2) (a := 3) (b := 4) rfl rfl rfl rfl (et_eq (et_op (et_bl (K := K)) (lcB (f := fun y => sub y x) (ix_sL (xs := rows.getD s []) (g := setD) (et_op (et_var rfl) (et_var rfl) (rx_ixLD (atI_nat (by rw [List.getElem?_map, h2]; rfl))))) (fun _ _ => gt_name) (fun _ => rfl)
      (fun y hy => et_call (ok := fun a : List Nat × List Nat => a.1.length < 1000) (y, x) (by have := allS_small n hn y (hf.1 y hy); show y.length < 1000; omega) (ea_cons (et_var rfl) (ea_cons (et_var rfl) ea_nil))) (sz100 (by have := hf.2; omega))) (rx_anyB _)) ?_) (at_new (prs_nodup n hn) hq) ?_ ⟨_, _, rfl, ?_⟩
    · rw [any_id]
      rfl
    · have := (List.getElem?_eq_some_iff.mp hq).1
      rw [List.length_take]
      omega
    · rw [← take_succ_at hq]
      rfl
  · rintro _ _ ⟨o3, o4, rfl, rfl⟩
    rw [List.take_length]
    exact st_freezeK (i := 2) (j := 0) rfl rfl hz (st_ret (ew_of (et_var rfl) (rt_P (sub_q (List.Perm.refl _)))))
/-! dict([(pair, truth), ..]) -/
def rDictG (P : Program) (w : World) (K : PySem.W.Frag) : List V → Hp → VK → Prop := fun xs H Q => ∃ (a : Addr) (ps : List Addr) (es : List Ent), xs = [.ref a] ∧ SqL K H a (ps.map V.ref) ∧ Paired (fun p (e : Ent) => SqT K H p [.ref e.2.1, e.2.2]) ps es ∧
  (∀ e ∈ es, Dp K H (.ref e.2.1) e.1.data ∧ e.1.depth ≤ 8) ∧ (es.map (·.1)).Nodup ∧ ∀ p, H p = none → Q (.ref p) (upd H p (kdO P w p es))
theorem dictK {X : Cx} (hP : X.prog = P) (hw : X.w = w) (hK : X.K = K) (hcalm : X.calm = true) (hu : X.A.units + 12 < cLine) : CallR X (.type "dict") (rDictG P w K) := by
  subst hP hw hK
  exact call_dictKd hcalm hu
theorem plD_ref {I : Hp} {v : V} {z : Plc} (h : (DT K (plD z)).r I v) : ∃ c, v = .ref c := by
  cases h
  exact ⟨_, rfl⟩
theorem cx_dict {M : Mem} {F : Nat → Row} {l : List Plc} (hn : l.Nodup) : CX' (rDictG P w K) M [LstT (l.map fun q => TupT K [DT K (plD q), DT K (.bool (F q.1 q.2))])] (KdT P w K (esQ K F l)) := fun O I H xs Q h0 a q => by
  cases a with
  | cons a t =>
    cases t
    obtain ⟨p, vs, rfl, hp, hv⟩ := a
    have key : ∀ (l : List Plc) (vs : List V), AllTy I (l.map fun q => TupT K [DT K (plD q), DT K (.bool (F q.1 q.2))]) vs → ∃ (ps : List Addr) (es : List Ent), vs = ps.map V.ref ∧ Paired (fun p (e : Ent) => SqT K I p [.ref e.2.1, e.2.2]) ps es ∧ KdR K I (esQ K F l) es := by
      intro l
      induction l with
      | nil =>
        intro vs h
        cases h
        exact ⟨[], [], rfl, .nil, .nil⟩
      | cons z l ih =>
        intro vs h
        cases h with
        | cons h1 h2 =>
          obtain ⟨ps, es, e1, e2, e3⟩ := ih _ h2
          obtain ⟨b, us, rfl, hb, hu⟩ := h1
          cases hu with
          | cons u1 hu =>
            cases hu with
            | cons u2 hu =>
              cases hu
              obtain ⟨c, rfl⟩ := plD_ref u1
              refine ⟨b :: ps, (keyP z, c, _) :: es, by rw [e1]; rfl, .cons hb e2, .cons ⟨rfl, u2, ?_, keyP_depth _⟩ e3⟩
              rw [keyP_data]
              exact dt_dp u1
    obtain ⟨ps, es, rfl, e2, e3⟩ := key l vs hv
    have e3' := e3.mono h0.ex
    refine ⟨p, ps, es, rfl, SqL.of (h0.ex _ _ hp), ?_, e3'.mem, ?_, fun D hD => ?_⟩
    · have : ∀ {ps : List Addr} {es : List Ent}, Paired (fun p (e : Ent) => SqT K I p [.ref e.2.1, e.2.2]) ps es → Paired (fun p (e : Ent) => SqT K H p [.ref e.2.1, e.2.2]) ps es := by
        intro ps es h
        induction h with
        | nil => exact .nil
        | cons a t ih => exact .cons (ex_t h0.ex a) ih
      exact this e2
    · rw [e3.keys, List.map_map]
      exact nodup_map (kf := keyP) (fun _ _ => keyP_inj) hn
    · obtain ⟨e5, h5⟩ := h0.new_ (o := kdO P w D es) hD
      exact q _ _ _ e5 h5 ⟨D, es, rfl, upd_same, e3.mono e5⟩
def sp_L_v_all (P : Program) (w : World) (K : PySem.W.Frag) : Sp := spP (fun a : Nat × Bool => N3 a.1) (fun a => [DT K (dn a.1), DT K (.bool a.2)]) (fun a => qT P w K a.1 fun _ _ => a.2)
theorem ok_L_v_all (T : Tx K mg) : FnOk P w K mg base CX0 3 aL_v_all (fdAt K aL_v_all) P_L_v_all (sp_L_v_all P w K) := by
  refine fn_ok T.d_L_v_all sc_L_v_all (fun _ => rfl) fun cdv A outer s H E hr => ⟨_, (pss_one (ps_ret (pe_callTy (dictK (P := P) (w := w) (K := K) rfl rfl rfl rfl (hu12 hr)) rfl T.f_dict bt_dict (pa_cons (pe_lc (own := [("_law_pair", 2)]) (tt := tYes) rfl sc_L_v_all.nd (seqK (K := K) rfl (pe_call (ok_L_v_pairs (P := P) (w := w) T) (hr.mono (by omega)) rfl T.g_L_v_pairs T.d_L_v_pairs.kp T.b_L_v_pairs .nil pass0 (pa_cons (pv 0) pa_nil))) (blkOk_by (N := N_L_v_all) (sc := defScope sL_v_all) (by decide +kernel)) (fun _ _ _ _ _ => (pg_name (i := 2) sc_L_v_all.nd rfl (by first | exact Or.inl rfl | exact Or.inr rfl))) (fun _ _ _ _ _ => pts_nil) (fun _ _ _ _ _ => (pe_tup (pa_cons (pv 2) (pa_cons (pv 1) pa_nil))))) pa_nil)))), ?_⟩
  rintro ⟨n, b⟩ O hn hO
  have hn : N3 n := hn
  have hlen := prs_len n hn
  exact st_ret (ew_of (et_cb (ea_cons (lcT (xs := prs n) (f := fun q => TupT K [DT K (plD q), DT K (.bool b)]) (ix_sL (g := plD) (et_call (ok := fun n : Nat => N3 n) n hn (ea_cons (et_var rfl) ea_nil))) (fun _ _ => gt_name) (fun _ => rfl) (fun q _ => et_tup (K := K) (ea_cons (et_var rfl) (ea_cons (et_var rfl) ea_nil)) (by show 2 ≤ sizeLine; decide)) (sz100 (by omega))) ea_nil) (cx_dict (F := fun _ _ => b) (prs_nodup n hn))) (rt_P (sub_q (List.Perm.refl _))))
/-- the order in which then fills its dict -/
def thnL (n : Nat) : List Plc := (allS n).flatMap fun x => (List.range n).map fun s => (s, x)
theorem thnL_perm : ∀ n, N3 n → (thnL n).isPerm (prs n) = true := n3 (by decide) (by decide) (by decide)
def sp_L_v_then (P : Program) (w : World) (K : PySem.W.Frag) : Sp := spP (fun a : Nat × (Nat → Row) × (Nat → Row) => N3 a.1) (fun a => [DT K (dn a.1), qT P w K a.1 a.2.1, qT P w K a.1 a.2.2]) (fun a => qT P w K a.1 fun s x => a.2.1 s (pre a.1 a.2.2 x))
theorem ok_L_v_then (T : Tx K mg) : FnOk P w K mg base CX0 2 aL_v_then (fdAt K aL_v_then) P_L_v_then (sp_L_v_then P w K) := by
  refine fn_ok T.d_L_v_then sc_L_v_then (fun _ => rfl) fun cdv A outer s H E hr => ⟨_, (pss_cons (ps_set (i := 3) sc_L_v_then.nd rfl (by first | exact Or.inl rfl | exact Or.inr rfl) (kdnewK (P := P) (w := w) rfl rfl)) (pss_cons (ps_for PassesOwn.never rfl (seqK (K := K) rfl (pe_call (ok_L_v_sets (P := P) (w := w) T) (hr.mono (by omega)) rfl T.g_L_v_sets T.d_L_v_sets.kp T.b_L_v_sets .nil pass0 (pa_cons (pv 0) pa_nil))) (pg_name (i := 4) sc_L_v_then.nd rfl (by first | exact Or.inl rfl | exact Or.inr rfl)) (pss_cons (ps_set (i := 5) sc_L_v_then.nd rfl (by first | exact Or.inl rfl | exact Or.inr rfl) (tupOfK (K := K) rfl rfl T.f_tuple (pe_lc (own := [("_law_t", 6)]) rfl sc_L_v_then.nd (pi_range1 rfl T.f_range (pa_cons (pv 0) pa_nil)) (blkOk_by (N := N_L_v_then) (sc := defScope sL_v_then) (by decide +kernel)) (fun _ _ _ _ _ => (pg_name (i := 6) sc_L_v_then.nd rfl (by first | exact Or.inl rfl | exact Or.inr rfl))) (fun _ _ _ _ _ => pts_one (pt_val (pe_ix (ixK (P := P) (w := w) (K := K) rfl rfl rfl (hu10 hr)) (pv 2) (pe_tup (pa_cons (pv 6) (pa_cons (pv 4) pa_nil))) (fun _ _ => rfl)))) (fun _ _ _ _ _ => (pv 6))))) (pss_one (ps_for PassesOwn.never rfl (pi_range1 rfl T.f_range (pa_cons (pv 0) pa_nil)) (pg_name (i := 7) sc_L_v_then.nd rfl (by first | exact Or.inl rfl | exact Or.inr rfl)) (pss_one (ps_asg (pe_ix (ixK (P := P) (w := w) (K := K) rfl rfl rfl (hu10 hr)) (pv 1) (pe_tup (pa_cons (pv 7) (pa_cons (pv 5) pa_nil))) (fun _ _ => rfl)) (pg_sub (pv 3) (pe_tup (pa_cons (pv 7) (pa_cons (pv 4) pa_nil))) (setKdK (P := P) (w := w) (K := K) rfl rfl rfl (hu10 hr))))))))) (pss_one (ps_ret (pv 3))))), ?_⟩
  rintro ⟨n, F, G⟩ O hn hO
  have hn : N3 n := hn
  have hn3 := hn.2
  have h8 := allS_le8 n hn
  let B : Nat → Row := fun s x => F s (pre n G x)
  let pf : Nat → List Plc := fun i => ((allS n).take i).flatMap fun x => (List.range n).map fun s => (s, x)
  have hnd : (thnL n).Nodup := (List.isPerm_iff.mp (thnL_perm n hn)).nodup_iff.mpr (prs_nodup n hn)
  have hpl : ∀ i, (pf i).length = ((allS n).take i).length * n := by
    intro i
    show (((allS n).take i).flatMap _).length = _
    generalize (allS n).take i = l
    induction l with
    | nil => simp
    | cons a l ih => rw [List.flatMap_cons, List.length_append, ih, List.length_map, List.length_range, List.length_cons, Nat.succ_mul, Nat.add_comm]
  have hfst : ∀ i q, q ∈ pf i → q.2 ∈ (allS n).take i := by
    intro i q hq
    obtain ⟨x, hx, h⟩ := List.mem_flatMap.mp hq
    obtain ⟨s, _, rfl⟩ := List.mem_map.mp h
    exact hx
  refine st_seq (st_set (ew_kd (K := K) fun l hz => ?_))
  refine st_seq (st_for (xs := allS n) (gT := fun x => DT K (setD x)) (ws := fun x => [(4, DT K (setD x))])
    (fun i Γ M => ∃ o4 o5 o7, Γ = [some (DT K (dn n)), some (qT P w K n F), some (qT P w K n G), some (VT (.ref l)), o4, o5, none, o7] ∧ M = [(l, kdC P w K l (esQ K B (pf i)))])
    (ix_sL (g := setD) (et_call (ok := fun n : Nat => N3 n) n hn (ea_cons (et_var rfl) ea_nil))) (fun _ _ => gt_name) ⟨none, none, none, rfl, rfl⟩ ?_ ?_)
  · rintro i x _ _ hx ⟨o4, o5, o7, rfl, rfl⟩
    have hxm := List.mem_of_getElem? hx
    refine st_seq (st_set (ew_of (et_eq (et_tupleLD (lcDIf (K := K) (p := fun t => G t x) (f := dn) (ix_R (n := n) (ea_cons (et_var rfl) ea_nil) (by omega)) (fun t _ => gt_name) (fun _ => rfl)
      (fun t ht => bt_B (et_op (et_var rfl) (et_pairD (K := K) (et_var rfl) (et_var rfl)) (rx_q (List.mem_range.mp ht) hxm))) (fun t _ _ => et_var rfl) (sz100 (by rw [List.length_range]; omega)))) (T := DT K (setD (pre n G x))) rfl) ?_))
    refine st_for (xs := List.range n) (gT := fun s => DT K (dn s)) (ws := fun s => [(7, DT K (dn s))])
      (fun j Γ M => ∃ o7, Γ = [some (DT K (dn n)), some (qT P w K n F), some (qT P w K n G), some (VT (.ref l)), some (DT K (setD x)), some (DT K (setD (pre n G x))), none, o7] ∧ M = [(l, kdC P w K l (esQ K B (pf i ++ ((List.range n).take j).map fun s => (s, x))))])
      (ix_R (ea_cons (et_var rfl) ea_nil) (by omega)) (fun _ _ => gt_name) ⟨_, rfl, by rw [List.take_zero, List.map_nil, List.append_nil]⟩ ?_ ?_
    · rintro j s _ _ hj ⟨o7, rfl, rfl⟩
      obtain ⟨rfl, hs⟩ := range_at hj
      refine st_qset (i := 3) (a := 7) (b := 4) rfl rfl rfl rfl (et_op (et_var rfl) (et_pairD (K := K) (et_var rfl) (et_var rfl)) (rx_q hs (pre_mem hn G x))) ?_ ?_ ⟨_, rfl, ?_⟩
      · intro q
        rcases List.mem_append.mp q with q | q
        · exact at_new (allS_nodup n hn) hx (hfst i _ q)
        · obtain ⟨s', hs', e⟩ := List.mem_map.mp q
          have e : s' = s := congrArg Prod.fst e
          subst e
          exact at_new List.nodup_range hj hs'
      · rw [List.length_append, hpl, List.length_map, List.length_take, List.length_take, List.length_range]
        have h1 := (List.getElem?_eq_some_iff.mp hx).1
        have : min i (allS n).length * n ≤ 8 * 3 := Nat.mul_le_mul (by omega) hn3
        omega
      · rw [take_succ_at hj, List.map_append, List.append_assoc]
        rfl
    · rintro _ _ ⟨o7, rfl, rfl⟩
      refine ⟨_, _, _, rfl, ?_⟩
      rw [List.take_length]
      have : pf (i + 1) = pf i ++ (List.range n).map fun s => (s, x) := by
        show ((allS n).take (i + 1)).flatMap _ = _
        rw [take_succ_at hx, List.flatMap_append, List.flatMap_singleton]
      rw [this]
  · rintro _ _ ⟨o4, o5, o7, rfl, rfl⟩
    have e : pf (allS n).length = thnL n := by
      show ((allS n).take (allS n).length).flatMap _ = _
      rw [List.take_length]
      rfl
    rw [e]
    exact st_freezeK (i := 3) (j := 0) rfl rfl hz (st_ret (ew_of (et_var rfl) (rt_P (sub_q (List.isPerm_iff.mp (thnL_perm n hn))))))
end
end Tw
end
/-! W17 -/
section
set_option Elab.async false
set_option linter.all false
set_option autoImplicit false
set_option maxRecDepth 100000
set_option maxHeartbeats 4000000
/-! The walk: the law's own rounds. -/
namespace Tw
open PySem PySem.Spec PyProof.Rows L2
open Evl (Ex ex_l ex_t ex_rd)
section
variable {P : Program} {w : World} {K : PySem.W.Frag} {mg : PySem.Str → Option Value} {base : Heap}
theorem set_again {α : Type} {l : List α} {a b : Nat} {x y u v : α} (h : a ≠ b) : (((l.set a x).set b y).set a u).set b v = (l.set a u).set b v := by
  rw [List.set_comm _ _ (Ne.symm h), List.set_set, List.set_set]
/-- for s, x in pairs(n): found[(s, x)] = .. -/
theorem st_forq {O : Org} {Γ : TEnv} {D : Dest} {wi : TI} {t : TS} {a b n : Nat} {l : Addr} (F : Nat → Row) (hab : a ≠ b) (h0 : Γ = (Γ.set a none).set b none) (hi : IX wi Γ [(l, kdC P w K l [])] (prs n) (fun q => DT K (plD q)))
    (hb : ∀ (s : Nat) (x : List Nat) (i : Nat) (D' : Dest), (prs n)[i]? = some (s, x) → s < n → x ∈ allS n → D'.nx ((Γ.set a (some (DT K (dn s)))).set b (some (DT K (setD x)))) [(l, kdC P w K l (esQ K F ((prs n).take i ++ [(s, x)])))] →
      ST t O ((Γ.set a (some (DT K (dn s)))).set b (some (DT K (setD x)))) [(l, kdC P w K l (esQ K F ((prs n).take i)))] D')
    (k : ∀ oa ob, D.nx ((Γ.set a oa).set b ob) [(l, kdC P w K l (esQ K F (prs n)))]) : ST (tFor wi (gTup K 2 (gCons (gName a) (gCons (gName b) gNil))) t) O Γ [(l, kdC P w K l [])] D := by
  refine st_for (xs := prs n) (gT := fun q => DT K (plD q)) (ws := fun q => [(a, DT K (dn q.1)), (b, DT K (setD q.2))])
    (fun i Γ' M => ∃ oa ob, Γ' = (Γ.set a oa).set b ob ∧ M = [(l, kdC P w K l (esQ K F ((prs n).take i)))]) hi (fun _ _ => gt_tupD (gts_cons gt_name (gts_cons gt_name gts_nil)) rfl) ⟨none, none, h0, rfl⟩ ?_ ?_
  · rintro i ⟨s, x⟩ _ _ hq ⟨oa, ob, rfl, rfl⟩
    have hm := mem_prs.mp (List.mem_of_getElem? hq)
    show ST t O ((((Γ.set a oa).set b ob).set a (some (DT K (dn s)))).set b (some (DT K (setD x)))) _ _
    rw [set_again hab]
    refine hb s x i _ hq hm.1 hm.2 ⟨_, _, rfl, ?_⟩
    rw [take_succ_at hq]
  · rintro _ _ ⟨oa, ob, rfl, rfl⟩
    rw [List.take_length]
    exact k oa ob
theorem st_qset' {O : Org} {Γ : TEnv} {D : Dest} {te : TE} {i a b s j n : Nat} {x : List Nat} {l : Addr} {F : Nat → Row} (hn : N3 n) (hq : (prs n)[j]? = some (s, x)) (hi : Γ[i]? = some (some (VT (.ref l)))) (ha : Γ[a]? = some (some (DT K (dn s)))) (hb : Γ[b]? = some (some (DT K (setD x))))
    (he : ET te Γ [(l, kdC P w K l (esQ K F ((prs n).take j)))] (DT K (.bool (F s x)))) (k : D.nx Γ [(l, kdC P w K l (esQ K F ((prs n).take j ++ [(s, x)])))]) :
    ST (tAsg te (gSub (tVar i) (tTup (tCons (tVar a) (tCons (tVar b) tNil))) (rKdS P w K))) O Γ [(l, kdC P w K l (esQ K F ((prs n).take j)))] D :=
  st_qset hi ha hb rfl he (at_new (prs_nodup n hn) hq) (by
    have := (List.getElem?_eq_some_iff.mp hq).1
    have := prs_len n hn
    rw [List.length_take]
    omega) k
/-- kind == ".." -/
theorem bt_kind {Γ : TEnv} {M : Mem} {i : Nat} {tg s : Str} {b : Bool} (h : Γ[i]? = some (some (DT K (.str tg)))) (h1 : (PyData.str tg).canLay0 = true) (h2 : (PyData.str s).canLay0 = true) (hb : (tg == s) = b) : BT (tTest (tOp (rEqD K) (tVar i) (tC (.str s)))) Γ M b :=
  bt_test (et_eq (et_op (et_var h) (et_str (K := K)) (rx_eq (shaped_str h1) (shaped_str h2))) (congrArg (fun b => DT K (.bool b)) hb))
theorem lay_side (we : Bool) : (PyData.str (sideT we)).canLay0 = true := by cases we <;> decide +kernel
structure RoA where
  n : Nat
  cnt : Nat
  many : Nat
  Ps : Nat → Nat → Row
  Cs : Nat → Nat → Row
  t : Txt
structure RoOk (d : Nat) (a : RoA) : Prop where
  n3 : N3 a.n
  ok : a.t.Ok a.n a.cnt a.many
  dep : a.t.dep ≤ d
abbrev qsT (P : Program) (w : World) (K : PySem.W.Frag) (n cnt : Nat) (Cs : Nat → Nat → Row) : Ty := LstT ((List.range cnt).map fun k => qT P w K n (Cs k))
theorem kids_len {n cnt many : Nat} {t : Txt} (h : t.Ok n cnt many) : t.kids.length ≤ 6 := by
  cases t with
  | ch we l =>
    rw [Txt.Ok] at h
    exact h.1
  | _ => simp [Txt.kids]
def sp_L_v_round (P : Program) (w : World) (K : PySem.W.Frag) (d : Nat) : Sp := spP (RoOk d) (fun a => [DT K (dn a.n), DT K a.t.toD, qsT P w K a.n a.many a.Ps, qsT P w K a.n a.cnt a.Cs]) (fun a => qT P w K a.n (sem a.n a.Ps a.Cs a.t))
theorem ok_L_v_round (T : Tx K mg) : ∀ d, FnOk P w K mg base CX0 (4+d) aL_v_round (fdAt K aL_v_round) P_L_v_round (sp_L_v_round P w K d)
  | 0 => fn_absurd fun a h => by
    have := h.dep
    have : 1 ≤ a.t.dep := by cases a.t <;> rw [Txt.dep] <;> omega
    omega
  | d + 1 => by
    have ih := ok_L_v_round T d
    show FnOk P w K mg base CX0 (4+d+1) aL_v_round (fdAt K aL_v_round) P_L_v_round (sp_L_v_round P w K (d + 1))
    refine fn_ok T.d_L_v_round sc_L_v_round (fun _ => rfl) fun cdv A outer s H E hr => ⟨_, (pss_cons (ps_par (i := 4) (j := 5) rfl sc_L_v_round.nd rfl rfl (by decide) rfl rfl (pa_cons (pe_ix (ixK (P := P) (w := w) (K := K) rfl rfl rfl (hu10 hr)) (pv 1) (pe_int) (fun _ _ => rfl)) (pa_cons (kdnewK (P := P) (w := w) rfl rfl) pa_nil)) rfl) (pss_cons (ps_setLc (i := 6) (own := [("_law_one", 7)]) (tt := tYes) rfl sc_L_v_round.nd rfl rfl (sw_true rfl rfl rfl (by decide +kernel)) (seqK (K := K) rfl (pe_call (ok_L_v_texts_in (P := P) (w := w) T) (hr.mono (by omega)) rfl T.g_L_v_texts_in T.d_L_v_texts_in.kp T.b_L_v_texts_in .nil pass0 (pa_cons (pv 1) pa_nil))) (blkOk_by (N := N_L_v_round) (sc := defScope sL_v_round) (by decide +kernel)) (fun _ _ _ _ _ => (pg_name (i := 7) sc_L_v_round.nd rfl (by first | exact Or.inl rfl | exact Or.inr rfl))) (fun _ _ _ _ _ => pts_nil) (fun _ _ _ _ _ => (pe_call ih (hr.mono (by omega)) rfl T.g_L_v_round T.d_L_v_round.kp T.b_L_v_round .nil pass0 (pa_cons (pv 0) (pa_cons (pv 7) (pa_cons (pv 2) (pa_cons (pv 3) pa_nil))))))) (pss_cons (ps_if (pt_cmpR (eqK (K := K) rfl (hu64 hr)) (pv 4) (pe_str) (nomark _)) (pss_one (ps_ret (pe_ix (ixK (P := P) (w := w) (K := K) rfl rfl rfl (hu10 hr)) (pv 3) (pe_ix (ixK (P := P) (w := w) (K := K) rfl rfl rfl (hu10 hr)) (pv 1) (pe_int) (fun _ _ => rfl)) (fun _ _ => rfl)))) pss_nil) (pss_cons (ps_if (pt_cmpR (eqK (K := K) rfl (hu64 hr)) (pv 4) (pe_str) (nomark _)) (pss_one (ps_ret (pe_ix (ixK (P := P) (w := w) (K := K) rfl rfl rfl (hu10 hr)) (pv 2) (pe_ix (ixK (P := P) (w := w) (K := K) rfl rfl rfl (hu10 hr)) (pv 1) (pe_int) (fun _ _ => rfl)) (fun _ _ => rfl)))) pss_nil) (pss_cons (ps_if (pt_cmpR (eqK (K := K) rfl (hu64 hr)) (pv 4) (pe_str) (nomark _)) (pss_one (ps_ret (pe_call (ok_L_v_then (P := P) (w := w) T) (hr.mono (by omega)) rfl T.g_L_v_then T.d_L_v_then.kp T.b_L_v_then .nil pass0 (pa_cons (pv 0) (pa_cons (pe_ix (ixK (P := P) (w := w) (K := K) rfl rfl rfl (hu10 hr)) (pv 6) (pe_int) (fun _ _ => rfl)) (pa_cons (pe_ix (ixK (P := P) (w := w) (K := K) rfl rfl rfl (hu10 hr)) (pv 6) (pe_int) (fun _ _ => rfl)) pa_nil)))))) pss_nil) (pss_cons (ps_for PassesOwn.never rfl (seqK (K := K) rfl (pe_call (ok_L_v_pairs (P := P) (w := w) T) (hr.mono (by omega)) rfl T.g_L_v_pairs T.d_L_v_pairs.kp T.b_L_v_pairs .nil pass0 (pa_cons (pv 0) pa_nil))) (tupK (K := K) (n := 2) rfl rfl (pgs_cons (pg_name (i := 8) sc_L_v_round.nd rfl (by first | exact Or.inl rfl | exact Or.inr rfl)) (pgs_cons (pg_name (i := 9) sc_L_v_round.nd rfl (by first | exact Or.inl rfl | exact Or.inr rfl)) pgs_nil))) (pss_one (ps_if (PW.pt (pw_or (pt_cmpR (eqK (K := K) rfl (hu64 hr)) (pv 4) (pe_str) (nomark _)) (pw_or1 (pt_cmpR (eqK (K := K) rfl (hu64 hr)) (pv 4) (pe_str) (nomark _))))) (pss_one (ps_asg (pe_cmpR (inK (K := K) rfl (hu65 hr)) (pe_ifExp (pt_cmpR (eqK (K := K) rfl (hu64 hr)) (pv 4) (pe_str) (nomark _)) (pv 8) (pe_ix (ixK (P := P) (w := w) (K := K) rfl rfl rfl (hu10 hr)) (pe_ix (ixK (P := P) (w := w) (K := K) rfl rfl rfl (hu10 hr)) (pv 1) (pe_int) (fun _ _ => rfl)) (pv 8) (fun _ _ => rfl))) (pv 9) (by with_unfolding_all rfl)) (pg_sub (pv 5) (pe_tup (pa_cons (pv 8) (pa_cons (pv 9) pa_nil))) (setKdK (P := P) (w := w) (K := K) rfl rfl rfl (hu10 hr))))) (pss_one (ps_if (pt_cmpR (eqK (K := K) rfl (hu64 hr)) (pv 4) (pe_str) (nomark _)) (pss_one (ps_asg (pe_ifExp (pt_cmpR (inK (K := K) rfl (hu65 hr)) (pv 8) (pe_ix (ixK (P := P) (w := w) (K := K) rfl rfl rfl (hu10 hr)) (pv 1) (pe_int) (fun _ _ => rfl)) (by with_unfolding_all rfl)) (pe_ix (ixK (P := P) (w := w) (K := K) rfl rfl rfl (hu10 hr)) (pe_ix (ixK (P := P) (w := w) (K := K) rfl rfl rfl (hu10 hr)) (pv 6) (pe_int) (fun _ _ => rfl)) (pe_tup (pa_cons (pv 8) (pa_cons (pv 9) pa_nil))) (fun _ _ => rfl)) (pe_ix (ixK (P := P) (w := w) (K := K) rfl rfl rfl (hu10 hr)) (pe_ix (ixK (P := P) (w := w) (K := K) rfl rfl rfl (hu10 hr)) (pv 6) (pe_int) (fun _ _ => rfl)) (pe_tup (pa_cons (pv 8) (pa_cons (pv 9) pa_nil))) (fun _ _ => rfl))) (pg_sub (pv 5) (pe_tup (pa_cons (pv 8) (pa_cons (pv 9) pa_nil))) (setKdK (P := P) (w := w) (K := K) rfl rfl rfl (hu10 hr))))) (pss_one (ps_if (pt_cmpR (eqK (K := K) rfl (hu64 hr)) (pv 4) (pe_str) (nomark _)) (pss_one (ps_asg (pe_cmpR (inK (K := K) rfl (hu65 hr)) (pe_bl) (pe_lc (own := [("_law_one", 7)]) (tt := tYes) rfl sc_L_v_round.nd (seqK (K := K) rfl (pv 6)) (blkOk_by (N := N_L_v_round) (sc := defScope sL_v_round) (by decide +kernel)) (fun _ _ _ _ _ => (pg_name (i := 7) sc_L_v_round.nd rfl (by first | exact Or.inl rfl | exact Or.inr rfl))) (fun _ _ _ _ _ => pts_nil) (fun _ _ _ _ _ => (pe_ix (ixK (P := P) (w := w) (K := K) rfl rfl rfl (hu10 hr)) (pv 7) (pe_tup (pa_cons (pv 8) (pa_cons (pv 9) pa_nil))) (fun _ _ => rfl)))) (by with_unfolding_all rfl)) (pg_sub (pv 5) (pe_tup (pa_cons (pv 8) (pa_cons (pv 9) pa_nil))) (setKdK (P := P) (w := w) (K := K) rfl rfl rfl (hu10 hr))))) (pss_one (ps_asg (pe_cmpR (niK (K := K) rfl (hu65 hr)) (pe_bl) (pe_lc (own := [("_law_one", 7)]) (tt := tYes) rfl sc_L_v_round.nd (seqK (K := K) rfl (pv 6)) (blkOk_by (N := N_L_v_round) (sc := defScope sL_v_round) (by decide +kernel)) (fun _ _ _ _ _ => (pg_name (i := 7) sc_L_v_round.nd rfl (by first | exact Or.inl rfl | exact Or.inr rfl))) (fun _ _ _ _ _ => pts_nil) (fun _ _ _ _ _ => (pe_ix (ixK (P := P) (w := w) (K := K) rfl rfl rfl (hu10 hr)) (pv 7) (pe_tup (pa_cons (pv 8) (pa_cons (pv 9) pa_nil))) (fun _ _ => rfl)))) (by with_unfolding_all rfl)) (pg_sub (pv 5) (pe_tup (pa_cons (pv 8) (pa_cons (pv 9) pa_nil))) (setKdK (P := P) (w := w) (K := K) rfl rfl rfl (hu10 hr)))))))))))) (pss_one (ps_ret (pv 5))))))))), ?_⟩
    rintro ⟨n, cnt, many, Ps, Cs, t⟩ O ⟨hn, ho, hd⟩ hO
    have hn : N3 n := hn
    have ho : t.Ok n cnt many := ho
    have hd : t.dep ≤ d + 1 := hd
    have hk6 := kids_len ho
    let S : Txt → Ty := fun u => qT P w K n (sem n Ps Cs u)
    have hit : ∃ tg rest, t.toD = .tuple (.str tg :: rest) := by cases t <;> exact ⟨_, _, by rw [Txt.toD]⟩
    have kids : ∀ {Γ : TEnv} {M : Mem} {E : XK}, Γ[1]? = some (some (DT K t.toD)) → Γ[0]? = some (some (DT K (dn n))) → Γ[2]? = some (some (qsT P w K n many Ps)) → Γ[3]? = some (some (qsT P w K n cnt Cs)) → Nat.blt 7 Γ.length = true →
        ET (tLc (iSeq K (tCall (sp_L_v_texts_in K) [] E0 (tCons (tVar 1) tNil))) (gName 7) tYes (tCall (sp_L_v_round P w K d) [] E (tCons (tVar 0) (tCons (tVar 7) (tCons (tVar 2) (tCons (tVar 3) tNil))))) [7]) Γ M (LstT (t.kids.map S)) := by
      intro Γ M E h1 h0 h2 h3 h7
      have gs : ∀ (u : Txt) {i : Nat} {U : Ty}, i ≠ 7 → Γ[i]? = some (some U) → (setsT (wipeT Γ [7]) [(7, DT K u.toD)])[i]? = some (some U) := by
        intro u i U hi hU
        show ((Γ.set 7 none).set 7 (some (DT K u.toD)))[i]? = _
        rw [List.getElem?_set_ne (Ne.symm hi), List.getElem?_set_ne (Ne.symm hi)]
        exact hU
      refine lcT (xs := t.kids) (f := S) (gT := fun u => DT K u.toD) (ws := fun u => [(7, DT K u.toD)]) (ix_sT (g := Txt.toD) (et_call (t.toD, t) rfl (ea_cons (et_var h1) ea_nil))) (fun u _ => gt_name) (fun _ => rfl) (fun u hu => ?_) (sz100 (by omega))
      have h8 := kid_dep hu
      refine et_call (ok := RoOk d) (⟨n, cnt, many, Ps, Cs, u⟩ : RoA) ⟨hn, kid_ok ho hu, by show u.dep ≤ d; omega⟩ (ea_cons (et_var (gs u (by decide) h0)) (ea_cons (et_var ?_) (ea_cons (et_var (gs u (by decide) h2)) (ea_cons (et_var (gs u (by decide) h3)) ea_nil))))
      show ((Γ.set 7 none).set 7 (some (DT K u.toD)))[7]? = _
      rw [List.getElem?_set_self (by rw [List.length_set]; exact Nat.blt_eq.mp h7)]
    have fin : ∀ {l : Addr} {oa ob : Option Ty} {k4 k6 : Option Ty}, O.H0 l = none → ST (tRet (tVar 5)) O [some (DT K (dn n)), some (DT K t.toD), some (qsT P w K n many Ps), some (qsT P w K n cnt Cs), k4, some (VT (.ref l)), k6, none, oa, ob] [(l, kdC P w K l (esQ K (sem n Ps Cs t) (prs n)))]
        (destOf (fun (a : RoA) T M' => T = qT P w K a.n (sem a.n a.Ps a.Cs a.t) ∧ M' = (fun _ => []) a) ⟨n, cnt, many, Ps, Cs, t⟩) := fun hz =>
      st_freezeK (i := 5) (j := 0) rfl rfl hz (st_ret (ew_of (et_var rfl) (rt_P (sub_q (List.Perm.refl _)))))
    cases t with
    | call k =>
      rw [Txt.toD] at kids
      rw [Txt.Ok] at ho
      refine st_seq (st_par (aw_cons (ew_of (et_item rfl rfl) (aw_cons (ew_kd (K := K) fun l hz => aw_nil ⟨_, _, rfl, ?_⟩)))))
      refine st_seq (st_set (ew_of (kids rfl rfl rfl rfl rfl) ?_))
      refine st_seq (st_if (b := true) (bt_kind rfl (by decide +kernel) (by decide +kernel) (by decide +kernel)) (fun _ => ?_) fun h => nomatch h)
      exact st_ret (ew_of (et_op (et_var rfl) (et_item rfl rfl) (rx_ixL (T := qT P w K n (Cs k)) (atI_nat (by rw [List.getElem?_map, List.getElem?_range ho]; rfl)))) (rt_P (Sub.refl _)))
    | part k =>
      rw [Txt.toD] at kids
      rw [Txt.Ok] at ho
      refine st_seq (st_par (aw_cons (ew_of (et_item rfl rfl) (aw_cons (ew_kd (K := K) fun l hz => aw_nil ⟨_, _, rfl, ?_⟩)))))
      refine st_seq (st_set (ew_of (kids rfl rfl rfl rfl rfl) ?_))
      refine st_seq (st_if (b := false) (bt_kind rfl (by decide +kernel) (by decide +kernel) (by decide +kernel)) (fun h => nomatch h) fun _ => st_next ?_)
      refine st_seq (st_if (b := true) (bt_kind rfl (by decide +kernel) (by decide +kernel) (by decide +kernel)) (fun _ => ?_) fun h => nomatch h)
      exact st_ret (ew_of (et_op (et_var rfl) (et_item rfl rfl) (rx_ixL (T := qT P w K n (Ps k)) (atI_nat (by rw [List.getElem?_map, List.getElem?_range ho]; rfl)))) (rt_P (Sub.refl _)))
    | thn a c =>
      rw [Txt.toD] at kids
      refine st_seq (st_par (aw_cons (ew_of (et_item rfl rfl) (aw_cons (ew_kd (K := K) fun l hz => aw_nil ⟨_, _, rfl, ?_⟩)))))
      refine st_seq (st_set (ew_of (kids rfl rfl rfl rfl rfl) ?_))
      refine st_seq (st_if (b := false) (bt_kind rfl (by decide +kernel) (by decide +kernel) (by decide +kernel)) (fun h => nomatch h) fun _ => st_next ?_)
      refine st_seq (st_if (b := false) (bt_kind rfl (by decide +kernel) (by decide +kernel) (by decide +kernel)) (fun h => nomatch h) fun _ => st_next ?_)
      refine st_seq (st_if (b := true) (bt_kind rfl (by decide +kernel) (by decide +kernel) (by decide +kernel)) (fun _ => ?_) fun h => nomatch h)
      exact st_ret (ew_of (et_call (ok := fun a : Nat × (Nat → Row) × (Nat → Row) => N3 a.1) (n, sem n Ps Cs a, sem n Ps Cs c) hn (ea_cons (et_var rfl) (ea_cons (et_op (et_var rfl) (et_int (K := K)) (rx_ixL rfl)) (ea_cons (et_op (et_var rfl) (et_int (K := K)) (rx_ixL rfl)) ea_nil)))) (rt_P (Sub.refl _)))
    | skip =>
      rw [Txt.toD] at kids fin
      refine st_seq (st_par (aw_cons (ew_of (et_item rfl rfl) (aw_cons (ew_kd (K := K) fun l hz => aw_nil ⟨_, _, rfl, ?_⟩)))))
      refine st_seq (st_set (ew_of (kids rfl rfl rfl rfl rfl) ?_))
      refine st_seq (st_if (b := false) (bt_kind rfl (by decide +kernel) (by decide +kernel) (by decide +kernel)) (fun h => nomatch h) fun _ => st_next ?_)
      refine st_seq (st_if (b := false) (bt_kind rfl (by decide +kernel) (by decide +kernel) (by decide +kernel)) (fun h => nomatch h) fun _ => st_next ?_)
      refine st_seq (st_if (b := false) (bt_kind rfl (by decide +kernel) (by decide +kernel) (by decide +kernel)) (fun h => nomatch h) fun _ => st_next ?_)
      refine st_seq (st_forq (a := 8) (b := 9) (n := n) (sem n Ps Cs .skip) (by decide) rfl (ix_sL (g := plD) (et_call (ok := fun n : Nat => N3 n) n hn (ea_cons (et_var rfl) ea_nil))) ?_ fun oa ob => fin hz)
      intro s x i D' hq hs hx k
      refine st_if (b := true) (bt_or (a := true) (b := true) (bt_kind rfl (by decide +kernel) (by decide +kernel) (by decide +kernel)) (fun h => nomatch h)) (fun _ => ?_) fun h => nomatch h
      exact st_qset' (i := 5) (a := 8) (b := 9) hn hq rfl rfl rfl (et_op (et_if (b := true) (bt_kind rfl (by decide +kernel) (by decide +kernel) (by decide +kernel)) (fun _ => et_var rfl) fun h => nomatch h) (et_var rfl) (rx_inN s x)) k
    | go tb =>
      rw [Txt.Ok] at ho
      rw [Txt.toD] at kids fin
      refine st_seq (st_par (aw_cons (ew_of (et_item rfl rfl) (aw_cons (ew_kd (K := K) fun l hz => aw_nil ⟨_, _, rfl, ?_⟩)))))
      refine st_seq (st_set (ew_of (kids rfl rfl rfl rfl rfl) ?_))
      refine st_seq (st_if (b := false) (bt_kind rfl (by decide +kernel) (by decide +kernel) (by decide +kernel)) (fun h => nomatch h) fun _ => st_next ?_)
      refine st_seq (st_if (b := false) (bt_kind rfl (by decide +kernel) (by decide +kernel) (by decide +kernel)) (fun h => nomatch h) fun _ => st_next ?_)
      refine st_seq (st_if (b := false) (bt_kind rfl (by decide +kernel) (by decide +kernel) (by decide +kernel)) (fun h => nomatch h) fun _ => st_next ?_)
      refine st_seq (st_forq (a := 8) (b := 9) (n := n) (sem n Ps Cs (.go tb)) (by decide) rfl (ix_sL (g := plD) (et_call (ok := fun n : Nat => N3 n) n hn (ea_cons (et_var rfl) ea_nil))) ?_ fun oa ob => fin hz)
      intro s x i D' hq hs hx k
      obtain ⟨g1, g2⟩ := getD_mem (d := 0) (show s < tb.length by rw [ho.1]; exact hs)
      refine st_if (b := true) (bt_or (a := false) (b := true) (bt_kind rfl (by decide +kernel) (by decide +kernel) (by decide +kernel)) (fun _ => bt_kind rfl (by decide +kernel) (by decide +kernel) (by decide +kernel))) (fun _ => ?_) fun h => nomatch h
      exact st_qset' (i := 5) (a := 8) (b := 9) hn hq rfl rfl rfl (et_op (et_if (b := false) (bt_kind rfl (by decide +kernel) (by decide +kernel) (by decide +kernel)) (fun h => nomatch h) fun _ => et_op (et_item rfl rfl) (et_var rfl) (rx_ixTD (d := dn (tb.getD s 0)) (atI_nat (by rw [List.getElem?_map, g2]; rfl)))) (et_var rfl) (rx_inN (tb.getD s 0) x)) k
    | ite z a c =>
      rw [Txt.toD] at kids fin
      refine st_seq (st_par (aw_cons (ew_of (et_item rfl rfl) (aw_cons (ew_kd (K := K) fun l hz => aw_nil ⟨_, _, rfl, ?_⟩)))))
      refine st_seq (st_set (ew_of (kids rfl rfl rfl rfl rfl) ?_))
      refine st_seq (st_if (b := false) (bt_kind rfl (by decide +kernel) (by decide +kernel) (by decide +kernel)) (fun h => nomatch h) fun _ => st_next ?_)
      refine st_seq (st_if (b := false) (bt_kind rfl (by decide +kernel) (by decide +kernel) (by decide +kernel)) (fun h => nomatch h) fun _ => st_next ?_)
      refine st_seq (st_if (b := false) (bt_kind rfl (by decide +kernel) (by decide +kernel) (by decide +kernel)) (fun h => nomatch h) fun _ => st_next ?_)
      refine st_seq (st_forq (a := 8) (b := 9) (n := n) (sem n Ps Cs (.ite z a c)) (by decide) rfl (ix_sL (g := plD) (et_call (ok := fun n : Nat => N3 n) n hn (ea_cons (et_var rfl) ea_nil))) ?_ fun oa ob => fin hz)
      intro s x i D' hq hs hx k
      refine st_if (b := false) (bt_or (a := false) (b := false) (bt_kind rfl (by decide +kernel) (by decide +kernel) (by decide +kernel)) (fun _ => bt_kind rfl (by decide +kernel) (by decide +kernel) (by decide +kernel))) (fun h => nomatch h) fun _ => ?_
      refine st_if (b := true) (bt_kind rfl (by decide +kernel) (by decide +kernel) (by decide +kernel)) (fun _ => ?_) fun h => nomatch h
      refine st_qset' (i := 5) (a := 8) (b := 9) hn hq rfl rfl rfl (et_if (b := z.contains s) (bt_test (et_op (et_var rfl) (et_item rfl rfl) (rx_inN s z))) (fun h => ?_) fun h => ?_) k
      · rw [sem_ite, if_pos h]
        exact et_op (et_op (et_var rfl) (et_int (K := K)) (rx_ixL rfl)) (et_pairD (K := K) (et_var rfl) (et_var rfl)) (rx_q hs hx)
      · rw [sem_ite, if_neg (by rw [h]; decide)]
        exact et_op (et_op (et_var rfl) (et_int (K := K)) (rx_ixL rfl)) (et_pairD (K := K) (et_var rfl) (et_var rfl)) (rx_q hs hx)
    | ch we us =>
      rw [Txt.toD] at kids fin
      refine st_seq (st_par (aw_cons (ew_of (et_item rfl rfl) (aw_cons (ew_kd (K := K) fun l hz => aw_nil ⟨_, _, rfl, ?_⟩)))))
      refine st_seq (st_set (ew_of (kids rfl rfl rfl rfl rfl) ?_))
      refine st_seq (st_if (b := false) (bt_kind rfl (lay_side we) (by decide +kernel) (by cases we <;> decide +kernel)) (fun h => nomatch h) fun _ => st_next ?_)
      refine st_seq (st_if (b := false) (bt_kind rfl (lay_side we) (by decide +kernel) (by cases we <;> decide +kernel)) (fun h => nomatch h) fun _ => st_next ?_)
      refine st_seq (st_if (b := false) (bt_kind rfl (lay_side we) (by decide +kernel) (by cases we <;> decide +kernel)) (fun h => nomatch h) fun _ => st_next ?_)
      refine st_seq (st_forq (a := 8) (b := 9) (n := n) (sem n Ps Cs (.ch we us)) (by decide) rfl (ix_sL (g := plD) (et_call (ok := fun n : Nat => N3 n) n hn (ea_cons (et_var rfl) ea_nil))) ?_ fun oa ob => fin hz)
      intro s x i D' hq hs hx k
      have hz6 : us.length ≤ 6 := hk6
      refine st_if (b := false) (bt_or (a := false) (b := false) (bt_kind rfl (lay_side we) (by decide +kernel) (by cases we <;> decide +kernel)) (fun _ => bt_kind rfl (lay_side we) (by decide +kernel) (by cases we <;> decide +kernel))) (fun h => nomatch h) fun _ => ?_
      refine st_if (b := false) (bt_kind rfl (lay_side we) (by decide +kernel) (by cases we <;> decide +kernel)) (fun h => nomatch h) fun _ => ?_
      refine st_if (b := we) (bt_kind rfl (lay_side we) (by decide +kernel) (by cases we <;> decide +kernel)) (fun h => ?_) fun h => ?_
      · subst h
        refine st_qset' (i := 5) (a := 8) (b := 9) hn hq rfl rfl rfl (et_eq (et_op (et_bl (K := K)) (lcB (xs := us) (f := fun u => sem n Ps Cs u s x) (ix_sLT (gT := S) (et_var rfl)) (fun _ _ => gt_name) (fun _ => rfl) (fun u _ => et_op (et_var rfl) (et_pairD (K := K) (et_var rfl) (et_var rfl)) (rx_q hs hx)) (sz100 (by omega))) (rx_anyB _)) ?_) k
        rw [any_id, sem_ch_any, if_pos rfl]
      · subst h
        refine st_qset' (i := 5) (a := 8) (b := 9) hn hq rfl rfl rfl (et_eq (et_op (et_bl (K := K)) (lcB (xs := us) (f := fun u => sem n Ps Cs u s x) (ix_sLT (gT := S) (et_var rfl)) (fun _ _ => gt_name) (fun _ => rfl) (fun u _ => et_op (et_var rfl) (et_pairD (K := K) (et_var rfl) (et_var rfl)) (rx_q hs hx)) (sz100 (by omega))) (rx_allB _)) ?_) k
        rw [all_id, sem_ch_any, if_neg Bool.false_ne_true]
end
end Tw
end
/-! W18 -/
section
set_option Elab.async false
set_option linter.all false
set_option autoImplicit false
set_option maxRecDepth 100000
set_option maxHeartbeats 4000000
/-! The walk: the law's rounds to the end, contracts, places. -/
namespace Tw
open PySem PySem.Spec PyProof.Rows L2
open Evl (Ex ex_l ex_t ex_rd)
section
variable {P : Program} {w : World} {K : PySem.W.Frag} {mg : PySem.Str → Option Value} {base : Heap}
theorem huE1 {k : Nat} {A : Around} (hr : Room k A) : A.units + (0 + 1) + 12 < cLine := by have := hr.un; omega
/-! ### == of two dicts from all pairs -/
def unN : NK → Nat
  | .num i => i.toNat
  | _ => 0
def unS : NK → List Nat
  | .tup ks => ks.map unN
  | _ => []
def unQ : NK → Plc
  | .tup [a, b] => (unN a, unS b)
  | _ => (0, [])
theorem unQ_key (q : Plc) : unQ (keyP q) = q := by
  show (unN (numK q.1), unS (keyS q.2)) = q
  have h2 : (q.2.map numK).map unN = q.2 := by
    rw [List.map_map]
    exact (List.map_congr_left fun a _ => rfl).trans (List.map_id _)
  show (q.1, (q.2.map numK).map unN) = q
  rw [h2]
theorem q_bl {I : Hp} {F : Nat → Row} : ∀ {l : List Plc} {xs : List Ent}, KdR K I (esQ K F l) xs → ∀ e ∈ xs, e.2.2 = V.bl (F (unQ e.1).1 (unQ e.1).2)
  | [], xs, h, e, he => by
    cases h
    cases he
  | q :: l, xs, h, e, he => by
    cases h with
    | cons a t =>
      rcases List.mem_cons.mp he with rfl | he
      · rw [← a.1, unQ_key]
        exact dt_bl a.2.1
      · exact q_bl t e he
theorem q_eq {X : Cx} {I H : Hp} (e : Ex I H) {n : Nat} {F G : Nat → Row} {x y : V} (hx : (qT X.prog X.w X.K n F).r I x) (hy : (qT X.prog X.w X.K n G).r I y) : EqDcP X H x y (tabB n F G) := by
  obtain ⟨l1, p1, a, xs, rfl, ha, hra⟩ := hx
  obtain ⟨l2, p2, b, ys, rfl, hb, hrb⟩ := hy
  have k1 : xs.map (·.1) = l1.map keyP := by rw [hra.keys, List.map_map]; rfl
  have k2 : ys.map (·.1) = l2.map keyP := by rw [hrb.keys, List.map_map]; rfl
  refine ⟨a, b, xs, ys, fun k => F (unQ k).1 (unQ k).2, fun k => G (unQ k).1 (unQ k).2, rfl, rfl, ⟨e _ _ ha, fun z hz => ⟨dpp_ex e _ _ (hra.mem z hz).1, (hra.mem z hz).2⟩⟩, ⟨e _ _ hb, fun z hz => ⟨dpp_ex e _ _ (hrb.mem z hz).1, (hrb.mem z hz).2⟩⟩, ?_, q_bl hra, q_bl hrb, ?_⟩
  · rw [k1, k2]
    exact (p1.trans p2.symm).map _
  · rw [k1, Bool.eq_iff_iff, tabB_iff, List.all_map, List.all_eq_true]
    constructor
    · intro h q hq
      have hm := mem_prs.mp (p1.mem_iff.mp hq)
      show (F (unQ (keyP q)).1 (unQ (keyP q)).2 == G (unQ (keyP q)).1 (unQ (keyP q)).2) = true
      rw [unQ_key, h q.1 hm.1 q.2 hm.2]
      exact beq_self_eq_true _
    · intro h s hs x hx
      have := h (s, x) (p1.mem_iff.mpr (mem_prs.mpr ⟨hs, hx⟩))
      have : (F (unQ (keyP (s, x))).1 (unQ (keyP (s, x))).2 == G (unQ (keyP (s, x))).1 (unQ (keyP (s, x))).2) = true := this
      rw [unQ_key] at this
      exact eq_of_beq this
theorem rx_qs {X : Cx} {M : Mem} {n cnt : Nat} {F G : Nat → Nat → Row} {T : Ty} (h : ∀ O I H (x y : V), Holds O I H M → T.r I y → (qsT X.prog X.w X.K n cnt F).r I x → EqLst X.K (EqDcP X) H x y (tabsB n cnt F G)) : RX (rEqQ (EqLst X.K (EqDcP X))) M (qsT X.prog X.w X.K n cnt F) T (DT X.K (.bool (tabsB n cnt F G))) := fun O I H x y Q h0 hx hy q =>
  ⟨_, h O I H x y h0 hy hx, q _ I H (Evl.Ex.refl I) h0 (.bl _)⟩
theorem rx_qs' {X : Cx} {M : Mem} {n cnt : Nat} {F G : Nat → Nat → Row} : RX (rEqQ (EqLst X.K (EqDcP X))) M (qsT X.prog X.w X.K n cnt F) (qsT X.prog X.w X.K n cnt G) (DT X.K (.bool (tabsB n cnt F G))) := fun O I H x y Q h0 hx hy q =>
  ⟨_, lst_eq h0.ex (fun k u v h1 h2 => q_eq h0.ex h1 h2) hx hy, q _ I H (Evl.Ex.refl I) h0 (.bl _)⟩
/-! ### rounds -/
abbrev Rws := List (List (List (List Nat)))
abbrev rwsD (rws : Rws) : PyData := .list (rws.map fun rows => .list (rows.map famD))
def rwsF (rws : Rws) (j : Nat) : Nat → Row := rowsF (rws.getD j [])
structure RunA where
  n : Nat
  many : Nat
  ts : List Txt
  rws : Rws
  we : Bool
structure RunOk (a : RunA) : Prop where
  sys : SysOk a.n a.many a.ts
  len : a.rws.length = a.many
  rows : ∀ rows ∈ a.rws, RowsOk a.n rows
theorem rwsF_up {n many : Nat} (rws : Rws) : UpC n many (rwsF rws) := fun j _ s _ x _ y _ h q => fam_up h q
theorem RunOk.ends {a : RunA} (h : RunOk a) : ∃ N, N < 1000 ∧ Still a.n a.ts (rwsF a.rws) (!a.we) N := still_exists h.sys.n3 h.sys.l4 h.sys.ok (rwsF_up _)
abbrev frontQ (P : Program) (w : World) (K : PySem.W.Frag) (n : Nat) (ts : List Txt) (Ps : Nat → Nat → Row) (b : Bool) (m : Nat) : List Ty := (List.range m).map fun j => qsT P w K n ts.length (rnd n ts Ps b j)
theorem frontQ_succ (n : Nat) (ts : List Txt) (Ps : Nat → Nat → Row) (b : Bool) (m : Nat) : frontQ P w K n ts Ps b (m + 1) = frontQ P w K n ts Ps b m ++ [qsT P w K n ts.length (rnd n ts Ps b m)] := by
  unfold frontQ
  rw [List.range_succ, List.map_append]
  rfl
def sp_L_v_rounds (P : Program) (w : World) (K : PySem.W.Frag) : Sp := spP RunOk (fun a => [DT K (sysD a.n a.many a.ts), DT K (rwsD a.rws), DT K (.str (sideT a.we))])
  (fun a => XT (fun m => m < 1000 ∧ Still a.n a.ts (rwsF a.rws) (!a.we) m) fun m => LstT (frontQ P w K a.n a.ts (rwsF a.rws) (!a.we) (m + 1)))
theorem ok_L_v_rounds (T : Tx K mg) : FnOk P w K mg base CX0 20 aL_v_rounds (fdAt K aL_v_rounds) P_L_v_rounds (sp_L_v_rounds P w K) := by
  have ih := ok_L_v_round (P := P) (w := w) (base := base) T 12
  refine fn_ok T.d_L_v_rounds sc_L_v_rounds (fun _ => rfl) fun cdv A outer s H E hr => ⟨_, (pss_cons (ps_asg (pv 0) (tupK (K := K) (n := 3) rfl rfl (pgs_cons (pg_name (i := 3) sc_L_v_rounds.nd rfl (by first | exact Or.inl rfl | exact Or.inr rfl)) (pgs_cons (pg_name (i := 4) sc_L_v_rounds.nd rfl (by first | exact Or.inl rfl | exact Or.inr rfl)) (pgs_cons (pg_name (i := 5) sc_L_v_rounds.nd rfl (by first | exact Or.inl rfl | exact Or.inr rfl)) pgs_nil))))) (pss_cons (ps_set (i := 6) sc_L_v_rounds.nd rfl (by first | exact Or.inl rfl | exact Or.inr rfl) (pe_lc (own := [("_law_one", 7)]) (tt := tYes) rfl sc_L_v_rounds.nd (seqK (K := K) rfl (pv 1)) (blkOk_by (N := N_L_v_rounds) (sc := defScope sL_v_rounds) (by decide +kernel)) (fun _ _ _ _ _ => (pg_name (i := 7) sc_L_v_rounds.nd rfl (by first | exact Or.inl rfl | exact Or.inr rfl))) (fun _ _ _ _ _ => pts_nil) (fun _ _ _ _ _ => (pe_call (ok_L_v_truths (P := P) (w := w) T) (hr.mono (by omega)) rfl T.g_L_v_truths T.d_L_v_truths.kp T.b_L_v_truths .nil pass0 (pa_cons (pv 3) (pa_cons (pv 7) pa_nil)))))) (pss_cons (ps_set (i := 8) sc_L_v_rounds.nd rfl (by first | exact Or.inl rfl | exact Or.inr rfl) (pe_lst (pa_cons (pe_lc (own := [("_law_text", 9)]) (tt := tYes) rfl sc_L_v_rounds.nd (seqK (K := K) rfl (pv 5)) (blkOk_by (N := N_L_v_rounds) (sc := defScope sL_v_rounds) (by decide +kernel)) (fun _ _ _ _ _ => (pg_name (i := 9) sc_L_v_rounds.nd rfl (by first | exact Or.inl rfl | exact Or.inr rfl))) (fun _ _ _ _ _ => pts_nil) (fun _ _ _ _ _ => (pe_call (ok_L_v_all (P := P) (w := w) T) (hr.mono (by omega)) rfl T.g_L_v_all T.d_L_v_all.kp T.b_L_v_all .nil pass0 (pa_cons (pv 3) (pa_cons (pe_cmpR (eqK (K := K) rfl (hu64 hr)) (pv 2) (pe_str) (nomark _)) pa_nil))))) pa_nil))) (pss_one (ps_while PassesOwn.never (pt_val (pe_bl)) (pss_cons (ps_setLc (i := 10) (own := [("_law_text", 9)]) (tt := tYes) rfl sc_L_v_rounds.nd rfl rfl (sw_true rfl rfl rfl (by decide +kernel)) (seqK (K := K) rfl (pv 5)) (blkOk_by (N := N_L_v_rounds) (sc := defScope sL_v_rounds) (by decide +kernel)) (fun _ _ _ _ _ => (pg_name (i := 9) sc_L_v_rounds.nd rfl (by first | exact Or.inl rfl | exact Or.inr rfl))) (fun _ _ _ _ _ => pts_nil) (fun _ _ _ _ _ => (pe_call ih (hr.mono (by omega)) rfl T.g_L_v_round T.d_L_v_round.kp T.b_L_v_round .nil pass0 (pa_cons (pv 3) (pa_cons (pv 9) (pa_cons (pv 6) (pa_cons (pe_ix (ixK (P := P) (w := w) (K := K) rfl rfl rfl (hu10 hr)) (pv 8) (pe_un un_neg (pe_int)) (fun _ _ => rfl)) pa_nil))))))) (pss_cons (ps_if (pt_cmpR (op_eqQ (eqOk_lst eqOk_dcP) (huE1 hr)) (pv 10) (pe_ix (ixK (P := P) (w := w) (K := K) rfl rfl rfl (hu10 hr)) (pv 8) (pe_un un_neg (pe_int)) (fun _ _ => rfl)) (nomark _)) (pss_one (ps_ret (pv 8))) pss_nil) (pss_one (ps_expr (pe_bm PySem.F.plainAttrs_list PySem.F.slot_list_append PySem.F.type_list_append mt_append (pv 8) (pa_cons (pv 10) pa_nil))))))))))), ?_⟩
  rintro ⟨n, many, ts, rws, we⟩ O h hO
  have h : RunOk ⟨n, many, ts, rws, we⟩ := h
  obtain ⟨N, hN, hst⟩ := h.ends
  have hst : Still n ts (rwsF rws) (!we) N := hst
  have hn : N3 n := h.sys.n3
  have h4 : ts.length ≤ 4 := h.sys.l4
  have hok : TsOk n many ts := h.sys.ok
  have hl : rws.length = many := h.len
  have hm3 : many ≤ 3 := h.sys.m3
  have hrows : ∀ rows ∈ rws, RowsOk n rows := h.rows
  have hdep : ∀ t ∈ ts, t.dep ≤ 12 := h.sys.dep
  let R := rnd n ts (rwsF rws) (!we)
  let Fr := frontQ P w K n ts (rwsF rws) (!we)
  refine st_seq (st_asg (ew_of (et_var rfl) ⟨_, gt_tupD (gts_cons gt_name (gts_cons gt_name (gts_cons gt_name gts_nil))) rfl, ?_⟩))
  refine st_seq (st_set (ew_of (T := qsT P w K n many (rwsF rws)) (et_eq (lcT (xs := rws) (f := fun rows => qT P w K n (rowsF rows)) (ix_sL (g := fun rows => .list (rows.map famD)) (et_var rfl)) (fun _ _ => gt_name) (fun _ => rfl) (fun rows hr => et_call (ok := fun a : Nat × List (List (List Nat)) => N3 a.1 ∧ RowsOk a.1 a.2) (n, rows) ⟨hn, hrows rows hr⟩ (ea_cons (et_var rfl) (ea_cons (et_var rfl) ea_nil))) (sz100 (by omega))) ?_) ?_))
  · rw [map_range rws _ [], hl]
    rfl
  refine st_seq (st_set (ew_lst (aw_of (ea_cons (et_eq (lcT (xs := ts) (f := fun _ => qT P w K n fun _ _ => !we) (ix_sT (g := Txt.toD) (et_var rfl)) (fun _ _ => gt_name) (fun _ => rfl) (fun t ht => et_call (ok := fun a : Nat × Bool => N3 a.1) (n, !we) hn (ea_cons (et_var rfl) (ea_cons (et_eq (et_op (et_var rfl) (et_str (K := K)) (rx_eq (shaped_str (side_lay we)) (shaped_str (by decide +kernel)))) (congrArg (fun b => DT K (.bool b)) (side_they we))) ea_nil))) (sz100 (by omega))) (T := qsT P w K n ts.length (R 0)) ?_) ea_nil) ⟨by show 1 ≤ sizeLine; decide, fun l hz => ?_⟩)))
  · rw [map_range ts _ .skip]
    rfl
  refine st_while (fun m Γ M => ∃ i o10, i ≤ N ∧ m = N - i ∧ Γ = [some (DT K (sysD n many ts)), some (DT K (rwsD rws)), some (DT K (.str (sideT we))), some (DT K (dn n)), some (DT K (dn many)), some (DT K (.tuple (ts.map Txt.toD))), some (qsT P w K n many (rwsF rws)), none, some (VT (.ref l)), none, o10] ∧ M = [(l, lstC (Fr (i + 1)))])
    ⟨_, 0, none, Nat.zero_le _, rfl, rfl, rfl⟩ ?_
  rintro m _ _ ⟨i, o10, hi, rfl, rfl, rfl⟩
  refine ⟨true, bt_B (et_bl (K := K)), fun _ => ?_, fun h => nomatch h⟩
  have hlast : L2.atI (Fr (i + 1)) (-1) = some (qsT P w K n ts.length (R i)) := by
    show L2.atI (frontQ P w K n ts (rwsF rws) (!we) (i + 1)) (-1) = _
    rw [frontQ_succ]
    exact atI_last _ _
  refine st_seq (st_set (ew_of (T := qsT P w K n ts.length (R (i + 1))) (et_eq (lcT (xs := ts) (f := fun t => qT P w K n (sem n (rwsF rws) (R i) t)) (ix_sT (g := Txt.toD) (et_var rfl)) (fun _ _ => gt_name) (fun _ => rfl) (fun t ht => et_call (ok := RoOk 12) (⟨n, ts.length, many, rwsF rws, R i, t⟩ : RoA) ⟨hn, hok t ht, hdep t ht⟩ (ea_cons (et_var rfl) (ea_cons (et_var rfl) (ea_cons (et_var rfl) (ea_cons (et_op (et_var rfl) (et_un (et_int (K := K)) ux_neg) (rx_ixO (j := 0) rfl hlast)) ea_nil))))) (sz100 (by omega))) ?_) ?_))
  · rw [map_range ts _ .skip]
    rfl
  refine st_seq (st_if (b := tabsB n ts.length (R (i + 1)) (R i)) (bt_test (et_op (et_var rfl) (et_op (et_var rfl) (et_un (et_int (K := K)) ux_neg) (rx_ixO (j := 0) rfl hlast)) rx_qs')) (fun hb => ?_) fun hb => st_next ?_)
  · exact st_freeze (i := 8) (j := 0) rfl rfl hz (st_ret (ew_of (et_var rfl) (rt_P fun I v hv => ⟨i, ⟨by omega, hb⟩, hv⟩)))
  · have hne : i ≠ N := fun e => by
      rw [e] at hb
      rw [show tabsB n ts.length (R (N + 1)) (R N) = true from hst] at hb
      cases hb
    refine st_app rfl ⟨0, _, rfl⟩ (ew_of (et_var rfl) ⟨0, _, rfl, ?_, ⟨N - (i + 1), by omega, i + 1, _, by omega, rfl, rfl, ?_⟩⟩)
    · show ((List.range (i + 1)).map _).length < sizeLine
      rw [List.length_map, List.length_range]
      exact sz100 (by omega)
    · show _ = [(l, lstC (frontQ P w K n ts (rwsF rws) (!we) (i + 1 + 1)))]
      rw [frontQ_succ]
      rfl
/-! ### contracts -/
theorem rowD_congr {n : Nat} (hn : N3 n) {f g : Row} (h : ∀ x ∈ allS n, f x = g x) : rowD n f = rowD n g := by
  unfold rowD
  exact congrArg PyData.tuple (List.map_congr_left fun m hm => congrArg PyData.bool (h _ (setOf_mem n hn m hm)))
theorem rowsD_congr {n : Nat} (hn : N3 n) {Fs Gs : List Row} (hl : Fs.length = Gs.length) (h : ∀ s, s < Fs.length → ∀ x ∈ allS n, Fs.getD s (fun _ => false) x = Gs.getD s (fun _ => false) x) : rowsD n Fs = rowsD n Gs := by
  unfold rowsD
  congr 1
  apply List.ext_getElem?
  intro i
  rw [List.getElem?_map, List.getElem?_map]
  by_cases c : i < Fs.length
  · have h1 := (getD_mem (d := (fun _ => false : Row)) c).2
    have h2 := (getD_mem (d := (fun _ => false : Row)) (hl ▸ c)).2
    rw [h1, h2]
    exact congrArg some (rowD_congr hn (h i c))
  · rw [List.getElem?_eq_none (Nat.le_of_not_lt c), List.getElem?_eq_none (by rw [← hl]; exact Nat.le_of_not_lt c)]
theorem con_congr {n : Nat} (hn : N3 n) {Fs Gs : List Row} (hl : Fs.length = Gs.length) (h : ∀ s, s < Fs.length → ∀ x ∈ allS n, Fs.getD s (fun _ => false) x = Gs.getD s (fun _ => false) x) : ConT K n Fs = ConT K n Gs := by
  unfold ConT conF
  rw [rowsD_congr hn hl h]
def famB1 (n : Nat) (f : Row) : Bool := (allS n).all fun x => famF (famOf n ((allS n).filter f)) x == f x
theorem fo1 : ∀ v ∈ List.range 4, upB 1 (bitsF 1 v) = true → famB1 1 (bitsF 1 v) = true := by decide +kernel
theorem fo2 : ∀ v ∈ List.range 16, upB 2 (bitsF 2 v) = true → famB1 2 (bitsF 2 v) = true := by decide +kernel
theorem fo3 : ∀ v ∈ List.range 256, upB 3 (bitsF 3 v) = true → famB1 3 (bitsF 3 v) = true := by decide +kernel
theorem famOf_fam {n : Nat} (hn : N3 n) {f : Row} (hu : ∀ x ∈ allS n, ∀ y ∈ allS n, sub x y = true → f x = true → f y = true) {x : List Nat} (hx : x ∈ allS n) : famF (famOf n ((allS n).filter f)) x = f x := by
  obtain ⟨v, h1, h2⟩ := all_bits n hn f
  rw [List.filter_congr fun x hx => h2 x hx, h2 x hx]
  have hup : upB n (bitsF n v) = true := by
    unfold upB
    rw [List.all_eq_true]
    intro x hx
    rw [List.all_eq_true]
    intro y hy
    have := hu x hx y hy
    rw [h2 x hx, h2 y hy] at this
    revert this
    cases sub x y <;> cases bitsF n v x <;> cases bitsF n v y <;> simp
  have hf : famB1 n (bitsF n v) = true := by
    obtain ⟨a, c⟩ := hn
    have h : n = 1 ∨ n = 2 ∨ n = 3 := by omega
    rcases h with rfl | rfl | rfl
    · exact fo1 v (List.mem_range.mpr h1) hup
    · exact fo2 v (List.mem_range.mpr h1) hup
    · exact fo3 v (List.mem_range.mpr h1) hup
  unfold famB1 at hf
  rw [List.all_eq_true] at hf
  exact eq_of_beq (hf x hx)
theorem famOf_ok {n : Nat} (hn : N3 n) (ys : List (List Nat)) : FamOk n (famOf n ys) := ⟨fun y hy => (List.mem_filter.mp hy).1, Nat.le_trans (List.length_filter_le _ _) (by have := allS_le8 n hn; omega)⟩
/-- the rows of a contract, by what it has -/
abbrev cRows (n : Nat) (F : Nat → Row) : List (List (List Nat)) := (List.range n).map fun s => famOf n ((allS n).filter (F s))
theorem cRows_con {n : Nat} (hn : N3 n) {F : Nat → Row} (hu : Up n F) : ConT K n ((cRows n F).map famF) = ConT K n (conR n F) := by
  refine con_congr hn (by rw [List.length_map, List.length_map, List.length_range, conR_len]) fun s hs x hx => ?_
  rw [List.length_map, List.length_map, List.length_range] at hs
  rw [conR_up hu hs hx]
  have : ((cRows n F).map famF).getD s (fun _ => false) = famF (famOf n ((allS n).filter (F s))) := by
    rw [List.getD_eq_getElem?_getD, List.getElem?_map, List.getElem?_map, List.getElem?_range hs]
    rfl
  rw [this]
  exact famOf_fam hn (fun a ha c hc => hu s hs a ha c hc) hx
def sp_L_v_contract (P : Program) (w : World) (K : PySem.W.Frag) : Sp := spP (fun a : Nat × (Nat → Row) => N3 a.1) (fun a => [DT K (dn a.1), qT P w K a.1 a.2]) (fun a => DT K (.list ((cRows a.1 a.2).map famD)))
theorem ok_L_v_contract (T : Tx K mg) : FnOk P w K mg base CX0 3 aL_v_contract (fdAt K aL_v_contract) P_L_v_contract (sp_L_v_contract P w K) := by
  refine fn_ok T.d_L_v_contract sc_L_v_contract (fun _ => rfl) fun cdv A outer s H E hr => ⟨_, (pss_one (ps_ret (pe_lc (own := [("_law_s", 3)]) (tt := tYes) rfl sc_L_v_contract.nd (pi_range1 rfl T.f_range (pa_cons (pv 0) pa_nil)) (blkOk_by (N := N_L_v_contract) (sc := defScope sL_v_contract) (by decide +kernel)) (fun _ _ _ _ _ => (pg_name (i := 3) sc_L_v_contract.nd rfl (by first | exact Or.inl rfl | exact Or.inr rfl))) (fun _ _ _ _ _ => pts_nil) (fun _ _ _ _ _ => (pe_call (ok_L_v_family (P := P) (w := w) T) (hr.mono (by omega)) rfl T.g_L_v_family T.d_L_v_family.kp T.b_L_v_family .nil pass0 (pa_cons (pv 0) (pa_cons (pe_lc (own := [("_law_x", 2)]) rfl sc_L_v_contract.nd (seqK (K := K) rfl (pe_call (ok_L_v_sets (P := P) (w := w) T) (hr.mono (by omega)) rfl T.g_L_v_sets T.d_L_v_sets.kp T.b_L_v_sets .nil pass0 (pa_cons (pv 0) pa_nil))) (blkOk_by (by kernel_rfl)) (fun _ _ _ _ _ => (pg_name (i := 2) sc_L_v_contract.nd rfl (by first | exact Or.inl rfl | exact Or.inr rfl))) (fun _ _ _ _ _ => pts_one (pt_val (pe_ix (ixK (P := P) (w := w) (K := K) rfl rfl rfl (hu10 hr)) (pv 1) (pe_tup (pa_cons (pv 3) (pa_cons (pv 2) pa_nil))) (fun _ _ => rfl)))) (fun _ _ _ _ _ => (pv 2))) pa_nil))))))), ?_⟩
  rintro ⟨n, F⟩ O hn hO
  have hn : N3 n := hn
  have hn3 := hn.2
  have h8 := allS_le8 n hn
  refine st_ret (ew_of (et_eq (lcD (K := K) (f := fun s => famD (famOf n ((allS n).filter (F s)))) (ix_R (n := n) (ea_cons (et_var rfl) ea_nil) (by omega)) (fun _ _ => gt_name) (fun _ => rfl)
    (fun s hs => et_call (ok := fun a : Nat × List (List Nat) => N3 a.1 ∧ (∀ y ∈ a.2, y ∈ allS a.1) ∧ a.2.length < 1000) (n, (allS n).filter (F s)) ⟨hn, fun y hy => (List.mem_filter.mp hy).1, by have := List.length_filter_le (F s) (allS n); show ((allS n).filter (F s)).length < 1000; omega⟩ (ea_cons (et_var rfl) (ea_cons
      (et_eq (lcDIf (K := K) (p := fun x => F s x) (f := setD) (ix_sL (xs := allS n) (g := setD) (et_call (ok := fun n : Nat => N3 n) n hn (ea_cons (et_var rfl) ea_nil))) (fun x _ => gt_name) (fun _ => rfl) (fun x hx => bt_B (et_op (et_var rfl) (et_pairD (K := K) (et_var rfl) (et_var rfl)) (rx_q (List.mem_range.mp hs) hx))) (fun x hx _ => et_var rfl) (sz100 (by omega))) rfl) ea_nil))) (sz100 (by rw [List.length_range]; omega))) ?_) (rt_P (Sub.refl _)))
  rw [List.map_map]
  rfl
end
end Tw
end
/-! W19 -/
section
set_option Elab.async false
set_option linter.all false
set_option autoImplicit false
set_option maxRecDepth 100000
set_option maxHeartbeats 4000000
/-! The walk: values by keywords, what the law has itself. -/
namespace Tw
open PySem PySem.Spec PyProof.Rows L2
open Evl (Ex ex_l ex_t ex_rd)
section
variable {P : Program} {w : World} {K : PySem.W.Frag} {mg : PySem.Str → Option Value} {base : Heap}
/-- value_of(.., endless=..) -/
theorem kb_value_of (T : Tx K mg) : KBn K (fdAt K avalue_of) P_value_of 3 ["endless"] (fun us ws => us ++ ws) (fun vs zs => vs ++ zs) := by
  obtain ⟨oc, od, dV, kV, doc, pm, an, cdv, ct, osl, hfd, lk, hcd, hD, hK⟩ := T.d_value_of.ex
  have hd : dV = .none := by
    rcases hD with ⟨_, h⟩ | ⟨h, _⟩
    · exact h
    · exact absurd rfl h
  subst hd
  refine ⟨fun s us ws _ l1 l2 => ?_, fun r1 r2 => r1.append r2⟩
  rw [hfd]
  exact .of_eq (match us, ws, l1, l2 with | [_, _, _], [_], _, _ => rfl)
theorem et_callN {α : Type} {ok : α → Prop} {As : α → List Ty} {Rt : α → Ty} {Γ : TEnv} {M : Mem} {ta tk : TA} {E : XK} {Ts Us : List Ty} {n m : Nat} (a : α) (ha : ok a) (h : EA ta Γ M Ts) (hk : EA tk Γ M Us) (hA : As a = Ts ++ Us) (h1 : Ts.length = n) (h2 : Us.length = m) :
    ET (tCallN n m (spP ok As Rt) (fun vs zs => vs ++ zs) E ta tk) Γ M (Rt a) := fun O σ I H Q e h0 q =>
  h O σ I H _ e h0 fun vs I1 H1 e1 hh1 hv => hk O σ I1 H1 _ (e.mono e1) hh1 fun zs I2 H2 e2 hh2 hz => ⟨by rw [← hv.length, h1], by rw [← hz.length, h2], use_P a ha hh2 (by rw [hA]; exact (hv.mono e2).app hz) fun v I' H' e3 h3 r => q v I' H' (e1.trans (e2.trans e3)) h3 r⟩
/-- the parts' contracts -/
def psOf (rws : Rws) : List (List Row) := rws.map fun rows => rows.map famF
theorem partF_psOf (rws : Rws) : partF (psOf rws) = rwsF rws := by
  funext j s
  have e : (psOf rws).getD j [] = (rws.getD j []).map famF := by
    unfold psOf
    rw [List.getD_eq_getElem?_getD, List.getElem?_map, List.getD_eq_getElem?_getD]
    cases rws[j]? <;> rfl
  show ((psOf rws).getD j []).getD s (fun _ => false) = famF ((rws.getD j []).getD s [])
  rw [e]
  generalize rws.getD j [] = rows
  rw [List.getD_eq_getElem?_getD, List.getElem?_map, List.getD_eq_getElem?_getD]
  cases rows[s]? <;> rfl
/-- what the rounds come to -/
def fin (a : RunA) (k : Nat) : Nat → Row := rnd a.n a.ts (rwsF a.rws) (!a.we) 1000 k
theorem RunOk.parts {a : RunA} (h : RunOk a) : PartsOk a.n a.many (psOf a.rws) := ⟨by rw [psOf, List.length_map]; exact h.len, h.sys.m3, fun p hp => by
  obtain ⟨rows, hr, rfl⟩ := List.mem_map.mp hp
  rw [List.length_map]
  exact (h.rows rows hr).1⟩
theorem still_fin {a : RunA} (h : RunOk a) {m : Nat} (hm : m < 1000) (hs : Still a.n a.ts (rwsF a.rws) (!a.we) m) : EqC a.n a.ts.length (rnd a.n a.ts (rwsF a.rws) (!a.we) m) (fin a) := by
  have := still_stay h.sys.n3 h.sys.ok hs (1000 - m)
  rw [show m + (1000 - m) = 1000 by omega] at this
  exact this.symm
theorem fin_still {a : RunA} (h : RunOk a) : Still a.n a.ts (rwsF a.rws) (!a.we) 1000 := by
  obtain ⟨N, h1, h2⟩ := h.ends
  have e1 := still_stay h.sys.n3 h.sys.ok h2 (1000 - N)
  have e2 := still_stay h.sys.n3 h.sys.ok h2 (1001 - N)
  rw [show N + (1000 - N) = 1000 by omega] at e1
  rw [show N + (1001 - N) = 1000 + 1 by omega] at e2
  exact tabsB_iff.mpr (e2.trans e1.symm)
theorem fin_up {a : RunA} (h : RunOk a) {k : Nat} (hk : k < a.ts.length) : Up a.n (fin a k) := rnd_up h.sys.n3 h.sys.ok (rwsF_up _) 1000 k hk
theorem et_value {Γ : TEnv} {M : Mem} {ta tk : TA} {E : XK} {a : RunA} {k : Nat} (h : RunOk a) (hs : smallB a.ts = true) (hk : k < a.ts.length) (h3 : EA ta Γ M [DT K (sysD a.n a.many a.ts), partsT K a.n (psOf a.rws), DT K (dn k)]) (h4 : EA tk Γ M [DT K (.str (sideT a.we))]) :
    ET (tCallN 3 1 (sp_value_of P w K) (fun vs zs => vs ++ zs) E ta tk) Γ M (ConT K a.n (conR a.n (fin a k))) := by
  have hr : RndOk ⟨a.n, a.many, a.ts, psOf a.rws, a.we⟩ := ⟨h.sys, h.parts, by
    show ∃ N, N < 1000 ∧ Still a.n a.ts (partF (psOf a.rws)) (!a.we) N
    rw [partF_psOf]
    exact h.ends⟩
  refine et_sub (et_callN (ok := fun a : RndA × Nat => (RndOk a.1 ∧ smallB a.1.ts = true) ∧ a.2 < a.1.ts.length) (⟨a.n, a.many, a.ts, psOf a.rws, a.we⟩, k) ⟨⟨hr, hs⟩, hk⟩ h3 h4 rfl rfl rfl) fun I v ⟨m, ⟨hm, hst⟩, hv⟩ => ?_
  have hst : Still a.n a.ts (partF (psOf a.rws)) (!a.we) m := hst
  rw [partF_psOf] at hst
  have hv : (ConT K a.n (conR a.n (rnd a.n a.ts (partF (psOf a.rws)) (!a.we) m k))).r I v := hv
  rw [partF_psOf, conR_eq (still_fin h hm hst k hk)] at hv
  exact hv
def sp_L_v_values (P : Program) (w : World) (K : PySem.W.Frag) : Sp := spP (fun a : RunA => RunOk a ∧ smallB a.ts = true) (fun a => [DT K (sysD a.n a.many a.ts), partsT K a.n (psOf a.rws), DT K (.str (sideT a.we))])
  (fun a => DT K (.list ((List.range a.ts.length).map fun k => .str (notaTx a.n (conR a.n (fin a k))))))
theorem ok_L_v_values (T : Tx K mg) : FnOk P w K mg base CX0 23 aL_v_values (fdAt K aL_v_values) P_L_v_values (sp_L_v_values P w K) := by
  refine fn_ok T.d_L_v_values sc_L_v_values (fun _ => rfl) fun cdv A outer s H E hr => ⟨_, (pss_one (ps_ret (pe_lc (own := [("_law_k", 3)]) (tt := tYes) rfl sc_L_v_values.nd (pi_range1 rfl T.f_range (pa_cons (pe_callB (lenK (K := K) rfl) rfl T.f_len bt_len (pa_cons (pe_ix (ixK (P := P) (w := w) (K := K) rfl rfl rfl (hu10 hr)) (pv 0) (pe_int) (fun _ _ => rfl)) pa_nil)) pa_nil)) (blkOk_by (N := N_L_v_values) (sc := defScope sL_v_values) (by decide +kernel)) (fun _ _ _ _ _ => (pg_name (i := 3) sc_L_v_values.nd rfl (by first | exact Or.inl rfl | exact Or.inr rfl))) (fun _ _ _ _ _ => pts_nil) (fun _ _ _ _ _ => (pe_callTy (call_strOwn T.m_Contract___str__.at_ T.m_Contract___str__.fn (ok_Contract___str__ (P := P) (w := w) T) (hr.mono (by omega)) T.b_Contract___str__) rfl T.f_str bt_str (pa_cons (pe_callN (ok_value_of (P := P) (w := w) T) (hr.mono (by omega)) rfl T.g_value_of T.d_value_of.kp (kb_value_of T) pass0 (pa_cons (pv 0) (pa_cons (pv 1) (pa_cons (pv 3) pa_nil))) (pk_cons (pv 2) pk_nil)) pa_nil)))))), ?_⟩
  rintro a O ⟨h, hs⟩ hO
  have h4 := h.sys.l4
  exact st_ret (ew_of (lcD (K := K) (f := fun k => .str (notaTx a.n (conR a.n (fin a k)))) (ix_R (n := a.ts.length) (ea_cons (et_cb (ea_cons (et_item rfl rfl) ea_nil) (et_eq_cx (cx_lenTD (ds := a.ts.map Txt.toD)) (by rw [List.length_map]))) ea_nil) (by omega)) (fun _ _ => gt_name) (fun _ => rfl)
    (fun k hk => et_cb (ea_cons (et_value h hs (List.mem_range.mp hk) (ea_cons (et_var rfl) (ea_cons (et_var rfl) (ea_cons (et_var rfl) ea_nil))) (ea_cons (et_var rfl) ea_nil)) ea_nil) (cx_ownStr (ok := fun a : Nat × List Row => N3 a.1 ∧ a.2.length ≤ 4) (a.n, conR a.n (fin a k)) ⟨h.sys.n3, by have := h.sys.n3.2; rw [conR_len]; show a.n ≤ 4; omega⟩ rfl rfl)) (sz100 (by rw [List.length_range]; omega))) (rt_P (Sub.refl _)))
/-! ### what the law has itself -/
theorem qT_congr {n : Nat} {F G : Nat → Row} (h : EqT n F G) : qT P w K n F = qT P w K n G := by
  refine Ty.ext' fun I v => ⟨fun ⟨l, hl, hv⟩ => ⟨l, hl, ?_⟩, fun ⟨l, hl, hv⟩ => ⟨l, hl, ?_⟩⟩
  all_goals
    have e : esQ K F l = esQ K G l := List.map_congr_left fun q hq => by
      have hm := mem_prs.mp (hl.mem_iff.mp (show (q.1, q.2) ∈ l from hq))
      rw [h q.1 hm.1 q.2 hm.2]
  · show (KdT P w K (esQ K G l)).r I v
    rw [← e]
    exact hv
  · show (KdT P w K (esQ K F l)).r I v
    rw [e]
    exact hv
theorem qsT_congr {n cnt : Nat} {F G : Nat → Nat → Row} (h : EqC n cnt F G) : qsT P w K n cnt F = qsT P w K n cnt G := congrArg LstT (List.map_congr_left fun k hk => qT_congr (h k (List.mem_range.mp hk)))
structure HadA where
  r : RunA
  pl : Plc
  u : Txt
structure HadOk (a : HadA) : Prop where
  r : RunOk a.r
  k : a.pl.1 < a.r.ts.length
  go : txtGo a.pl.2 (txtAt a.r.ts a.pl.1) = some a.u
theorem go_dep : ∀ (p : List Nat) {t u : Txt}, txtGo p t = some u → p.length + u.dep ≤ t.dep
  | [], t, u, h => by
    cases h
    show 0 + t.dep ≤ t.dep
    omega
  | i :: p, t, u, h => by
    obtain ⟨c, hc, hr⟩ := go_cons h
    have h1 := go_dep p hr
    have h2 := kid_dep (List.mem_of_getElem? hc)
    have : (i :: p).length = p.length + 1 := rfl
    omega
theorem HadOk.ok {a : HadA} (h : HadOk a) : a.u.Ok a.r.n a.r.ts.length a.r.many ∧ a.u.dep ≤ 12 := by
  have hm := txtAt_mem h.k
  have h1 := put_ok (n := a.r.n) (cnt := a.r.ts.length) (many := a.r.many) .skip (by rw [Txt.Ok]; trivial) a.pl.2 _ a.u (h.r.sys.ok _ hm) h.go
  have h2 := go_dep _ h.go
  have h3 := h.r.sys.dep _ hm
  exact ⟨h1.2, by omega⟩
def had (a : HadA) : Nat → Row := sem a.r.n (rwsF a.r.rws) (fin a.r) a.u
theorem had_up {a : HadA} (h : HadOk a) : Up a.r.n (had a) := sem_up h.r.sys.n3 (fun k hk => fin_up h.r hk) (rwsF_up _) _ h.ok.1
def sp_L_v_as_had (K : PySem.W.Frag) : Sp := spP HadOk (fun a => [DT K (dn a.r.n), DT K (rwsD a.r.rws), DT K (sysD a.r.n a.r.many a.r.ts), DT K (plD a.pl), DT K (.str (sideT a.r.we))]) (fun a => ConT K a.r.n (conR a.r.n (had a)))
theorem ok_L_v_as_had (T : Tx K mg) : FnOk P w K mg base CX0 21 aL_v_as_had (fdAt K aL_v_as_had) P_L_v_as_had (sp_L_v_as_had K) := by
  have ih := ok_L_v_round (P := P) (w := w) (base := base) T 12
  refine fn_ok T.d_L_v_as_had sc_L_v_as_had (fun _ => rfl) fun cdv A outer s H E hr => ⟨_, (pss_cons (ps_set (i := 5) sc_L_v_as_had.nd rfl (by first | exact Or.inl rfl | exact Or.inr rfl) (pe_ix (ixK (P := P) (w := w) (K := K) rfl rfl rfl (hu10 hr)) (pe_call (ok_L_v_rounds (P := P) (w := w) T) (hr.mono (by omega)) rfl T.g_L_v_rounds T.d_L_v_rounds.kp T.b_L_v_rounds .nil pass0 (pa_cons (pv 2) (pa_cons (pv 1) (pa_cons (pv 4) pa_nil)))) (pe_un un_neg (pe_int)) (fun _ _ => rfl))) (pss_cons (ps_set (i := 6) sc_L_v_as_had.nd rfl (by first | exact Or.inl rfl | exact Or.inr rfl) (pe_call (ok_L_v_text_at (P := P) (w := w) T) (hr.mono (by omega)) rfl T.g_L_v_text_at T.d_L_v_text_at.kp T.b_L_v_text_at .nil pass0 (pa_cons (pe_ix (ixK (P := P) (w := w) (K := K) rfl rfl rfl (hu10 hr)) (pv 2) (pe_int) (fun _ _ => rfl)) (pa_cons (pv 3) pa_nil)))) (pss_cons (ps_set (i := 7) sc_L_v_as_had.nd rfl (by first | exact Or.inl rfl | exact Or.inr rfl) (pe_call ih (hr.mono (by omega)) rfl T.g_L_v_round T.d_L_v_round.kp T.b_L_v_round .nil pass0 (pa_cons (pv 0) (pa_cons (pv 6) (pa_cons (pe_lc (own := [("_law_one", 8)]) (tt := tYes) rfl sc_L_v_as_had.nd (seqK (K := K) rfl (pv 1)) (blkOk_by (N := N_L_v_as_had) (sc := defScope sL_v_as_had) (by decide +kernel)) (fun _ _ _ _ _ => (pg_name (i := 8) sc_L_v_as_had.nd rfl (by first | exact Or.inl rfl | exact Or.inr rfl))) (fun _ _ _ _ _ => pts_nil) (fun _ _ _ _ _ => (pe_call (ok_L_v_truths (P := P) (w := w) T) (hr.mono (by omega)) rfl T.g_L_v_truths T.d_L_v_truths.kp T.b_L_v_truths .nil pass0 (pa_cons (pv 0) (pa_cons (pv 8) pa_nil))))) (pa_cons (pv 5) pa_nil)))))) (pss_one (ps_ret (pe_make T.k_Contract (ok_Contract___init__ (P := P) (w := w) T) (hr.mono (by omega)) rfl T.g_Contract T.b_Contract___init__ .nil pass0 (pa_cons (pv 0) (pa_cons (pe_call (ok_L_v_contract (P := P) (w := w) T) (hr.mono (by omega)) rfl T.g_L_v_contract T.d_L_v_contract.kp T.b_L_v_contract .nil pass0 (pa_cons (pv 0) (pa_cons (pv 7) pa_nil))) pa_nil)))))))), ?_⟩
  rintro ⟨⟨n, many, ts, rws, we⟩, pl, u⟩ O h hO
  have h : HadOk ⟨⟨n, many, ts, rws, we⟩, pl, u⟩ := h
  have hr : RunOk ⟨n, many, ts, rws, we⟩ := h.r
  have hn : N3 n := hr.sys.n3
  have hl : rws.length = many := hr.len
  have hm3 : many ≤ 3 := hr.sys.m3
  have hrows : ∀ rows ∈ rws, RowsOk n rows := hr.rows
  have hup := had_up h
  obtain ⟨huo, hud⟩ := h.ok
  have hn1 : 1 ≤ n := hn.1
  have hn3 : n ≤ 3 := hn.2
  let a : RunA := ⟨n, many, ts, rws, we⟩
  let p : Nat → Prop := fun m => m < 1000 ∧ Still n ts (rwsF rws) (!we) m
  let R := rnd n ts (rwsF rws) (!we)
  refine st_seq (st_set (ew_of (et_sub (T := qsT P w K n ts.length (fin a)) (et_op (et_call (ok := RunOk) a hr (ea_cons (et_var rfl) (ea_cons (et_var rfl) (ea_cons (et_var rfl) ea_nil)))) (et_un (et_int (K := K)) ux_neg) (rx_x1 fun m hm => rx_sub (rx_ixL (T := qsT P w K n ts.length (R m)) ?_) (sub_x (p := p) (F := fun m => qsT P w K n ts.length (R m)) m hm))) ?_) ?_))
  · rw [frontQ_succ]
    exact atI_last _ _
  · rintro I v ⟨m, ⟨hm, hst⟩, hv⟩
    have hv : (qsT P w K n ts.length (rnd n ts (rwsF rws) (!we) m)).r I v := hv
    rw [qsT_congr (still_fin (a := a) hr hm hst)] at hv
    exact hv
  refine st_seq (st_set (ew_of (et_call (ok := fun a : List Txt × Plc × Txt => a.2.1.1 < a.1.length ∧ txtGo a.2.1.2 (txtAt a.1 a.2.1.1) = some a.2.2) (ts, pl, u) ⟨h.k, h.go⟩ (ea_cons (et_item rfl rfl) (ea_cons (et_var rfl) ea_nil))) ?_))
  refine st_seq (st_set (ew_of (et_call (ok := RoOk 12) (⟨n, ts.length, many, rwsF rws, fin a, u⟩ : RoA) ⟨hn, huo, hud⟩ (ea_cons (et_var rfl) (ea_cons (et_var rfl) (ea_cons (et_eq (lcT (xs := rws) (f := fun rows => qT P w K n (rowsF rows)) (ix_sL (g := fun rows => .list (rows.map famD)) (et_var rfl)) (fun _ _ => gt_name) (fun _ => rfl) (fun rows hr => et_call (ok := fun a : Nat × List (List (List Nat)) => N3 a.1 ∧ RowsOk a.1 a.2) (n, rows) ⟨hn, hrows rows hr⟩ (ea_cons (et_var rfl) (ea_cons (et_var rfl) ea_nil))) (sz100 (by omega))) (T := qsT P w K n many (rwsF rws)) ?_) (ea_cons (et_var rfl) ea_nil))))) ?_))
  · rw [map_range rws _ [], hl]
    rfl
  refine st_ret (ew_of (et_eq (et_contract n (cRows n (had ⟨a, pl, u⟩)) hn (by rw [List.length_map, List.length_range]; exact hn1) (by rw [List.length_map, List.length_range]; omega) (fun ys hy => ?_) (ea_cons (et_var rfl) (ea_cons (et_call (ok := fun a : Nat × (Nat → Row) => N3 a.1) (n, had ⟨a, pl, u⟩) hn (ea_cons (et_var rfl) (ea_cons (et_var rfl) ea_nil))) ea_nil))) (cRows_con hn hup)) (rt_P (Sub.refl _)))
  obtain ⟨s, _, rfl⟩ := List.mem_map.mp hy
  exact famOf_ok hn _
end
end Tw
end
/-! W20 -/
section
set_option Elab.async false
set_option linter.all false
set_option autoImplicit false
set_option maxRecDepth 100000
set_option maxHeartbeats 4000000
/-! The walk: all places of texts. -/
namespace Tw
open PySem PySem.Spec PyProof.Rows L2
open Evl (Ex ex_l ex_t ex_rd)
section
variable {P : Program} {w : World} {K : PySem.W.Frag} {mg : PySem.Str → Option Value} {base : Heap}
/-- a place with a text -/
def Valid (ts : List Txt) (q : Plc) : Prop := q.1 < ts.length ∧ ∃ u, txtGo q.2 (txtAt ts q.1) = some u
def szAt (ts : List Txt) (q : Plc) : Nat := match txtGo q.2 (txtAt ts q.1) with
  | some u => u.size
  | none => 0
theorem go_snoc : ∀ (p : List Nat) (t : Txt) (j : Nat), txtGo (p ++ [j]) t = (txtGo p t).bind fun u => u.kids[j]?
  | [], t, j => by
    show (t.kids[j]?).bind (txtGo []) = t.kids[j]?
    cases t.kids[j]? <;> rfl
  | i :: p, t, j => by
    rw [List.cons_append, txtGo, txtGo]
    cases t.kids[i]? with
    | none => rfl
    | some c => exact go_snoc p c j
theorem alike_pl (p q : Plc) : PySem.W.alike (plD p) (plD q) = true := by
  have h := alike_set p.2 q.2
  have h1 : PySem.W.alike (dn p.1) (dn q.1) = true := by simp [PySem.W.alike]
  have e : PySem.W.alike (plD p) (plD q) = PySem.W.alikeAll [dn p.1, setD p.2] [dn q.1, setD q.2] := by rw [PySem.W.alike]
  rw [e]
  simp only [PySem.W.alikeAll, h, h1, Bool.and_true]
theorem depth_pl (p : Plc) : (plD p).depth ≤ 4 := by
  have := depth_set p.2
  simp only [PyData.depth, PyData.depthAll] at this ⊢
  omega
theorem perm_back {α β : Type} {f : α → β} {xs : List α} : ∀ {l : List β}, (∀ b ∈ l, ∃ a ∈ xs, b = f a) → ∃ ys : List α, l = ys.map f ∧ ∀ a ∈ ys, a ∈ xs
  | [], _ => ⟨[], rfl, fun _ h => nomatch h⟩
  | b :: l, h => by
    obtain ⟨a, ha, e⟩ := h b List.mem_cons_self
    obtain ⟨ys, e2, h2⟩ := perm_back (l := l) fun b hb => h b (List.mem_cons_of_mem _ hb)
    refine ⟨a :: ys, by rw [e, e2]; rfl, fun c hc => ?_⟩
    rcases List.mem_cons.mp hc with rfl | hc
    · exact ha
    · exact h2 c hc
abbrev PlsOk (ts : List Txt) (qs : List Plc) : Prop := qs ≠ [] ∧ qs.length ≤ 4000 ∧ ∀ q ∈ qs, Valid ts q
def sp_L_v_places (K : PySem.W.Frag) : Sp := spP (fun ts : List Txt => 1 ≤ ts.length ∧ ts.length ≤ 4 ∧ (∀ t ∈ ts, t.size ≤ 1000) ∧ ∀ t ∈ ts, t.dep ≤ 12) (fun ts => [DT K (.tuple (ts.map Txt.toD))]) (fun ts => XT (PlsOk ts) fun qs => DT K (.list (qs.map plD)))
theorem ok_L_v_places (T : Tx K mg) : FnOk P w K mg base CX0 3 aL_v_places (fdAt K aL_v_places) P_L_v_places (sp_L_v_places K) := by
  refine fn_ok T.d_L_v_places sc_L_v_places (fun _ => rfl) fun cdv A outer s H E hr => ⟨_, (pss_cons (ps_setLc (i := 1) (own := [("_law_k", 2)]) (tt := tYes) rfl sc_L_v_places.nd rfl rfl (sw_true rfl rfl rfl (by decide +kernel)) (pi_range1 rfl T.f_range (pa_cons (pe_callB (lenK (K := K) rfl) rfl T.f_len bt_len (pa_cons (pv 0) pa_nil)) pa_nil)) (blkOk_by (N := N_L_v_places) (sc := defScope sL_v_places) (by decide +kernel)) (fun _ _ _ _ _ => (pg_name (i := 2) sc_L_v_places.nd rfl (by first | exact Or.inl rfl | exact Or.inr rfl))) (fun _ _ _ _ _ => pts_nil) (fun _ _ _ _ _ => (pe_tup (pa_cons (pv 2) (pa_cons (pe_tup pa_nil) pa_nil))))) (pss_cons (ps_set (i := 3) sc_L_v_places.nd rfl (by first | exact Or.inl rfl | exact Or.inr rfl) (pe_int)) (pss_cons (ps_while PassesOwn.never (pt_cmpR op_lt (pv 3) (pe_callB (lenK (K := K) rfl) rfl T.f_len bt_len (pa_cons (pv 1) pa_nil)) (nomark _)) (pss_cons (ps_asg (pe_ix (ixK (P := P) (w := w) (K := K) rfl rfl rfl (hu10 hr)) (pv 1) (pv 3) (fun _ _ => rfl)) (tupK (K := K) (n := 2) rfl rfl (pgs_cons (pg_name (i := 2) sc_L_v_places.nd rfl (by first | exact Or.inl rfl | exact Or.inr rfl)) (pgs_cons (pg_name (i := 4) sc_L_v_places.nd rfl (by first | exact Or.inl rfl | exact Or.inr rfl)) pgs_nil)))) (pss_cons (ps_set (i := 5) sc_L_v_places.nd rfl (by first | exact Or.inl rfl | exact Or.inr rfl) (pe_call (ok_L_v_texts_in (P := P) (w := w) T) (hr.mono (by omega)) rfl T.g_L_v_texts_in T.d_L_v_texts_in.kp T.b_L_v_texts_in .nil pass0 (pa_cons (pe_call (ok_L_v_text_at (P := P) (w := w) T) (hr.mono (by omega)) rfl T.g_L_v_text_at T.d_L_v_text_at.kp T.b_L_v_text_at .nil pass0 (pa_cons (pv 0) (pa_cons (pe_tup (pa_cons (pv 2) (pa_cons (pv 4) pa_nil))) pa_nil))) pa_nil))) (pss_cons (ps_set (i := 1) sc_L_v_places.nd rfl (by first | exact Or.inl rfl | exact Or.inr rfl) (pe_op (addK (K := K) rfl) (pv 1) (pe_lc (own := [("_law_number", 6)]) (tt := tYes) rfl sc_L_v_places.nd (pi_range1 rfl T.f_range (pa_cons (pe_callB (lenK (K := K) rfl) rfl T.f_len bt_len (pa_cons (pv 5) pa_nil)) pa_nil)) (blkOk_by (N := N_L_v_places) (sc := defScope sL_v_places) (by decide +kernel)) (fun _ _ _ _ _ => (pg_name (i := 6) sc_L_v_places.nd rfl (by first | exact Or.inl rfl | exact Or.inr rfl))) (fun _ _ _ _ _ => pts_nil) (fun _ _ _ _ _ => (pe_tup (pa_cons (pv 2) (pa_cons (pe_op (addK (K := K) rfl) (pv 4) (pe_tup (pa_cons (pv 6) pa_nil))) pa_nil))))))) (pss_one (ps_set (i := 3) sc_L_v_places.nd rfl (by first | exact Or.inl rfl | exact Or.inr rfl) (pe_op (addK (K := K) rfl) (pv 3) (pe_int)))))))) (pss_one (ps_ret (pe_callB (sortK (K := K) rfl (hu64 hr)) rfl T.f_sorted bt_sorted (pa_cons (pv 1) pa_nil))))))), ?_⟩
  rintro ts O ⟨h1, h4, hsz, hdep⟩ hO
  have h1 : 1 ≤ ts.length := h1
  have h4 : ts.length ≤ 4 := h4
  have hsz : ∀ t ∈ ts, t.size ≤ 1000 := hsz
  have hdep : ∀ t ∈ ts, t.dep ≤ 12 := hdep
  let S := (ts.map Txt.size).sum
  have hS : S ≤ 4000 := by
    have := sizes_le 1000 ts hsz
    rw [sizes_sum] at this
    have : 1000 * ts.length ≤ 1000 * 4 := Nat.mul_le_mul_left _ h4
    show (ts.map Txt.size).sum ≤ 4000
    omega
  let ps0 : List Plc := (List.range ts.length).map fun k => (k, [])
  refine st_seq (st_set (ew_of (T := DT K (.list (ps0.map plD))) (et_eq (lcD (K := K) (f := fun k => plD (k, [])) (ix_R (n := ts.length) (ea_cons (et_cb (ea_cons (et_var rfl) ea_nil) (et_eq_cx (cx_lenTD (ds := ts.map Txt.toD)) (by rw [List.length_map]))) ea_nil) (by omega)) (fun _ _ => gt_name) (fun _ => rfl)
    (fun k hk => et_pairD (K := K) (et_var rfl) (et_tupD ead_nil (by show 0 ≤ sizeLine; decide))) (sz100 (by rw [List.length_range]; omega))) ?_) ?_))
  · rw [List.map_map]
    rfl
  refine st_seq (st_set (ew_of (T := DT K (dn 0)) (et_int (K := K)) ?_))
  refine st_seq (st_while (fun m Γ M => ∃ (i : Nat) (ps : List Plc) (o2 o4 o5 : Option Ty), i ≤ ps.length ∧ ps ≠ [] ∧ (∀ q ∈ ps, Valid ts q) ∧ m = ((ps.drop i).map (szAt ts)).sum ∧ i + m ≤ S ∧ Γ = [some (DT K (.tuple (ts.map Txt.toD))), some (DT K (.list (ps.map plD))), o2, some (DT K (dn i)), o4, o5, none] ∧ M = [])
    ⟨_, 0, ps0, none, none, none, Nat.zero_le _, ?_, ?_, rfl, ?_, rfl, rfl⟩ ?_)
  · intro e
    have : ps0.length = 0 := by rw [e]; rfl
    rw [List.length_map, List.length_range] at this
    omega
  · intro q hq
    obtain ⟨k, hk, rfl⟩ := List.mem_map.mp hq
    exact ⟨List.mem_range.mp hk, _, rfl⟩
  · have : ((ps0.drop 0).map (szAt ts)) = ts.map Txt.size := by
      rw [List.drop_zero, List.map_map, map_range ts Txt.size .skip]
      rfl
    rw [this]
    show 0 + S ≤ S
    omega
  rintro m _ _ ⟨i, ps, o2, o4, o5, hi, hne, hv, rfl, hb, rfl, rfl⟩
  have hpos : ∀ l : List Plc, (∀ q ∈ l, Valid ts q) → l.length ≤ (l.map (szAt ts)).sum := by
    intro l
    induction l with
    | nil => exact fun _ => Nat.zero_le _
    | cons q l ih =>
      intro h
      have h2 := ih fun r hr => h r (List.mem_cons_of_mem _ hr)
      obtain ⟨_, u, hu⟩ := h q List.mem_cons_self
      have : szAt ts q = u.size := by unfold szAt; rw [hu]
      have := size_pos u
      rw [List.map_cons, List.sum_cons, List.length_cons]
      omega
  have hlen : ps.length ≤ S := by
    have := hpos (ps.drop i) fun q hq => hv q (List.mem_of_mem_drop hq)
    rw [List.length_drop] at this
    omega
  refine ⟨decide (i < ps.length), bt_eq (bt_test (et_op (et_var rfl) (et_cb (ea_cons (et_var rfl) ea_nil) cx_lenLD) rx_B0)) ?_, fun hc => ?_, fun hc => ?_⟩
  · rw [List.length_map]
    show decide (((i : Nat) : Int) < ((ps.length : Nat) : Int)) = _
    by_cases c : i < ps.length
    · rw [decide_eq_true c, decide_eq_true (Int.ofNat_lt.mpr c)]
    · rw [decide_eq_false c, decide_eq_false fun q => c (Int.ofNat_lt.mp q)]
  · have hc := of_decide_eq_true hc
    obtain ⟨⟨k, p⟩, hq⟩ : ∃ q, ps[i]? = some q := ⟨_, List.getElem?_eq_getElem hc⟩
    obtain ⟨hk, u, hu⟩ := hv _ (List.mem_of_getElem? hq)
    have hk : k < ts.length := hk
    have hu : txtGo p (txtAt ts k) = some u := hu
    have hgd := go_dep p hu
    have hd12 := hdep _ (txtAt_mem hk)
    have hum : u.size ≤ 1000 := by
      have h1 : ((ps.drop i).map (szAt ts)).sum = szAt ts (k, p) + ((ps.drop (i + 1)).map (szAt ts)).sum := by
        rw [List.drop_eq_getElem_cons hc, (List.getElem?_eq_some_iff.mp hq).2, List.map_cons, List.sum_cons]
      have go_size : ∀ (p : List Nat) (t u : Txt), txtGo p t = some u → u.size ≤ t.size := by
        intro p
        induction p with
        | nil =>
          intro t u h
          cases h
          exact Nat.le_refl _
        | cons j p ih =>
          intro t u h
          obtain ⟨c, hc, hr⟩ := go_cons h
          have := kid_size (List.mem_of_getElem? hc)
          have := ih c u hr
          omega
      exact Nat.le_trans (go_size p _ u hu) (hsz _ (txtAt_mem hk))
    have hkl : u.kids.length ≤ 1000 := by
      have := size_kids u
      have := len_sum u.kids
      omega
    refine st_seq (st_asg (ew_of (et_op (et_var rfl) (et_var rfl) (rx_ixLD (d := plD (k, p)) (atI_nat (by rw [List.getElem?_map, hq]; rfl)))) ⟨_, gt_tupD (gts_cons gt_name (gts_cons gt_name gts_nil)) rfl, ?_⟩))
    refine st_seq (st_set (ew_of (et_call (u.toD, u) rfl (ea_cons (et_call (ok := fun a : List Txt × Plc × Txt => a.2.1.1 < a.1.length ∧ txtGo a.2.1.2 (txtAt a.1 a.2.1.1) = some a.2.2) (ts, (k, p), u) ⟨hk, hu⟩ (ea_cons (et_var rfl) (ea_cons (et_pairD (K := K) (et_var rfl) (et_var rfl)) ea_nil))) ea_nil)) ?_))
    let ks : List Plc := (List.range u.kids.length).map fun j => (k, p ++ [j])
    refine st_seq (st_set (ew_of (T := DT K (.list ((ps ++ ks).map plD))) (et_eq (et_op (et_var rfl) (lcD (K := K) (f := fun j => plD (k, p ++ [j])) (ix_R (n := u.kids.length) (ea_cons (et_cb (ea_cons (et_var rfl) ea_nil) (et_eq_cx (cx_lenTD (ds := u.kids.map Txt.toD)) (by rw [List.length_map]))) ea_nil) (by omega)) (fun _ _ => gt_name) (fun _ => rfl)
      (fun j hj => et_pairD (K := K) (et_var rfl) (et_eq (et_op (et_var rfl) (et_tupD (K := K) (ead_cons (et_var rfl) ead_nil) (by show 1 ≤ sizeLine; decide)) (rx_addTD (a := p.map dn) (b := [dn j]) ?_)) ?_)) (Nat.lt_of_le_of_lt (m := 1000) (by rw [List.length_range]; exact hkl) (by decide))) (rx_addLD ?_)) ?_) ?_))
    · rw [List.length_map]
      exact Nat.le_trans (m := 1000) (by show p.length + 1 ≤ 1000; omega) (by decide)
    · show DT K (.tuple (p.map dn ++ [dn j])) = DT K (.tuple ((p ++ [j]).map dn))
      rw [List.map_append]
      rfl
    · rw [List.length_map, List.length_map, List.length_range]
      exact Nat.le_trans (m := 6000) (by omega) (by decide)
    · rw [List.map_append, List.map_map]
      rfl
    have hdrop : (ps ++ ks).drop (i + 1) = ps.drop (i + 1) ++ ks := List.drop_append_of_le_length (by omega)
    have hks : (ks.map (szAt ts)).sum + 1 = szAt ts (k, p) := by
      have e1 : szAt ts (k, p) = u.size := by unfold szAt; rw [hu]
      rw [e1, size_kids u, map_range u.kids Txt.size .skip, List.map_map, Nat.add_comm]
      congr 2
      refine List.map_congr_left fun j hj => ?_
      show szAt ts (k, p ++ [j]) = _
      unfold szAt
      rw [go_snoc, hu]
      have hj := List.mem_range.mp hj
      show (match u.kids[j]? with | some u => u.size | none => 0) = _
      rw [(getD_mem (d := Txt.skip) hj).2]
    have hsum : ((ps.drop i).map (szAt ts)).sum = (((ps ++ ks).drop (i + 1)).map (szAt ts)).sum + 1 := by
      rw [hdrop, List.drop_eq_getElem_cons hc, (List.getElem?_eq_some_iff.mp hq).2, List.map_cons, List.sum_cons, List.map_append, List.sum_append]
      omega
    refine st_set (ew_of (T := DT K (dn (i + 1))) (et_op (et_var rfl) (et_int (K := K)) rx_addI) ⟨_, ?_, i + 1, ps ++ ks, _, _, _, ?_, ?_, ?_, rfl, ?_, rfl, rfl⟩)
    · omega
    · rw [List.length_append]
      omega
    · intro e
      exact hne (List.append_eq_nil_iff.mp e).1
    · intro q hq
      rcases List.mem_append.mp hq with hq | hq
      · exact hv q hq
      · obtain ⟨j, hj, rfl⟩ := List.mem_map.mp hq
        refine ⟨hk, u.kids.getD j .skip, ?_⟩
        show txtGo (p ++ [j]) (txtAt ts k) = _
        rw [go_snoc, hu]
        exact (getD_mem (List.mem_range.mp hj)).2
    · omega
  · refine st_ret (ew_of (et_cb (ea_cons (et_var rfl) ea_nil) (cx_sort (fun d hd e he => ?_) (fun d hd => ?_) fun d hd => ?_)) (rt_P ?_))
    · obtain ⟨a, _, rfl⟩ := List.mem_map.mp hd
      obtain ⟨b, _, rfl⟩ := List.mem_map.mp he
      exact alike_pl a b
    · obtain ⟨a, _, rfl⟩ := List.mem_map.mp hd
      exact ⟨_, rfl⟩
    · obtain ⟨a, _, rfl⟩ := List.mem_map.mp hd
      exact Nat.le_trans (depth_pl a) (by decide)
    · have hp := List.mergeSort_perm (ps.map plD) (PySem.W.dataLe false id)
      obtain ⟨ys, e, hy⟩ := perm_back (f := plD) (xs := ps) (l := (ps.map plD).mergeSort (PySem.W.dataLe false id)) fun b hb => by
        obtain ⟨a, ha, e⟩ := List.mem_map.mp (hp.mem_iff.mp hb)
        exact ⟨a, ha, e.symm⟩
      have hl : ys.length = ps.length := by
        have := hp.length_eq
        rw [e, List.length_map, List.length_map] at this
        exact this
      rw [e]
      refine sub_x (p := PlsOk ts) (F := fun qs => DT K (.list (qs.map plD))) ys ⟨fun z => ?_, by omega, fun q hq => hv q (hy q hq)⟩
      rw [z] at hl
      exact hne (List.length_eq_zero_iff.mp hl.symm)
end
end Tw
end
/-! TwLogic4 -/
section
set_option Elab.async false
set_option linter.all false
set_option autoImplicit false
set_option maxRecDepth 100000
/-! Effects, more: order of what is owned, calls that make objects, loops over drawn ranges. -/
namespace Tw
open PySem PySem.Spec PyProof.Rows L2
open Evl (Ex ex_l ex_t ex_rd)
theorem Holds.perm {O : Org} {I H : Hp} {M N : Mem} (h : Holds O I H M) (p : M.Perm N) : Holds O I H N :=
  ⟨h.ex, (p.map (·.1)).nodup_iff.mp h.nd, fun m hm => h.at_ m (p.mem_iff.mpr hm), h.from_, h.keep, h.new, h.there⟩
section
variable {K : PySem.W.Frag} {Γ : TEnv} {M : Mem} {O : Org} {D : Dest} {t u : TS} {te ta tb : TE} {ts : TA} {N : Ty → Mem → Prop} {g : TG} {Ts : List Ty}
/-- behind t only N is known -/
theorem st_cut (N : TEnv → Mem → Prop) (h : ST t O Γ M { D with nx := N }) (k : ∀ Γ' M', N Γ' M' → ST u O Γ' M' D) : ST (tSeq t u) O Γ M D :=
  st_seq (st_imp h (fun Γ' M' n => k Γ' M' n) (fun _ _ h => h) (fun _ _ h => h) (fun _ _ h => h))
theorem st_forRW (h : AW ts O Γ M fun Ts M' => ∃ n : Nat, Ts = [DT K (.int (n : Nat))] ∧ ST (tFor (iRng1 (tCons (tC (.int (n : Nat))) tNil)) g t) O Γ M' D) : ST (tFor (iRng1 ts) g t) O Γ M D := fun σ I H E e h0 q =>
  h σ I H _ e h0 fun Ts M' vs I1 H1 ⟨n, hT, k⟩ e1 h1 a => by
    subst hT
    cases a with
    | cons a tl =>
      cases tl
      cases dt_int a
      exact k σ I1 H1 E (e.mono e1) h1 (q.mono e1)
/-- tuple(a list), the list with effects -/
theorem ew_tupleL (h : EW te O Γ M fun T M' => ∃ Ts, T = LstT Ts ∧ N (TupT K Ts) M') : EW (tThen te (kTup K)) O Γ M N := fun σ I H Q e h0 q =>
  h σ I H _ e h0 fun T M' v I1 H1 ⟨Ts, hT, n⟩ e1 h1 a => by
    subst hT
    obtain ⟨p, vs, g1, g2, g3⟩ := a
    exact .inl ⟨p, vs, g1, SqL.of (h1.ex _ _ g2), fun t ht => by
      obtain ⟨e2, h2⟩ := h1.new_ (o := .tup vs) ht
      exact q _ _ _ _ _ n (e1.trans e2) h2 ⟨t, vs, rfl, SqT.of upd_same, g3.mono e2⟩⟩
/-- [..] that stays, its items with effects -/
theorem ew_lstF (h : AW ts O Γ M fun Ts M' => Ts.length ≤ sizeLine ∧ N (LstT Ts) M') : EW (tLst ts) O Γ M N := fun σ I H Q e h0 q =>
  h σ I H _ e h0 fun Ts M' xs I1 H1 n e1 h1 a => ⟨a.length ▸ n.1, fun p hp => by
    obtain ⟨e2, h2⟩ := h1.new_ (o := .lst xs) hp
    exact q _ _ _ _ _ n.2 (e1.trans e2) h2 ⟨p, xs, rfl, upd_same, a.mono e2⟩⟩
theorem ew_eq {S T : Ty} (e : S = T) (h : N T M) : N S M := e ▸ h
end
section
variable {α : Type} {ok : α → Prop} {Ms : α → Mem} {As : α → List Ty} {R : α → Ty → Mem → Prop} {Γ : TEnv} {M : Mem} {ta te : TE} {ts : TA} {E : XK} {O : Org} {N : Ty → Mem → Prop}
/-- a call that changes the objects given to it; the rest stays -/
theorem ew_callF (h : AW ts O Γ M fun Ts M1 => ∃ a rest, As a = Ts ∧ ok a ∧ M1.Perm (Ms a ++ rest) ∧ ∀ T M', R a T M' → M'.map (·.1) = (Ms a).map (·.1) ∧ ∃ N', N'.Perm (M' ++ rest) ∧ N T N') :
    EW (tCall (spG ok Ms As R) [] E ts) O Γ M N := fun σ I H Q e h0 q =>
  h σ I H _ e h0 fun Ts M1 vs I1 H1 ⟨a, rest, hA, ha, hp, k⟩ e1 h1 hv => by
    have h1p := h1.perm hp
    have nd : ((Ms a).map (·.1)).Nodup := by
      have := h1p.nd
      rw [List.map_append] at this
      exact (List.nodup_append.mp this).1
    have hM : ∀ m ∈ Ms a, m ∈ Ms a ++ rest := fun m h => List.mem_append_left _ h
    refine ⟨a, I1, ha, h1p.start hM nd, by rw [List.append_nil, hA]; exact hv, fun T M' v I2 H2 hR e2 h2 hr => ?_⟩
    obtain ⟨k1, N', k2, k3⟩ := k T M' hR
    refine q T N' v I2 H2 k3 (e1.trans e2) (Holds.perm (M := M' ++ rest) ?_ k2.symm) hr
    refine h1p.back hM h2 (by rw [List.map_append, List.map_append, k1]) fun m hm => ?_
    rcases List.mem_append.mp hm with hm | hm
    · exact .inl hm
    · refine .inr ⟨List.mem_append_right _ hm, fun z => ?_⟩
      have nd2 := h1p.nd
      rw [List.map_append] at nd2
      exact (List.nodup_append.mp nd2).2.2 _ z _ (List.mem_map_of_mem hm) rfl
/-- .. the object is the first one -/
theorem ew_call1 {l : Addr} (h : AW ts O Γ M fun Ts M1 => ∃ a c rest, As a = Ts ∧ ok a ∧ Ms a = [(l, c)] ∧ M1 = (l, c) :: rest ∧ ∀ T M', R a T M' → ∃ c', M' = [(l, c')] ∧ N T ((l, c') :: rest)) :
    EW (tCall (spG ok Ms As R) [] E ts) O Γ M N := by
  refine ew_callF fun σ I H Q e h0 q => h σ I H Q e h0 fun Ts M1 vs I1 H1 ⟨a, c, rest, hA, ha, hm, hM, k⟩ e1 h1 hv => q Ts M1 vs I1 H1 ⟨a, rest, hA, ha, by rw [hm, hM]; exact List.Perm.refl _, fun T M' hR => ?_⟩ e1 h1 hv
  obtain ⟨c', rfl, n⟩ := k T M' hR
  exact ⟨by rw [hm]; rfl, _, List.Perm.refl _, n⟩
/-- a call that makes an object, ours from then on -/
theorem ew_callNew (a : α) (ha : ok a) (hM : Ms a = []) (h : EA ts Γ M (As a)) (k : ∀ T M', R a T M' → ∃ l c, M' = [(l, c)] ∧ (O.H0 l = none → N T ((l, c) :: M))) : EW (tCall (spG ok Ms As R) [] E ts) O Γ M N := fun σ I H Q e h0 q =>
  h O σ I H _ e h0 fun vs I1 H1 e1 h1 hv => by
    refine ⟨a, I1, ha, by rw [hM]; exact h1.start (M' := []) (fun _ h => nomatch h) .nil, by rw [List.append_nil]; exact hv, fun T M' v I2 H2 hR e2 h2 hr => ?_⟩
    obtain ⟨l, c, rfl, n⟩ := k T M' hR
    rw [hM] at h2
    obtain ⟨g1, g2, o, g3, g4⟩ := h2.at_ _ List.mem_cons_self
    have hl : H1 l = none := by
      rcases g2 with g2 | g2
      · cases g2
      · exact g2
    have hz : O.H0 l = none := by
      cases z : O.H0 l with
      | none => rfl
      | some u => exact absurd hl (h1.there l (some_ne z))
    have hb : Holds O I2 H2 M := h1.back_ (M' := []) (fun _ h => nomatch h) (h2.less (List.nil_sublist _))
    refine q T _ v I2 H2 (n hz) (e1.trans e2) ⟨hb.ex, ?_, fun m hm => ?_, hb.from_, hb.keep, hb.new, hb.there⟩ hr
    · rw [List.map_cons]
      refine List.nodup_cons.mpr ⟨fun z => ?_, hb.nd⟩
      obtain ⟨m, hm, e⟩ := List.mem_map.mp z
      obtain ⟨_, _, u, q, _⟩ := h1.at_ m hm
      rw [e, hl] at q
      cases q
    · rcases List.mem_cons.mp hm with rfl | hm
      · exact ⟨g1, .inr hz, o, g3, g4⟩
      · exact hb.at_ m hm
end
end Tw
end
/-! W21 -/
section
set_option Elab.async false
set_option linter.all false
set_option autoImplicit false
set_option maxRecDepth 100000
set_option maxHeartbeats 4000000
/-! The walk: the pen. -/
namespace Tw
open PySem PySem.Spec PyProof.Rows L2
open Evl (Ex ex_l ex_t ex_rd)
section
variable {P : Program} {w : World} {K : PySem.W.Frag} {mg : PySem.Str → Option Value} {base : Heap}
def sp_L_spread (K : PySem.W.Frag) : Sp := spP (fun a : Int × Nat => a.2 < 100000000) (fun a => [DT K (.int a.1), DT K (dn a.2)]) (fun _ => XT (fun _ : Int => True) fun i => DT K (.int i))
def primes : List Int := [2147483629, 2147483587, 2147483579, 2147483563, 2147483549, 2147483543, 2147483497, 2147483489, 2147483477, 2147483423, 2147483399, 2147483353, 2147483323]
theorem primes_at (i : Int) : ∃ v : Int, L2.atI (primes.map PyData.int) (i % 13) = some (.int v) ∧ 0 < v ∧ v < 2 ^ 31 := by
  have h0 : 0 ≤ i % 13 := Int.emod_nonneg _ (by decide)
  have h1 : i % 13 < 13 := Int.emod_lt_of_pos _ (by decide)
  obtain ⟨k, hk⟩ : ∃ k : Nat, i % 13 = (k : Int) := ⟨(i % 13).toNat, (Int.toNat_of_nonneg h0).symm⟩
  rw [hk]
  have hk13 : k < primes.length := by show k < 13; omega
  have all : ∀ v ∈ primes, 0 < v ∧ v < 2 ^ 31 := by decide
  have := all _ (List.getElem_mem hk13)
  exact ⟨primes[k], atI_nat (by rw [List.getElem?_map, List.getElem?_eq_getElem hk13]; rfl), this.1, this.2⟩
theorem emod_bounds (i : Int) {j : Int} (hj : 0 < j) : 0 ≤ i % j ∧ i % j < j := ⟨Int.emod_nonneg _ (by omega), Int.emod_lt_of_pos _ hj⟩
theorem rx_modI {M : Mem} {i j : Int} (hj : 0 < j) : RX (rI (fun _ j => 0 < j) fun i j => .int (i % j)) M (DT K (.int i)) (DT K (.int j)) (DT K (.int (i % j))) := rx_I (K := K) hj
theorem rx_powI {M : Mem} {i j : Int} (hj : CPow i j) : RX (rI CPow fun i j => .int (i ^ j.toNat)) M (DT K (.int i)) (DT K (.int j)) (DT K (.int (i ^ j.toNat))) := rx_I (K := K) (g := fun i j => i ^ j.toNat) hj
theorem ok_L_spread (T : Tx K mg) : FnOk P w K mg base CX0 1 aL_spread (fdAt K aL_spread) P_L_spread (sp_L_spread K) := by
  refine fn_ok T.d_L_spread sc_L_spread (fun _ => rfl) fun cdv A outer s H E hr => ⟨_, (pss_cons (ps_if (pt_cmpR op_ge (pv 0) (pe_op op_pow (pe_int) (pe_int)) (nomark _)) (pss_one (ps_ret (pv 0))) pss_nil) (pss_cons (ps_set (i := 2) sc_L_spread.nd rfl (by first | exact Or.inl rfl | exact Or.inr rfl) (pe_lst (pa_cons (pe_int) (pa_cons (pe_int) (pa_cons (pe_int) (pa_cons (pe_int) (pa_cons (pe_int) (pa_cons (pe_int) (pa_cons (pe_int) (pa_cons (pe_int) pa_nil)))))))))) (pss_cons (ps_set (i := 2) sc_L_spread.nd rfl (by first | exact Or.inl rfl | exact Or.inr rfl) (pe_op (addK (K := K) rfl) (pv 2) (pe_lst (pa_cons (pe_int) (pa_cons (pe_int) (pa_cons (pe_int) (pa_cons (pe_int) (pa_cons (pe_int) pa_nil)))))))) (pss_cons (ps_set (i := 3) sc_L_spread.nd rfl (by first | exact Or.inl rfl | exact Or.inr rfl) (pe_op (mulK (K := K) rfl) (pe_op op_mod (pe_callTy call_int1' rfl T.f_int bt_int (pa_cons (pv 0) pa_nil)) (pe_int)) (pe_op (addK (K := K) rfl) (pe_op (mulK (K := K) rfl) (pe_int) (pv 1)) (pe_int)))) (pss_cons (ps_set (i := 3) sc_L_spread.nd rfl (by first | exact Or.inl rfl | exact Or.inr rfl) (pe_op op_mod (pe_callTy call_int1' rfl T.f_int bt_int (pa_cons (pe_op op_pow (pe_op (addK (K := K) rfl) (pe_op (addK (K := K) rfl) (pv 3) (pe_op (mulK (K := K) rfl) (pv 1) (pe_int))) (pe_int)) (pe_int)) pa_nil)) (pe_ix (ixK (P := P) (w := w) (K := K) rfl rfl rfl (hu10 hr)) (pv 2) (pe_op op_mod (pe_callTy call_int1' rfl T.f_int bt_int (pa_cons (pv 1) pa_nil)) (pe_int)) (fun _ _ => rfl)))) (pss_cons (ps_set (i := 4) sc_L_spread.nd rfl (by first | exact Or.inl rfl | exact Or.inr rfl) (pe_op op_mod (pe_callTy call_int1' rfl T.f_int bt_int (pa_cons (pe_op op_pow (pe_op (addK (K := K) rfl) (pe_op (addK (K := K) rfl) (pe_op (mulK (K := K) rfl) (pv 3) (pe_op (addK (K := K) rfl) (pv 1) (pe_int))) (pe_op op_mod (pe_callTy call_int1' rfl T.f_int bt_int (pa_cons (pv 0) pa_nil)) (pe_int))) (pe_int)) (pe_int)) pa_nil)) (pe_ix (ixK (P := P) (w := w) (K := K) rfl rfl rfl (hu10 hr)) (pv 2) (pe_op op_mod (pe_callTy call_int1' rfl T.f_int bt_int (pa_cons (pe_op (addK (K := K) rfl) (pv 1) (pe_int)) pa_nil)) (pe_int)) (fun _ _ => rfl)))) (pss_cons (ps_set (i := 5) sc_L_spread.nd rfl (by first | exact Or.inl rfl | exact Or.inr rfl) (pe_op op_mod (pe_callTy call_int1' rfl T.f_int bt_int (pa_cons (pe_op op_pow (pe_op (addK (K := K) rfl) (pe_op (addK (K := K) rfl) (pv 4) (pe_op op_mod (pe_callTy call_int1' rfl T.f_int bt_int (pa_cons (pv 3) pa_nil)) (pe_int))) (pv 1)) (pe_int)) pa_nil)) (pe_ix (ixK (P := P) (w := w) (K := K) rfl rfl rfl (hu10 hr)) (pv 2) (pe_op op_mod (pe_callTy call_int1' rfl T.f_int bt_int (pa_cons (pe_op (addK (K := K) rfl) (pv 1) (pe_int)) pa_nil)) (pe_int)) (fun _ _ => rfl)))) (pss_one (ps_ret (pe_op (addK (K := K) rfl) (pe_op (mulK (K := K) rfl) (pe_op (addK (K := K) rfl) (pe_op (mulK (K := K) rfl) (pv 3) (pe_int)) (pv 4)) (pe_int)) (pv 5))))))))))), ?_⟩
  rintro ⟨c, a⟩ O ha hO
  have ha : a < 100000000 := ha
  refine st_seq (st_if (b := decide (((10 : Int) ^ (18 : Int).toNat) ≤ c)) (bt_test (et_op (et_var rfl) (et_op (et_int (K := K)) (et_int (K := K)) (rx_powI ⟨by decide, by decide, by decide⟩)) rx_B0)) (fun _ => st_ret (ew_of (et_var rfl) (rt_P (sub_x (F := fun i => DT K (.int i)) c trivial)))) fun _ => st_next ?_)
  have ei : ∀ {Γ : TEnv} {M : Mem} {ds : List PyData} {i : Int} {ts : TA}, EAD K ts Γ M ds → EAD K (tCons (tC (.int i)) ts) Γ M (.int i :: ds) := fun h => ead_cons (et_int (K := K)) h
  refine st_seq (st_set (ew_of (et_lstD (K := K) (ei (ei (ei (ei (ei (ei (ei (ei ead_nil)))))))) (by show 8 ≤ sizeLine; decide)) ?_))
  refine st_seq (st_set (ew_of (T := DT K (.list (primes.map PyData.int))) (et_eq (et_op (et_var rfl) (et_lstD (K := K) (ei (ei (ei (ei (ei ead_nil))))) (by show 5 ≤ sizeLine; decide)) (rx_addLD (by show 8 + 5 ≤ sizeLine; decide))) rfl) ?_))
  obtain ⟨m0, m1⟩ := emod_bounds c (j := 1000000007) (by decide)
  refine st_seq (st_set (ew_of (et_op (et_op (et_cb (ea_cons (et_var rfl) ea_nil) cx_int) (et_int (K := K)) (rx_modI (by decide))) (et_op (et_op (et_int (K := K)) (et_var rfl) (rx_mulI (.inl ⟨by decide, by decide⟩))) (et_int (K := K)) rx_addI) (rx_mulI (.inl ⟨by omega, by omega⟩))) ?_))
  generalize ho : c % 1000000007 * (2 * (a : Int) + 69069) = o1
  have ho1 : 0 ≤ o1 ∧ o1 < 201000000000000000 * 2 := by
    have h1 : 0 ≤ 2 * (a : Int) + 69069 := by omega
    have h2 : 2 * (a : Int) + 69069 ≤ 200069069 := by omega
    have h3 : c % 1000000007 * (2 * (a : Int) + 69069) ≤ 1000000007 * 200069069 := Int.mul_le_mul (by omega) h2 h1 (by decide)
    have h4 : 0 ≤ c % 1000000007 * (2 * (a : Int) + 69069) := Int.mul_nonneg m0 h1
    omega
  obtain ⟨p1, q1, r1, s1⟩ := primes_at (a : Int)
  obtain ⟨p2, q2, r2, s2⟩ := primes_at ((a : Int) + 5)
  obtain ⟨p3, q3, r3, s3⟩ := primes_at ((a : Int) + 7)
  refine st_seq (st_set (ew_of (et_op (et_cb (ea_cons (et_op (et_op (et_op (et_var rfl) (et_op (et_var rfl) (et_int (K := K)) (rx_mulI (.inr ⟨by decide, by decide⟩))) rx_addI) (et_int (K := K)) rx_addI) (et_int (K := K)) (rx_powI ⟨by decide, by decide, by omega⟩)) ea_nil) cx_int) (et_op (et_var rfl) (et_op (et_cb (ea_cons (et_var rfl) ea_nil) cx_int) (et_int (K := K)) (rx_modI (by decide))) (rx_ixLD q1)) (rx_modI r1)) ?_))
  generalize ho2 : _ % p1 = o2
  have hb2 : 0 ≤ o2 ∧ o2 < p1 := ho2 ▸ emod_bounds _ r1
  obtain ⟨n0, n1⟩ := emod_bounds c (j := 65537) (by decide)
  have hm2 : 0 ≤ o2 * ((a : Int) + 3) ∧ o2 * ((a : Int) + 3) ≤ 2147483648 * 100000003 := ⟨Int.mul_nonneg hb2.1 (by omega), Int.mul_le_mul (by omega) (by omega) (by omega) (by decide)⟩
  have hcp : CPow (o2 * ((a : Int) + 3) + c % 65537 + 5) 5 := ⟨by decide, by decide, by omega⟩
  refine st_seq (st_set (ew_of (et_op (et_cb (ea_cons (et_op (et_op (et_op (et_op (et_var rfl) (et_op (et_var rfl) (et_int (K := K)) rx_addI) (rx_mulI (.inl ⟨by omega, by omega⟩))) (et_op (et_cb (ea_cons (et_var rfl) ea_nil) cx_int) (et_int (K := K)) (rx_modI (by decide))) rx_addI) (et_int (K := K)) rx_addI) (et_int (K := K)) (rx_powI hcp)) ea_nil) cx_int) (et_op (et_var rfl) (et_op (et_cb (ea_cons (et_op (et_var rfl) (et_int (K := K)) rx_addI) ea_nil) cx_int) (et_int (K := K)) (rx_modI (by decide))) (rx_ixLD q2)) (rx_modI r2)) ?_))
  generalize ho3 : _ % p2 = o3
  have hb3 : 0 ≤ o3 ∧ o3 < p2 := ho3 ▸ emod_bounds _ r2
  obtain ⟨k0, k1⟩ := emod_bounds o2 (j := 1009) (by decide)
  refine st_seq (st_set (ew_of (et_op (et_cb (ea_cons (et_op (et_op (et_op (et_var rfl) (et_op (et_cb (ea_cons (et_var rfl) ea_nil) cx_int) (et_int (K := K)) (rx_modI (by decide))) rx_addI) (et_var rfl) rx_addI) (et_int (K := K)) (rx_powI ⟨by decide, by decide, by omega⟩)) ea_nil) cx_int) (et_op (et_var rfl) (et_op (et_cb (ea_cons (et_op (et_var rfl) (et_int (K := K)) rx_addI) ea_nil) cx_int) (et_int (K := K)) (rx_modI (by decide))) (rx_ixLD q3)) (rx_modI r3)) ?_))
  refine st_ret (ew_of (et_op (et_op (et_op (et_op (et_var rfl) (et_int (K := K)) (rx_mulI (.inr ⟨by decide, by decide⟩))) (et_var rfl) rx_addI) (et_int (K := K)) (rx_mulI (.inr ⟨by decide, by decide⟩))) (et_var rfl) rx_addI) (rt_P ?_))
  exact sub_x (F := fun i => DT K (.int i)) _ trivial
/-! the pen: its cells, its place, the rest -/
structure Pen where
  cs : List Int
  pos : Nat
  rest : Int
abbrev penL (K : PySem.W.Frag) (p : Pen) : List Ty := [DT K (.list (p.cs.map PyData.int)), DT K (dn p.pos), DT K (.int p.rest)]
abbrev penC (K : PySem.W.Frag) (p : Pen) : Cell := lstC (penL K p)
/-- at most c places on -/
abbrev Pen.On (p p' : Pen) (c : Nat) : Prop := p'.pos ≤ p.pos + c
abbrev posM : Nat := 100000000
structure TakA where
  l : Addr
  p : Pen
  many : Nat
def sp_L_take (K : PySem.W.Frag) : Sp := spG (fun a : TakA => 1 ≤ a.many ∧ a.many < 1073741824 ∧ a.p.pos < posM) (fun a => [(a.l, penC K a.p)]) (fun a => [VT (.ref a.l), DT K (dn a.many)])
  (fun a T M => ∃ (i : Nat) (p' : Pen), i < a.many ∧ a.p.On p' 1 ∧ T = DT K (dn i) ∧ M = [(a.l, penC K p')])
theorem et_pen {Γ : TEnv} {M : Mem} {i j : Nat} {l : Addr} {Ts : List Ty} {m : Int} {T : Ty} (hi : Γ[i]? = some (some (VT (.ref l)))) (hm : M[j]? = some (l, lstC Ts)) (hd : L2.atI Ts m = some T) : ET (tOp (rIxA P w K) (tVar i) (tC (.int m))) Γ M T := et_op (et_var hi) (et_int (K := K)) (rx_ixO hm hd)
theorem ok_L_take (T : Tx K mg) : FnOk P w K mg base CX0 2 aL_take (fdAt K aL_take) P_L_take (sp_L_take K) := by
  refine fn_ok T.d_L_take sc_L_take (fun _ => rfl) fun cdv A outer s H E hr => ⟨_, (pss_cons (ps_if (pt_cmpR op_lt (pe_ix (ixK (P := P) (w := w) (K := K) rfl rfl rfl (hu10 hr)) (pv 0) (pe_int) (fun _ _ => rfl)) (pv 1) (nomark _)) (pss_cons (ps_set (i := 2) sc_L_take.nd rfl (by first | exact Or.inl rfl | exact Or.inr rfl) (pe_ix (ixK (P := P) (w := w) (K := K) rfl rfl rfl (hu10 hr)) (pv 0) (pe_int) (fun _ _ => rfl))) (pss_cons (ps_set (i := 3) sc_L_take.nd rfl (by first | exact Or.inl rfl | exact Or.inr rfl) (pe_int)) (pss_cons (ps_if (pt_cmpR op_lt (pv 2) (pe_callB (lenK (K := K) rfl) rfl T.f_len bt_len (pa_cons (pe_ix (ixK (P := P) (w := w) (K := K) rfl rfl rfl (hu10 hr)) (pv 0) (pe_int) (fun _ _ => rfl)) pa_nil)) (nomark _)) (pss_one (ps_set (i := 3) sc_L_take.nd rfl (by first | exact Or.inl rfl | exact Or.inr rfl) (pe_ix (ixK (P := P) (w := w) (K := K) rfl rfl rfl (hu10 hr)) (pe_ix (ixK (P := P) (w := w) (K := K) rfl rfl rfl (hu10 hr)) (pv 0) (pe_int) (fun _ _ => rfl)) (pv 2) (fun _ _ => rfl)))) (pss_one (ps_if (pt_cmpR op_gt (pe_callB (lenK (K := K) rfl) rfl T.f_len bt_len (pa_cons (pe_ix (ixK (P := P) (w := w) (K := K) rfl rfl rfl (hu10 hr)) (pv 0) (pe_int) (fun _ _ => rfl)) pa_nil)) (pe_int) (nomark _)) (pss_one (ps_set (i := 3) sc_L_take.nd rfl (by first | exact Or.inl rfl | exact Or.inr rfl) (pe_op op_mod (pe_callTy call_int1' rfl T.f_int bt_int (pa_cons (pe_ix (ixK (P := P) (w := w) (K := K) rfl rfl rfl (hu10 hr)) (pe_ix (ixK (P := P) (w := w) (K := K) rfl rfl rfl (hu10 hr)) (pv 0) (pe_int) (fun _ _ => rfl)) (pe_op op_mod (pe_callTy call_int1' rfl T.f_int bt_int (pa_cons (pe_op (addK (K := K) rfl) (pe_op (mulK (K := K) rfl) (pv 2) (pe_int)) (pe_int)) pa_nil)) (pe_callB (lenK (K := K) rfl) rfl T.f_len bt_len (pa_cons (pe_ix (ixK (P := P) (w := w) (K := K) rfl rfl rfl (hu10 hr)) (pv 0) (pe_int) (fun _ _ => rfl)) pa_nil))) (fun _ _ => rfl)) pa_nil)) (pe_op (addK (K := K) rfl) (pe_op op_pow (pe_int) (pe_int)) (pv 2))))) pss_nil))) (pss_cons (ps_asg (pe_op (addK (K := K) rfl) (pv 2) (pe_int)) (pg_sub (pv 0) (pe_int) (set_list))) (pss_one (ps_asg (pe_call (ok_L_spread (P := P) (w := w) T) (hr.mono (by omega)) rfl T.g_L_spread T.d_L_spread.kp T.b_L_spread .nil pass0 (pa_cons (pv 3) (pa_cons (pv 2) pa_nil))) (pg_sub (pv 0) (pe_int) (set_list)))))))) pss_nil) (pss_cons (ps_set (i := 4) sc_L_take.nd rfl (by first | exact Or.inl rfl | exact Or.inr rfl) (pe_op op_mod (pe_callTy call_int1' rfl T.f_int bt_int (pa_cons (pe_ix (ixK (P := P) (w := w) (K := K) rfl rfl rfl (hu10 hr)) (pv 0) (pe_int) (fun _ _ => rfl)) pa_nil)) (pv 1))) (pss_cons (ps_asg (pe_op op_fdiv (pe_ix (ixK (P := P) (w := w) (K := K) rfl rfl rfl (hu10 hr)) (pv 0) (pe_int) (fun _ _ => rfl)) (pv 1)) (pg_sub (pv 0) (pe_int) (set_list))) (pss_one (ps_ret (pv 4)))))), ?_⟩
  rintro ⟨l, ⟨cs, pos, rest⟩, many⟩ O ⟨h1, h2, h3⟩ hO
  have h1 : 1 ≤ many := h1
  have h2 : many < 1073741824 := h2
  have h3 : pos < 100000000 := h3
  refine st_cut (fun Γ M => ∃ (p' : Pen) (o2 o3 : Option Ty), p'.pos ≤ pos + 1 ∧ Γ = [some (VT (.ref l)), some (DT K (dn many)), o2, o3, none] ∧ M = [(l, penC K p')]) ?_ ?_
  · refine st_if (b := decide (rest < (many : Int))) (bt_test (et_op (et_pen (j := 0) rfl rfl rfl) (et_var rfl) rx_B0)) (fun _ => ?_) fun _ => st_next ⟨⟨cs, pos, rest⟩, none, none, Nat.le_succ _, rfl, rfl⟩
    refine st_seq (st_set (ew_of (et_pen (j := 0) rfl rfl rfl) ?_))
    refine st_seq (st_set (ew_of (et_int (K := K)) ?_))
    refine st_cut (fun Γ M => ∃ c : Int, Γ = [some (VT (.ref l)), some (DT K (dn many)), some (DT K (dn pos)), some (DT K (.int c)), none] ∧ M = [(l, penC K ⟨cs, pos, rest⟩)]) ?_ ?_
    · refine st_if (b := decide ((pos : Int) < (cs.length : Nat))) (bt_eq (bt_test (et_op (et_var rfl) (et_cb (ea_cons (et_pen (j := 0) rfl rfl rfl) ea_nil) cx_lenLD) rx_B0)) (by rw [List.length_map])) (fun hc => ?_) fun hc => ?_
      · have hc := Int.ofNat_lt.mp (of_decide_eq_true hc)
        exact st_set (ew_of (et_op (et_pen (j := 0) rfl rfl rfl) (et_var rfl) (rx_ixLD (d := .int (cs[pos])) (atI_nat (by rw [List.getElem?_map, List.getElem?_eq_getElem hc]; rfl)))) ⟨_, rfl, rfl⟩)
      · refine st_if (b := decide ((0 : Int) < (cs.length : Nat))) (bt_eq (bt_test (et_op (et_cb (ea_cons (et_pen (j := 0) rfl rfl rfl) ea_nil) cx_lenLD) (et_int (K := K)) rx_B0)) (by rw [List.length_map])) (fun hc => ?_) fun hc => st_next ⟨_, rfl, rfl⟩
        have hc : 0 < (cs.length : Int) := of_decide_eq_true hc
        obtain ⟨b0, b1⟩ := emod_bounds ((pos : Int) * 5 + 3) hc
        obtain ⟨k, hk⟩ : ∃ k : Nat, ((pos : Int) * 5 + 3) % (cs.length : Int) = (k : Int) := ⟨_, (Int.toNat_of_nonneg b0).symm⟩
        have hkl : k < cs.length := by omega
        refine st_set (ew_of (et_op (et_cb (ea_cons (et_op (et_pen (j := 0) rfl rfl rfl) (et_op (et_cb (ea_cons (et_op (et_op (et_var rfl) (et_int (K := K)) (rx_mulI (.inr ⟨by decide, by decide⟩))) (et_int (K := K)) rx_addI) ea_nil) cx_int) (et_eq (et_cb (ea_cons (et_pen (j := 0) rfl rfl rfl) ea_nil) cx_lenLD) (T := DT K (dn cs.length)) (by rw [List.length_map])) (rx_modI hc)) (rx_ixLD (d := .int (cs[k])) ?_)) ea_nil) cx_int) (et_op (et_op (et_int (K := K)) (et_int (K := K)) (rx_powI ⟨by decide, by decide, by decide⟩)) (et_var rfl) rx_addI) (rx_modI (by show (0 : Int) < 10 ^ 17 + (pos : Int); omega))) ⟨_, rfl, rfl⟩)
        rw [hk]
        exact atI_nat (by rw [List.getElem?_map, List.getElem?_eq_getElem hkl]; rfl)
    · rintro _ _ ⟨c, rfl, rfl⟩
      refine st_seq (st_setL (ew_of (T := DT K (dn (pos + 1))) (et_op (et_var rfl) (et_int (K := K)) rx_addI) ⟨0, l, _, 1, 1, rfl, et_var rfl, et_int (K := K), rfl, ?_⟩))
      refine st_setL (ew_x (p := fun _ : Int => True) (F := fun i => DT K (.int i)) (et_call (ok := fun a : Int × Nat => a.2 < 100000000) (c, pos) h3 (ea_cons (et_var rfl) (ea_cons (et_var rfl) ea_nil))) fun i _ => ⟨0, l, _, 2, 2, rfl, et_var rfl, et_int (K := K), rfl, ?_⟩)
      exact ⟨⟨cs, pos + 1, i⟩, _, _, Nat.le_refl _, rfl, rfl⟩
  · rintro _ _ ⟨⟨cs', pos', rest'⟩, o2, o3, hp, rfl, rfl⟩
    have hm : (0 : Int) < (many : Int) := by omega
    obtain ⟨b0, b1⟩ := emod_bounds rest' hm
    have hi : (rest' % (many : Int)).toNat < many := by omega
    refine st_seq (st_set (ew_of (T := DT K (dn (rest' % (many : Int)).toNat)) (et_eq (et_op (et_cb (ea_cons (et_pen (j := 0) rfl rfl rfl) ea_nil) cx_int) (et_var rfl) (rx_modI hm)) (congrArg (fun z => DT K (.int z)) (Int.toNat_of_nonneg b0).symm)) ?_))
    refine st_seq (st_setL (ew_of (et_op (et_pen (j := 0) rfl rfl rfl) (et_var rfl) (rx_I (K := K) (g := fun i j => i / j) ⟨hm, by omega⟩)) ⟨0, l, _, 2, 2, rfl, et_var rfl, et_int (K := K), rfl, ?_⟩))
    exact st_ret (ew_of (et_var rfl) ⟨_, _, ⟨(rest' % (many : Int)).toNat, ⟨cs', pos', rest' / (many : Int)⟩, hi, hp, rfl, rfl⟩, Sub.refl _, List.Sublist.refl _⟩)
end
end Tw
end
/-! W22 -/
section
set_option Elab.async false
set_option linter.all false
set_option autoImplicit false
set_option maxRecDepth 100000
set_option maxHeartbeats 4000000
/-! The walk: the pen drawn from. -/
namespace Tw
open PySem PySem.Spec PyProof.Rows L2
open Evl (Ex ex_l ex_t ex_rd)
section
variable {K : PySem.W.Frag} {Γ : TEnv} {M : Mem} {O : Org} {D : Dest} {t u : TS} {te ta tb : TE} {ts : TA} {tt tu : TT} {N : Ty → Mem → Prop}
/-- tests with effects -/
def BW (tt : TT) (O : Org) (Γ : TEnv) (M : Mem) (N : Bool → Mem → Prop) : Prop := ∀ (σ : L2.St) (I H : Hp) (Q : Bool → Hp → Prop), EnvOk σ I Γ → Holds O I H M → (∀ b M' I' H', N b M' → Ex I I' → Holds O I' H' M' → Q b H') → tt σ H Q
theorem bw_test {N : Bool → Mem → Prop} (h : EW te O Γ M fun T M' => ∃ b, T = DT K (.bool b) ∧ N b M') : BW (tTest te) O Γ M N := fun σ I H Q e h0 q => h σ I H _ e h0 fun T M' v I1 H1 ⟨b, hT, n⟩ e1 h1 a => by
  subst hT
  exact ⟨b, dt_bl a, q b M' I1 H1 n e1 h1⟩
theorem bw_or {N : Bool → Mem → Prop} {a : Bool} (h : BT tt Γ M a) (k : a = true → N true M) (k2 : a = false → BW tu O Γ M N) : BW (tOr tt tu) O Γ M N := fun σ I H Q e h0 q => h O σ I H _ e h0 fun I1 H1 e1 h1 => by
  cases a with
  | true =>
    rw [if_pos rfl]
    exact q _ M I1 H1 (k rfl) e1 h1
  | false =>
    rw [if_neg Bool.false_ne_true]
    exact k2 rfl σ I1 H1 Q (e.mono e1) h1 fun b M' I2 H2 n e2 h2 => q b M' I2 H2 n (e1.trans e2) h2
theorem st_ifW (h : BW tt O Γ M fun b M' => (b = true → ST t O Γ M' D) ∧ (b = false → ST u O Γ M' D)) : ST (tIfS tt t u) O Γ M D := fun σ I H E e h0 q => h σ I H _ e h0 fun b M' I1 H1 n e1 h1 => by
  cases b with
  | true =>
    rw [if_pos rfl]
    exact n.1 rfl σ I1 H1 E (e.mono e1) h1 (q.mono e1)
  | false =>
    rw [if_neg Bool.false_ne_true]
    exact n.2 rfl σ I1 H1 E (e.mono e1) h1 (q.mono e1)
theorem perm_set {α : Type} : ∀ {l : List α} {j : Nat} {x y : α}, l[j]? = some x → l.Perm (x :: l.eraseIdx j) ∧ (l.set j y).Perm (y :: l.eraseIdx j)
  | [], _, _, _, h => nomatch h
  | a :: l, 0, x, y, h => by
    cases h
    exact ⟨List.Perm.refl _, List.Perm.refl _⟩
  | a :: l, j + 1, x, y, h => by
    have ih := perm_set (l := l) (j := j) (x := x) (y := y) h
    exact ⟨(ih.1.cons a).trans (List.Perm.swap _ _ _), (ih.2.cons a).trans (List.Perm.swap _ _ _)⟩
/-- one argument, with effects -/
theorem ew_aw1 {NN : List Ty → Mem → Prop} (h : EW te O Γ M fun T M' => NN [T] M') : AW (tCons te tNil) O Γ M NN := aw_cons (ew_imp h fun _ _ n => aw_nil n)
/-- a call that changes the object at place j -/
theorem ew_callJ {α : Type} {ok : α → Prop} {Ms : α → Mem} {As : α → List Ty} {R : α → Ty → Mem → Prop} {E : XK} (h : AW ts O Γ M fun Ts M1 => ∃ a j l c, As a = Ts ∧ ok a ∧ Ms a = [(l, c)] ∧ M1[j]? = some (l, c) ∧ ∀ T M', R a T M' → ∃ c', M' = [(l, c')] ∧ N T (M1.set j (l, c'))) :
    EW (tCall (spG ok Ms As R) [] E ts) O Γ M N := by
  refine ew_callF fun σ I H Q e h0 q => h σ I H Q e h0 fun Ts M1 vs I1 H1 ⟨a, j, l, c, hA, ha, hm, hj, k⟩ e1 h1 hv => q Ts M1 vs I1 H1 ⟨a, M1.eraseIdx j, hA, ha, by rw [hm]; exact (perm_set (y := (l, c)) hj).1, fun T M' hR => ?_⟩ e1 h1 hv
  obtain ⟨c', rfl, n⟩ := k T M' hR
  exact ⟨by rw [hm]; rfl, _, (perm_set hj).2, n⟩
theorem ew_listL {Ts : List Ty} (h : EA ts Γ M [LstT Ts]) (k : ∀ l, O.H0 l = none → N (VT (.ref l)) ((l, lstC Ts) :: M)) : EW (tCB (rListO K) ts) O Γ M N := fun σ I H Q e h0 q =>
  h O σ I H _ e h0 fun vs I1 H1 e1 h1 a => by
    cases a with
    | cons a t =>
      cases t
      obtain ⟨p, us, rfl, hp, hu⟩ := a
      refine ⟨p, us, rfl, .inl (SqL.of (h1.ex _ _ hp)), fun l hl => ?_⟩
      obtain ⟨z, h2⟩ := h1.own (o := .lst us) (lstC Ts) hl ⟨us, rfl, hu⟩
      exact q _ _ _ _ _ (k l z) e1 h2 rfl
/-- the script -/
def ScT (K : PySem.W.Frag) (xs : List Int) : Ty := ⟨fun I v => ∃ p, v = .ref p ∧ SqL K I p (xs.map V.int), fun e ⟨p, h1, h2⟩ => ⟨p, h1, ex_l e h2⟩⟩
theorem ints_ty {I : Hp} : ∀ xs : List Int, AllTy I ((xs.map PyData.int).map (DT K)) (xs.map V.int)
  | [] => .nil
  | x :: xs => .cons (.int x) (ints_ty xs)
theorem et_slSc {xs : List Int} {tl th : TO} {lo hi : Option Int} (h : ET te Γ M (ScT K xs)) (hl : OT tl Γ M lo) (hh : OT th Γ M hi) : ET (tSl (rSlN K) te tl th) Γ M (DT K (.list (cut (xs.map PyData.int) lo hi))) := by
  rw [← lt_dt, ← cut_map]
  exact fun O σ I H Q e h0 q =>
    h O σ I H _ e h0 fun v I1 H1 e1 h1 ⟨a, g1, g2⟩ => hl O σ I1 H1 _ (e.mono e1) h1 fun I2 H2 e2 h2 => hh O σ I2 H2 _ (e.mono (e1.trans e2)) h2 fun I3 H3 e3 h3 => by
      have g2 := ex_l (e2.trans e3) g2
      refine .inr ⟨a, xs.map V.int, g1, ex_l h3.ex g2, fun p hp => ?_⟩
      obtain ⟨e4, h4⟩ := h3.new_ (o := .lst (cutV (xs.map V.int) lo hi)) hp
      exact q _ _ _ (e1.trans (e2.trans (e3.trans e4))) h4 ⟨p, _, rfl, upd_same, (cut_ty (ints_ty xs) lo hi).mono e4⟩
/-- enumerate(a list) -/
theorem ix_EL {α : Type} {xs : List α} {g : α → PyData} (h : EA ts Γ M [DT K (.list (xs.map g))]) : IX (iEnum K ts) Γ M xs.zipIdx (fun p => TupT K [DT K (.int (p.2 : Nat)), DT K (g p.1)]) := fun O σ I H R e h0 q =>
  h O σ I H _ e h0 fun vs I1 H1 e1 h1 a => by
    cases a with
    | cons a t =>
      cases t
      obtain ⟨p, us, rfl, hp, hu⟩ := dt_lst a
      have at_ : ∀ (i : Nat) (b : α × Nat), xs.zipIdx[i]? = some b → b.2 = i ∧ ∃ v, us[i]? = some v ∧ (DT K (g b.1)).r I1 v := by
        intro i b hi
        rw [List.getElem?_zipIdx] at hi
        cases hx : xs[i]? with
        | none =>
          rw [hx] at hi
          cases hi
        | some y =>
          rw [hx] at hi
          cases hi
          refine ⟨Nat.zero_add _, ?_⟩
          have := hu.get (i := i) (T := DT K (g y)) (by rw [List.getElem?_map, List.getElem?_map, hx]; rfl)
          exact this
      refine ⟨p, us, rfl, SqL.of (h1.ex _ _ hp), q _ I1 H1 e1 h1 ⟨?_, ?_, ?_⟩⟩
      · intro i b I H hi ea eb
        obtain ⟨_, v, hv, _⟩ := at_ i b hi
        exact ⟨us, v, SqL.of (eb _ _ (ea _ _ hp)), hv⟩
      · rintro i ⟨b1, b2⟩ I H x H' hi ea eb ⟨T, y, rfl, hT, rfl, hy⟩
        obtain ⟨rfl, v, hv, r⟩ := at_ i _ hi
        have := hy us (SqL.of (eb _ _ (ea _ _ hp)))
        rw [hv] at this
        cases this
        have hn : I T = none := ex_none eb hT
        exact .inr ⟨T, _, hT, rfl, T, _, rfl, SqT.of upd_same, .cons (.int _) (.cons (Ty.mono _ (ea.trans (ex_new hn)) r) .nil)⟩
      · intro I H ea eb
        refine ⟨us, SqL.of (eb _ _ (ea _ _ hp)), ?_⟩
        rw [List.length_zipIdx, ← hu.length, List.length_map, List.length_map]
        exact Nat.le_refl _
end
section
variable {P : Program} {w : World} {K : PySem.W.Frag} {mg : PySem.Str → Option Value} {base : Heap}
def sp_L_open (K : PySem.W.Frag) : Sp := spG (fun _ : List Int => True) (fun _ => []) (fun xs => [ScT K xs]) (fun _ T M => ∃ (l : Addr) (p : Pen), p.pos = 0 ∧ T = VT (.ref l) ∧ M = [(l, penC K p)])
theorem ok_L_open (T : Tx K mg) : FnOk P w K mg base CX0 1 aL_open (fdAt K aL_open) P_L_open (sp_L_open K) := by
  refine fn_ok T.d_L_open sc_L_open (fun _ => rfl) fun cdv A outer s H E hr => ⟨_, (pss_cons (ps_set (i := 1) sc_L_open.nd rfl (by first | exact Or.inl rfl | exact Or.inr rfl) (pe_callTy (listK (K := K) rfl) rfl T.f_list bt_list (pa_cons (pe_slice (slK (K := K) rfl) (pv 0) po_none (po_some (pe_int))) pa_nil))) (pss_cons (ps_for PassesOwn.never rfl (pi_enum rfl T.f_enumerate (pa_cons (pe_slice (slK (K := K) rfl) (pv 0) (po_some (pe_int)) (po_some (pe_int))) pa_nil)) (tupK (K := K) (n := 2) rfl rfl (pgs_cons (pg_name (i := 2) sc_L_open.nd rfl (by first | exact Or.inl rfl | exact Or.inr rfl)) (pgs_cons (pg_name (i := 3) sc_L_open.nd rfl (by first | exact Or.inl rfl | exact Or.inr rfl)) pgs_nil))) (pss_one (ps_asg (pe_op (addK (K := K) rfl) (pe_ix (ixK (P := P) (w := w) (K := K) rfl rfl rfl (hu10 hr)) (pv 1) (pe_op op_mod (pe_callTy call_int1' rfl T.f_int bt_int (pa_cons (pv 2) pa_nil)) (pe_int)) (fun _ _ => rfl)) (pv 3)) (pg_sub (pv 1) (pe_op op_mod (pe_callTy call_int1' rfl T.f_int bt_int (pa_cons (pv 2) pa_nil)) (pe_int)) (set_list))))) (pss_one (ps_ret (pe_lst (pa_cons (pv 1) (pa_cons (pe_int) (pa_cons (pe_int) pa_nil)))))))), ?_⟩
  rintro xs O - hO
  have c1 : cut (xs.map PyData.int) none (some 12) = (xs.take 12).map PyData.int := by
    rw [show (12 : Int) = ((12 : Nat) : Int) from rfl, cut_to, List.map_take]
  have c2 : cut (xs.map PyData.int) (some 12) (some 63) = (cut xs (some 12) (some 63)).map PyData.int := cut_map _ _ _ _
  have c3 : cut xs (some 12) (some 63) ≠ [] → 12 ≤ xs.length := fun h => by
    apply Classical.byContradiction
    intro c
    apply h
    unfold cut
    rw [show (12 : Int) = ((12 : Nat) : Int) from rfl, HT.sIx_nat, Nat.min_eq_right (by omega), List.drop_length, List.take_nil]
  let ms := cut xs (some 12) (some 63)
  have hc : (xs.take 12).length ≤ 12 := List.length_take_le _ _
  refine st_seq (st_set (ew_listL (Ts := ((xs.take 12).map PyData.int).map (DT K)) (ea_cons (et_eq (et_slSc (et_var rfl) ot_no ot_c) (by rw [c1, lt_dt])) ea_nil) fun l hz => ?_))
  refine st_seq (st_for (xs := ms.zipIdx) (gT := fun p => TupT K [DT K (dn p.2), DT K (.int p.1)]) (ws := fun p => [(2, DT K (dn p.2)), (3, DT K (.int p.1))])
    (fun _ Γ M => ∃ (cs : List Int) (o2 o3 : Option Ty), cs.length = (xs.take 12).length ∧ Γ = [some (ScT K xs), some (VT (.ref l)), o2, o3] ∧ M = [(l, lstC ((cs.map PyData.int).map (DT K)))])
    (ix_EL (g := PyData.int) (ea_cons (et_eq (et_slSc (et_var rfl) ot_c ot_c) (congrArg (fun l => DT K (.list l)) c2)) ea_nil)) (fun u _ => gt_tup (gts_cons gt_name (gts_cons gt_name gts_nil)) rfl) ⟨_, none, none, rfl, rfl, rfl⟩ ?_ ?_)
  · rintro i ⟨c, m⟩ _ _ hi ⟨cs, o2, o3, hcs, rfl, rfl⟩
    have hne : ms ≠ [] := fun e => by
      rw [e] at hi
      cases hi
    have h12 := c3 hne
    have hl12 : cs.length = 12 := by rw [hcs, List.length_take]; omega
    obtain ⟨b0, b1⟩ := emod_bounds (m : Int) (j := 12) (by decide)
    obtain ⟨k, hk⟩ : ∃ k : Nat, (m : Int) % 12 = (k : Int) := ⟨_, (Int.toNat_of_nonneg b0).symm⟩
    have hk12 : k < cs.length := by omega
    have hix : ∀ {Γ : TEnv} {M : Mem}, Γ[2]? = some (some (DT K (dn m))) → ET (tOp (rI (fun _ j => 0 < j) fun i j => .int (i % j)) (tCB rInt1 (tCons (tVar 2) tNil)) (tC (.int 12))) Γ M (DT K (dn k)) := fun h => by
      show ET _ _ _ (DT K (.int (k : Int)))
      rw [← hk]
      exact et_op (et_cb (ea_cons (et_var h) ea_nil) cx_int) (et_int (K := K)) (rx_modI (by decide))
    refine st_setL (ew_of (T := DT K (.int (cs[k] + c))) (et_op (et_own (j := 0) (d := .int cs[k]) rfl rfl (by rw [List.getElem?_map, List.getElem?_eq_getElem hk12]; rfl) (hix rfl)) (et_var rfl) rx_addI) ⟨0, l, _, (k : Int), k, rfl, et_var rfl, hix rfl, ixN_nat (by rw [List.length_map, List.length_map]; exact hk12), ?_⟩)
    refine ⟨cs.set k (cs[k] + c), _, _, by rw [List.length_set]; exact hcs, rfl, ?_⟩
    show [(l, lstC (((cs.map PyData.int).map (DT K)).set k (DT K (.int (cs[k] + c)))))] = _
    rw [List.map_set, List.map_set]
  · rintro _ _ ⟨cs, o2, o3, hcs, rfl, rfl⟩
    refine st_freeze (i := 1) (j := 0) rfl rfl hz (st_ret (ew_lst (aw_of (ea_cons (et_eq (et_var rfl) (lt_dt (cs.map PyData.int))) (ea_cons (et_int (K := K)) (ea_cons (et_int (K := K)) ea_nil))) ⟨by show 3 ≤ sizeLine; decide, fun l' hz' => ?_⟩)))
    exact ⟨_, _, ⟨l', ⟨cs, 0, 0⟩, rfl, rfl, rfl⟩, Sub.refl _, List.Sublist.refl _⟩
/-! ### drawn -/
theorem ew_take {Γ : TEnv} {M : Mem} {O : Org} {ts : TA} {E : XK} {N : Ty → Mem → Prop} {j many : Nat} {l : Addr} {p : Pen} (h : EA ts Γ M [VT (.ref l), DT K (dn many)]) (hm : M[j]? = some (l, penC K p)) (h1 : 1 ≤ many) (h2 : many < 1073741824) (hp : p.pos < posM)
    (k : ∀ (i : Nat) (p' : Pen), i < many → p.On p' 1 → N (DT K (dn i)) (M.set j (l, penC K p'))) : EW (tCall (sp_L_take K) [] E ts) O Γ M N :=
  ew_callJ (aw_of h ⟨⟨l, p, many⟩, j, l, _, rfl, ⟨h1, h2, hp⟩, rfl, hm, fun T M' ⟨i, p', hi, hon, hT, hM⟩ => ⟨_, hM, hT ▸ k i p' hi hon⟩⟩)
structure PicA where
  l : Addr
  p : Pen
  Ts : List Ty
def sp_L_v_pick (K : PySem.W.Frag) : Sp := spG (fun a : PicA => 1 ≤ a.Ts.length ∧ a.Ts.length < 1073741824 ∧ a.p.pos < posM) (fun a => [(a.l, penC K a.p)]) (fun a => [VT (.ref a.l), LstT a.Ts])
  (fun a T M => T ∈ a.Ts ∧ ∃ p' : Pen, a.p.On p' 1 ∧ M = [(a.l, penC K p')])
theorem ok_L_v_pick (T : Tx K mg) : FnOk P w K mg base CX0 3 aL_v_pick (fdAt K aL_v_pick) P_L_v_pick (sp_L_v_pick K) := by
  refine fn_ok T.d_L_v_pick sc_L_v_pick (fun _ => rfl) fun cdv A outer s H E hr => ⟨_, (pss_one (ps_ret (pe_ix (ixK (P := P) (w := w) (K := K) rfl rfl rfl (hu10 hr)) (pv 1) (pe_call (ok_L_take (P := P) (w := w) T) (hr.mono (by omega)) rfl T.g_L_take T.d_L_take.kp T.b_L_take .nil pass0 (pa_cons (pv 0) (pa_cons (pe_callB (lenK (K := K) rfl) rfl T.f_len bt_len (pa_cons (pv 1) pa_nil)) pa_nil))) (fun _ _ => rfl)))), ?_⟩
  rintro ⟨l, p, Ts⟩ O ⟨h1, h2, h3⟩ hO
  have h1 : 1 ≤ Ts.length := h1
  refine st_ret (ew_op (ew_of (et_var rfl) (ew_take (j := 0) (p := p) (ea_cons (et_var rfl) (ea_cons (et_cb (ea_cons (et_var rfl) ea_nil) cx_lenL) ea_nil)) rfl h1 h2 h3 fun i p' hi hon => ?_)))
  exact ⟨Ts[i], rx_ixL (atI_nat (List.getElem?_eq_getElem hi)), _, _, ⟨List.getElem_mem hi, p', hon, rfl⟩, Sub.refl _, List.Sublist.refl _⟩
theorem ew_pick {Γ : TEnv} {M : Mem} {O : Org} {ts : TA} {E : XK} {N : Ty → Mem → Prop} {j : Nat} {l : Addr} {p : Pen} {Ts : List Ty} (h : EA ts Γ M [VT (.ref l), LstT Ts]) (hm : M[j]? = some (l, penC K p)) (h1 : 1 ≤ Ts.length) (h2 : Ts.length < 1073741824) (hp : p.pos < posM)
    (k : ∀ (T : Ty) (p' : Pen), T ∈ Ts → p.On p' 1 → N T (M.set j (l, penC K p'))) : EW (tCall (sp_L_v_pick K) [] E ts) O Γ M N :=
  ew_callJ (aw_of h ⟨⟨l, p, Ts⟩, j, l, _, rfl, ⟨h1, h2, hp⟩, rfl, hm, fun T M' ⟨hT, p', hon, hM⟩ => ⟨_, hM, k T p' hT hon⟩⟩)
/-- from a list of numbers, of sets .. -/
theorem ew_pickD {Γ : TEnv} {M : Mem} {O : Org} {te : TE} {E : XK} {N : Ty → Mem → Prop} {i j : Nat} {l : Addr} {p : Pen} {ds : List PyData} (hi : Γ[i]? = some (some (VT (.ref l)))) (h : ET te Γ M (DT K (.list ds))) (hm : M[j]? = some (l, penC K p)) (h1 : 1 ≤ ds.length) (h2 : ds.length < 1073741824) (hp : p.pos < posM)
    (k : ∀ (d : PyData) (p' : Pen), d ∈ ds → p.On p' 1 → N (DT K d) (M.set j (l, penC K p'))) : EW (tCall (sp_L_v_pick K) [] E (tCons (tVar i) (tCons te tNil))) O Γ M N :=
  ew_pick (Ts := ds.map (DT K)) (ea_cons (et_var hi) (ea_cons (et_eq h (lt_dt ds).symm) ea_nil)) hm (by rw [List.length_map]; exact h1) (by rw [List.length_map]; exact h2) hp fun T p' hT hon => by
    obtain ⟨d, hd, rfl⟩ := List.mem_map.mp hT
    exact k d p' hd hon
end
end Tw
end
/-! W23 -/
section
set_option Elab.async false
set_option linter.all false
set_option autoImplicit false
set_option maxRecDepth 100000
set_option maxHeartbeats 4000000
/-! The walk: drawn sets, rows, leaves. -/
namespace Tw
open PySem PySem.Spec PyProof.Rows L2
open Evl (Ex ex_l ex_t ex_rd)
section
variable {P : Program} {w : World} {K : PySem.W.Frag} {mg : PySem.Str → Option Value} {base : Heap}
structure SomA where
  l : Addr
  p : Pen
  n : Nat
def sp_L_v_some_sets (K : PySem.W.Frag) : Sp := spG (fun a : SomA => N3 a.n ∧ a.p.pos + 13 ≤ posM) (fun a => [(a.l, penC K a.p)]) (fun a => [VT (.ref a.l), DT K (dn a.n)])
  (fun a T M => ∃ (ys : List (List Nat)) (p' : Pen), (∀ y ∈ ys, y ∈ allS a.n) ∧ ys.length ≤ 6 ∧ a.p.On p' 13 ∧ T = DT K (famD ys) ∧ M = [(a.l, penC K p')])
theorem ok_L_v_some_sets (T : Tx K mg) : FnOk P w K mg base CX0 4 aL_v_some_sets (fdAt K aL_v_some_sets) P_L_v_some_sets (sp_L_v_some_sets K) := by
  refine fn_ok T.d_L_v_some_sets sc_L_v_some_sets (fun _ => rfl) fun cdv A outer s H E hr => ⟨_, (pss_cons (ps_par (i := 2) (j := 3) rfl sc_L_v_some_sets.nd rfl rfl (by decide) rfl rfl (pa_cons (pe_call (ok_L_v_sets (P := P) (w := w) T) (hr.mono (by omega)) rfl T.g_L_v_sets T.d_L_v_sets.kp T.b_L_v_sets .nil pass0 (pa_cons (pv 1) pa_nil)) (pa_cons (pe_lst pa_nil) pa_nil)) rfl) (pss_cons (ps_for PassesOwn.never rfl (pi_range1 rfl T.f_range (pa_cons (pe_call (ok_L_v_pick (P := P) (w := w) T) (hr.mono (by omega)) rfl T.g_L_v_pick T.d_L_v_pick.kp T.b_L_v_pick .nil pass0 (pa_cons (pv 0) (pa_cons (pe_lst (pa_cons (pe_int) (pa_cons (pe_int) (pa_cons (pe_int) (pa_cons (pe_int) (pa_cons (pe_int) (pa_cons (pe_int) (pa_cons (pe_int) (pa_cons (pe_int) pa_nil))))))))) pa_nil))) pa_nil)) (pg_name (i := 4) sc_L_v_some_sets.nd rfl (by first | exact Or.inl rfl | exact Or.inr rfl)) (pss_cons (ps_set (i := 5) sc_L_v_some_sets.nd rfl (by first | exact Or.inl rfl | exact Or.inr rfl) (pe_call (ok_L_v_pick (P := P) (w := w) T) (hr.mono (by omega)) rfl T.g_L_v_pick T.d_L_v_pick.kp T.b_L_v_pick .nil pass0 (pa_cons (pv 0) (pa_cons (pv 2) pa_nil)))) (pss_one (ps_if (PW.pt (pw_or (pt_cmpR (neK (K := K) rfl (hu64 hr)) (pv 5) (pe_tup pa_nil) (nomark _)) (pw_or1 (pt_cmpR (eqK (K := K) rfl (hu64 hr)) (pe_call (ok_L_take (P := P) (w := w) T) (hr.mono (by omega)) rfl T.g_L_take T.d_L_take.kp T.b_L_take .nil pass0 (pa_cons (pv 0) (pa_cons (pe_int) pa_nil))) (pe_int) (nomark _))))) (pss_one (ps_expr (pe_bm PySem.F.plainAttrs_list PySem.F.slot_list_append PySem.F.type_list_append mt_append (pv 3) (pa_cons (pv 5) pa_nil)))) pss_nil)))) (pss_one (ps_ret (pv 3))))), ?_⟩
  rintro ⟨l, p, n⟩ O ⟨hn, hp⟩ hO
  have hn : N3 n := hn
  have hp : p.pos + 13 ≤ 100000000 := hp
  have h8 := allS_le8 n hn
  have h8' : 1 ≤ (allS n).length := by
    rw [allS_len n hn]
    exact Nat.one_le_two_pow
  have ei : ∀ {Γ : TEnv} {M : Mem} {ds : List PyData} {i : Int} {ts : TA}, EAD K ts Γ M ds → EAD K (tCons (tC (.int i)) ts) Γ M (.int i :: ds) := fun h => ead_cons (et_int (K := K)) h
  refine st_seq (st_par (aw_cons (ew_of (et_call (ok := fun n : Nat => N3 n) n hn (ea_cons (et_var rfl) ea_nil)) (aw_cons (ew_own fun l2 hz => aw_nil ⟨_, _, rfl, ?_⟩)))))
  refine st_cut (fun Γ M => ∃ (ys : List (List Nat)) (p' : Pen) (o4 o5 : Option Ty), (∀ y ∈ ys, y ∈ allS n) ∧ ys.length ≤ 6 ∧ p'.pos ≤ p.pos + 13 ∧ Γ = [some (VT (.ref l)), some (DT K (dn n)), some (DT K (famD (allS n))), some (VT (.ref l2)), o4, o5] ∧ M = [(l2, lstC ((ys.map setD).map (DT K))), (l, penC K p')])
    (st_forRW (K := K) (ew_aw1 (ew_pickD (j := 1) (p := p) rfl (et_lstD (K := K) (ei (ei (ei (ei (ei (ei (ei (ei ead_nil)))))))) (by show 8 ≤ sizeLine; decide)) rfl (by decide) (by decide) (by show p.pos < 100000000; omega) fun d p' hd hon => ?_))) ?_
  · obtain ⟨m, rfl, hm⟩ : ∃ m : Nat, d = dn m ∧ m ≤ 6 := by
      simp only [List.mem_cons, List.not_mem_nil, or_false] at hd
      rcases hd with rfl | rfl | rfl | rfl | rfl | rfl | rfl | rfl
      · exact ⟨0, rfl, by decide⟩
      · exact ⟨1, rfl, by decide⟩
      · exact ⟨1, rfl, by decide⟩
      · exact ⟨1, rfl, by decide⟩
      · exact ⟨2, rfl, by decide⟩
      · exact ⟨2, rfl, by decide⟩
      · exact ⟨3, rfl, by decide⟩
      · exact ⟨6, rfl, by decide⟩
    have hon : p'.pos ≤ p.pos + 1 := hon
    refine ⟨m, rfl, st_for (xs := List.range m) (gT := fun i => DT K (dn i)) (ws := fun i => [(4, DT K (dn i))])
      (fun i Γ M => ∃ (ys : List (List Nat)) (p' : Pen) (o4 o5 : Option Ty), (∀ y ∈ ys, y ∈ allS n) ∧ ys.length ≤ i ∧ p'.pos ≤ p.pos + 1 + 2 * i ∧ Γ = [some (VT (.ref l)), some (DT K (dn n)), some (DT K (famD (allS n))), some (VT (.ref l2)), o4, o5] ∧ M = [(l2, lstC ((ys.map setD).map (DT K))), (l, penC K p')])
      (ix_R (ea_cons (et_int (K := K)) ea_nil) (by omega)) (fun _ _ => gt_name) ⟨[], p', none, none, (fun _ h => nomatch h), Nat.le_refl _, by omega, rfl, rfl⟩ ?_ ?_⟩
    · rintro i t _ _ hi ⟨ys, p1, o4, o5, hy, hl, hpos, rfl, rfl⟩
      obtain ⟨rfl, him⟩ := range_at hi
      refine st_seq (st_set (ew_pickD (j := 1) (p := p1) rfl (et_var rfl) rfl (by rw [List.length_map]; exact h8') (by rw [List.length_map]; omega) (by show p1.pos < 100000000; omega) fun d p2 hd hon2 => ?_))
      obtain ⟨x, hx, rfl⟩ := List.mem_map.mp hd
      have hon2 : p2.pos ≤ p1.pos + 1 := hon2
      have fin : ∀ p3 : Pen, p3.pos ≤ p2.pos + 1 → ST (tDrop (tBM K "list" rAppend (tVar 3) (tCons (tVar 5) tNil))) O [some (VT (.ref l)), some (DT K (dn n)), some (DT K (famD (allS n))), some (VT (.ref l2)), some (DT K (dn t)), some (DT K (setD x))] [(l2, lstC ((ys.map setD).map (DT K))), (l, penC K p3)]
          { nx := fun Γ M => ∃ (ys : List (List Nat)) (p' : Pen) (o4 o5 : Option Ty), (∀ y ∈ ys, y ∈ allS n) ∧ ys.length ≤ t + 1 ∧ p'.pos ≤ p.pos + 1 + 2 * (t + 1) ∧ Γ = [some (VT (.ref l)), some (DT K (dn n)), some (DT K (famD (allS n))), some (VT (.ref l2)), o4, o5] ∧ M = [(l2, lstC ((ys.map setD).map (DT K))), (l, penC K p')], rt := fun _ _ => False } := by
        intro p3 hp3
        refine st_app rfl ⟨0, _, rfl⟩ (ew_of (et_var rfl) ⟨0, _, rfl, ?_, ys ++ [x], p3, _, _, ?_, ?_, ?_, rfl, ?_⟩)
        · rw [List.length_map, List.length_map]
          exact sz100 (by omega)
        · intro y h
          rcases List.mem_append.mp h with h | h
          · exact hy y h
          · rw [List.mem_singleton.mp h]
            exact hx
        · rw [List.length_append]
          exact Nat.add_le_add_right hl 1
        · omega
        · rw [List.map_append, List.map_append]
          rfl
      have imp : ∀ {Γ : TEnv} {M : Mem} {tq : TS} {D : Dest}, ST tq O Γ M { nx := D.nx, rt := fun _ _ => False } → ST tq O Γ M D := fun h => st_imp h (fun _ _ h => h) (fun _ _ h => h.elim) (fun _ _ h => h.elim) (fun _ _ h => h.elim)
      refine st_ifW (bw_or (a := !decide (x = [])) (bt_eq (bt_test (et_op (et_var rfl) (et_tupD (K := K) ead_nil (by show 0 ≤ sizeLine; decide)) (rx_ne (shaped_set x) (shaped_set [])))) (congrArg (!·) (eqv_set x []))) (fun _ => ⟨fun _ => imp (fin p2 (by omega)), fun h => nomatch h⟩) fun _ => ?_)
      refine bw_test (ew_op (ew_take (j := 1) (p := p2) (ea_cons (et_var rfl) (ea_cons (et_int (K := K)) ea_nil)) rfl (by decide) (by decide) (by show p2.pos < 100000000; omega) fun i p3 hi3 hon3 => ew_of (et_int (K := K)) ⟨_, rx_eq rfl rfl, _, rfl, fun _ => imp (fin p3 hon3), fun _ => st_next ⟨ys, p3, _, _, hy, by omega, ?_, rfl, rfl⟩⟩))
      have hon3 : p3.pos ≤ p2.pos + 1 := hon3
      omega
    · rintro _ _ ⟨ys, p1, o4, o5, hy, hl, hpos, rfl, rfl⟩
      rw [List.length_range] at hl hpos
      exact ⟨ys, p1, o4, o5, hy, by omega, by omega, rfl, rfl⟩
  · rintro _ _ ⟨ys, p1, o4, o5, hy, hl, hpos, rfl, rfl⟩
    exact st_freeze (i := 3) (j := 0) rfl rfl hz (st_ret (ew_of (et_eq (et_var rfl) (lt_dt (ys.map setD))) ⟨_, _, ⟨ys, p1, hy, hl, hpos, rfl, rfl⟩, Sub.refl _, List.Sublist.refl _⟩))
theorem ew_somesets {Γ : TEnv} {M : Mem} {O : Org} {ts : TA} {E : XK} {N : Ty → Mem → Prop} {j n : Nat} {l : Addr} {p : Pen} (hn : N3 n) (h : EA ts Γ M [VT (.ref l), DT K (dn n)]) (hm : M[j]? = some (l, penC K p)) (hp : p.pos + 13 ≤ posM)
    (k : ∀ (ys : List (List Nat)) (p' : Pen), (∀ y ∈ ys, y ∈ allS n) → ys.length ≤ 6 → p.On p' 13 → N (DT K (famD ys)) (M.set j (l, penC K p'))) : EW (tCall (sp_L_v_some_sets K) [] E ts) O Γ M N :=
  ew_callJ (aw_of h ⟨⟨l, p, n⟩, j, l, _, rfl, ⟨hn, hp⟩, rfl, hm, fun T M' ⟨ys, p', hy, hl, hon, hT, hM⟩ => ⟨_, hM, hT ▸ k ys p' hy hl hon⟩⟩)
/-- rows, a few sets each -/
abbrev Rows6 (n : Nat) (rows : List (List (List Nat))) : Prop := rows.length = n ∧ ∀ ys ∈ rows, (∀ y ∈ ys, y ∈ allS n) ∧ ys.length ≤ 6
def sp_L_v_part_rows (K : PySem.W.Frag) : Sp := spG (fun a : SomA => N3 a.n ∧ a.p.pos + 39 ≤ posM) (fun a => [(a.l, penC K a.p)]) (fun a => [VT (.ref a.l), DT K (dn a.n)])
  (fun a T M => ∃ (rows : List (List (List Nat))) (p' : Pen), Rows6 a.n rows ∧ a.p.On p' 39 ∧ T = DT K (.list (rows.map famD)) ∧ M = [(a.l, penC K p')])
theorem ok_L_v_part_rows (T : Tx K mg) : FnOk P w K mg base CX0 5 aL_v_part_rows (fdAt K aL_v_part_rows) P_L_v_part_rows (sp_L_v_part_rows K) := by
  refine fn_ok T.d_L_v_part_rows sc_L_v_part_rows (fun _ => rfl) fun cdv A outer s H E hr => ⟨_, (pss_one (ps_ret (pe_lc (own := [("_law_s", 2)]) (tt := tYes) rfl sc_L_v_part_rows.nd (pi_range1 rfl T.f_range (pa_cons (pv 1) pa_nil)) (blkOk_by (N := N_L_v_part_rows) (sc := defScope sL_v_part_rows) (by decide +kernel)) (fun _ _ _ _ _ => (pg_name (i := 2) sc_L_v_part_rows.nd rfl (by first | exact Or.inl rfl | exact Or.inr rfl))) (fun _ _ _ _ _ => pts_nil) (fun _ _ _ _ _ => (pe_call (ok_L_v_some_sets (P := P) (w := w) T) (hr.mono (by omega)) rfl T.g_L_v_some_sets T.d_L_v_some_sets.kp T.b_L_v_some_sets .nil pass0 (pa_cons (pv 0) (pa_cons (pv 1) pa_nil))))))), ?_⟩
  rintro ⟨l, p, n⟩ O ⟨hn, hp⟩ hO
  have hn : N3 n := hn
  have hn3 := hn.2
  have hp : p.pos + 39 ≤ 100000000 := hp
  refine st_ret (ew_lc (xs := List.range n) (gT := fun s => DT K (dn s)) (ws := fun s => [(2, DT K (dn s))]) (fun i Ts M' => ∃ (rows : List (List (List Nat))) (p' : Pen), Ts = (rows.map famD).map (DT K) ∧ rows.length = i ∧ (∀ ys ∈ rows, (∀ y ∈ ys, y ∈ allS n) ∧ ys.length ≤ 6) ∧ p'.pos ≤ p.pos + 13 * i ∧ M' = [(l, penC K p')])
    (ix_R (ea_cons (et_var rfl) ea_nil) (by omega)) (fun _ _ => gt_name) (fun _ => rfl) ⟨[], p, rfl, rfl, (fun _ h => nomatch h), Nat.le_refl _, rfl⟩ ?_ (sz100 (by rw [List.length_range]; omega)) ?_)
  · rintro i s Ts _ hi ⟨rows, p1, rfl, hl, hr, hpos, rfl⟩
    obtain ⟨rfl, hin⟩ := range_at hi
    refine ⟨rfl, fun O' => ew_somesets (j := 0) hn (ea_cons (et_var rfl) (ea_cons (et_var rfl) ea_nil)) rfl (by show p1.pos + 13 ≤ 100000000; omega) fun ys p2 hy h6 hon => ⟨rfl, rows ++ [ys], p2, ?_, ?_, ?_, ?_, rfl⟩⟩
    · rw [List.map_append, List.map_append]
      rfl
    · rw [List.length_append, hl]
      rfl
    · intro zs h
      rcases List.mem_append.mp h with h | h
      · exact hr zs h
      · rw [List.mem_singleton.mp h]
        exact ⟨hy, h6⟩
    · have hon : p2.pos ≤ p1.pos + 13 := hon
      omega
  · rintro Ts _ hT ⟨rows, p1, rfl, hl, hr, hpos, rfl⟩ _
    rw [List.length_range] at hl hpos
    exact ⟨_, _, ⟨rows, p1, ⟨hl, hr⟩, by show p1.pos ≤ p.pos + 39; omega, (lt_dt (rows.map famD)), rfl⟩, Sub.refl _, List.Sublist.refl _⟩
/-! ### leaves -/
structure LefA where
  l : Addr
  p : Pen
  n : Nat
  cnt : Nat
  many : Nat
structure LefOk (a : LefA) : Prop where
  n3 : N3 a.n
  c1 : 1 ≤ a.cnt
  c4 : a.cnt ≤ 4
  m3 : a.many ≤ 3
abbrev LeafX (n cnt many : Nat) (t : Txt) : Prop := t.Ok n cnt many ∧ t.dep = 1 ∧ t.size = 1
abbrev LeafT (K : PySem.W.Frag) (n cnt many : Nat) (T : Ty) : Prop := ∃ t : Txt, T = DT K t.toD ∧ LeafX n cnt many t
def sp_L_v_leaf (K : PySem.W.Frag) : Sp := spG (fun a : LefA => LefOk a ∧ a.p.pos + 12 ≤ posM) (fun a => [(a.l, penC K a.p)]) (fun a => [VT (.ref a.l), DT K (dn a.n), DT K (.tuple [dn a.cnt, dn a.many])])
  (fun a T M => LeafT K a.n a.cnt a.many T ∧ ∃ p' : Pen, a.p.On p' 12 ∧ M = [(a.l, penC K p')])
theorem tup2 {a b : PyData} : TupT K [DT K a, DT K b] = DT K (.tuple [a, b]) := tt_dt [a, b]
theorem tupNs (ts : List Nat) : TupT K (ts.map fun t => DT K (dn t)) = DT K (setD ts) := by
  have := tt_dt (K := K) (ts.map dn)
  rw [List.map_map] at this
  exact this
theorem ok_L_v_leaf (T : Tx K mg) : FnOk P w K mg base CX0 4 aL_v_leaf (fdAt K aL_v_leaf) P_L_v_leaf (sp_L_v_leaf K) := by
  refine fn_ok T.d_L_v_leaf sc_L_v_leaf (fun _ => rfl) fun cdv A outer s H E hr => ⟨_, (pss_cons (ps_asg (pv 2) (tupK (K := K) (n := 2) rfl rfl (pgs_cons (pg_name (i := 3) sc_L_v_leaf.nd rfl (by first | exact Or.inl rfl | exact Or.inr rfl)) (pgs_cons (pg_name (i := 4) sc_L_v_leaf.nd rfl (by first | exact Or.inl rfl | exact Or.inr rfl)) pgs_nil)))) (pss_cons (ps_set (i := 5) sc_L_v_leaf.nd rfl (by first | exact Or.inl rfl | exact Or.inr rfl) (pe_lst (pa_cons (pe_tup (pa_cons (pe_str) pa_nil)) (pa_cons (pe_tup (pa_cons (pe_str) (pa_cons (tupOfK (K := K) rfl rfl T.f_tuple (pe_lc (own := [("_law_s", 6)]) (tt := tYes) rfl sc_L_v_leaf.nd (pi_range1 rfl T.f_range (pa_cons (pv 1) pa_nil)) (blkOk_by (N := N_L_v_leaf) (sc := defScope sL_v_leaf) (by decide +kernel)) (fun _ _ _ _ _ => (pg_name (i := 6) sc_L_v_leaf.nd rfl (by first | exact Or.inl rfl | exact Or.inr rfl))) (fun _ _ _ _ _ => pts_nil) (fun _ _ _ _ _ => (pe_call (ok_L_take (P := P) (w := w) T) (hr.mono (by omega)) rfl T.g_L_take T.d_L_take.kp T.b_L_take .nil pass0 (pa_cons (pv 0) (pa_cons (pv 1) pa_nil)))))) pa_nil))) (pa_cons (pe_tup (pa_cons (pe_str) (pa_cons (pe_call (ok_L_take (P := P) (w := w) T) (hr.mono (by omega)) rfl T.g_L_take T.d_L_take.kp T.b_L_take .nil pass0 (pa_cons (pv 0) (pa_cons (pv 3) pa_nil))) pa_nil))) pa_nil))))) (pss_cons (ps_set (i := 5) sc_L_v_leaf.nd rfl (by first | exact Or.inl rfl | exact Or.inr rfl) (pe_op (addK (K := K) rfl) (pv 5) (pe_lst (pa_cons (pe_tup (pa_cons (pe_str) (pa_cons (pe_op (mulK (K := K) rfl) (pe_tup (pa_cons (pe_call (ok_L_take (P := P) (w := w) T) (hr.mono (by omega)) rfl T.g_L_take T.d_L_take.kp T.b_L_take .nil pass0 (pa_cons (pv 0) (pa_cons (pv 1) pa_nil))) pa_nil)) (pv 1)) pa_nil))) (pa_cons (pe_tup (pa_cons (pe_str) (pa_cons (pe_call (ok_L_take (P := P) (w := w) T) (hr.mono (by omega)) rfl T.g_L_take T.d_L_take.kp T.b_L_take .nil pass0 (pa_cons (pv 0) (pa_cons (pv 3) pa_nil))) pa_nil))) pa_nil))))) (pss_cons (ps_set (i := 5) sc_L_v_leaf.nd rfl (by first | exact Or.inl rfl | exact Or.inr rfl) (pe_op (addK (K := K) rfl) (pv 5) (pe_op (mulK (K := K) rfl) (pe_lst (pa_cons (pe_tup (pa_cons (pe_call (ok_L_v_pick (P := P) (w := w) T) (hr.mono (by omega)) rfl T.g_L_v_pick T.d_L_v_pick.kp T.b_L_v_pick .nil pass0 (pa_cons (pv 0) (pa_cons (pe_lst (pa_cons (pe_str) (pa_cons (pe_str) pa_nil))) pa_nil))) (pa_cons (pe_tup pa_nil) pa_nil))) pa_nil)) (pe_callTy call_int1' rfl T.f_int bt_int (pa_cons (pe_cmpR (eqK (K := K) rfl (hu64 hr)) (pe_call (ok_L_take (P := P) (w := w) T) (hr.mono (by omega)) rfl T.g_L_take T.d_L_take.kp T.b_L_take .nil pass0 (pa_cons (pv 0) (pa_cons (pe_int) pa_nil))) (pe_int) (nomark _)) pa_nil))))) (pss_cons (ps_for PassesOwn.never rfl (pi_range1 rfl T.f_range (pa_cons (pv 4) pa_nil)) (pg_name (i := 7) sc_L_v_leaf.nd rfl (by first | exact Or.inl rfl | exact Or.inr rfl)) (pss_one (ps_set (i := 5) sc_L_v_leaf.nd rfl (by first | exact Or.inl rfl | exact Or.inr rfl) (pe_op (addK (K := K) rfl) (pv 5) (pe_op (mulK (K := K) rfl) (pe_lst (pa_cons (pe_tup (pa_cons (pe_str) (pa_cons (pv 7) pa_nil))) pa_nil)) (pe_int)))))) (pss_one (ps_ret (pe_call (ok_L_v_pick (P := P) (w := w) T) (hr.mono (by omega)) rfl T.g_L_v_pick T.d_L_v_pick.kp T.b_L_v_pick .nil pass0 (pa_cons (pv 0) (pa_cons (pv 5) pa_nil)))))))))), ?_⟩
  rintro ⟨l, p, n, cnt, many⟩ O ⟨ho, hp⟩ hO
  have hn : N3 n := ho.n3
  have hn1 := hn.1
  have hn3 := hn.2
  have c1 : 1 ≤ cnt := ho.c1
  have c4 : cnt ≤ 4 := ho.c4
  have m3 : many ≤ 3 := ho.m3
  have hp : p.pos + 12 ≤ 100000000 := hp
  let LT : Ty → Prop := LeafT K n cnt many
  have hnb : n < 1073741824 := by omega
  have hcb : cnt < 1073741824 := by omega
  have lgo : ∀ ts : List Nat, ts.length = n → (∀ t ∈ ts, t < n) → LT (TupT K [DT K (.str "go"), DT K (setD ts)]) := fun ts h1 h2 => ⟨.go ts, by rw [tup2, Txt.toD], by rw [Txt.Ok]; exact ⟨h1, h2⟩, by rw [Txt.dep], by rw [Txt.size]⟩
  have lcall : ∀ k, k < cnt → LT (TupT K [DT K (.str "call"), DT K (dn k)]) := fun k h => ⟨.call k, by rw [tup2, Txt.toD], by rw [Txt.Ok]; exact h, by rw [Txt.dep], by rw [Txt.size]⟩
  have lskip : LT (TupT K [DT K (.str "skip")]) := ⟨.skip, by rw [Txt.toD]; exact tt_dt [.str "skip"], by rw [Txt.Ok]; trivial, by rw [Txt.dep], by rw [Txt.size]⟩
  have lpart : ∀ j, j < many → LT (TupT K [DT K (.str "part"), DT K (dn j)]) := fun k h => ⟨.part k, by rw [tup2, Txt.toD], by rw [Txt.Ok]; exact h, by rw [Txt.dep], by rw [Txt.size]⟩
  have lch : ∀ we, LT (TupT K [DT K (.str (sideT we)), DT K (.tuple [])]) := fun we => ⟨.ch we [], by rw [tup2, Txt.toD]; rfl, by rw [Txt.Ok]; exact ⟨Nat.zero_le _, trivial⟩, by rw [Txt.dep]; rfl, by rw [Txt.size]; rfl⟩
  refine st_seq (st_asg (ew_of (et_var rfl) ⟨_, gt_tupD (gts_cons gt_name (gts_cons gt_name gts_nil)) rfl, ?_⟩))
  let St : Nat → Nat → TEnv → Mem → Prop := fun c z Γ M => ∃ (Ts : List Ty) (p' : Pen) (o7 : Option Ty), (∀ T ∈ Ts, LT T) ∧ 1 ≤ Ts.length ∧ Ts.length ≤ z ∧ p'.pos ≤ p.pos + c ∧ Γ = [some (VT (.ref l)), some (DT K (dn n)), some (DT K (.tuple [dn cnt, dn many])), some (DT K (dn cnt)), some (DT K (dn many)), some (LstT Ts), none, o7] ∧ M = [(l, penC K p')]
  refine st_cut (St 4 3) ?_ ?_
  · refine st_set (ew_lstF (aw_cons (ew_of (et_tup (K := K) (ea_cons (et_str (K := K)) ea_nil) (by show 1 ≤ sizeLine; decide)) ?_)))
    refine aw_cons (ew_tup (K := K) (aw_cons (ew_of (et_str (K := K)) ?_)))
    refine aw_cons (ew_tupleL ?_)
    refine ew_lc (xs := List.range n) (gT := fun s => DT K (dn s)) (ws := fun s => [(6, DT K (dn s))])
      (fun i Ts M' => ∃ (ts : List Nat) (p' : Pen), Ts = ts.map (fun t => DT K (dn t)) ∧ ts.length = i ∧ (∀ t ∈ ts, t < n) ∧ p'.pos ≤ p.pos + i ∧ M' = [(l, penC K p')])
      (ix_R (ea_cons (et_var rfl) ea_nil) (by omega)) (fun _ _ => gt_name) (fun _ => rfl) ⟨[], p, rfl, rfl, (fun _ h => nomatch h), Nat.le_refl _, rfl⟩ ?_ (sz100 (by rw [List.length_range]; omega)) ?_
    · rintro i s Ts _ hi ⟨ts, p1, rfl, hl, ht, hpos, rfl⟩
      obtain ⟨rfl, hin⟩ := range_at hi
      refine ⟨rfl, fun O' => ew_take (j := 0) (p := p1) (ea_cons (et_var rfl) (ea_cons (et_var rfl) ea_nil)) rfl hn1 hnb (by show p1.pos < 100000000; omega) fun i p2 hi2 hon => ⟨rfl, ts ++ [i], p2, ?_, ?_, ?_, ?_, rfl⟩⟩
      · rw [List.map_append]
        rfl
      · rw [List.length_append, hl]
        rfl
      · intro z h
        rcases List.mem_append.mp h with h | h
        · exact ht z h
        · rw [List.mem_singleton.mp h]
          exact hi2
      · have hon : p2.pos ≤ p1.pos + 1 := hon
        omega
    · rintro Ts _ hT ⟨ts, p1, rfl, hl, ht, hpos, rfl⟩ _
      rw [List.length_range] at hl hpos
      refine ⟨_, rfl, aw_nil ⟨by show 2 ≤ sizeLine; decide, ?_⟩⟩
      refine aw_cons (ew_tup (K := K) (aw_cons (ew_of (et_str (K := K)) ?_)))
      refine aw_cons (ew_take (j := 0) (p := p1) (ea_cons (et_var rfl) (ea_cons (et_var rfl) ea_nil)) rfl c1 hcb (by show p1.pos < 100000000; omega) fun k p2 hk hon => ?_)
      refine aw_nil ⟨by show 2 ≤ sizeLine; decide, aw_nil ⟨by show 3 ≤ sizeLine; decide, ?_⟩⟩
      refine ⟨_, p2, none, ?_, by show 1 ≤ 3; decide, by show 3 ≤ 3; decide, ?_, rfl, rfl⟩
      · intro T h
        rcases List.mem_cons.mp h with rfl | h
        · exact lskip
        · rcases List.mem_cons.mp h with rfl | h
          · rw [tupNs]
            exact lgo ts hl ht
          · rw [List.mem_singleton.mp h]
            exact lcall k hk
      · have hon : p2.pos ≤ p1.pos + 1 := hon
        omega
  rintro _ _ ⟨Ts, p1, o7, hT, h1, hl, hpos, rfl, rfl⟩
  refine st_cut (St 6 5) ?_ ?_
  · refine st_set (ew_op (ew_of (et_var rfl) (ew_lstF (aw_cons (ew_tup (K := K) (aw_cons (ew_of (et_str (K := K)) ?_)))))))
    refine aw_cons (ew_op (ew_tup (K := K) (aw_cons (ew_take (j := 0) (p := p1) (ea_cons (et_var rfl) (ea_cons (et_var rfl) ea_nil)) rfl hn1 hnb (by show p1.pos < 100000000; omega) fun t p2 ht hon => ?_))))
    have hon : p2.pos ≤ p1.pos + 1 := hon
    refine aw_nil ⟨by show 1 ≤ sizeLine; decide, ew_of (et_var rfl) ⟨_, rx_mulT (n := n) hn1 (by omega) (by show 0 < 1; decide) (by show 1 ≤ 1000; decide), aw_nil ⟨by show 2 ≤ sizeLine; decide, ?_⟩⟩⟩
    refine aw_cons (ew_tup (K := K) (aw_cons (ew_of (et_str (K := K)) ?_)))
    refine aw_cons (ew_take (j := 0) (p := p2) (ea_cons (et_var rfl) (ea_cons (et_var rfl) ea_nil)) rfl c1 hcb (by show p2.pos < 100000000; omega) fun k p3 hk hon3 => ?_)
    have hon3 : p3.pos ≤ p2.pos + 1 := hon3
    refine aw_nil ⟨by show 2 ≤ sizeLine; decide, aw_nil ⟨by show 2 ≤ sizeLine; decide, _, rx_addL ?_, ?_⟩⟩
    · exact Nat.le_of_lt (sz100 (by show Ts.length + 2 < 1000; omega))
    have e : TupT K (List.replicate n [DT K (dn t)]).flatten = DT K (setD (List.replicate n t)) := by
      rw [show (List.replicate n [DT K (dn t)]).flatten = (List.replicate n t).map (fun t => DT K (dn t)) from by rw [List.map_replicate, List.flatten_replicate_singleton], tupNs]
    refine ⟨_, p3, o7, ?_, ?_, ?_, by omega, rfl, rfl⟩
    · intro T h
      rcases List.mem_append.mp h with h | h
      · exact hT T h
      · rcases List.mem_cons.mp h with rfl | h
        · show LT (TupT K [DT K (.str "go"), TupT K (List.replicate n [DT K (dn t)]).flatten])
          rw [e]
          exact lgo _ List.length_replicate fun z hz => by rw [(List.mem_replicate.mp hz).2]; exact ht
        · rw [List.mem_singleton.mp h]
          exact lcall k hk
    · rw [List.length_append]
      omega
    · rw [List.length_append]
      show Ts.length + 2 ≤ 5
      omega
  clear hT h1 hl hpos Ts p1 o7
  rintro _ _ ⟨Ts, p1, o7, hT, h1, hl, hpos, rfl, rfl⟩
  refine st_cut (St 8 6) ?_ ?_
  · refine st_set (ew_op (ew_of (et_var rfl) (ew_op (ew_lstF (aw_cons (ew_tup (K := K) ?_))))))
    refine aw_cons (ew_pickD (j := 0) (p := p1) (ds := [.str "we", .str "they"]) rfl (et_lstD (K := K) (ead_cons (et_str (K := K)) (ead_cons (et_str (K := K)) ead_nil)) (by show 2 ≤ sizeLine; decide)) rfl (by decide) (by decide) (by show p1.pos < 100000000; omega) fun d p2 hd hon => ?_)
    refine aw_cons (ew_of (et_tupD (K := K) ead_nil (by show 0 ≤ sizeLine; decide)) (aw_nil ⟨by show 2 ≤ sizeLine; decide, aw_nil ⟨by show 1 ≤ sizeLine; decide, ?_⟩⟩))
    have hon : p2.pos ≤ p1.pos + 1 := hon
    obtain ⟨we, rfl⟩ : ∃ we, d = .str (sideT we) := by
      rcases List.mem_cons.mp hd with rfl | hd
      · exact ⟨true, rfl⟩
      · rw [List.mem_singleton.mp hd]
        exact ⟨false, rfl⟩
    refine ew_cb (aw_cons (ew_op (ew_take (j := 0) (p := p2) (ea_cons (et_var rfl) (ea_cons (et_int (K := K)) ea_nil)) rfl (by decide) (by decide) (by show p2.pos < 100000000; omega) fun i p3 hi hon3 => ?_)))
    refine ew_of (et_int (K := K)) ⟨_, rx_eq rfl rfl, aw_nil ⟨_, cx_intB, ?_⟩⟩
    have hon3 : p3.pos ≤ p2.pos + 1 := hon3
    have main : ∀ m : Nat, m ≤ 1 → ∃ U, RX (rMulA K) [(l, penC K p3)] (LstT [TupT K [DT K (.str (sideT we)), DT K (.tuple [])]]) (DT K (.int (m : Int))) U ∧ ∃ U2, RX (rAddA K) [(l, penC K p3)] (LstT Ts) U U2 ∧ St 8 6 [some (VT (.ref l)), some (DT K (dn n)), some (DT K (.tuple [dn cnt, dn many])), some (DT K (dn cnt)), some (DT K (dn many)), some U2, none, o7] [(l, penC K p3)] := by
      intro m hm
      refine ⟨_, rx_mulL (n := m) (by omega) (by show 1 ≤ 1000; decide), _, rx_addL ?_, _, p3, o7, ?_, ?_, ?_, by omega, rfl, rfl⟩
      · rw [List.flatten_replicate_singleton, List.length_replicate]
        exact Nat.le_of_lt (sz100 (by omega))
      · intro T h
        rcases List.mem_append.mp h with h | h
        · exact hT T h
        · rw [List.flatten_replicate_singleton] at h
          rw [(List.mem_replicate.mp h).2]
          exact lch we
      · rw [List.length_append]
        omega
      · rw [List.length_append, List.flatten_replicate_singleton, List.length_replicate]
        omega
    split
    · exact main 1 (Nat.le_refl _)
    · exact main 0 (Nat.zero_le _)
  clear hT h1 hl hpos Ts p1 o7
  rintro _ _ ⟨Ts, p1, o7, hT, h1, hl, hpos, rfl, rfl⟩
  refine st_cut (St 8 12) (st_for (xs := List.range many) (gT := fun i => DT K (dn i)) (ws := fun i => [(7, DT K (dn i))]) (fun i Γ M => St 8 (6 + 2 * i) Γ M) (ix_R (ea_cons (et_var rfl) ea_nil) (by omega)) (fun _ _ => gt_name) ⟨Ts, p1, o7, hT, h1, hl, hpos, rfl, rfl⟩ ?_ ?_) ?_
  · rintro i j _ _ hi ⟨Us, p2, o7', hU, h1', hl', hpos', rfl, rfl⟩
    obtain ⟨rfl, him⟩ := range_at hi
    refine st_set (ew_of (et_op (et_var rfl) (et_op (et_lst (ea_cons (et_tup (K := K) (ea_cons (et_str (K := K)) (ea_cons (et_var rfl) ea_nil)) (by show 2 ≤ sizeLine; decide)) ea_nil) (by show 1 ≤ sizeLine; decide)) (et_int (K := K)) (rx_mulL (n := 2) (by decide) (by show 1 ≤ 1000; decide))) (rx_addL ?_)) ⟨_, p2, _, ?_, ?_, ?_, hpos', rfl, rfl⟩)
    · show Us.length + 2 ≤ sizeLine
      exact Nat.le_of_lt (sz100 (by omega))
    · intro T h
      rcases List.mem_append.mp h with h | h
      · exact hU T h
      · rw [List.flatten_replicate_singleton] at h
        rw [(List.mem_replicate.mp h).2]
        exact lpart j him
    · rw [List.length_append]
      omega
    · rw [List.length_append]
      show Us.length + 2 ≤ 6 + 2 * (j + 1)
      omega
  · rintro _ _ ⟨Us, p2, o7', hU, h1', hl', hpos', rfl, rfl⟩
    rw [List.length_range] at hl'
    exact ⟨Us, p2, o7', hU, h1', by omega, hpos', rfl, rfl⟩
  clear hT h1 hl hpos Ts p1 o7
  rintro _ _ ⟨Ts, p1, o7, hT, h1, hl, hpos, rfl, rfl⟩
  refine st_ret (ew_pick (j := 0) (p := p1) (ea_cons (et_var rfl) (ea_cons (et_var rfl) ea_nil)) rfl h1 (by omega) (by show p1.pos < 100000000; omega) fun T p2 hm hon => ⟨_, _, ⟨hT T hm, p2, ?_, rfl⟩, Sub.refl _, List.Sublist.refl _⟩)
  have hon : p2.pos ≤ p1.pos + 1 := hon
  show p2.pos ≤ p.pos + 12
  omega
end
end Tw
end
/-! W24 -/
section
set_option Elab.async false
set_option linter.all false
set_option autoImplicit false
set_option maxRecDepth 100000
set_option maxHeartbeats 4000000
/-! The walk: drawn texts, systems. -/
namespace Tw
open PySem PySem.Spec PyProof.Rows L2
open Evl (Ex ex_l ex_t ex_rd)
theorem ew_mem {Γ : TEnv} {M : Mem} {O : Org} {te : TE} {N : Ty → Mem → Prop} (h : EW te O Γ M fun T M' => ∃ M2 : Mem, M2.Sublist M' ∧ N T M2) : EW te O Γ M N := fun σ I H Q e h0 q => h σ I H Q e h0 fun T M' v I1 H1 ⟨M2, s, n⟩ e1 h1 a => q T M2 v I1 H1 n e1 (h1.less s) a
section
variable {P : Program} {w : World} {K : PySem.W.Frag} {mg : PySem.Str → Option Value} {base : Heap}
/-- how many places a text of that depth takes at most -/
def cost (e : Nat) : Nat := 100 * 4 ^ e
theorem cost_succ (e : Nat) : cost (e + 1) = 4 * cost e := by
  unfold cost
  rw [Nat.pow_succ]
  omega
theorem cost_pos (e : Nat) : 100 ≤ cost e := by
  unfold cost
  have := Nat.one_le_pow e 4 (by decide)
  omega
structure TexA where
  l : Addr
  l2 : Addr
  p : Pen
  L : Int
  n : Nat
  cnt : Nat
  many : Nat
  deep : Nat
abbrev leftC (K : PySem.W.Frag) (L : Int) : Cell := lstC [DT K (.int L)]
abbrev TexX (a : TexA) (t : Txt) (p' : Pen) (L' : Int) : Prop := t.Ok a.n a.cnt a.many ∧ t.dep ≤ a.deep ∧ (t.size : Int) ≤ a.L - L' ∧ (a.L - 1 ≤ L' ∨ 5 - 2 * (a.deep : Int) ≤ L') ∧ p'.pos ≤ a.p.pos + cost a.deep
structure TexOk (d : Nat) (a : TexA) : Prop where
  n3 : N3 a.n
  c1 : 1 ≤ a.cnt
  c4 : a.cnt ≤ 4
  m3 : a.many ≤ 3
  d1 : 1 ≤ a.deep
  dd : a.deep ≤ d
  pos : a.p.pos + cost a.deep ≤ posM
def sp_L_v_text (K : PySem.W.Frag) (d : Nat) : Sp := spG (TexOk d) (fun a => [(a.l, penC K a.p), (a.l2, leftC K a.L)]) (fun a => [VT (.ref a.l), DT K (dn a.n), DT K (.tuple [dn a.cnt, dn a.many]), DT K (dn a.deep), VT (.ref a.l2)])
  (fun a T M => ∃ (t : Txt) (p' : Pen) (L' : Int), TexX a t p' L' ∧ T = DT K t.toD ∧ M = [(a.l, penC K p'), (a.l2, leftC K L')])
theorem ew_text {Γ : TEnv} {M : Mem} {O : Org} {ts : TA} {E : XK} {N : Ty → Mem → Prop} {d : Nat} (a : TexA) (pre : Mem) (ha : TexOk d a) (h : EA ts Γ M [VT (.ref a.l), DT K (dn a.n), DT K (.tuple [dn a.cnt, dn a.many]), DT K (dn a.deep), VT (.ref a.l2)]) (hM : M = pre ++ [(a.l, penC K a.p), (a.l2, leftC K a.L)])
    (k : ∀ (t : Txt) (p' : Pen) (L' : Int), TexX a t p' L' → N (DT K t.toD) (pre ++ [(a.l, penC K p'), (a.l2, leftC K L')])) : EW (tCall (sp_L_v_text K d) [] E ts) O Γ M N :=
  ew_callF (aw_of h ⟨a, pre, rfl, ha, hM ▸ List.perm_append_comm, fun T M' ⟨t, p', L', hx, hT, hM'⟩ => by
    subst hT
    subst hM'
    exact ⟨rfl, _, List.perm_append_comm, k t p' L' hx⟩⟩)
theorem ew_leaf {Γ : TEnv} {M : Mem} {O : Org} {ts : TA} {E : XK} {N : Ty → Mem → Prop} {j n cnt many : Nat} {l : Addr} {p : Pen} (ho : LefOk ⟨l, p, n, cnt, many⟩) (h : EA ts Γ M [VT (.ref l), DT K (dn n), DT K (.tuple [dn cnt, dn many])]) (hm : M[j]? = some (l, penC K p)) (hp : p.pos + 12 ≤ posM)
    (k : ∀ (t : Txt) (p' : Pen), LeafX n cnt many t → p.On p' 12 → N (DT K t.toD) (M.set j (l, penC K p'))) : EW (tCall (sp_L_v_leaf K) [] E ts) O Γ M N :=
  ew_callJ (aw_of h ⟨⟨l, p, n, cnt, many⟩, j, l, _, rfl, ⟨ho, hp⟩, rfl, hm, fun T M' ⟨⟨t, hT, hx⟩, p', hon, hM⟩ => ⟨_, hM, hT ▸ k t p' hx hon⟩⟩)
theorem ok_L_v_text (T : Tx K mg) : ∀ d, FnOk P w K mg base CX0 (5+d) aL_v_text (fdAt K aL_v_text) P_L_v_text (sp_L_v_text K d)
  | 0 => fn_absurd fun a h => by
    have := h.d1
    have := h.dd
    omega
  | d + 1 => by
    have ih := ok_L_v_text T d
    show FnOk P w K mg base CX0 (5+d+1) aL_v_text (fdAt K aL_v_text) P_L_v_text (sp_L_v_text K (d + 1))
    refine fn_ok T.d_L_v_text sc_L_v_text (fun _ => rfl) fun cdv A outer s H E hr => ⟨_, (pss_cons (ps_asg (pe_op op_sub (pe_ix (ixK (P := P) (w := w) (K := K) rfl rfl rfl (hu10 hr)) (pv 4) (pe_int) (fun _ _ => rfl)) (pe_int)) (pg_sub (pv 4) (pe_int) (set_list))) (pss_cons (ps_set (i := 5) sc_L_v_text.nd rfl (by first | exact Or.inl rfl | exact Or.inr rfl) (pe_call (ok_L_take (P := P) (w := w) T) (hr.mono (by omega)) rfl T.g_L_take T.d_L_take.kp T.b_L_take .nil pass0 (pa_cons (pv 0) (pa_cons (pe_int) pa_nil)))) (pss_cons (ps_if (PW.pt (pw_or (pt_cmpR op_lt (pv 3) (pe_int) (nomark _)) (pw_or (pt_cmpR op_lt (pe_ix (ixK (P := P) (w := w) (K := K) rfl rfl rfl (hu10 hr)) (pv 4) (pe_int) (fun _ _ => rfl)) (pe_int) (nomark _)) (pw_or1 (pt_cmpR (eqK (K := K) rfl (hu64 hr)) (pv 5) (pe_int) (nomark _)))))) (pss_one (ps_ret (pe_call (ok_L_v_leaf (P := P) (w := w) T) (hr.mono (by omega)) rfl T.g_L_v_leaf T.d_L_v_leaf.kp T.b_L_v_leaf .nil pass0 (pa_cons (pv 0) (pa_cons (pv 1) (pa_cons (pv 2) pa_nil)))))) pss_nil) (pss_cons (ps_if (pt_cmpR op_lt (pv 5) (pe_int) (nomark _)) (pss_cons (ps_set (i := 6) sc_L_v_text.nd rfl (by first | exact Or.inl rfl | exact Or.inr rfl) (pe_call ih (hr.mono (by omega)) rfl T.g_L_v_text T.d_L_v_text.kp T.b_L_v_text .nil pass0 (pa_cons (pv 0) (pa_cons (pv 1) (pa_cons (pv 2) (pa_cons (pe_op op_sub (pv 3) (pe_int)) (pa_cons (pv 4) pa_nil))))))) (pss_one (ps_ret (pe_tup (pa_cons (pe_str) (pa_cons (pv 6) (pa_cons (pe_call ih (hr.mono (by omega)) rfl T.g_L_v_text T.d_L_v_text.kp T.b_L_v_text .nil pass0 (pa_cons (pv 0) (pa_cons (pv 1) (pa_cons (pv 2) (pa_cons (pe_op op_sub (pv 3) (pe_int)) (pa_cons (pv 4) pa_nil)))))) pa_nil))))))) pss_nil) (pss_cons (ps_if (pt_cmpR (eqK (K := K) rfl (hu64 hr)) (pv 5) (pe_int) (nomark _)) (pss_cons (ps_set (i := 7) sc_L_v_text.nd rfl (by first | exact Or.inl rfl | exact Or.inr rfl) (pe_call (ok_L_v_pick (P := P) (w := w) T) (hr.mono (by omega)) rfl T.g_L_v_pick T.d_L_v_pick.kp T.b_L_v_pick .nil pass0 (pa_cons (pv 0) (pa_cons (pe_call (ok_L_v_sets (P := P) (w := w) T) (hr.mono (by omega)) rfl T.g_L_v_sets T.d_L_v_sets.kp T.b_L_v_sets .nil pass0 (pa_cons (pv 1) pa_nil)) pa_nil)))) (pss_cons (ps_set (i := 6) sc_L_v_text.nd rfl (by first | exact Or.inl rfl | exact Or.inr rfl) (pe_call ih (hr.mono (by omega)) rfl T.g_L_v_text T.d_L_v_text.kp T.b_L_v_text .nil pass0 (pa_cons (pv 0) (pa_cons (pv 1) (pa_cons (pv 2) (pa_cons (pe_op op_sub (pv 3) (pe_int)) (pa_cons (pv 4) pa_nil))))))) (pss_one (ps_ret (pe_tup (pa_cons (pe_str) (pa_cons (pv 7) (pa_cons (pv 6) (pa_cons (pe_call ih (hr.mono (by omega)) rfl T.g_L_v_text T.d_L_v_text.kp T.b_L_v_text .nil pass0 (pa_cons (pv 0) (pa_cons (pv 1) (pa_cons (pv 2) (pa_cons (pe_op op_sub (pv 3) (pe_int)) (pa_cons (pv 4) pa_nil)))))) pa_nil))))))))) pss_nil) (pss_cons (ps_par (i := 8) (j := 9) rfl sc_L_v_text.nd rfl rfl (by decide) rfl rfl (pa_cons (pe_lst pa_nil) (pa_cons (pe_call (ok_L_v_pick (P := P) (w := w) T) (hr.mono (by omega)) rfl T.g_L_v_pick T.d_L_v_pick.kp T.b_L_v_pick .nil pass0 (pa_cons (pv 0) (pa_cons (pe_lst (pa_cons (pe_str) (pa_cons (pe_str) pa_nil))) pa_nil))) pa_nil)) rfl) (pss_cons (ps_if (PW.pt (pw_and (pt_cmpR (eqK (K := K) rfl (hu64 hr)) (pv 5) (pe_int) (nomark _)) (pw_and1 (pt_cmpR op_gt (pe_ix (ixK (P := P) (w := w) (K := K) rfl rfl rfl (hu10 hr)) (pv 4) (pe_int) (fun _ _ => rfl)) (pe_int) (nomark _))))) (pss_cons (ps_set (i := 10) sc_L_v_text.nd rfl (by first | exact Or.inl rfl | exact Or.inr rfl) (pe_op (addK (K := K) rfl) (pe_int) (pe_call (ok_L_take (P := P) (w := w) T) (hr.mono (by omega)) rfl T.g_L_take T.d_L_take.kp T.b_L_take .nil pass0 (pa_cons (pv 0) (pa_cons (pe_int) pa_nil))))) (pss_cons (ps_asg (pe_op op_sub (pe_ix (ixK (P := P) (w := w) (K := K) rfl rfl rfl (hu10 hr)) (pv 4) (pe_int) (fun _ _ => rfl)) (pv 10)) (pg_sub (pv 4) (pe_int) (set_list))) (pss_one (ps_ret (pe_tup (pa_cons (pv 9) (pa_cons (tupOfK (K := K) rfl rfl T.f_tuple (pe_lc (own := [("_law_turn", 11)]) (tt := tYes) rfl sc_L_v_text.nd (pi_range1 rfl T.f_range (pa_cons (pv 10) pa_nil)) (blkOk_by (N := N_L_v_text) (sc := defScope sL_v_text) (by decide +kernel)) (fun _ _ _ _ _ => (pg_name (i := 11) sc_L_v_text.nd rfl (by first | exact Or.inl rfl | exact Or.inr rfl))) (fun _ _ _ _ _ => pts_nil) (fun _ _ _ _ _ => (pe_call (ok_L_v_leaf (P := P) (w := w) T) (hr.mono (by omega)) rfl T.g_L_v_leaf T.d_L_v_leaf.kp T.b_L_v_leaf .nil pass0 (pa_cons (pv 0) (pa_cons (pv 1) (pa_cons (pv 2) pa_nil))))))) pa_nil))))))) pss_nil) (pss_cons (ps_for PassesOwn.never rfl (pi_range1 rfl T.f_range (pa_cons (pe_call (ok_L_v_pick (P := P) (w := w) T) (hr.mono (by omega)) rfl T.g_L_v_pick T.d_L_v_pick.kp T.b_L_v_pick .nil pass0 (pa_cons (pv 0) (pa_cons (pe_lst (pa_cons (pe_int) (pa_cons (pe_int) (pa_cons (pe_int) (pa_cons (pe_int) (pa_cons (pe_int) pa_nil)))))) pa_nil))) pa_nil)) (pg_name (i := 11) sc_L_v_text.nd rfl (by first | exact Or.inl rfl | exact Or.inr rfl)) (pss_one (ps_expr (pe_bm PySem.F.plainAttrs_list PySem.F.slot_list_append PySem.F.type_list_append mt_append (pv 8) (pa_cons (pe_call ih (hr.mono (by omega)) rfl T.g_L_v_text T.d_L_v_text.kp T.b_L_v_text .nil pass0 (pa_cons (pv 0) (pa_cons (pv 1) (pa_cons (pv 2) (pa_cons (pe_op op_sub (pv 3) (pe_int)) (pa_cons (pv 4) pa_nil)))))) pa_nil))))) (pss_one (ps_ret (pe_tup (pa_cons (pv 9) (pa_cons (tupOfK (K := K) rfl rfl T.f_tuple (pv 8)) pa_nil))))))))))))), ?_⟩
    rintro ⟨l, l2, p, L, n, cnt, many, deep⟩ O ho hO
    have hn : N3 n := ho.n3
    have hn1 := hn.1
    have hn3 := hn.2
    have c1 : 1 ≤ cnt := ho.c1
    have c4 : cnt ≤ 4 := ho.c4
    have m3 : many ≤ 3 := ho.m3
    have d1 : 1 ≤ deep := ho.d1
    have dd : deep ≤ d + 1 := ho.dd
    have hp : p.pos + cost deep ≤ 100000000 := ho.pos
    have h8 := allS_le8 n hn
    have h8' : 1 ≤ (allS n).length := by
      rw [allS_len n hn]
      exact Nat.one_le_two_pow
    obtain ⟨e, rfl⟩ : ∃ e, deep = e + 1 := ⟨deep - 1, by omega⟩
    have hc := cost_succ e
    have hc1 := cost_pos e
    have hlef : ∀ p', LefOk ⟨l, p', n, cnt, many⟩ := fun p' => ⟨hn, c1, c4, m3⟩
    have ei : ∀ {Γ : TEnv} {M : Mem} {ds : List PyData} {i : Int} {ts : TA}, EAD K ts Γ M ds → EAD K (tCons (tC (.int i)) ts) Γ M (.int i :: ds) := fun h => ead_cons (et_int (K := K)) h
    have hsub : ∀ {Γ : TEnv} {M : Mem}, Γ[3]? = some (some (DT K (dn (e + 1)))) → ET (tOp (rI0 fun i j => .int (i - j)) (tVar 3) (tC (.int 1))) Γ M (DT K (dn e)) := fun h => et_eq (et_op (et_var h) (et_int (K := K)) rx_subI) (congrArg (fun i => DT K (.int i)) (by omega))
    have fin : ∀ {S : Ty} {pre : Mem} (t : Txt) (p' : Pen) (L' : Int), TexX ⟨l, l2, p, L, n, cnt, many, e + 1⟩ t p' L' → S = DT K t.toD → (destOf (fun (a : TexA) T M => ∃ (t : Txt) (p' : Pen) (L' : Int), TexX a t p' L' ∧ T = DT K t.toD ∧ M = [(a.l, penC K p'), (a.l2, leftC K L')]) ⟨l, l2, p, L, n, cnt, many, e + 1⟩).rt S (pre ++ [(l, penC K p'), (l2, leftC K L')]) := fun {S pre} t p' L' hx hS => ⟨_, _, ⟨t, p', L', hx, rfl, rfl⟩, hS ▸ Sub.refl _, List.sublist_append_right _ _⟩
    refine st_seq (st_setL (ew_of (et_op (et_pen (j := 1) rfl rfl rfl) (et_int (K := K)) rx_subI) ⟨1, l2, _, 0, 0, rfl, et_var rfl, et_int (K := K), rfl, ?_⟩))
    refine st_seq (st_set (ew_take (j := 0) (p := p) (ea_cons (et_var rfl) (ea_cons (et_int (K := K)) ea_nil)) rfl (by decide) (by decide) (by show p.pos < 100000000; omega) fun w' p1 hw hon => ?_))
    have hon : p1.pos ≤ p.pos + 1 := hon
    refine st_seq (st_if (b := decide (((e + 1 : Nat) : Int) < 2) || (decide (L - 1 < 4) || ((w' : Int) == 0))) (bt_or (bt_test (et_op (et_var rfl) (et_int (K := K)) rx_B0)) fun _ => bt_or (bt_test (et_op (et_pen (j := 1) rfl rfl rfl) (et_int (K := K)) rx_B0)) fun _ => bt_test (et_op (et_var rfl) (et_int (K := K)) (rx_eq rfl rfl))) (fun _ => ?_) fun hb => st_next ?_)
    · refine st_ret (ew_leaf (j := 0) (p := p1) (hlef p1) (ea_cons (et_var rfl) (ea_cons (et_var rfl) (ea_cons (et_var rfl) ea_nil))) rfl (by show p1.pos + 12 ≤ 100000000; omega) fun t p2 hx hon2 => fin (pre := []) t p2 (L - 1) ⟨hx.1, ?_, ?_, .inl (Int.le_refl _), ?_⟩ rfl)
      · show t.dep ≤ e + 1
        rw [hx.2.1]
        omega
      · show (t.size : Int) ≤ L - (L - 1)
        rw [hx.2.2]
        omega
      · have hon2 : p2.pos ≤ p1.pos + 12 := hon2
        show p2.pos ≤ p.pos + cost (e + 1)
        omega
    have hb1 : ¬ ((e + 1 : Nat) : Int) < 2 := fun h => by
      rw [decide_eq_true h] at hb
      cases hb
    have hb2 : ¬ L - 1 < 4 := fun h => by
      rw [decide_eq_true h, Bool.true_or, Bool.or_true] at hb
      cases hb
    have he : 1 ≤ e := by omega
    have hce : 400 ≤ cost e := by
      obtain ⟨f, rfl⟩ : ∃ f, e = f + 1 := ⟨e - 1, by omega⟩
      have := cost_succ f
      have := cost_pos f
      omega
    have texok : ∀ (p' : Pen) (L' : Int), p'.pos + cost e ≤ 100000000 → TexOk d ⟨l, l2, p', L', n, cnt, many, e⟩ := fun p' L' h => ⟨hn, c1, c4, m3, he, by show e ≤ d; omega, h⟩
    refine st_seq (st_if (b := decide ((w' : Int) < 3)) (bt_test (et_op (et_var rfl) (et_int (K := K)) rx_B0)) (fun _ => ?_) fun _ => st_next ?_)
    · refine st_seq (st_set (ew_text (⟨l, l2, p1, L - 1, n, cnt, many, e⟩ : TexA) [] (texok _ _ (by omega)) (ea_cons (et_var rfl) (ea_cons (et_var rfl) (ea_cons (et_var rfl) (ea_cons (hsub rfl) (ea_cons (et_var rfl) ea_nil))))) rfl fun t1 p2 L2 hx => ?_))
      obtain ⟨x1, x2, x3, x4, x5⟩ := hx
      have x2 : t1.dep ≤ e := x2
      have x3 : (t1.size : Int) ≤ L - 1 - L2 := x3
      have x4 : L - 1 - 1 ≤ L2 ∨ 5 - 2 * (e : Int) ≤ L2 := x4
      have x5 : p2.pos ≤ p1.pos + cost e := x5
      refine st_ret (ew_tup (K := K) (aw_cons (ew_of (et_str (K := K)) (aw_cons (ew_of (et_var rfl) (aw_cons (ew_text (⟨l, l2, p2, L2, n, cnt, many, e⟩ : TexA) [] (texok _ _ (by omega)) (ea_cons (et_var rfl) (ea_cons (et_var rfl) (ea_cons (et_var rfl) (ea_cons (hsub rfl) (ea_cons (et_var rfl) ea_nil))))) rfl fun t2 p3 L3 hy => ?_)))))))
      obtain ⟨y1, y2, y3, y4, y5⟩ := hy
      have y2 : t2.dep ≤ e := y2
      have y3 : (t2.size : Int) ≤ L2 - L3 := y3
      have y4 : L2 - 1 ≤ L3 ∨ 5 - 2 * (e : Int) ≤ L3 := y4
      have y5 : p3.pos ≤ p2.pos + cost e := y5
      refine aw_nil ⟨by show 3 ≤ sizeLine; decide, fin (pre := []) (.thn t1 t2) p3 L3 ⟨?_, ?_, ?_, ?_, ?_⟩ ?_⟩
      · rw [Txt.Ok]
        exact ⟨x1, y1⟩
      · show (Txt.thn t1 t2).dep ≤ e + 1
        rw [Txt.dep]
        omega
      · show ((Txt.thn t1 t2).size : Int) ≤ L - L3
        rw [Txt.size]
        omega
      · show L - 1 ≤ L3 ∨ 5 - 2 * ((e + 1 : Nat) : Int) ≤ L3
        omega
      · show p3.pos ≤ p.pos + cost (e + 1)
        omega
      · rw [Txt.toD]
        exact tt_dt [.str "then", t1.toD, t2.toD]
    refine st_seq (st_if (b := ((w' : Int) == 3)) (bt_test (et_op (et_var rfl) (et_int (K := K)) (rx_eq rfl rfl))) (fun _ => ?_) fun _ => st_next ?_)
    · refine st_seq (st_set (ew_pickD (j := 0) (p := p1) rfl (et_call (ok := fun n : Nat => N3 n) n hn (ea_cons (et_var rfl) ea_nil)) rfl (by rw [List.length_map]; exact h8') (by rw [List.length_map]; omega) (by show p1.pos < 100000000; omega) fun dd p1b hd hon1 => ?_))
      obtain ⟨x, hx, rfl⟩ := List.mem_map.mp hd
      have hon1 : p1b.pos ≤ p1.pos + 1 := hon1
      refine st_seq (st_set (ew_text (⟨l, l2, p1b, L - 1, n, cnt, many, e⟩ : TexA) [] (texok _ _ (by omega)) (ea_cons (et_var rfl) (ea_cons (et_var rfl) (ea_cons (et_var rfl) (ea_cons (hsub rfl) (ea_cons (et_var rfl) ea_nil))))) rfl fun t1 p2 L2 hx => ?_))
      obtain ⟨x1, x2, x3, x4, x5⟩ := hx
      have x2 : t1.dep ≤ e := x2
      have x3 : (t1.size : Int) ≤ L - 1 - L2 := x3
      have x4 : L - 1 - 1 ≤ L2 ∨ 5 - 2 * (e : Int) ≤ L2 := x4
      have x5 : p2.pos ≤ p1b.pos + cost e := x5
      refine st_ret (ew_tup (K := K) (aw_cons (ew_of (et_str (K := K)) (aw_cons (ew_of (et_var rfl) (aw_cons (ew_of (et_var rfl) (aw_cons (ew_text (⟨l, l2, p2, L2, n, cnt, many, e⟩ : TexA) [] (texok _ _ (by omega)) (ea_cons (et_var rfl) (ea_cons (et_var rfl) (ea_cons (et_var rfl) (ea_cons (hsub rfl) (ea_cons (et_var rfl) ea_nil))))) rfl fun t2 p3 L3 hy => ?_)))))))))
      obtain ⟨y1, y2, y3, y4, y5⟩ := hy
      have y2 : t2.dep ≤ e := y2
      have y3 : (t2.size : Int) ≤ L2 - L3 := y3
      have y4 : L2 - 1 ≤ L3 ∨ 5 - 2 * (e : Int) ≤ L3 := y4
      have y5 : p3.pos ≤ p2.pos + cost e := y5
      refine aw_nil ⟨by show 4 ≤ sizeLine; decide, fin (pre := []) (.ite x t1 t2) p3 L3 ⟨?_, ?_, ?_, ?_, ?_⟩ ?_⟩
      · rw [Txt.Ok]
        exact ⟨hx, x1, y1⟩
      · show (Txt.ite x t1 t2).dep ≤ e + 1
        rw [Txt.dep]
        omega
      · show ((Txt.ite x t1 t2).size : Int) ≤ L - L3
        rw [Txt.size]
        omega
      · show L - 1 ≤ L3 ∨ 5 - 2 * ((e + 1 : Nat) : Int) ≤ L3
        omega
      · show p3.pos ≤ p.pos + cost (e + 1)
        omega
      · rw [Txt.toD]
        exact tt_dt [.str "if", setD x, t1.toD, t2.toD]
    refine st_seq (st_par (aw_cons (ew_own fun l3 hz => aw_cons (ew_pickD (j := 1) (p := p1) (ds := [.str "we", .str "they"]) rfl (et_lstD (K := K) (ead_cons (et_str (K := K)) (ead_cons (et_str (K := K)) ead_nil)) (by show 2 ≤ sizeLine; decide)) rfl (by decide) (by decide) (by show p1.pos < 100000000; omega) fun d p2 hd hon2 => aw_nil ⟨_, _, rfl, ?_⟩))))
    obtain ⟨we, rfl⟩ : ∃ we, d = .str (sideT we) := by
      rcases List.mem_cons.mp hd with rfl | hd
      · exact ⟨true, rfl⟩
      · rw [List.mem_singleton.mp hd]
        exact ⟨false, rfl⟩
    have hon2 : p2.pos ≤ p1.pos + 1 := hon2
    refine st_seq (st_if (b := ((w' : Int) == 4) && decide (7 < L - 1)) (bt_and (bt_test (et_op (et_var rfl) (et_int (K := K)) (rx_eq rfl rfl))) fun _ => bt_test (et_op (et_pen (j := 2) rfl rfl rfl) (et_int (K := K)) rx_B0)) (fun hb => ?_) fun _ => st_next ?_)
    · have hb7 : 7 < L - 1 := by
        rw [Bool.and_eq_true] at hb
        exact of_decide_eq_true hb.2
      refine st_seq (st_set (ew_op (ew_of (et_int (K := K)) (ew_take (j := 1) (p := p2) (ea_cons (et_var rfl) (ea_cons (et_int (K := K)) ea_nil)) rfl (by decide) (by decide) (by show p2.pos < 100000000; omega) fun m p3 hm hon3 => ⟨DT K (dn (4 + m)), rx_sub rx_addI (fun I v h => ?_), ?_⟩))))
      · have e : (4 : Int) + (m : Int) = ((4 + m : Nat) : Int) := by omega
        rw [e] at h
        exact h
      have hon3 : p3.pos ≤ p2.pos + 1 := hon3
      have hm : m < 3 := hm
      refine st_seq (st_setL (ew_of (et_op (et_pen (j := 2) rfl rfl rfl) (et_var rfl) rx_subI) ⟨2, l2, _, 0, 0, rfl, et_var rfl, et_int (K := K), rfl, ?_⟩))
      refine st_ret (ew_tup (K := K) (aw_cons (ew_of (et_var rfl) ?_)))
      refine aw_cons (ew_tupleL ?_)
      refine ew_lc (xs := List.range (4 + m)) (gT := fun s => DT K (dn s)) (ws := fun s => [(11, DT K (dn s))])
        (fun i Ts M' => ∃ (us : List Txt) (p' : Pen), Ts = (us.map Txt.toD).map (DT K) ∧ us.length = i ∧ (∀ t ∈ us, LeafX n cnt many t) ∧ p'.pos ≤ p3.pos + 12 * i ∧ M' = [(l3, lstC []), (l, penC K p'), (l2, leftC K (L - 1 - ((4 + m : Nat) : Int)))])
        (ix_R (ea_cons (et_var rfl) ea_nil) (by omega)) (fun _ _ => gt_name) (fun _ => rfl) ⟨[], p3, rfl, rfl, (fun _ h => nomatch h), Nat.le_refl _, rfl⟩ ?_ (sz100 (by rw [List.length_range]; omega)) ?_
      · rintro i s Ts _ hi ⟨us, p4, rfl, hl, ht, hpos, rfl⟩
        obtain ⟨rfl, hin⟩ := range_at hi
        refine ⟨rfl, fun O' => ew_leaf (j := 1) (p := p4) (hlef p4) (ea_cons (et_var rfl) (ea_cons (et_var rfl) (ea_cons (et_var rfl) ea_nil))) rfl (by show p4.pos + 12 ≤ 100000000; omega) fun t p5 hx hon5 => ⟨rfl, us ++ [t], p5, ?_, ?_, ?_, ?_, rfl⟩⟩
        · rw [List.map_append, List.map_append]
          rfl
        · rw [List.length_append, hl]
          rfl
        · intro z h
          rcases List.mem_append.mp h with h | h
          · exact ht z h
          · rw [List.mem_singleton.mp h]
            exact hx
        · have hon5 : p5.pos ≤ p4.pos + 12 := hon5
          omega
      · rintro Ts _ hT ⟨us, p4, rfl, hl, ht, hpos, rfl⟩ _
        rw [List.length_range] at hl hpos
        refine ⟨_, rfl, aw_nil ⟨by show 2 ≤ sizeLine; decide, fin (pre := [(l3, lstC [])]) (.ch we us) p4 (L - 1 - ((4 + m : Nat) : Int)) ⟨?_, ?_, ?_, ?_, ?_⟩ ?_⟩⟩
        · rw [Txt.Ok]
          exact ⟨by omega, oks_all.mpr fun t h => (ht t h).1⟩
        · show (Txt.ch we us).dep ≤ e + 1
          rw [Txt.dep]
          have : ∀ l : List Txt, (∀ t ∈ l, LeafX n cnt many t) → Txt.deps l ≤ 1 := by
            intro l
            induction l with
            | nil => exact fun _ => Nat.zero_le _
            | cons t l ih =>
              intro h
              rw [Txt.deps, (h t List.mem_cons_self).2.1]
              have := ih fun u hu => h u (List.mem_cons_of_mem _ hu)
              omega
          have := this us ht
          omega
        · show ((Txt.ch we us).size : Int) ≤ L - (L - 1 - ((4 + m : Nat) : Int))
          rw [Txt.size]
          have := sizes_le 1 us fun t h => by rw [(ht t h).2.2]; exact Nat.le_refl _
          omega
        · show L - 1 ≤ L - 1 - ((4 + m : Nat) : Int) ∨ 5 - 2 * ((e + 1 : Nat) : Int) ≤ L - 1 - ((4 + m : Nat) : Int)
          omega
        · show p4.pos ≤ p.pos + cost (e + 1)
          omega
        · rw [Txt.toD, toDs_map, tt_dt]
          exact tup2
    refine st_cut (fun Γ M => ∃ (us : List Txt) (p' : Pen) (L' : Int) (o10 o11 : Option Ty), (∀ t ∈ us, t.Ok n cnt many ∧ t.dep ≤ e) ∧ us.length ≤ 3 ∧ (Txt.sizes us : Int) ≤ L - 1 - L' ∧ 5 - 2 * ((e + 1 : Nat) : Int) ≤ L' ∧ p'.pos ≤ p.pos + cost (e + 1) ∧
      Γ = [some (VT (.ref l)), some (DT K (dn n)), some (DT K (.tuple [dn cnt, dn many])), some (DT K (dn (e + 1))), some (VT (.ref l2)), some (DT K (dn w')), none, none, some (VT (.ref l3)), some (DT K (.str (sideT we))), o10, o11] ∧ M = [(l3, lstC ((us.map Txt.toD).map (DT K))), (l, penC K p'), (l2, leftC K L')]) ?_ ?_
    · refine st_forRW (K := K) (ew_aw1 (ew_pickD (j := 1) (p := p2) rfl (et_lstD (K := K) (ei (ei (ei (ei (ei ead_nil))))) (by show 5 ≤ sizeLine; decide)) rfl (by decide) (by decide) (by show p2.pos < 100000000; omega) fun d p3 hd hon3 => ?_))
      have hon3 : p3.pos ≤ p2.pos + 1 := hon3
      obtain ⟨m, rfl, hm⟩ : ∃ m : Nat, d = dn m ∧ m ≤ 3 := by
        simp only [List.mem_cons, List.not_mem_nil, or_false] at hd
        rcases hd with rfl | rfl | rfl | rfl | rfl
        · exact ⟨1, rfl, by decide⟩
        · exact ⟨2, rfl, by decide⟩
        · exact ⟨2, rfl, by decide⟩
        · exact ⟨2, rfl, by decide⟩
        · exact ⟨3, rfl, by decide⟩
      refine ⟨m, rfl, st_for (xs := List.range m) (gT := fun i => DT K (dn i)) (ws := fun i => [(11, DT K (dn i))])
        (fun i Γ M => ∃ (us : List Txt) (p' : Pen) (L' : Int) (o11 : Option Ty), (∀ t ∈ us, t.Ok n cnt many ∧ t.dep ≤ e) ∧ us.length = i ∧ (Txt.sizes us : Int) ≤ L - 1 - L' ∧ (L - 1 - (i : Int) ≤ L' ∨ 6 - 2 * (e : Int) - (i : Int) ≤ L') ∧ p'.pos ≤ p3.pos + cost e * i ∧
          Γ = [some (VT (.ref l)), some (DT K (dn n)), some (DT K (.tuple [dn cnt, dn many])), some (DT K (dn (e + 1))), some (VT (.ref l2)), some (DT K (dn w')), none, none, some (VT (.ref l3)), some (DT K (.str (sideT we))), none, o11] ∧ M = [(l3, lstC ((us.map Txt.toD).map (DT K))), (l, penC K p'), (l2, leftC K L')])
        (ix_R (ea_cons (et_int (K := K)) ea_nil) (by omega)) (fun _ _ => gt_name) ⟨[], p3, L - 1, none, (fun _ h => nomatch h), rfl, by rw [Txt.sizes]; omega, .inl (by omega), Nat.le_refl _, rfl, rfl⟩ ?_ ?_⟩
      · rintro i s _ _ hi ⟨us, p4, L4, o11, hu, hl, hs, hL, hpos, rfl, rfl⟩
        obtain ⟨rfl, him⟩ := range_at hi
        have hmul : cost e * s ≤ cost e * 2 := Nat.mul_le_mul_left _ (by omega)
        refine st_app rfl ⟨0, _, rfl⟩ (ew_text (⟨l, l2, p4, L4, n, cnt, many, e⟩ : TexA) [(l3, lstC ((us.map Txt.toD).map (DT K)))] (texok _ _ (by omega)) (ea_cons (et_var rfl) (ea_cons (et_var rfl) (ea_cons (et_var rfl) (ea_cons (hsub rfl) (ea_cons (et_var rfl) ea_nil))))) rfl fun t p5 L5 hx => ⟨0, _, rfl, ?_, us ++ [t], p5, L5, _, ?_, ?_, ?_, ?_, ?_, rfl, ?_⟩)
        · rw [List.length_map, List.length_map]
          exact sz100 (by omega)
        · intro z h
          rcases List.mem_append.mp h with h | h
          · exact hu z h
          · rw [List.mem_singleton.mp h]
            exact ⟨hx.1, hx.2.1⟩
        · rw [List.length_append, hl]
          rfl
        · have x3 : (t.size : Int) ≤ L4 - L5 := hx.2.2.1
          have : Txt.sizes (us ++ [t]) = Txt.sizes us + t.size := by
            rw [sizes_sum, sizes_sum, List.map_append, List.sum_append]
            rfl
          omega
        · have x4 : L4 - 1 ≤ L5 ∨ 5 - 2 * (e : Int) ≤ L5 := hx.2.2.2.1
          omega
        · have x5 : p5.pos ≤ p4.pos + cost e := hx.2.2.2.2
          rw [Nat.mul_succ]
          omega
        · rw [List.map_append, List.map_append]
          rfl
      · rintro _ _ ⟨us, p4, L4, o11, hu, hl, hs, hL, hpos, rfl, rfl⟩
        rw [List.length_range] at hl hL hpos
        have hmul : cost e * m ≤ cost e * 3 := Nat.mul_le_mul_left _ hm
        exact ⟨us, p4, L4, _, _, hu, by omega, hs, by omega, by omega, rfl, rfl⟩
    · rintro _ _ ⟨us, p4, L4, o10, o11, hu, hl, hs, hL, hpos, rfl, rfl⟩
      refine st_ret (ew_of (et_tup (K := K) (ea_cons (et_var rfl) (ea_cons (et_tupleO (j := 0) rfl (et_var rfl)) ea_nil)) (by show 2 ≤ sizeLine; decide)) (fin (pre := [(l3, lstC ((us.map Txt.toD).map (DT K)))]) (.ch we us) p4 L4 ⟨?_, ?_, ?_, .inr hL, hpos⟩ ?_))
      · rw [Txt.Ok]
        exact ⟨by omega, oks_all.mpr fun t h => (hu t h).1⟩
      · show (Txt.ch we us).dep ≤ e + 1
        rw [Txt.dep]
        have : ∀ l : List Txt, (∀ t ∈ l, t.Ok n cnt many ∧ t.dep ≤ e) → Txt.deps l ≤ e := by
          intro l
          induction l with
          | nil => exact fun _ => Nat.zero_le _
          | cons t l ih =>
            intro h
            rw [Txt.deps]
            have := (h t List.mem_cons_self).2
            have := ih fun u hu => h u (List.mem_cons_of_mem _ hu)
            omega
        have := this us hu
        omega
      · show ((Txt.ch we us).size : Int) ≤ L - L4
        rw [Txt.size]
        omega
      · rw [Txt.toD, toDs_map, tt_dt]
        exact tup2
end
end Tw
end
/-! W25 -/
section
set_option Elab.async false
set_option linter.all false
set_option autoImplicit false
set_option maxRecDepth 100000
set_option maxHeartbeats 4000000
/-! The walk: drawn systems. -/
namespace Tw
open PySem PySem.Spec PyProof.Rows L2
open Evl (Ex ex_l ex_t ex_rd)
section
variable {P : Program} {w : World} {K : PySem.W.Frag} {mg : PySem.Str → Option Value} {base : Heap}
structure DrawOk (n many : Nat) (ts : List Txt) : Prop where
  n3 : N3 n
  m3 : many ≤ 3
  l1 : 1 ≤ ts.length
  l4 : ts.length ≤ 4
  ok : TsOk n many ts
  dep : ∀ t ∈ ts, t.dep ≤ 5
  size : Txt.sizes ts ≤ 80
abbrev costS : Nat := 410000
structure SyA where
  l : Addr
  p : Pen
def sp_L_v_system (K : PySem.W.Frag) : Sp := spG (fun a : SyA => a.p.pos + costS ≤ posM) (fun a => [(a.l, penC K a.p)]) (fun a => [VT (.ref a.l), DT K (.int 3), DT K (.int 5)])
  (fun a T M => ∃ (n many : Nat) (ts : List Txt) (p' : Pen), DrawOk n many ts ∧ a.p.On p' costS ∧ T = DT K (sysD n many ts) ∧ M = [(a.l, penC K p')])
theorem ok_L_v_system (T : Tx K mg) : FnOk P w K mg base CX0 15 aL_v_system (fdAt K aL_v_system) P_L_v_system (sp_L_v_system K) := by
  have ih := ok_L_v_text (P := P) (w := w) (base := base) T 5
  refine fn_ok T.d_L_v_system sc_L_v_system (fun _ => rfl) fun cdv A outer s H E hr => ⟨_, (pss_cons (ps_par (i := 3) (j := 4) rfl sc_L_v_system.nd rfl rfl (by decide) rfl rfl (pa_cons (pe_call (ok_L_v_pick (P := P) (w := w) T) (hr.mono (by omega)) rfl T.g_L_v_pick T.d_L_v_pick.kp T.b_L_v_pick .nil pass0 (pa_cons (pv 0) (pa_cons (pe_slice (slK (K := K) rfl) (pe_lst (pa_cons (pe_int) (pa_cons (pe_int) (pa_cons (pe_int) (pa_cons (pe_int) (pa_cons (pe_int) (pa_cons (pe_int) (pa_cons (pe_int) pa_nil)))))))) po_none (po_some (pe_op (mulK (K := K) rfl) (pe_int) (pv 1)))) pa_nil))) (pa_cons (pe_call (ok_L_v_pick (P := P) (w := w) T) (hr.mono (by omega)) rfl T.g_L_v_pick T.d_L_v_pick.kp T.b_L_v_pick .nil pass0 (pa_cons (pv 0) (pa_cons (pe_lst (pa_cons (pe_int) (pa_cons (pe_int) (pa_cons (pe_int) (pa_cons (pe_int) (pa_cons (pe_int) (pa_cons (pe_int) (pa_cons (pe_int) (pa_cons (pe_int) pa_nil))))))))) pa_nil))) pa_nil)) rfl) (pss_cons (ps_par3 (i := 3) (j := 5) (l := 6) rfl sc_L_v_system.nd rfl rfl rfl (by decide) (by decide) (by decide) rfl rfl rfl (pa_cons (pe_callB (call_min2' rfl) rfl T.f_min bt_min (pa_cons (pv 3) (pa_cons (pv 1) pa_nil))) (pa_cons (pe_lst pa_nil) (pa_cons (pe_call (ok_L_v_pick (P := P) (w := w) T) (hr.mono (by omega)) rfl T.g_L_v_pick T.d_L_v_pick.kp T.b_L_v_pick .nil pass0 (pa_cons (pv 0) (pa_cons (pe_lst (pa_cons (pe_int) (pa_cons (pe_int) (pa_cons (pe_int) (pa_cons (pe_int) (pa_cons (pe_int) (pa_cons (pe_int) (pa_cons (pe_int) (pa_cons (pe_int) pa_nil))))))))) pa_nil))) pa_nil))) rfl) (pss_cons (ps_for PassesOwn.never rfl (pi_range1 rfl T.f_range (pa_cons (pv 6) pa_nil)) (pg_name (i := 7) sc_L_v_system.nd rfl (by first | exact Or.inl rfl | exact Or.inr rfl)) (pss_one (ps_expr (pe_bm PySem.F.plainAttrs_list PySem.F.slot_list_append PySem.F.type_list_append mt_append (pv 5) (pa_cons (pe_call ih (hr.mono (by omega)) rfl T.g_L_v_text T.d_L_v_text.kp T.b_L_v_text .nil pass0 (pa_cons (pv 0) (pa_cons (pv 3) (pa_cons (pe_tup (pa_cons (pv 6) (pa_cons (pv 4) pa_nil))) (pa_cons (pe_op (addK (K := K) rfl) (pe_int) (pe_call (ok_L_take (P := P) (w := w) T) (hr.mono (by omega)) rfl T.g_L_take T.d_L_take.kp T.b_L_take .nil pass0 (pa_cons (pv 0) (pa_cons (pv 2) pa_nil)))) (pa_cons (pe_lst (pa_cons (pe_callB (call_min2' rfl) rfl T.f_min bt_min (pa_cons (pe_int) (pa_cons (pe_op op_fdiv (pe_int) (pv 6)) pa_nil))) pa_nil)) pa_nil)))))) pa_nil))))) (pss_one (ps_ret (pe_tup (pa_cons (pv 3) (pa_cons (pv 4) (pa_cons (tupOfK (K := K) rfl rfl T.f_tuple (pv 5)) pa_nil))))))))), ?_⟩
  rintro ⟨l, p⟩ O hp hO
  have hp : p.pos + 410000 ≤ 100000000 := hp
  have ei : ∀ {Γ : TEnv} {M : Mem} {ds : List PyData} {i : Int} {ts : TA}, EAD K ts Γ M ds → EAD K (tCons (tC (.int i)) ts) Γ M (.int i :: ds) := fun h => ead_cons (et_int (K := K)) h
  refine st_seq (st_par (aw_cons (ew_pickD (j := 0) (p := p) (ds := [.int 1, .int 2, .int 2, .int 2, .int 3, .int 3]) rfl (et_eq (et_slLD (et_lstD (K := K) (ei (ei (ei (ei (ei (ei (ei ead_nil))))))) (by show 7 ≤ sizeLine; decide)) ot_no (ot_int (et_op (et_int (K := K)) (et_var rfl) (rx_mulI (.inl ⟨by decide, by decide⟩))))) ?_) rfl (by decide) (by decide) (by show p.pos < 100000000; omega) fun d p1 hd hon => ?_)))
  · exact congrArg (fun l => DT K (.list l)) (cut_to _ 6)
  have hon : p1.pos ≤ p.pos + 1 := hon
  obtain ⟨n, rfl, hn⟩ : ∃ n : Nat, d = dn n ∧ 1 ≤ n ∧ n ≤ 3 := by
    simp only [List.mem_cons, List.not_mem_nil, or_false] at hd
    rcases hd with rfl | rfl | rfl | rfl | rfl | rfl
    · exact ⟨1, rfl, by decide⟩
    · exact ⟨2, rfl, by decide⟩
    · exact ⟨2, rfl, by decide⟩
    · exact ⟨2, rfl, by decide⟩
    · exact ⟨3, rfl, by decide⟩
    · exact ⟨3, rfl, by decide⟩
  refine aw_cons (ew_pickD (j := 0) (p := p1) rfl (et_lstD (K := K) (ei (ei (ei (ei (ei (ei (ei (ei ead_nil)))))))) (by show 8 ≤ sizeLine; decide)) rfl (by decide) (by decide) (by show p1.pos < 100000000; omega) fun d p2 hd hon2 => aw_nil ⟨_, _, rfl, ?_⟩)
  have hon2 : p2.pos ≤ p1.pos + 1 := hon2
  obtain ⟨many, rfl, hm⟩ : ∃ n : Nat, d = dn n ∧ n ≤ 3 := by
    simp only [List.mem_cons, List.not_mem_nil, or_false] at hd
    rcases hd with rfl | rfl | rfl | rfl | rfl | rfl | rfl | rfl
    · exact ⟨0, rfl, by decide⟩
    · exact ⟨0, rfl, by decide⟩
    · exact ⟨1, rfl, by decide⟩
    · exact ⟨1, rfl, by decide⟩
    · exact ⟨1, rfl, by decide⟩
    · exact ⟨2, rfl, by decide⟩
    · exact ⟨2, rfl, by decide⟩
    · exact ⟨3, rfl, by decide⟩
  have hmin : (if (3 : Int) < (n : Int) then (3 : Int) else (n : Int)) = (n : Int) := if_neg (by omega)
  refine st_seq (st_par3 (aw_cons (ew_of (T := DT K (dn n)) (et_eq (et_cb (ea_cons (et_var rfl) (ea_cons (et_var rfl) ea_nil)) cx_min) (congrArg (fun i => DT K (.int i)) hmin)) (aw_cons (ew_own fun lf hz => ?_)))))
  refine aw_cons (ew_pickD (j := 1) (p := p2) rfl (et_lstD (K := K) (ei (ei (ei (ei (ei (ei (ei (ei ead_nil)))))))) (by show 8 ≤ sizeLine; decide)) rfl (by decide) (by decide) (by show p2.pos < 100000000; omega) fun d p3 hd hon3 => aw_nil ⟨_, _, _, rfl, ?_⟩)
  have hon3 : p3.pos ≤ p2.pos + 1 := hon3
  obtain ⟨cnt, rfl, hc⟩ : ∃ n : Nat, d = dn n ∧ 1 ≤ n ∧ n ≤ 4 := by
    simp only [List.mem_cons, List.not_mem_nil, or_false] at hd
    rcases hd with rfl | rfl | rfl | rfl | rfl | rfl | rfl | rfl
    · exact ⟨1, rfl, by decide⟩
    · exact ⟨1, rfl, by decide⟩
    · exact ⟨2, rfl, by decide⟩
    · exact ⟨2, rfl, by decide⟩
    · exact ⟨2, rfl, by decide⟩
    · exact ⟨3, rfl, by decide⟩
    · exact ⟨3, rfl, by decide⟩
    · exact ⟨4, rfl, by decide⟩
  have hN3 : N3 n := hn
  have hc5 : ∀ e, e ≤ 5 → cost e ≤ 102400 := by
    intro e he
    unfold cost
    have := Nat.pow_le_pow_right (n := 4) (by decide) he
    omega
  let L0 : Int := if (60 : Int) / (cnt : Int) < 20 then (60 : Int) / (cnt : Int) else 20
  have hL : 15 ≤ L0 ∧ L0 ≤ 20 ∧ (L0 + 5) * (cnt : Int) ≤ 80 := by
    show 15 ≤ (if (60 : Int) / (cnt : Int) < 20 then (60 : Int) / (cnt : Int) else 20) ∧ _
    have : cnt = 1 ∨ cnt = 2 ∨ cnt = 3 ∨ cnt = 4 := by omega
    rcases this with rfl | rfl | rfl | rfl <;> decide
  refine st_cut (fun Γ M => ∃ (ts : List Txt) (p' : Pen) (o7 : Option Ty), (∀ t ∈ ts, t.Ok n cnt many ∧ t.dep ≤ 5) ∧ ts.length = cnt ∧ Txt.sizes ts ≤ 80 ∧ p'.pos ≤ p.pos + 410000 ∧
    Γ = [some (VT (.ref l)), some (DT K (.int 3)), some (DT K (.int 5)), some (DT K (dn n)), some (DT K (dn many)), some (VT (.ref lf)), some (DT K (dn cnt)), o7] ∧ M = [(lf, lstC ((ts.map Txt.toD).map (DT K))), (l, penC K p')]) ?_ ?_
  · refine st_for (xs := List.range cnt) (gT := fun i => DT K (dn i)) (ws := fun i => [(7, DT K (dn i))])
      (fun i Γ M => ∃ (ts : List Txt) (p' : Pen) (o7 : Option Ty), (∀ t ∈ ts, t.Ok n cnt many ∧ t.dep ≤ 5) ∧ ts.length = i ∧ (Txt.sizes ts : Int) ≤ (L0 + 5) * (i : Int) ∧ p'.pos ≤ p3.pos + 102401 * i ∧
        Γ = [some (VT (.ref l)), some (DT K (.int 3)), some (DT K (.int 5)), some (DT K (dn n)), some (DT K (dn many)), some (VT (.ref lf)), some (DT K (dn cnt)), o7] ∧ M = [(lf, lstC ((ts.map Txt.toD).map (DT K))), (l, penC K p')])
      (ix_R (ea_cons (et_var rfl) ea_nil) (by omega)) (fun _ _ => gt_name) ⟨[], p3, none, (fun _ h => nomatch h), rfl, by rw [Txt.sizes]; omega, Nat.le_refl _, rfl, rfl⟩ ?_ ?_
    · rintro i s _ _ hi ⟨ts, p4, o7, ht, hl, hs, hpos, rfl, rfl⟩
      obtain ⟨rfl, hic⟩ := range_at hi
      refine st_app rfl ⟨0, _, rfl⟩ (ew_mem (ew_callF (aw_cons (ew_of (et_var rfl) (aw_cons (ew_of (et_var rfl) (aw_cons (ew_of (et_tupD (K := K) (ead_cons (et_var rfl) (ead_cons (et_var rfl) ead_nil)) (by show 2 ≤ sizeLine; decide)) ?_))))))))
      refine aw_cons (ew_op (ew_of (et_int (K := K)) (ew_take (j := 1) (p := p4) (ea_cons (et_var rfl) (ea_cons (et_var rfl) ea_nil)) rfl (by decide) (by decide) (by show p4.pos < 100000000; omega) fun e p5 he hon5 => ⟨DT K (dn (1 + e)), rx_sub rx_addI (fun I v h => ?_), ?_⟩)))
      · have q : (1 : Int) + (e : Int) = ((1 + e : Nat) : Int) := by omega
        rw [q] at h
        exact h
      have he : e < 5 := he
      have hon5 : p5.pos ≤ p4.pos + 1 := hon5
      refine aw_cons (ew_lst (aw_of (ea_cons (et_cb (ea_cons (et_int (K := K)) (ea_cons (et_op (et_int (K := K)) (et_var rfl) (rx_I (K := K) (g := fun i j => i / j) ⟨by omega, by omega⟩)) ea_nil)) cx_min) ea_nil) ⟨by show 1 ≤ sizeLine; decide, fun l2 hz2 => aw_nil ?_⟩))
      have hce := hc5 (1 + e) (by omega)
      refine ⟨⟨l, l2, p5, L0, n, cnt, many, 1 + e⟩, [(lf, lstC ((ts.map Txt.toD).map (DT K)))], rfl, ⟨hN3, hc.1, hc.2, hm, by show 1 ≤ 1 + e; omega, by show 1 + e ≤ 5; omega, by show p5.pos + cost (1 + e) ≤ 100000000; omega⟩, List.perm_append_comm (l₁ := [(l2, leftC K L0), (lf, lstC ((ts.map Txt.toD).map (DT K)))]) (l₂ := [(l, penC K p5)]), ?_⟩
      rintro T M' ⟨t, p6, L6, hx, rfl, rfl⟩
      obtain ⟨x1, x2, x3, x4, x5⟩ := hx
      have x2 : t.dep ≤ 1 + e := x2
      have x3 : (t.size : Int) ≤ L0 - L6 := x3
      have x4 : L0 - 1 ≤ L6 ∨ 5 - 2 * ((1 + e : Nat) : Int) ≤ L6 := x4
      have x5 : p6.pos ≤ p5.pos + cost (1 + e) := x5
      refine ⟨rfl, [(lf, lstC ((ts.map Txt.toD).map (DT K))), (l, penC K p6), (l2, leftC K L6)], List.perm_append_comm (l₁ := [(lf, lstC ((ts.map Txt.toD).map (DT K)))]), [(lf, lstC ((ts.map Txt.toD).map (DT K))), (l, penC K p6)], List.sublist_append_left [_, _] [_], 0, _, rfl, ?_, ts ++ [t], p6, _, ?_, ?_, ?_, ?_, rfl, ?_⟩
      · rw [List.length_map, List.length_map]
        exact sz100 (by omega)
      · intro z h
        rcases List.mem_append.mp h with h | h
        · exact ht z h
        · rw [List.mem_singleton.mp h]
          exact ⟨x1, by omega⟩
      · rw [List.length_append, hl]
        rfl
      · have e1 : Txt.sizes (ts ++ [t]) = Txt.sizes ts + t.size := by
          rw [sizes_sum, sizes_sum, List.map_append, List.sum_append]
          rfl
        have e2 : (L0 + 5) * ((s + 1 : Nat) : Int) = (L0 + 5) * (s : Int) + (L0 + 5) := by
          rw [Int.natCast_add, Int.mul_add]
          omega
        omega
      · omega
      · rw [List.map_append, List.map_append]
        rfl
    · rintro _ _ ⟨ts, p4, o7, ht, hl, hs, hpos, rfl, rfl⟩
      rw [List.length_range] at hl hs hpos
      exact ⟨ts, p4, o7, ht, hl, by omega, by omega, rfl, rfl⟩
  · rintro _ _ ⟨ts, p4, o7, ht, hl, hs, hpos, rfl, rfl⟩
    refine st_ret (ew_of (et_tup (K := K) (ea_cons (et_var rfl) (ea_cons (et_var rfl) (ea_cons (et_tupleO (j := 0) rfl (et_var rfl)) ea_nil))) (by show 3 ≤ sizeLine; decide)) ⟨_, _, ⟨n, many, ts, p4, ⟨hN3, hm, by omega, by omega, fun t h => hl ▸ (ht t h).1, fun t h => (ht t h).2, hs⟩, hpos, rfl, rfl⟩, ?_, List.sublist_append_right [_] [_]⟩)
    rw [tt_dt]
    have := tt_dt (K := K) [dn n, dn many, .tuple (ts.map Txt.toD)]
    exact this ▸ Sub.refl _
end
end Tw
end
/-! W26 -/
section
set_option Elab.async false
set_option linter.all false
set_option autoImplicit false
set_option maxRecDepth 100000
set_option maxHeartbeats 4000000
/-! Plain facts: small systems, texts put, notations. -/
namespace Tw
open PySem PySem.Spec PyProof.Rows L2
/-! ### small systems -/
theorem plcs_path : ∀ (d : Nat) (p : Plc) (t : Txt), ∀ q ∈ plcs d p t, q.2.length < p.2.length + t.dep
  | 0, p, t, q, h => by
    unfold plcs at h
    cases h
  | d + 1, p, t, q, h => by
    have h1 : 1 ≤ t.dep := by cases t <;> rw [Txt.dep] <;> omega
    unfold plcs at h
    rcases List.mem_cons.mp h with rfl | h
    · omega
    · obtain ⟨u, hu, hq⟩ := List.mem_flatMap.mp h
      have h2 := plcs_path d _ _ q hq
      have h3 := kid_dep (List.fst_mem_of_mem_zipIdx hu)
      rw [List.length_append, List.length_singleton] at h2
      omega
theorem plcsOf_size {ts : List Txt} (h : ∀ t ∈ ts, t.dep ≤ 12) : (plcsOf ts).length = Txt.sizes ts := by
  have : ∀ (l : List Txt) (k : Nat), (∀ t ∈ l, t.dep ≤ 12) → ((l.zipIdx k).flatMap fun u => plcs 12 (u.2, []) u.1).length = Txt.sizes l := by
    intro l
    induction l with
    | nil => exact fun _ _ => rfl
    | cons t l ih =>
      intro k hl
      have h1 := ih (k + 1) fun u hu => hl u (List.mem_cons_of_mem _ hu)
      have h3 := plcs_len 12 (k, []) t (hl t List.mem_cons_self)
      rw [List.zipIdx_cons, List.flatMap_cons, List.length_append, h3, h1, Txt.sizes]
  exact this ts 0 h
theorem small_of {ts : List Txt} (h : ∀ t ∈ ts, t.dep ≤ 6) (hs : Txt.sizes ts ≤ 100) : smallB ts = true := by
  unfold smallB
  rw [plcsOf_size fun t ht => Nat.le_trans (h t ht) (by decide), decide_eq_true hs, Bool.true_and, List.all_eq_true]
  intro q hq
  unfold plcsOf at hq
  obtain ⟨u, hu, hq⟩ := List.mem_flatMap.mp hq
  have h1 := plcs_path 12 _ _ q hq
  have h2 := h u.1 (List.fst_mem_of_mem_zipIdx hu)
  rw [decide_eq_true_eq]
  have h1 : q.2.length < 0 + u.1.dep := h1
  omega
theorem size_le_sizes {t : Txt} : ∀ {l : List Txt}, t ∈ l → t.size ≤ Txt.sizes l
  | [], h => nomatch h
  | u :: l, h => by
    rw [Txt.sizes]
    rcases List.mem_cons.mp h with rfl | h
    · omega
    · have := size_le_sizes h
      omega
section
variable {n many : Nat} {ts : List Txt}
theorem DrawOk.sys (h : DrawOk n many ts) : SysOk n many ts := ⟨h.n3, h.m3, h.l1, h.l4, h.ok, fun t ht => Nat.le_trans (h.dep t ht) (by decide), fun t ht => Nat.le_trans (size_le_sizes ht) (Nat.le_trans h.size (by decide))⟩
theorem DrawOk.small (h : DrawOk n many ts) : smallB ts = true := small_of (fun t ht => Nat.le_trans (h.dep t ht) (by decide)) (Nat.le_trans h.size (by decide))
theorem ok_more {cnt c2 : Nat} (hc : cnt ≤ c2) : ∀ t : Txt, t.Ok n cnt many → t.Ok n c2 many
  | .skip, _ => by rw [Txt.Ok]; trivial
  | .go _, h => by rw [Txt.Ok] at h ⊢; exact h
  | .call _, h => by rw [Txt.Ok] at h ⊢; omega
  | .part _, h => by rw [Txt.Ok] at h ⊢; exact h
  | .thn a b, h => by rw [Txt.Ok] at h ⊢; exact ⟨ok_more hc a h.1, ok_more hc b h.2⟩
  | .ite x a b, h => by rw [Txt.Ok] at h ⊢; exact ⟨h.1, ok_more hc a h.2.1, ok_more hc b h.2.2⟩
  | .ch w l, h => by rw [Txt.Ok] at h ⊢; exact ⟨h.1, go l h.2⟩
where go : ∀ l : List Txt, Txt.Oks n cnt many l → Txt.Oks n c2 many l
  | [], _ => by rw [Txt.Oks]; trivial
  | t :: l, h => by rw [Txt.Oks] at h ⊢; exact ⟨ok_more hc t h.1, go l h.2⟩
end
/-- with one text more, that calls -/
structure BigOk (n many : Nat) (ts : List Txt) : Prop where
  sys : SysOk n many ts
  small : smallB ts = true
theorem DrawOk.longer {n many : Nat} {ts : List Txt} (h : DrawOk n many ts) {k : Nat} (hk : k < ts.length) (h4 : ts.length < 4) : BigOk n many (ts ++ [.call k]) := by
  have hl : (ts ++ [Txt.call k]).length = ts.length + 1 := by
    rw [List.length_append]
    rfl
  have hs : Txt.sizes (ts ++ [.call k]) ≤ 81 := by
    rw [sizes_sum, List.map_append, List.sum_append, ← sizes_sum]
    have := h.size
    show Txt.sizes ts + ((Txt.call k).size + 0) ≤ 81
    rw [Txt.size]
    omega
  have hd : ∀ t ∈ ts ++ [Txt.call k], t.dep ≤ 5 := fun t ht => by
    rcases List.mem_append.mp ht with ht | ht
    · exact h.dep t ht
    · rw [List.mem_singleton.mp ht, Txt.dep]
      decide
  refine ⟨⟨h.n3, h.m3, by omega, by omega, fun t ht => ?_, fun t ht => Nat.le_trans (hd t ht) (by decide), fun t ht => Nat.le_trans (size_le_sizes ht) (Nat.le_trans hs (by decide))⟩, small_of (fun t ht => Nat.le_trans (hd t ht) (by decide)) (Nat.le_trans hs (by decide))⟩
  rw [hl]
  rcases List.mem_append.mp ht with ht | ht
  · exact ok_more (Nat.le_succ _) t (h.ok t ht)
  · rw [List.mem_singleton.mp ht, Txt.Ok]
    omega
/-! ### another text in its place -/
theorem deps_set (o : Txt) : ∀ (l : List Txt) (i : Nat), Txt.deps (l.set i o) ≤ max (Txt.deps l) o.dep
  | [], i => by
    rw [List.set_nil]
    omega
  | t :: l, 0 => by
    rw [List.set_cons_zero, Txt.deps, Txt.deps]
    omega
  | t :: l, i + 1 => by
    rw [List.set_cons_succ, Txt.deps, Txt.deps]
    have := deps_set o l i
    omega
theorem sizes_set (o : Txt) : ∀ (l : List Txt) (i : Nat), Txt.sizes (l.set i o) ≤ Txt.sizes l + o.size
  | [], i => by
    rw [List.set_nil]
    omega
  | t :: l, 0 => by
    rw [List.set_cons_zero, Txt.sizes, Txt.sizes]
    omega
  | t :: l, i + 1 => by
    rw [List.set_cons_succ, Txt.sizes, Txt.sizes]
    have := sizes_set o l i
    omega
theorem with_dep (t o : Txt) (i : Nat) : (t.with (t.kids.set i o)).dep ≤ max t.dep (1 + o.dep) := by
  cases t with
  | skip => exact Nat.le_max_left _ _
  | go _ => exact Nat.le_max_left _ _
  | call _ => exact Nat.le_max_left _ _
  | part _ => exact Nat.le_max_left _ _
  | thn a c =>
    match i with
    | 0 =>
      show (Txt.thn o c).dep ≤ _
      rw [Txt.dep, Txt.dep]
      omega
    | 1 =>
      show (Txt.thn a o).dep ≤ _
      rw [Txt.dep, Txt.dep]
      omega
    | i + 2 => exact Nat.le_max_left _ _
  | ite z a c =>
    match i with
    | 0 =>
      show (Txt.ite z o c).dep ≤ _
      rw [Txt.dep, Txt.dep]
      omega
    | 1 =>
      show (Txt.ite z a o).dep ≤ _
      rw [Txt.dep, Txt.dep]
      omega
    | i + 2 => exact Nat.le_max_left _ _
  | ch we l =>
    show (Txt.ch we (l.set i o)).dep ≤ _
    rw [Txt.dep, Txt.dep]
    have := deps_set o l i
    omega
theorem with_size (t o : Txt) (i : Nat) : (t.with (t.kids.set i o)).size ≤ t.size + o.size := by
  cases t with
  | skip => exact Nat.le_add_right _ _
  | go _ => exact Nat.le_add_right _ _
  | call _ => exact Nat.le_add_right _ _
  | part _ => exact Nat.le_add_right _ _
  | thn a c =>
    match i with
    | 0 =>
      show (Txt.thn o c).size ≤ _
      rw [Txt.size, Txt.size]
      omega
    | 1 =>
      show (Txt.thn a o).size ≤ _
      rw [Txt.size, Txt.size]
      omega
    | i + 2 => exact Nat.le_add_right _ _
  | ite z a c =>
    match i with
    | 0 =>
      show (Txt.ite z o c).size ≤ _
      rw [Txt.size, Txt.size]
      omega
    | 1 =>
      show (Txt.ite z a o).size ≤ _
      rw [Txt.size, Txt.size]
      omega
    | i + 2 => exact Nat.le_add_right _ _
  | ch we l =>
    show (Txt.ch we (l.set i o)).size ≤ _
    rw [Txt.size, Txt.size]
    have := sizes_set o l i
    omega
theorem put_dep (o : Txt) : ∀ (p : List Nat) (t u : Txt), txtGo p t = some u → (putX p t o).dep ≤ max t.dep (p.length + o.dep)
  | [], t, u, h => by
    show o.dep ≤ _
    rw [List.length_nil]
    omega
  | i :: p, t, u, h => by
    obtain ⟨c, hc, hr⟩ := go_cons h
    have h1 := put_dep o p c u hr
    have h2 := kid_dep (List.mem_of_getElem? hc)
    have h3 := with_dep t (putX p c o) i
    rw [putX, getD_at hc, List.length_cons]
    omega
theorem put_size (o : Txt) : ∀ (p : List Nat) (t u : Txt), txtGo p t = some u → (putX p t o).size ≤ t.size * (p.length + 1) + o.size
  | [], t, u, h => by
    show o.size ≤ _
    omega
  | i :: p, t, u, h => by
    obtain ⟨c, hc, hr⟩ := go_cons h
    have h1 := put_size o p c u hr
    have h2 := kid_size (List.mem_of_getElem? hc)
    have h3 := with_size t (putX p c o) i
    have h4 : c.size * (p.length + 1) ≤ t.size * (p.length + 1) := Nat.mul_le_mul_right _ (by omega)
    rw [putX, getD_at hc, List.length_cons, Nat.mul_succ t.size (p.length + 1)]
    omega
theorem set_mem {ts : List Txt} {k : Nat} {o : Txt} {P : Txt → Prop} (h : ∀ t ∈ ts, P t) (ho : P o) : ∀ t ∈ ts.set k o, P t := fun t ht => by
  rcases List.mem_or_eq_of_mem_set ht with ht | rfl
  · exact h t ht
  · exact ho
theorem DrawOk.put {n many : Nat} {ts : List Txt} (h : DrawOk n many ts) {k : Nat} (hk : k < ts.length) {p : List Nat} {u o : Txt} (hu : txtGo p (txtAt ts k) = some u) (ho : o.Ok n ts.length many) (hd : o.dep ≤ 5) (hs : o.size ≤ 77) : SysOk n many (ts.set k (putX p (txtAt ts k) o)) := by
  have hm := txtAt_mem hk
  have h1 := (put_ok o ho p _ u (h.ok _ hm) hu).1
  have h2 := put_dep o p _ u hu
  have h3 := put_size o p _ u hu
  have h4 := go_dep p hu
  have h5 := h.dep _ hm
  have h6 := Nat.le_trans (size_le_sizes hm) h.size
  have h7 : 1 ≤ u.dep := by cases u <;> rw [Txt.dep] <;> omega
  have h8 : (txtAt ts k).size * (p.length + 1) ≤ 80 * 5 := Nat.mul_le_mul h6 (by omega)
  refine ⟨h.n3, h.m3, by rw [List.length_set]; exact h.l1, by rw [List.length_set]; exact h.l4, ?_, set_mem (fun t ht => Nat.le_trans (h.dep t ht) (by decide)) (by omega), set_mem (fun t ht => Nat.le_trans (size_le_sizes ht) (Nat.le_trans h.size (by decide))) (by omega)⟩
  rw [List.length_set]
  exact set_mem h.ok h1
/-! ### notations are texts -/
theorem ok_app {x y : Str} (hx : PyData.strOk x = true) (hy : PyData.strOk y = true) : PyData.strOk (x ++ y) = true := by
  unfold PyData.strOk at hx hy ⊢
  show (x.cps ++ y.cps).all _ = true
  rw [Array.all_append, hx, hy]
  rfl
theorem ok_join {sep : Str} (hs : PyData.strOk sep = true) : ∀ ys : List Str, (∀ y ∈ ys, PyData.strOk y = true) → PyData.strOk (Str.join sep ys) = true
  | [], _ => by
    show PyData.strOk Str.empty = true
    decide +kernel
  | [x], h => h x List.mem_cons_self
  | x :: y :: r, h => by
    show PyData.strOk (x ++ sep ++ Str.join sep (y :: r)) = true
    exact ok_app (ok_app (h x List.mem_cons_self) hs) (ok_join hs (y :: r) fun z hz => h z (List.mem_cons_of_mem _ hz))
theorem ok_fam {n : Nat} (hn : N3 n) {ys : List (List Nat)} (h : ∀ y ∈ ys, y ∈ allS n) : PyData.strOk (famTx ys) = true := by
  unfold famTx
  split
  · decide +kernel
  · rw [TL.join_eq]
    refine ok_join (by decide +kernel) _ fun z hz => ?_
    obtain ⟨y, hy, rfl⟩ := List.mem_map.mp hz
    exact (setTx_ok n hn y (h y hy)).1
theorem ok_dig : ∀ k : Nat, k ≤ 4 → PyData.strOk (toString (k : Int) : Str) = true := by
  intro n h
  have : n = 0 ∨ n = 1 ∨ n = 2 ∨ n = 3 ∨ n = 4 := by omega
  rcases this with rfl | rfl | rfl | rfl | rfl <;> decide +kernel
theorem ok_nota {n : Nat} (hn : N3 n) {Fs : List Row} (h : Fs.length ≤ 4) : PyData.strOk (notaTx n Fs) = true := by
  have key : ∀ (l : List Row) (acc : Str), PyData.strOk acc = true → PyData.strOk (l.foldl (fun acc f => acc ++ (" " : Str) ++ famTx ((allS n).filter (leastS f))) acc) = true := by
    intro l
    induction l with
    | nil => exact fun _ h => h
    | cons f l ih => exact fun acc ha => ih _ (ok_app (ok_app ha (by decide +kernel)) (ok_fam hn fun y hy => (List.mem_filter.mp hy).1))
  have hn3 := hn.2
  exact key Fs _ (ok_app (ok_app (ok_app (ok_app (by decide +kernel) (ok_dig _ h)) (by decide +kernel)) (ok_dig _ (by omega))) (by decide +kernel))
theorem lay_notas {α : Type} (l : List α) (f : α → Str) (h : ∀ a ∈ l, PyData.strOk (f a) = true) : (PyData.list (l.map fun a => PyData.str (f a))).canLay0 = true := by
  simp only [PyData.canLay0]
  exact layAll _ fun d hd => by
    obtain ⟨a, ha, rfl⟩ := List.mem_map.mp hd
    exact h a ha
theorem shaped_notas {α : Type} (l : List α) (f : α → Str) (h : ∀ a ∈ l, PyData.strOk (f a) = true) : SeqAt.shaped (.list (l.map fun a => PyData.str (f a))) = true := by
  have h2 := depthAll_le 0 (l.map fun a => PyData.str (f a)) fun d hd => by
    obtain ⟨a, ha, rfl⟩ := List.mem_map.mp hd
    simp [PyData.depth]
  unfold SeqAt.shaped
  rw [lay_notas l f h, decide_eq_true (by simp only [PyData.depth]; omega)]
  rfl
end Tw
end
/-! W27 -/
section
set_option Elab.async false
set_option linter.all false
set_option autoImplicit false
set_option maxRecDepth 100000
set_option maxHeartbeats 4000000
/-! The walk: both halves of the law. -/
namespace Tw
open PySem PySem.Spec PyProof.Rows L2
open Evl (Ex ex_l ex_t ex_rd)
section
variable {K : PySem.W.Frag} {Γ : TEnv} {M : Mem} {O : Org} {te : TE} {tt : TT}
theorem bw_B {N : Bool → Mem → Prop} (h : EW te O Γ M fun T M' => ∃ b, T = DT K (.bool b) ∧ N b M') : BW (tB te) O Γ M N := fun σ I H Q e h0 q => h σ I H _ e h0 fun T M' v I1 H1 ⟨b, hT, n⟩ e1 h1 a => by
  subst hT
  exact ⟨b, dt_bl a, q b M' I1 H1 n e1 h1⟩
theorem bw_not {N : Bool → Mem → Prop} (h : BW tt O Γ M fun b M' => N (!b) M') : BW (tNot tt) O Γ M N := fun σ I H Q e h0 q => h σ I H _ e h0 fun b M' I1 H1 n e1 h1 => q (!b) M' I1 H1 n e1 h1
end
section
variable {P : Program} {w : World} {K : PySem.W.Frag} {mg : PySem.Str → Option Value} {base : Heap}
/-- a drawn system, drawn rows of its parts -/
structure LawOk (a : RunA) : Prop where
  draw : DrawOk a.n a.many a.ts
  len : a.rws.length = a.many
  rows : ∀ rows ∈ a.rws, Rows6 a.n rows
theorem LawOk.run {a : RunA} (h : LawOk a) : RunOk a := ⟨h.draw.sys, h.len, fun rows hr => ⟨(h.rows rows hr).1, fun ys hy => ⟨((h.rows rows hr).2 ys hy).1, Nat.le_trans ((h.rows rows hr).2 ys hy).2 (by decide)⟩⟩⟩
structure RigA where
  l : Addr
  p : Pen
  a : RunA
abbrev rigTs (K : PySem.W.Frag) (a : RigA) : List Ty := [VT (.ref a.l), DT K (sysD a.a.n a.a.many a.a.ts), partsT K a.a.n (psOf a.a.rws), DT K (rwsD a.a.rws), DT K (.str (sideT a.a.we))]
def sp_L_v_replaced_right (K : PySem.W.Frag) : Sp := spG (fun a : RigA => LawOk a.a ∧ a.p.pos < posM) (fun a => [(a.l, penC K a.p)]) (rigTs K) (fun a T M => T = DT K (.bool true) ∧ ∃ p' : Pen, a.p.On p' 1 ∧ M = [(a.l, penC K p')])
/-- what stands there now has the contract of what stood there -/
theorem replaced_fin {a : RunA} (h : RunOk a) {k : Nat} {p : List Nat} {u : Txt} (hk : k < a.ts.length) (hu : txtGo p (txtAt a.ts k) = some u) (h' : RunOk { a with ts := a.ts.set k (putX p (txtAt a.ts k) (wrTxt a.n (conR a.n (had ⟨a, (k, p), u⟩)) (a.n - 1))) }) :
    EqC a.n a.ts.length (fin { a with ts := a.ts.set k (putX p (txtAt a.ts k) (wrTxt a.n (conR a.n (had ⟨a, (k, p), u⟩)) (a.n - 1))) }) (fin a) := by
  have hn := h.sys.n3
  have hn1 : 1 ≤ a.n := hn.1
  have hup := had_up (a := ⟨a, (k, p), u⟩) ⟨h, hk, hu⟩
  refine replaced (b := !a.we) (many := a.many) hn h.sys.ok (rwsF_up _) hk hu (wr_ok hn _ (by omega)) (fin_still h) (fun Cs s hs x hx => ?_) (fin_still h')
  rw [wr_sem hn (fun s hs x hx y hy hxy q => ?_) _ (by omega) s (by omega) hs x hx, conR_up hup hs hx]
  · rfl
  · have q : (conR a.n (had ⟨a, (k, p), u⟩)).getD s (fun _ => false) x = true := q
    show (conR a.n (had ⟨a, (k, p), u⟩)).getD s (fun _ => false) y = true
    rw [conR_up hup hs hx] at q
    rw [conR_up hup hs hy]
    exact hup s hs x hx y hy hxy q
theorem ok_L_v_replaced_right (T : Tx K mg) : FnOk P w K mg base CX0 24 aL_v_replaced_right (fdAt K aL_v_replaced_right) P_L_v_replaced_right (sp_L_v_replaced_right K) := by
  have ih := ok_L_v_put (P := P) (w := w) (base := base) T 13
  refine fn_ok T.d_L_v_replaced_right sc_L_v_replaced_right (fun _ => rfl) fun cdv A outer s H E hr => ⟨_, (pss_cons (ps_asg (pv 1) (tupK (K := K) (n := 3) rfl rfl (pgs_cons (pg_name (i := 5) sc_L_v_replaced_right.nd rfl (by first | exact Or.inl rfl | exact Or.inr rfl)) (pgs_cons (pg_name (i := 6) sc_L_v_replaced_right.nd rfl (by first | exact Or.inl rfl | exact Or.inr rfl)) (pgs_cons (pg_name (i := 7) sc_L_v_replaced_right.nd rfl (by first | exact Or.inl rfl | exact Or.inr rfl)) pgs_nil))))) (pss_cons (ps_asg (pe_call (ok_L_v_pick (P := P) (w := w) T) (hr.mono (by omega)) rfl T.g_L_v_pick T.d_L_v_pick.kp T.b_L_v_pick .nil pass0 (pa_cons (pv 0) (pa_cons (pe_call (ok_L_v_places (P := P) (w := w) T) (hr.mono (by omega)) rfl T.g_L_v_places T.d_L_v_places.kp T.b_L_v_places .nil pass0 (pa_cons (pv 7) pa_nil)) pa_nil))) (tupK (K := K) (n := 2) rfl rfl (pgs_cons (pg_name (i := 8) sc_L_v_replaced_right.nd rfl (by first | exact Or.inl rfl | exact Or.inr rfl)) (pgs_cons (pg_name (i := 9) sc_L_v_replaced_right.nd rfl (by first | exact Or.inl rfl | exact Or.inr rfl)) pgs_nil)))) (pss_cons (ps_set (i := 10) sc_L_v_replaced_right.nd rfl (by first | exact Or.inl rfl | exact Or.inr rfl) (pe_call (ok_written (P := P) (w := w) T) (hr.mono (by omega)) rfl T.g_written T.d_written.kp T.b_written .nil pass0 (pa_cons (pe_call (ok_L_v_as_had (P := P) (w := w) T) (hr.mono (by omega)) rfl T.g_L_v_as_had T.d_L_v_as_had.kp T.b_L_v_as_had .nil pass0 (pa_cons (pv 5) (pa_cons (pv 3) (pa_cons (pv 1) (pa_cons (pe_tup (pa_cons (pv 8) (pa_cons (pv 9) pa_nil))) (pa_cons (pv 4) pa_nil)))))) pa_nil))) (pss_cons (ps_set (i := 11) sc_L_v_replaced_right.nd rfl (by first | exact Or.inl rfl | exact Or.inr rfl) (pe_tup (pa_cons (pv 5) (pa_cons (pv 6) (pa_cons (pe_op (addK (K := K) rfl) (pe_op (addK (K := K) rfl) (pe_slice (slK (K := K) rfl) (pv 7) po_none (po_some (pv 8))) (pe_tup (pa_cons (pe_call ih (hr.mono (by omega)) rfl T.g_L_v_put T.d_L_v_put.kp T.b_L_v_put .nil pass0 (pa_cons (pe_ix (ixK (P := P) (w := w) (K := K) rfl rfl rfl (hu10 hr)) (pv 7) (pv 8) (fun _ _ => rfl)) (pa_cons (pv 9) (pa_cons (pv 10) pa_nil)))) pa_nil))) (pe_slice (slK (K := K) rfl) (pv 7) (po_some (pe_op (addK (K := K) rfl) (pv 8) (pe_int))) po_none)) pa_nil))))) (pss_cons (ps_if (pt_not (pt_val (pe_call (ok_is_system (P := P) (w := w) T) (hr.mono (by omega)) rfl T.g_is_system T.d_is_system.kp T.b_is_system .nil pass0 (pa_cons (pv 11) pa_nil)))) (pss_one (ps_ret (pe_bl))) pss_nil) (pss_one (ps_ret (pe_cmpR (eqK (K := K) rfl (hu64 hr)) (pe_call (ok_L_v_values (P := P) (w := w) T) (hr.mono (by omega)) rfl T.g_L_v_values T.d_L_v_values.kp T.b_L_v_values .nil pass0 (pa_cons (pv 11) (pa_cons (pv 2) (pa_cons (pv 4) pa_nil)))) (pe_call (ok_L_v_values (P := P) (w := w) T) (hr.mono (by omega)) rfl T.g_L_v_values T.d_L_v_values.kp T.b_L_v_values .nil pass0 (pa_cons (pv 1) (pa_cons (pv 2) (pa_cons (pv 4) pa_nil)))) (nomark _))))))))), ?_⟩
  rintro ⟨l, p, ⟨n, many, ts, rws, we⟩⟩ O ⟨h, hp⟩ hO
  have h : LawOk ⟨n, many, ts, rws, we⟩ := h
  have hp : p.pos < 100000000 := hp
  have hd : DrawOk n many ts := h.draw
  have hr := h.run
  have hn : N3 n := hd.n3
  have hn1 := hn.1
  have hn3 := hn.2
  have h4 := hd.l4
  let a : RunA := ⟨n, many, ts, rws, we⟩
  have fin_ : ∀ {S : Ty} (p' : Pen), p'.pos ≤ p.pos + 1 → S = DT K (.bool true) → (destOf (fun (a : RigA) T M => T = DT K (.bool true) ∧ ∃ p' : Pen, a.p.On p' 1 ∧ M = [(a.l, penC K p')]) ⟨l, p, a⟩).rt S [(l, penC K p')] := fun {S} p' hp' hS => ⟨_, _, ⟨rfl, p', hp', rfl⟩, hS ▸ Sub.refl _, List.Sublist.refl _⟩
  refine st_seq (st_asg (ew_of (et_var rfl) ⟨_, gt_tupD (gts_cons gt_name (gts_cons gt_name (gts_cons gt_name gts_nil))) rfl, ?_⟩))
  refine st_seq (st_asg (ew_callJ (aw_cons (ew_of (et_var rfl) (aw_cons (ew_x (p := PlsOk ts) (F := fun qs => DT K (.list (qs.map plD))) (et_call (ok := fun ts : List Txt => 1 ≤ ts.length ∧ ts.length ≤ 4 ∧ (∀ t ∈ ts, t.size ≤ 1000) ∧ ∀ t ∈ ts, t.dep ≤ 12) ts ⟨hd.l1, hd.l4, hd.sys.size, hd.sys.dep⟩ (ea_cons (et_var rfl) ea_nil)) fun qs hq => aw_nil
    ⟨(⟨l, p, (qs.map plD).map (DT K)⟩ : PicA), 0, l, penC K p, by show [VT (V.ref l), LstT ((qs.map plD).map (DT K))] = _; rw [lt_dt], ⟨?_, ?_, hp⟩, rfl, rfl, ?_⟩))))))
  · show 1 ≤ ((qs.map plD).map (DT K)).length
    rw [List.length_map, List.length_map]
    exact List.length_pos_iff.mpr hq.1
  · show ((qs.map plD).map (DT K)).length < 1073741824
    rw [List.length_map, List.length_map]
    have := hq.2.1
    omega
  rintro T M' ⟨hT, p1, hon, rfl⟩
  have hon : p1.pos ≤ p.pos + 1 := hon
  obtain ⟨d, hd', rfl⟩ := List.mem_map.mp hT
  obtain ⟨⟨k, q⟩, hm, rfl⟩ := List.mem_map.mp hd'
  obtain ⟨hk, u, hu⟩ := hq.2.2 _ hm
  have hk : k < ts.length := hk
  have hu : txtGo q (txtAt ts k) = some u := hu
  refine ⟨_, rfl, _, gt_tupD (gts_cons gt_name (gts_cons gt_name gts_nil)) rfl, ?_⟩
  have hhad : HadOk ⟨a, (k, q), u⟩ := ⟨hr, hk, hu⟩
  let C : List Row := conR n (had ⟨a, (k, q), u⟩)
  let o : Txt := wrTxt n C (n - 1)
  let ts' : List Txt := ts.set k (putX q (txtAt ts k) o)
  have ho : o.Ok n ts.length many := wr_ok hn _ (by omega)
  have hod : o.dep ≤ 5 := by
    have := wr_dep (n := n) (Fs := C) (n - 1)
    show (wrTxt n C (n - 1)).dep ≤ 5
    omega
  have hos : o.size ≤ 77 := by
    have := wr_size (Fs := C) hn (n - 1)
    show (wrTxt n C (n - 1)).size ≤ 77
    omega
  have hsys : SysOk n many ts' := hd.put hk hu ho hod hos
  refine st_seq (st_set (ew_of (T := DT K o.toD) (et_call (ok := fun a : Nat × List Row => N3 a.1 ∧ a.2.length = a.1) (n, C) ⟨hn, conR_len⟩ (ea_cons (et_call (ok := HadOk) (⟨a, (k, q), u⟩ : HadA) hhad (ea_cons (et_var rfl) (ea_cons (et_var rfl) (ea_cons (et_var rfl) (ea_cons (et_pairD (K := K) (et_var rfl) (et_var rfl)) (ea_cons (et_var rfl) ea_nil)))))) ea_nil)) ?_))
  have hgd := go_dep q hu
  have hdk := hd.dep _ (txtAt_mem hk)
  have hmore : ((ts.map Txt.toD).take k ++ [(putX q (txtAt ts k) o).toD]) ++ (ts.map Txt.toD).drop (k + 1) = ts'.map Txt.toD := by
    show _ = (ts.set k (putX q (txtAt ts k) o)).map Txt.toD
    rw [List.set_eq_take_append_cons_drop, if_pos hk, List.map_append, List.map_cons, List.map_take, List.map_drop, List.append_assoc]
    rfl
  refine st_seq (st_set (ew_of (T := DT K (sysD n many ts')) (et_tupD (K := K) (ead_cons (et_var rfl) (ead_cons (et_var rfl) (ead_cons (et_eq (et_op (et_op (et_slTD (et_var rfl) ot_no (ot_int (et_var rfl))) (et_tupD (K := K) (ead_cons (et_call (ok := fun a : List Nat × Txt × Txt => a.1.length < 13 ∧ (∃ u, txtGo a.1 a.2.1 = some u) ∧ a.2.1.size ≤ 1000) (q, txtAt ts k, o) ⟨by show q.length < 13; omega, ⟨u, hu⟩, hd.sys.size _ (txtAt_mem hk)⟩
    (ea_cons (et_op (et_var rfl) (et_var rfl) (rx_ixTD (d := (txtAt ts k).toD) (atI_nat (by rw [List.getElem?_map, (getD_mem (d := Txt.skip) hk).2]; rfl)))) (ea_cons (et_var rfl) (ea_cons (et_var rfl) ea_nil)))) ead_nil) (by show 1 ≤ sizeLine; decide)) (rx_addTD ?_)) (et_slTD (et_var rfl) (ot_int (et_op (et_var rfl) (et_int (K := K)) rx_addI)) ot_no) (rx_addTD ?_)) ?_) ead_nil))) (by show 3 ≤ sizeLine; decide)) ?_))
  · rw [cut_to, List.length_take, List.length_map]
    exact Nat.le_of_lt (sz100 (by show min k ts.length + 1 < 1000; omega))
  · rw [show ((k : Int) + 1) = ((k + 1 : Nat) : Int) from rfl, cut_to, cut_from, List.length_append, List.length_take, List.length_drop, List.length_map]
    exact Nat.le_of_lt (sz100 (by show min k ts.length + 1 + (ts.length - (k + 1)) < 1000; omega))
  · rw [show ((k : Int) + 1) = ((k + 1 : Nat) : Int) from rfl, cut_to, cut_from]
    exact congrArg (fun l => DT K (.tuple l)) hmore
  refine st_seq (st_if (b := !smallB ts') (bt_not (bt_B (et_call (ok := fun a : Nat × Nat × List Txt => SysOk a.1 a.2.1 a.2.2) (n, many, ts') hsys (ea_cons (et_var rfl) ea_nil)))) (fun _ => st_ret (ew_of (et_bl (K := K)) (fin_ p1 hon rfl))) fun hb => st_next ?_)
  have hsm : smallB ts' = true := by
    cases hz : smallB ts' with
    | true => rfl
    | false =>
      rw [hz] at hb
      cases hb
  have hr' : RunOk ⟨n, many, ts', rws, we⟩ := ⟨hsys, h.run.len, h.run.rows⟩
  have hrep := replaced_fin hr hk hu hr'
  have hl' : ts'.length = ts.length := List.length_set
  have e : ((List.range ts'.length).map fun j => PyData.str (notaTx n (conR n (fin ⟨n, many, ts', rws, we⟩ j)))) = (List.range ts.length).map fun j => PyData.str (notaTx n (conR n (fin a j))) := by
    rw [hl']
    exact List.map_congr_left fun j hj => by rw [conR_eq (hrep j (List.mem_range.mp hj))]
  have hok : ∀ j ∈ List.range ts.length, PyData.strOk (notaTx n (conR n (fin a j))) = true := fun j _ => ok_nota hn (by rw [conR_len]; omega)
  have hsh := shaped_notas (List.range ts.length) (fun j => notaTx n (conR n (fin a j))) hok
  refine st_ret (ew_of (et_op (et_eq (et_call (ok := fun a : RunA => RunOk a ∧ smallB a.ts = true) ⟨n, many, ts', rws, we⟩ ⟨hr', hsm⟩ (ea_cons (et_var rfl) (ea_cons (et_var rfl) (ea_cons (et_var rfl) ea_nil)))) (congrArg (fun l => DT K (.list l)) e)) (et_call (ok := fun a : RunA => RunOk a ∧ smallB a.ts = true) a ⟨hr, hd.small⟩ (ea_cons (et_var rfl) (ea_cons (et_var rfl) (ea_cons (et_var rfl) ea_nil)))) (rx_eq hsh hsh)) (fin_ p1 hon ?_))
  rw [PySem.SeqAt.eqv_refl _ (lay_notas _ _ hok)]
end
end Tw
end
/-! W28 -/
section
set_option Elab.async false
set_option linter.all false
set_option autoImplicit false
set_option maxRecDepth 100000
set_option maxHeartbeats 4000000
/-! The walk: the law's second half. -/
namespace Tw
open PySem PySem.Spec PyProof.Rows L2
open Evl (Ex ex_l ex_t ex_rd)
section
variable {P : Program} {w : World} {K : PySem.W.Frag} {mg : PySem.Str → Option Value} {base : Heap}
/-- rows with more sets each -/
abbrev MoreR (n : Nat) (rows rows' : List (List (List Nat))) : Prop := rows'.length = rows.length ∧ ∀ s, s < rows.length → ∃ zs : List (List Nat), (∀ z ∈ zs, z ∈ allS n) ∧ zs.length ≤ 6 ∧ rows'.getD s [] = rows.getD s [] ++ zs
theorem more_ok {n : Nat} {rows rows' : List (List (List Nat))} (h : Rows6 n rows) (m : MoreR n rows rows') : RowsOk n rows' := by
  refine ⟨m.1.trans h.1, fun ys hy => ?_⟩
  obtain ⟨s, hs⟩ := List.getElem?_of_mem hy
  have hlt := (List.getElem?_eq_some_iff.mp hs).1
  obtain ⟨zs, h1, h2, e⟩ := m.2 s (by rw [← m.1]; exact hlt)
  have e0 : rows'.getD s [] = ys := by
    rw [List.getD_eq_getElem?_getD, hs]
    rfl
  have hr := h.2 _ (getD_mem (d := ([] : List (List Nat))) (show s < rows.length by rw [← m.1]; exact hlt)).1
  rw [← e0, e]
  refine ⟨fun y hy => ?_, ?_⟩
  · rcases List.mem_append.mp hy with hy | hy
    · exact hr.1 y hy
    · exact h1 y hy
  · rw [List.length_append]
    have := hr.2
    omega
theorem fam_more {ys zs : List (List Nat)} {x : List Nat} (h : famF ys x = true) : famF (ys ++ zs) x = true := by
  obtain ⟨y, hy, e⟩ := List.any_eq_true.mp h
  exact List.any_eq_true.mpr ⟨y, List.mem_append_left _ hy, e⟩
theorem lay_rows (n : Nat) (Fs : List Row) : (rowsD n Fs).canLay0 = true := by
  simp only [PyData.canLay0]
  exact layAll _ fun d hd => by
    obtain ⟨f, _, rfl⟩ := List.mem_map.mp hd
    exact lay_row n f
abbrev MoreW (n : Nat) (rws rws' : Rws) : Prop := rws'.length = rws.length ∧ ∀ j, j < rws.length → MoreR n (rws.getD j []) (rws'.getD j [])
theorem more_run {a : RunA} (h : LawOk a) {rws' : Rws} (m : MoreW a.n a.rws rws') : RunOk { a with rws := rws' } := by
  refine ⟨h.draw.sys, m.1.trans h.len, fun rows hr => ?_⟩
  obtain ⟨j, hj⟩ := List.getElem?_of_mem hr
  have hlt := (List.getElem?_eq_some_iff.mp hj).1
  have hlt : j < rws'.length := hlt
  have e0 : rws'.getD j [] = rows := by
    rw [List.getD_eq_getElem?_getD]
    have hj : rws'[j]? = some rows := hj
    rw [hj]
    rfl
  have := m.2 j (by rw [← m.1]; exact hlt)
  rw [e0] at this
  exact more_ok (h.rows _ (getD_mem (d := ([] : List (List (List Nat)))) (show j < a.rws.length by rw [← m.1]; exact hlt)).1) this
theorem more_le {a : RunA} (h : LawOk a) {rws' : Rws} (m : MoreW a.n a.rws rws') {k : Nat} (hk : k < a.ts.length) : LeT a.n false (fin a k) (fin { a with rws := rws' } k) := by
  refine parts_within (many := a.many) (Ps := rwsF a.rws) (Qs := rwsF rws') (m := 1000) (m' := 1000) (b := !a.we) h.draw.n3 h.draw.ok (rwsF_up _) (fun j hj s hs x hx q => ?_) (fin_still h.run) (fin_still (more_run h m)) k hk
  have hj : j < a.rws.length := by rw [h.len]; exact hj
  have hr := h.rows _ (getD_mem (d := ([] : List (List (List Nat)))) hj).1
  obtain ⟨zs, _, _, e⟩ := (m.2 j hj).2 s (by rw [hr.1]; exact hs)
  show famF ((rws'.getD j []).getD s []) x = true
  rw [e]
  exact fam_more q
def sp_L_v_more_right (P : Program) (w : World) (K : PySem.W.Frag) : Sp := spG (fun a : RigA => LawOk a.a ∧ a.p.pos + 200 ≤ posM) (fun a => [(a.l, penC K a.p)]) (rigTs K) (fun a T M => T = DT K (.bool true) ∧ ∃ p' : Pen, a.p.On p' 200 ∧ M = [(a.l, penC K p')])
theorem ok_L_v_more_right (T : Tx K mg) : FnOk P w K mg base CX0 24 aL_v_more_right (fdAt K aL_v_more_right) P_L_v_more_right (sp_L_v_more_right P w K) := by
  refine fn_ok T.d_L_v_more_right sc_L_v_more_right (fun _ => rfl) fun cdv A outer s H E hr => ⟨_, (pss_cons (ps_asg (pv 1) (tupK (K := K) (n := 3) rfl rfl (pgs_cons (pg_name (i := 5) sc_L_v_more_right.nd rfl (by first | exact Or.inl rfl | exact Or.inr rfl)) (pgs_cons (pg_name (i := 6) sc_L_v_more_right.nd rfl (by first | exact Or.inl rfl | exact Or.inr rfl)) (pgs_cons (pg_name (i := 7) sc_L_v_more_right.nd rfl (by first | exact Or.inl rfl | exact Or.inr rfl)) pgs_nil))))) (pss_cons (ps_setLc (i := 8) (own := [("_law_one", 10)]) (tt := tYes) rfl sc_L_v_more_right.nd rfl rfl (sw_true rfl rfl rfl (by decide +kernel)) (seqK (K := K) rfl (pv 3)) (blkOk_by (N := N_L_v_more_right) (sc := defScope sL_v_more_right) (by decide +kernel)) (fun _ _ _ _ _ => (pg_name (i := 10) sc_L_v_more_right.nd rfl (by first | exact Or.inl rfl | exact Or.inr rfl))) (fun _ _ _ _ _ => pts_nil) (fun _ _ _ _ _ => (pe_lc (own := [("_law_sets", 9)]) (tt := tYes) rfl sc_L_v_more_right.nd (seqK (K := K) rfl (pv 10)) (blkOk_by (by kernel_rfl)) (fun _ _ _ _ _ => (pg_name (i := 9) sc_L_v_more_right.nd rfl (by first | exact Or.inl rfl | exact Or.inr rfl))) (fun _ _ _ _ _ => pts_nil) (fun _ _ _ _ _ => (pe_op (addK (K := K) rfl) (pv 9) (pe_op (mulK (K := K) rfl) (pe_call (ok_L_v_some_sets (P := P) (w := w) T) (hr.mono (by omega)) rfl T.g_L_v_some_sets T.d_L_v_some_sets.kp T.b_L_v_some_sets .nil pass0 (pa_cons (pv 0) (pa_cons (pv 5) pa_nil))) (pe_call (ok_L_take (P := P) (w := w) T) (hr.mono (by omega)) rfl T.g_L_take T.d_L_take.kp T.b_L_take .nil pass0 (pa_cons (pv 0) (pa_cons (pe_int) pa_nil))))))))) (pss_cons (ps_setLc (i := 11) (own := [("_law_one", 10)]) (tt := tYes) rfl sc_L_v_more_right.nd rfl rfl (sw_true rfl rfl rfl (by decide +kernel)) (seqK (K := K) rfl (pv 8)) (blkOk_by (N := N_L_v_more_right) (sc := defScope sL_v_more_right) (by decide +kernel)) (fun _ _ _ _ _ => (pg_name (i := 10) sc_L_v_more_right.nd rfl (by first | exact Or.inl rfl | exact Or.inr rfl))) (fun _ _ _ _ _ => pts_nil) (fun _ _ _ _ _ => (pe_make T.k_Contract (ok_Contract___init__ (P := P) (w := w) T) (hr.mono (by omega)) rfl T.g_Contract T.b_Contract___init__ .nil pass0 (pa_cons (pv 5) (pa_cons (pv 10) pa_nil))))) (pss_cons (ps_for PassesOwn.never rfl (pi_range1 rfl T.f_range (pa_cons (pe_callB (lenK (K := K) rfl) rfl T.f_len bt_len (pa_cons (pv 7) pa_nil)) pa_nil)) (pg_name (i := 12) sc_L_v_more_right.nd rfl (by first | exact Or.inl rfl | exact Or.inr rfl)) (pss_cons (ps_set (i := 13) sc_L_v_more_right.nd rfl (by first | exact Or.inl rfl | exact Or.inr rfl) (pe_callN (ok_value_of (P := P) (w := w) T) (hr.mono (by omega)) rfl T.g_value_of T.d_value_of.kp (kb_value_of T) pass0 (pa_cons (pv 1) (pa_cons (pv 2) (pa_cons (pv 12) pa_nil))) (pk_cons (pv 4) pk_nil))) (pss_cons (ps_if (pt_not (pt_val (pe_meth (pv 13) T.c_Contract T.m_Contract_within (ok_Contract_within (P := P) (w := w) T) (hr.mono (by omega)) T.b_Contract_within .nil pass0 (pa_cons (pe_callN (ok_value_of (P := P) (w := w) T) (hr.mono (by omega)) rfl T.g_value_of T.d_value_of.kp (kb_value_of T) pass0 (pa_cons (pv 1) (pa_cons (pv 11) (pa_cons (pv 12) pa_nil))) (pk_cons (pv 4) pk_nil)) pa_nil)))) (pss_one (ps_ret (pe_bl))) pss_nil) (pss_one (ps_if (pt_cmpR op_lt (pe_callB (lenK (K := K) rfl) rfl T.f_len bt_len (pa_cons (pv 7) pa_nil)) (pe_int) (nomark _)) (pss_cons (ps_set (i := 14) sc_L_v_more_right.nd rfl (by first | exact Or.inl rfl | exact Or.inr rfl) (pe_tup (pa_cons (pv 5) (pa_cons (pv 6) (pa_cons (pe_op (addK (K := K) rfl) (pv 7) (pe_tup (pa_cons (pe_tup (pa_cons (pe_str) (pa_cons (pv 12) pa_nil))) pa_nil))) pa_nil))))) (pss_one (ps_if (pt_cmpR (op_ownNe T.m_Contract___eq__.at_ T.x_Contract.ne T.x_Contract.mro T.m_Contract___eq__.fn (ok_Contract___eq__ (P := P) (w := w) T) (hr.mono (by omega)) T.b_Contract___eq__) (pe_callN (ok_value_of (P := P) (w := w) T) (hr.mono (by omega)) rfl T.g_value_of T.d_value_of.kp (kb_value_of T) pass0 (pa_cons (pv 14) (pa_cons (pv 2) (pa_cons (pe_callB (lenK (K := K) rfl) rfl T.f_len bt_len (pa_cons (pv 7) pa_nil)) pa_nil))) (pk_cons (pv 4) pk_nil)) (pv 13) (nomark _)) (pss_one (ps_ret (pe_bl))) pss_nil))) pss_nil))))) (pss_one (ps_ret (pe_bl))))))), ?_⟩
  rintro ⟨l, p, ⟨n, many, ts, rws, we⟩⟩ O ⟨h, hp⟩ hO
  have h : LawOk ⟨n, many, ts, rws, we⟩ := h
  have hp : p.pos + 200 ≤ 100000000 := hp
  have hd : DrawOk n many ts := h.draw
  have hr := h.run
  have hn : N3 n := hd.n3
  have hn1 := hn.1
  have hn3 := hn.2
  have h4 := hd.l4
  have hrl : rws.length = many := h.len
  have hm3 : many ≤ 3 := hd.m3
  have hrows : ∀ rows ∈ rws, Rows6 n rows := h.rows
  let a : RunA := ⟨n, many, ts, rws, we⟩
  have fin_ : ∀ {S : Ty} (p' : Pen), p'.pos ≤ p.pos + 200 → S = DT K (.bool true) → (destOf (fun (a : RigA) T M => T = DT K (.bool true) ∧ ∃ p' : Pen, a.p.On p' 200 ∧ M = [(a.l, penC K p')]) ⟨l, p, a⟩).rt S [(l, penC K p')] := fun {S} p' hp' hS => ⟨_, _, ⟨rfl, p', hp', rfl⟩, hS ▸ Sub.refl _, List.Sublist.refl _⟩
  refine st_seq (st_asg (ew_of (et_var rfl) ⟨_, gt_tupD (gts_cons gt_name (gts_cons gt_name (gts_cons gt_name gts_nil))) rfl, ?_⟩))
  let famL : List (List (List Nat)) → Ty := fun rows => DT K (.list (rows.map famD))
  refine st_cut (fun Γ M => ∃ (rws' : Rws) (p' : Pen), MoreW n rws rws' ∧ p'.pos ≤ p.pos + 126 ∧ Γ = [some (VT (.ref l)), some (DT K (sysD n many ts)), some (partsT K n (psOf rws)), some (DT K (rwsD rws)), some (DT K (.str (sideT we))), some (DT K (dn n)), some (DT K (dn many)), some (DT K (.tuple (ts.map Txt.toD))), some (DT K (rwsD rws')), none, none, none, none, none, none] ∧ M = [(l, penC K p')]) ?_ ?_
  · refine st_set ?_
    refine ew_lc (xs := rws) (gT := fun rows => famL rows) (ws := fun rows => [(10, famL rows)])
      (fun i Ts M' => ∃ (rws' : Rws) (p' : Pen), Ts = rws'.map famL ∧ rws'.length = i ∧ (∀ j, j < i → MoreR n (rws.getD j []) (rws'.getD j [])) ∧ p'.pos ≤ p.pos + 42 * i ∧ M' = [(l, penC K p')])
      (ix_sL (xs := rws) (g := fun rows => PyData.list (rows.map famD)) (et_var rfl)) (fun _ _ => gt_name) (fun _ => rfl) ⟨[], p, rfl, rfl, (fun _ h => absurd h (Nat.not_lt_zero _)), Nat.le_refl _, rfl⟩ ?_ (sz100 (by omega)) ?_
    · rintro i rows Ts _ hi ⟨rws', p1, rfl, hl, hmr, hpos, rfl⟩
      have hir := (List.getElem?_eq_some_iff.mp hi).1
      have hgi : rws.getD i [] = rows := by
        rw [List.getD_eq_getElem?_getD, hi]
        rfl
      have h6 := hrows rows (List.mem_of_getElem? hi)
      refine ⟨rfl, fun O' => ?_⟩
      refine ew_lc (xs := rows) (gT := fun ys => DT K (famD ys)) (ws := fun ys => [(9, DT K (famD ys))])
        (fun i2 Ts M' => ∃ (rows' : List (List (List Nat))) (p' : Pen), Ts = (rows'.map famD).map (DT K) ∧ rows'.length = i2 ∧ (∀ s, s < i2 → ∃ zs : List (List Nat), (∀ z ∈ zs, z ∈ allS n) ∧ zs.length ≤ 6 ∧ rows'.getD s [] = rows.getD s [] ++ zs) ∧ p'.pos ≤ p1.pos + 14 * i2 ∧ M' = [(l, penC K p')])
        (ix_sL (g := famD) (et_var rfl)) (fun _ _ => gt_name) (fun _ => rfl) ⟨[], p1, rfl, rfl, (fun _ h => absurd h (Nat.not_lt_zero _)), Nat.le_refl _, rfl⟩ ?_ (sz100 (by rw [h6.1]; omega)) ?_
      · rintro i2 ys Ts _ hi2 ⟨rows', p2, rfl, hl2, hmr2, hpos2, rfl⟩
        have hi2r := (List.getElem?_eq_some_iff.mp hi2).1
        have hi2n : i2 < n := by rw [← h6.1]; exact hi2r
        have hgi2 : rows.getD i2 [] = ys := by
          rw [List.getD_eq_getElem?_getD, hi2]
          rfl
        have hy6 := h6.2 ys (List.mem_of_getElem? hi2)
        refine ⟨rfl, fun O' => ?_⟩
        refine ew_op (ew_of (et_var rfl) (ew_op (ew_somesets (j := 0) (p := p2) hn (ea_cons (et_var rfl) (ea_cons (et_var rfl) ea_nil)) rfl (by show p2.pos + 13 ≤ 100000000; omega) fun zs p3 hz h6z hon3 => ?_)))
        have hon3 : p3.pos ≤ p2.pos + 13 := hon3
        refine ew_take (j := 0) (p := p3) (ea_cons (et_var rfl) (ea_cons (et_int (K := K)) ea_nil)) rfl (by decide) (by decide) (by show p3.pos < 100000000; omega) fun m p4 hm hon4 => ?_
        have hm : m < 2 := hm
        have hon4 : p4.pos ≤ p3.pos + 1 := hon4
        let zz : List (List Nat) := (List.replicate m zs).flatten
        have hzz : (∀ z ∈ zz, z ∈ allS n) ∧ zz.length ≤ 6 := by
          have : m = 0 ∨ m = 1 := by omega
          rcases this with rfl | rfl
          · have e : zz = [] := by simp [zz]
            rw [e]
            exact ⟨(fun _ h => nomatch h), Nat.zero_le _⟩
          · have e : zz = zs := by simp [zz]
            rw [e]
            exact ⟨hz, h6z⟩
        have hmul : RX (rMulA K) [(l, penC K p4)] (DT K (famD zs)) (DT K (dn m)) (DT K (famD zz)) := by
          have q := rx_mulL (K := K) (M := [(l, penC K p4)]) (Ts := (zs.map setD).map (DT K)) (n := m) (by omega) (by rw [List.length_map, List.length_map]; omega)
          rw [lt_dt] at q
          have e : (List.replicate m ((zs.map setD).map (DT K))).flatten = (zz.map setD).map (DT K) := by
            show _ = (((List.replicate m zs).flatten).map setD).map (DT K)
            rw [List.map_flatten, List.map_flatten, List.map_replicate, List.map_replicate]
          rw [e, lt_dt] at q
          exact q
        refine ⟨_, hmul, _, rx_addLD (by rw [List.length_map, List.length_map]; exact Nat.le_of_lt (sz100 (by have := hy6.2; have := hzz.2; omega))), rfl, rows' ++ [ys ++ zz], p4, ?_, ?_, ?_, ?_, rfl⟩
        · rw [List.map_append, List.map_append, ← List.map_append]
          rfl
        · rw [List.length_append, hl2]
          rfl
        · intro s hs
          by_cases c : s < i2
          · obtain ⟨ws, q1, q2, q3⟩ := hmr2 s c
            refine ⟨ws, q1, q2, ?_⟩
            rw [List.getD_eq_getElem?_getD, List.getElem?_append_left (by omega), ← List.getD_eq_getElem?_getD]
            exact q3
          · have hs2 : s = i2 := by omega
            subst hs2
            refine ⟨zz, hzz.1, hzz.2, ?_⟩
            rw [List.getD_eq_getElem?_getD, List.getElem?_append_right (by omega), hl2, Nat.sub_self, hgi2]
            rfl
        · omega
      · rintro Ts _ hT ⟨rows', p2, rfl, hl2, hmr2, hpos2, rfl⟩ _
        have hn' := h6.1
        refine ⟨rfl, rws' ++ [rows'], p2, ?_, ?_, ?_, ?_, rfl⟩
        · rw [List.map_append, lt_dt]
          rfl
        · rw [List.length_append, hl]
          rfl
        · intro j hj
          by_cases c : j < i
          · have q := hmr j c
            have e1 : (rws' ++ [rows']).getD j [] = rws'.getD j [] := by
              rw [List.getD_eq_getElem?_getD, List.getElem?_append_left (by omega), ← List.getD_eq_getElem?_getD]
            rw [e1]
            exact q
          · have hj2 : j = i := by omega
            subst hj2
            have e1 : (rws' ++ [rows']).getD j [] = rows' := by
              rw [List.getD_eq_getElem?_getD, List.getElem?_append_right (by omega), hl, Nat.sub_self]
              rfl
            rw [e1, hgi]
            exact ⟨hl2, hmr2⟩
        · rw [hn'] at hpos2
          omega
    · rintro Ts _ hT ⟨rws', p1, rfl, hl, hmr, hpos, rfl⟩ _
      refine ⟨rws', p1, ⟨hl, hmr⟩, by omega, ?_, rfl⟩
      have e : LstT (rws'.map famL) = DT K (rwsD rws') := by
        have := lt_dt (K := K) (rws'.map fun rows => .list (rows.map famD))
        rw [List.map_map] at this
        exact this
      rw [e]
      rfl
  rintro _ _ ⟨rws', p1, hmw, hpos, rfl, rfl⟩
  have hr' : RunOk ⟨n, many, ts, rws', we⟩ := more_run h hmw
  let a' : RunA := ⟨n, many, ts, rws', we⟩
  have hrl' : rws'.length = many := hr'.len
  refine st_seq (st_set (ew_of (T := partsT K n (psOf rws')) (et_eq (lcT (xs := rws') (f := fun rows => ConT K n (rows.map famF)) (ix_sL (g := fun rows => .list (rows.map famD)) (et_var rfl)) (fun _ _ => gt_name) (fun _ => rfl) (fun rows hrr => et_contract n rows hn (by rw [(hr'.rows rows hrr).1]; exact hn1) (by rw [(hr'.rows rows hrr).1]; show n ≤ 4; omega) (hr'.rows rows hrr).2 (ea_cons (et_var rfl) (ea_cons (et_var rfl) ea_nil))) (sz100 (by omega))) ?_) ?_))
  · show LstT _ = LstT ((rws'.map fun rows => rows.map famF).map (ConT K n))
    rw [List.map_map]
    rfl
  refine st_seq (st_for (xs := List.range ts.length) (gT := fun i => DT K (dn i)) (ws := fun i => [(12, DT K (dn i))])
    (fun _ Γ M => ∃ (o12 o13 o14 : Option Ty), Γ = [some (VT (.ref l)), some (DT K (sysD n many ts)), some (partsT K n (psOf rws)), some (DT K (rwsD rws)), some (DT K (.str (sideT we))), some (DT K (dn n)), some (DT K (dn many)), some (DT K (.tuple (ts.map Txt.toD))), some (DT K (rwsD rws')), none, none, some (partsT K n (psOf rws')), o12, o13, o14] ∧ M = [(l, penC K p1)])
    (ix_R (n := ts.length) (ea_cons (et_cb (ea_cons (et_var rfl) ea_nil) (et_eq_cx (cx_lenTD (ds := ts.map Txt.toD)) (by rw [List.length_map]))) ea_nil) (by omega)) (fun _ _ => gt_name) ⟨none, none, none, rfl, rfl⟩ ?_ ?_)
  · rintro i k _ _ hi ⟨o12, o13, o14, rfl, rfl⟩
    obtain ⟨rfl, hk⟩ := range_at hi
    refine st_seq (st_set (ew_of (et_value (a := a) (k := k) hr hd.small hk (ea_cons (et_var rfl) (ea_cons (et_var rfl) (ea_cons (et_var rfl) ea_nil))) (ea_cons (et_var rfl) ea_nil)) ?_))
    have hwithin : ∀ q ∈ (conR n (fin a k)).zip (conR n (fin a' k)), ∀ x ∈ allS n, q.1 x = true → q.2 x = true := by
      intro q hq x hx hqx
      obtain ⟨s, hs⟩ := List.getElem?_of_mem hq
      obtain ⟨h1, h2⟩ := List.getElem?_zip_eq_some.mp hs
      have hsn : s < n := by
        have := (List.getElem?_eq_some_iff.mp h1).1
        rw [conR_len] at this
        exact this
      have e1 : (conR n (fin a k)).getD s (fun _ => false) = q.1 := by
        rw [List.getD_eq_getElem?_getD, h1]
        rfl
      have e2 : (conR n (fin a' k)).getD s (fun _ => false) = q.2 := by
        rw [List.getD_eq_getElem?_getD, h2]
        rfl
      rw [← e1, conR_up (fin_up hr hk) hsn hx] at hqx
      rw [← e2, conR_up (fin_up hr' hk) hsn hx]
      exact more_le h hmw hk s hsn x hx hqx
    refine st_seq (st_if (b := false) (bt_eq (bt_not (bt_B (et_meth (ok := fun a : Nat × List Row × List Row => N3 a.1 ∧ a.2.1.length = a.2.2.length ∧ a.2.1.length < 1000 ∧ ∀ p ∈ a.2.1.zip a.2.2, ∀ x ∈ allS a.1, p.1 x = true → p.2 x = true) (fs := conF K n (conR n (fin a k))) (n, conR n (fin a k), conR n (fin a' k)) ⟨hn, by show (conR n _).length = (conR n _).length; rw [conR_len, conR_len], by show (conR n _).length < 1000; rw [conR_len]; omega, hwithin⟩ rfl rfl (et_var rfl) (ea_cons (et_value (a := a') (k := k) hr' hd.small hk (ea_cons (et_var rfl) (ea_cons (et_var rfl) (ea_cons (et_var rfl) ea_nil))) (ea_cons (et_var rfl) ea_nil)) ea_nil)))) rfl) (fun h => nomatch h) fun _ => st_next ?_)
    refine st_if (b := decide ((ts.length : Int) < 4)) (bt_eq (bt_test (et_op (et_cb (ea_cons (et_var rfl) ea_nil) cx_lenTD) (et_int (K := K)) rx_B0)) (by rw [List.length_map])) (fun hb => ?_) fun _ => st_next ⟨_, _, _, rfl, rfl⟩
    have hlt4 : ts.length < 4 := by
      have := of_decide_eq_true hb
      omega
    let ts2 : List Txt := ts ++ [.call k]
    have hbig : BigOk n many ts2 := hd.longer hk hlt4
    have hr2 : RunOk ⟨n, many, ts2, rws, we⟩ := ⟨hbig.sys, hr.len, hr.rows⟩
    let a2 : RunA := ⟨n, many, ts2, rws, we⟩
    have hl2 : ts2.length = ts.length + 1 := by
      show (ts ++ [Txt.call k]).length = _
      rw [List.length_append]
      rfl
    have hval : conR n (fin a2 ts.length) = conR n (fin a k) := conR_eq (longer (many := many) hn hd.ok hk (fin_still hr) (fin_still hr2))
    refine st_seq (st_set (ew_of (T := DT K (sysD n many ts2)) (et_tupD (K := K) (ead_cons (et_var rfl) (ead_cons (et_var rfl) (ead_cons (et_eq (et_op (et_var rfl) (et_tupD (K := K) (ead_cons (et_tupD (K := K) (ead_cons (et_str (K := K)) (ead_cons (et_var rfl) ead_nil)) (by show 2 ≤ sizeLine; decide)) ead_nil) (by show 1 ≤ sizeLine; decide)) (rx_addTD ?_)) ?_) ead_nil))) (by show 3 ≤ sizeLine; decide)) ?_))
    · rw [List.length_map]
      exact Nat.le_of_lt (sz100 (by show ts.length + 1 < 1000; omega))
    · show _ = DT K (.tuple ((ts ++ [Txt.call k]).map Txt.toD))
      rw [List.map_append, List.map_singleton, Txt.toD]
    refine st_if (b := false) (bt_eq (bt_test (et_op (et_value (a := a2) (k := ts.length) hr2 hbig.small (by show ts.length < ts2.length; omega) (ea_cons (et_var rfl) (ea_cons (et_var rfl) (ea_cons (et_eq (et_cb (ea_cons (et_var rfl) ea_nil) cx_lenTD) (congrArg (fun n => DT K (dn n)) (List.length_map (as := ts) Txt.toD))) ea_nil))) (ea_cons (et_var rfl) ea_nil)) (et_var rfl) (rx_ownNe (ok := fun _ : Nat × List Row × List Row => True) (gs := conF K n (conR n (fin a k))) (n, conR n (fin a2 ts.length), conR n (fin a k)) trivial rfl rfl))) ?_) (fun h => nomatch h) fun _ => st_next ⟨_, _, _, rfl, rfl⟩
    show (!PyData.eqv (rowsD n (conR n (fin a2 ts.length))) (rowsD n (conR n (fin a k)))) = false
    rw [hval, PySem.SeqAt.eqv_refl _ (lay_rows n _)]
    rfl
  · rintro _ _ ⟨o12, o13, o14, rfl, rfl⟩
    exact st_ret (ew_of (et_bl (K := K)) (fin_ p1 (by omega) rfl))
end
end Tw
end
/-! W29 -/
section
set_option Elab.async false
set_option linter.all false
set_option autoImplicit false
set_option maxRecDepth 100000
set_option maxHeartbeats 4000000
/-! The walk: the law. -/
namespace Tw
open PySem PySem.Spec PyProof.Rows L2
open Evl (Ex ex_l ex_t ex_rd)
section
variable {P : Program} {w : World} {K : PySem.W.Frag} {mg : PySem.Str → Option Value} {base : Heap}
def sp_law (K : PySem.W.Frag) : Sp := spP (fun _ : List Int => True) (fun xs => [ScT K xs]) (fun _ => DT K (.bool true))
theorem ok_law (T : Tx K mg) : FnOk P w K mg base CX0 25 alaw (fdAt K alaw) P_law (sp_law K) := by
  refine fn_ok T.d_law sc_law (fun _ => rfl) fun cdv A outer s H E hr => ⟨_, (pss_cons (ps_set (i := 1) sc_law.nd rfl (by first | exact Or.inl rfl | exact Or.inr rfl) (pe_call (ok_L_open (P := P) (w := w) T) (hr.mono (by omega)) rfl T.g_L_open T.d_L_open.kp T.b_L_open .nil pass0 (pa_cons (pv 0) pa_nil))) (pss_cons (ps_for PassesOwn.never rfl (pi_range1 rfl T.f_range (pa_cons (pe_int) pa_nil)) (pg_name (i := 2) sc_law.nd rfl (by first | exact Or.inl rfl | exact Or.inr rfl)) (pss_cons (ps_set (i := 3) sc_law.nd rfl (by first | exact Or.inl rfl | exact Or.inr rfl) (pe_call (ok_L_v_system (P := P) (w := w) T) (hr.mono (by omega)) rfl T.g_L_v_system T.d_L_v_system.kp T.b_L_v_system .nil pass0 (pa_cons (pv 1) (pa_cons (pe_int) (pa_cons (pe_int) pa_nil))))) (pss_cons (ps_set (i := 4) sc_law.nd rfl (by first | exact Or.inl rfl | exact Or.inr rfl) (pe_ix (ixK (P := P) (w := w) (K := K) rfl rfl rfl (hu10 hr)) (pv 3) (pe_int) (fun _ _ => rfl))) (pss_cons (ps_setLc (i := 5) (own := [("_law_j", 6)]) (tt := tYes) rfl sc_law.nd rfl rfl (sw_true rfl rfl rfl (by decide +kernel)) (pi_range1 rfl T.f_range (pa_cons (pe_ix (ixK (P := P) (w := w) (K := K) rfl rfl rfl (hu10 hr)) (pv 3) (pe_int) (fun _ _ => rfl)) pa_nil)) (blkOk_by (N := N_law) (sc := defScope slaw) (by decide +kernel)) (fun _ _ _ _ _ => (pg_name (i := 6) sc_law.nd rfl (by first | exact Or.inl rfl | exact Or.inr rfl))) (fun _ _ _ _ _ => pts_nil) (fun _ _ _ _ _ => (pe_call (ok_L_v_part_rows (P := P) (w := w) T) (hr.mono (by omega)) rfl T.g_L_v_part_rows T.d_L_v_part_rows.kp T.b_L_v_part_rows .nil pass0 (pa_cons (pv 1) (pa_cons (pv 4) pa_nil))))) (pss_cons (ps_setLc (i := 7) (own := [("_law_one", 8)]) (tt := tYes) rfl sc_law.nd rfl rfl (sw_true rfl rfl rfl (by decide +kernel)) (seqK (K := K) rfl (pv 5)) (blkOk_by (N := N_law) (sc := defScope slaw) (by decide +kernel)) (fun _ _ _ _ _ => (pg_name (i := 8) sc_law.nd rfl (by first | exact Or.inl rfl | exact Or.inr rfl))) (fun _ _ _ _ _ => pts_nil) (fun _ _ _ _ _ => (pe_make T.k_Contract (ok_Contract___init__ (P := P) (w := w) T) (hr.mono (by omega)) rfl T.g_Contract T.b_Contract___init__ .nil pass0 (pa_cons (pv 4) (pa_cons (pv 8) pa_nil))))) (pss_cons (ps_for PassesOwn.never rfl (seqK (K := K) rfl (pe_lst (pa_cons (pe_str) (pa_cons (pe_str) pa_nil)))) (pg_name (i := 9) sc_law.nd rfl (by first | exact Or.inl rfl | exact Or.inr rfl)) (pss_cons (ps_if (pt_not (pt_val (pe_call (ok_L_v_replaced_right (P := P) (w := w) T) (hr.mono (by omega)) rfl T.g_L_v_replaced_right T.d_L_v_replaced_right.kp T.b_L_v_replaced_right .nil pass0 (pa_cons (pv 1) (pa_cons (pv 3) (pa_cons (pv 7) (pa_cons (pv 5) (pa_cons (pv 9) pa_nil)))))))) (pss_one (ps_ret (pe_bl))) pss_nil) (pss_one (ps_if (pt_not (pt_val (pe_call (ok_L_v_more_right (P := P) (w := w) T) (hr.mono (by omega)) rfl T.g_L_v_more_right T.d_L_v_more_right.kp T.b_L_v_more_right .nil pass0 (pa_cons (pv 1) (pa_cons (pv 3) (pa_cons (pv 7) (pa_cons (pv 5) (pa_cons (pv 9) pa_nil)))))))) (pss_one (ps_ret (pe_bl))) pss_nil)))) (pss_one (ps_for PassesOwn.never rfl (seqK (K := K) rfl (pe_lst (pa_cons (pe_tup (pa_cons (pe_int) (pa_cons (pe_str) pa_nil))) (pa_cons (pe_tup (pa_cons (pe_op op_sub (pe_callB (lenK (K := K) rfl) rfl T.f_len bt_len (pa_cons (pe_ix (ixK (P := P) (w := w) (K := K) rfl rfl rfl (hu10 hr)) (pv 3) (pe_int) (fun _ _ => rfl)) pa_nil)) (pe_int)) (pa_cons (pe_str) pa_nil))) pa_nil)))) (tupK (K := K) (n := 2) rfl rfl (pgs_cons (pg_name (i := 10) sc_law.nd rfl (by first | exact Or.inl rfl | exact Or.inr rfl)) (pgs_cons (pg_name (i := 9) sc_law.nd rfl (by first | exact Or.inl rfl | exact Or.inr rfl)) pgs_nil))) (pss_one (ps_if (pt_cmpR (op_ownNe T.m_Contract___eq__.at_ T.x_Contract.ne T.x_Contract.mro T.m_Contract___eq__.fn (ok_Contract___eq__ (P := P) (w := w) T) (hr.mono (by omega)) T.b_Contract___eq__) (pe_callN (ok_value_of (P := P) (w := w) T) (hr.mono (by omega)) rfl T.g_value_of T.d_value_of.kp (kb_value_of T) pass0 (pa_cons (pv 3) (pa_cons (pv 7) (pa_cons (pv 10) pa_nil))) (pk_cons (pv 9) pk_nil)) (pe_call (ok_L_v_as_had (P := P) (w := w) T) (hr.mono (by omega)) rfl T.g_L_v_as_had T.d_L_v_as_had.kp T.b_L_v_as_had .nil pass0 (pa_cons (pv 4) (pa_cons (pv 5) (pa_cons (pv 3) (pa_cons (pe_tup (pa_cons (pv 10) (pa_cons (pe_tup pa_nil) pa_nil))) (pa_cons (pv 9) pa_nil)))))) (nomark _)) (pss_one (ps_ret (pe_bl))) pss_nil)))))))))) (pss_one (ps_ret (pe_bl))))), ?_⟩
  rintro xs O - hO
  refine st_seq (st_set (ew_callNew (a := xs) trivial rfl (ea_cons (et_var rfl) ea_nil) fun T M' ⟨l, p0, hp0, hT, hM⟩ => ⟨l, _, hM, fun hz => ?_⟩))
  subst hT
  refine st_seq (st_for (xs := List.range 2) (gT := fun i => DT K (dn i)) (ws := fun i => [(2, DT K (dn i))])
    (fun i Γ M => ∃ (p : Pen) (o2 o3 o4 o5 o7 o9 o10 : Option Ty), p.pos ≤ 420000 * i ∧ Γ = [some (ScT K xs), some (VT (.ref l)), o2, o3, o4, o5, none, o7, none, o9, o10] ∧ M = [(l, penC K p)])
    (ix_R (n := 2) (ea_cons (et_int (K := K)) ea_nil) (by decide)) (fun _ _ => gt_name) ⟨p0, none, none, none, none, none, none, none, Nat.le_of_eq hp0, rfl, rfl⟩ ?_ ?_)
  · rintro i t _ _ hi ⟨p, o2, o3, o4, o5, o7, o9, o10, hp, rfl, rfl⟩
    obtain ⟨rfl, hi2⟩ := range_at hi
    refine st_seq (st_set (ew_callJ (aw_of (ea_cons (et_var rfl) (ea_cons (et_int (K := K)) (ea_cons (et_int (K := K)) ea_nil))) ⟨(⟨l, p⟩ : SyA), 0, l, _, rfl, by show p.pos + 410000 ≤ 100000000; omega, rfl, rfl, fun T M' ⟨n, many, ts, p1, hd, hon, hT, hM⟩ => ⟨_, hM, ?_⟩⟩)))
    subst hT
    have hon : p1.pos ≤ p.pos + 410000 := hon
    have hn : N3 n := hd.n3
    have hn1 := hn.1
    have hn3 := hn.2
    have h4 := hd.l4
    have hm3 : many ≤ 3 := hd.m3
    have hl1 : 1 ≤ ts.length := hd.l1
    refine st_seq (st_set (ew_of (et_item rfl rfl) ?_))
    let famL : List (List (List Nat)) → Ty := fun rows => DT K (.list (rows.map famD))
    refine st_cut (fun Γ M => ∃ (rws : Rws) (p' : Pen), rws.length = many ∧ (∀ rows ∈ rws, Rows6 n rows) ∧ p'.pos ≤ p1.pos + 117 ∧ Γ = [some (ScT K xs), some (VT (.ref l)), some (DT K (dn t)), some (DT K (sysD n many ts)), some (DT K (dn n)), some (DT K (rwsD rws)), none, o7, none, o9, o10] ∧ M = [(l, penC K p')]) ?_ ?_
    · refine st_set ?_
      refine ew_lc (xs := List.range many) (gT := fun i => DT K (dn i)) (ws := fun i => [(6, DT K (dn i))])
        (fun i Ts M' => ∃ (rws : Rws) (p' : Pen), Ts = rws.map famL ∧ rws.length = i ∧ (∀ rows ∈ rws, Rows6 n rows) ∧ p'.pos ≤ p1.pos + 39 * i ∧ M' = [(l, penC K p')])
        (ix_R (n := many) (ea_cons (et_item rfl rfl) ea_nil) (by omega)) (fun _ _ => gt_name) (fun _ => rfl) ⟨[], p1, rfl, rfl, (fun _ h => nomatch h), Nat.le_refl _, rfl⟩ ?_ (sz100 (by rw [List.length_range]; omega)) ?_
      · rintro i j Ts _ hj ⟨rws, p2, rfl, hl, hr, hpos, rfl⟩
        obtain ⟨rfl, hjm⟩ := range_at hj
        refine ⟨rfl, fun O' => ew_callJ (aw_of (ea_cons (et_var rfl) (ea_cons (et_var rfl) ea_nil)) ⟨(⟨l, p2, n⟩ : SomA), 0, l, _, rfl, ⟨hn, by show p2.pos + 39 ≤ 100000000; omega⟩, rfl, rfl, fun T M' ⟨rows, p3, h6, hon3, hT, hM⟩ => ⟨_, hM, rfl, rws ++ [rows], p3, ?_, ?_, ?_, ?_, rfl⟩⟩)⟩
        · rw [List.map_append, hT]
          rfl
        · rw [List.length_append, hl]
          rfl
        · intro r h
          rcases List.mem_append.mp h with h | h
          · exact hr r h
          · rw [List.mem_singleton.mp h]
            exact h6
        · have hon3 : p3.pos ≤ p2.pos + 39 := hon3
          omega
      · rintro Ts _ hT ⟨rws, p2, rfl, hl, hr, hpos, rfl⟩ _
        rw [List.length_range] at hl hpos
        refine ⟨rws, p2, hl, hr, by omega, ?_, rfl⟩
        have e : LstT (rws.map famL) = DT K (rwsD rws) := by
          have := lt_dt (K := K) (rws.map fun rows => .list (rows.map famD))
          rw [List.map_map] at this
          exact this
        rw [e]
        rfl
    rintro _ _ ⟨rws, p2, hrl, hrows, hpos, rfl, rfl⟩
    have hlaw : ∀ we, LawOk ⟨n, many, ts, rws, we⟩ := fun we => ⟨hd, hrl, hrows⟩
    have hrun : ∀ we, RunOk ⟨n, many, ts, rws, we⟩ := fun we => (hlaw we).run
    refine st_seq (st_set (ew_of (T := partsT K n (psOf rws)) (et_eq (lcT (xs := rws) (f := fun rows => ConT K n (rows.map famF)) (ix_sL (xs := rws) (g := fun rows => PyData.list (rows.map famD)) (et_var rfl)) (fun _ _ => gt_name) (fun _ => rfl) (fun rows hrr => et_contract n rows hn (by rw [(hrows rows hrr).1]; exact hn1) (by rw [(hrows rows hrr).1]; omega) ((hrun true).rows rows hrr).2 (ea_cons (et_var rfl) (ea_cons (et_var rfl) ea_nil))) (sz100 (by omega))) ?_) ?_))
    · show LstT _ = LstT ((rws.map fun rows => rows.map famF).map (ConT K n))
      rw [List.map_map]
      rfl
    let Γ0 : Option Ty → Option Ty → TEnv := fun o9 o10 => [some (ScT K xs), some (VT (.ref l)), some (DT K (dn t)), some (DT K (sysD n many ts)), some (DT K (dn n)), some (DT K (rwsD rws)), none, some (partsT K n (psOf rws)), none, o9, o10]
    refine st_cut (fun Γ M => ∃ (p' : Pen) (o9 o10 : Option Ty), p'.pos ≤ p2.pos + 402 ∧ Γ = Γ0 o9 o10 ∧ M = [(l, penC K p')]) ?_ ?_
    · refine st_for (xs := [true, false]) (gT := fun we => DT K (.str (sideT we))) (ws := fun we => [(9, DT K (.str (sideT we)))])
        (fun i Γ M => ∃ (p' : Pen) (o9 o10 : Option Ty), p'.pos ≤ p2.pos + 201 * i ∧ Γ = Γ0 o9 o10 ∧ M = [(l, penC K p')])
        (ix_sL (xs := [true, false]) (g := fun we => PyData.str (sideT we)) (et_lstD (K := K) (ead_cons (et_str (K := K)) (ead_cons (et_str (K := K)) ead_nil)) (by show 2 ≤ sizeLine; decide))) (fun _ _ => gt_name) ⟨p2, _, _, Nat.le_refl _, rfl, rfl⟩ ?_ ?_
      · rintro i we _ _ hwe ⟨p3, o9', o10', hp3, rfl, rfl⟩
        have hi2' : i < 2 := (List.getElem?_eq_some_iff.mp hwe).1
        let a : RunA := ⟨n, many, ts, rws, we⟩
        refine st_seq (st_ifW (bw_not (bw_B (ew_callJ (aw_of (ea_cons (et_var rfl) (ea_cons (et_var rfl) (ea_cons (et_var rfl) (ea_cons (et_var rfl) (ea_cons (et_var rfl) ea_nil))))) ⟨(⟨l, p3, a⟩ : RigA), 0, l, _, rfl, ⟨hlaw we, by show p3.pos < 100000000; omega⟩, rfl, rfl, fun T M' ⟨hT, p4, hon4, hM⟩ => ⟨_, hM, true, hT, (fun h => nomatch h), fun _ => st_next ?_⟩⟩)))))
        have hon4 : p4.pos ≤ p3.pos + 1 := hon4
        refine st_ifW (bw_not (bw_B (ew_callJ (aw_of (ea_cons (et_var rfl) (ea_cons (et_var rfl) (ea_cons (et_var rfl) (ea_cons (et_var rfl) (ea_cons (et_var rfl) ea_nil))))) ⟨(⟨l, p4, a⟩ : RigA), 0, l, _, rfl, ⟨hlaw we, by show p4.pos + 200 ≤ 100000000; omega⟩, rfl, rfl, fun T M' ⟨hT, p5, hon5, hM⟩ => ⟨_, hM, true, hT, (fun h => nomatch h), fun _ => st_next ⟨p5, _, _, ?_, rfl, rfl⟩⟩⟩))))
        have hon5 : p5.pos ≤ p4.pos + 200 := hon5
        omega
      · rintro _ _ ⟨p3, o9', o10', hp3, rfl, rfl⟩
        exact ⟨p3, _, _, hp3, rfl, rfl⟩
    rintro _ _ ⟨p3, o9', o10', hp3, rfl, rfl⟩
    refine st_for (xs := [(0, true), (ts.length - 1, false)]) (gT := fun q : Nat × Bool => DT K (.tuple [dn q.1, .str (sideT q.2)])) (ws := fun q => [(10, DT K (dn q.1)), (9, DT K (.str (sideT q.2)))])
      (fun i Γ M => ∃ (o9 o10 : Option Ty), Γ = Γ0 o9 o10 ∧ M = [(l, penC K p3)])
      (ix_sL (xs := [(0, true), (ts.length - 1, false)]) (g := fun q : Nat × Bool => PyData.tuple [dn q.1, .str (sideT q.2)]) (et_lstD (K := K) (ead_cons (et_tupD (K := K) (ead_cons (et_int (K := K)) (ead_cons (et_str (K := K)) ead_nil)) (by show 2 ≤ sizeLine; decide)) (ead_cons (et_tupD (K := K) (ead_cons (et_eq (et_op (et_cb (ea_cons (et_item rfl rfl) ea_nil) cx_lenTD) (et_int (K := K)) rx_subI) (T := DT K (dn (ts.length - 1))) ?_) (ead_cons (et_str (K := K)) ead_nil)) (by show 2 ≤ sizeLine; decide)) ead_nil)) (by show 2 ≤ sizeLine; decide))) (fun _ _ => gt_tupD (gts_cons gt_name (gts_cons gt_name gts_nil)) rfl) ⟨_, _, rfl, rfl⟩ ?_ ?_
    · rw [List.length_map]
      exact congrArg (fun i => DT K (.int i)) (by omega)
    · rintro i ⟨k, we⟩ _ _ hq ⟨o9', o10', rfl, rfl⟩
      have hk : k < ts.length := by
        have hm := List.mem_of_getElem? hq
        rcases List.mem_cons.mp hm with e | hm
        · have : k = 0 := congrArg Prod.fst e
          omega
        · have : k = ts.length - 1 := congrArg Prod.fst (List.mem_singleton.mp hm)
          omega
      let a : RunA := ⟨n, many, ts, rws, we⟩
      have hhad : HadOk ⟨a, (k, []), txtAt ts k⟩ := ⟨hrun we, hk, rfl⟩
      have hval : conR n (had ⟨a, (k, []), txtAt ts k⟩) = conR n (fin a k) := conR_eq (still_fix (fin_still (hrun we)) hk)
      refine st_if (b := false) (bt_eq (bt_test (et_op (et_value (a := a) (k := k) (hrun we) hd.small hk (ea_cons (et_var rfl) (ea_cons (et_var rfl) (ea_cons (et_var rfl) ea_nil))) (ea_cons (et_var rfl) ea_nil)) (et_call (ok := HadOk) (⟨a, (k, []), txtAt ts k⟩ : HadA) hhad (ea_cons (et_var rfl) (ea_cons (et_var rfl) (ea_cons (et_var rfl) (ea_cons (et_pairD (K := K) (et_var rfl) (et_tupD ead_nil (by show 0 ≤ sizeLine; decide))) (ea_cons (et_var rfl) ea_nil)))))) (rx_ownNe (ok := fun _ : Nat × List Row × List Row => True) (gs := conF K n (conR n (had ⟨a, (k, []), txtAt ts k⟩))) (n, conR n (fin a k), conR n (had ⟨a, (k, []), txtAt ts k⟩)) trivial rfl rfl))) ?_) (fun h => nomatch h) fun _ => st_next ⟨_, _, rfl, rfl⟩
      show (!PyData.eqv (rowsD n (conR n (fin a k))) (rowsD n (conR n (had ⟨a, (k, []), txtAt ts k⟩)))) = false
      rw [hval, PySem.SeqAt.eqv_refl _ (lay_rows n _)]
      rfl
    · rintro _ _ ⟨o9', o10', rfl, rfl⟩
      exact ⟨p3, _, _, _, _, _, _, _, by omega, rfl, rfl⟩
  · rintro _ _ ⟨p, o2, o3, o4, o5, o7, o9, o10, hp, rfl, rfl⟩
    exact st_ret (ew_of (et_bl (K := K)) (rt_P (Sub.refl _)))
end
end Tw
end
section
set_option Elab.async false
set_option linter.all false
set_option maxRecDepth 100000
set_option maxHeartbeats 0
namespace Tw
open PySem PySem.Spec PyProof.Rows L2
theorem law_sp {K : PySem.W.Frag} (H : Hp) (a : Addr) (ns : List Int) (hS : SqL K H a (ns.map V.int)) : sp_law K [.ref a] H (fun v _ => v = .bl true) fun _ _ _ => False :=
  ⟨ns, H, trivial, ⟨Evl.Ex.refl H, .nil, (fun m h => nomatch h), Evl.Ex.refl H, fun _ _ q _ => q, fun _ _ => rfl, fun _ q => q⟩, .cons ⟨a, rfl, hS⟩ .nil, fun T M' v I' H' ⟨hT, _⟩ _ _ hr => by
    subst hT
    exact dt_bl hr⟩
theorem Tx.a_law {K : PySem.W.Frag} {mg : Str → Option Value} (T : Tx K mg) (s : Shared) (us : List Value) (hl : us.length = P_law.length) : BindsTo s (fdAt K alaw) ⟨us, []⟩ (P_law.zip us) :=
  T.d_law.bindsA (fun _ _ _ _ _ _ us hl => match us, hl with | [_], _ => rfl) s us hl
theorem e_walk : PySem.W.WalkO (PySem.W.view R.prog [123]) names (PySem.W.XL (PySem.W.view R.prog [123]) []) hk.says R.toRowW dLaw [] fun f vs => PySem.call f vs := by
  refine L2.walk_ofE (l := PySem.Challenge.rw_twowills_k42_whole_values) (n := 63) (k := 25) (x := "_law_script") (CX := L2.CX0) rfl (by decide) e_dflt ⟨rfl, by decide, by decide⟩ ?_ (fun _ _ _ _ z => z)
  intro w mg fa h Y G hmg0
  obtain ⟨K, KX, c⟩ := Y
  have hmg : mg ("law" : PySem.Str) = some (.ref fa) := by
    rw [← e_name]
    exact hmg0
  have T : Tx K mg := ⟨c, h, KX, G⟩
  have ea : fa = alaw := by
    have e := hmg.symm.trans T.g_law
    injection e with e
    injection e
  subst ea
  exact ⟨K, fdAt K alaw, sp_law K, KX, fun s v => T.a_law s [v] rfl, fun H a ns hl _ hS => law_sp H a ns hS, fun base _ _ => ok_law (P := PySem.Challenge.rw_twowills_k42_whole_values.prog) (w := w) (base := base) T⟩
end Tw
end
set_option maxRecDepth 100000
set_option maxHeartbeats 0
set_option Elab.async false
set_option linter.all false
open PySem PySem.W PySem.Calls PyProof.Rows
theorem PySem.Challenge.cw_twowills_k42_whole_values_holds : PySem.Challenge.rw_twowills_k42_whole_values.Holds := by
  w_on; o_law
  refine HandSHeadRun.head_any (r := Tw.R) (q := view Tw.R.prog [123]) (H := Tw.hk) (ob := Tw.ob) (M := 20000) (loose := Tw.names) (d := Tw.dLaw) (kwd := []) Tw.ob_eq Tw.e_open Tw.e_fence Tw.run Tw.e_def Tw.e_the Tw.e_kw Tw.e_wr Tw.e_well Tw.e_chains Tw.e_bare ?hw ?hc
  case hw => w_witness2
  case hc => exact Tw.e_walk
