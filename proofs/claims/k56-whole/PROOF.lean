import PyProof.Rows.All
import Wide.All
import OpenK.AllK
import Wide.FinOn
import HandS.HeadHook4
import HandS.ForMost
import HandS.ForExc
import HandS.Property
import HandS.Head2
import HandS.Lambda
import HandS.TupAny
import HandS.IsInst
import HandS.Defaults
import HandS.Text
import KE.DataEq
import KE.SortData
import KE.DataMinKey
import PyProof.TupleOfSeq
import PyProof.Transfer
import HandS.More
import KE.GoesMore
import KE.GoesEnum
import KE.KDictZip
import KE.GoesZip
import KE.GoesNew
import PyProof.CollectWalk
import PyProof.TupleOfGen
import HandS.Zip
import HandS.Walk
import KE.KLam
import HandS.SortKw
import KE.DataMinMax
import HandS.DictComp
import KE.KDictKeyed
import KE.KDictCopyH
import KE.KDictSum
import KE.KxText
import HandS.TryOnly
import KE.KExcHand
import KE.KExcInit
import KE.KExcMake
import KE.KExcRaise
import HandS.Exc
import HandS.CallSlots
import HandS.ExcOwn
import HandS.Wide
import PyProof.Rows.StrCountLaw
import HandS.HeadWalk
import PySem.Challenge.RW_mayrest_k56_whole_no_fewer_cuts
set_option Elab.async false
set_option linter.all false
set_option maxRecDepth 100000
section H0_
set_option maxHeartbeats 1000000
namespace My
open PySem PySem.Spec PyProof.Rows L2
def inClass (s : Stmt) (j : Nat) : Stmt := match s with
  | .ClassDef _ _ _ b _ _ _ _ _ _ _ => b.getD j (.Pass ⟨0, 0, 0, 0⟩)
  | _ => .Pass ⟨0, 0, 0, 0⟩
def top (i : Nat) : Stmt := PySem.Challenge.pw_mayrest_k56_whole_no_fewer_cuts.main.body.getD i (.Pass ⟨0, 0, 0, 0⟩)
abbrev sIsName : Stmt := top 10
abbrev sIsPath : Stmt := top 11
abbrev sCovers : Stmt := top 12
abbrev sOverlap : Stmt := top 13
abbrev sCovered : Stmt := top 14
abbrev sFirstOverlap : Stmt := top 15
abbrev sIsRulePath : Stmt := top 20
abbrev sAreRulePaths : Stmt := top 21
abbrev sAreRows : Stmt := top 22
abbrev sItemHolds : Stmt := top 23
abbrev sParallelPaths : Stmt := top 24
abbrev sIsChained : Stmt := top 25
abbrev sAnyOverlap : Stmt := top 26
abbrev sRuleError : Stmt := top 27
abbrev sPlaceOf : Stmt := top 29
abbrev sIsBarred : Stmt := top 30
abbrev sLinksOf : Stmt := top 31
abbrev sChainsFrom : Stmt := top 32
abbrev sUsesOf : Stmt := top 33
abbrev sChainBreaks : Stmt := top 34
abbrev sStepsBetween : Stmt := top 35
abbrev sRingFrom : Stmt := top 36
abbrev sRingBreaks : Stmt := top 37
abbrev sAllBreaks : Stmt := top 38
abbrev sFirstOf : Stmt := top 39
abbrev sFirstBreak : Stmt := top 40
abbrev sFindingsOf : Stmt := top 41
abbrev sWithout : Stmt := top 50
abbrev sShortBreak : Stmt := top 51
abbrev sBreaksApart : Stmt := top 52
abbrev sCutSets : Stmt := top 53
abbrev sFewestCuts : Stmt := top 54
abbrev sIsPair : Stmt := top 56
abbrev sModulesError : Stmt := top 57
abbrev sUsesError : Stmt := top 58
abbrev sProgramError : Stmt := top 59
abbrev sPartsOf : Stmt := top 60
abbrev sBookError : Stmt := top 63
abbrev sLawReel : Stmt := top 66
abbrev sLawPull : Stmt := top 67
abbrev sLawPick : Stmt := top 68
abbrev sLawMixed : Stmt := top 69
abbrev sLawNames : Stmt := top 70
abbrev sLawUnder : Stmt := top 71
abbrev sLawMeet : Stmt := top 72
abbrev sLawHome : Stmt := top 73
abbrev sLawSpots : Stmt := top 74
abbrev sLawAlone : Stmt := top 75
abbrev sLawRows : Stmt := top 76
abbrev sLawRuleOf : Stmt := top 77
abbrev sLawRule : Stmt := top 78
abbrev sLawSomeRules : Stmt := top 79
abbrev sLawModules : Stmt := top 80
abbrev sLawUses : Stmt := top 81
abbrev sLawBars : Stmt := top 82
abbrev sLawIsLong : Stmt := top 83
abbrev sLawFar : Stmt := top 84
abbrev sLawPairs : Stmt := top 85
abbrev sLawRinged : Stmt := top 86
abbrev sLawBroken : Stmt := top 87
abbrev sLawKept : Stmt := top 88
abbrev sLawSmallCase : Stmt := top 89
abbrev sLawLeft : Stmt := top 90
abbrev sLawTold : Stmt := top 91
abbrev sLawCutDown : Stmt := top 92
abbrev sLawRight : Stmt := top 93
abbrev sLawTwoWays : Stmt := top 94
abbrev sLawAllRight : Stmt := top 95
abbrev sLaw : Stmt := top 96
abbrev sTooManyInit : Stmt := inClass (top 48) 0
abbrev sProgramInit : Stmt := inClass (top 61) 0
abbrev sProgramModules : Stmt := inClass (top 61) 1
abbrev sProgramUses : Stmt := inClass (top 61) 2
abbrev sBookInit : Stmt := inClass (top 64) 0
abbrev sBookRules : Stmt := inClass (top 64) 1
end My
end H0_
section H1_
set_option maxHeartbeats 0
namespace My
open PySem PySem.Spec PyProof.Rows L2

/-- what a name stands for -/
inductive Tg where
  | r (a : Addr) | i (z : Int) | o
def tagV : Value → Tg
  | .ref a => .r a
  | .int z _ => .i z
  | _ => .o
def tagK : Value → Option Str
  | .str x _ => some x
  | _ => none
section
open PySem.W
def nmsK (K : Frag) : List (Option Str × Tg) := match K.lookup mainGlobals with
  | some o => (match o.data with
    | .dict es _ => es.toList.map fun e => (tagK e.key, tagV e.val)
    | _ => [])
  | none => []
abbrev FnM : Type := Option (FuncBody × Arguments × Scope × Str × Str × Addr × Addr × List (Str × Addr))
def fnL (K : Frag) (a : Addr) : FnM := match K.lookup a with
  | some o => (match o.data with
    | .func d => some (d.body, d.params, d.scope, d.name, d.qualname, d.globals, d.builtins, d.closure)
    | _ => none)
  | none => none
def isNon : Value → Bool
  | .none => true
  | _ => false
def fnC (K : Frag) (a : Addr) (q : Str) (kw : List (Str × He.Dv)) : Bool := keepIn K (.ref a) && (match K.lookup a with
  | some o => (match o.data with
    | .func d => codeIn K d.code q && (isNon d.defaults && He.kwdB K d.kwdefaults (kw.map fun q => (q.1, q.2.v K)))
    | _ => false)
  | none => false)
def kwNo (K : Frag) (a : Addr) : Bool := match K.lookup a with
  | some o => (match o.data with
    | .func d => isNon d.kwdefaults
    | _ => false)
  | none => false
def codeRf (K : Frag) (a c : Addr) : Bool := match K.lookup a with
  | some o => (match o.data with
    | .func d => decide (d.code = .ref c)
    | _ => false)
  | none => false
def clsB (K : Frag) (C : Addr) : Bool := (plainGet K C Str.empty && hasDictIn K C) && (plainOver K C && He.eqO (findIn K (.ref C) "__setattr__") (some (some (.builtin "object.__setattr__"))))
def mkB (K : Frag) (C f : Addr) : Bool := (makesIn K C && He.eqO (findIn K (.ref C) "__init__") (some (some (.ref f)))) && (isFn K (.ref f) && keepIn K (.ref C))
def prB (K : Frag) (C : Addr) (x : Str) (p g : Addr) : Bool := (He.eqO (findIn K (.ref C) x) (some (some (.ref p))) && He.eqO (specialIn K (.ref p) "__get__") (some (some (.builtin "property.__get__")))) &&
  (decide (takesIn K (.ref p) = some true) && (match recIn K p "property" with
    | some (v :: _) => decide (v = .ref g)
    | _ => false))
def tmB (K : Frag) (C : Addr) : Bool := match K.lookup C with
  | some ⟨.type t, _, .cls cd, sl⟩ => decide (t = "type") && ((cd.hasDict && !cd.hasDel) && ((match cd.mro with
    | v :: bm => decide (v = .ref C) && PySem.HandSPX.refsVE bm
    | [] => false) && (match sl.toList with
      | [_, _, _, _, some (.builtin n), _] => decide (n = "ValueError.__new__")
      | _ => false)))
  | _ => false
def tupL (K : Frag) (a : Addr) (xs : List Str) : Bool := match K.lookup a with
  | some ⟨.type c, _, .seq its _, _⟩ => decide (c = "tuple") && (decide (its.size ≤ sizeLine) && He.relAll (xs.map V.str) its.toList)
  | _ => false
/-- the address, its names, its row, its keyword's default -/
structure Fd where
  a : Addr
  x : Str
  q : Str
  st : Stmt
  kw : List (Str × He.Dv)

def ads : List Addr := [3, 26, 25, 31, 30, 38, 37, 45, 44, 52, 51, 57, 56, 73, 72, 78, 77, 83, 82, 88, 87, 93, 92, 100, 99, 105, 104, 112, 111, 119, 118, 126, 125, 133, 132, 140, 139, 147, 146, 152, 151, 159, 158, 164, 163, 169, 168, 174, 173, 181, 180, 188, 187, 193, 192, 306, 305, 313, 312, 320, 319, 325, 324, 333, 332, 340, 339, 347, 346, 354, 353, 361, 360, 368, 367, 487, 486, 573, 572, 580, 579, 587, 586, 594, 593, 599, 598, 606, 605, 613, 612, 620, 619, 627, 626, 632, 631, 637, 636, 642, 641, 649, 648, 656, 655, 661, 660, 668, 667, 673, 672, 680, 679, 685, 684, 690, 689, 695, 694, 700, 699, 705, 704, 712, 711, 717, 716, 724, 723, 729, 728, 734, 733, 741, 740, 748, 747, 755, 754, 296, 295, 382, 381, 389, 388, 397, 396, 501, 500, 508, 507, 326, 58, 66, 59, 60, 61, 62, 63, 64, 65, 203, 202, 299, 298, 476, 475, 390, 398, 564, 563, 509]
def lnm : List (Option Str × Tg) := [(some ("__name__" : Str), Tg.o),
  (some ("__doc__" : Str), Tg.o),
  (some ("__package__" : Str), Tg.o),
  (some ("__loader__" : Str), Tg.o),
  (some ("__spec__" : Str), Tg.o),
  (some ("__annotations__" : Str), Tg.r 6),
  (some ("__builtins__" : Str), Tg.r 4),
  (some ("__file__" : Str), Tg.o),
  (some ("__cached__" : Str), Tg.o),
  (some ("_wall" : Str), Tg.r 21),
  (some ("MAX_CUTS" : Str), Tg.i 4),
  (some ("MAX_MODULES" : Str), Tg.i 24),
  (some ("MAX_NAMES" : Str), Tg.i 6),
  (some ("MAX_RULE_NAMES" : Str), Tg.i 4),
  (some ("MAX_RULES" : Str), Tg.i 8),
  (some ("MAX_USES" : Str), Tg.i 200),
  (some ("LETTERS" : Str), Tg.o),
  (some ("MAX_LETTERS" : Str), Tg.i 8),
  (some ("is_name" : Str), Tg.r 26),
  (some ("is_path" : Str), Tg.r 31),
  (some ("covers" : Str), Tg.r 38),
  (some ("overlap" : Str), Tg.r 45),
  (some ("covered" : Str), Tg.r 52),
  (some ("first_overlap" : Str), Tg.r 57),
  (some ("ITEMS" : Str), Tg.r 58),
  (some ("LEAST" : Str), Tg.r 66),
  (some ("MOST_PATHS" : Str), Tg.i 6),
  (some ("is_rule_path" : Str), Tg.r 73),
  (some ("are_rule_paths" : Str), Tg.r 78),
  (some ("are_rows" : Str), Tg.r 83),
  (some ("item_holds" : Str), Tg.r 88),
  (some ("parallel_paths" : Str), Tg.r 93),
  (some ("is_chained" : Str), Tg.r 100),
  (some ("any_overlap" : Str), Tg.r 105),
  (some ("rule_error" : Str), Tg.r 112),
  (some ("place_of" : Str), Tg.r 119),
  (some ("is_barred" : Str), Tg.r 126),
  (some ("links_of" : Str), Tg.r 133),
  (some ("chains_from" : Str), Tg.r 140),
  (some ("uses_of" : Str), Tg.r 147),
  (some ("chain_breaks" : Str), Tg.r 152),
  (some ("steps_between" : Str), Tg.r 159),
  (some ("ring_from" : Str), Tg.r 164),
  (some ("ring_breaks" : Str), Tg.r 169),
  (some ("all_breaks" : Str), Tg.r 174),
  (some ("first_of" : Str), Tg.r 181),
  (some ("first_break" : Str), Tg.r 188),
  (some ("findings_of" : Str), Tg.r 193),
  (some ("RestError" : Str), Tg.r 203),
  (some ("BadBook" : Str), Tg.r 223),
  (some ("BadProgram" : Str), Tg.r 242),
  (some ("BadUse" : Str), Tg.r 261),
  (some ("Clash" : Str), Tg.r 280),
  (some ("TooMany" : Str), Tg.r 299),
  (some ("without" : Str), Tg.r 306),
  (some ("short_break" : Str), Tg.r 313),
  (some ("breaks_apart" : Str), Tg.r 320),
  (some ("cut_sets" : Str), Tg.r 325),
  (some ("fewest_cuts" : Str), Tg.r 333),
  (some ("is_pair" : Str), Tg.r 340),
  (some ("modules_error" : Str), Tg.r 347),
  (some ("uses_error" : Str), Tg.r 354),
  (some ("program_error" : Str), Tg.r 361),
  (some ("parts_of" : Str), Tg.r 368),
  (some ("Program" : Str), Tg.r 476),
  (some ("book_error" : Str), Tg.r 487),
  (some ("Book" : Str), Tg.r 564),
  (some ("_law_reel" : Str), Tg.r 573),
  (some ("_law_pull" : Str), Tg.r 580),
  (some ("_law_pick" : Str), Tg.r 587),
  (some ("_law_mixed" : Str), Tg.r 594),
  (some ("_law_names" : Str), Tg.r 599),
  (some ("_law_under" : Str), Tg.r 606),
  (some ("_law_meet" : Str), Tg.r 613),
  (some ("_law_home" : Str), Tg.r 620),
  (some ("_law_spots" : Str), Tg.r 627),
  (some ("_law_alone" : Str), Tg.r 632),
  (some ("_law_rows" : Str), Tg.r 637),
  (some ("_law_rule_of" : Str), Tg.r 642),
  (some ("_law_rule" : Str), Tg.r 649),
  (some ("_law_some_rules" : Str), Tg.r 656),
  (some ("_law_modules" : Str), Tg.r 661),
  (some ("_law_uses" : Str), Tg.r 668),
  (some ("_law_bars" : Str), Tg.r 673),
  (some ("_law_is_long" : Str), Tg.r 680),
  (some ("_law_far" : Str), Tg.r 685),
  (some ("_law_pairs" : Str), Tg.r 690),
  (some ("_law_ringed" : Str), Tg.r 695),
  (some ("_law_broken" : Str), Tg.r 700),
  (some ("_law_kept" : Str), Tg.r 705),
  (some ("_law_small_case" : Str), Tg.r 712),
  (some ("_law_left" : Str), Tg.r 717),
  (some ("_law_told" : Str), Tg.r 724),
  (some ("_law_cut_down" : Str), Tg.r 729),
  (some ("_law_right" : Str), Tg.r 734),
  (some ("_law_two_ways" : Str), Tg.r 741),
  (some ("_law_all_right" : Str), Tg.r 748),
  (some ("law" : Str), Tg.r 755)]
def fds : List Fd := [⟨26, "is_name", "is_name", sIsName, []⟩,
  ⟨31, "is_path", "is_path", sIsPath, []⟩,
  ⟨38, "covers", "covers", sCovers, []⟩,
  ⟨45, "overlap", "overlap", sOverlap, []⟩,
  ⟨52, "covered", "covered", sCovered, []⟩,
  ⟨57, "first_overlap", "first_overlap", sFirstOverlap, []⟩,
  ⟨73, "is_rule_path", "is_rule_path", sIsRulePath, []⟩,
  ⟨78, "are_rule_paths", "are_rule_paths", sAreRulePaths, []⟩,
  ⟨83, "are_rows", "are_rows", sAreRows, []⟩,
  ⟨88, "item_holds", "item_holds", sItemHolds, []⟩,
  ⟨93, "parallel_paths", "parallel_paths", sParallelPaths, []⟩,
  ⟨100, "is_chained", "is_chained", sIsChained, []⟩,
  ⟨105, "any_overlap", "any_overlap", sAnyOverlap, []⟩,
  ⟨112, "rule_error", "rule_error", sRuleError, []⟩,
  ⟨119, "place_of", "place_of", sPlaceOf, []⟩,
  ⟨126, "is_barred", "is_barred", sIsBarred, []⟩,
  ⟨133, "links_of", "links_of", sLinksOf, []⟩,
  ⟨140, "chains_from", "chains_from", sChainsFrom, []⟩,
  ⟨147, "uses_of", "uses_of", sUsesOf, []⟩,
  ⟨152, "chain_breaks", "chain_breaks", sChainBreaks, []⟩,
  ⟨159, "steps_between", "steps_between", sStepsBetween, []⟩,
  ⟨164, "ring_from", "ring_from", sRingFrom, []⟩,
  ⟨169, "ring_breaks", "ring_breaks", sRingBreaks, []⟩,
  ⟨174, "all_breaks", "all_breaks", sAllBreaks, []⟩,
  ⟨181, "first_of", "first_of", sFirstOf, []⟩,
  ⟨188, "first_break", "first_break", sFirstBreak, []⟩,
  ⟨193, "findings_of", "findings_of", sFindingsOf, []⟩,
  ⟨306, "without", "without", sWithout, []⟩,
  ⟨313, "short_break", "short_break", sShortBreak, []⟩,
  ⟨320, "breaks_apart", "breaks_apart", sBreaksApart, []⟩,
  ⟨325, "cut_sets", "cut_sets", sCutSets, []⟩,
  ⟨333, "fewest_cuts", "fewest_cuts", sFewestCuts, [("most", .int 4)]⟩,
  ⟨340, "is_pair", "is_pair", sIsPair, []⟩,
  ⟨347, "modules_error", "modules_error", sModulesError, []⟩,
  ⟨354, "uses_error", "uses_error", sUsesError, []⟩,
  ⟨361, "program_error", "program_error", sProgramError, []⟩,
  ⟨368, "parts_of", "parts_of", sPartsOf, []⟩,
  ⟨487, "book_error", "book_error", sBookError, []⟩,
  ⟨573, "_law_reel", "_law_reel", sLawReel, []⟩,
  ⟨580, "_law_pull", "_law_pull", sLawPull, []⟩,
  ⟨587, "_law_pick", "_law_pick", sLawPick, []⟩,
  ⟨594, "_law_mixed", "_law_mixed", sLawMixed, []⟩,
  ⟨599, "_law_names", "_law_names", sLawNames, []⟩,
  ⟨606, "_law_under", "_law_under", sLawUnder, []⟩,
  ⟨613, "_law_meet", "_law_meet", sLawMeet, []⟩,
  ⟨620, "_law_home", "_law_home", sLawHome, []⟩,
  ⟨627, "_law_spots", "_law_spots", sLawSpots, []⟩,
  ⟨632, "_law_alone", "_law_alone", sLawAlone, []⟩,
  ⟨637, "_law_rows", "_law_rows", sLawRows, []⟩,
  ⟨642, "_law_rule_of", "_law_rule_of", sLawRuleOf, []⟩,
  ⟨649, "_law_rule", "_law_rule", sLawRule, []⟩,
  ⟨656, "_law_some_rules", "_law_some_rules", sLawSomeRules, []⟩,
  ⟨661, "_law_modules", "_law_modules", sLawModules, []⟩,
  ⟨668, "_law_uses", "_law_uses", sLawUses, []⟩,
  ⟨673, "_law_bars", "_law_bars", sLawBars, []⟩,
  ⟨680, "_law_is_long", "_law_is_long", sLawIsLong, []⟩,
  ⟨685, "_law_far", "_law_far", sLawFar, []⟩,
  ⟨690, "_law_pairs", "_law_pairs", sLawPairs, []⟩,
  ⟨695, "_law_ringed", "_law_ringed", sLawRinged, []⟩,
  ⟨700, "_law_broken", "_law_broken", sLawBroken, []⟩,
  ⟨705, "_law_kept", "_law_kept", sLawKept, []⟩,
  ⟨712, "_law_small_case", "_law_small_case", sLawSmallCase, []⟩,
  ⟨717, "_law_left", "_law_left", sLawLeft, []⟩,
  ⟨724, "_law_told", "_law_told", sLawTold, []⟩,
  ⟨729, "_law_cut_down", "_law_cut_down", sLawCutDown, []⟩,
  ⟨734, "_law_right", "_law_right", sLawRight, []⟩,
  ⟨741, "_law_two_ways", "_law_two_ways", sLawTwoWays, []⟩,
  ⟨748, "_law_all_right", "_law_all_right", sLawAllRight, []⟩,
  ⟨755, "law", "law", sLaw, []⟩,
  ⟨296, "__init__", "TooMany.__init__", sTooManyInit, []⟩,
  ⟨382, "__init__", "Program.__init__", sProgramInit, []⟩,
  ⟨389, "modules", "Program.modules", sProgramModules, []⟩,
  ⟨397, "uses", "Program.uses", sProgramUses, []⟩,
  ⟨501, "__init__", "Book.__init__", sBookInit, []⟩,
  ⟨508, "rules", "Book.rules", sBookRules, []⟩]
def exL (K : Frag) : List Bool := [clsB K 476,
  mkB K 476 382,
  He.eqO (findIn K (.ref 476) "places") (some none),
  He.eqO (findIn K (.ref 476) "links") (some none),
  He.eqO (findIn K (.ref 476) "heads") (some none),
  clsB K 564,
  mkB K 564 501,
  He.eqO (findIn K (.ref 564) "held") (some none),
  prB K 476 "modules" 390 389,
  prB K 476 "uses" 398 397,
  prB K 564 "rules" 509 508,
  tmB K 299,
  He.eqO (findIn K (.ref 299) "__setattr__") (some (some (.builtin "object.__setattr__"))),
  He.eqO (findIn K (.ref 299) "__getattribute__") (some (some (.builtin "BaseException.__getattribute__"))),
  He.eqO (findIn K (.ref 299) "__getattr__") (some none),
  He.eqO (findIn K (.ref 299) "limit") (some none),
  He.eqO (findIn K (.ref 299) "__init__") (some (some (.ref 296))),
  decide (typeIn K (.ref 296) = some (.type "function")),
  keepIn K (.ref 299),
  decide (subIn K (.ref 299) (.type "BaseException") = some true),
  decide (typeIn K (.ref 299) = some (.type "type")),
  hasDictIn K 299,
  decide (exmOne K (.ref 299) (.ref 299) = some true),
  kwNo K 296,
  (He.Fa.str "LETTERS" "abcdefghijklmnopqrstuvwxyz").ok K,
  He.valsB K 58 [("forbid", .adr fun _ => 59), ("layers", .adr fun _ => 60), ("stairs", .adr fun _ => 61), ("apart", .adr fun _ => 62), ("only", .adr fun _ => 63), ("face", .adr fun _ => 64), ("noring", .adr fun _ => 65)],
  He.valsB K 66 [("sources", .int 1), ("targets", .int 1), ("paths", .int 2), ("users", .int 0), ("exposed", .int 0)],
  tupL K 59 ["sources", "targets", "how"],
  tupL K 60 ["rows", "how"],
  tupL K 61 ["rows"],
  tupL K 62 ["paths", "how"],
  tupL K 63 ["targets", "users"],
  tupL K 64 ["path", "exposed"],
  tupL K 65 ["paths"],
  (K.lookup 176).isNone,
  (K.lookup 308).isNone,
  codeHdIn K 180 176,
  codeHdIn K 312 308,
  codeRf K 181 180,
  codeRf K 313 312]
def tbls : List ((Frag → Addr) × List Str) := [(fun _ => 58, ["forbid", "layers", "stairs", "apart", "only", "face", "noring"]), (fun _ => 66, ["sources", "targets", "paths", "users", "exposed"])]
def emB (g : Addr → Option Obj) (a : Addr) : Bool := match g a with
  | some o => He.emptyTab o
  | none => false
/-- the part of the heap is laid out once -/
def layF {β : Type} : List (Addr × Obj) → (List (Addr × Obj) → β) → β
  | [], k => k []
  | p :: r, k => layF r fun r2 => k (p :: r2)
theorem layF_eq {β : Type} : ∀ (l : List (Addr × Obj)) (k : List (Addr × Obj) → β), layF l k = k l
  | [], _ => rfl
  | _ :: r, k => layF_eq r _
abbrev AlM : Type := List (Option Str × Tg) × List FnM × List (Option (List (Option (Str × Int)))) × Bool
def obsK (g : Addr → Option Obj) (K : Frag) : AlM := (nmsK K, fds.map fun d => fnL K d.a, tbls.map fun t => He.dicW K (t.1 K), ((exL K).all id && fds.all fun d => fnC K d.a d.q d.kw) && (emB g 176 && emB g 308))
def valK (w : World) : AlM := (lnm, fds.map fun d => some (.stmts (defBody d.st), defArgs d.st, defScope d.st, d.x, d.q, mainGlobals, builtinsNs, []), tbls.map fun t => some (He.keysIn w.params t.2), true)
def obsL (g : Addr → Option Obj) : AlM := layF (He.frG g ads) fun K => obsK g K
structure SaysK (w : World) (K : Frag) : Prop where
  nm : nmsK K = lnm
  fn : (fds.map fun d => fnL K d.a) = fds.map fun d => some (.stmts (defBody d.st), defArgs d.st, defScope d.st, d.x, d.q, mainGlobals, builtinsNs, [])
  tb : (tbls.map fun t => He.dicW K (t.1 K)) = tbls.map fun t => some (He.keysIn w.params t.2)
  ex : ((exL K).all id && fds.all fun d => fnC K d.a d.q d.kw) = true
def hkM : Hook where
  α := AlM
  obs := fun s => obsL s.heap.get?
  val := valK
  says := fun w h => ∃ K : Frag, K.In h ∧ SaysK w K ∧ h.get? 176 = some { cls := .none, data := .fields #[] } ∧ h.get? 308 = some { cls := .none, data := .fields #[] }
  of := fun w s e => by
    have e1 : obsK s.heap.get? (He.frG s.heap.get? ads) = valK w := by
      rw [← e]
      exact (layF_eq (He.frG s.heap.get? ads) fun K => obsK s.heap.get? K).symm
    have e2 := congrArg (fun z : AlM => z.2.2.2) e1
    have e3 : (((exL (He.frG s.heap.get? ads)).all id && fds.all fun d => fnC (He.frG s.heap.get? ads) d.a d.q d.kw) && (emB s.heap.get? 176 && emB s.heap.get? 308)) = true := e2
    obtain ⟨e4, e5⟩ := He.ba e3
    obtain ⟨e6, e7⟩ := He.ba e5
    have key : ∀ a, emB s.heap.get? a = true → s.heap.get? a = some { cls := .none, data := .fields #[] } := fun a h => by
      unfold emB at h
      cases q : s.heap.get? a with
      | none => rw [q] at h; cases h
      | some o => rw [q] at h; rw [He.emptyTab_eq h]
    exact ⟨He.frG s.heap.get? ads, He.frG_in, ⟨congrArg (fun z : AlM => z.1) e1, congrArg (fun z : AlM => z.2.1) e1, congrArg (fun z : AlM => z.2.2.1) e1, e4⟩, key _ e6, key _ e7⟩
  keeps := fun _ _ _ ⟨K, hK, c, a, b⟩ k => ⟨K, Frag.In.keeps hK k, c, k _ _ a, k _ _ b⟩
end
abbrev R : PySem.W.OpenRow := PySem.W.OpenLaw.row PySem.Challenge.rw_mayrest_k56_whole_no_fewer_cuts
def ob (s : PySem.W.SharedT) : AlM := obsL (HandSHeadRun.getT s)
theorem ob_eq (s : PySem.W.SharedT) : ob s = hkM.obs s.abs := by
  have e : HandSHeadRun.getT s = s.abs.heap.get? := funext (HandSHeadRun.getT_eq s)
  show obsL _ = obsL _
  rw [e]
def nm0 : List PySem.Str := ["_wall", "MAX_CUTS", "MAX_MODULES", "MAX_NAMES", "MAX_RULE_NAMES", "MAX_RULES", "MAX_USES", "LETTERS", "MAX_LETTERS", "is_name", "is_path", "covers", "overlap", "covered", "first_overlap", "ITEMS", "LEAST", "MOST_PATHS", "is_rule_path", "are_rule_paths", "are_rows", "item_holds", "parallel_paths", "is_chained"]
def nm1 : List PySem.Str := ["any_overlap", "rule_error", "place_of", "is_barred", "links_of", "chains_from", "uses_of", "chain_breaks", "steps_between", "ring_from", "ring_breaks", "all_breaks", "first_of", "first_break", "findings_of", "RestError", "BadBook", "BadProgram", "BadUse", "Clash", "TooMany", "without", "short_break", "breaks_apart"]
def nm2 : List PySem.Str := ["cut_sets", "fewest_cuts", "is_pair", "modules_error", "uses_error", "program_error", "parts_of", "Program", "book_error", "Book", "_law_reel", "_law_pull", "_law_pick", "_law_mixed", "_law_names", "_law_under", "_law_meet", "_law_home", "_law_spots", "_law_alone", "_law_rows", "_law_rule_of", "_law_rule", "_law_some_rules"]
def nm3 : List PySem.Str := ["_law_modules", "_law_uses", "_law_bars", "_law_is_long", "_law_far", "_law_pairs", "_law_ringed", "_law_broken", "_law_kept", "_law_small_case", "_law_left", "_law_told", "_law_cut_down", "_law_right", "_law_two_ways", "_law_all_right"]
def nms : List PySem.Str := nm0 ++ nm1 ++ nm2 ++ nm3
end My
end H1_
section H2f_
set_option maxHeartbeats 0
namespace My
open PySem PySem.Spec PyProof.Rows L2
theorem runF (w : World) : HandSHeadRun.RunEq R (PySem.W.view R.prog [96]) hkM ob 6000 nms (w.withFollow "special-get-raises" false) := by
  intro os
  kernel_rfl
end My
end H2f_
section H2t_
set_option maxHeartbeats 0
namespace My
open PySem PySem.Spec PyProof.Rows L2
theorem runT (w : World) : HandSHeadRun.RunEq R (PySem.W.view R.prog [96]) hkM ob 6000 nms (w.withFollow "special-get-raises" true) := by
  intro os
  kernel_rfl
end My
end H2t_
section DL1_
set_option maxHeartbeats 1000000
namespace My
open PySem PySem.Spec PyProof.Rows L2 LamX

structure Ex (H H' : Hp) : Prop where
  keep : ∀ b o, H b = some o → (∀ ps, o ≠ .tbl ps) → H' b = some o
  live : ∀ b, H b ≠ none → H' b ≠ none
theorem Ex.refl (H : Hp) : Ex H H := ⟨fun _ _ h _ => h, fun _ h => h⟩
theorem Ex.trans {H H1 H2 : Hp} (a : Ex H H1) (b : Ex H1 H2) : Ex H H2 := ⟨fun x o h n => b.keep x o (a.keep x o h n) n, fun x h => b.live x (a.live x h)⟩
theorem Ex.new {H : Hp} {p : Addr} {o : HO} (h : H p = none) : Ex H (upd H p o) := ⟨fun a u e _ => by
  rw [upd_ne (ne_of_none e h)]
  exact e, fun b hb => by
  by_cases e : b = p
  · rw [e, upd_same]; exact fun z => by cases z
  · rw [upd_ne e]; exact hb⟩
def Sub (B H : Hp) : Prop := ∀ b o, B b = some o → H b = some o
theorem Sub.ex {B H : Hp} (s : Sub B H) : Ex B H := ⟨fun b o h _ => s b o h, fun b h => by
  cases e : B b with
  | none => exact absurd e h
  | some o => rw [s b o e]; exact fun z => by cases z⟩
theorem Sub.none {B H : Hp} (s : Sub B H) {p : Addr} (h : H p = none) : B p = none := by
  cases e : B p with
  | none => rfl
  | some o => rw [s p o e] at h; cases h
/-- what may be handed on behind a call: what B tells, and what is new -/
def ext (B H H1 : Hp) : Hp := fun a => if (H a).isSome = true ∧ B a = none then none else H1 a
theorem ext_new {B H H1 : Hp} {a : Addr} (h : H a = none) : ext B H H1 a = H1 a := if_neg (fun q => by rw [h] at q; exact absurd q.1 (by simp))
theorem ext_old {B H H1 : Hp} {a : Addr} (h : B a ≠ none) : ext B H H1 a = H1 a := if_neg fun q => h q.2
theorem ext_out {B H H1 : Hp} {a : Addr} (h : H a ≠ none) (h2 : B a = none) : ext B H H1 a = none := if_pos ⟨by
  cases e : H a with
  | none => exact absurd e h
  | some o => rfl, h2⟩
theorem ext_sub {B H H1 : Hp} : Sub (ext B H H1) H1 := fun b o h => by
  unfold ext at h
  split at h
  · cases h
  · exact h
theorem ext_ex {B H H1 : Hp} (s : Sub B H) (e : Ex H H1) : Ex B (ext B H H1) := ⟨fun b o h n => by
  rw [ext_old (by rw [h]; exact fun z => by cases z)]
  exact e.keep b o (s b o h) n, fun b h => by
  rw [ext_old h]
  exact e.live b (s.ex.live b h)⟩
section
variable {K : PySem.W.Frag} {H H' : Hp}
theorem rd_mono (e : Ex H H') {a : Addr} {u : HO} (hu : ∀ ps, u ≠ .tbl ps) (h : Rd H a u) : Rd H' a u := by
  rcases h with h | ⟨o, h⟩
  · exact .inl (e.keep _ _ h hu)
  · exact .inr ⟨o, e.keep _ _ h fun ps z => by cases z⟩
theorem sqL_mono (e : Ex H H') {a : Addr} {xs : List V} (h : SqL K H a xs) : SqL K H' a xs := by
  rcases h with h | h
  · exact .inl (rd_mono e (fun ps z => by cases z) h)
  · exact .inr h
theorem sqT_mono (e : Ex H H') {a : Addr} {xs : List V} (h : SqT K H a xs) : SqT K H' a xs := by
  rcases h with h | h
  · exact .inl (rd_mono e (fun ps z => by cases z) h)
  · exact .inr h
mutual
theorem Dp.mono (e : Ex H H') : ∀ {d : PyData} {v : V}, Dp K H v d → Dp K H' v d
  | .none, _, .non => .non
  | .bool _, _, .bl b => .bl b
  | .int _, _, .int i => .int i
  | .str _, _, .str x => .str x
  | .list _, _, .lst s a => .lst (sqL_mono e s) (DpAll.mono e a)
  | .tuple _, _, .tup s a => .tup (sqT_mono e s) (DpAll.mono e a)
theorem DpAll.mono (e : Ex H H') : ∀ {ds : List PyData} {vs : List V}, DpAll K H vs ds → DpAll K H' vs ds
  | [], _, .nil => .nil
  | _ :: _, _, .cons h t => .cons (Dp.mono e h) (DpAll.mono e t)
end
theorem DpAll.length : ∀ {vs : List V} {ds : List PyData}, DpAll K H vs ds → vs.length = ds.length
  | _, _, .nil => rfl
  | _, _, .cons _ t => by rw [List.length_cons, List.length_cons, DpAll.length t]
theorem DpAll.get : ∀ {vs : List V} {ds : List PyData} {i : Nat} {v : V}, DpAll K H vs ds → vs[i]? = some v → ∃ d, ds[i]? = some d ∧ Dp K H v d
  | _, _, _, _, .nil, e => by simp at e
  | _, _, 0, _, .cons h _, e => by simp at e; subst e; exact ⟨_, rfl, h⟩
  | _, _, i + 1, _, .cons _ t, e => by
    obtain ⟨d, h1, h2⟩ := DpAll.get (i := i) t (by simpa using e)
    exact ⟨d, by simpa using h1, h2⟩
theorem DpAll.get' : ∀ {vs : List V} {ds : List PyData} {i : Nat} {d : PyData}, DpAll K H vs ds → ds[i]? = some d → ∃ v, vs[i]? = some v ∧ Dp K H v d
  | _, _, _, _, .nil, e => by simp at e
  | _, _, 0, _, .cons h _, e => by simp at e; subst e; exact ⟨_, rfl, h⟩
  | _, _, i + 1, _, .cons _ t, e => by
    obtain ⟨d, h1, h2⟩ := DpAll.get' (i := i) t (by simpa using e)
    exact ⟨d, by simpa using h1, h2⟩
theorem DpAll.append : ∀ {vs ws : List V} {ds es : List PyData}, DpAll K H vs ds → DpAll K H ws es → DpAll K H (vs ++ ws) (ds ++ es)
  | _, _, _, _, .nil, s => s
  | _, _, _, _, .cons h t, s => .cons h (DpAll.append t s)
theorem DpAll.take : ∀ {vs : List V} {ds : List PyData} (n : Nat), DpAll K H vs ds → DpAll K H (vs.take n) (ds.take n)
  | _, _, 0, _ => .nil
  | _, _, _ + 1, .nil => .nil
  | _, _, n + 1, .cons h t => .cons h (DpAll.take n t)
theorem DpAll.drop : ∀ {vs : List V} {ds : List PyData} (n : Nat), DpAll K H vs ds → DpAll K H (vs.drop n) (ds.drop n)
  | _, _, 0, r => r
  | _, _, _ + 1, .nil => .nil
  | _, _, n + 1, .cons _ t => DpAll.drop n t
theorem DpAll.set : ∀ {vs : List V} {ds : List PyData} (i : Nat) {v : V} {d : PyData}, DpAll K H vs ds → Dp K H v d → DpAll K H (vs.set i v) (ds.set i d)
  | _, _, _, _, _, .nil, _ => .nil
  | _, _, 0, _, _, .cons _ t, h => .cons h t
  | _, _, i + 1, _, _, .cons h t, q => .cons h (DpAll.set i t q)
theorem DpAll.eraseIdx : ∀ {vs : List V} {ds : List PyData} (i : Nat), DpAll K H vs ds → DpAll K H (vs.eraseIdx i) (ds.eraseIdx i)
  | _, _, _, .nil => .nil
  | _, _, 0, .cons _ t => t
  | _, _, i + 1, .cons h t => .cons h (DpAll.eraseIdx i t)
end

/-- what stands still in a slot, or comes of an expression -/
inductive Dat where
  | val (d : PyData)
  | dk (kvs : List (Key × PyData))
  | dt (kvs : List (List Key × PyData))
  | mon (φ : Hp → V → Prop)
/-- pairs of a dict: the keys as they are, the values as data -/
inductive KvOk (K : PySem.W.Frag) (B : Hp) {κ : Type} : List (κ × V) → List (κ × PyData) → Prop
  | nil : KvOk K B [] []
  | cons {k : κ} {v : V} {d : PyData} {r : List (κ × V)} {s : List (κ × PyData)} : Dp K B v d → KvOk K B r s → KvOk K B ((k, v) :: r) ((k, d) :: s)
def DatOk (K : PySem.W.Frag) (B : Hp) (v : V) : Dat → Prop
  | .val d => Dp K B v d
  | .dk kvs => ∃ a ws, v = .ref a ∧ B a = some (.dK ws) ∧ KvOk K B ws kvs
  | .dt kvs => ∃ a ws, v = .ref a ∧ B a = some (.dT ws) ∧ KvOk K B ws kvs
  | .mon φ => φ B v ∧ ∀ B', Ex B B' → φ B' v
section
variable {K : PySem.W.Frag} {B B' : Hp}
theorem KvOk.mono {κ : Type} (e : Ex B B') : ∀ {ws : List (κ × V)} {kvs : List (κ × PyData)}, KvOk K B ws kvs → KvOk K B' ws kvs
  | _, _, .nil => .nil
  | _, _, .cons h t => .cons (Dp.mono e h) (KvOk.mono e t)
theorem KvOk.length {κ : Type} : ∀ {ws : List (κ × V)} {kvs : List (κ × PyData)}, KvOk K B ws kvs → ws.length = kvs.length
  | _, _, .nil => rfl
  | _, _, .cons _ t => by rw [List.length_cons, List.length_cons, KvOk.length t]
theorem DatOk.mono (e : Ex B B') {v : V} : ∀ {x : Dat}, DatOk K B v x → DatOk K B' v x
  | .val d, h => Dp.mono e h
  | .dk kvs, ⟨a, ws, h1, h2, h3⟩ => ⟨a, ws, h1, e.keep _ _ h2 (fun ps z => by cases z), h3.mono e⟩
  | .dt kvs, ⟨a, ws, h1, h2, h3⟩ => ⟨a, ws, h1, e.keep _ _ h2 (fun ps z => by cases z), h3.mono e⟩
  | .mon φ, ⟨h1, h2⟩ => ⟨h2 _ e, fun B2 e2 => h2 _ (e.trans e2)⟩
end
inductive DatAll (K : PySem.W.Frag) (B : Hp) : List V → List Dat → Prop
  | nil : DatAll K B [] []
  | cons {v : V} {vs : List V} {x : Dat} {xs : List Dat} : DatOk K B v x → DatAll K B vs xs → DatAll K B (v :: vs) (x :: xs)
section
variable {K : PySem.W.Frag} {B B' : Hp}
theorem DatAll.mono (e : Ex B B') : ∀ {vs : List V} {xs : List Dat}, DatAll K B vs xs → DatAll K B' vs xs
  | _, _, .nil => .nil
  | _, _, .cons h t => .cons (DatOk.mono e h) (DatAll.mono e t)
theorem DatAll.length : ∀ {vs : List V} {xs : List Dat}, DatAll K B vs xs → vs.length = xs.length
  | _, _, .nil => rfl
  | _, _, .cons _ t => by rw [List.length_cons, List.length_cons, DatAll.length t]
theorem DatAll.vals : ∀ {vs : List V} {ds : List PyData}, DatAll K B vs (ds.map .val) → DpAll K B vs ds
  | [], [], _ => .nil
  | _ :: _, [], h => by cases h
  | [], _ :: _, h => by cases h
  | _ :: _, _ :: _, .cons h t => .cons h (DatAll.vals t)
end

/-- own things: oL a list, oK a dict of text or int keys, oT a dict of flat tuple keys, reel the reel with k draws left -/
inductive Cell where
  | unk
  | dat (x : Dat)
  | oL (ds : List PyData)
  | oK (kvs : List (Key × PyData))
  | oT (kvs : List (List Key × PyData))
  | own (ψ : Addr → Hp → HO → Prop)
  | reel (k : Nat)
  | oLL (b : Addr) (rows : List (List PyData)) (last : List PyData)
abbrev Env' := List Cell
/-- what is fixed in a body: the written part, the code tables, the heap to be kept, what the arguments may lean on, the reel's two lists -/
structure Ctx where
  K : PySem.W.Frag
  T : List (Addr × Str)
  H0 : Hp
  B0 : Hp
  rg : Option (Addr × Addr) := none
  sm : Addr := 0
/-- the reel's own two lists -/
def Ctx.rs (c : Ctx) : List Addr := match c.rg with
  | none => []
  | some p => [p.1, p.2]
/-- the reel: [great, small, n], n draws done; k are left -/
def ReelAt (B H : Hp) (r g sm : Addr) (k : Nat) : Prop :=
  ∃ (n : Nat) (gs ss : List Int), H r = some (.lst [.ref g, .ref sm, .int n]) ∧ H g = some (.lst (gs.map V.int)) ∧ r ≠ g ∧ B sm = some (.lst (ss.map V.int)) ∧
    n + k ≤ 30000 ∧ gs.length ≤ 100 ∧ (∀ i ∈ gs, 0 ≤ i) ∧ ss ≠ [] ∧ ss.length ≤ 100 ∧ (∀ i ∈ ss, 0 ≤ i)
structure Cur (c : Ctx) (B H : Hp) : Prop where
  sub : Sub B H
  ex0 : Ex c.H0 H
  bex : Ex c.B0 B
  out : ∀ a, B a ≠ none → c.H0 a ≠ none → c.B0 a ≠ none
  tab : Tabs c.T H
  reel : ∀ a ∈ c.rs, H a ≠ none ∧ B a = none ∧ c.H0 a = none
/-- an address that is the body's own -/
def Free (c : Ctx) (a : Addr) : Prop := c.H0 a = none ∧ a ∉ c.rs
def CellOk (c : Ctx) (B H : Hp) : Option V → Cell → Prop
  | _, .unk => True
  | some v, .dat x => DatOk c.K B v x
  | some v, .oL ds => ∃ a ws, v = .ref a ∧ H a = some (.lst ws) ∧ B a = none ∧ Free c a ∧ DpAll c.K B ws ds
  | some v, .oK kvs => ∃ a ws, v = .ref a ∧ H a = some (.dK ws) ∧ B a = none ∧ Free c a ∧ KvOk c.K B ws kvs
  | some v, .oT kvs => ∃ a ws, v = .ref a ∧ H a = some (.dT ws) ∧ B a = none ∧ Free c a ∧ KvOk c.K B ws kvs
  | some v, .own ψ => ∃ a o, v = .ref a ∧ H a = some o ∧ (∀ ps, o ≠ .tbl ps) ∧ B a = none ∧ Free c a ∧ ψ a B o ∧ ∀ B', Ex B B' → ψ a B' o
  | some v, .reel k => ∃ r g, c.rg = some (r, g) ∧ v = .ref r ∧ B r = none ∧ B g = none ∧ c.H0 r = none ∧ c.H0 g = none ∧ ReelAt B H r g c.sm k
  | some v, .oLL b rows last => ∃ a ws vs, v = .ref a ∧ H a = some (.lst (ws ++ [.ref b])) ∧ H b = some (.lst vs) ∧ a ≠ b ∧ B a = none ∧ B b = none ∧ Free c a ∧ Free c b ∧ DpAll c.K B ws (rows.map .list) ∧ DpAll c.K B vs last
  | none, _ => False
/-- the addresses that a slot owns -/
def Owns (c : Ctx) (v : Option V) (x : Cell) (a : Addr) : Prop :=
  match x with
  | .oL _ => v = some (.ref a)
  | .oK _ => v = some (.ref a)
  | .oT _ => v = some (.ref a)
  | .own _ => v = some (.ref a)
  | .reel _ => a ∈ c.rs
  | .oLL b _ _ => v = some (.ref a) ∨ a = b
  | _ => False
structure EnvOk (c : Ctx) (B H : Hp) (σ : List (Option V)) (Γ : Env') : Prop where
  len : σ.length = Γ.length
  at_ : ∀ (i : Nat) (v : Option V) (x : Cell), σ[i]? = some v → Γ[i]? = some x → CellOk c B H v x
  sep : ∀ (i j : Nat) (v w : Option V) (x y : Cell) (a : Addr), i ≠ j → σ[i]? = some v → Γ[i]? = some x → σ[j]? = some w → Γ[j]? = some y → Owns c v x a → Owns c w y a → False
/-- a step: things are added, nothing that stood is changed, nothing foreign comes into B -/
structure Step (c : Ctx) (B H B1 H1 : Hp) : Prop where
  cur : Cur c B1 H1
  b : Ex B B1
  h : Ex H H1
  out : ∀ a, B1 a ≠ none → H a ≠ none → B a ≠ none
section
variable {c : Ctx} {B H B1 H1 B2 H2 : Hp} {σ : List (Option V)} {Γ : Env'}
theorem Step.refl (h : Cur c B H) : Step c B H B H := ⟨h, Ex.refl _, Ex.refl _, fun _ h _ => h⟩
theorem Step.trans (a : Step c B H B1 H1) (b : Step c B1 H1 B2 H2) : Step c B H B2 H2 := ⟨b.cur, a.b.trans b.b, a.h.trans b.h, fun x h1 h2 => a.out x (b.out x h1 (a.h.live x h2)) h2⟩
theorem Step.none (s : Step c B H B1 H1) {a : Addr} (hb : B a = none) (hh : H a ≠ none) : B1 a = none := by
  cases e : B1 a with
  | none => rfl
  | some o => exact absurd hb (s.out a (by rw [e]; exact fun z => by cases z) hh)
theorem ReelAt.mono {r g sm : Addr} {k : Nat} (b : Ex B B1) (h : Ex H H1) (q : ReelAt B H r g sm k) : ReelAt B1 H1 r g sm k := by
  obtain ⟨n, gs, ss, h1, h2, h3, h4, h5⟩ := q
  exact ⟨n, gs, ss, h.keep _ _ h1 (fun ps z => by cases z), h.keep _ _ h2 (fun ps z => by cases z), h3, b.keep _ _ h4 (fun ps z => by cases z), h5⟩
theorem CellOk.step (s : Step c B H B1 H1) : ∀ {v : Option V} {x : Cell}, CellOk c B H v x → CellOk c B1 H1 v x
  | _, .unk, _ => by cases ‹Option V› <;> trivial
  | some v, .dat x, h => DatOk.mono s.b h
  | some v, .oL ds, ⟨a, ws, e, h1, h2, h3, h4⟩ => ⟨a, ws, e, s.h.keep _ _ h1 (fun ps z => by cases z), s.none h2 (by rw [h1]; exact fun z => by cases z), h3, DpAll.mono s.b h4⟩
  | some v, .oK ds, ⟨a, ws, e, h1, h2, h3, h4⟩ => ⟨a, ws, e, s.h.keep _ _ h1 (fun ps z => by cases z), s.none h2 (by rw [h1]; exact fun z => by cases z), h3, KvOk.mono s.b h4⟩
  | some v, .oT ds, ⟨a, ws, e, h1, h2, h3, h4⟩ => ⟨a, ws, e, s.h.keep _ _ h1 (fun ps z => by cases z), s.none h2 (by rw [h1]; exact fun z => by cases z), h3, KvOk.mono s.b h4⟩
  | some v, .own ψ, ⟨a, o, e, h1, h0, h2, h3, h4, h5⟩ => ⟨a, o, e, s.h.keep _ _ h1 h0, h0, s.none h2 (by rw [h1]; exact fun z => by cases z), h3, h5 _ s.b, fun B' b' => h5 _ (s.b.trans b')⟩
  | some v, .reel k, ⟨r, g, e0, e, h1, h2, h3, h4, h5⟩ => by
    have q := h5
    obtain ⟨n, gs, ss, q1, q2, _⟩ := q
    exact ⟨r, g, e0, e, s.none h1 (by rw [q1]; exact fun z => by cases z), s.none h2 (by rw [q2]; exact fun z => by cases z), h3, h4, h5.mono s.b s.h⟩
  | some v, .oLL b rows last, ⟨a, ws, vs, e, h1, h2, ne, h3, h4, f1, f2, d1, d2⟩ => ⟨a, ws, vs, e, s.h.keep _ _ h1 (fun ps z => by cases z), s.h.keep _ _ h2 (fun ps z => by cases z), ne, s.none h3 (by rw [h1]; exact fun z => by cases z), s.none h4 (by rw [h2]; exact fun z => by cases z), f1, f2, DpAll.mono s.b d1, DpAll.mono s.b d2⟩
theorem EnvOk.step (e : EnvOk c B H σ Γ) (s : Step c B H B1 H1) : EnvOk c B1 H1 σ Γ := ⟨e.len, fun i v x h1 h2 => (e.at_ i v x h1 h2).step s, e.sep⟩
/-- a new object -/
theorem Tabs.new {T : List (Addr × Str)} {p : Addr} {o : HO} (t : Tabs T H) (h : H p = Option.none) : Tabs T (upd H p o) := t.ext fun b u e => by
  rw [upd_ne (ne_of_none e h)]
  exact e
theorem step_new (k : Cur c B H) {p : Addr} {o : HO} (h : H p = Option.none) : Step c B H (upd B p o) (upd H p o) := by
  have hb : B p = Option.none := k.sub.none h
  refine ⟨⟨fun b u e => ?_, k.ex0.trans (Ex.new h), k.bex.trans (Ex.new hb), fun a h1 h2 => ?_, Tabs.new k.tab h, fun a ha => ?_⟩, Ex.new hb, Ex.new h, fun a h1 h2 => ?_⟩
  · by_cases e1 : b = p
    · rw [e1, upd_same] at e ⊢; exact e
    · rw [upd_ne e1] at e ⊢; exact k.sub b u e
  · by_cases e1 : a = p
    · rw [e1] at h2; exact absurd h (k.ex0.live p h2)
    · rw [upd_ne e1] at h1; exact k.out a h1 h2
  · obtain ⟨r1, r2, r3⟩ := k.reel a ha
    have e1 : a ≠ p := fun z => r1 (by rw [z]; exact h)
    rw [upd_ne e1, upd_ne e1]
    exact ⟨r1, r2, r3⟩
  · by_cases e1 : a = p
    · rw [e1] at h2; exact absurd h h2
    · rw [upd_ne e1] at h1; exact h1
/-- behind a call -/
theorem step_call (k : Cur c B H) (e : Ex H H1) (t : Tabs c.T H1) : Step c B H (ext B H H1) H1 := by
  refine ⟨⟨ext_sub, k.ex0.trans e, k.bex.trans (ext_ex k.sub e), fun a h1 h2 => ?_, t, fun a ha => ?_⟩, ext_ex k.sub e, e, fun a h1 h2 => ?_⟩
  · by_cases hb : B a = none
    · exact absurd (ext_out (k.ex0.live a h2) hb) h1
    · exact k.out a hb h2
  · obtain ⟨r1, r2, r3⟩ := k.reel a ha
    exact ⟨e.live a r1, ext_out r1 r2, r3⟩
  · intro hb
    exact h1 (ext_out h2 hb)
theorem Tabs.write {T : List (Addr × Str)} {a : Addr} {o : HO} (t : Tabs T H) (h1 : ∀ ps, H a ≠ some (.tbl ps)) (h2 : ∀ q, H a ≠ some (CodeO a q)) : Tabs T (upd H a o) := fun p hp => by
  obtain ⟨ps, e1, e2, e3⟩ := t p hp
  refine ⟨ps, by rw [upd_ne (fun z => h1 ps (by rw [← z]; exact e1))]; exact e1, e2, fun pos cv hc => ?_⟩
  obtain ⟨d, q1, q2⟩ := e3 pos cv hc
  exact ⟨d, q1, by rw [upd_ne (fun z => h2 p.2 (by rw [← z]; exact q2))]; exact q2⟩
theorem cur_write (k : Cur c B H) {a : Addr} {o : HO} (hb : B a = none) (h0 : c.H0 a = none) (h1 : ∀ ps, H a ≠ some (.tbl ps)) (h2 : ∀ q, H a ≠ some (CodeO a q)) : Cur c B (upd H a o) := by
  refine ⟨fun b u e => ?_, ⟨fun b u e n => ?_, fun b e => ?_⟩, k.bex, k.out, Tabs.write k.tab h1 h2, fun b hb2 => ?_⟩
  · rw [upd_ne (ne_of_none e hb)]; exact k.sub b u e
  · rw [upd_ne (ne_of_none e h0)]; exact k.ex0.keep b u e n
  · by_cases z : b = a
    · rw [z, upd_same]; exact fun z => by cases z
    · rw [upd_ne z]; exact k.ex0.live b e
  · obtain ⟨r1, r2, r3⟩ := k.reel b hb2
    refine ⟨?_, r2, r3⟩
    by_cases z : b = a
    · rw [z, upd_same]; exact fun z => by cases z
    · rw [upd_ne z]; exact r1
/-- what does not own the address stays -/
theorem CellOk.other {a : Addr} {o : HO} : ∀ {v : Option V} {x : Cell}, CellOk c B H v x → ¬ Owns c v x a → CellOk c B (upd H a o) v x
  | _, .unk, _, _ => by cases ‹Option V› <;> trivial
  | some v, .dat x, h, _ => h
  | some v, .oL ds, ⟨b, ws, e, h1, h2⟩, n => ⟨b, ws, e, by rw [upd_ne (fun z => n (by rw [e, z]; rfl))]; exact h1, h2⟩
  | some v, .oK ds, ⟨b, ws, e, h1, h2⟩, n => ⟨b, ws, e, by rw [upd_ne (fun z => n (by rw [e, z]; rfl))]; exact h1, h2⟩
  | some v, .oT ds, ⟨b, ws, e, h1, h2⟩, n => ⟨b, ws, e, by rw [upd_ne (fun z => n (by rw [e, z]; rfl))]; exact h1, h2⟩
  | some v, .own ψ, ⟨b, u, e, h1, h2⟩, n => ⟨b, u, e, by rw [upd_ne (fun z => n (by rw [e, z]; rfl))]; exact h1, h2⟩
  | some v, .reel k, ⟨r, g, e0, e, h1, h2, h3, h4, m, gs, ss, q1, q2, q3⟩, n =>
    ⟨r, g, e0, e, h1, h2, h3, h4, m, gs, ss, by rw [upd_ne (fun z => n (by rw [← z]; show r ∈ c.rs; unfold Ctx.rs; rw [e0]; simp))]; exact q1, by rw [upd_ne (fun z => n (by rw [← z]; show g ∈ c.rs; unfold Ctx.rs; rw [e0]; simp))]; exact q2, q3⟩
  | some v, .oLL b rows last, ⟨x, ws, vs, e, h1, h2, h3⟩, n => ⟨x, ws, vs, e, by rw [upd_ne (fun z => n (.inl (by rw [e, z])))]; exact h1, by rw [upd_ne (fun z => n (.inr z.symm))]; exact h2, h3⟩
theorem EnvOk.write (e : EnvOk c B H σ Γ) {i : Nat} {v : Option V} {x y : Cell} {a : Addr} {o : HO} (hv : σ[i]? = some v) (hx : Γ[i]? = some x) (ho : Owns c v x a) (hy : CellOk c B (upd H a o) v y) (how : ∀ b, Owns c v y b → Owns c v x b) :
    EnvOk c B (upd H a o) σ (Γ.set i y) := by
  have hi : i < Γ.length := (List.getElem?_eq_some_iff.mp hx).1
  refine ⟨by rw [List.length_set]; exact e.len, fun j w z h1 h2 => ?_, fun j k w u z t b hjk h1 h2 h3 h4 o1 o2 => ?_⟩
  · by_cases hj : j = i
    · subst hj
      rw [List.getElem?_set_self hi] at h2
      rw [hv] at h1
      cases h1; cases h2
      exact hy
    · rw [List.getElem?_set_ne (Ne.symm hj)] at h2
      exact (e.at_ j w z h1 h2).other fun q => e.sep j i w v z x a hj h1 h2 hv hx q ho
  · by_cases hj : j = i
    · subst hj
      rw [List.getElem?_set_self hi] at h2
      rw [List.getElem?_set_ne hjk] at h4
      rw [hv] at h1
      cases h1; cases h2
      exact e.sep j k v u x t b hjk hv hx h3 h4 (how b o1) o2
    · rw [List.getElem?_set_ne (Ne.symm hj)] at h2
      by_cases hk : k = i
      · subst hk
        rw [List.getElem?_set_self hi] at h4
        rw [hv] at h3
        cases h3; cases h4
        exact e.sep j k w v z x b hjk h1 h2 hv hx o1 (how b o2)
      · rw [List.getElem?_set_ne (Ne.symm hk)] at h4
        exact e.sep j k w u z t b hjk h1 h2 h3 h4 o1 o2
/-- a slot is stored: frozen data -/
theorem EnvOk.set (e : EnvOk c B H σ Γ) {i : Nat} {v : V} {x : Dat} (h : DatOk c.K B v x) : EnvOk c B H (σ.set i (some v)) (Γ.set i (.dat x)) := by
  refine ⟨by rw [List.length_set, List.length_set]; exact e.len, fun j w z h1 h2 => ?_, fun j k w u z t b hjk h1 h2 h3 h4 o1 o2 => ?_⟩
  · by_cases hj : j = i
    · subst hj
      by_cases hl : j < σ.length
      · rw [List.getElem?_set_self hl] at h1
        rw [List.getElem?_set_self (by rw [← e.len]; exact hl)] at h2
        cases h1; cases h2
        exact h
      · rw [List.getElem?_eq_none (by rw [List.length_set]; omega)] at h1
        cases h1
    · rw [List.getElem?_set_ne (Ne.symm hj)] at h1 h2
      exact e.at_ j w z h1 h2
  · have no : ∀ {m : Nat} {p : Option V} {q : Cell} {d : Addr}, (Γ.set i (.dat x))[m]? = some q → Owns c p q d → m ≠ i := fun {m p q d} g og z => by
      subst z
      by_cases hl : m < Γ.length
      · rw [List.getElem?_set_self hl] at g
        cases g
        exact og
      · rw [List.getElem?_eq_none (by rw [List.length_set]; omega)] at g
        cases g
    have n1 := no h2 o1
    have n2 := no h4 o2
    rw [List.getElem?_set_ne (Ne.symm n1)] at h1 h2
    rw [List.getElem?_set_ne (Ne.symm n2)] at h3 h4
    exact e.sep j k w u z t b hjk h1 h2 h3 h4 o1 o2
/-- a slot's thing is forgotten, or told otherwise: what it owns is no more than before -/
theorem EnvOk.weak (e : EnvOk c B H σ Γ) {i : Nat} {x y : Cell} (hx : Γ[i]? = some x) (h : ∀ v, σ[i]? = some v → CellOk c B H v x → CellOk c B H v y) (how : ∀ v b, Owns c v y b → Owns c v x b) : EnvOk c B H σ (Γ.set i y) := by
  have hi : i < Γ.length := (List.getElem?_eq_some_iff.mp hx).1
  refine ⟨by rw [List.length_set]; exact e.len, fun j w z h1 h2 => ?_, fun j k w u z t b hjk h1 h2 h3 h4 o1 o2 => ?_⟩
  · by_cases hj : j = i
    · subst hj
      rw [List.getElem?_set_self hi] at h2
      cases h2
      exact h w h1 (e.at_ j w x h1 hx)
    · rw [List.getElem?_set_ne (Ne.symm hj)] at h2
      exact e.at_ j w z h1 h2
  · by_cases hj : j = i
    · subst hj
      rw [List.getElem?_set_self hi] at h2
      rw [List.getElem?_set_ne hjk] at h4
      cases h2
      exact e.sep j k w u x t b hjk h1 hx h3 h4 (how w b o1) o2
    · rw [List.getElem?_set_ne (Ne.symm hj)] at h2
      by_cases hk : k = i
      · subst hk
        rw [List.getElem?_set_self hi] at h4
        cases h4
        exact e.sep j k w u z x b hjk h1 h2 h3 hx o1 (how u b o2)
      · rw [List.getElem?_set_ne (Ne.symm hk)] at h4
        exact e.sep j k w u z t b hjk h1 h2 h3 h4 o1 o2
/-- a slot is stored: a new own thing at p -/
theorem EnvOk.setOwn (e : EnvOk c B H σ Γ) {i : Nat} {p : Addr} {o : HO} {x : Cell} (hp : H p = none) (hi : i < σ.length) (hx : CellOk c B (upd H p o) (some (.ref p)) x) (how : ∀ b, Owns c (some (.ref p)) x b → b = p) :
    EnvOk c B (upd H p o) (σ.set i (some (.ref p))) (Γ.set i x) := by
  have old : ∀ {j : Nat} {w : Option V} {z : Cell}, σ[j]? = some w → Γ[j]? = some z → ¬ Owns c w z p := fun {j w z} h1 h2 ow => by
    have q := e.at_ j w z h1 h2
    have bad : ∀ {o : HO}, H p = some o → False := fun r => by rw [hp] at r; cases r
    cases z with
    | oL ds => cases w with
      | none => exact q
      | some v => obtain ⟨a, ws, r1, r2, _⟩ := q; have o1 : some v = some (.ref p) := ow; rw [r1] at o1; cases o1; exact bad r2
    | oK ds => cases w with
      | none => exact q
      | some v => obtain ⟨a, ws, r1, r2, _⟩ := q; have o1 : some v = some (.ref p) := ow; rw [r1] at o1; cases o1; exact bad r2
    | oT ds => cases w with
      | none => exact q
      | some v => obtain ⟨a, ws, r1, r2, _⟩ := q; have o1 : some v = some (.ref p) := ow; rw [r1] at o1; cases o1; exact bad r2
    | own ψ => cases w with
      | none => exact q
      | some v => obtain ⟨a, u, r1, r2, _⟩ := q; have o1 : some v = some (.ref p) := ow; rw [r1] at o1; cases o1; exact bad r2
    | reel k => cases w with
      | none => exact q
      | some v =>
        obtain ⟨r, g, e0, _, _, _, _, _, m, gs, ss, q1, q2, _⟩ := q
        have ow : p ∈ c.rs := ow
        unfold Ctx.rs at ow
        rw [e0] at ow
        have ow : p = r ∨ p = g := by simpa using ow
        rcases ow with ow | ow
        · rw [← ow] at q1; exact bad q1
        · rw [← ow] at q2; exact bad q2
    | oLL b rows last => cases w with
      | none => exact q
      | some v =>
        obtain ⟨x, ws, vs, r1, r2, r3, _⟩ := q
        rcases (show some v = some (.ref p) ∨ p = b from ow) with o1 | o1
        · rw [r1] at o1; cases o1; exact bad r2
        · rw [← o1] at r3; exact bad r3
    | unk => exact ow
    | dat _ => exact ow
  refine ⟨by rw [List.length_set, List.length_set]; exact e.len, fun j w z h1 h2 => ?_, fun j k w u z t b hjk h1 h2 h3 h4 o1 o2 => ?_⟩
  · by_cases hj : j = i
    · subst hj
      rw [List.getElem?_set_self hi] at h1
      rw [List.getElem?_set_self (by rw [← e.len]; exact hi)] at h2
      cases h1; cases h2
      exact hx
    · rw [List.getElem?_set_ne (Ne.symm hj)] at h1 h2
      exact (e.at_ j w z h1 h2).other (old h1 h2)
  · by_cases hj : j = i
    · subst hj
      rw [List.getElem?_set_self hi] at h1
      rw [List.getElem?_set_self (by rw [← e.len]; exact hi)] at h2
      rw [List.getElem?_set_ne hjk] at h3 h4
      cases h1; cases h2
      rw [how b o1] at o2
      exact old h3 h4 o2
    · rw [List.getElem?_set_ne (Ne.symm hj)] at h1 h2
      by_cases hk : k = i
      · subst hk
        rw [List.getElem?_set_self hi] at h3
        rw [List.getElem?_set_self (by rw [← e.len]; exact hi)] at h4
        cases h3; cases h4
        rw [how b o2] at o1
        exact old h1 h2 o1
      · rw [List.getElem?_set_ne (Ne.symm hk)] at h3 h4
        exact e.sep j k w u z t b hjk h1 h2 h3 h4 o1 o2
/-- an own thing is frozen: it may be read from now on, not written -/
def withB (B : Hp) (a : Addr) (o : HO) : Hp := upd B a o
theorem CellOk.withB {a : Addr} {o : HO} (ha : B a = none) : ∀ {v : Option V} {x : Cell}, CellOk c B H v x → ¬ Owns c v x a → CellOk c (withB B a o) H v x
  | _, .unk, _, _ => by cases ‹Option V› <;> trivial
  | some v, .dat x, h, _ => DatOk.mono (Ex.new ha) h
  | some v, .oL ds, ⟨b, ws, e, h1, h2, h3, h4⟩, n => ⟨b, ws, e, h1, (upd_ne (fun z => n (by rw [e, z]; rfl))).trans h2, h3, DpAll.mono (Ex.new ha) h4⟩
  | some v, .oK ds, ⟨b, ws, e, h1, h2, h3, h4⟩, n => ⟨b, ws, e, h1, (upd_ne (fun z => n (by rw [e, z]; rfl))).trans h2, h3, KvOk.mono (Ex.new ha) h4⟩
  | some v, .oT ds, ⟨b, ws, e, h1, h2, h3, h4⟩, n => ⟨b, ws, e, h1, (upd_ne (fun z => n (by rw [e, z]; rfl))).trans h2, h3, KvOk.mono (Ex.new ha) h4⟩
  | some v, .own ψ, ⟨b, u, e, h1, h2, h3, h4, h5, h6⟩, n => ⟨b, u, e, h1, h2, (upd_ne (fun z => n (by rw [e, z]; rfl))).trans h3, h4, h6 _ (Ex.new ha), fun B' b' => h6 _ ((Ex.new ha).trans b')⟩
  | some v, .reel k, ⟨r, g, e0, e, h1, h2, h3, h4, h5⟩, n => ⟨r, g, e0, e, (upd_ne (fun z => n (by rw [← z]; show r ∈ c.rs; unfold Ctx.rs; rw [e0]; simp))).trans h1, (upd_ne (fun z => n (by rw [← z]; show g ∈ c.rs; unfold Ctx.rs; rw [e0]; simp))).trans h2, h3, h4, h5.mono (Ex.new ha) (Ex.refl _)⟩
  | some v, .oLL b rows last, ⟨x, ws, vs, e, h1, h2, ne, h3, h4, f1, f2, d1, d2⟩, n => ⟨x, ws, vs, e, h1, h2, ne, (upd_ne (fun z => n (.inl (by rw [e, z])))).trans h3, (upd_ne (fun z => n (.inr z.symm))).trans h4, f1, f2, DpAll.mono (Ex.new ha) d1, DpAll.mono (Ex.new ha) d2⟩
theorem cur_withB (k : Cur c B H) {a : Addr} {o : HO} (ha : B a = none) (ho : H a = some o) (h0 : c.H0 a = none) (hr : a ∉ c.rs) : Cur c (withB B a o) H := by
  refine ⟨fun b u e => ?_, k.ex0, k.bex.trans (Ex.new ha), fun b h1 h2 => ?_, k.tab, fun b hb => ?_⟩
  · by_cases z : b = a
    · rw [z] at e ⊢
      rw [ho]
      exact (upd_same (H := B) (a := a) (o := o)).symm.trans e
    · exact k.sub b u ((upd_ne z).symm.trans e)
  · by_cases z : b = a
    · rw [z] at h2; exact absurd h0 h2
    · exact k.out b (fun q => h1 ((upd_ne z).trans q)) h2
  · obtain ⟨r1, r2, r3⟩ := k.reel b hb
    exact ⟨r1, (upd_ne (fun z => hr (by rw [← z]; exact hb))).trans r2, r3⟩
theorem EnvOk.freeze (e : EnvOk c B H σ Γ) {i : Nat} {v : Option V} {x : Cell} {y : Dat} {a : Addr} {o : HO} (ha : B a = none) (hv : σ[i]? = some v) (hx : Γ[i]? = some x) (ho : Owns c v x a) (hy : CellOk c (withB B a o) H v (.dat y)) : EnvOk c (withB B a o) H σ (Γ.set i (.dat y)) := by
  have hi : i < Γ.length := (List.getElem?_eq_some_iff.mp hx).1
  refine ⟨by rw [List.length_set]; exact e.len, fun j w z h1 h2 => ?_, fun j k w u z t b hjk h1 h2 h3 h4 o1 o2 => ?_⟩
  · by_cases hj : j = i
    · subst hj
      rw [List.getElem?_set_self hi] at h2
      rw [hv] at h1
      cases h1; cases h2
      exact hy
    · rw [List.getElem?_set_ne (Ne.symm hj)] at h2
      exact (e.at_ j w z h1 h2).withB ha fun q => e.sep j i w v z x a hj h1 h2 hv hx q ho
  · by_cases hj : j = i
    · subst hj
      rw [List.getElem?_set_self hi] at h2
      cases h2
      exact o1
    · rw [List.getElem?_set_ne (Ne.symm hj)] at h2
      by_cases hk : k = i
      · subst hk
        rw [List.getElem?_set_self hi] at h4
        cases h4
        exact o2
      · rw [List.getElem?_set_ne (Ne.symm hk)] at h4
        exact e.sep j k w u z t b hjk h1 h2 h3 h4 o1 o2
/-- the frozen form of an own thing -/
inductive Frozen : Cell → Dat → Prop
  | l (ds : List PyData) : Frozen (.oL ds) (.val (.list ds))
  | k (kvs : List (Key × PyData)) : Frozen (.oK kvs) (.dk kvs)
  | t (kvs : List (List Key × PyData)) : Frozen (.oT kvs) (.dt kvs)
theorem frozen_ok (k : Cur c B H) (e : EnvOk c B H σ Γ) {i : Nat} {x : Cell} {y : Dat} (hx : Γ[i]? = some x) (f : Frozen x y) : ∃ B1, Cur c B1 H ∧ Ex B B1 ∧ EnvOk c B1 H σ (Γ.set i (.dat y)) := by
  have hi : i < Γ.length := (List.getElem?_eq_some_iff.mp hx).1
  have hi' : i < σ.length := by rw [e.len]; exact hi
  obtain ⟨v, hv⟩ : ∃ v, σ[i]? = some v := ⟨_, List.getElem?_eq_getElem hi'⟩
  have q := e.at_ i v x hv hx
  cases f with
  | l ds => cases v with
    | none => exact q.elim
    | some v =>
      obtain ⟨a, ws, r1, r2, r3, r4, r5⟩ := q
      subst r1
      exact ⟨_, cur_withB k r3 r2 r4.1 r4.2, Ex.new r3, e.freeze r3 hv hx rfl (.lst (SqL.of upd_same) (DpAll.mono (Ex.new r3) r5))⟩
  | k kvs => cases v with
    | none => exact q.elim
    | some v =>
      obtain ⟨a, ws, r1, r2, r3, r4, r5⟩ := q
      subst r1
      exact ⟨_, cur_withB k r3 r2 r4.1 r4.2, Ex.new r3, e.freeze r3 hv hx rfl ⟨a, ws, rfl, upd_same, KvOk.mono (Ex.new r3) r5⟩⟩
  | t kvs => cases v with
    | none => exact q.elim
    | some v =>
      obtain ⟨a, ws, r1, r2, r3, r4, r5⟩ := q
      subst r1
      exact ⟨_, cur_withB k r3 r2 r4.1 r4.2, Ex.new r3, e.freeze r3 hv hx rfl ⟨a, ws, rfl, upd_same, KvOk.mono (Ex.new r3) r5⟩⟩
/-- a step of an expression: as Step, but the reel may turn -/
structure Stp (c : Ctx) (B H B1 H1 : Hp) : Prop where
  cur : Cur c B1 H1
  b : Ex B B1
  h : ∀ b o, H b = some o → (∀ ps, o ≠ .tbl ps) → b ∉ c.rs → H1 b = some o
  live : ∀ b, H b ≠ none → H1 b ≠ none
  out : ∀ a, B1 a ≠ none → H a ≠ none → B a ≠ none
theorem Stp.refl (h : Cur c B H) : Stp c B H B H := ⟨h, Ex.refl _, fun _ _ h _ _ => h, fun _ h => h, fun _ h _ => h⟩
theorem Stp.trans (a : Stp c B H B1 H1) (b : Stp c B1 H1 B2 H2) : Stp c B H B2 H2 := ⟨b.cur, a.b.trans b.b, fun x o h n r => b.h x o (a.h x o h n r) n r, fun x h => b.live x (a.live x h), fun x h1 h2 => a.out x (b.out x h1 (a.live x h2)) h2⟩
theorem Step.st (s : Step c B H B1 H1) : Stp c B H B1 H1 := ⟨s.cur, s.b, fun b o h n _ => s.h.keep b o h n, s.h.live, s.out⟩
/-- the slots behind an expression: as before, but for the draws left -/
structure Rl (Γ Γ1 : Env') : Prop where
  len : Γ1.length = Γ.length
  at_ : ∀ j : Nat, Γ1[j]? = Γ[j]? ∨ ∃ k k', Γ[j]? = some (.reel k) ∧ Γ1[j]? = some (.reel k')
theorem Rl.refl (Γ : Env') : Rl Γ Γ := ⟨rfl, fun _ => .inl rfl⟩
theorem Rl.trans {Γ Γ1 Γ2 : Env'} (a : Rl Γ Γ1) (b : Rl Γ1 Γ2) : Rl Γ Γ2 := ⟨b.len.trans a.len, fun j => by
  rcases a.at_ j with h | ⟨k, k', h1, h2⟩
  · rcases b.at_ j with g | ⟨m, m', g1, g2⟩
    · exact .inl (g.trans h)
    · exact .inr ⟨m, m', by rw [← h]; exact g1, g2⟩
  · rcases b.at_ j with g | ⟨m, m', g1, g2⟩
    · exact .inr ⟨k, k', h1, by rw [g]; exact h2⟩
    · exact .inr ⟨k, m', h1, g2⟩⟩
theorem Rl.owns {Γ Γ1 : Env'} (a : Rl Γ Γ1) {j : Nat} {v : Option V} {x : Cell} {d : Addr} (h : Γ1[j]? = some x) (o : Owns c v x d) : ∃ y, Γ[j]? = some y ∧ Owns c v y d := by
  rcases a.at_ j with g | ⟨k, k', g1, g2⟩
  · exact ⟨x, by rw [← g]; exact h, o⟩
  · rw [h] at g2
    cases g2
    exact ⟨_, g1, o⟩
structure St1 (c : Ctx) (B H B1 H1 : Hp) (σ : List (Option V)) (Γ Γ1 : Env') : Prop where
  stp : Stp c B H B1 H1
  env : EnvOk c B1 H1 σ Γ1
  rl : Rl Γ Γ1
theorem St1.refl (k : Cur c B H) (e : EnvOk c B H σ Γ) : St1 c B H B H σ Γ Γ := ⟨Stp.refl k, e, Rl.refl _⟩
theorem St1.cur {Γ1 : Env'} (s : St1 c B H B1 H1 σ Γ Γ1) : Cur c B1 H1 := s.stp.cur
theorem St1.b {Γ1 : Env'} (s : St1 c B H B1 H1 σ Γ Γ1) : Ex B B1 := s.stp.b
theorem St1.trans {Γ1 Γ2 : Env'} (a : St1 c B H B1 H1 σ Γ Γ1) (b : St1 c B1 H1 B2 H2 σ Γ1 Γ2) : St1 c B H B2 H2 σ Γ Γ2 := ⟨a.stp.trans b.stp, b.env, a.rl.trans b.rl⟩
theorem St1.step {Γ1 : Env'} (a : St1 c B H B1 H1 σ Γ Γ1) (s : Step c B1 H1 B2 H2) : St1 c B H B2 H2 σ Γ Γ1 := ⟨a.stp.trans s.st, a.env.step s, a.rl⟩
end
end My
end DL1_
section DL2_
set_option maxHeartbeats 1000000
namespace My
open PySem PySem.Spec PyProof.Rows L2 LamX

abbrev VK := L2.VK
/-- an expression: P of what it gives and of the slots behind it -/
def EE (c : Ctx) (te : TE) (Γ : Env') (P : Dat → Env' → Prop) : Prop :=
  ∀ (σ : List (Option V)) (B H : Hp), Cur c B H → EnvOk c B H σ Γ → ∀ Q : L2.VK, (∀ v B1 H1 x Γ1, St1 c B H B1 H1 σ Γ Γ1 → DatOk c.K B1 v x → P x Γ1 → Q v H1) → te σ H Q
def ET (c : Ctx) (tt : TT) (Γ : Env') (P : Bool → Env' → Prop) : Prop :=
  ∀ (σ : List (Option V)) (B H : Hp), Cur c B H → EnvOk c B H σ Γ → ∀ Q : Bool → Hp → Prop, (∀ b B1 H1 Γ1, St1 c B H B1 H1 σ Γ Γ1 → P b Γ1 → Q b H1) → tt σ H Q
def EA (c : Ctx) (ta : TA) (Γ : Env') (P : List Dat → Env' → Prop) : Prop :=
  ∀ (σ : List (Option V)) (B H : Hp), Cur c B H → EnvOk c B H σ Γ → ∀ Q : List V → Hp → Prop, (∀ vs B1 H1 xs Γ1, St1 c B H B1 H1 σ Γ Γ1 → DatAll c.K B1 vs xs → P xs Γ1 → Q vs H1) → ta σ H Q
/-- a slice's part -/
def EO (c : Ctx) (to : TO) (Γ : Env') (P : Option Int → Env' → Prop) : Prop :=
  ∀ (σ : List (Option V)) (B H : Hp), Cur c B H → EnvOk c B H σ Γ → ∀ Q : Option Int → Hp → Prop, (∀ o B1 H1 Γ1, St1 c B H B1 H1 σ Γ Γ1 → P o Γ1 → Q o H1) → to σ H Q
/-- a target: what is stored, the slots it stores to -/
def SG (c : Ctx) (g : TG) (vs : List Nat) (x : Dat) (Γ : Env') (N : Env' → Prop) : Prop :=
  ∀ (σ : List (Option V)) (B H : Hp) (v : V), Cur c B H → EnvOk c B H σ Γ → DatOk c.K B v x → ∀ Q : List (Option V) → Hp → Prop,
    (∀ σ1 Γ1, EnvOk c B H σ1 Γ1 → (σ1.length = σ.length ∧ ∀ i, i ∉ vs → σ1[i]? = σ[i]? ∧ Γ1[i]? = Γ[i]?) → N Γ1 → Q σ1 H) → g v σ H Q
structure Post where
  nx : Env' → Prop := fun _ => False
  rt : Dat → Env' → Prop := fun _ _ => False
  bk : Env' → Prop := fun _ => False
  ct : Env' → Prop := fun _ => False
def SS (c : Ctx) (t : TS) (Γ : Env') (P : Post) : Prop :=
  ∀ (σ : List (Option V)) (B H : Hp) (D : Ends), Cur c B H → EnvOk c B H σ Γ →
    (∀ σ1 B1 H1 Γ1, Cur c B1 H1 → Ex B B1 → EnvOk c B1 H1 σ1 Γ1 → P.nx Γ1 → D.nx σ1 H1) →
    (∀ v σ1 B1 H1 x Γ1, Cur c B1 H1 → Ex B B1 → EnvOk c B1 H1 σ1 Γ1 → DatOk c.K B1 v x → P.rt x Γ1 → D.rt v H1) →
    (∀ σ1 B1 H1 Γ1, Cur c B1 H1 → Ex B B1 → EnvOk c B1 H1 σ1 Γ1 → P.bk Γ1 → D.bk σ1 H1) →
    (∀ σ1 B1 H1 Γ1, Cur c B1 H1 → Ex B B1 → EnvOk c B1 H1 σ1 Γ1 → P.ct Γ1 → D.ct σ1 H1) → t D σ H
/-- an operation on values: what it gives of data -/
def RO (c : Ctx) (r : R2) (x y : Dat) (P : Dat → Prop) : Prop :=
  ∀ (B H : Hp) (v w : V), Cur c B H → DatOk c.K B v x → DatOk c.K B w y → ∀ Q : L2.VK, (∀ u B1 H1 z, Step c B H B1 H1 → DatOk c.K B1 u z → P z → Q u H1) → r v w H Q
def RU' (c : Ctx) (r : V → Hp → L2.VK → Prop) (x : Dat) (P : Dat → Prop) : Prop :=
  ∀ (B H : Hp) (v : V), Cur c B H → DatOk c.K B v x → ∀ Q : L2.VK, (∀ u B1 H1 z, Step c B H B1 H1 → DatOk c.K B1 u z → P z → Q u H1) → r v H Q
def RL (c : Ctx) (r : List V → Hp → L2.VK → Prop) (xs : List Dat) (P : Dat → Prop) : Prop :=
  ∀ (B H : Hp) (vs : List V), Cur c B H → DatAll c.K B vs xs → ∀ Q : L2.VK, (∀ u B1 H1 z, Step c B H B1 H1 → DatOk c.K B1 u z → P z → Q u H1) → r vs H Q
def RM (c : Ctx) (r : V → List V → Hp → L2.VK → Prop) (x : Dat) (ys : List Dat) (P : Dat → Prop) : Prop :=
  ∀ (B H : Hp) (v : V) (vs : List V), Cur c B H → DatOk c.K B v x → DatAll c.K B vs ys → ∀ Q : L2.VK, (∀ u B1 H1 z, Step c B H B1 H1 → DatOk c.K B1 u z → P z → Q u H1) → r v vs H Q
/-- short words for data -/
abbrev dS (x : Str) : Dat := .val (.str x)
abbrev dI (i : Int) : Dat := .val (.int i)
abbrev dB (b : Bool) : Dat := .val (.bool b)
abbrev dN : Dat := .val .none
abbrev dT (ds : List PyData) : Dat := .val (.tuple ds)
abbrev dL (ds : List PyData) : Dat := .val (.list ds)
abbrev cV (x : Dat) : Cell := .dat x

/-- None -/
def isNo : PyData → Bool
  | .none => true
  | _ => false
theorem isNo_eq {K : PySem.W.Frag} {B : Hp} : ∀ {d : PyData} {v : V}, Dp K B v d → decide (v = V.non) = isNo d
  | _, _, .non => rfl
  | _, _, .bl b => rfl
  | _, _, .int i => rfl
  | _, _, .str x => rfl
  | _, _, .lst _ _ => rfl
  | _, _, .tup _ _ => rfl
section
variable {c : Ctx} {Γ : Env'} {te ta tb tx : TE} {tt tu : TT} {P : Dat → Env' → Prop} {PB : Bool → Env' → Prop} {PA' : List Dat → Env' → Prop}
theorem EE.imp {P' : Dat → Env' → Prop} (h : EE c te Γ P) (k : ∀ x Γ1, P x Γ1 → P' x Γ1) : EE c te Γ P' := fun σ B H C E Q q => h σ B H C E Q fun v B1 H1 x Γ1 a d p => q v B1 H1 x Γ1 a d (k x Γ1 p)
theorem ET.imp {P' : Bool → Env' → Prop} (h : ET c tt Γ PB) (k : ∀ x Γ1, PB x Γ1 → P' x Γ1) : ET c tt Γ P' := fun σ B H C E Q q => h σ B H C E Q fun b B1 H1 Γ1 a p => q b B1 H1 Γ1 a (k b Γ1 p)
theorem SS.imp {t : TS} {P P' : Post} (h : SS c t Γ P) (h1 : ∀ Γ1, P.nx Γ1 → P'.nx Γ1) (h2 : ∀ x Γ1, P.rt x Γ1 → P'.rt x Γ1) (h3 : ∀ Γ1, P.bk Γ1 → P'.bk Γ1) (h4 : ∀ Γ1, P.ct Γ1 → P'.ct Γ1) : SS c t Γ P' :=
  fun σ B H D C E n r b k => h σ B H D C E (fun σ1 B1 H1 Γ1 a e1 e p => n σ1 B1 H1 Γ1 a e1 e (h1 _ p)) (fun v σ1 B1 H1 x Γ1 a e1 e d p => r v σ1 B1 H1 x Γ1 a e1 e d (h2 _ _ p)) (fun σ1 B1 H1 Γ1 a e1 e p => b σ1 B1 H1 Γ1 a e1 e (h3 _ p)) (fun σ1 B1 H1 Γ1 a e1 e p => k σ1 B1 H1 Γ1 a e1 e (h4 _ p))
theorem env_dat {B H : Hp} {σ : List (Option V)} (E : EnvOk c B H σ Γ) {i : Nat} {x : Dat} (h : Γ[i]? = some (.dat x)) : ∃ v, σ[i]? = some (some v) ∧ DatOk c.K B v x := by
  have hi : i < σ.length := by rw [E.len]; exact (List.getElem?_eq_some_iff.mp h).1
  obtain ⟨v, hv⟩ : ∃ v, σ[i]? = some v := ⟨_, List.getElem?_eq_getElem hi⟩
  have q := E.at_ i v _ hv h
  cases v with
  | none => exact q.elim
  | some v => exact ⟨v, hv, q⟩
theorem ee_var {i : Nat} {x : Dat} (h : Γ[i]? = some (.dat x)) (k : P x Γ) : EE c (tVar i) Γ P := fun σ B H C E Q q => by
  obtain ⟨v, hv, d⟩ := env_dat E h
  exact ⟨v, hv, q v B H x Γ (St1.refl C E) d k⟩
theorem ee_str {x : Str} (k : P (dS x) Γ) : EE c (tC (.str x)) Γ P := fun σ B H C E Q q => q _ B H (dS x) Γ (St1.refl C E) (Dp.str x) k
theorem ee_int {i : Int} (k : P (dI i) Γ) : EE c (tC (.int i)) Γ P := fun σ B H C E Q q => q _ B H (dI i) Γ (St1.refl C E) (Dp.int i) k
theorem ee_bl {b : Bool} (k : P (dB b) Γ) : EE c (tC (.bl b)) Γ P := fun σ B H C E Q q => q _ B H (dB b) Γ (St1.refl C E) (Dp.bl b) k
theorem ee_non (k : P dN Γ) : EE c (tC .non) Γ P := fun σ B H C E Q q => q _ B H dN Γ (St1.refl C E) Dp.non k
/-- a global, a type's name: what it is -/
theorem ee_ref {v : V} (k : P (.mon fun _ u => u = v) Γ) : EE c (tC v) Γ P := fun σ B H C E Q q => q _ B H (.mon fun _ u => u = v) Γ (St1.refl C E) ⟨rfl, fun _ _ => rfl⟩ k
theorem ee_op {r : R2} (h : EE c ta Γ fun x Γ1 => EE c tb Γ1 fun y Γ2 => RO c r x y fun z => P z Γ2) : EE c (tOp r ta tb) Γ P := fun σ B H C E Q q =>
  h σ B H C E _ fun v B1 H1 x Γ1 s1 d1 h1 => h1 σ B1 H1 s1.cur s1.env _ fun w B2 H2 y Γ2 s2 d2 h2 => h2 B2 H2 v w s2.cur (DatOk.mono s2.b d1) d2 Q fun u B3 H3 z s d3 p =>
    q u B3 H3 z Γ2 ((s1.trans s2).step s) d3 p
theorem ee_un {r : V → Hp → L2.VK → Prop} (h : EE c ta Γ fun x Γ1 => RU' c r x fun z => P z Γ1) : EE c (tUn r ta) Γ P := fun σ B H C E Q q =>
  h σ B H C E _ fun v B1 H1 x Γ1 s1 d1 h1 => h1 B1 H1 v s1.cur d1 Q fun u B3 H3 z s d3 p => q u B3 H3 z Γ1 (s1.step s) d3 p
theorem ea_nil (k : PA' [] Γ) : EA c tNil Γ PA' := fun σ B H C E Q q => q [] B H [] Γ (St1.refl C E) .nil k
theorem ea_cons {tr : TA} (h : EE c ta Γ fun x Γ1 => EA c tr Γ1 fun xs Γ2 => PA' (x :: xs) Γ2) : EA c (tCons ta tr) Γ PA' := fun σ B H C E Q q =>
  h σ B H C E _ fun v B1 H1 x Γ1 s1 d1 h1 => h1 σ B1 H1 s1.cur s1.env _ fun vs B2 H2 xs Γ2 s2 d2 p => q (v :: vs) B2 H2 (x :: xs) Γ2 (s1.trans s2) (.cons (DatOk.mono s2.b d1) d2) p
theorem len_lit {n : Nat} (h : n ≤ 1000000) : n ≤ sizeLine := Nat.le_trans h (by decide)
theorem ee_tup {ta : TA} (h : EA c ta Γ fun xs Γ1 => ∃ ds : List PyData, xs = ds.map .val ∧ ds.length ≤ 1000000 ∧ P (dT ds) Γ1) : EE c (tTup ta) Γ P := fun σ B H C E Q q =>
  h σ B H C E _ fun vs B1 H1 xs Γ1 s1 d1 ⟨ds, e, hl, p⟩ => by
    subst e
    have da := DatAll.vals d1
    refine ⟨len_lit (by rw [DpAll.length da]; exact hl), fun a ha => ?_⟩
    have s := step_new (o := .tup vs) s1.cur ha
    exact q _ _ _ (dT ds) Γ1 (s1.step s) (Dp.tup (SqT.of upd_same) (DpAll.mono s.b da)) p
theorem ee_lst {ta : TA} (h : EA c ta Γ fun xs Γ1 => ∃ ds : List PyData, xs = ds.map .val ∧ ds.length ≤ 1000000 ∧ P (dL ds) Γ1) : EE c (tLst ta) Γ P := fun σ B H C E Q q =>
  h σ B H C E _ fun vs B1 H1 xs Γ1 s1 d1 ⟨ds, e, hl, p⟩ => by
    subst e
    have da := DatAll.vals d1
    refine ⟨len_lit (by rw [DpAll.length da]; exact hl), fun a ha => ?_⟩
    have s := step_new (o := .lst vs) s1.cur ha
    exact q _ _ _ (dL ds) Γ1 (s1.step s) (Dp.lst (SqL.of upd_same) (DpAll.mono s.b da)) p
theorem ee_CB {r : List V → Hp → L2.VK → Prop} {ta : TA} (h : EA c ta Γ fun xs Γ1 => RL c r xs fun z => P z Γ1) : EE c (tCB r ta) Γ P := fun σ B H C E Q q =>
  h σ B H C E _ fun vs B1 H1 xs Γ1 s1 d1 h1 => h1 B1 H1 vs s1.cur d1 Q fun u B3 H3 z s d3 p => q u B3 H3 z Γ1 (s1.step s) d3 p
theorem et_test (h : EE c te Γ fun x Γ1 => ∃ b, x = dB b ∧ PB b Γ1) : ET c (tTest te) Γ PB := fun σ B H C E Q q =>
  h σ B H C E _ fun v B1 H1 x Γ1 s1 d1 ⟨b, e, p⟩ => by
    subst e
    cases d1
    exact ⟨b, rfl, q b B1 H1 Γ1 s1 p⟩
theorem et_B (h : EE c te Γ fun x Γ1 => ∃ b, x = dB b ∧ PB b Γ1) : ET c (tB te) Γ PB := fun σ B H C E Q q =>
  h σ B H C E _ fun v B1 H1 x Γ1 s1 d1 ⟨b, e, p⟩ => by
    subst e
    cases d1
    exact ⟨b, rfl, q b B1 H1 Γ1 s1 p⟩
theorem et_and (h : ET c tt Γ fun b Γ1 => (b = true → ET c tu Γ1 PB) ∧ (b = false → PB false Γ1)) : ET c (tAnd tt tu) Γ PB := fun σ B H C E Q q =>
  h σ B H C E _ fun b B1 H1 Γ1 s1 ⟨h1, h2⟩ => by
    cases b with
    | true => exact h1 rfl σ B1 H1 s1.cur s1.env Q fun b B2 H2 Γ2 s2 p => q b B2 H2 Γ2 (s1.trans s2) p
    | false => exact q false B1 H1 Γ1 s1 (h2 rfl)
theorem et_or (h : ET c tt Γ fun b Γ1 => (b = true → PB true Γ1) ∧ (b = false → ET c tu Γ1 PB)) : ET c (tOr tt tu) Γ PB := fun σ B H C E Q q =>
  h σ B H C E _ fun b B1 H1 Γ1 s1 ⟨h1, h2⟩ => by
    cases b with
    | false => exact h2 rfl σ B1 H1 s1.cur s1.env Q fun b B2 H2 Γ2 s2 p => q b B2 H2 Γ2 (s1.trans s2) p
    | true => exact q true B1 H1 Γ1 s1 (h1 rfl)
theorem et_not (h : ET c tt Γ fun b Γ1 => PB (!b) Γ1) : ET c (tNot tt) Γ PB := fun σ B H C E Q q =>
  h σ B H C E _ fun b B1 H1 Γ1 s1 p => q (!b) B1 H1 Γ1 s1 p
theorem ee_andV (h : EE c ta Γ fun x Γ1 => ∃ b, x = dB b ∧ (b = true → EE c tb Γ1 P) ∧ (b = false → P (dB false) Γ1)) : EE c (tAndV ta tb) Γ P := fun σ B H C E Q q =>
  h σ B H C E _ fun v B1 H1 x Γ1 s1 d1 ⟨b, e, h1, h2⟩ => by
    subst e
    cases d1
    refine ⟨b, rfl, ?_⟩
    cases b with
    | true => exact h1 rfl σ B1 H1 s1.cur s1.env Q fun u B2 H2 z Γ2 s2 d p => q u B2 H2 z Γ2 (s1.trans s2) d p
    | false => exact q _ B1 H1 (dB false) Γ1 s1 (Dp.bl false) (h2 rfl)
theorem ee_orV (h : EE c ta Γ fun x Γ1 => ∃ b, x = dB b ∧ (b = true → P (dB true) Γ1) ∧ (b = false → EE c tb Γ1 P)) : EE c (tOrV ta tb) Γ P := fun σ B H C E Q q =>
  h σ B H C E _ fun v B1 H1 x Γ1 s1 d1 ⟨b, e, h1, h2⟩ => by
    subst e
    cases d1
    refine ⟨b, rfl, ?_⟩
    cases b with
    | false => exact h2 rfl σ B1 H1 s1.cur s1.env Q fun u B2 H2 z Γ2 s2 d p => q u B2 H2 z Γ2 (s1.trans s2) d p
    | true => exact q _ B1 H1 (dB true) Γ1 s1 (Dp.bl true) (h1 rfl)
theorem ee_notV (h : EE c ta Γ fun x Γ1 => ∃ b, x = dB b ∧ P (dB (!b)) Γ1) : EE c (tNotV ta) Γ P := fun σ B H C E Q q =>
  h σ B H C E _ fun v B1 H1 x Γ1 s1 d1 ⟨b, e, p⟩ => by
    subst e
    cases d1
    exact ⟨b, rfl, q _ B1 H1 (dB (!b)) Γ1 s1 (Dp.bl _) p⟩
theorem ee_if (h : ET c tt Γ fun b Γ1 => (b = true → EE c ta Γ1 P) ∧ (b = false → EE c tb Γ1 P)) : EE c (tIf tt ta tb) Γ P := fun σ B H C E Q q =>
  h σ B H C E _ fun b B1 H1 Γ1 s1 ⟨h1, h2⟩ => by
    cases b with
    | true => exact h1 rfl σ B1 H1 s1.cur s1.env Q fun u B2 H2 z Γ2 s2 d p => q u B2 H2 z Γ2 (s1.trans s2) d p
    | false => exact h2 rfl σ B1 H1 s1.cur s1.env Q fun u B2 H2 z Γ2 s2 d p => q u B2 H2 z Γ2 (s1.trans s2) d p
theorem ee_chain {r r' : R2} (h : EE c ta Γ fun x Γ1 => EE c tb Γ1 fun y Γ2 => RO c r x y fun z => ∃ b, z = dB b ∧ (b = true → EE c tx Γ2 fun w Γ3 => RO c r' y w fun z => P z Γ3) ∧ (b = false → P (dB false) Γ2)) : EE c (tChain r r' ta tb tx) Γ P := fun σ B H C E Q q =>
  h σ B H C E _ fun v B1 H1 x Γ1 s1 d1 h1 => h1 σ B1 H1 s1.cur s1.env _ fun w B2 H2 y Γ2 s2 d2 h2 => h2 B2 H2 v w s2.cur (DatOk.mono s2.b d1) d2 _ fun u B3 H3 z s d3 ⟨b, e, ht, hf⟩ => by
    subst e
    cases d3
    refine ⟨b, rfl, ?_⟩
    cases b with
    | true =>
      exact ht rfl σ B3 H3 s.cur (s2.env.step s) _ fun w' B4 H4 x4 Γ4 s4 d4 h4 => h4 B4 H4 w w' s4.cur (DatOk.mono (s.b.trans s4.b) d2) d4 Q fun u B5 H5 z s5 d5 p =>
        q u B5 H5 z Γ4 ((((s1.trans s2).step s).trans s4).step s5) d5 p
    | false => exact q _ B3 H3 (dB false) Γ2 ((s1.trans s2).step s) (Dp.bl false) (hf rfl)
theorem ee_isN (h : EE c ta Γ fun x Γ1 => ∃ d, x = .val d ∧ P (dB (isNo d)) Γ1) : EE c (tIsN ta) Γ P := fun σ B H C E Q q =>
  h σ B H C E _ fun v B1 H1 x Γ1 s1 d1 ⟨d, e, p⟩ => by
    subst e
    rw [isNo_eq d1]
    exact q _ B1 H1 (dB (isNo d)) Γ1 s1 (Dp.bl _) p
theorem ee_notN (h : EE c ta Γ fun x Γ1 => ∃ d, x = .val d ∧ P (dB (!isNo d)) Γ1) : EE c (tNotN ta) Γ P := fun σ B H C E Q q =>
  h σ B H C E _ fun v B1 H1 x Γ1 s1 d1 ⟨d, e, p⟩ => by
    subst e
    rw [isNo_eq d1]
    exact q _ B1 H1 (dB (!isNo d)) Γ1 s1 (Dp.bl _) p
theorem eo_none {PO' : Option Int → Env' → Prop} (k : PO' none Γ) : EO c tNoPart Γ PO' := fun σ B H C E Q q => q none B H Γ (St1.refl C E) k
theorem eo_some {PO' : Option Int → Env' → Prop} (h : EE c te Γ fun x Γ1 => ∃ i, x = dI i ∧ PO' (some i) Γ1) : EO c (tPart te) Γ PO' := fun σ B H C E Q q =>
  h σ B H C E _ fun v B1 H1 x Γ1 s1 d1 ⟨i, e, p⟩ => by
    subst e
    cases d1
    exact ⟨i, rfl, q (some i) B1 H1 Γ1 s1 p⟩
theorem ee_sl {r : V → Option Int → Option Int → Hp → L2.VK → Prop} {tl th : TO}
    (h : EE c te Γ fun x Γ1 => EO c tl Γ1 fun lo Γ2 => EO c th Γ2 fun hi Γ3 => RU' c (fun v => r v lo hi) x fun z => P z Γ3) : EE c (tSl r te tl th) Γ P := fun σ B H C E Q q =>
  h σ B H C E _ fun v B1 H1 x Γ1 s1 d1 h1 => h1 σ B1 H1 s1.cur s1.env _ fun lo B2 H2 Γ2 s2 h2 => h2 σ B2 H2 s2.cur s2.env _ fun hi B3 H3 Γ3 s3 h3 =>
    h3 B3 H3 v s3.cur (DatOk.mono (s2.b.trans s3.b) d1) Q fun u B4 H4 z s d p => q u B4 H4 z Γ3 (((s1.trans s2).trans s3).step s) d p
/-- o.m(..): of a built-in's value -/
def TyD (c : Ctx) (T : String) (x : Dat) : Prop := ∀ (B H : Hp) (v : V), Sub B H → DatOk c.K B v x → tyV c.K T v H
theorem ty_str {x : Str} : TyD c "str" (dS x) := fun B H v _ d => by
  cases d
  rfl
theorem ty_list {ds : List PyData} : TyD c "list" (dL ds) := fun B H v s d => by
  cases d with
  | lst h a => exact .inl ⟨rfl, _, sqL_mono s.ex h⟩
theorem ee_BM {T : String} {r : V → List V → Hp → L2.VK → Prop} {to : TE} {ta : TA} (h : EE c to Γ fun x Γ1 => TyD c T x ∧ EA c ta Γ1 fun ys Γ2 => RM c r x ys fun z => P z Γ2) : EE c (tBM c.K T r to ta) Γ P := fun σ B H C E Q q =>
  h σ B H C E _ fun v B1 H1 x Γ1 s1 d1 ⟨ty, h1⟩ => ⟨ty B1 H1 v s1.cur.sub d1, h1 σ B1 H1 s1.cur s1.env _ fun vs B2 H2 ys Γ2 s2 d2 h2 => h2 B2 H2 v vs s2.cur (DatOk.mono s2.b d1) d2 Q fun u B4 H4 z s d p =>
    q u B4 H4 z Γ2 ((s1.trans s2).step s) d p⟩
end
end My
end DL2_
section DL3_
set_option maxHeartbeats 1000000
namespace My
open PySem PySem.Spec PyProof.Rows L2 LamX
section
variable {c : Ctx} {Γ : Env'} {te ta tb tx : TE} {tt : TT} {t u : TS} {P : Post} {vs : List Nat}
theorem ss_seq {P : Post} (h : SS c t Γ { P with nx := fun Γ1 => SS c u Γ1 P }) : SS c (tSeq t u) Γ P := fun σ B H D C E n r b k =>
  h σ B H { D with nx := u D } C E (fun σ1 B1 H1 Γ1 C1 b1 E1 p => p σ1 B1 H1 D C1 E1 (fun σ2 B2 H2 Γ2 C2 b2 E2 p => n σ2 B2 H2 Γ2 C2 (b1.trans b2) E2 p) (fun v σ2 B2 H2 x Γ2 C2 b2 E2 d p => r v σ2 B2 H2 x Γ2 C2 (b1.trans b2) E2 d p)
    (fun σ2 B2 H2 Γ2 C2 b2 E2 p => b σ2 B2 H2 Γ2 C2 (b1.trans b2) E2 p) (fun σ2 B2 H2 Γ2 C2 b2 E2 p => k σ2 B2 H2 Γ2 C2 (b1.trans b2) E2 p)) r b k
theorem ss_next (h : P.nx Γ) : SS c tNext Γ P := fun σ B H D C E n r b k => n σ B H Γ C (Ex.refl _) E h
theorem ss_break (h : P.bk Γ) : SS c tBreak Γ P := fun σ B H D C E n r b k => b σ B H Γ C (Ex.refl _) E h
theorem ss_cont (h : P.ct Γ) : SS c tCont Γ P := fun σ B H D C E n r b k => k σ B H Γ C (Ex.refl _) E h
theorem ss_ret (h : EE c te Γ P.rt) : SS c (tRet te) Γ P := fun σ B H D C E n r b k => h σ B H C E _ fun v B1 H1 x Γ1 s1 d p => r v σ B1 H1 x Γ1 s1.cur s1.b s1.env d p
theorem ss_drop (h : EE c te Γ fun _ Γ1 => P.nx Γ1) : SS c (tDrop te) Γ P := fun σ B H D C E n r b k => h σ B H C E _ fun v B1 H1 x Γ1 s1 d p => n σ B1 H1 Γ1 s1.cur s1.b s1.env p
theorem ss_if (h : ET c tt Γ fun b Γ1 => (b = true → SS c t Γ1 P) ∧ (b = false → SS c u Γ1 P)) : SS c (tIfS tt t u) Γ P := fun σ B H D C E n r b k => by
  refine h σ B H C E _ fun d B1 H1 Γ1 s1 ⟨h1, h2⟩ => ?_
  have E1 := s1.env
  have C1 := s1.cur
  have b1 := s1.b
  cases d with
  | true => exact h1 rfl σ B1 H1 D C1 E1 (fun σ2 B2 H2 Γ2 C2 b2 E2 p => n σ2 B2 H2 Γ2 C2 (b1.trans b2) E2 p) (fun v σ2 B2 H2 x Γ2 C2 b2 E2 d p => r v σ2 B2 H2 x Γ2 C2 (b1.trans b2) E2 d p) (fun σ2 B2 H2 Γ2 C2 b2 E2 p => b σ2 B2 H2 Γ2 C2 (b1.trans b2) E2 p) (fun σ2 B2 H2 Γ2 C2 b2 E2 p => k σ2 B2 H2 Γ2 C2 (b1.trans b2) E2 p)
  | false => exact h2 rfl σ B1 H1 D C1 E1 (fun σ2 B2 H2 Γ2 C2 b2 E2 p => n σ2 B2 H2 Γ2 C2 (b1.trans b2) E2 p) (fun v σ2 B2 H2 x Γ2 C2 b2 E2 d p => r v σ2 B2 H2 x Γ2 C2 (b1.trans b2) E2 d p) (fun σ2 B2 H2 Γ2 C2 b2 E2 p => b σ2 B2 H2 Γ2 C2 (b1.trans b2) E2 p) (fun σ2 B2 H2 Γ2 C2 b2 E2 p => k σ2 B2 H2 Γ2 C2 (b1.trans b2) E2 p)
theorem ss_asg {g : TG} (h : EE c te Γ fun x Γ1 => SG c g vs x Γ1 P.nx) : SS c (tAsg te g) Γ P := fun σ B H D C E n r b k =>
  h σ B H C E _ fun v B1 H1 x Γ1 s1 d p => p σ B1 H1 v s1.cur s1.env d D.nx fun σ1 Γ2 E2 _ q => n σ1 B1 H1 Γ2 s1.cur s1.b E2 q
/-- x = e -/
theorem ss_set {i : Nat} (h : EE c te Γ fun x Γ1 => P.nx (Γ1.set i (.dat x))) : SS c (tAsg te (gName i)) Γ P := fun σ B H D C E n r b k =>
  h σ B H C E _ fun v B1 H1 x Γ1 s1 d p => n (σ.set i (some v)) B1 H1 _ s1.cur s1.b (s1.env.set d) p
/-- x, y = e, f -/
theorem ss_par {i j : Nat} {ta : TA} (h : EA c ta Γ fun xs Γ1 => ∃ x y, xs = [x, y] ∧ P.nx ((Γ1.set i (.dat x)).set j (.dat y))) : SS c (tPar i j ta) Γ P := fun σ B H D C E n r b k =>
  h σ B H C E _ fun ws B1 H1 xs Γ1 s1 d ⟨x, y, e, p⟩ => by
    subst e
    have E1 := s1.env
    have C1 := s1.cur
    have b1 := s1.b
    cases d with
    | cons d1 d => cases d with
      | cons d2 d =>
        cases d
        exact ⟨_, _, rfl, n _ B1 H1 _ C1 b1 ((E1.set d1).set d2) p⟩
theorem new_out {B H : Hp} (C : Cur c B H) {p : Addr} (hp : H p = none) : c.H0 p = none := by
  cases e : c.H0 p with
  | none => rfl
  | some o => exact absurd hp (C.ex0.live p (by rw [e]; exact fun z => by cases z))
theorem new_free {B H : Hp} (C : Cur c B H) {p : Addr} (hp : H p = none) : Free c p := ⟨new_out C hp, fun z => (C.reel p z).1 hp⟩
theorem cur_new {B H : Hp} (C : Cur c B H) {p : Addr} {o : HO} (hp : H p = none) : Cur c B (upd H p o) :=
  cur_write C (C.sub.none hp) (new_out C hp) (by rw [hp]; exact fun _ z => by cases z) (by rw [hp]; exact fun _ z => by cases z)
theorem ref_inj {p b : Addr} (h : some (V.ref p) = some (V.ref b)) : b = p := by cases h; rfl
theorem ss_newL {i : Nat} (hi : i < Γ.length) (h : P.nx (Γ.set i (.oL []))) : SS c (tAsg (tLst tNil) (gName i)) Γ P := fun σ B H D C E n r b k =>
  ⟨Nat.zero_le _, fun p hp => n (σ.set i (some (.ref p))) B (upd H p (.lst [])) _ (cur_new C hp) (Ex.refl _) (E.setOwn (x := .oL []) hp (by rw [E.len]; exact hi) ⟨p, [], rfl, upd_same, C.sub.none hp, new_free C hp, .nil⟩ fun b hb => ref_inj hb) h⟩
theorem ss_newK {i : Nat} (hi : i < Γ.length) (h : P.nx (Γ.set i (.oK []))) : SS c (tAsg tDNewK (gName i)) Γ P := fun σ B H D C E n r b k p hp =>
  n (σ.set i (some (.ref p))) B (upd H p (.dK [])) _ (cur_new C hp) (Ex.refl _) (E.setOwn (x := .oK []) hp (by rw [E.len]; exact hi) ⟨p, [], rfl, upd_same, C.sub.none hp, new_free C hp, .nil⟩ fun b hb => ref_inj hb) h
theorem ss_newT {i : Nat} (hi : i < Γ.length) (h : P.nx (Γ.set i (.oT []))) : SS c (tAsg tDNewT (gName i)) Γ P := fun σ B H D C E n r b k p hp =>
  n (σ.set i (some (.ref p))) B (upd H p (.dT [])) _ (cur_new C hp) (Ex.refl _) (E.setOwn (x := .oT []) hp (by rw [E.len]; exact hi) ⟨p, [], rfl, upd_same, C.sub.none hp, new_free C hp, .nil⟩ fun b hb => ref_inj hb) h
theorem env_oL {B H : Hp} {σ : List (Option V)} (E : EnvOk c B H σ Γ) {i : Nat} {ds : List PyData} (h : Γ[i]? = some (.oL ds)) : ∃ a ws, σ[i]? = some (some (.ref a)) ∧ H a = some (.lst ws) ∧ B a = none ∧ Free c a ∧ DpAll c.K B ws ds := by
  have hi : i < σ.length := by rw [E.len]; exact (List.getElem?_eq_some_iff.mp h).1
  obtain ⟨v, hv⟩ : ∃ v, σ[i]? = some v := ⟨_, List.getElem?_eq_getElem hi⟩
  have q := E.at_ i v _ hv h
  cases v with
  | none => exact q.elim
  | some v =>
    obtain ⟨a, ws, r1, r2⟩ := q
    subst r1
    exact ⟨a, ws, hv, r2⟩
theorem env_oK {B H : Hp} {σ : List (Option V)} (E : EnvOk c B H σ Γ) {i : Nat} {ds : List (Key × PyData)} (h : Γ[i]? = some (.oK ds)) : ∃ a ws, σ[i]? = some (some (.ref a)) ∧ H a = some (.dK ws) ∧ B a = none ∧ Free c a ∧ KvOk c.K B ws ds := by
  have hi : i < σ.length := by rw [E.len]; exact (List.getElem?_eq_some_iff.mp h).1
  obtain ⟨v, hv⟩ : ∃ v, σ[i]? = some v := ⟨_, List.getElem?_eq_getElem hi⟩
  have q := E.at_ i v _ hv h
  cases v with
  | none => exact q.elim
  | some v =>
    obtain ⟨a, ws, r1, r2⟩ := q
    subst r1
    exact ⟨a, ws, hv, r2⟩
theorem env_oT {B H : Hp} {σ : List (Option V)} (E : EnvOk c B H σ Γ) {i : Nat} {ds : List (List Key × PyData)} (h : Γ[i]? = some (.oT ds)) : ∃ a ws, σ[i]? = some (some (.ref a)) ∧ H a = some (.dT ws) ∧ B a = none ∧ Free c a ∧ KvOk c.K B ws ds := by
  have hi : i < σ.length := by rw [E.len]; exact (List.getElem?_eq_some_iff.mp h).1
  obtain ⟨v, hv⟩ : ∃ v, σ[i]? = some v := ⟨_, List.getElem?_eq_getElem hi⟩
  have q := E.at_ i v _ hv h
  cases v with
  | none => exact q.elim
  | some v =>
    obtain ⟨a, ws, r1, r2⟩ := q
    subst r1
    exact ⟨a, ws, hv, r2⟩
theorem lst_ne {H : Hp} {a : Addr} {ws : List V} (h : H a = some (.lst ws)) : (∀ ps, H a ≠ some (.tbl ps)) ∧ ∀ q, H a ≠ some (CodeO a q) := ⟨fun ps z => (by rw [h] at z; cases z), fun q z => (by rw [h] at z; cases z)⟩
theorem dK_ne {H : Hp} {a : Addr} {ws : List (Key × V)} (h : H a = some (.dK ws)) : (∀ ps, H a ≠ some (.tbl ps)) ∧ ∀ q, H a ≠ some (CodeO a q) := ⟨fun ps z => (by rw [h] at z; cases z), fun q z => (by rw [h] at z; cases z)⟩
theorem dT_ne {H : Hp} {a : Addr} {ws : List (List Key × V)} (h : H a = some (.dT ws)) : (∀ ps, H a ≠ some (.tbl ps)) ∧ ∀ q, H a ≠ some (CodeO a q) := ⟨fun ps z => (by rw [h] at z; cases z), fun q z => (by rw [h] at z; cases z)⟩
theorem same_ref {σ : List (Option V)} {i : Nat} {v : V} {a : Addr} (h1 : σ[i]? = some (some v)) (h2 : σ[i]? = some (some (.ref a))) : v = .ref a := by
  rw [h1] at h2
  exact Option.some.inj (Option.some.inj h2)
/-- xs.append(e), xs an own list -/
theorem ss_append {i : Nat} (h : EE c te Γ fun x Γ1 => ∃ d ds, x = .val d ∧ Γ1[i]? = some (.oL ds) ∧ ds.length < 1000000 ∧ P.nx (Γ1.set i (.oL (ds ++ [d])))) {ds0 : List PyData} (h0 : Γ[i]? = some (.oL ds0)) :
    SS c (tDrop (tBM c.K "list" rAppend (tVar i) (tCons te tNil))) Γ P := fun σ B H D C E n r b k => by
  obtain ⟨a0, ws0, hv0, hH0, _⟩ := env_oL E h0
  refine ⟨.ref a0, hv0, .inl ⟨rfl, _, SqL.of hH0⟩, ?_⟩
  refine h σ B H C E _ fun v B1 H1 x Γ1 s1 d1 ⟨d, ds, e, h1, hl, p⟩ => ?_
  have E1 := s1.env
  have C1 := s1.cur
  have b1 := s1.b
  subst e
  obtain ⟨a, ws, hv, hH, hB, h00, da⟩ := env_oL E1 h1
  have ea : a0 = a := V.ref.inj (same_ref hv0 hv)
  subst ea
  refine ⟨a0, ws, v, rfl, rfl, hH, Nat.lt_of_lt_of_le (by rw [DpAll.length da]; exact hl) (by decide), ?_⟩
  refine n σ B1 _ _ (cur_write C1 hB h00.1 (lst_ne hH).1 (lst_ne hH).2) b1 (E1.write (y := .oL (ds ++ [d])) hv h1 rfl ⟨a0, _, rfl, upd_same, hB, h00, DpAll.append da (.cons d1 .nil)⟩ fun b hb => hb) p
/-- freeze an own thing -/
theorem ss_freeze {i : Nat} {x : Cell} {y : Dat} (f : Frozen x y) (hx : Γ[i]? = some x) (h : SS c t (Γ.set i (.dat y)) P) : SS c t Γ P := fun σ B H D C E n r b k => by
  obtain ⟨B1, C1, e1, E1⟩ := frozen_ok C E hx f
  exact h σ B1 H D C1 E1 (fun σ2 B2 H2 Γ2 C2 b2 E2 p => n σ2 B2 H2 Γ2 C2 (e1.trans b2) E2 p) (fun v σ2 B2 H2 x Γ2 C2 b2 E2 d p => r v σ2 B2 H2 x Γ2 C2 (e1.trans b2) E2 d p)
    (fun σ2 B2 H2 Γ2 C2 b2 E2 p => b σ2 B2 H2 Γ2 C2 (e1.trans b2) E2 p) (fun σ2 B2 H2 Γ2 C2 b2 E2 p => k σ2 B2 H2 Γ2 C2 (e1.trans b2) E2 p)
theorem sg_name {i : Nat} {x : Dat} {N : Env' → Prop} (h : N (Γ.set i (.dat x))) (hi : i ∈ vs) : SG c (gName i) vs x Γ N := fun σ B H v C E d Q q =>
  q _ _ (E.set d) ⟨List.length_set, fun j hj => by
    have z : i ≠ j := fun e => hj (by rw [← e]; exact hi)
    exact ⟨List.getElem?_set_ne z, List.getElem?_set_ne z⟩⟩ h
theorem sg_pair {i j : Nat} {d1 d2 : PyData} {N : Env' → Prop} (h : N ((Γ.set i (cV (.val d1))).set j (cV (.val d2)))) (hi : i ∈ vs) (hj : j ∈ vs) : SG c (gTup c.K 2 (gCons (gName i) (gCons (gName j) gNil))) vs (dT [d1, d2]) Γ N := fun σ B H v C E d Q q => by
  cases d with
  | tup s a => cases a with
    | cons a1 a => cases a with
      | cons a2 a =>
        cases a
        refine ⟨_, _, rfl, sqT_mono C.sub.ex s, rfl, _, _, rfl, _, _, rfl, rfl, q _ _ ((E.set (x := .val d1) a1).set (x := .val d2) a2) ⟨by rw [List.length_set, List.length_set], fun k hk => ?_⟩ h⟩
        have z1 : i ≠ k := fun e => hk (by rw [← e]; exact hi)
        have z2 : j ≠ k := fun e => hk (by rw [← e]; exact hj)
        rw [List.getElem?_set_ne z2, List.getElem?_set_ne z1, List.getElem?_set_ne z2, List.getElem?_set_ne z1]
        exact ⟨rfl, rfl⟩
/-- for .. in a tuple -/
theorem ss_forT {g : TG} (h : EE c ta Γ fun x Γ0 => ∃ ds, x = dT ds ∧ ∃ I : Nat → Env' → Prop, I 0 Γ0 ∧ (∀ i d Γ1, ds[i]? = some d → I i Γ1 → SG c g vs (.val d) Γ1 fun Γ2 => SS c t Γ2 { nx := I (i + 1), rt := P.rt, bk := P.nx, ct := I (i + 1) }) ∧ ∀ Γ1, I ds.length Γ1 → P.nx Γ1) :
    SS c (tFor (iTup c.K ta) g t) Γ P := fun σ B H D C E n r b k =>
  h σ B H C E _ fun v B1 H1 x Γ0 s1 d1 ⟨ds, e, I, i0, turn, fin⟩ => by
    have E1 := s1.env
    have C1 := s1.cur
    have b1 := s1.b
    subst e
    cases d1 with
    | @tup a xs _ sq da =>
      refine ⟨a, rfl, ⟨xs, sqT_mono C1.sub.ex sq⟩, for_tup (K := c.K) (a := a) (xs := xs) (fun m σ' H' => ∃ B' Γ', Cur c B' H' ∧ Ex B1 B' ∧ EnvOk c B' H' σ' Γ' ∧ I m Γ') ⟨B1, Γ0, C1, Ex.refl _, E1, i0⟩ (fun m σ' H' _ ⟨B', Γ', C', b', _⟩ => sqT_mono (b'.trans C'.sub.ex) sq) ?_ ?_⟩
      · rintro m y σ' H' hm ⟨B', Γ', C', b', E', i'⟩
        obtain ⟨d, hd, dp⟩ := DpAll.get da hm
        refine turn m d Γ' hd i' σ' B' H' y C' E' (Dp.mono b' dp) _ fun σ2 Γ2 E2 _ s2 => s2 σ2 B' H' _ C' E2 (fun σ3 B3 H3 Γ3 C3 b3 E3 p => ⟨B3, Γ3, C3, b'.trans b3, E3, p⟩) (fun v σ3 B3 H3 x Γ3 C3 b3 E3 d p => r v σ3 B3 H3 x Γ3 C3 ((b1.trans b').trans b3) E3 d p)
          (fun σ3 B3 H3 Γ3 C3 b3 E3 p => n σ3 B3 H3 Γ3 C3 ((b1.trans b').trans b3) E3 p) (fun σ3 B3 H3 Γ3 C3 b3 E3 p => ⟨B3, Γ3, C3, b'.trans b3, E3, p⟩)
      · rintro σ' H' ⟨B', Γ', C', b', E', i'⟩
        exact n σ' B' H' Γ' C' (b1.trans b') E' (fin Γ' (by rw [← DpAll.length da]; exact i'))
theorem ss_forL {g : TG} (h : EE c ta Γ fun x Γ0 => ∃ ds, x = dL ds ∧ ∃ I : Nat → Env' → Prop, I 0 Γ0 ∧ (∀ i d Γ1, ds[i]? = some d → I i Γ1 → SG c g vs (.val d) Γ1 fun Γ2 => SS c t Γ2 { nx := I (i + 1), rt := P.rt, bk := P.nx, ct := I (i + 1) }) ∧ ∀ Γ1, I ds.length Γ1 → P.nx Γ1) :
    SS c (tFor (iList c.K ta) g t) Γ P := fun σ B H D C E n r b k =>
  h σ B H C E _ fun v B1 H1 x Γ0 s1 d1 ⟨ds, e, I, i0, turn, fin⟩ => by
    have E1 := s1.env
    have C1 := s1.cur
    have b1 := s1.b
    subst e
    cases d1 with
    | @lst a xs _ sq da =>
      refine ⟨a, rfl, ⟨xs, sqL_mono C1.sub.ex sq⟩, for_list (K := c.K) (a := a) (xs := xs) (fun m σ' H' => ∃ B' Γ', Cur c B' H' ∧ Ex B1 B' ∧ EnvOk c B' H' σ' Γ' ∧ I m Γ') ⟨B1, Γ0, C1, Ex.refl _, E1, i0⟩ (fun m σ' H' _ ⟨B', Γ', C', b', _⟩ => sqL_mono (b'.trans C'.sub.ex) sq) ?_ ?_⟩
      · rintro m y σ' H' hm ⟨B', Γ', C', b', E', i'⟩
        obtain ⟨d, hd, dp⟩ := DpAll.get da hm
        refine turn m d Γ' hd i' σ' B' H' y C' E' (Dp.mono b' dp) _ fun σ2 Γ2 E2 _ s2 => s2 σ2 B' H' _ C' E2 (fun σ3 B3 H3 Γ3 C3 b3 E3 p => ⟨B3, Γ3, C3, b'.trans b3, E3, p⟩) (fun v σ3 B3 H3 x Γ3 C3 b3 E3 d p => r v σ3 B3 H3 x Γ3 C3 ((b1.trans b').trans b3) E3 d p)
          (fun σ3 B3 H3 Γ3 C3 b3 E3 p => n σ3 B3 H3 Γ3 C3 ((b1.trans b').trans b3) E3 p) (fun σ3 B3 H3 Γ3 C3 b3 E3 p => ⟨B3, Γ3, C3, b'.trans b3, E3, p⟩)
      · rintro σ' H' ⟨B', Γ', C', b', E', i'⟩
        exact n σ' B' H' Γ' C' (b1.trans b') E' (fin Γ' (by rw [← DpAll.length da]; exact i'))
/-- for i in range(n) -/
theorem ss_forR {j : Nat} {ta : TA} (h : EA c ta Γ fun xs Γ0 => ∃ m : Int, xs = [dI m] ∧ 0 ≤ m ∧ m ≤ 1000000 ∧ ∃ I : Nat → Env' → Prop, I 0 Γ0 ∧ (∀ (i : Nat) Γ1, (i : Int) < m → I i Γ1 → SS c t (Γ1.set j (cV (dI (i : Int)))) { nx := I (i + 1), rt := P.rt, bk := P.nx, ct := I (i + 1) }) ∧ ∀ Γ1, I m.toNat Γ1 → P.nx Γ1) :
    SS c (tFor (iRng1 ta) (gName j) t) Γ P := fun σ B H D C E n r b k =>
  h σ B H C E _ fun vs B1 H1 xs Γ0 s1 d1 ⟨m, e, hm1, hm2, I, i0, turn, fin⟩ => by
    have E1 := s1.env
    have C1 := s1.cur
    have b1 := s1.b
    subst e
    cases d1 with
    | cons d1 dn =>
      cases dn
      cases d1
      refine ⟨m, rfl, by omega, by omega, for_range (lo := 0) (n := m.toNat) (fun q σ' H' => ∃ B' Γ', Cur c B' H' ∧ Ex B1 B' ∧ EnvOk c B' H' σ' Γ' ∧ I q Γ') ⟨B1, Γ0, C1, Ex.refl _, E1, i0⟩ ?_ ?_⟩
      · rintro q σ' H' hq ⟨B', Γ', C', b', E', i'⟩
        have e0 : (0 : Int) + (q : Int) = (q : Int) := Int.zero_add _
        rw [e0]
        exact turn q Γ' (by omega) i' _ B' H' _ C' (E'.set (x := dI (q : Int)) (Dp.int _)) (fun σ3 B3 H3 Γ3 C3 b3 E3 p => ⟨B3, Γ3, C3, b'.trans b3, E3, p⟩) (fun v σ3 B3 H3 x Γ3 C3 b3 E3 d p => r v σ3 B3 H3 x Γ3 C3 ((b1.trans b').trans b3) E3 d p)
          (fun σ3 B3 H3 Γ3 C3 b3 E3 p => n σ3 B3 H3 Γ3 C3 ((b1.trans b').trans b3) E3 p) (fun σ3 B3 H3 Γ3 C3 b3 E3 p => ⟨B3, Γ3, C3, b'.trans b3, E3, p⟩)
      · rintro σ' H' ⟨B', Γ', C', b', E', i'⟩
        exact n σ' B' H' Γ' C' (b1.trans b') E' (fin Γ' i')
/-- while -/
theorem ss_while (I : Nat → Env' → Prop) (m0 : Nat) (h0 : I m0 Γ) (turn : ∀ m Γ1, I m Γ1 → ET c tt Γ1 fun b Γ2 => (b = true → SS c t Γ2 { nx := fun Γ3 => ∃ m', m' < m ∧ I m' Γ3, rt := P.rt, bk := P.nx, ct := fun Γ3 => ∃ m', m' < m ∧ I m' Γ3 }) ∧ (b = false → P.nx Γ2)) :
    SS c (tWhile tt t) Γ P := fun σ B H D C E n r b k => by
  refine ⟨fun m σ' H' => ∃ B' Γ', Cur c B' H' ∧ Ex B B' ∧ EnvOk c B' H' σ' Γ' ∧ I m Γ', ⟨m0, B, Γ, C, Ex.refl _, E, h0⟩, ?_⟩
  rintro m σ' H' ⟨B', Γ', C', b', E', i'⟩
  refine turn m Γ' i' σ' B' H' C' E' _ fun d B2 H2 Γ2 s2 ⟨h1, h2⟩ => ?_
  have E2 := s2.env
  have C2 := s2.cur
  have b2 := s2.b
  cases d with
  | true =>
    refine ⟨fun σ3 H3 => ∃ B3 Γ3, Cur c B3 H3 ∧ Ex B B3 ∧ EnvOk c B3 H3 σ3 Γ3 ∧ ∃ m', m' < m ∧ I m' Γ3, fun σ3 H3 ⟨B3, Γ3, C3, b3, E3, m', hm, i3⟩ => ⟨m', hm, B3, Γ3, C3, b3, E3, i3⟩, ?_⟩
    exact h1 rfl σ' B2 H2 _ C2 E2 (fun σ3 B3 H3 Γ3 C3 b3 E3 p => ⟨B3, Γ3, C3, (b'.trans b2).trans b3, E3, p⟩) (fun v σ3 B3 H3 x Γ3 C3 b3 E3 d p => r v σ3 B3 H3 x Γ3 C3 ((b'.trans b2).trans b3) E3 d p)
      (fun σ3 B3 H3 Γ3 C3 b3 E3 p => n σ3 B3 H3 Γ3 C3 ((b'.trans b2).trans b3) E3 p) (fun σ3 B3 H3 Γ3 C3 b3 E3 p => ⟨B3, Γ3, C3, (b'.trans b2).trans b3, E3, p⟩)
  | false => exact n σ' B2 H2 Γ2 C2 (b'.trans b2) E2 (h2 rfl)
end
def wipeG (Γ : Env') : List Nat → Env'
  | [] => Γ
  | v :: vs => (wipeG Γ vs).set v .unk
theorem wipeG_length (Γ : Env') : ∀ vs : List Nat, (wipeG Γ vs).length = Γ.length
  | [] => rfl
  | v :: vs => by unfold wipeG; rw [List.length_set, wipeG_length Γ vs]
theorem wipeG_out {Γ : Env'} {i : Nat} : ∀ {vs : List Nat}, i ∉ vs → (wipeG Γ vs)[i]? = Γ[i]?
  | [], _ => rfl
  | v :: vs, h => by
    unfold wipeG
    rw [List.getElem?_set_ne (fun e => h (by rw [e]; exact List.mem_cons_self)), wipeG_out fun z => h (List.mem_cons_of_mem _ z)]
theorem wipeG_in {Γ : Env'} {i : Nat} (hl : i < Γ.length) : ∀ {vs : List Nat}, i ∈ vs → (wipeG Γ vs)[i]? = some .unk
  | [], h => by cases h
  | v :: vs, h => by
    unfold wipeG
    by_cases e : v = i
    · subst e
      exact List.getElem?_set_self (by rw [wipeG_length]; exact hl)
    · rw [List.getElem?_set_ne e]
      exact wipeG_in hl ((List.mem_cons.mp h).resolve_left fun z => e z.symm)
theorem wipe_out {σ : L2.St} {i : Nat} : ∀ {vs : List Nat}, i ∉ vs → (L2.wipe σ vs)[i]? = σ[i]?
  | [], _ => rfl
  | v :: vs, h => by
    unfold L2.wipe
    rw [List.getElem?_set_ne (fun e => h (by rw [e]; exact List.mem_cons_self)), wipe_out fun z => h (List.mem_cons_of_mem _ z)]
theorem wipe_in {σ : L2.St} {i : Nat} (hl : i < σ.length) : ∀ {vs : List Nat}, i ∈ vs → (L2.wipe σ vs)[i]? = some none
  | [], h => by cases h
  | v :: vs, h => by
    unfold L2.wipe
    by_cases e : v = i
    · subst e
      exact List.getElem?_set_self (by rw [L2.wipe_length]; exact hl)
    · rw [List.getElem?_set_ne e]
      exact wipe_in hl ((List.mem_cons.mp h).resolve_left fun z => e z.symm)
theorem wipe_same {σ σ1 : L2.St} {vs : List Nat} (hl : σ1.length = σ.length) (h : ∀ i, i ∉ vs → σ1[i]? = σ[i]?) : L2.wipe σ1 vs = L2.wipe σ vs := by
  refine List.ext_getElem? fun i => ?_
  by_cases hi : i ∈ vs
  · by_cases hb : i < σ.length
    · rw [wipe_in hb hi, wipe_in (by rw [hl]; exact hb) hi]
    · rw [List.getElem?_eq_none (by rw [L2.wipe_length, hl]; omega), List.getElem?_eq_none (by rw [L2.wipe_length]; omega)]
  · rw [wipe_out hi, wipe_out hi, h i hi]
section
variable {c : Ctx} {Γ : Env'}
theorem env_wipe {B H : Hp} {σ : L2.St} (E : EnvOk c B H σ Γ) (vs : List Nat) : EnvOk c B H (L2.wipe σ vs) (wipeG Γ vs) := by
  refine ⟨by rw [L2.wipe_length, wipeG_length]; exact E.len, fun i v x h1 h2 => ?_, fun i j v w x y a hij h1 h2 h3 h4 o1 o2 => ?_⟩
  · by_cases hi : i ∈ vs
    · have hb : i < Γ.length := by
        have q := (List.getElem?_eq_some_iff.mp h2).1
        rw [wipeG_length] at q
        exact q
      rw [wipeG_in hb hi] at h2
      cases h2
      cases v <;> trivial
    · rw [wipe_out hi] at h1
      rw [wipeG_out hi] at h2
      exact E.at_ i v x h1 h2
  · have out : ∀ {m : Nat} {z : Cell} {u : Option V}, (wipeG Γ vs)[m]? = some z → Owns c u z a → m ∉ vs := fun {m z u} g o hm => by
      have hb : m < Γ.length := by
        have q := (List.getElem?_eq_some_iff.mp g).1
        rw [wipeG_length] at q
        exact q
      rw [wipeG_in hb hm] at g
      cases g
      exact o
    have n1 := out h2 o1
    have n2 := out h4 o2
    rw [wipe_out n1] at h1
    rw [wipeG_out n1] at h2
    rw [wipe_out n2] at h3
    rw [wipeG_out n2] at h4
    exact E.sep i j v w x y a hij h1 h2 h3 h4 o1 o2
/-- the slots at vs hold nothing own -/
def NoOwn (Γ : Env') (vs : List Nat) : Prop := ∀ i ∈ vs, ∀ x, Γ[i]? = some x → x = .unk ∨ ∃ y, x = .dat y
/-- behind a block: the slots at vs as before, the others as the block leaves them -/
theorem env_back {B H B1 H1 : Hp} {σ σ1 : L2.St} {Γ1 Γ' : Env'} {vs : List Nat} (E : EnvOk c B H σ Γ) (b : Ex B B1) (E1 : EnvOk c B1 H1 σ1 Γ1) (hs : ∀ i, i ∉ vs → σ1[i]? = σ[i]?) (hno : NoOwn Γ vs)
    (hl : Γ'.length = Γ.length) (hin : ∀ i ∈ vs, Γ'[i]? = Γ[i]?) (hout : ∀ i, i ∉ vs → Γ'[i]? = Γ1[i]?) : EnvOk c B1 H1 σ Γ' := by
  refine ⟨by rw [hl]; exact E.len, fun i v x h1 h2 => ?_, fun i j v w x y a hij h1 h2 h3 h4 o1 o2 => ?_⟩
  · by_cases hi : i ∈ vs
    · rw [hin i hi] at h2
      have q := E.at_ i v x h1 h2
      rcases hno i hi x h2 with e | ⟨y, e⟩
      · subst e
        cases v <;> trivial
      · subst e
        cases v with
        | none => exact q.elim
        | some v => exact DatOk.mono b q
    · rw [hout i hi] at h2
      exact E1.at_ i v x (by rw [hs i hi]; exact h1) h2
  · have out : ∀ {m : Nat} {z : Cell} {u : Option V}, Γ'[m]? = some z → Owns c u z a → m ∉ vs := fun {m z u} g o hm => by
      rw [hin m hm] at g
      rcases hno m hm z g with e | ⟨y, e⟩
      · subst e
        exact o
      · subst e
        exact o
    have n1 := out h2 o1
    have n2 := out h4 o2
    exact E1.sep i j v w x y a hij (by rw [hs i n1]; exact h1) (by rw [← hout i n1]; exact h2) (by rw [hs j n2]; exact h3) (by rw [← hout j n2]; exact h4) o1 o2
/-- the slots behind a turn: at vs as before, the others as the block leaves them -/
structure Back (vs : List Nat) (Γ Γ1 Γ' : Env') : Prop where
  len : Γ'.length = Γ.length
  inn : ∀ i ∈ vs, Γ'[i]? = Γ[i]?
  out : ∀ i, i ∉ vs → Γ'[i]? = Γ1[i]?
/-- one turn of a list comprehension's block: acc is the list so far -/
def LT (c : Ctx) (g : TG) (tt : TT) (te : TE) (vs : List Nat) (I : Nat → List PyData → Env' → Prop) (i : Nat) (d : PyData) (acc : List PyData) (Γ : Env') : Prop :=
  NoOwn Γ vs ∧ SG c g vs (.val d) (wipeG Γ vs) fun Γ2 => ET c tt Γ2 fun b Γ3 => (b = true → EE c te Γ3 fun y Γ4 => ∃ e Γ5, y = .val e ∧ Back vs Γ Γ4 Γ5 ∧ I (i + 1) (acc ++ [e]) Γ5) ∧ (b = false → ∃ Γ5, Back vs Γ Γ3 Γ5 ∧ I (i + 1) acc Γ5)
/-- the state of the loop, the list at D: since the list was made (B1, H1 ahead of it) -/
structure LcSt (c : Ctx) (B1 H1 : Hp) (σ : List (Option V)) (D : Addr) (B H : Hp) (Γ : Env') (acc : List PyData) : Prop where
  new : H1 D = none
  cur : Cur c B H
  b : Ex B1 B
  env : EnvOk c B H σ Γ
  at_ : ∃ ws, H D = some (.lst ws) ∧ DpAll c.K B ws acc
  no : B D = none
  h : ∀ b o, H1 b = some o → (∀ ps, o ≠ .tbl ps) → b ∉ c.rs → H b = some o
  live : ∀ b, H1 b ≠ none → H b ≠ none
  out : ∀ a, B a ≠ none → H1 a ≠ none → B1 a ≠ none
  free : ∀ (j : Nat) (v : Option V) (x : Cell), σ[j]? = some v → Γ[j]? = some x → ¬ Owns c v x D
theorem owns_live {B H : Hp} {v : Option V} {x : Cell} {a : Addr} (h : CellOk c B H v x) (o : Owns c v x a) : H a ≠ none := by
  intro bad
  have bd : ∀ {o : HO}, H a = some o → False := fun r => by rw [bad] at r; cases r
  cases x with
  | oL ds => cases v with
    | none => exact h
    | some v => obtain ⟨b, ws, r1, r2, _⟩ := h; have o1 : some v = some (.ref a) := o; rw [r1] at o1; cases o1; exact bd r2
  | oK ds => cases v with
    | none => exact h
    | some v => obtain ⟨b, ws, r1, r2, _⟩ := h; have o1 : some v = some (.ref a) := o; rw [r1] at o1; cases o1; exact bd r2
  | oT ds => cases v with
    | none => exact h
    | some v => obtain ⟨b, ws, r1, r2, _⟩ := h; have o1 : some v = some (.ref a) := o; rw [r1] at o1; cases o1; exact bd r2
  | own ψ => cases v with
    | none => exact h
    | some v => obtain ⟨b, u, r1, r2, _⟩ := h; have o1 : some v = some (.ref a) := o; rw [r1] at o1; cases o1; exact bd r2
  | reel k => cases v with
    | none => exact h
    | some v =>
      obtain ⟨r, g, e0, _, _, _, _, _, m, gs, ss, q1, q2, _⟩ := h
      have o : a ∈ c.rs := o
      unfold Ctx.rs at o
      rw [e0] at o
      have o : a = r ∨ a = g := by simpa using o
      rcases o with o | o
      · rw [← o] at q1; exact bd q1
      · rw [← o] at q2; exact bd q2
  | oLL b rows last => cases v with
    | none => exact h
    | some v =>
      obtain ⟨x, ws, vs, r1, r2, r3, _⟩ := h
      rcases (show some v = some (.ref a) ∨ a = b from o) with o1 | o1
      · rw [r1] at o1; cases o1; exact bd r2
      · rw [← o1] at r3; exact bd r3
  | unk => exact o
  | dat _ => exact o
/-- the list is made -/
theorem lc_new {B1 H1 : Hp} {σ : List (Option V)} {D : Addr} (C : Cur c B1 H1) (E : EnvOk c B1 H1 σ Γ) (hD : H1 D = none) : LcSt c B1 H1 σ D B1 (upd H1 D (.lst [])) Γ [] where
  new := hD
  cur := cur_new C hD
  b := Ex.refl _
  env := ⟨E.len, fun i v x h1 h2 => (E.at_ i v x h1 h2).other fun o => owns_live (E.at_ i v x h1 h2) o hD, E.sep⟩
  at_ := ⟨[], upd_same, .nil⟩
  no := C.sub.none hD
  h := fun b o h _ _ => by rw [upd_ne (ne_of_none h hD)]; exact h
  live := fun b h => (Ex.new hD).live b h
  out := fun a h _ => h
  free := fun j v x h1 h2 o => owns_live (E.at_ j v x h1 h2) o hD
/-- what holds between two turns -/
def LcI (c : Ctx) (B1 H1 : Hp) (σ : List (Option V)) (D : Addr) (Γ0 : Env') (I : Nat → List PyData → Env' → Prop) (m : Nat) (H : Hp) : Prop :=
  ∃ (B : Hp) (Γ : Env') (acc : List PyData), LcSt c B1 H1 σ D B H Γ acc ∧ acc.length ≤ m ∧ Rl Γ0 Γ ∧ I m acc Γ
theorem rl_of_back {vs : List Nat} {Γ Γ5 Γ2 Γ4 : Env'} (rl : Rl Γ2 Γ4) (bk : Back vs Γ Γ4 Γ5) (h : ∀ i, i ∉ vs → Γ2[i]? = Γ[i]?) : Rl Γ Γ5 := ⟨bk.len, fun j => by
  by_cases hj : j ∈ vs
  · exact .inl (bk.inn j hj)
  · rcases rl.at_ j with g | ⟨k, k', g1, g2⟩
    · exact .inl (by rw [bk.out j hj, g, h j hj])
    · exact .inr ⟨k, k', by rw [← h j hj]; exact g1, by rw [bk.out j hj]; exact g2⟩⟩
/-- one turn -/
theorem lc_turn {g : TG} {tt : TT} {te : TE} {vs : List Nat} {I : Nat → List PyData → Env' → Prop} {B1 H1 B H : Hp} {σ : List (Option V)} {D : Addr} {i : Nat} {d : PyData} {y : V} {acc : List PyData} {Γ0 : Env'} (hDr : D ∉ c.rs) (hD0 : c.H0 D = none) (hz : i < 1000000) (hai : acc.length ≤ i) (rl0 : Rl Γ0 Γ)
    (p : LcSt c B1 H1 σ D B H Γ acc) (dy : Dp c.K B y d) (turn : LT c g tt te vs I i d acc Γ) :
    g y (L2.wipe σ vs) H fun σ2 H2 => L2.wipe σ2 vs = L2.wipe σ vs ∧ tt σ2 H2 fun b H3 => if b = true then te σ2 H3 fun y H4 => ∃ ws, H4 D = some (.lst ws) ∧ ws.length < sizeLine ∧ LcI c B1 H1 σ D Γ0 I (i + 1) (upd H4 D (.lst (ws ++ [y])))
      else LcI c B1 H1 σ D Γ0 I (i + 1) H3 := by
  obtain ⟨hnew, C, b, E, ⟨ws, hH, da⟩, hB, keep, live, out, free⟩ := p
  obtain ⟨no, sg⟩ := turn
  have Ew := env_wipe E vs
  refine sg (L2.wipe σ vs) B H y C Ew dy _ fun σ1 Γ2 E2 same et => ?_
  obtain ⟨hl1, same⟩ := same
  rw [L2.wipe_length] at hl1
  have hs1 : ∀ i, i ∉ vs → σ1[i]? = σ[i]? := fun i hi => by rw [(same i hi).1, wipe_out hi]
  have g2 : ∀ i, i ∉ vs → Γ2[i]? = Γ[i]? := fun i hi => by rw [(same i hi).2, wipeG_out hi]
  have own : ∀ {Γ4 Γ5 : Env'}, Rl Γ2 Γ4 → Back vs Γ Γ4 Γ5 → ∀ (j : Nat) (v : Option V) (x : Cell), σ[j]? = some v → Γ5[j]? = some x → ¬ Owns c v x D := fun {Γ4 Γ5} rl bk j v x h1 h2 o => by
    by_cases hj : j ∈ vs
    · rw [bk.inn j hj] at h2
      exact free j v x h1 h2 o
    · rw [bk.out j hj] at h2
      obtain ⟨x2, g2, o2⟩ := rl.owns h2 o
      rw [(same j hj).2, wipeG_out hj] at g2
      exact free j v x2 h1 g2 o2
  have hDn : H D ≠ none := by rw [hH]; exact fun z => by cases z
  refine ⟨wipe_same hl1 hs1, et σ1 B H C E2 _ fun bb B3 H3 Γ3 s3 ⟨ht, hf⟩ => ?_⟩
  have hH3 : H3 D = some (.lst ws) := s3.stp.h D _ hH (fun ps z => by cases z) hDr
  have hB3 : B3 D = none := by
    cases e : B3 D with
    | none => rfl
    | some o => exact absurd hB (s3.stp.out D (by rw [e]; exact fun z => by cases z) hDn)
  have keep3 : ∀ b o, H1 b = some o → (∀ ps, o ≠ .tbl ps) → b ∉ c.rs → H3 b = some o := fun b o h n r => s3.stp.h b o (keep b o h n r) n r
  have live3 : ∀ b, H1 b ≠ none → H3 b ≠ none := fun b h => s3.stp.live b (live b h)
  have out3 : ∀ a, B3 a ≠ none → H1 a ≠ none → B1 a ≠ none := fun a h1 h2 => out a (s3.stp.out a h1 (live a h2)) h2
  cases bb with
  | false =>
    obtain ⟨Γ5, bk, i5⟩ := hf rfl
    exact ⟨B3, Γ5, acc, ⟨hnew, s3.cur, b.trans s3.b, env_back E s3.b s3.env hs1 no bk.len bk.inn bk.out, ⟨ws, hH3, DpAll.mono s3.b da⟩, hB3, keep3, live3, out3, own s3.rl bk⟩, Nat.le_succ_of_le hai, rl0.trans (rl_of_back s3.rl bk g2), i5⟩
  | true =>
    refine ht rfl σ1 B3 H3 s3.cur s3.env _ fun yv B4 H4 x4 Γ4 s4 d4 ⟨e, Γ5, ey, bk, i5⟩ => ?_
    subst ey
    have s34 := s3.trans s4
    have hH4 : H4 D = some (.lst ws) := s4.stp.h D _ hH3 (fun ps z => by cases z) hDr
    have hB4 : B4 D = none := by
      cases e : B4 D with
      | none => rfl
      | some o => exact absurd hB3 (s4.stp.out D (by rw [e]; exact fun z => by cases z) (by rw [hH3]; exact fun z => by cases z))
    have hl : ws.length < sizeLine := Nat.lt_of_lt_of_le (by rw [DpAll.length da]; exact Nat.lt_of_le_of_lt hai hz) (by decide)
    have E5 := env_back E s34.b s4.env hs1 no bk.len bk.inn bk.out
    have f5 := own s34.rl bk
    refine ⟨ws, hH4, hl, B4, Γ5, acc ++ [e], ⟨hnew, cur_write s4.cur hB4 hD0 (lst_ne hH4).1 (lst_ne hH4).2, b.trans s34.b, ⟨E5.len, fun j v x h1 h2 => (E5.at_ j v x h1 h2).other (f5 j v x h1 h2), E5.sep⟩, ⟨_, upd_same, DpAll.append (DpAll.mono s34.b da) (.cons d4 .nil)⟩, hB4, fun b o h n r => ?_, fun b h => ?_, fun a h1 h2 => out3 a (s4.stp.out a h1 (live3 a h2)) h2, f5⟩, by rw [List.length_append]; exact Nat.succ_le_succ hai, rl0.trans (rl_of_back s34.rl bk g2), i5⟩
    · by_cases z : b = D
      · rw [z, hnew] at h
        cases h
      · rw [upd_ne z]; exact s4.stp.h b o (keep3 b o h n r) n r
    · by_cases z : b = D
      · rw [z, upd_same]; exact fun z => by cases z
      · rw [upd_ne z]; exact s4.stp.live b (live3 b h)
/-- the end: the list is handed on -/
theorem lc_end {B1 H1 B H : Hp} {σ : List (Option V)} {D : Addr} {Γ1 : Env'} {acc : List PyData} {Q : L2.VK} {P : Dat → Env' → Prop} {B0 H0 : Hp} {Γ0 : Env'} (s0 : St1 c B0 H0 B1 H1 σ Γ0 Γ) (hDr : D ∉ c.rs) (hD0 : c.H0 D = none) (rl : Rl Γ Γ1)
    (p : LcSt c B1 H1 σ D B H Γ1 acc) (q : ∀ v B1 H1 x Γ1, St1 c B0 H0 B1 H1 σ Γ0 Γ1 → DatOk c.K B1 v x → P x Γ1 → Q v H1) (h : P (dL acc) Γ1) : Q (.ref D) H := by
  obtain ⟨hnew, C, b, E, ⟨ws, hH, da⟩, hB, keep, live, out, free⟩ := p
  have ex : Ex B (withB B D (.lst ws)) := Ex.new hB
  refine q (.ref D) (withB B D (.lst ws)) H (dL acc) Γ1 (s0.trans ⟨⟨cur_withB C hB hH hD0 hDr, b.trans ex, keep, live, fun a h1 h2 => ?_⟩, ⟨E.len, fun i v x h1 h2 => (E.at_ i v x h1 h2).withB hB (free i v x h1 h2), E.sep⟩, rl⟩) (Dp.lst (SqL.of upd_same) (DpAll.mono ex da)) h
  by_cases z : a = D
  · rw [z] at h2; exact absurd hnew h2
  · exact out a (fun y => h1 ((upd_ne z).trans y)) h2
/-- what is asked of a comprehension over the items ds: I by the turn, the list so far, the slots -/
def LcD (c : Ctx) (g : TG) (tt : TT) (te : TE) (vs : List Nat) (P : Dat → Env' → Prop) (ds : List PyData) (Γ0 : Env') : Prop :=
  ds.length ≤ 900000 ∧ ∃ I : Nat → List PyData → Env' → Prop, I 0 [] Γ0 ∧ (∀ i d acc Γ1, ds[i]? = some d → I i acc Γ1 → LT c g tt te vs I i d acc Γ1) ∧ ∀ acc Γ1, I ds.length acc Γ1 → P (dL acc) Γ1
/-- [e for .. in a tuple if ..] -/
theorem ee_lcT {g : TG} {tt : TT} {te ta : TE} {vs : List Nat} {P : Dat → Env' → Prop} (h : EE c ta Γ fun x Γ0 => ∃ ds, x = dT ds ∧ LcD c g tt te vs P ds Γ0) : EE c (tLc (iTup c.K ta) g tt te vs) Γ P := fun σ B0 H0 C0 E0 Q q =>
  h σ B0 H0 C0 E0 _ fun v B1 H1 x Γ0 s0 d0 ⟨ds, e, hz, I, i0, turn, fin⟩ => by
    subst e
    cases d0 with
    | @tup a xs _ sq da =>
      refine ⟨a, rfl, ⟨xs, sqT_mono s0.cur.sub.ex sq⟩, fun D hD => ?_⟩
      have hDr : D ∉ c.rs := fun z => (s0.cur.reel D z).1 hD
      have hD0 := new_out s0.cur hD
      refine lc_tup (K := c.K) (a := a) (xs := xs) (LcI c B1 H1 σ D Γ0 I) ⟨B1, Γ0, [], lc_new s0.cur s0.env hD, Nat.le_refl _, Rl.refl _, i0⟩ (fun m H' _ ⟨B', Γ', acc, p, _⟩ => sqT_mono (p.b.trans p.cur.sub.ex) sq) ?_ ?_
      · rintro m y H' hm ⟨B', Γ', acc, p, hl, rl, i'⟩
        obtain ⟨d, hd, dp⟩ := DpAll.get da hm
        have hm2 : m < ds.length := (List.getElem?_eq_some_iff.mp hd).1
        exact lc_turn hDr hD0 (by omega) hl rl p (Dp.mono p.b dp) (turn m d acc Γ' hd i')
      · rintro H' ⟨B', Γ', acc, p, hl, rl, i'⟩
        exact lc_end s0 hDr hD0 rl p q (fin acc Γ' (by rw [← DpAll.length da]; exact i'))
theorem ee_lcL {g : TG} {tt : TT} {te ta : TE} {vs : List Nat} {P : Dat → Env' → Prop} (h : EE c ta Γ fun x Γ0 => ∃ ds, x = dL ds ∧ LcD c g tt te vs P ds Γ0) : EE c (tLc (iList c.K ta) g tt te vs) Γ P := fun σ B0 H0 C0 E0 Q q =>
  h σ B0 H0 C0 E0 _ fun v B1 H1 x Γ0 s0 d0 ⟨ds, e, hz, I, i0, turn, fin⟩ => by
    subst e
    cases d0 with
    | @lst a xs _ sq da =>
      refine ⟨a, rfl, ⟨xs, sqL_mono s0.cur.sub.ex sq⟩, fun D hD => ?_⟩
      have hDr : D ∉ c.rs := fun z => (s0.cur.reel D z).1 hD
      have hD0 := new_out s0.cur hD
      refine lc_list (K := c.K) (a := a) (xs := xs) (LcI c B1 H1 σ D Γ0 I) ⟨B1, Γ0, [], lc_new s0.cur s0.env hD, Nat.le_refl _, Rl.refl _, i0⟩ (fun m H' _ ⟨B', Γ', acc, p, _⟩ => sqL_mono (p.b.trans p.cur.sub.ex) sq) ?_ ?_
      · rintro m y H' hm ⟨B', Γ', acc, p, hl, rl, i'⟩
        obtain ⟨d, hd, dp⟩ := DpAll.get da hm
        have hm2 : m < ds.length := (List.getElem?_eq_some_iff.mp hd).1
        exact lc_turn hDr hD0 (by omega) hl rl p (Dp.mono p.b dp) (turn m d acc Γ' hd i')
      · rintro H' ⟨B', Γ', acc, p, hl, rl, i'⟩
        exact lc_end s0 hDr hD0 rl p q (fin acc Γ' (by rw [← DpAll.length da]; exact i'))
/-- .. over an own list -/
theorem ee_lcO {g : TG} {tt : TT} {te : TE} {vs : List Nat} {P : Dat → Env' → Prop} {k : Nat} {ds : List PyData} (hk : Γ[k]? = some (.oL ds)) (h : LcD c g tt te vs P ds Γ) : EE c (tLc (iList c.K (tVar k)) g tt te vs) Γ P := fun σ B0 H0 C0 E0 Q q => by
  obtain ⟨hz, I, i0, turn, fin⟩ := h
  obtain ⟨a, xs, hv, hH, hB, hF, da⟩ := env_oL E0 hk
  refine ⟨.ref a, hv, a, rfl, ⟨xs, SqL.of hH⟩, fun D hD => ?_⟩
  have hDr : D ∉ c.rs := fun z => (C0.reel D z).1 hD
  have hD0 := new_out C0 hD
  refine lc_list (K := c.K) (a := a) (xs := xs) (LcI c B0 H0 σ D Γ I) ⟨B0, Γ, [], lc_new C0 E0 hD, Nat.le_refl _, Rl.refl _, i0⟩ (fun m H' _ ⟨B', Γ', acc, p, _⟩ => SqL.of (p.h a _ hH (fun ps z => by cases z) hF.2)) ?_ ?_
  · rintro m y H' hm ⟨B', Γ', acc, p, hl, rl, i'⟩
    obtain ⟨d, hd, dp⟩ := DpAll.get da hm
    have hm2 : m < ds.length := (List.getElem?_eq_some_iff.mp hd).1
    exact lc_turn hDr hD0 (by omega) hl rl p (Dp.mono p.b dp) (turn m d acc Γ' hd i')
  · rintro H' ⟨B', Γ', acc, p, hl, rl, i'⟩
    exact lc_end (St1.refl C0 E0) hDr hD0 rl p q (fin acc Γ' (by rw [← DpAll.length da]; exact i'))
/-- .. over range(n) -/
theorem ee_lcR {j : Nat} {tt : TT} {te : TE} {ta : TA} {vs : List Nat} {P : Dat → Env' → Prop} (h : EA c ta Γ fun xs Γ0 => ∃ n : Nat, xs = [dI (n : Int)] ∧ LcD c (gName j) tt te vs P ((List.range n).map fun i : Nat => PyData.int (i : Int)) Γ0) : EE c (tLc (iRng1 ta) (gName j) tt te vs) Γ P := fun σ B0 H0 C0 E0 Q q =>
  h σ B0 H0 C0 E0 _ fun v B1 H1 x Γ0 s0 d0 ⟨n, e, hz, I, i0, turn, fin⟩ => by
    subst e
    rw [List.length_map, List.length_range] at hz fin
    cases d0 with
    | cons d0 dn =>
      cases dn
      cases d0
      refine ⟨(n : Int), rfl, by omega, by omega, fun D hD => ?_⟩
      have hDr : D ∉ c.rs := fun z => (s0.cur.reel D z).1 hD
      have hD0 := new_out s0.cur hD
      refine lc_range (lo := 0) (n := (n : Int).toNat) (LcI c B1 H1 σ D Γ0 I) ⟨B1, Γ0, [], lc_new s0.cur s0.env hD, Nat.le_refl _, Rl.refl _, i0⟩ ?_ ?_
      · rintro m H' hm ⟨B', Γ', acc, p, hl, rl, i'⟩
        have hm2 : m < n := by omega
        have e0 : (0 : Int) + (m : Int) = (m : Int) := Int.zero_add _
        rw [e0]
        exact lc_turn hDr hD0 (by omega) hl rl p (Dp.int _) (turn m (PyData.int (m : Int)) acc Γ' (by rw [List.getElem?_map, List.getElem?_range hm2]; rfl) i')
      · rintro H' ⟨B', Γ', acc, p, hl, rl, i'⟩
        exact lc_end s0 hDr hD0 rl p q (fin acc Γ' i')
/-- a pure comprehension: the slots stay, the kept items are mapped -/
theorem lcd_pure {g : TG} {tt : TT} {te : TE} {vs : List Nat} {P : Dat → Env' → Prop} {ds : List PyData} (f : PyData → PyData) (p : PyData → Bool) (hz : ds.length ≤ 900000) (hno : NoOwn Γ vs)
    (turn : ∀ d ∈ ds, SG c g vs (.val d) (wipeG Γ vs) fun Γ2 => (∀ i, i ∉ vs → Γ2[i]? = Γ[i]?) ∧ Γ2.length = Γ.length ∧ ET c tt Γ2 fun b Γ3 => Γ3 = Γ2 ∧ b = p d ∧ (p d = true → EE c te Γ2 fun y Γ4 => Γ4 = Γ2 ∧ y = .val (f d)))
    (h : P (dL ((ds.filter p).map f)) Γ) : LcD c g tt te vs P ds Γ := by
  refine ⟨hz, fun i acc Γ1 => Γ1 = Γ ∧ acc = ((ds.take i).filter p).map f, ⟨rfl, by simp⟩, ?_, ?_⟩
  · rintro i d acc Γ1 hd ⟨rfl, ea⟩
    have hm : d ∈ ds := List.mem_of_getElem? hd
    have ht : ds.take (i + 1) = ds.take i ++ [d] := by
      rw [List.take_add_one, hd]
      rfl
    refine ⟨hno, fun σ B H v C E dv Q q => turn d hm σ B H v C E dv Q fun σ1 Γ2 E2 sm ⟨h1, h2, h3⟩ => q σ1 Γ2 E2 sm ?_⟩
    refine ET.imp h3 fun b Γ3 ⟨e3, eb, h4⟩ => ⟨fun hb => ?_, fun hb => ?_⟩
    · subst e3
      have hp : p d = true := by rw [← eb]; exact hb
      refine EE.imp (h4 hp) fun y Γ4 ⟨e4, ey⟩ => ⟨f d, Γ1, ey, ⟨rfl, fun _ _ => rfl, fun j hj => by rw [e4]; exact (h1 j hj).symm⟩, rfl, ?_⟩
      rw [ht, List.filter_append, List.map_append, ea, List.filter_cons, if_pos hp]
      rfl
    · subst e3
      have hp : ¬ p d = true := by rw [← eb, hb]; exact Bool.false_ne_true
      refine ⟨Γ1, ⟨rfl, fun _ _ => rfl, fun j hj => (h1 j hj).symm⟩, rfl, ?_⟩
      rw [ht, List.filter_append, List.map_append, ea, List.filter_cons, if_neg hp]
      simp
  · rintro acc Γ1 ⟨rfl, ea⟩
    rw [List.take_length] at ea
    rw [ea]
    exact h
end
end My
end DL3_
section DL4_
set_option maxHeartbeats 1000000
namespace My
open PySem PySem.Spec PyProof.Rows L2 LamX

/-- a def of data: the arguments by an index, what is asked, what comes -/
def SpI (K : PySem.W.Frag) (T : List (Addr × Str)) {ι : Type} (args : ι → List Dat) (pre : ι → Prop) (post : ι → Dat → Prop) : Sp := fun vs H Q _ =>
  ∃ (B : Hp) (i : ι), Sub B H ∧ Tabs T H ∧ DatAll K B vs (args i) ∧ pre i ∧ ∀ v H1 x, Ex H H1 → Tabs T H1 → DatOk K (ext B H H1) v x → post i x → Q v H1
/-- the slots at the entry -/
def start' (N : List Str) (xs : List Dat) : Env' := xs.map .dat ++ List.replicate (N.length - xs.length) .unk
theorem env_start {c : Ctx} {B H : Hp} {N : List Str} : ∀ {vs : List V} {xs : List Dat}, DatAll c.K B vs xs → EnvOk c B H (L2.start N vs) (start' N xs) := fun {vs xs} h => by
  have hl := h.length
  have at1 : ∀ {vs : List V} {xs : List Dat}, DatAll c.K B vs xs → ∀ (i : Nat) (v : Option V) (x : Cell), (vs.map some)[i]? = some v → (xs.map Cell.dat)[i]? = some x → CellOk c B H v x ∧ ∃ y, x = .dat y := by
    intro vs xs h
    induction h with
    | nil => intro i v x h1; simp at h1
    | cons d t ih =>
      intro i v x h1 h2
      cases i with
      | zero =>
        simp at h1 h2
        subst h1; subst h2
        exact ⟨d, _, rfl⟩
      | succ i =>
        simp only [List.map_cons, List.getElem?_cons_succ] at h1 h2
        exact ih i v x h1 h2
  have at2 : ∀ (i : Nat) (v : Option V) (x : Cell), (L2.start N vs)[i]? = some v → (start' N xs)[i]? = some x → CellOk c B H v x ∧ (x = .unk ∨ ∃ y, x = .dat y) := fun i v x h1 h2 => by
    unfold L2.start at h1
    unfold start' at h2
    by_cases hi : i < vs.length
    · rw [List.getElem?_append_left (by simpa using hi)] at h1
      rw [List.getElem?_append_left (by simpa [← hl] using hi)] at h2
      obtain ⟨a, b⟩ := at1 h i v x h1 h2
      exact ⟨a, .inr b⟩
    · rw [List.getElem?_append_right (by simpa [← hl] using hi)] at h2
      have e := List.mem_replicate.mp (List.mem_of_getElem? h2)
      rw [e.2]
      exact ⟨by cases v <;> trivial, .inl rfl⟩
  refine ⟨?_, fun i v x h1 h2 => (at2 i v x h1 h2).1, fun i j v w x y a _ h1 h2 _ _ o1 _ => ?_⟩
  · unfold L2.start start'
    simp [hl]
  · rcases (at2 i v x h1 h2).2 with e | ⟨z, e⟩
    · subst e; exact o1
    · subst e; exact o1
/-- the body's state is the promise's -/
theorem sp_run {K : PySem.W.Frag} {T : List (Addr × Str)} {ι : Type} {args : ι → List Dat} {pre : ι → Prop} {post : ι → Dat → Prop} {N : List Str} {t : TS} {vs : List V} {H : Hp} {Q : L2.VK} {E : XK}
    (body : ∀ (c : Ctx), c.K = K → c.T = T → c.rg = none → c.sm = 0 → ∀ i, pre i → SS c t (start' N (args i)) { nx := fun _ => post i dN, rt := fun x _ => post i x }) (h : SpI K T args pre post vs H Q E) :
    t { nx := fun _ H' => Q .non H', rt := Q } (L2.start N vs) H := by
  obtain ⟨B, i, sub, tab, da, p, k⟩ := h
  let c : Ctx := { K := K, T := T, H0 := H, B0 := B }
  have C : Cur c B H := ⟨sub, Ex.refl _, Ex.refl _, fun a h _ => h, tab, fun a ha => by cases ha⟩
  have to_ext : ∀ {B1 H1 : Hp}, Cur c B1 H1 → Ex B1 (ext B H H1) := fun {B1 H1} C1 => (show Sub B1 (ext B H H1) from fun b o e => by
    by_cases hb : H b = none
    · rw [ext_new hb]; exact C1.sub b o e
    · rw [ext_old (C1.out b (by rw [e]; exact fun z => by cases z) hb)]; exact C1.sub b o e).ex
  refine body c rfl rfl rfl rfl i p (L2.start N vs) B H _ C (env_start da) (fun σ1 B1 H1 Γ1 C1 b1 E1 q => k .non H1 dN C1.ex0 C1.tab Dp.non q) (fun v σ1 B1 H1 x Γ1 C1 b1 E1 d q => k v H1 x C1.ex0 C1.tab (DatOk.mono (to_ext C1) d) q) (fun _ _ _ _ _ _ _ z => z.elim) (fun _ _ _ _ _ _ _ z => z.elim)
theorem sp_len {K : PySem.W.Frag} {T : List (Addr × Str)} {ι : Type} {args : ι → List Dat} {pre : ι → Prop} {post : ι → Dat → Prop} {n : Nat} (hn : ∀ i, (args i).length = n) : ∀ vs H Q E, SpI K T args pre post vs H Q E → vs.length = n := fun vs H Q E ⟨B, i, _, _, da, _⟩ => by
  rw [da.length, hn i]
section
variable {c : Ctx} {Γ : Env'} {P : Dat → Env' → Prop}
/-- a call -/
theorem ee_call {T : List (Addr × Str)} {K : PySem.W.Frag} {ι : Type} {args : ι → List Dat} {pre : ι → Prop} {post : ι → Dat → Prop} {E' : XK} {ta : TA} (hT : c.T = T) (hK : c.K = K) (h : EA c ta Γ fun xs Γ1 => ∃ i, xs = args i ∧ pre i ∧ ∀ x, post i x → P x Γ1) :
    EE c (tCall (SpI K T args pre post) [] E' ta) Γ P := fun σ B H C E Q q => by
  subst hT hK
  refine h σ B H C E _ fun vs B1 H1 xs Γ1 s1 d1 ⟨i, e, p, k⟩ => ?_
  rw [List.append_nil]
  refine ⟨B1, i, s1.cur.sub, s1.cur.tab, by rw [← e]; exact d1, p, fun v H2 x ex tab d2 po => ?_⟩
  exact q v _ H2 x Γ1 (s1.step (step_call s1.cur ex tab)) d2 (k x po)
end

/-- nothing is made -/
theorem ro_flat {c : Ctx} {r : R2} {x y : Dat} {P : Dat → Prop} (h : ∀ B H v w, Sub B H → DatOk c.K B v x → DatOk c.K B w y → ∀ Q : L2.VK, (∀ u z, DatOk c.K B u z → P z → Q u H) → r v w H Q) : RO c r x y P := fun B H v w C d e Q q => h B H v w C.sub d e Q fun u z d2 p => q u B H z (Step.refl C) d2 p
section
variable {c : Ctx} {P : Dat → Prop}
theorem ro_int {g : Int → Int → V} {i j : Int} {z : Dat} (hz : ∀ B, DatOk c.K B (g i j) z) (k : P z) : RO c (rI0 g) (dI i) (dI j) P := ro_flat fun B H v w _ d e Q q => by
  cases d; cases e
  exact ⟨i, j, rfl, rfl, q _ z (hz B) k⟩
theorem ro_intC {C : Int → Int → Prop} {g : Int → Int → V} {i j : Int} {z : Dat} (hc : C i j) (hz : ∀ B, DatOk c.K B (g i j) z) (k : P z) : RO c (rI C g) (dI i) (dI j) P := ro_flat fun B H v w _ d e Q q => by
  cases d; cases e
  exact ⟨i, j, rfl, rfl, hc, q _ z (hz B) k⟩
theorem ro_add {i j : Int} (k : P (dI (i + j))) : RO c (rI0 fun i j => .int (i + j)) (dI i) (dI j) P := ro_int (z := dI (i + j)) (fun _ => Dp.int _) k
theorem ro_sub {i j : Int} (k : P (dI (i - j))) : RO c (rI0 fun i j => .int (i - j)) (dI i) (dI j) P := ro_int (z := dI (i - j)) (fun _ => Dp.int _) k
theorem ro_lt {i j : Int} (k : P (dB (decide (i < j)))) : RO c (rI0 fun i j => .bl (decide (i < j))) (dI i) (dI j) P := ro_int (z := dB _) (fun _ => Dp.bl _) k
theorem ro_le {i j : Int} (k : P (dB (decide (i ≤ j)))) : RO c (rI0 fun i j => .bl (decide (i ≤ j))) (dI i) (dI j) P := ro_int (z := dB _) (fun _ => Dp.bl _) k
theorem ro_gt {i j : Int} (k : P (dB (decide (j < i)))) : RO c (rI0 fun i j => .bl (decide (j < i))) (dI i) (dI j) P := ro_int (z := dB _) (fun _ => Dp.bl _) k
theorem ro_ge {i j : Int} (k : P (dB (decide (j ≤ i)))) : RO c (rI0 fun i j => .bl (decide (j ≤ i))) (dI i) (dI j) P := ro_int (z := dB _) (fun _ => Dp.bl _) k
theorem ro_addS {i j : Str} (hl : i.length + j.length ≤ 1000000) (k : P (dS (i ++ j))) : RO c (fun x y H Q => ∃ i j, x = .str i ∧ y = .str j ∧ i.length + j.length ≤ sizeLine ∧ Q (.str (i ++ j)) H) (dS i) (dS j) P := ro_flat fun B H v w _ d e Q q => by
  cases d; cases e
  exact ⟨i, j, rfl, rfl, len_lit hl, q _ (dS (i ++ j)) (Dp.str _) k⟩
/-- ==, != of any data -/
theorem ro_eq {d e : PyData} (h1 : SeqAt.shaped d = true) (h2 : SeqAt.shaped e = true) (k : P (dB (PyData.eqv d e))) : RO c (rEqD c.K) (.val d) (.val e) P := ro_flat fun B H v w s hd he Q q =>
  ⟨d, e, Dp.mono s.ex hd, Dp.mono s.ex he, h1, h2, q _ (dB _) (Dp.bl _) k⟩
theorem ro_ne {d e : PyData} (h1 : SeqAt.shaped d = true) (h2 : SeqAt.shaped e = true) (k : P (dB (!PyData.eqv d e))) : RO c (rNeD c.K) (.val d) (.val e) P := ro_flat fun B H v w s hd he Q q =>
  ⟨d, e, Dp.mono s.ex hd, Dp.mono s.ex he, h1, h2, q _ (dB _) (Dp.bl _) k⟩
end
end My
end DL4_
section DL5_
set_option maxHeartbeats 1000000
namespace My
open PySem PySem.Spec PyProof.Rows L2 LamX
section
variable {K : PySem.W.Frag} {H : Hp}
mutual
theorem dp_plain : ∀ {d : PyData} {v : V}, Dp K H v d → d.plain = true
  | .none, _, .non => rfl
  | .bool _, _, .bl b => rfl
  | .int _, _, .int i => rfl
  | .str _, _, .str x => rfl
  | .list _, _, .lst s a => by rw [PyData.plain]; exact dp_plainAll a
  | .tuple _, _, .tup s a => by rw [PyData.plain]; exact dp_plainAll a
theorem dp_plainAll : ∀ {ds : List PyData} {vs : List V}, DpAll K H vs ds → PyData.plainAll ds = true
  | [], _, .nil => rfl
  | _ :: _, _, .cons h t => by rw [PyData.plainAll, dp_plain h, dp_plainAll t] <;> rfl
end
end
/-- shallow data -/
def Shal (d : PyData) : Prop := d.depth ≤ 16
def rEqX (K : PySem.W.Frag) (neg : Bool) : R2 := fun x y H Q => ∃ d e, Dp K H x d ∧ Dp K H y e ∧ (Shal d ∨ Shal e) ∧ Q (.bl (if neg then !PyData.eqv d e else PyData.eqv d e)) H
def rInX (K : PySem.W.Frag) (neg : Bool) : R2 := fun x y H Q => ∃ d ds, Dp K H x d ∧ (Dp K H y (.list ds) ∨ Dp K H y (.tuple ds)) ∧ Shal d ∧ Q (.bl (if neg then !ds.any (fun z => PyData.eqv z d) else ds.any fun z => PyData.eqv z d)) H
def rLtX (K : PySem.W.Frag) : R2 := fun x y H Q => ∃ d e, Dp K H x d ∧ Dp K H y e ∧ Shal d ∧ PySem.W.alike d e = true ∧ d ≠ .none ∧ Q (.bl (PySem.W.dataLt d e)) H
section
variable {X : Cx}
theorem op_eqX (hu : X.A.units + 64 < cLine) : OpR X (compareOp .Eq) (rEqX X.K false) := by
  intro pins s σ H x y v u Q I rx ry h
  obtain ⟨d, e, hd, he, sd, q⟩ := h
  obtain ⟨as, r1⟩ := Dp.reads I d x v hd rx
  obtain ⟨bs, r2⟩ := Dp.reads I e y u he ry
  exact SeqAt.eq_plain r1 r2 (dp_plain hd) (dp_plain he) (by unfold Shal at sd; omega) ⟨.bl _, H, I, rfl, q⟩
theorem op_neX (hu : X.A.units + 64 < cLine) : OpR X (compareOp .NotEq) (rEqX X.K true) := by
  intro pins s σ H x y v u Q I rx ry h
  obtain ⟨d, e, hd, he, sd, q⟩ := h
  obtain ⟨as, r1⟩ := Dp.reads I d x v hd rx
  obtain ⟨bs, r2⟩ := Dp.reads I e y u he ry
  exact SeqAt.ne_plain r1 r2 (dp_plain hd) (dp_plain he) (by unfold Shal at sd; omega) ⟨.bl _, H, I, rfl, q⟩
theorem op_inX (hu : X.A.units + 64 < cLine) : OpR X (compareOp .In) (rInX X.K false) := by
  intro pins s σ H x y v u Q I rx ry h
  obtain ⟨d, ds, hd, he, sd, q⟩ := h
  obtain ⟨as, r1⟩ := Dp.reads I d x v hd rx
  unfold Shal at sd
  rcases he with he | he
  · obtain ⟨bs, r2⟩ := Dp.reads I (.list ds) y u he ry
    exact SeqAt.in_list_data r2 r1 (by have z := dp_plain he; rw [PyData.plain] at z; exact z) (dp_plain hd) (by omega) ⟨.bl _, H, I, rfl, q⟩
  · obtain ⟨bs, r2⟩ := Dp.reads I (.tuple ds) y u he ry
    exact SeqAt.in_tuple_data r2 r1 (by have z := dp_plain he; rw [PyData.plain] at z; exact z) (dp_plain hd) (by omega) ⟨.bl _, H, I, rfl, q⟩
theorem op_notInX (hu : X.A.units + 64 < cLine) : OpR X (compareOp .NotIn) (rInX X.K true) := by
  intro pins s σ H x y v u Q I rx ry h
  obtain ⟨d, ds, hd, he, sd, q⟩ := h
  obtain ⟨as, r1⟩ := Dp.reads I d x v hd rx
  unfold Shal at sd
  rcases he with he | he
  · obtain ⟨bs, r2⟩ := Dp.reads I (.list ds) y u he ry
    exact SeqAt.notIn_list_data r2 r1 (by have z := dp_plain he; rw [PyData.plain] at z; exact z) (dp_plain hd) (by omega) ⟨.bl _, H, I, rfl, q⟩
  · obtain ⟨bs, r2⟩ := Dp.reads I (.tuple ds) y u he ry
    exact SeqAt.notIn_tuple_data r2 r1 (by have z := dp_plain he; rw [PyData.plain] at z; exact z) (dp_plain hd) (by omega) ⟨.bl _, H, I, rfl, q⟩
theorem op_ltX (hu : X.A.units + 64 < cLine) : OpR X (compareOp .Lt) (rLtX X.K) := by
  intro pins s σ H x y v u Q I rx ry h
  obtain ⟨d, e, hd, he, sd, al, nn, q⟩ := h
  obtain ⟨as, r1⟩ := Dp.reads I d x v hd rx
  obtain ⟨bs, r2⟩ := Dp.reads I e y u he ry
  exact PySem.W.lt_data r1 r2 al nn (by unfold Shal at sd; omega) ⟨.bl _, H, I, rfl, q⟩
/-- list + list -/
def rCatL (K : PySem.W.Frag) : R2 := fun x y H Q => ∃ a b xs ys, x = .ref a ∧ y = .ref b ∧ SqL K H a xs ∧ SqL K H b ys ∧ xs.length + ys.length ≤ sizeLine ∧ ∀ p, H p = none → Q (.ref p) (upd H p (.lst (xs ++ ys)))
theorem op_catL : OpR X (binaryOp .Add) (rCatL X.K) := by
  intro pins s σ H x y v u Q I rx ry h
  obtain ⟨a, b, xs, ys, rfl, rfl, ha, hb, hz, q⟩ := h
  cases rx
  cases ry
  obtain ⟨its, r, ⟨⟨cls, dd, data, sl⟩, n, ho, hc, _, hd⟩, _⟩ := I.list ha
  obtain ⟨its2, r2, ⟨⟨cls2, dd2, data2, sl2⟩, n2, ho2, hc2, _, hd2⟩, _⟩ := I.list hb
  simp only at hc hd hc2 hd2
  subst hc hd hc2 hd2
  have e1 := r.length
  have e2 := r2.length
  have e : its.toArray ++ its2.toArray = (its ++ its2).toArray := by simp
  refine concat_meets ⟨_, ho, rfl⟩ ⟨_, ho2, rfl⟩ noFill_list_add seq_list_add PySem.F.slot_list_add PySem.F.entry_list_add (PySem.F.args_list_add_2 _ _) (list_addW a b its.toArray its2.toArray n n2 dd dd2 sl sl2 (by simp only [List.size_toArray]; omega)) ⟨ho, ho2, ?_⟩
  rw [e]
  exact ⟨.ref _, _, I.lnew (t' := s.toks) (r.append r2) (by rw [List.length_append]; exact hz), rfl, q _ I.fresh⟩
/-- + of whole numbers, texts, tuples, lists -/
def rAddX (K : PySem.W.Frag) : R2 := fun x y H Q => rI0 (fun i j => .int (i + j)) x y H Q ∨ (∃ i j, x = .str i ∧ y = .str j ∧ i.length + j.length ≤ sizeLine ∧ Q (.str (i ++ j)) H) ∨ rCatA K x y H Q ∨ rCatL K x y H Q
theorem op_addX : OpR X (binaryOp .Add) (rAddX X.K) := OpR.or op_add (OpR.or op_add_str (OpR.or op_catA op_catL))
/-- the values by the order of their data -/
def sortV (xs : List V) (ds : List PyData) : List V := ((xs.zip ds).mergeSort (PySem.W.dataLe false fun b : V × PyData => b.2)).map (fun b => b.1)
/-- sorted(x), x a list or a tuple of alike data -/
def rSortX (K : PySem.W.Frag) : List V → Hp → L2.VK → Prop := fun vs H Q => ∃ (a : Addr) (xs : List V) (ds : List PyData), vs = [.ref a] ∧ (SqL K H a xs ∨ SqT K H a xs) ∧ DpAll K H xs ds ∧ PySem.W.AllAlike ds ∧ PySem.W.Sortable ds ∧ (∀ d ∈ ds, Shal d) ∧
  ∀ p, H p = none → Q (.ref p) (upd H p (.lst (sortV xs ds)))
theorem each_zip {K : PySem.W.Frag} {H : Hp} : ∀ {xs : List V} {us : List Value} {ds : List PyData}, Vals xs us → DpAll K H xs ds → PySem.W.EachIs (fun (u : Value) (b : V × PyData) => RelV b.1 u ∧ Dp K H b.1 b.2) us (xs.zip ds)
  | _, _, _, .nil, .nil => .nil
  | _, _, _, .cons r t, .cons d e => .cons ⟨r, d⟩ (each_zip t e)
theorem zip_snd {α β : Type} : ∀ {xs : List α} {ys : List β}, xs.length = ys.length → (xs.zip ys).map (·.2) = ys
  | [], [], _ => rfl
  | _ :: _, _ :: _, h => by
    rw [List.zip_cons_cons, List.map_cons, zip_snd (by simpa using h)]
  | [], _ :: _, h => by simp at h
  | _ :: _, [], h => by simp at h
theorem each_out {K : PySem.W.Frag} {H : Hp} : ∀ {us : List Value} {bs : List (V × PyData)}, PySem.W.EachIs (fun (u : Value) (b : V × PyData) => RelV b.1 u ∧ Dp K H b.1 b.2) us bs → Vals (bs.map (·.1)) us ∧ DpAll K H (bs.map (·.1)) (bs.map (·.2))
  | _, _, .nil => ⟨.nil, .nil⟩
  | _, _, .cons h t => ⟨.cons h.1 (each_out t).1, .cons h.2 (each_out t).2⟩
/-- sorting pairs by their data sorts the data -/
theorem sort_snd {xs : List V} {ds : List PyData} (h : xs.length = ds.length) : ((xs.zip ds).mergeSort (PySem.W.dataLe false fun b : V × PyData => b.2)).map (fun b => b.2) = ds.mergeSort (PySem.W.dataLe false id) := by
  have z := PySem.W.sort_maps (r := PySem.W.dataLe false fun b : V × PyData => b.2) (s := PySem.W.dataLe false id) (fun b : V × PyData => b.2) (l := xs.zip ds) (fun a _ b _ => rfl)
  rw [zip_snd h] at z
  exact z
theorem dp_zip {K : PySem.W.Frag} {B : Hp} : ∀ {xs : List V} {ds : List PyData}, DpAll K B xs ds → ∀ p ∈ xs.zip ds, Dp K B p.1 p.2
  | _, _, .nil, p, hp => by simp at hp
  | _, _, .cons h t, p, hp => by
    rw [List.zip_cons_cons] at hp
    rcases List.mem_cons.mp hp with e | hp
    · rw [e]; exact h
    · exact dp_zip t p hp
theorem dp_unzip {K : PySem.W.Frag} {B : Hp} : ∀ {l : List (V × PyData)}, (∀ p ∈ l, Dp K B p.1 p.2) → DpAll K B (l.map (·.1)) (l.map (·.2))
  | [], _ => .nil
  | p :: l, h => .cons (h p (by simp)) (dp_unzip fun q hq => h q (by simp [hq]))
theorem sort_dp {K : PySem.W.Frag} {B : Hp} {xs : List V} {ds : List PyData} (h : DpAll K B xs ds) : DpAll K B (sortV xs ds) (ds.mergeSort (PySem.W.dataLe false id)) := by
  rw [← sort_snd (My.DpAll.length h)]
  exact dp_unzip fun p hp => dp_zip h p ((List.mergeSort_perm _ _).mem_iff.mp hp)
theorem Inv.seq_src {pins : List (Addr × Obj)} {σ : List (Option V)} {H : Hp} {s : Shared} (I : Inv X pins σ H s) {a : Addr} {xs : List V} (h : SqL X.K H a xs ∨ SqT X.K H a xs) :
    ∃ (T : String) (o : Obj) (its : List Value) (n : Nat), (T = "list" ∨ T = "tuple") ∧ s.heap.get? a = some o ∧ o.cls = .type T ∧ o.data = .seq its.toArray n ∧ Vals xs its ∧ xs.length ≤ sizeLine := by
  rcases h with h | h
  · obtain ⟨its, r, ⟨o, n, ho, hc, _, hd⟩, hz⟩ := I.list h
    exact ⟨"list", o, its, n, .inl rfl, ho, hc, hd, r, hz⟩
  · obtain ⟨its, r, ⟨o, ho, hc, n, hd⟩, hz⟩ := I.tuple h
    exact ⟨"tuple", o, its, n, .inr rfl, ho, hc, hd, r, hz⟩
/-- the sort of the collected values, behind the collecting -/
theorem sort_tail {pins : List (Addr × Obj)} {σ : List (Option V)} {H : Hp} {s : Shared} (I : Inv X pins σ H s) {xs : List V} {its : List Value} {ds : List PyData} {Q : L2.VK} {E : Value → Shared → Prop} (hu : X.A.units + 64 < cLine) (r : Vals xs its) (hz : xs.length ≤ sizeLine) (da : DpAll X.K H xs ds)
    (al : PySem.W.AllAlike ds) (so : PySem.W.Sortable ds) (sh : ∀ d ∈ ds, Shal d) (q : ∀ p, H p = none → Q (.ref p) (upd H p (.lst (sortV xs ds)))) :
    wpAny (model X.prog X.w) X.A.in1 (newList its >>= fun l => do let _ ← holding [l] (call (.builtin "list.sort") [l]); pure (PySem.Fin.done (.ret l))) (fun f s' => ∃ v, f = .done (.ret v) ∧ EP X pins σ Q v s') E s := by
  have hl := r.length
  have hlz := My.DpAll.length da
  refine wpAny_bind (wpAny_newList ?_ (by omega))
  have I2 := I.lnew (t' := s.toks) r hz
  have hp : H s.heap.objs.size = none := I.fresh
  have da2 : DpAll X.K (upd H s.heap.objs.size (.lst xs)) xs ds := DpAll.mono (Ex.new hp) da
  have rd : PySem.W.EachIs (fun (v : Value) (b : V × PyData) => ∃ as, Reads (s.heap.push { cls := .type "list", data := .seq its.toArray }) v b.2 as ∧ s.heap.objs.size ∉ as) its (xs.zip ds) := (each_zip r da).mono fun v b hb => by
    obtain ⟨as, q1⟩ := Dp.reads I b.2 b.1 v hb.2 hb.1
    refine ⟨as, PyProof.Rows.Reads.keeps (fun _ _ e => Heap.get?_push_of_some _ e) q1, fun z => ?_⟩
    obtain ⟨o, e⟩ := PyProof.On.reads_mem_get q1 _ z
    exact absurd (Heap.lt_size e) (Nat.lt_irrefl _)
  have ez : (xs.zip ds).map (fun b : V × PyData => b.2) = ds := zip_snd hlz
  have es : ((xs.zip ds).mergeSort (PySem.W.dataLe false fun b : V × PyData => b.2)).map (fun b => b.2) = ds.mergeSort (PySem.W.dataLe false id) := by
    have z := PySem.W.sort_maps (r := PySem.W.dataLe false fun b : V × PyData => b.2) (s := PySem.W.dataLe false id) (fun b : V × PyData => b.2) (l := xs.zip ds) (fun a _ b _ => rfl)
    rw [ez] at z
    exact z
  have ln : (xs.zip ds).length = its.length := by rw [List.length_zip]; omega
  refine wpAny_bind (wpAny_holding (PySem.W.list_sort_data (enc := fun b : V × PyData => b.2) (R := fun (u : Value) (b : V × PyData) => RelV b.1 u ∧ Dp X.K H b.1 b.2) (Heap.get?_push_size _ rfl) (each_zip r da) rd (by rw [ez]; exact al) (by rw [ez]; exact so) (by rw [ln]; omega) (fun b hb => ?_) fun out ho eo => ?_))
  · have hm : b.2 ∈ ds := by
      rw [← ez]
      exact List.mem_map_of_mem hb
    have q1 := sh b.2 hm
    unfold Shal at q1
    show X.A.units + 1 + 1 + b.2.depth < cLine
    omega
  · obtain ⟨o1, o2⟩ := each_out eo
    rw [es] at o2
    obtain ⟨e', he'⟩ := PyProof.Rows.sortedHeap_at (vs := its) (out := out.toArray) (show (s.heap.push { cls := .type "list", data := .seq its.toArray }).get? s.heap.objs.size = some (seqObj "list" its.toArray 0) from Heap.get?_push_size _ rfl)
    have hl2 : (((xs.zip ds).mergeSort (PySem.W.dataLe false fun b : V × PyData => b.2)).map (fun b => b.1)).length ≤ sizeLine := by
      rw [List.length_map, List.length_mergeSort, ln]
      omega
    refine wpAny_pure ⟨_, rfl, .ref s.heap.objs.size, upd H s.heap.objs.size (.lst (sortV xs ds)), I.laid (t' := s.toks) (fun b u e => ?_) (Nat.le_refl _) ⟨hl2, out, e', o1, he'⟩, rfl, q _ hp⟩
    have hb : b < s.heap.objs.size := Heap.lt_size e
    rw [PyProof.Rows.sortedHeap_old (Nat.ne_of_lt hb) (by rw [size_push']; exact Nat.lt_succ_of_lt hb)]
    exact Heap.get?_push_of_some _ e
theorem cr_sortX (hu : X.A.units + 64 < cLine) : CallR X (.builtin "sorted") (rSortX X.K) := by
  intro pins s σ H xs us Q I r q
  obtain ⟨a, xs, ds, rfl, hq, da, al, so, sh, q⟩ := q
  obtain ⟨u, rfl, rx⟩ := vals1 r
  cases rx
  obtain ⟨T, o, its, n, hT, ho, hc, hd, rv, hz⟩ := Inv.seq_src I hq
  have e1 := rv.length
  refine Calls.call_function_entry PyProof.Rows.kind_sorted PyProof.Rows.plain_sorted PyProof.Rows.entry_sorted (PyProof.Rows.args_sorted1 _) ?_
  unfold Builtin.«sorted»
  refine wpAny_bind (m := checkCount "sorted" 1 1 _) (wpAny_pure ?_)
  refine wpAny_bind (wpAny_collect_seq a hT ho hc hd (fun h' hk => ?_) (by simp only [List.size_toArray]; omega))
  have I1 : L2.Inv X pins σ H { s with heap := h' } := I.kept (t' := s.toks) hk
  exact sort_tail I1 hu rv hz da al so sh q
end
end My
end DL5_
section DL6_
set_option maxHeartbeats 1000000
namespace My
open PySem PySem.Spec PyProof.Rows L2 LamX

def LH (c : Ctx) (B H : Hp) (v : V) (ds : List PyData) : Prop := ∃ a ws, v = .ref a ∧ SqL c.K H a ws ∧ DpAll c.K B ws ds
def RO1 (c : Ctx) (r : R2) (ds : List PyData) (y : Dat) (P : Dat → Prop) : Prop :=
  ∀ (B H : Hp) (v w : V), Cur c B H → LH c B H v ds → DatOk c.K B w y → ∀ Q : L2.VK, (∀ u B1 H1 z, Step c B H B1 H1 → DatOk c.K B1 u z → P z → Q u H1) → r v w H Q
def RO2 (c : Ctx) (r : R2) (x : Dat) (ds : List PyData) (P : Dat → Prop) : Prop :=
  ∀ (B H : Hp) (v w : V), Cur c B H → DatOk c.K B v x → LH c B H w ds → ∀ Q : L2.VK, (∀ u B1 H1 z, Step c B H B1 H1 → DatOk c.K B1 u z → P z → Q u H1) → r v w H Q
def RL1 (c : Ctx) (r : List V → Hp → L2.VK → Prop) (ds : List PyData) (P : Dat → Prop) : Prop :=
  ∀ (B H : Hp) (v : V), Cur c B H → LH c B H v ds → ∀ Q : L2.VK, (∀ u B1 H1 z, Step c B H B1 H1 → DatOk c.K B1 u z → P z → Q u H1) → r [v] H Q
def RU1 (c : Ctx) (r : V → Hp → L2.VK → Prop) (ds : List PyData) (P : Dat → Prop) : Prop :=
  ∀ (B H : Hp) (v : V), Cur c B H → LH c B H v ds → ∀ Q : L2.VK, (∀ u B1 H1 z, Step c B H B1 H1 → DatOk c.K B1 u z → P z → Q u H1) → r v H Q
section
variable {c : Ctx} {Γ : Env'} {ta tb : TE} {P : Dat → Env' → Prop}
theorem lh_of {B H : Hp} {v : V} {ds : List PyData} (s : Sub B H) (d : DatOk c.K B v (dL ds)) : LH c B H v ds := by
  cases d with
  | lst h a => exact ⟨_, _, rfl, sqL_mono s.ex h, a⟩
theorem RO1.ro {r : R2} {ds : List PyData} {y : Dat} {P : Dat → Prop} (h : RO1 c r ds y P) : RO c r (dL ds) y P := fun B H v w C d e Q q => h B H v w C (lh_of C.sub d) e Q q
theorem RO2.ro {r : R2} {ds : List PyData} {x : Dat} {P : Dat → Prop} (h : RO2 c r x ds P) : RO c r x (dL ds) P := fun B H v w C d e Q q => h B H v w C d (lh_of C.sub e) Q q
theorem RL1.rl {r : List V → Hp → L2.VK → Prop} {ds : List PyData} {P : Dat → Prop} (h : RL1 c r ds P) : RL c r [dL ds] P := fun B H vs C d Q q => by
  cases d with
  | cons d t =>
    cases t
    exact h B H _ C (lh_of C.sub d) Q q
theorem RU1.ru {r : V → Hp → L2.VK → Prop} {ds : List PyData} {P : Dat → Prop} (h : RU1 c r ds P) : RU' c r (dL ds) P := fun B H v C d Q q => h B H v C (lh_of C.sub d) Q q
theorem env_lh {B H : Hp} {σ : List (Option V)} (E : EnvOk c B H σ Γ) {i : Nat} {ds : List PyData} (h : Γ[i]? = some (.oL ds)) : ∃ v, σ[i]? = some (some v) ∧ LH c B H v ds := by
  obtain ⟨a, ws, h1, h2, _, _, h3⟩ := env_oL E h
  exact ⟨_, h1, a, ws, rfl, SqL.of h2, h3⟩
theorem rl_oL {Γ1 : Env'} (rl : Rl Γ Γ1) {i : Nat} {ds : List PyData} (h : Γ[i]? = some (.oL ds)) : Γ1[i]? = some (.oL ds) := by
  rcases rl.at_ i with e | ⟨k, k', e, _⟩
  · rw [e]; exact h
  · rw [h] at e; cases e
theorem ee_opO1 {r : R2} {i : Nat} {ds : List PyData} (hi : Γ[i]? = some (.oL ds)) (h : EE c tb Γ fun y Γ1 => RO1 c r ds y fun z => P z Γ1) : EE c (tOp r (tVar i) tb) Γ P := fun σ B H C E Q q => by
  obtain ⟨v, hv, _⟩ := env_lh E hi
  refine ⟨v, hv, h σ B H C E _ fun w B1 H1 y Γ1 s1 d1 h1 => ?_⟩
  obtain ⟨v', hv', l⟩ := env_lh s1.env (rl_oL s1.rl hi)
  rw [hv] at hv'
  cases hv'
  exact h1 B1 H1 v w s1.cur l d1 Q fun u B2 H2 z s d p => q u B2 H2 z Γ1 (s1.step s) d p
theorem ee_opO2 {r : R2} {i : Nat} {ds : List PyData} (hi : Γ[i]? = some (.oL ds)) (h : EE c ta Γ fun x Γ1 => RO2 c r x ds fun z => P z Γ1) : EE c (tOp r ta (tVar i)) Γ P := fun σ B H C E Q q =>
  h σ B H C E _ fun v B1 H1 x Γ1 s1 d1 h1 => by
    obtain ⟨w, hw, l⟩ := env_lh s1.env (rl_oL s1.rl hi)
    exact ⟨w, hw, h1 B1 H1 v w s1.cur d1 l Q fun u B2 H2 z s d p => q u B2 H2 z Γ1 (s1.step s) d p⟩
theorem ee_CBO {r : List V → Hp → L2.VK → Prop} {i : Nat} {ds : List PyData} (hi : Γ[i]? = some (.oL ds)) (h : RL1 c r ds fun z => P z Γ) : EE c (tCB r (tCons (tVar i) tNil)) Γ P := fun σ B H C E Q q => by
  obtain ⟨v, hv, l⟩ := env_lh E hi
  exact ⟨v, hv, h B H v C l Q fun u B1 H1 z s d p => q u B1 H1 z Γ ((St1.refl C E).step s) d p⟩
theorem ee_slO {r : V → Option Int → Option Int → Hp → L2.VK → Prop} {i : Nat} {tl th : TO} {ds : List PyData} (hi : Γ[i]? = some (.oL ds))
    (h : EO c tl Γ fun lo Γ2 => EO c th Γ2 fun hi Γ3 => RU1 c (fun v => r v lo hi) ds fun z => P z Γ3) : EE c (tSl r (tVar i) tl th) Γ P := fun σ B H C E Q q => by
  obtain ⟨v, hv, l⟩ := env_lh E hi
  refine ⟨v, hv, h σ B H C E _ fun lo B2 H2 Γ2 s2 h2 => h2 σ B2 H2 s2.cur s2.env _ fun hi' B3 H3 Γ3 s3 h3 => ?_⟩
  obtain ⟨v', hv', l'⟩ := env_lh s3.env (rl_oL s3.rl (rl_oL s2.rl hi))
  rw [hv] at hv'
  cases hv'
  exact h3 B3 H3 v s3.cur l' Q fun u B4 H4 z s d p => q u B4 H4 z Γ3 ((s2.trans s3).step s) d p
end
/-- == of what f makes is equality -/
def EqE {α : Type} [DecidableEq α] (f : α → PyData) : Prop := ∀ x y, PyData.eqv (f x) (f y) = decide (x = y)
theorem eqe_str : EqE PyData.str := fun x y => by rw [PyData.eqv]; by_cases e : x = y <;> simp [e]
theorem eqe_int : EqE PyData.int := fun x y => by rw [PyData.eqv]; by_cases e : x = y <;> simp [e]
theorem eqvAll_map {α : Type} [DecidableEq α] {f : α → PyData} (h : EqE f) : ∀ xs ys : List α, PyData.eqvAll (xs.map f) (ys.map f) = decide (xs = ys)
  | [], [] => rfl
  | [], y :: ys => rfl
  | x :: xs, [] => rfl
  | x :: xs, y :: ys => by
    rw [List.map_cons, List.map_cons, PyData.eqvAll, h, eqvAll_map h xs ys]
    by_cases e1 : x = y <;> by_cases e2 : xs = ys <;> simp [e1, e2]
/-- a tuple of such, a list of such -/
abbrev tE {α : Type} (f : α → PyData) (l : List α) : PyData := .tuple (l.map f)
abbrev lE {α : Type} (f : α → PyData) (l : List α) : PyData := .list (l.map f)
abbrev pE {α β : Type} (f : α → PyData) (g : β → PyData) (x : α × β) : PyData := .tuple [f x.1, g x.2]
def oE {α : Type} (f : α → PyData) : Option α → PyData
  | none => .none
  | some x => f x
theorem eqe_tE {α : Type} [DecidableEq α] {f : α → PyData} (h : EqE f) : EqE (tE f) := fun x y => by show PyData.eqv (.tuple _) (.tuple _) = _; rw [PyData.eqv, eqvAll_map h]
theorem eqe_lE {α : Type} [DecidableEq α] {f : α → PyData} (h : EqE f) : EqE (lE f) := fun x y => by show PyData.eqv (.list _) (.list _) = _; rw [PyData.eqv, eqvAll_map h]
theorem eqe_pE {α β : Type} [DecidableEq α] [DecidableEq β] {f : α → PyData} {g : β → PyData} (h : EqE f) (k : EqE g) : EqE (pE f g) := fun x y => by
  show PyData.eqv (.tuple _) (.tuple _) = _
  rw [PyData.eqv, PyData.eqvAll, PyData.eqvAll, PyData.eqvAll, h, k]
  obtain ⟨a, b⟩ := x
  obtain ⟨a', b'⟩ := y
  by_cases e1 : a = a' <;> by_cases e2 : b = b' <;> simp [e1, e2]
theorem any_eqE {α : Type} [DecidableEq α] {f : α → PyData} (h : EqE f) (x : α) (l : List α) : (l.map f).any (fun z => PyData.eqv z (f x)) = decide (x ∈ l) := by
  induction l with
  | nil => rfl
  | cons y l ih =>
    rw [List.map_cons, List.any_cons, ih, h]
    by_cases e : y = x
    · subst e; simp
    · have e' : ¬ x = y := fun z => e z.symm
      by_cases e2 : x ∈ l <;> simp [e, e', e2]
theorem shal_atom {d : PyData} (h : d.depth ≤ 16) : Shal d := h
theorem depthAll_map {α : Type} {f : α → PyData} {n : Nat} (h : ∀ x, (f x).depth ≤ n) : ∀ l : List α, PyData.depthAll (l.map f) ≤ n
  | [] => by rw [List.map_nil, PyData.depthAll]; omega
  | x :: l => by
    rw [List.map_cons, PyData.depthAll]
    exact Nat.max_le.mpr ⟨h x, depthAll_map h l⟩
theorem dep_tE {α : Type} {f : α → PyData} {n : Nat} (h : ∀ x, (f x).depth ≤ n) (l : List α) : (tE f l).depth ≤ n + 1 := by
  show PyData.depth (.tuple _) ≤ _
  rw [PyData.depth]
  have := depthAll_map h l
  omega
theorem dep_lE {α : Type} {f : α → PyData} {n : Nat} (h : ∀ x, (f x).depth ≤ n) (l : List α) : (lE f l).depth ≤ n + 1 := by
  show PyData.depth (.list _) ≤ _
  rw [PyData.depth]
  have := depthAll_map h l
  omega
theorem dep_pE {α β : Type} {f : α → PyData} {g : β → PyData} {n : Nat} (h : ∀ x, (f x).depth ≤ n) (k : ∀ x, (g x).depth ≤ n) (p : α × β) : (pE f g p).depth ≤ n + 1 := by
  show PyData.depth (.tuple _) ≤ _
  rw [PyData.depth, PyData.depthAll, PyData.depthAll, PyData.depthAll]
  have := h p.1
  have := k p.2
  omega
end My
end DL6_
section DL7_
set_option maxHeartbeats 1000000
namespace My
open PySem PySem.Spec PyProof.Rows L2 LamX
section
variable {c : Ctx} {P : Dat → Prop}
theorem rl_lenL {ds : List PyData} (k : P (dI ds.length)) : RL1 c (rLen c.K) ds P := fun B H v C ⟨a, ws, e, h, da⟩ Q q => by
  subst e
  refine ⟨_, ws.length, rfl, Or.inl ⟨ws, h, rfl⟩, q _ B H (dI ds.length) (Step.refl C) ?_ k⟩
  rw [My.DpAll.length da]; exact Dp.int _
theorem rl_lenT {ds : List PyData} (k : P (dI ds.length)) : RL c (rLen c.K) [dT ds] P := fun B H vs C d Q q => by
  cases d with
  | cons d t =>
    cases t
    cases d with
    | tup h da =>
      refine ⟨_, _, rfl, Or.inr ⟨_, sqT_mono C.sub.ex h, rfl⟩, q _ B H (dI ds.length) (Step.refl C) ?_ k⟩
      rw [My.DpAll.length da]; exact Dp.int _
theorem rl_lenS {s : Str} (hs : s.length ≤ 1000000) (k : P (dI s.length)) : RL c (rLen c.K) [dS s] P := fun B H vs C d Q q => by
  cases d with
  | cons d t =>
    cases t
    cases d
    exact ⟨_, _, rfl, ⟨len_lit hs, rfl⟩, q _ B H (dI s.length) (Step.refl C) (Dp.int _) k⟩
theorem lh_dp {B H : Hp} {v : V} {ds : List PyData} (s : Sub B H) (h : LH c B H v ds) : Dp c.K H v (.list ds) := by
  obtain ⟨a, ws, rfl, h, da⟩ := h
  exact .lst h (DpAll.mono s.ex da)
theorem ro_eqd {neg : Bool} {d e : PyData} (h : Shal d ∨ Shal e) (k : P (dB (if neg then !PyData.eqv d e else PyData.eqv d e))) : RO c (rEqX c.K neg) (.val d) (.val e) P := ro_flat fun B H v w s hd he Q q =>
  ⟨d, e, Dp.mono s.ex hd, Dp.mono s.ex he, h, q _ (dB _) (Dp.bl _) k⟩
theorem ro1_eqd {neg : Bool} {ds : List PyData} {e : PyData} (h : Shal (.list ds) ∨ Shal e) (k : P (dB (if neg then !PyData.eqv (.list ds) e else PyData.eqv (.list ds) e))) : RO1 c (rEqX c.K neg) ds (.val e) P := fun B H v w C l d Q q =>
  ⟨.list ds, e, lh_dp C.sub l, Dp.mono C.sub.ex d, h, q _ B H (dB _) (Step.refl C) (Dp.bl _) k⟩
theorem ro_eqE {α : Type} [DecidableEq α] {f : α → PyData} (hf : EqE f) {x y : α} (h : Shal (f x)) (k : P (dB (decide (x = y)))) : RO c (rEqX c.K false) (.val (f x)) (.val (f y)) P := ro_eqd (.inl h) (by rw [hf]; exact k)
theorem ro_neE {α : Type} [DecidableEq α] {f : α → PyData} (hf : EqE f) {x y : α} (h : Shal (f x)) (k : P (dB (!decide (x = y)))) : RO c (rEqX c.K true) (.val (f x)) (.val (f y)) P := ro_eqd (.inl h) (by rw [hf]; exact k)
theorem ro_eqS {x y : Str} (k : P (dB (decide (x = y)))) : RO c (rEqX c.K false) (dS x) (dS y) P := ro_eqE (f := PyData.str) eqe_str (by show Shal (.str x); unfold Shal; rw [PyData.depth]; omega) k
theorem ro_neS {x y : Str} (k : P (dB (!decide (x = y)))) : RO c (rEqX c.K true) (dS x) (dS y) P := ro_neE (f := PyData.str) eqe_str (by show Shal (.str x); unfold Shal; rw [PyData.depth]; omega) k
theorem ro_eqI {x y : Int} (k : P (dB (decide (x = y)))) : RO c (rEqX c.K false) (dI x) (dI y) P := ro_eqE (f := PyData.int) eqe_int (by show Shal (.int x); unfold Shal; rw [PyData.depth]; omega) k
theorem ro_neI {x y : Int} (k : P (dB (!decide (x = y)))) : RO c (rEqX c.K true) (dI x) (dI y) P := ro_neE (f := PyData.int) eqe_int (by show Shal (.int x); unfold Shal; rw [PyData.depth]; omega) k
/-- xs == [], xs != [] -/
theorem eqv_nil (ds : List PyData) : PyData.eqv (.list ds) (.list []) = ds.isEmpty := by
  rw [PyData.eqv]
  cases ds <;> rfl
theorem shal_nil : Shal (.list []) := by unfold Shal; rw [PyData.depth, PyData.depthAll]; omega
theorem ro1_neNil {ds : List PyData} (k : P (dB (!ds.isEmpty))) : RO1 c (rEqX c.K true) ds (dL []) P := ro1_eqd (.inr shal_nil) (by rw [if_pos rfl, eqv_nil]; exact k)
theorem ro1_eqNil {ds : List PyData} (k : P (dB ds.isEmpty)) : RO1 c (rEqX c.K false) ds (dL []) P := ro1_eqd (.inr shal_nil) (by rw [if_neg (by decide), eqv_nil]; exact k)
theorem ro2_in {neg : Bool} {d : PyData} {ds : List PyData} (h : Shal d) (k : P (dB (if neg then !ds.any (fun z => PyData.eqv z d) else ds.any fun z => PyData.eqv z d))) : RO2 c (rInX c.K neg) (.val d) ds P := fun B H v w C hd l Q q =>
  ⟨d, ds, Dp.mono C.sub.ex hd, .inl (lh_dp C.sub l), h, q _ B H (dB _) (Step.refl C) (Dp.bl _) k⟩
theorem ro_inT {neg : Bool} {d : PyData} {ds : List PyData} (h : Shal d) (k : P (dB (if neg then !ds.any (fun z => PyData.eqv z d) else ds.any fun z => PyData.eqv z d))) : RO c (rInX c.K neg) (.val d) (dT ds) P := ro_flat fun B H v w s hd he Q q =>
  ⟨d, ds, Dp.mono s.ex hd, .inr (Dp.mono s.ex he), h, q _ (dB _) (Dp.bl _) k⟩
theorem ro2_inE {α : Type} [DecidableEq α] {f : α → PyData} (hf : EqE f) {x : α} {l : List α} (h : Shal (f x)) (k : P (dB (decide (x ∈ l)))) : RO2 c (rInX c.K false) (.val (f x)) (l.map f) P := ro2_in h (by rw [if_neg (by decide), any_eqE hf]; exact k)
theorem ro2_ninE {α : Type} [DecidableEq α] {f : α → PyData} (hf : EqE f) {x : α} {l : List α} (h : Shal (f x)) (k : P (dB (!decide (x ∈ l)))) : RO2 c (rInX c.K true) (.val (f x)) (l.map f) P := ro2_in h (by rw [if_pos rfl, any_eqE hf]; exact k)
theorem ro_inE {α : Type} [DecidableEq α] {f : α → PyData} (hf : EqE f) {x : α} {l : List α} (h : Shal (f x)) (k : P (dB (decide (x ∈ l)))) : RO c (rInX c.K false) (.val (f x)) (.val (tE f l)) P := ro_inT h (by rw [if_neg (by decide), any_eqE hf]; exact k)
theorem ro_ninE {α : Type} [DecidableEq α] {f : α → PyData} (hf : EqE f) {x : α} {l : List α} (h : Shal (f x)) (k : P (dB (!decide (x ∈ l)))) : RO c (rInX c.K true) (.val (f x)) (.val (tE f l)) P := ro_inT h (by rw [if_pos rfl, any_eqE hf]; exact k)
theorem shal_str (x : Str) : Shal (.str x) := by unfold Shal; rw [PyData.depth]; omega
theorem ro_ltX {d e : PyData} (h : Shal d) (al : PySem.W.alike d e = true) (nn : d ≠ .none) (k : P (dB (PySem.W.dataLt d e))) : RO c (rLtX c.K) (.val d) (.val e) P := ro_flat fun B H v w s hd he Q q =>
  ⟨d, e, Dp.mono s.ex hd, Dp.mono s.ex he, h, al, nn, q _ (dB _) (Dp.bl _) k⟩
theorem ro_addI {i j : Int} (k : P (dI (i + j))) : RO c (rAddX c.K) (dI i) (dI j) P := fun B H v w C d e Q q => .inl (ro_add k B H v w C d e Q q)
theorem ro_addT {x y : Str} (hl : x.length + y.length ≤ 1000000) (k : P (dS (x ++ y))) : RO c (rAddX c.K) (dS x) (dS y) P := fun B H v w C d e Q q => .inr (.inl (ro_addS hl k B H v w C d e Q q))
theorem ro_catT {xs ys : List PyData} (hl : xs.length + ys.length ≤ 1000000) (k : P (dT (xs ++ ys))) : RO c (rAddX c.K) (dT xs) (dT ys) P := fun B H v w C d e Q q => by
  cases d with
  | @tup _ w1 _ h1 a1 => cases e with
    | @tup _ w2 _ h2 a2 =>
      refine .inr (.inr (.inl ⟨_, _, _, _, rfl, rfl, sqT_mono C.sub.ex h1, sqT_mono C.sub.ex h2, len_lit (by rw [My.DpAll.length a1, My.DpAll.length a2]; exact hl), fun z => ?_, fun z1 z2 => ?_, fun z1 z2 p hp => ?_⟩))
      · subst z
        cases a1
        exact q _ B H (dT ys) (Step.refl C) (Dp.tup h2 a2) k
      · subst z2
        cases a2
        rw [List.append_nil] at k
        exact q _ B H (dT xs) (Step.refl C) (Dp.tup h1 a1) k
      · have s := step_new (o := .tup (w1 ++ w2)) C hp
        exact q _ _ _ (dT (xs ++ ys)) s (Dp.tup (SqT.of upd_same) (DpAll.append (DpAll.mono s.b a1) (DpAll.mono s.b a2))) k
theorem ro1_catL {xs ys : List PyData} (hl : xs.length + ys.length ≤ 1000000) (k : P (dL (xs ++ ys))) : RO1 c (rAddX c.K) xs (dL ys) P := fun B H v w C l e Q q => by
  obtain ⟨a, ws, rfl, h1, a1⟩ := l
  cases e with
  | @lst _ w2 _ h2 a2 =>
    refine .inr (.inr (.inr ⟨_, _, _, _, rfl, rfl, h1, sqL_mono C.sub.ex h2, len_lit (by rw [My.DpAll.length a1, My.DpAll.length a2]; exact hl), fun p hp => ?_⟩))
    have s := step_new (o := .lst (ws ++ w2)) C hp
    exact q _ _ _ (dL (xs ++ ys)) s (Dp.lst (SqL.of upd_same) (DpAll.append (DpAll.mono s.b a1) (DpAll.mono s.b a2))) k
theorem ro_catL {xs ys : List PyData} (hl : xs.length + ys.length ≤ 1000000) (k : P (dL (xs ++ ys))) : RO c (rAddX c.K) (dL xs) (dL ys) P := (ro1_catL hl k).ro
theorem atI_dp {B : Hp} {ws : List V} {ds : List PyData} (a : DpAll c.K B ws ds) {i : Int} {d : PyData} (h : atI ds i = some d) : ∃ v, atI ws i = some v ∧ Dp c.K B v d := by
  unfold atI at h ⊢
  rw [My.DpAll.length a]
  cases e : ixN ds.length i with
  | none => rw [e] at h; cases h
  | some j =>
    rw [e] at h
    exact DpAll.get' a h
theorem ro1_ix {ds : List PyData} {i : Int} {d : PyData} (h : atI ds i = some d) (k : P (.val d)) : RO1 c (rIx c.K) ds (dI i) P := fun B H v w C l e Q q => by
  obtain ⟨a, ws, rfl, h1, a1⟩ := l
  cases e
  obtain ⟨u, hu, du⟩ := atI_dp a1 h
  exact .inl ⟨a, ws, i, u, rfl, rfl, h1, hu, q u B H (.val d) (Step.refl C) du k⟩
theorem ro_ixL {ds : List PyData} {i : Int} {d : PyData} (h : atI ds i = some d) (k : P (.val d)) : RO c (rIx c.K) (dL ds) (dI i) P := (ro1_ix h k).ro
theorem ro_ixT {ds : List PyData} {i : Int} {d : PyData} (h : atI ds i = some d) (k : P (.val d)) : RO c (rIx c.K) (dT ds) (dI i) P := fun B H v w C l e Q q => by
  cases l with
  | tup h1 a1 =>
    cases e
    obtain ⟨u, hu, du⟩ := atI_dp a1 h
    exact .inr (.inl ⟨_, _, i, u, rfl, rfl, sqT_mono C.sub.ex h1, hu, q u B H (.val d) (Step.refl C) du k⟩)
theorem ro_ixS {s : Str} {i : Int} {ch : Nat} (hs : s.length ≤ 1000000) (h : atI s.cps.toList i = some ch) (k : P (dS ⟨#[ch]⟩)) : RO c (rIx c.K) (dS s) (dI i) P := fun B H v w C l e Q q => by
  cases l
  cases e
  exact .inr (.inr ⟨s, i, ch, rfl, rfl, len_lit hs, h, q _ B H (dS ⟨#[ch]⟩) (Step.refl C) (Dp.str _) k⟩)
def cutD {α : Type} (xs : List α) (lo hi : Option Int) : List α := (xs.drop (HT.sIx xs.length 0 lo)).take (HT.sIx xs.length xs.length hi - HT.sIx xs.length 0 lo)
theorem cut_dp {B : Hp} {ws : List V} {ds : List PyData} (a : DpAll c.K B ws ds) (lo hi : Option Int) : DpAll c.K B (cutV ws lo hi) (cutD ds lo hi) := by
  unfold cutV cutD
  rw [My.DpAll.length a]
  exact DpAll.take _ (DpAll.drop _ a)
theorem ru1_sl {ds : List PyData} {lo hi : Option Int} (k : P (dL (cutD ds lo hi))) : RU1 c (fun v => rSlL c.K v lo hi) ds P := fun B H v C l Q q => by
  obtain ⟨a, ws, rfl, h1, a1⟩ := l
  refine ⟨a, ws, rfl, h1, fun p hp => ?_⟩
  have s := step_new (o := .lst (cutV ws lo hi)) C hp
  exact q _ _ _ (dL (cutD ds lo hi)) s (Dp.lst (SqL.of upd_same) (cut_dp (DpAll.mono s.b a1) lo hi)) k
theorem ru_slT {ds : List PyData} {lo hi : Option Int} (hw : ¬ (HT.sIx ds.length 0 lo = 0 ∧ HT.sIx ds.length ds.length hi = ds.length)) (k : P (dT (cutD ds lo hi))) : RU' c (fun v => rSlT c.K v lo hi) (dT ds) P := fun B H v C l Q q => by
  cases l with
  | @tup _ ws _ h1 a1 =>
    refine ⟨_, _, rfl, sqT_mono C.sub.ex h1, by rw [My.DpAll.length a1]; exact hw, fun p hp => ?_⟩
    have s := step_new (o := .tup (cutV ws lo hi)) C hp
    exact q _ _ _ (dT (cutD ds lo hi)) s (Dp.tup (SqT.of upd_same) (cut_dp (DpAll.mono s.b a1) lo hi)) k
theorem cutD_map {α β : Type} (f : α → β) (xs : List α) (lo hi : Option Int) : cutD (xs.map f) lo hi = (cutD xs lo hi).map f := by
  unfold cutD
  rw [List.length_map, ← List.map_drop, ← List.map_take]
theorem cutD_to {α : Type} (xs : List α) (n : Nat) : cutD xs none (some (n : Int)) = xs.take n := by
  unfold cutD
  rw [HT.sIx_none, HT.sIx_nat]
  simp [List.take_eq_take_iff]
theorem cutD_from {α : Type} (xs : List α) (n : Nat) : cutD xs (some (n : Int)) none = xs.drop n := by
  unfold cutD
  rw [HT.sIx_none, HT.sIx_nat]
  by_cases h : n ≤ xs.length
  · rw [Nat.min_eq_left h]
    exact List.take_of_length_le (by simp)
  · rw [Nat.min_eq_right (by omega)]
    simp
    omega
theorem cutD_mid {α : Type} (xs : List α) (n m : Nat) : cutD xs (some (n : Int)) (some (m : Int)) = (xs.drop n).take (m - n) := by
  unfold cutD
  rw [HT.sIx_nat, HT.sIx_nat]
  by_cases h : n ≤ xs.length
  · rw [Nat.min_eq_left h]
    rw [List.take_eq_take_iff, List.length_drop]
    omega
  · have h1 : xs.drop n = [] := List.drop_eq_nil_of_le (by omega)
    have h2 : xs.drop (min n xs.length) = [] := List.drop_eq_nil_of_le (by omega)
    rw [h1, h2, List.take_nil, List.take_nil]
theorem rl_list {ds : List PyData} (k : P (dL ds)) : RL1 c (fun xs H Q => ∃ p ys, xs = [.ref p] ∧ (SqL c.K H p ys ∨ SqT c.K H p ys) ∧ ∀ l, H l = none → Q (.ref l) (upd H l (.lst ys))) ds P := fun B H v C l Q q => by
  obtain ⟨a, ws, rfl, h1, a1⟩ := l
  refine ⟨a, ws, rfl, .inl h1, fun p hp => ?_⟩
  have s := step_new (o := .lst ws) C hp
  exact q _ _ _ (dL ds) s (Dp.lst (SqL.of upd_same) (DpAll.mono s.b a1)) k
theorem rl_listT {ds : List PyData} (k : P (dL ds)) : RL c (fun xs H Q => ∃ p ys, xs = [.ref p] ∧ (SqL c.K H p ys ∨ SqT c.K H p ys) ∧ ∀ l, H l = none → Q (.ref l) (upd H l (.lst ys))) [dT ds] P := fun B H vs C l Q q => by
  cases l with
  | cons d t =>
    cases t
    cases d with
    | @tup _ ws _ h1 a1 =>
      refine ⟨_, _, rfl, .inr (sqT_mono C.sub.ex h1), fun p hp => ?_⟩
      have s := step_new (o := .lst ws) C hp
      exact q _ _ _ (dL ds) s (Dp.lst (SqL.of upd_same) (DpAll.mono s.b a1)) k
theorem rl_tupL {ds : List PyData} (k : P (dT ds)) : RL1 c (fun xs H Q => ∃ p ys, xs = [.ref p] ∧ ((SqL c.K H p ys ∧ ∀ l, H l = none → Q (.ref l) (upd H l (.tup ys))) ∨ (SqT c.K H p ys ∧ Q (.ref p) H))) ds P := fun B H v C l Q q => by
  obtain ⟨a, ws, rfl, h1, a1⟩ := l
  refine ⟨a, ws, rfl, .inl ⟨h1, fun p hp => ?_⟩⟩
  have s := step_new (o := .tup ws) C hp
  exact q _ _ _ (dT ds) s (Dp.tup (SqT.of upd_same) (DpAll.mono s.b a1)) k
theorem dp_bools {B : Hp} : ∀ {ws : List V} {bs : List Bool}, DpAll c.K B ws (bs.map .bool) → ws = bs.map V.bl
  | [], [], _ => rfl
  | [], _ :: _, h => by cases h
  | _ :: _, [], h => by cases h
  | _ :: _, _ :: _, .cons h t => by cases h; rw [dp_bools t]; rfl
theorem rl_all {bs : List Bool} (k : P (dB (bs.all id))) : RL1 c (rAll c.K) (bs.map .bool) P := fun B H v C l Q q => by
  obtain ⟨a, ws, rfl, h1, a1⟩ := l
  exact ⟨a, bs, rfl, by rw [← dp_bools a1]; exact h1, q _ B H (dB _) (Step.refl C) (Dp.bl _) k⟩
theorem rl_any {bs : List Bool} (k : P (dB (bs.any id))) : RL1 c (rAny c.K) (bs.map .bool) P := fun B H v C l Q q => by
  obtain ⟨a, ws, rfl, h1, a1⟩ := l
  exact ⟨a, bs, rfl, by rw [← dp_bools a1]; exact h1, q _ B H (dB _) (Step.refl C) (Dp.bl _) k⟩
theorem ty_tup {K : PySem.W.Frag} {H : Hp} {a : Addr} {xs : List V} (h : SqT K H a xs) : TyX K H (.ref a) (.type "tuple") := by
  rcases h with (h | ⟨o, h⟩) | ⟨o, its, n, h1, h2, _⟩
  · exact .base (.tup h)
  · exact .fTuple h
  · exact .kTuple h1 h2
theorem rl_isS {s : Str} (k : P (dB true)) : RL c (rIsi c.K) [dS s, .mon fun _ u => u = .ty "str"] P := fun B H vs C l Q q => by
  cases l with
  | cons d t => cases t with
    | cons d2 t2 =>
      cases t2
      cases d
      obtain ⟨rfl, _⟩ := d2
      exact ⟨_, _, .type "str", .type "str", true, rfl, .ty "str", .base (.str _), kit_ty (by decide +kernel), q _ B H (dB true) (Step.refl C) (Dp.bl _) k⟩
theorem rl_isT {ds : List PyData} (k : P (dB true)) : RL c (rIsi c.K) [dT ds, .mon fun _ u => u = .ty "tuple"] P := fun B H vs C l Q q => by
  cases l with
  | cons d t => cases t with
    | cons d2 t2 =>
      cases t2
      cases d with
      | tup h1 a1 =>
        obtain ⟨rfl, _⟩ := d2
        exact ⟨_, _, .type "tuple", .type "tuple", true, rfl, .ty "tuple", ty_tup (sqT_mono C.sub.ex h1), kit_ty (by decide +kernel), q _ B H (dB true) (Step.refl C) (Dp.bl _) k⟩
theorem rl_int {i : Int} (k : P (dI i)) : RL c (fun xs H Q => (∃ i, xs = [.int i] ∧ Q (.int i) H) ∨ ∃ k, xs = [.bl k] ∧ Q (.int (if k then 1 else 0)) H) [dI i] P := fun B H vs C l Q q => by
  cases l with
  | cons d t =>
    cases t
    cases d
    exact .inl ⟨i, rfl, q _ B H (dI i) (Step.refl C) (Dp.int _) k⟩
theorem rl_intB {b : Bool} (k : P (dI (if b then 1 else 0))) : RL c (fun xs H Q => (∃ i, xs = [.int i] ∧ Q (.int i) H) ∨ ∃ k, xs = [.bl k] ∧ Q (.int (if k then 1 else 0)) H) [dB b] P := fun B H vs C l Q q => by
  cases l with
  | cons d t =>
    cases t
    cases d
    exact .inr ⟨b, rfl, q _ B H (dI _) (Step.refl C) (Dp.int _) k⟩
end
section
variable {c : Ctx} {Γ : Env'} {to te : TE} {P : Dat → Env' → Prop}
theorem ee_M1 {r : V → List V → Hp → L2.VK → Prop} (h : EE c to Γ fun x Γ1 => (∃ s, x = dS s) ∧ EE c te Γ1 fun y Γ2 => RM c r x [y] fun z => P z Γ2) : EE c (tM1 r to te) Γ P := fun σ B H C E Q q =>
  h σ B H C E _ fun v B1 H1 x Γ1 s1 d1 ⟨⟨s, e⟩, h1⟩ => by
    subst e
    refine ⟨by cases d1; exact ⟨s, rfl⟩, h1 σ B1 H1 s1.cur s1.env _ fun w B2 H2 y Γ2 s2 d2 h2 => h2 B2 H2 v [w] s2.cur (DatOk.mono s2.b d1) (.cons d2 .nil) Q fun u B4 H4 z s d p => q u B4 H4 z Γ2 ((s1.trans s2).step s) d p⟩
end
section
variable {c : Ctx} {P : Dat → Prop}
theorem rm_starts {a b : Str} (k : P (dB (Txt.startswith a b))) : RM c (fun x xs H Q => ∃ a b, x = .str a ∧ xs = [.str b] ∧ Q (.bl (Txt.startswith a b)) H) (dS a) [dS b] P := fun B H v vs C d l Q q => by
  cases d
  cases l with
  | cons d t =>
    cases t
    cases d
    exact ⟨a, b, rfl, rfl, q _ B H (dB _) (Step.refl C) (Dp.bl _) k⟩
theorem rm_count {a b : Str} (k : P (dI (Txt.count a b))) : RM c (fun x xs H Q => ∃ a b, x = .str a ∧ xs = [.str b] ∧ Q (.int (Txt.count a b)) H) (dS a) [dS b] P := fun B H v vs C d l Q q => by
  cases d
  cases l with
  | cons d t =>
    cases t
    cases d
    exact ⟨a, b, rfl, rfl, q _ B H (dI _) (Step.refl C) (Dp.int _) k⟩
theorem dp_strs {K : PySem.W.Frag} {B : Hp} : ∀ ys : List Str, DpAll K B (ys.map V.str) (ys.map .str)
  | [] => .nil
  | y :: ys => .cons (.str y) (dp_strs ys)
theorem dp_strs' {K : PySem.W.Frag} {B : Hp} : ∀ {ws : List V} {ys : List Str}, DpAll K B ws (ys.map .str) → ws = ys.map V.str
  | [], [], _ => rfl
  | [], _ :: _, h => by cases h
  | _ :: _, [], h => by cases h
  | _ :: _, _ :: _, .cons h t => by cases h; rw [dp_strs' t]; rfl
theorem rm_split {a b : Str} (hb : (b.length == 0) = false) (ha : a.length ≤ 900000) (k : P (.val (lE .str (Txt.split a b)))) : RM c (fun x xs H Q => ∃ a b, x = .str a ∧ xs = [.str b] ∧ (b.length == 0) = false ∧ a.length + 2 ≤ sizeLine ∧ rNewStrs (Txt.split a b) H Q) (dS a) [dS b] P := fun B H v vs C d l Q q => by
  cases d
  cases l with
  | cons d t =>
    cases t
    cases d
    refine ⟨a, b, rfl, rfl, hb, len_lit (by omega), fun p hp => ?_⟩
    have s := step_new (o := .lst ((Txt.split a b).map V.str)) C hp
    exact q _ _ _ (.val (lE .str (Txt.split a b))) s (Dp.lst (SqL.of upd_same) (dp_strs _)) k
theorem rm_join {a : Str} {ys : List Str} (hl : (ys.map (·.length)).sum + ys.length * a.length ≤ 16777216) (k : P (dS (Txt.join a ys))) : RM c (fun x xs H Q => ∃ a p, ∃ ys : List Str, x = .str a ∧ xs = [.ref p] ∧ (SqL c.K H p (ys.map V.str) ∨ SqT c.K H p (ys.map V.str)) ∧ (ys.map (·.length)).sum + ys.length * a.length ≤ 16777216 ∧ Q (.str (Txt.join a ys)) H) (dS a) [.val (lE .str ys)] P := fun B H v vs C d l Q q => by
  cases d
  cases l with
  | cons d t =>
    cases t
    cases d with
    | lst h1 a1 =>
      have e := dp_strs' a1
      subst e
      exact ⟨a, _, ys, rfl, rfl, .inl (sqL_mono C.sub.ex h1), hl, q _ B H (dS _) (Step.refl C) (Dp.str _) k⟩
end
end My
end DL7_
section DL8_
set_option maxHeartbeats 1000000
namespace My
open PySem PySem.Spec PySem.W PyProof.Rows L2 LamX
set_option maxHeartbeats 4000000 in
theorem meets_enumB1 {v : Value} {o : Obj} {H : Heap → Prop} (B : Begins v o H) :
    Meets (Builtin.«enumerate.__new__» ⟨[.type "enumerate", v], []⟩) (fun _ R s => H s.heap ∧
      R (.ok (.ret (.ref (s.heap.push o).objs.size))) { s with heap := (s.heap.push o).push { cls := .type "enumerate", data := .fields #[.none, .bool false, .ref s.heap.objs.size, rawInt 0, .none, .none] } }) :=
  .of_wp fun prog w A R s h => by
    obtain ⟨hp, g, d, tk, os⟩ := s; obtain ⟨h1, h⟩ := h
    have hsub := sub_enumerate
    have q1 : ∀ {A' : Around} {E : Value → Shared → Prop} {Q : Value → Shared → Prop}, Q (.ref hp.objs.size) ⟨hp.push o, g, d, tk, os⟩ → wpAny (model prog w) A' (pyIter v) Q E ⟨hp, g, d, tk, os⟩ :=
      fun q => B.iter prog w _ _ ⟨hp, g, d, tk, os⟩ _ h1 q
    wp_walk using q1
    refine wpAny_stack_any fun st => wpAny_pure ?_
    split
    · rename_i c _ _ _ _ _
      cases (c == Value.type "enumerate")
      · wp_walk using q1
        exact ⟨_, rfl, h⟩
      · wp_walk using q1
        exact ⟨_, rfl, h⟩
    · wp_walk using q1
      exact ⟨_, rfl, h⟩
section
variable {prog : Program} {w : World} {A : Around} {E : Value → Shared → Prop} {s : Shared}
theorem enum_begins1 {v : Value} {o : Obj} {H : Heap → Prop} {Q : Value → Shared → Prop} (B : Begins v o H) (h1 : H s.heap)
    (h : ∀ h', IsEnum h' (s.heap.objs.size + 1) s.heap.objs.size 0 .none → h'.get? s.heap.objs.size = some o → h'.objs.size = s.heap.objs.size + 2 →
      (∀ b o, s.heap.get? b = some o → h'.get? b = some o) → Q (.ref (s.heap.objs.size + 1)) { s with heap := h' }) :
    wpAny (model prog w) A (call (.type "enumerate") [v]) Q E s := by
  refine callType_new F.called_enumerate (by decide) (F.typeCall_enumerate_1 _) (F.newCall_enumerate_1 _) (fun obj => F.args_object_init_2 obj _) F.entry_enumerate_new
    (meets_enumB1 B) ⟨h1, ?_⟩
  have hz : (s.heap.push o).objs.size = s.heap.objs.size + 1 := Heap.size_push ..
  show _ ∧ _
  rw [hz]
  have he : IsEnum ((s.heap.push o).push { cls := .type "enumerate", data := .fields #[.none, .bool false, .ref s.heap.objs.size, rawInt 0, .none, .none] }) (s.heap.objs.size + 1) s.heap.objs.size 0 .none := by
    have := Heap.get?_push_size (s.heap.push o) (o := { cls := .type "enumerate", data := .fields #[.none, .bool false, .ref s.heap.objs.size, rawInt 0, .none, .none] }) rfl
    rw [hz] at this; exact this
  refine ⟨⟨_, he, rfl⟩, h _ he (Heap.get?_push_of_some _ (Heap.get?_push_size _ B.free)) (by rw [Heap.size_push, hz]) fun b o x => Heap.get?_push_of_some _ (Heap.get?_push_of_some _ x)⟩
end
def Iet (K : PySem.W.Frag) (a : Addr) : It :=
  ⟨fun i H => ∃ (xs : List V) (x : V), SqT K H a xs ∧ xs[i]? = some x, fun i H v H' => ∃ T x, v = .ref T ∧ H T = none ∧ H' = upd H T (.tup [.int (i : Nat), x]) ∧ ∀ xs, SqT K H a xs → xs[i]? = some x, fun i H => ∃ xs : List V, SqT K H a xs ∧ xs.length ≤ i⟩
theorem it_ne {h : Heap} {it a : Addr} {i : Nat} {items : Array Value} (x : h.IsTupleIter it a i) (y : h.IsTuple a items) : a ≠ it := fun z => by
  subst z
  obtain ⟨o, ho, hc, _⟩ := x
  obtain ⟨o', ho', hc', _⟩ := y
  rw [ho] at ho'
  cases ho'
  rw [hc] at hc'
  exact absurd (Value.type.inj hc') (by decide)
theorem enumT_end {prog : Program} {w : World} {A : Around} {E : Value → Shared → Prop} {s : Shared} {e it a : Addr} {n : Nat} {i : Int} {old : Value} {items : Array Value} {Q : Option Value → Shared → Prop}
    (hh : A.handled = none) (he : IsEnum s.heap e it i old) (hit : s.heap.IsTupleIter it a n) (hT : s.heap.IsTuple a items) (hx : items[n]? = none)
    (hQ : ∀ h', Heap.ExtBut it s.heap h' → Q none { s with heap := h' }) : wpAny (model prog w) A (pyNext (.ref e)) Q E s := by
  have hTy : s.TypeIs (.ref e) "enumerate" := ⟨_, he, rfl⟩
  unfold pyNext
  refine wpAny_bind (wpAny_attempt (wpAny_callSpecial?_slot (name := Str.ofString "__next__") hTy F.slot_enumerate_next
    (wpAny_call_entry F.slot_enumerate_next hTy F.entry_enumerate_next ?_ (F.args_enumerate_next_1 _))))
  show wpAny _ _ (field (.ref e) 2 >>= _) _ _ _
  refine wpAny_bind (wpAny_field he rfl (x := .ref it) rfl ?_)
  refine wpAny_bind (wpAny_nextOf_tuple_end hh hit hT hx fun h' x he' hx' => ?_)
  obtain ⟨o, ho, hc⟩ := hx'
  refine wpAny_bind (wpAny_isInstance (T := "StopIteration") (b := true) ⟨o, ho, hc⟩ isSubtype_stop ?_)
  exact wpAny_pure (hQ _ he')
theorem turn_enumT {P : Program} {w : World} {K : PySem.W.Frag} {elts : List Expr} {kk : Nat} {tpos : Pos} (a e it : Addr) :
    Turn P w K (.Tuple elts kk tpos) (Iet K a) [e, it] e (fun i h => (∃ old, IsEnum h e it ((i : Nat) : Int) old) ∧ h.IsTupleIter it a i ∧ e ≠ it) where
  mem := by simp
  obj := fun i h st b hb => by
    obtain ⟨⟨old, he⟩, ⟨o, ho, hc, hd⟩, _⟩ := st
    have e' : b = e ∨ b = it := by simpa using hb
    rcases e' with z | z
    · rw [z]; exact ⟨_, he, fun v q => nomatch q⟩
    · rw [z]; exact ⟨o, ho, fun v q => by rw [hd] at q; cases q⟩
  keep := fun i h h' st k => let ⟨⟨old, he⟩, hi, hne⟩ := st; ⟨⟨old, k e (by simp) _ he⟩, hi.at fun o q => k it (by simp) o q, hne⟩
  item := by
    intro X hP hw hK hc i pins s σ H E I hf st hg
    subst hP hw hK
    obtain ⟨⟨old, he⟩, hit, hne⟩ := st
    obtain ⟨xs, x, hq, hx⟩ := hg
    obtain ⟨its, rv, p, hz⟩ := I.tuple hq
    obtain ⟨u, hu, ru⟩ := rv.get hx
    have hel : e < s.heap.objs.size := Heap.lt_size he
    have hil : it < s.heap.objs.size := by obtain ⟨_, q, _⟩ := hit; exact Heap.lt_size q
    have hT : s.heap.IsTuple a its.toArray := p
    have hta : a ≠ it := it_ne hit hT
    have hea : e ≠ a := fun z => by
      subst z
      obtain ⟨o', ho', hc', _⟩ := hT
      rw [he] at ho'
      cases ho'
      exact absurd (Value.type.inj hc') (by decide)
    have hlt : i < its.toArray.size := by
      have := (List.getElem?_eq_some_iff.mp hu).1
      simpa using this
    have Dr := Draws.tuple (prog := X.prog) (w := X.w) (A := X.A.in1) (I.ok.hd hc) it a hta its.toArray
    refine wpAny_pyNext_enum_itemD Dr he ⟨hit, hT⟩ hlt hne (by simp; exact ⟨hne, hea⟩) fun y h' tk hy ho hst' hT1 hsz hk => ?_
    obtain ⟨hit', _⟩ := hst'
    have hyu : y = u := by
      have : its.toArray[i]? = some u := by simpa using hu
      rw [this] at hy
      cases hy
      rfl
    subst hyu
    refine ⟨_, rfl, wpAny_letOwnedTupleGo_enum (s := { s with heap := h', toks := tk + 1 }) ho fun h'' he' sb => ?_⟩
    have hT2 : h''.get? s.heap.objs.size = some { cls := .type "tuple", data := .seq #[.int i tk, y] } := (sb.2 _ (Nat.ne_of_gt hel)).trans hT1
    have new : ObjOk X.prog X.w (upd H s.heap.objs.size (.tup [.int (i : Nat), x])) h'' s.heap.objs.size (.tup [.int (i : Nat), x]) :=
      ⟨by show 2 ≤ sizeLine; decide, [.int i tk, y], .cons ⟨_, rfl⟩ (.cons ru .nil), ⟨_, hT2, rfl, _, rfl⟩⟩
    have I1 : L2.Inv X pins σ (upd H s.heap.objs.size (.tup [.int (i : Nat), x])) { s with heap := h'', toks := tk + 1 } :=
      I.turnedNew (ch := [e, it]) (fun b ob hb q => (sb.2 b (fun z => hb (by simp [z]))).trans (hk b ob (fun z => hb (by simp [z])) (fun z => hb (by simp [z])) q)) hf (Nat.le_refl _) new
    refine ⟨.ref s.heap.objs.size, _, I1, rfl, ⟨_, x, rfl, I.hok.fresh (Nat.le_refl _), rfl, fun ys hy => by rw [I.tuple_inj hy hq]; exact hx⟩, ⟨⟨y, ?_⟩, hit'.at fun o q => (sb.2 it (Ne.symm hne)).trans q, hne⟩, fun b hb => ?_⟩
    · have e1 : ((i + 1 : Nat) : Int) = (i : Int) + 1 := by omega
      rw [e1]; exact he'
    · have hb' : b < s.heap.objs.size := by
        have e' : b = e ∨ b = it := by simpa using hb
        rcases e' with z | z
        · rw [z]; exact hel
        · rw [z]; exact hil
      rw [upd_ne (Nat.ne_of_lt hb')]
      exact (hf b hb).1
  done := by
    intro X hP hw hK hc i pins s σ H E I hf st hg
    subst hP hw hK
    obtain ⟨⟨old, he⟩, hit, hne⟩ := st
    obtain ⟨xs, hq, hx⟩ := hg
    obtain ⟨its, rv, p, hz⟩ := I.tuple hq
    obtain ⟨f0, f1, f2, f3, f4, f5⟩ := hf it (by simp)
    have hl := rv.length
    have hT : s.heap.IsTuple a its.toArray := p
    have hta : a ≠ it := it_ne hit hT
    exact enumT_end (I.ok.hd hc) he hit hT (by simp; omega) fun h' eb => ⟨rfl, I.turned (t' := s.toks) (fun b o hb q => eb b o hb q) f0 f1 f3 f4 f5⟩
  self := fun A i s Q E st h => let ⟨⟨_, he⟩, _⟩ := st; wpAny_pyIter_enum he h
def iEnumT (K : PySem.W.Frag) (ta : TA) : TI := fun σ H R => ta σ H fun vs H1 => ∃ a xs, vs = [.ref a] ∧ SqT K H1 a xs ∧ R (Iet K a) H1
theorem pi_enumT {X : Cx} {e : Expr} {ta : TA} {p pos tpos : Pos} {elts : List Expr} {kk : Nat} (hg : Gl X "enumerate") (hm : X.mg "enumerate" = none) (ha : PA X [e] ta) (hs : starEach [e] X.env = [(false, eval e X.env)] := by rfl) :
    PI X (.Tuple elts kk tpos) (.Call (.Name "enumerate" p) [e] [] pos) (iEnumT X.K ta) := by
  refine ⟨fun pins s σ H R I h => ?_⟩
  refine Call_ (ld_blt I hg hm boot_enumerate (PyProof.Rows.callWith_type1 (thn (ha.run pos pins s σ H _ I h) fun us s1 ⟨vs, H1, I1, r1, q1⟩ => ?_) hs rfl))
  obtain ⟨a, xs, ex, hq, q⟩ := q1
  subst ex
  cases r1 with
  | cons r rr =>
    cases rr
    cases r
    obtain ⟨its, rv, p', hz⟩ := I1.tuple hq
    have hT : s1.heap.IsTuple a its.toArray := p'
    refine enum_begins1 (begins_tuple a its.toArray) hT fun h' he hit hsz hk => wpAny_pyIter_enum he ?_
    have I2 : L2.Inv X pins σ H1 { s1 with heap := h' } := I1.kept (t' := s1.toks) hk
    refine ⟨s1.heap.objs.size + 1, [s1.heap.objs.size + 1, s1.heap.objs.size], _, _, H1, rfl, I2, turn_enumT a (s1.heap.objs.size + 1) s1.heap.objs.size, ⟨⟨.none, he⟩, ⟨_, hit, rfl, rfl⟩, Nat.succ_ne_self _⟩, fun b hb => ?_, q⟩
    have e' : b = s1.heap.objs.size + 1 ∨ b = s1.heap.objs.size := by simpa using hb
    have hle : s1.heap.objs.size ≤ b := by
      rcases e' with z | z
      · rw [z]; exact Nat.le_add_right _ _
      · rw [z]; exact Nat.le_refl _
    exact I1.fpOk hle (I1.hok.fresh hle)
end My
end DL8_
section DL9_
set_option maxHeartbeats 1000000
namespace My
open PySem PySem.Spec PySem.W PyProof.Rows L2 LamX
open Sem (wp)
theorem zip_no_len : typeLookup (.type "zip") "__len__" = pure none := by rw [typeLookup_type, builtinLookup_eq_fast]; kernel_rfl
theorem zip_no_hint : typeLookup (.type "zip") "__length_hint__" = pure none := by rw [typeLookup_type, builtinLookup_eq_fast]; kernel_rfl
section
variable {prog : Program} {w : World} {A : Around} {E : Value → Shared → Prop} {s : Shared} {z TI TO T i1 i2 : Addr} {fp1 fp2 : List Addr} {n1 n2 i : Nat} {P1 P2 : Nat → Value → Prop} {St1 St2 : Nat → Heap → Prop} {f : Bool} {oT : Obj}
theorem zD_item {Q : Value → Shared → Prop} (S : ZipSep2 z TI TO i1 i2 fp1 fp2) (D1 : Draws prog w A i1 fp1 n1 P1 St1) (D2 : Draws prog w A i2 fp2 n2 P2 St2)
    (hz : IsZipHeld s.heap z TI TO T f) (hT : s.heap.get? T = some oT) (hTI : IsTupOf2 s.heap TI (.ref i1) (.ref i2)) (st1 : St1 i s.heap) (st2 : St2 i s.heap) (hlt1 : i < n1) (hlt2 : i < n2)
    (hQ : ∀ x y h' tk, P1 i x → P2 i y → IsZipHeld h' z TI TO T true → St1 (i + 1) h' → St2 (i + 1) h' → IsTupOf2 h' s.heap.objs.size x y → h'.objs.size = s.heap.objs.size + 1 →
      (∀ c o, c ≠ z → c ≠ i1 → c ≠ i2 → s.heap.get? c = some o → h'.get? c = some o) → Q (.ref s.heap.objs.size) { s with heap := h', toks := tk }) :
    wpAny (model prog w) A (Builtin.«zip.__next__» ⟨[.ref z], []⟩) (fun fin s' => ∃ v, fin = .done (.ret v) ∧ Q v s') E s := by
  obtain ⟨hp, g, d, tk0, os⟩ := s
  show wpAny _ _ (field (.ref z) 2 >>= _) _ _ _
  refine wpAny_bind (wpAny_field hz rfl (x := .bool false) rfl ?_)
  show wpAny _ _ (field (.ref z) 3 >>= _) _ _ _
  refine wpAny_bind (wpAny_field hz rfl (x := .ref TI) rfl ?_)
  refine wpAny_bind (wpAny_seqItems hTI rfl ?_)
  show wpAny _ _ (Builtin.SmallTypes.ownedTupleIsFree (.ref z) >>= _) _ _ _
  refine wpAny_bind (wpAny_tupleHeld_zip hz hT fun h₁ hz₁ hs₁ => ?_)
  replace hs₁ : Heap.SameBut z hp h₁ := hs₁
  simp only [Bool.false_eq_true, if_false]
  refine wpAny_bind ?_
  rw [← Array.forIn_toList]
  simp only [List.forIn_cons, List.forIn_nil]
  refine wpAny_bind (wpAny_bind (wpAny_holding ?_))
  show wpAny _ _ (Builtin.SmallTypes.nextOf (.ref i1) >>= _) _ _ ⟨h₁, g, d, tk0, os⟩
  refine wpAny_bind (D1.item i _ _ _ hlt1 (D1.over st1 hs₁ S.zf1) fun x p1 tk1 hx1 sn1 hp1 => wpAny_pure ?_)
  replace hp1 : Heap.SameBut i1 h₁ p1 := hp1
  refine wpAny_pure ?_
  refine wpAny_bind (wpAny_bind (wpAny_holding ?_))
  show wpAny _ _ (Builtin.SmallTypes.nextOf (.ref i2) >>= _) _ _ ⟨p1, g, d, tk1, os⟩
  refine wpAny_bind (D2.item i _ _ _ hlt2 (D2.over (D2.over st2 hs₁ S.zf2) hp1 S.sep1_2) fun y p2 tk2 hx2 sn2 hp2 => wpAny_pure ?_)
  replace hp2 : Heap.SameBut i2 p1 p2 := hp2
  refine wpAny_pure (wpAny_pure ?_)
  show wpAny _ _ (newTuple [x, y] >>= _) _ _ _
  refine wpAny_bind (wpAny_newTuple ?_)
  have hsz : p2.objs.size = hp.objs.size := by rw [hp2.1, hp1.1, hs₁.1]
  have hz₃ : IsZipHeld p2 z TI TO T true := hp2.extBut _ _ S.zi2 (hp1.extBut _ _ S.zi1 hz₁)
  have hk : ∀ c o, c ≠ z → c ≠ i1 → c ≠ i2 → hp.get? c = some o → p2.get? c = some o := fun c o c1 c2 c3 e => hp2.extBut _ _ c3 (hp1.extBut _ _ c2 (hs₁.extBut _ _ c1 e))
  have sn1' : St1 (i + 1) p2 := D1.over sn1 hp2 S.sep2_1
  refine wpAny_pure ⟨_, rfl, ?_⟩
  show Q (.ref p2.objs.size) _
  have hpp : IsTupOf2 (p2.push { cls := .type "tuple", data := .seq #[x, y] }) p2.objs.size x y := Heap.get?_push_size _ rfl
  have hz4 : (p2.push { cls := .type "tuple", data := .seq #[x, y] }).objs.size = p2.objs.size + 1 := Heap.size_push ..
  rw [hsz] at hpp hz4 ⊢
  exact hQ x y _ tk2 hx1 hx2 (Heap.get?_push_of_some _ hz₃) (D1.frame _ _ _ sn1' fun b _ o e => Heap.get?_push_of_some _ e) (D2.frame _ _ _ sn2 fun b _ o e => Heap.get?_push_of_some _ e) hpp hz4 fun c o c1 c2 c3 e => Heap.get?_push_of_some _ (hk c o c1 c2 c3 e)
theorem zD_end {Q : Fin → Shared → Prop} (S : ZipSep2 z TI TO i1 i2 fp1 fp2) (D1 : Draws prog w A i1 fp1 n1 P1 St1) (D2 : Draws prog w A i2 fp2 n2 P2 St2)
    (hz : IsZipHeld s.heap z TI TO T f) (hT : s.heap.get? T = some oT) (hTI : IsTupOf2 s.heap TI (.ref i1) (.ref i2)) (st1 : St1 i s.heap) (st2 : St2 i s.heap) (hle1 : i ≤ n1) (hle2 : i ≤ n2) (hend : i = n1 ∨ i = n2)
    (hE : ∀ h' tk e, (∀ c o, c ≠ z → c ≠ i1 → c ≠ i2 → s.heap.get? c = some o → h'.get? c = some o) → (∃ o, h'.get? e = some o ∧ o.cls = .type "StopIteration") → E (.ref e) { s with heap := h', toks := tk }) :
    wpAny (model prog w) A (Builtin.«zip.__next__» ⟨[.ref z], []⟩) Q E s := by
  obtain ⟨hp, g, d, tk0, os⟩ := s
  show wpAny _ _ (field (.ref z) 2 >>= _) _ _ _
  refine wpAny_bind (wpAny_field hz rfl (x := .bool false) rfl ?_)
  show wpAny _ _ (field (.ref z) 3 >>= _) _ _ _
  refine wpAny_bind (wpAny_field hz rfl (x := .ref TI) rfl ?_)
  refine wpAny_bind (wpAny_seqItems hTI rfl ?_)
  show wpAny _ _ (Builtin.SmallTypes.ownedTupleIsFree (.ref z) >>= _) _ _ _
  refine wpAny_bind (wpAny_tupleHeld_zip hz hT fun h₁ hz₁ hs₁ => ?_)
  replace hs₁ : Heap.SameBut z hp h₁ := hs₁
  simp only [Bool.false_eq_true, if_false]
  refine wpAny_bind ?_
  rw [← Array.forIn_toList]
  simp only [List.forIn_cons, List.forIn_nil]
  refine wpAny_bind (wpAny_bind (wpAny_holding ?_))
  show wpAny _ _ (Builtin.SmallTypes.nextOf (.ref i1) >>= _) _ _ ⟨h₁, g, d, tk0, os⟩
  by_cases hlt1 : i < n1
  · have hi2 : i = n2 := by omega
    refine wpAny_bind (D1.item i _ _ _ hlt1 (D1.over st1 hs₁ S.zf1) fun x p1 tk1 hx1 sn1 hp1 => wpAny_pure ?_)
    replace hp1 : Heap.SameBut i1 h₁ p1 := hp1
    refine wpAny_pure ?_
    refine wpAny_bind (wpAny_bind (wpAny_holding ?_))
    show wpAny _ _ (Builtin.SmallTypes.nextOf (.ref i2) >>= _) _ _ ⟨p1, g, d, tk1, os⟩
    refine wpAny_bind (D2.done ⟨p1, g, d, tk1, os⟩ _ _ (by rw [← hi2]; exact D2.over (D2.over st2 hs₁ S.zf2) hp1 S.sep1_2) fun q e hq he => ?_)
    replace hq : Heap.ExtBut i2 p1 q := hq
    exact hE q tk1 e (fun c o c1 c2 c3 x => hq _ _ c3 (hp1.extBut _ _ c2 (hs₁.extBut _ _ c1 x))) he
  · have hi1 : i = n1 := by omega
    refine wpAny_bind (D1.done ⟨h₁, g, d, tk0, os⟩ _ _ (by rw [← hi1]; exact D1.over st1 hs₁ S.zf1) fun q e hq he => ?_)
    replace hq : Heap.ExtBut i1 h₁ q := hq
    exact hE q tk0 e (fun c o c1 c2 _ x => hq _ _ c2 (hs₁.extBut _ _ c1 x)) he
/-- the zip's state behind i turns; S: the list that is made -/
def ZSt (z TI TO i1 i2 : Addr) (St1 St2 : Nat → Heap → Prop) (S : Addr) (i : Nat) (h : Heap) : Prop :=
  IsTupOf2 h TI (.ref i1) (.ref i2) ∧ St1 i h ∧ St2 i h ∧ (∃ a b, IsTupOf2 h TO a b) ∧
    (IsZip h z TI TO .none ∨ ∃ T f oT, IsZipHeld h z TI TO T f ∧ h.get? T = some oT ∧ T ≠ z ∧ T ≠ i1 ∧ T ≠ i2 ∧ T ≠ S)
theorem zst_type {S : Addr} {h : Heap} (st : ZSt z TI TO i1 i2 St1 St2 S i h) : ∃ o, h.get? z = some o ∧ o.cls = .type "zip" := by
  obtain ⟨_, _, _, _, st⟩ := st
  rcases st with hz | ⟨T, f, oT, hz, _⟩
  · exact ⟨_, hz, rfl⟩
  · exact ⟨_, hz, rfl⟩
theorem zst_item {L : Addr} {Q : Option Value → Shared → Prop} (S : ZipSep2 z TI TO i1 i2 fp1 fp2) (D1 : Draws prog w A.in1 i1 fp1 n1 P1 St1) (D2 : Draws prog w A.in1 i2 fp2 n2 P2 St2) (st : ZSt z TI TO i1 i2 St1 St2 L i s.heap) (hL : L < s.heap.objs.size) (hlt1 : i < n1) (hlt2 : i < n2)
    (hQ : ∀ x y h' tk, P1 i x → P2 i y → ZSt z TI TO i1 i2 St1 St2 L (i + 1) h' → IsTupOf2 h' s.heap.objs.size x y → h'.objs.size = s.heap.objs.size + 1 →
      (∀ c o, c ∉ [z, TO, i1, i2] → s.heap.get? c = some o → h'.get? c = some o) → Q (some (.ref s.heap.objs.size)) { s with heap := h', toks := tk }) : wpAny (model prog w) A (pyNext (.ref z)) Q E s := by
  obtain ⟨hTI, s1, s2, ⟨a, b, hTO⟩, hz⟩ := st
  have l1 : s.heap.objs.size ≠ i1 := let ⟨_, e⟩ := D1.live _ _ s1; Nat.ne_of_gt (Heap.lt_size e)
  have l2 : s.heap.objs.size ≠ i2 := let ⟨_, e⟩ := D2.live _ _ s2; Nat.ne_of_gt (Heap.lt_size e)
  rcases hz with hz | ⟨T, f, oT, hz, hT, r1, r2, r3, r4⟩
  · refine wpAny_pyNext_zipD2_item S D1 D2 hz hTI hTO s1 s2 hlt1 hlt2 fun x y h' tk q1 q2 q3 q4 q5 q6 q7 q8 q9 => ?_
    exact hQ x y h' tk q1 q2 ⟨q9 _ _ S.TIz S.TITO S.TIi1 S.TIi2 hTI, q5, q6, ⟨_, _, q4⟩, .inr ⟨s.heap.objs.size, false, _, q3, q7, Nat.ne_of_gt (Heap.lt_size hz), l1, l2, Nat.ne_of_gt hL⟩⟩ q7 q8
      fun c o hc e => q9 c o (fun x => hc (by simp [x])) (fun x => hc (by simp [x])) (fun x => hc (by simp [x])) (fun x => hc (by simp [x])) e
  · have hTy : s.TypeIs (.ref z) "zip" := ⟨_, hz, rfl⟩
    unfold pyNext
    refine wpAny_bind (wpAny_attempt (wpAny_callSpecial?_slot (name := Str.ofString "__next__") hTy F.slot_zip_next
      (wpAny_call_entry F.slot_zip_next hTy F.entry_zip_next (zD_item S D1 D2 hz hT hTI s1 s2 hlt1 hlt2 fun x y h' tk q1 q2 q3 q4 q5 q6 q7 q8 => wpAny_pure ?_) (F.args_zip_next_1 _))))
    exact hQ x y h' tk q1 q2 ⟨q8 _ _ S.TIz S.TIi1 S.TIi2 hTI, q4, q5, ⟨a, b, q8 _ _ S.TOz S.Ti1 S.Ti2 hTO⟩, .inr ⟨T, true, oT, q3, q8 _ _ r1 r2 r3 hT, r1, r2, r3, r4⟩⟩ q6 q7
      fun c o hc e => q8 c o (fun x => hc (by simp [x])) (fun x => hc (by simp [x])) (fun x => hc (by simp [x])) e
theorem zst_end {L : Addr} {Q : Option Value → Shared → Prop} (S : ZipSep2 z TI TO i1 i2 fp1 fp2) (D1 : Draws prog w A.in1 i1 fp1 n1 P1 St1) (D2 : Draws prog w A.in1 i2 fp2 n2 P2 St2) (st : ZSt z TI TO i1 i2 St1 St2 L i s.heap) (hle1 : i ≤ n1) (hle2 : i ≤ n2) (hend : i = n1 ∨ i = n2)
    (hQ : ∀ h' tk, (∀ c o, c ∉ [z, TO, i1, i2] → s.heap.get? c = some o → h'.get? c = some o) → Q none { s with heap := h', toks := tk }) : wpAny (model prog w) A (pyNext (.ref z)) Q E s := by
  obtain ⟨hTI, s1, s2, ⟨a, b, hTO⟩, hz⟩ := st
  rcases hz with hz | ⟨T, f, oT, hz, hT, r1, r2, r3, r4⟩
  · exact wpAny_pyNext_zipD2_end S D1 D2 hz hTI hTO s1 s2 hle1 hle2 hend fun h' tk q9 => hQ h' tk fun c o hc e => q9 c o (fun x => hc (by simp [x])) (fun x => hc (by simp [x])) (fun x => hc (by simp [x])) (fun x => hc (by simp [x])) e
  · have hTy : s.TypeIs (.ref z) "zip" := ⟨_, hz, rfl⟩
    unfold pyNext
    refine wpAny_bind (wpAny_attempt (wpAny_callSpecial?_slot (name := Str.ofString "__next__") hTy F.slot_zip_next
      (wpAny_call_entry F.slot_zip_next hTy F.entry_zip_next (zD_end S D1 D2 hz hT hTI s1 s2 hle1 hle2 hend fun h' tk e q8 he => ?_) (F.args_zip_next_1 _))))
    obtain ⟨o, ho, hc⟩ := he
    refine wpAny_bind (wpAny_isInstance (T := "StopIteration") (b := true) ⟨o, ho, hc⟩ isSubtype_stop ?_)
    exact wpAny_pure (hQ _ _ fun c o hc e => q8 c o (fun x => hc (by simp [x])) (fun x => hc (by simp [x])) (fun x => hc (by simp [x])) e)
theorem zst_frame {L : Addr} {h h' : Heap} (D1 : Draws prog w A.in1 i1 fp1 n1 P1 St1) (D2 : Draws prog w A.in1 i2 fp2 n2 P2 St2) (st : ZSt z TI TO i1 i2 St1 St2 L i h) (hL : L ∉ z :: TI :: TO :: (fp1 ++ fp2)) (hk : ∀ b o, b ≠ L → h.get? b = some o → h'.get? b = some o) : ZSt z TI TO i1 i2 St1 St2 L i h' := by
  obtain ⟨hTI, s1, s2, ⟨a, b, hTO⟩, hz⟩ := st
  have ne : ∀ {b : Addr}, b ∈ z :: TI :: TO :: (fp1 ++ fp2) → b ≠ L := fun hb e => hL (e ▸ hb)
  refine ⟨hk _ _ (ne (by simp)) hTI, D1.frame _ _ _ s1 fun b hb o e => hk b o (ne (by simp [hb])) e, D2.frame _ _ _ s2 fun b hb o e => hk b o (ne (by simp [hb])) e, ⟨a, b, hk _ _ (ne (by simp)) hTO⟩, ?_⟩
  rcases hz with hz | ⟨T, f, oT, hz, hT, r1, r2, r3, r4⟩
  · exact .inl (hk _ _ (ne (by simp)) hz)
  · exact .inr ⟨T, f, oT, hk _ _ (ne (by simp)) hz, hk _ _ r4 hT, r1, r2, r3, r4⟩
/-- the pairs that were made -/
def ZAcc (P1 P2 : Nat → Value → Prop) (wr : List Addr) (L : Addr) (acc : Array Value) (i : Nat) (h : Heap) : Prop :=
  acc.size = i ∧ ∀ j v, acc[j]? = some v → ∃ T x y, v = .ref T ∧ T ∉ wr ∧ L < T ∧ P1 j x ∧ P2 j y ∧ IsTupOf2 h T x y
theorem ZAcc.keep {wr : List Addr} {L : Addr} {acc : Array Value} {h h' : Heap} (a : ZAcc P1 P2 wr L acc i h) (hk : ∀ b o, b ≠ L → b ∉ wr → h.get? b = some o → h'.get? b = some o) : ZAcc P1 P2 wr L acc i h' :=
  ⟨a.1, fun j v hj => let ⟨T, x, y, e, n1, n2, p1, p2, t⟩ := a.2 j v hj; ⟨T, x, y, e, n1, n2, p1, p2, hk _ _ (Nat.ne_of_gt n2) n1 t⟩⟩
theorem zip_loop {R : Result → Shared → Prop} (S : ZipSep2 z TI TO i1 i2 fp1 fp2) (D1 : Draws prog w A.in1.in1 i1 fp1 n1 P1 St1) (D2 : Draws prog w A.in1.in1 i2 fp2 n2 P2 St2) (n : Nat) (hn1 : n ≤ n1) (hn2 : n ≤ n2) (hend : n = n1 ∨ n = n2) (hn : n ≤ sizeLine) (L : Addr) (hL : L ∉ z :: TI :: TO :: (fp1 ++ fp2)) (res : Value) :
    ∀ (k i : Nat) (s : Shared) (acc : Array Value) (c : Nat), n - i = k → i ≤ n → ZSt z TI TO i1 i2 St1 St2 L i s.heap → s.heap.get? L = some { cls := .type "list", dict := none, data := .seq acc c, slots := #[] } → ZAcc P1 P2 [z, TO, i1, i2] L acc i s.heap →
    (∀ h' tk acc' c', (∀ b o, b ≠ L → b ∉ [z, TO, i1, i2] → s.heap.get? b = some o → h'.get? b = some o) → h'.get? L = some { cls := .type "list", dict := none, data := .seq acc' c', slots := #[] } → ZAcc P1 P2 [z, TO, i1, i2] L acc' n h' → R (.ok (.ret res)) { s with heap := h', toks := tk }) →
    codeAny (model prog w) A (.builtin "list.extend.loop" ⟨[.ref L, .ref z, res], []⟩) R s := by
  have hLw : L ∉ [z, TO, i1, i2] := fun h => hL (by
    have m1 := S.mem1
    have m2 := S.mem2
    simp only [List.mem_cons, List.not_mem_nil, or_false] at h ⊢
    rcases h with e | e | e | e
    · exact .inl e
    · exact .inr (.inr (.inl e))
    · exact .inr (.inr (.inr (List.mem_append_left _ (e ▸ m1))))
    · exact .inr (.inr (.inr (List.mem_append_right _ (e ▸ m2)))))
  intro k
  induction k with
  | zero =>
    intro i s acc c hk hi hst hS hacc hR
    have hin : i = n := by omega
    subst hin
    refine codeAny_builtin F.entry_extend_loop ?_
    rw [Around.under_plainId F.plain_extend_loop _]
    show wpAny _ A.in1 (pyNext (.ref z) >>= _) _ _ s
    refine wpAny_bind (zst_end S D1 D2 hst hn1 hn2 hend fun h' tk hm => ?_)
    exact wpAny_pure (hR h' tk acc c (fun b o _ hb e => hm b o hb e) (hm L _ hLw hS) (hacc.keep fun b o _ hb e => hm b o hb e))
  | succ k ih =>
    intro i s acc c hk hi hst hS hacc hR
    have hlt : i < n := by omega
    refine codeAny_builtin F.entry_extend_loop ?_
    rw [Around.under_plainId F.plain_extend_loop _]
    show wpAny _ A.in1 (pyNext (.ref z) >>= _) _ _ s
    have hLs := Heap.lt_size hS
    have lw : ∀ b, b ∈ [z, TO, i1, i2] → b ≠ s.heap.objs.size := by
      obtain ⟨t1, t2, t3, ⟨_, _, t5⟩, t4⟩ := hst
      obtain ⟨o1, e1⟩ := D1.live _ _ t2
      obtain ⟨o2, e2⟩ := D2.live _ _ t3
      intro b hb
      simp only [List.mem_cons, List.not_mem_nil, or_false] at hb
      rcases hb with rfl | rfl | rfl | rfl
      · rcases t4 with hz | ⟨T, f, oT, hz, _⟩
        · exact Nat.ne_of_lt (Heap.lt_size hz)
        · exact Nat.ne_of_lt (Heap.lt_size hz)
      · exact Nat.ne_of_lt (Heap.lt_size t5)
      · exact Nat.ne_of_lt (Heap.lt_size e1)
      · exact Nat.ne_of_lt (Heap.lt_size e2)
    refine wpAny_bind (zst_item S D1 D2 hst hLs (by omega) (by omega) fun x y h' tk p1 p2 hst' hT hz' hm => ?_)
    have hS' := hm L _ hLw hS
    show wpAny _ A.in1 (updateSeq L (·.push _) >>= _) _ _ _
    refine wpAny_bind ?_
    have hnew : s.heap.objs.size ∉ [z, TO, i1, i2] := fun h => lw _ h rfl
    have keep1 : ∀ b o, b ≠ L → h'.get? b = some o → (h'.update L (Obj.mapSeq (·.push (.ref s.heap.objs.size)))).get? b = some o := fun b o hb e => (Heap.get?_update_other _ _ (fun h : L = b => hb h.symm)).trans e
    refine wpAny_updateSeq (s := { s with heap := h', toks := tk }) hS' rfl (wpAny_pure ⟨plainId_quiet F.plain_extend_loop _, ih (i + 1) _ (acc.push (.ref s.heap.objs.size)) _ (by omega) hlt (zst_frame D1 D2 hst' hL keep1) (Heap.get?_update_self _ hS' rfl) ⟨?_, ?_⟩ fun h'' tk' acc' c' hm'' hS'' hacc' => ?_⟩)
      (by rw [hacc.1]; omega) (by show (acc.push _).size ≤ sizeLine + 1; rw [Array.size_push, hacc.1]; omega)
    · rw [Array.size_push, hacc.1]
    · intro j v hj
      rw [Array.getElem?_push] at hj
      split at hj
      · rename_i e
        rw [hacc.1] at e
        cases hj
        subst e
        exact ⟨_, x, y, rfl, hnew, hLs, p1, p2, keep1 _ _ (Nat.ne_of_gt hLs) hT⟩
      · obtain ⟨T, x', y', e, n1, n2, q1, q2, t⟩ := hacc.2 j v hj
        exact ⟨T, x', y', e, n1, n2, q1, q2, keep1 _ _ (Nat.ne_of_gt n2) (hm _ _ n1 t)⟩
    · exact hR h'' tk' acc' c' (fun b o hb1 hb2 e => hm'' b o hb1 hb2 (keep1 b o hb1 (hm b o hb2 e))) hS'' hacc'
end
end My
end DL9_
section DL10_
set_option maxHeartbeats 1000000
namespace My
open PySem PySem.Spec PySem.W PyProof.Rows L2 LamX
open Sem (wp)
open AutoSeq1 (wpAny_loadPart')
/-- two walks that a zip draws from, at any depth -/
structure ZW (prog : Program) (w : World) (z TI TO i1 i2 : Addr) (fp1 fp2 : List Addr) (n1 n2 n : Nat) (P1 P2 : Nat → Value → Prop) (St1 St2 : Nat → Heap → Prop) : Prop where
  S : ZipSep2 z TI TO i1 i2 fp1 fp2
  d1 : ∀ A : Around, A.handled = none → Draws prog w A i1 fp1 n1 P1 St1
  d2 : ∀ A : Around, A.handled = none → Draws prog w A i2 fp2 n2 P2 St2
  l1 : n ≤ n1
  l2 : n ≤ n2
  en : n = n1 ∨ n = n2
  le : n ≤ sizeLine
section
variable {prog : Program} {w : World} {A : Around} {E : Value → Shared → Prop} {s : Shared} {R : Result → Shared → Prop} {z TI TO T i1 i2 : Addr} {fp1 fp2 : List Addr} {n1 n2 n : Nat} {P1 P2 : Nat → Value → Prop} {St1 St2 : Nat → Heap → Prop}
theorem zip_extend (W : ZW prog w z TI TO i1 i2 fp1 fp2 n1 n2 n P1 P2 St1 St2) (hh : A.handled = none) (L : Addr) (res : Value) (c₀ : Nat) (hst : ZSt z TI TO i1 i2 St1 St2 L 0 s.heap) (hL : L ∉ z :: TI :: TO :: (fp1 ++ fp2))
    (hS : s.heap.get? L = some { cls := .type "list", data := .seq #[] c₀ })
    (hR : ∀ h' tk acc' c', (∀ b o, b ≠ L → b ∉ [z, TO, i1, i2] → s.heap.get? b = some o → h'.get? b = some o) → h'.get? L = some { cls := .type "list", dict := none, data := .seq acc' c', slots := #[] } → ZAcc P1 P2 [z, TO, i1, i2] L acc' n h' → R (.ok (.ret res)) { s with heap := h', toks := tk }) :
    wpAny (model prog w) A.in1 (Builtin.List.listExtendWith (.ref L) (.ref z) res)
      (fun fin s' => match fin with | .done f => R (.ok f) s' | .again c' => c'.quiet = true ∧ codeAny (model prog w) A c' R s') (fun e s' => R (.error e) s') s := by
  have hSI : L ≠ z := fun e => hL (e ▸ List.mem_cons_self)
  have ty : ∀ {h : Heap}, ZSt z TI TO i1 i2 St1 St2 L 0 h → ∃ o, h.get? z = some o ∧ o.cls = .type "zip" := fun st => zst_type st
  have hT : s.TypeIs (.ref z) "zip" := ty hst
  have hz0 : ∀ {Q : Value → Shared → Prop} {E : Value → Shared → Prop}, Q (.ref z) s → wpAny (model prog w) A.in1 (pyIter (.ref z)) Q E s := fun {Q E} q => by
    refine wpAny_pyIter_slot hT F.slot_zip_iter (wpAny_call_entry F.slot_zip_iter hT F.entry_zip_iter ?_ (F.args_zip_iter_1 _))
    show wpAny _ _ (ret (.ref z)) _ _ s
    exact wpAny_pure ⟨_, rfl, "zip", _, hT, F.slot_zip_next.lookup, q⟩
  unfold Builtin.List.listExtendWith
  refine wpAny_bind (wpAny_typeOf hT ?_)
  have h1 : Builtin.List.listSameRef (.ref L) (.ref z) = false := by simp [Builtin.List.listSameRef, hSI]
  have h2 : (Value.type "zip" == Value.type "list") = false := by decide
  have h3 : (Value.type "zip" == Value.type "tuple") = false := by decide
  simp only [h1, h2, h3, Bool.or_false, Bool.false_eq_true, if_false]
  refine wpAny_bind (hz0 ?_)
  refine wpAny_bind (wpAny_holding ?_)
  unfold Builtin.List.listLengthHint
  refine wpAny_bind (wpAny_specialOf hT zip_no_len ?_)
  show wpAny _ A.in1 (specialOf (Value.ref z) (Str.ofString "__length_hint__") >>= _) _ _ _
  refine wpAny_bind (wpAny_specialOf hT zip_no_hint ?_)
  refine wpAny_pure ?_
  show wpAny _ A.in1 (rule "list.extend.makes-room" >>= fun _ => Builtin.List.listTouch (.ref L) >>= fun _ =>
    again (.builtin "list.extend.loop" ⟨[.ref L, .ref z, res], []⟩)) _ _ _
  refine wpAny_bind (wpAny_rule ?_)
  refine wpAny_bind ?_
  show wpAny _ A.in1 (updateSeq L (·.push .none) >>= fun _ => updateSeq L (·.pop)) _ _ _
  refine wpAny_bind (wpAny_updateSeq hS rfl ?_)
  have hS₂ := Heap.get?_update_self (Obj.mapSeq (·.push Value.none)) hS rfl
  refine wpAny_updateSeq (hz := by seq_fits) hS₂ rfl ?_
  have hS₃ := Heap.get?_update_self (Obj.mapSeq (·.pop)) hS₂ rfl
  have oth : ∀ b o, b ≠ L → s.heap.get? b = some o → ((s.heap.update L (Obj.mapSeq (·.push Value.none))).update L (Obj.mapSeq (·.pop))).get? b = some o :=
    fun b o hb e => (Heap.get?_update_other _ _ (Ne.symm hb)).trans ((Heap.get?_update_other _ _ (Ne.symm hb)).trans e)
  refine wpAny_pure ⟨plainId_quiet F.plain_extend_loop _, zip_loop W.S (W.d1 _ hh) (W.d2 _ hh) n W.l1 W.l2 W.en W.le L hL res n 0 _ _ _ rfl (Nat.zero_le _)
    (zst_frame (A := A) (W.d1 _ hh) (W.d2 _ hh) hst hL oth) hS₃ ⟨rfl, fun j v h => by simp at h⟩ fun h' tk acc' c' hm hS' hacc => ?_⟩
  exact hR h' tk acc' c' (fun b o hb1 hb2 e => hm b o hb1 hb2 (oth b o hb1 e)) hS' hacc
theorem zip_collect {Q : List Value → Shared → Prop} (W : ZW prog w z TI TO i1 i2 fp1 fp2 n1 n2 n P1 P2 St1 St2) (hh : A.handled = none) (hst : ∀ L, ZSt z TI TO i1 i2 St1 St2 L 0 s.heap) (hfp : ∀ b ∈ z :: TI :: TO :: (fp1 ++ fp2), b < s.heap.objs.size)
    (hQ : ∀ h' tk acc, (∀ b o, b < s.heap.objs.size → b ∉ [z, TO, i1, i2] → s.heap.get? b = some o → h'.get? b = some o) → s.heap.objs.size ≤ h'.objs.size → ZAcc P1 P2 [z, TO, i1, i2] s.heap.objs.size acc n h' → Q acc.toList { s with heap := h', toks := tk }) :
    wpAny (model prog w) A (collect (.ref z)) Q E s := by
  have hL : s.heap.objs.size ∉ z :: TI :: TO :: (fp1 ++ fp2) := fun hm => Nat.lt_irrefl _ (hfp _ hm)
  unfold collect
  refine wpAny_bind (wpAny_runValue (codeAny_builtin F.entry_proto_collect ?_))
  rw [Around.under_plainId F.plain_proto_collect _]
  show wpAny _ A.in1 (newList [] >>= fun l => again (.builtin "list.__iadd__" ⟨[l, .ref z], []⟩)) _ _ s
  refine wpAny_bind (wpAny_newObj_type ?_)
  refine wpAny_pure ⟨plainId_quiet F.plain_list_iadd _, codeAny_builtin F.entry_list_iadd ?_⟩
  rw [Around.under_plainId F.plain_list_iadd _]
  have hS₁ : (s.heap.push { cls := .type "list", data := .seq ([] : List Value).toArray }).get? s.heap.objs.size = some { cls := .type "list", data := .seq ([] : List Value).toArray } := Heap.get?_push_size _ rfl
  have hst₁ : ZSt z TI TO i1 i2 St1 St2 s.heap.objs.size 0 (s.heap.push { cls := .type "list", data := .seq ([] : List Value).toArray }) := zst_frame (A := A) (W.d1 _ hh) (W.d2 _ hh) (hst _) hL fun b o _ e => Heap.get?_push_of_some _ e
  show wpAny _ A.in1 (Builtin.List.listExtendWith (.ref s.heap.objs.size) (.ref z) (.ref s.heap.objs.size)) _ _ _
  refine wpAny_mono (zip_extend (s := { s with heap := s.heap.push { cls := .type "list", data := .seq ([] : List Value).toArray } }) (A := A) (R := fun r s' => ∃ h' tk acc' c', r = .ok (.ret (.ref s.heap.objs.size)) ∧ s' = { s with heap := h', toks := tk } ∧ (∀ b o, b < s.heap.objs.size → b ∉ [z, TO, i1, i2] → s.heap.get? b = some o → h'.get? b = some o) ∧
    h'.get? s.heap.objs.size = some { cls := .type "list", dict := none, data := .seq acc' c', slots := #[] } ∧ ZAcc P1 P2 [z, TO, i1, i2] s.heap.objs.size acc' n h') W hh s.heap.objs.size (.ref s.heap.objs.size) 0 hst₁ hL hS₁
    fun h' tk acc' c' hm hS' hacc => ⟨h', tk, acc', c', rfl, rfl, fun b o hb1 hb2 e => hm b o (Nat.ne_of_lt hb1) hb2 (Heap.get?_push_of_some _ e), hS', hacc⟩) (fun fin s' h => ?_) (fun e s' h => ?_)
  · have fin' : ∀ {r : Result} {s' : Shared}, (∃ h' tk acc' c', r = .ok (.ret (.ref s.heap.objs.size)) ∧ s' = { s with heap := h', toks := tk } ∧ (∀ b o, b < s.heap.objs.size → b ∉ [z, TO, i1, i2] → s.heap.get? b = some o → h'.get? b = some o) ∧
        h'.get? s.heap.objs.size = some { cls := .type "list", dict := none, data := .seq acc' c', slots := #[] } ∧ ZAcc P1 P2 [z, TO, i1, i2] s.heap.objs.size acc' n h') → r = .ok (.ret (.ref s.heap.objs.size)) ∧ wpAny (model prog w) A (match Value.ref s.heap.objs.size with
        | Value.ref a => do
          match (← load a).data with
            | Data.seq xs _ => pure xs.toList
            | _ => unsupported "internal:collect"
        | _ => unsupported "internal:collect") Q E s' := fun {r s'} h => by
      obtain ⟨h', tk, acc', c', e, es, hk, hS', hacc⟩ := h
      subst es
      refine ⟨e, ?_⟩
      show wpAny _ A (load s.heap.objs.size >>= _) _ _ _
      refine wpAny_bind (wpAny_load hS' ?_)
      exact wpAny_pure (hQ h' tk acc' hk (Nat.le_of_lt (Heap.lt_size hS')) hacc)
    cases fin with
    | done f =>
      obtain ⟨e, q⟩ := fin' h
      cases e
      exact q
    | again c' => exact ⟨h.1, codeAny_mono h.2 fun r s'' hr => by
        obtain ⟨e, q⟩ := fin' hr
        subst e
        exact q⟩
  · obtain ⟨_, _, _, _, e, _⟩ := h
    cases e
theorem call_tuple_zip {Q : Value → Shared → Prop} (W : ZW prog w z TI TO i1 i2 fp1 fp2 n1 n2 n P1 P2 St1 St2) (hh : A.handled = none) (hst : ∀ L, ZSt z TI TO i1 i2 St1 St2 L 0 s.heap) (hfp : ∀ b ∈ z :: TI :: TO :: (fp1 ++ fp2), b < s.heap.objs.size)
    (hQ : ∀ h' tk acc, (∀ b o, b < s.heap.objs.size → b ∉ [z, TO, i1, i2] → s.heap.get? b = some o → h'.get? b = some o) → s.heap.objs.size ≤ h'.objs.size → ZAcc P1 P2 [z, TO, i1, i2] s.heap.objs.size acc n h' → Q (.ref h'.objs.size) { s with heap := h'.push { cls := .type "tuple", data := .seq acc }, toks := tk }) :
    wpAny (model prog w) A (call (.type "tuple") [.ref z]) Q E s := by
  have hT : s.TypeIs (.ref z) "zip" := zst_type (hst 0)
  refine callType_codes (Q₁ := fun obj s₁ => s₁.TypeIs obj "tuple" ∧ Q obj s₁) F.called_tuple (F.typeCall_tuple_1 _) F.entry_object_init ?_ fun obj s₁ h₁ => ?_
  · refine codeAny_of_tree ?_
    show wpAny _ A.in1.in1 (do checkBuiltinCall "tuple.__new__" ⟨[.type "tuple", .ref z], []⟩; again (.builtin "tuple.__new__" ⟨[.type "tuple", .ref z], []⟩)) _ _ s
    refine wpAny_bind (wpAny_of_eq (F.newCall_tuple_1 _) (wpAny_pure ⟨plainId_quiet F.plain_tuple_new _, codeAny_builtin F.entry_tuple_new ?_⟩))
    rw [Around.under_plainId F.plain_tuple_new _]
    have hsub := sub_tuple_self
    have hinit := init_tuple_lookup
    have hmh := madeHere_tuple
    wp_walk using wpAny_typeOf hT, zip_collect (A := A.in1.in1) W hh hst hfp
    intro h' tk acc hk hle hacc
    show wpAny _ _ (Builtin.Tuple.tupleExact acc.toList.toArray >>= fun v => ret v) _ _ _
    unfold Builtin.Tuple.tupleExact
    refine wpAny_bind (wpAny_newObj_type ?_ (by show acc.toList.toArray.size ≤ sizeLine; simp only [Array.toArray_toList]; rw [hacc.1]; exact W.le))
    refine wpAny_pure ?_
    have e : acc.toList.toArray = acc := by simp
    rw [e]
    exact ⟨⟨_, Heap.get?_push_size _ rfl, rfl⟩, hQ h' tk acc hk hle hacc⟩
  · exact ⟨h₁.1, F.args_object_init_2 obj _, object_init_meets F.called_tuple.init.lookup F.called_tuple.made (by decide) prog w A.in1 _ s₁ ⟨h₁.1, rfl, h₁.2⟩⟩
theorem call_list_zip {Q : Value → Shared → Prop} (W : ZW prog w z TI TO i1 i2 fp1 fp2 n1 n2 n P1 P2 St1 St2) (hh : A.handled = none) (hst : ∀ L, ZSt z TI TO i1 i2 St1 St2 L 0 s.heap) (hfp : ∀ b ∈ z :: TI :: TO :: (fp1 ++ fp2), b < s.heap.objs.size)
    (hQ : ∀ h' tk acc c, (∀ b o, b < s.heap.objs.size → b ∉ [z, TO, i1, i2] → s.heap.get? b = some o → h'.get? b = some o) → h'.get? s.heap.objs.size = some { cls := .type "list", dict := none, data := .seq acc c, slots := #[] } → ZAcc P1 P2 [z, TO, i1, i2] s.heap.objs.size acc n h' → Q (.ref s.heap.objs.size) { s with heap := h', toks := tk }) :
    wpAny (model prog w) A (call (.type "list") [.ref z]) Q E s := by
  have hSf : s.heap.objs.size ∉ z :: TI :: TO :: (fp1 ++ fp2) := fun hm => Nat.lt_irrefl _ (hfp _ hm)
  refine callType_codes (Q₁ := fun obj s₁ => obj = .ref s.heap.objs.size ∧ s₁ = { s with heap := s.heap.push { cls := .type "list", data := .seq #[] } }) F.called_list (F.typeCall_list_1 _) F.entry_list_init
    (code_list_new _ ⟨rfl, rfl⟩) fun obj s₁ h₁ => ?_
  obtain ⟨rfl, rfl⟩ := h₁
  have hS : (s.heap.push { cls := .type "list", data := .seq #[] }).get? s.heap.objs.size = some { cls := .type "list", data := .seq #[] } := Heap.get?_push_size _ rfl
  have st1 : ZSt z TI TO i1 i2 St1 St2 s.heap.objs.size 0 (s.heap.push { cls := .type "list", data := .seq #[] }) := zst_frame (A := A) (W.d1 _ hh) (W.d2 _ hh) (hst _) hSf fun b o _ e => Heap.get?_push_of_some _ e
  refine ⟨⟨_, hS, rfl⟩, F.args_list_init_2 _ _, ?_⟩
  show wpAny _ A.in1.in1 (do let old ← Builtin.List.listItems (.ref s.heap.objs.size); Builtin.List.listUpdate (.ref s.heap.objs.size) (fun _ => #[]); letGo old.toList.reverse; Builtin.List.listExtendWith (.ref s.heap.objs.size) (.ref z) .none) _ _ _
  refine wpAny_bind ?_
  unfold Builtin.List.listItems
  refine wpAny_bind (wpAny_seqItems hS rfl (wpAny_pure ?_))
  show wpAny _ A.in1.in1 (updateSeq s.heap.objs.size (fun _ => #[]) >>= fun _ => letGo (#[] : Array Value).toList.reverse >>= fun _ => Builtin.List.listExtendWith (.ref s.heap.objs.size) (.ref z) .none) _ _ _
  refine wpAny_bind (wpAny_updateSeq hS rfl ?_)
  have hS₂ := Heap.get?_update_self (Obj.mapSeq (fun _ => (#[] : Array Value))) hS rfl
  have oth : ∀ b o, b ≠ s.heap.objs.size → (s.heap.push { cls := .type "list", data := .seq #[] }).get? b = some o → ((s.heap.push { cls := .type "list", data := .seq #[] }).update s.heap.objs.size (Obj.mapSeq (fun _ => (#[] : Array Value)))).get? b = some o :=
    fun b o hb e => (Heap.get?_update_other _ _ (Ne.symm hb)).trans e
  refine wpAny_bind (wpAny_letGo ?_)
  refine zip_extend (A := A.in1) (s := { s with heap := (s.heap.push { cls := .type "list", data := .seq #[] }).update s.heap.objs.size (Obj.mapSeq (fun _ => (#[] : Array Value))) }) W hh s.heap.objs.size .none _ (zst_frame (A := A) (W.d1 _ hh) (W.d2 _ hh) st1 hSf oth) hSf hS₂ fun h' tk acc' c' hm hS' hacc => ?_
  exact ⟨rfl, hQ h' tk acc' c' (fun b o hb1 hb2 e => hm b o (Nat.ne_of_lt hb1) hb2 (oth b o (Nat.ne_of_lt hb1) (Heap.get?_push_of_some _ e))) hS' hacc⟩
end
end My
end DL10_
section DL11_
set_option maxHeartbeats 1000000
namespace My
open PySem PySem.Spec PySem.W PyProof.Rows L2 LamX
/-- many new objects at once -/
theorem Inv_grow {X : Cx} {pins : List (Addr × Obj)} {σ : List (Option V)} {H H2 : Hp} {s : Shared} {h' : Heap} {t' : Nat} (I : L2.Inv X pins σ H s) (k : ∀ b u, s.heap.get? b = some u → h'.get? b = some u) (old : ∀ b, b < s.heap.objs.size → H2 b = H b)
    (new : ∀ a o, s.heap.objs.size ≤ a → H2 a = some o → ObjOk X.prog X.w H2 h' a o) : L2.Inv X pins σ H2 { s with heap := h', toks := t' } := by
  have ol : ∀ b o, H b = some o → H2 b = some o := fun b o e => by rw [old b (I.hok.lt e)]; exact e
  refine I.un ⟨fun b u q _ _ _ => k b u q, fun b u q _ _ _ => ⟨u.slots, k b u q⟩, fun b u q n _ => by rw [old b (Heap.lt_size q)]; exact n, fun b u q _ => ⟨u, k b u q⟩, fun b xs q => ol b _ q, fun b o u q => ol b _ q, fun b ps q => ⟨#[], by rw [ol b _ q]; simp⟩⟩ fun a o e => ?_
  by_cases ha : s.heap.objs.size ≤ a
  · exact new a o ha e
  · have e2 : H a = some o := by rw [← old a (by omega)]; exact e
    exact (I.hok a o e2).stay (fun c v _ q => k c v q) (fun c q => ol c _ q) fun c xs q => ol c _ q
/-- the pairs xs[j], ys[j] in a new list or tuple at p -/
structure PairsNew (H1 H2 : Hp) (p : Addr) (mk : List V → HO) (xs ys : List V) : Prop where
  new : H1 p = none
  old : ∀ b, H1 b ≠ none → H2 b = H1 b
  its : ∃ Ts : List Addr, H2 p = some (mk (Ts.map V.ref)) ∧ Ts.length = min xs.length ys.length ∧ ∀ (j : Nat) T, Ts[j]? = some T → H1 T = none ∧ ∃ x y, xs[j]? = some x ∧ ys[j]? = some y ∧ H2 T = some (.tup [x, y])
  fl : ∀ b o, H1 b = none → H2 b = some o → ∀ ps, o ≠ .tbl ps
/-- the heap behind it -/
def pairsAt (H : Hp) (p : Addr) (mk : List V → HO) : List Addr → List V → List V → Hp
  | T :: Ts, x :: xs, y :: ys => upd (pairsAt H p mk Ts xs ys) T (.tup [x, y])
  | _, _, _ => H
def tZip (K : PySem.W.Frag) (mk : List V → HO) (ta : TA) : TE := fun σ H Q => ta σ H fun vs H1 => ∃ a b xs ys, vs = [.ref a, .ref b] ∧ ((SqL K H1 a xs ∧ SqL K H1 b ys) ∨ (SqT K H1 a xs ∧ SqT K H1 b ys)) ∧ ∀ p H2, PairsNew H1 H2 p mk xs ys → Q (.ref p) H2
/-- the made pairs, as objects -/
theorem acc_addr {P1 P2 : Nat → Value → Prop} {wr : List Addr} {L : Addr} {acc : Array Value} {n : Nat} {h : Heap} (a : ZAcc P1 P2 wr L acc n h) : ∃ Ts : List Addr, acc.toList = Ts.map Value.ref := by
  have : ∀ l : List Value, (∀ v ∈ l, ∃ T, v = Value.ref T) → ∃ Ts : List Addr, l = Ts.map Value.ref := fun l => by
    induction l with
    | nil => exact fun _ => ⟨[], rfl⟩
    | cons v l ih =>
      intro hl
      obtain ⟨T, e⟩ := hl v (by simp)
      obtain ⟨Ts, e2⟩ := ih fun v hv => hl v (by simp [hv])
      exact ⟨T :: Ts, by rw [e, e2]; rfl⟩
  refine this _ fun v hv => ?_
  obtain ⟨j, hj⟩ := List.mem_iff_getElem?.mp hv
  obtain ⟨T, x, y, e, _⟩ := a.2 j v (by simpa using hj)
  exact ⟨T, e⟩
open Classical in
/-- what is laid at T -/
noncomputable def pairHp (H1 : Hp) (p : Addr) (o : HO) (Ts : List Addr) (xs ys : List V) : Hp := fun b =>
  if b = p then some o else if h : ∃ (j : Nat) (x y : V), Ts[j]? = some b ∧ xs[j]? = some x ∧ ys[j]? = some y then
    some (.tup [h.choose_spec.choose, h.choose_spec.choose_spec.choose]) else H1 b
theorem pair_inv {X : Cx} {pins : List (Addr × Obj)} {σ : List (Option V)} {H1 : Hp} {s : Shared} {h' : Heap} {t' : Nat} {p : Addr} {mk : List V → HO} {Ts : List Addr} {xs ys : List V} {us vs : List Value} {acc : Array Value} {wr : List Addr} (L : Addr)
    (I : L2.Inv X pins σ H1 s) (k : ∀ b u, s.heap.get? b = some u → h'.get? b = some u) (hp : s.heap.objs.size ≤ p) (hL : s.heap.objs.size ≤ L) (rx : Vals xs us) (ry : Vals ys vs) (hz : min xs.length ys.length ≤ sizeLine)
    (ha : ZAcc (fun i v => us.toArray[i]? = some v) (fun i v => vs.toArray[i]? = some v) wr L acc (min us.length vs.length) h') (hT : acc.toList = Ts.map Value.ref) (hpT : p ∉ Ts)
    (mkO : ∀ H2, ObjOk X.prog X.w H2 h' p (mk (Ts.map V.ref))) (mkT : ∀ zs ps, mk zs ≠ .tbl ps) : ∃ H2, PairsNew H1 H2 p mk xs ys ∧ L2.Inv X pins σ H2 { s with heap := h', toks := t' } := by
  have lx := rx.length
  have ly := ry.length
  have lT : Ts.length = min xs.length ys.length := by
    have e1 : acc.toList.length = Ts.length := by rw [hT, List.length_map]
    have e2 := ha.1
    rw [Array.length_toList] at e1
    omega
  have at_ : ∀ (j : Nat) T, Ts[j]? = some T → L < T ∧ ∃ x y u v, xs[j]? = some x ∧ ys[j]? = some y ∧ RelV x u ∧ RelV y v ∧ IsTupOf2 h' T u v := fun j T e => by
    obtain ⟨T', u, v, e1, _, n2, p1, p2, t⟩ := ha.2 j (.ref T) (by
      have e3 : acc.toList[j]? = some (.ref T) := by rw [hT, List.getElem?_map, e]; rfl
      simpa using e3)
    cases e1
    have hj : j < Ts.length := (List.getElem?_eq_some_iff.mp e).1
    have p1' : us[j]? = some u := by simpa using p1
    have p2' : vs[j]? = some v := by simpa using p2
    obtain ⟨x, hx⟩ : ∃ x, xs[j]? = some x := ⟨_, List.getElem?_eq_getElem (by omega)⟩
    obtain ⟨y, hy⟩ : ∃ y, ys[j]? = some y := ⟨_, List.getElem?_eq_getElem (by omega)⟩
    obtain ⟨u', hu', ru⟩ := rx.get hx
    obtain ⟨v', hv', rv⟩ := ry.get hy
    rw [p1'] at hu'
    rw [p2'] at hv'
    cases hu'; cases hv'
    exact ⟨n2, x, y, u, v, hx, hy, ru, rv, t⟩
  have hpair : ∀ (j : Nat) T x y, Ts[j]? = some T → xs[j]? = some x → ys[j]? = some y → pairHp H1 p (mk (Ts.map V.ref)) Ts xs ys T = some (.tup [x, y]) := fun j T x y e1 e2 e3 => by
    have ne : T ≠ p := fun z => hpT (z ▸ List.mem_of_getElem? e1)
    have hex : ∃ (j : Nat) (x y : V), Ts[j]? = some T ∧ xs[j]? = some x ∧ ys[j]? = some y := ⟨j, x, y, e1, e2, e3⟩
    unfold pairHp
    rw [if_neg ne, dif_pos hex]
    have q := hex.choose_spec.choose_spec.choose_spec
    obtain ⟨_, x1, y1, u1, v1, f1, f2, r1, r2, t1⟩ := at_ j T e1
    obtain ⟨_, x2, y2, u2, v2, g1, g2, s1, s2, t2⟩ := at_ _ T q.1
    rw [e2] at f1; cases f1
    rw [e3] at f2; cases f2
    rw [q.2.1] at g1; cases g1
    rw [q.2.2] at g2; cases g2
    have e4 := Option.some.inj (t1.symm.trans t2)
    injection e4 with _ _ e5
    have e6 : (#[u1, v1] : Array Value) = #[u2, v2] := by injection e5
    have e7 : u1 = u2 ∧ v1 = v2 := by simpa using e6
    obtain ⟨rfl, rfl⟩ := e7
    rw [r1.inj s1, r2.inj s2]
  have fr : ∀ b, s.heap.objs.size ≤ b → H1 b = none := fun b hb => I.hok.fresh hb
  have low : ∀ b, b < s.heap.objs.size → pairHp H1 p (mk (Ts.map V.ref)) Ts xs ys b = H1 b := fun b hb => by
    unfold pairHp
    rw [if_neg (fun z => by rw [z] at hb; omega), dif_neg]
    rintro ⟨j, x, y, e, _⟩
    exact absurd (Nat.lt_of_le_of_lt hL (at_ j b e).1) (Nat.not_lt_of_lt hb)
  have new : ∀ b o, s.heap.objs.size ≤ b → pairHp H1 p (mk (Ts.map V.ref)) Ts xs ys b = some o → (b = p ∧ o = mk (Ts.map V.ref)) ∨ ∃ (j : Nat) (x y : V), Ts[j]? = some b ∧ xs[j]? = some x ∧ ys[j]? = some y ∧ o = .tup [x, y] := fun b o hb e => by
    by_cases z : b = p
    · unfold pairHp at e
      rw [if_pos z] at e
      cases e
      exact .inl ⟨z, rfl⟩
    · by_cases hex : ∃ (j : Nat) (x y : V), Ts[j]? = some b ∧ xs[j]? = some x ∧ ys[j]? = some y
      · obtain ⟨j, x, y, e1, e2, e3⟩ := hex
        rw [hpair j b x y e1 e2 e3] at e
        cases e
        exact .inr ⟨j, x, y, e1, e2, e3, rfl⟩
      · unfold pairHp at e
        rw [if_neg z, dif_neg hex, fr b hb] at e
        cases e
  refine ⟨pairHp H1 p (mk (Ts.map V.ref)) Ts xs ys, ⟨fr p hp, fun b hb => low b ?_, ⟨Ts, ?_, lT, fun j T e => ?_⟩, fun b o h1 e ps => ?_⟩, Inv_grow I k low fun a o h1 e => ?_⟩
  · cases Nat.lt_or_ge b s.heap.objs.size with
    | inl h => exact h
    | inr h => exact absurd (fr b h) hb
  · unfold pairHp
    rw [if_pos rfl]
  · obtain ⟨n2, x, y, u, v, hx, hy, _⟩ := at_ j T e
    exact ⟨fr T (Nat.le_of_lt (Nat.lt_of_le_of_lt hL n2)), x, y, hx, hy, hpair j T x y e hx hy⟩
  · have hb : s.heap.objs.size ≤ b := by
      cases Nat.lt_or_ge b s.heap.objs.size with
      | inl h => rw [low b h, h1] at e; cases e
      | inr h => exact h
    rcases new b o hb e with ⟨_, rfl⟩ | ⟨_, _, _, _, _, _, rfl⟩
    · exact mkT _ _
    · exact fun z => by cases z
  · rcases new a o h1 e with ⟨rfl, rfl⟩ | ⟨j, x, y, e1, e2, e3, rfl⟩
    · exact mkO _
    · obtain ⟨_, x1, y1, u1, v1, f1, f2, r1, r2, t1⟩ := at_ j a e1
      rw [e2] at f1; cases f1
      rw [e3] at f2; cases f2
      exact ⟨by show 2 ≤ sizeLine; decide, [u1, v1], .cons r1 (.cons r2 .nil), ⟨_, t1, rfl, _, rfl⟩⟩
theorem vals_refs : ∀ Ts : List Addr, Vals (Ts.map V.ref) (Ts.map Value.ref)
  | [] => .nil
  | T :: Ts => .cons rfl (vals_refs Ts)
section
variable {X : Cx} {e e2 : Expr} {ta : TA} {p p2 pos pos2 : Pos}
/-- the zip is made: what its call leaves -/
theorem zip_call {prog : Program} {w : World} {A : Around} {E : Value → Shared → Prop} {s : Shared} {a b : Addr} {us vs : List Value} {Q : Value → Shared → Prop} (hm : us.length ≤ sizeLine)
    (h : (s.heap.IsList a us.toArray ∧ s.heap.IsList b vs.toArray) ∨ (s.heap.IsTuple a us.toArray ∧ s.heap.IsTuple b vs.toArray))
    (hQ : ∀ (h' : Heap) (z TI TO i1 i2 : Addr) (fp1 fp2 : List Addr) (St1 St2 : Nat → Heap → Prop), ZW prog w z TI TO i1 i2 fp1 fp2 us.length vs.length (min us.length vs.length) (fun i v => us.toArray[i]? = some v) (fun i v => vs.toArray[i]? = some v) St1 St2 →
      (∀ L, ZSt z TI TO i1 i2 St1 St2 L 0 h') → (∀ b ∈ z :: TI :: TO :: (fp1 ++ fp2), b < h'.objs.size) → (∀ c ∈ [z, TO, i1, i2], s.heap.objs.size ≤ c) → s.heap.objs.size ≤ h'.objs.size → (∀ b o, s.heap.get? b = some o → h'.get? b = some o) → Q (.ref z) { s with heap := h' }) :
    wpAny (model prog w) A (call (.type "zip") [.ref a, .ref b]) Q E s := by
  have mem4 : ∀ N : Nat, ∀ c ∈ [N + 4, N + 3, N, N + 1], N ≤ c := fun N c hc => by
    simp only [List.mem_cons, List.not_mem_nil, or_false] at hc
    omega
  have lt5 : ∀ {N a b z : Nat}, a < N → b < N → ∀ c ∈ (N + 4) :: (N + 2) :: (N + 3) :: ([N, a] ++ [N + 1, b]), c < N + 5 := fun {N a b z} ha hb c hc => by
    simp only [List.cons_append, List.nil_append, List.mem_cons, List.not_mem_nil, or_false] at hc
    omega
  have en : min us.length vs.length = us.length ∨ min us.length vs.length = vs.length := by omega
  have e1 : us.toArray.size = us.length := by simp
  have e2 : vs.toArray.size = vs.length := by simp
  rcases h with ⟨ha, hb⟩ | ⟨ha, hb⟩
  · have la : a < s.heap.objs.size := let ⟨_, q, _⟩ := ha; Heap.lt_size q
    have lb : b < s.heap.objs.size := let ⟨_, q, _⟩ := hb; Heap.lt_size q
    refine zip_begins2 (begins_list a us.toArray) (begins_list b vs.toArray) ha hb fun h' hz hTI hTO g1 g2 hsz hk => ?_
    refine hQ h' _ _ _ _ _ _ _ (fun i h => h.IsListIter s.heap.objs.size a i ∧ h.IsList a us.toArray) (fun i h => h.IsListIter (s.heap.objs.size + 1) b i ∧ h.IsList b vs.toArray) ⟨zip_sep2 (N := s.heap.objs.size) (fp1 := [a]) (fp2 := [b]) (by simpa using la) (by simpa using lb), fun A hh => by rw [← e1]; exact Draws.list hh s.heap.objs.size a (Nat.ne_of_lt la) us.toArray, fun A hh => by rw [← e2]; exact Draws.list hh (s.heap.objs.size + 1) b (Nat.ne_of_lt (Nat.lt_succ_of_lt lb)) vs.toArray, Nat.min_le_left .., Nat.min_le_right .., en, Nat.le_trans (Nat.min_le_left ..) hm⟩
      (fun L => ⟨hTI, And.intro ⟨_, g1, rfl, rfl⟩ (ha.at fun o q => hk a o q), And.intro ⟨_, g2, rfl, rfl⟩ (hb.at fun o q => hk b o q), ⟨_, _, hTO⟩, .inl hz⟩) (by rw [hsz]; exact lt5 (z := 0) la lb) (mem4 _) (by rw [hsz]; exact Nat.le_add_right _ _) hk
  · have la : a < s.heap.objs.size := let ⟨_, q, _⟩ := ha; Heap.lt_size q
    have lb : b < s.heap.objs.size := let ⟨_, q, _⟩ := hb; Heap.lt_size q
    refine zip_begins2 (begins_tuple a us.toArray) (begins_tuple b vs.toArray) ha hb fun h' hz hTI hTO g1 g2 hsz hk => ?_
    refine hQ h' _ _ _ _ _ _ _ (fun i h => h.IsTupleIter s.heap.objs.size a i ∧ h.IsTuple a us.toArray) (fun i h => h.IsTupleIter (s.heap.objs.size + 1) b i ∧ h.IsTuple b vs.toArray) ⟨zip_sep2 (N := s.heap.objs.size) (fp1 := [a]) (fp2 := [b]) (by simpa using la) (by simpa using lb), fun A hh => by rw [← e1]; exact Draws.tuple hh s.heap.objs.size a (Nat.ne_of_lt la) us.toArray, fun A hh => by rw [← e2]; exact Draws.tuple hh (s.heap.objs.size + 1) b (Nat.ne_of_lt (Nat.lt_succ_of_lt lb)) vs.toArray, Nat.min_le_left .., Nat.min_le_right .., en, Nat.le_trans (Nat.min_le_left ..) hm⟩
      (fun L => ⟨hTI, And.intro ⟨_, g1, rfl, rfl⟩ (ha.at fun o q => hk a o q), And.intro ⟨_, g2, rfl, rfl⟩ (hb.at fun o q => hk b o q), ⟨_, _, hTO⟩, .inl hz⟩) (by rw [hsz]; exact lt5 (z := 0) la lb) (mem4 _) (by rw [hsz]; exact Nat.le_add_right _ _) hk
theorem zip_in {pins : List (Addr × Obj)} {σ : List (Option V)} {H1 : Hp} {s : Shared} {xs ys : List V} {a b : Addr} (I : L2.Inv X pins σ H1 s) (h : (SqL X.K H1 a xs ∧ SqL X.K H1 b ys) ∨ (SqT X.K H1 a xs ∧ SqT X.K H1 b ys)) :
    ∃ us vs : List Value, Vals xs us ∧ Vals ys vs ∧ us.length ≤ sizeLine ∧ ((s.heap.IsList a us.toArray ∧ s.heap.IsList b vs.toArray) ∨ (s.heap.IsTuple a us.toArray ∧ s.heap.IsTuple b vs.toArray)) := by
  rcases h with ⟨h1, h2⟩ | ⟨h1, h2⟩
  · obtain ⟨us, r1, p1, z1⟩ := I.list h1
    obtain ⟨vs, r2, p2, z2⟩ := I.list h2
    exact ⟨us, vs, r1, r2, by rw [← r1.length]; exact z1, .inl ⟨p1.isList, p2.isList⟩⟩
  · obtain ⟨us, r1, p1, z1⟩ := I.tuple h1
    obtain ⟨vs, r2, p2, z2⟩ := I.tuple h2
    exact ⟨us, vs, r1, r2, by rw [← r1.length]; exact z1, .inr ⟨p1, p2⟩⟩
theorem pe_tupZip (hT : Gl X "tuple") (mT : X.mg "tuple" = none) (hg : Gl X "zip") (hm : X.mg "zip" = none) (hc : X.calm = true) (ha : PA X [e, e2] ta) (hs : starEach [e, e2] X.env = (false, eval e X.env) :: starEach [e2] X.env := by rfl) (hpl : (backTo pos2 (starEach [e2] X.env)).any (·.1) = false := by rfl)
    (hs2 : starEach [.Call (.Name "zip" p2) [e, e2] [] pos2] X.env = [(false, eval (.Call (.Name "zip" p2) [e, e2] [] pos2) X.env)] := by rfl) : PE X (.Call (.Name "tuple" p) [.Call (.Name "zip" p2) [e, e2] [] pos2] [] pos) (tZip X.K .tup ta) := by
  refine ⟨fun pins s σ H Q I h => ?_⟩
  refine wpAny_Call_Name_kw (ld_blt I hT mT boot_tuple ?_)
  refine PyProof.Rows.callWith_type1 ?_ hs2 rfl
  rw [hs2]
  refine Calls.spliced_cons ?_
  refine wpAny_Call_Name_kw (ld_blt I hg hm PyProof.Rows.boot_zip (PyProof.Rows.callWith_type1 (thn (ha.run pos2 pins s σ H _ I h) fun us s1 ⟨vs, H1, I1, r1, q1⟩ => ?_) hs hpl))
  obtain ⟨a, b, xs, ys, ex, hq, q⟩ := q1
  subst ex
  cases r1 with
  | cons r rr => cases rr with
    | cons r' rr =>
      cases rr
      cases r
      cases r'
      obtain ⟨us, vs, r1, r2, z1, hin⟩ := zip_in I1 hq
      refine zip_call z1 hin fun h' z TI TO i1 i2 fp1 fp2 St1 St2 W st hfp h4 hsz hk => ?_
      refine Calls.spliced_nil ?_
      have hh : X.A.handled = none := I1.ok.hd hc
      refine call_tuple_zip (s := { s1 with heap := h' }) W hh st hfp fun h'' tk acc hk2 hsz2 hacc => ?_
      obtain ⟨Ts, hTs⟩ := acc_addr hacc
      have k : ∀ b u, s1.heap.get? b = some u → (h''.push { cls := .type "tuple", data := .seq acc }).get? b = some u := fun b u e => by
        have hb := Heap.lt_size e
        exact Heap.get?_push_of_some _ (hk2 b u (Nat.lt_of_lt_of_le hb hsz) (fun m => absurd (h4 b m) (Nat.not_le_of_lt hb)) (hk b u e))
      have hacc2 := hacc.keep (h' := h''.push { cls := .type "tuple", data := .seq acc }) fun b o _ _ e => Heap.get?_push_of_some _ e
      have hlt : ∀ T ∈ Ts, T < h''.objs.size := fun T hT => by
        obtain ⟨j, hj⟩ := List.mem_iff_getElem?.mp hT
        obtain ⟨T', _, _, e1, _, _, _, _, t⟩ := hacc.2 j (.ref T) (by
          have e3 : acc.toList[j]? = some (.ref T) := by rw [hTs, List.getElem?_map, hj]; rfl
          simpa using e3)
        cases e1
        exact Heap.lt_size t
      have l1 := r1.length
      have l2 := r2.length
      obtain ⟨H2, hP, I2⟩ := pair_inv (t' := tk) (mk := .tup) (p := h''.objs.size) h'.objs.size I1 k (Nat.le_trans hsz hsz2) hsz r1 r2 (by have := W.le; omega) hacc2 hTs (fun m => Nat.lt_irrefl _ (hlt _ m)) (fun H2 => by
        refine ⟨?_, acc.toList, ?_, ⟨_, Heap.get?_push_size _ rfl, rfl, 0, by simp⟩⟩
        · rw [List.length_map]
          have e := congrArg List.length hTs
          rw [List.length_map, Array.length_toList, hacc.1] at e
          rw [← e]
          exact W.le
        · rw [hTs]
          exact vals_refs Ts) (fun zs ps z => by cases z)
      exact ⟨.ref h''.objs.size, H2, I2, rfl, q _ _ hP⟩
theorem pe_lstZip (hT : Gl X "list") (mT : X.mg "list" = none) (hg : Gl X "zip") (hm : X.mg "zip" = none) (hc : X.calm = true) (ha : PA X [e, e2] ta) (hs : starEach [e, e2] X.env = (false, eval e X.env) :: starEach [e2] X.env := by rfl) (hpl : (backTo pos2 (starEach [e2] X.env)).any (·.1) = false := by rfl)
    (hs2 : starEach [.Call (.Name "zip" p2) [e, e2] [] pos2] X.env = [(false, eval (.Call (.Name "zip" p2) [e, e2] [] pos2) X.env)] := by rfl) : PE X (.Call (.Name "list" p) [.Call (.Name "zip" p2) [e, e2] [] pos2] [] pos) (tZip X.K .lst ta) := by
  refine ⟨fun pins s σ H Q I h => ?_⟩
  refine wpAny_Call_Name_kw (ld_blt I hT mT boot_list ?_)
  refine PyProof.Rows.callWith_type1 ?_ hs2 rfl
  rw [hs2]
  refine Calls.spliced_cons ?_
  refine wpAny_Call_Name_kw (ld_blt I hg hm PyProof.Rows.boot_zip (PyProof.Rows.callWith_type1 (thn (ha.run pos2 pins s σ H _ I h) fun us s1 ⟨vs, H1, I1, r1, q1⟩ => ?_) hs hpl))
  obtain ⟨a, b, xs, ys, ex, hq, q⟩ := q1
  subst ex
  cases r1 with
  | cons r rr => cases rr with
    | cons r' rr =>
      cases rr
      cases r
      cases r'
      obtain ⟨us, vs, r1, r2, z1, hin⟩ := zip_in I1 hq
      refine zip_call z1 hin fun h' z TI TO i1 i2 fp1 fp2 St1 St2 W st hfp h4 hsz hk => ?_
      refine Calls.spliced_nil ?_
      have hh : X.A.handled = none := I1.ok.hd hc
      refine call_list_zip (s := { s1 with heap := h' }) W hh st hfp fun h'' tk acc c hk2 hS hacc => ?_
      obtain ⟨Ts, hTs⟩ := acc_addr hacc
      have k : ∀ b u, s1.heap.get? b = some u → h''.get? b = some u := fun b u e => by
        have hb := Heap.lt_size e
        exact hk2 b u (Nat.lt_of_lt_of_le hb hsz) (fun m => absurd (h4 b m) (Nat.not_le_of_lt hb)) (hk b u e)
      have hnp : h'.objs.size ∉ Ts := fun hT => by
        obtain ⟨j, hj⟩ := List.mem_iff_getElem?.mp hT
        obtain ⟨T', _, _, e1, _, hlt, _⟩ := hacc.2 j (.ref h'.objs.size) (by
          have e3 : acc.toList[j]? = some (.ref h'.objs.size) := by rw [hTs, List.getElem?_map, hj]; rfl
          simpa using e3)
        cases e1
        exact Nat.lt_irrefl _ hlt
      have l1 := r1.length
      have l2 := r2.length
      obtain ⟨H2, hP, I2⟩ := pair_inv (t' := tk) (mk := .lst) (p := h'.objs.size) h'.objs.size I1 k hsz hsz r1 r2 (by have := W.le; omega) hacc hTs hnp (fun H2 => by
        refine ⟨?_, acc.toList, c, ?_, by simpa using hS⟩
        · rw [List.length_map]
          have e := congrArg List.length hTs
          rw [List.length_map, Array.length_toList, hacc.1] at e
          rw [← e]
          exact W.le
        · rw [hTs]
          exact vals_refs Ts) (fun zs ps z => by cases z)
      exact ⟨.ref h'.objs.size, H2, I2, rfl, q _ _ hP⟩
end
section
variable {c : Ctx} {B H1 H2 : Hp}
/-- many new things: they may all be read -/
theorem step_many (C : Cur c B H1) (old : ∀ b, H1 b ≠ none → H2 b = H1 b) (fl : ∀ b o, H1 b = none → H2 b = some o → ∀ ps, o ≠ .tbl ps) : ∃ B2, Step c B H1 B2 H2 ∧ ∀ b o, H1 b = none → H2 b = some o → B2 b = some o := by
  have ol : ∀ b o, H1 b = some o → H2 b = some o := fun b o e => by rw [old b (by rw [e]; exact fun z => by cases z)]; exact e
  have ex12 : Ex H1 H2 := ⟨fun b o e _ => ol b o e, fun b e => by rw [old b e]; exact e⟩
  let B2 : Hp := fun b => if (H1 b).isNone = true then H2 b else B b
  have b1 : ∀ b, H1 b = none → B2 b = H2 b := fun b e => if_pos (by rw [e]; rfl)
  have b2 : ∀ b, H1 b ≠ none → B2 b = B b := fun b e => if_neg (by cases q : H1 b with | none => exact absurd q e | some o => simp)
  have bx : Ex B B2 := ⟨fun b o e _ => by rw [b2 b (by rw [C.sub b o e]; exact fun z => by cases z)]; exact e, fun b e => by
    cases q : B b with
    | none => exact absurd q e
    | some o => rw [b2 b (by rw [C.sub b o q]; exact fun z => by cases z), q]; exact fun z => by cases z⟩
  refine ⟨B2, ⟨⟨fun b o e => ?_, C.ex0.trans ex12, C.bex.trans bx, fun a h1 h2 => ?_, C.tab.ext ol, fun a ha => ?_⟩, bx, ex12, fun a h1 h2 => ?_⟩, fun b o e1 e2 => (b1 b e1).trans e2⟩
  · by_cases q : H1 b = none
    · rw [b1 b q] at e; exact e
    · rw [b2 b q] at e; exact ol b o (C.sub b o e)
  · have q : H1 a ≠ none := C.ex0.live a h2
    rw [b2 a q] at h1
    exact C.out a h1 h2
  · obtain ⟨r1, r2, r3⟩ := C.reel a ha
    exact ⟨by rw [old a r1]; exact r1, by rw [b2 a r1]; exact r2, r3⟩
  · rw [b2 a h2] at h1
    exact h1
theorem dp_pairs {K : PySem.W.Frag} {B : Hp} {xs ys : List V} {ds es : List PyData} (a1 : DpAll K B xs ds) (a2 : DpAll K B ys es) : ∀ (n : Nat) (Ts : List Addr), n + Ts.length = min xs.length ys.length → (∀ (j : Nat) T, Ts[j]? = some T → ∃ x y, xs[n + j]? = some x ∧ ys[n + j]? = some y ∧ B T = some (.tup [x, y])) →
    DpAll K B (Ts.map V.ref) (((ds.drop n).zip (es.drop n)).map fun p => .tuple [p.1, p.2])
  | n, [], hl, _ => by
    have l1 := My.DpAll.length a1
    have l2 := My.DpAll.length a2
    have : (ds.drop n).zip (es.drop n) = [] := by
      apply List.eq_nil_of_length_eq_zero
      simp only [List.length_zip, List.length_drop]
      simp only [List.length_nil] at hl
      omega
    rw [this]
    exact .nil
  | n, T :: Ts, hl, h => by
    obtain ⟨x, y, h1, h2, h3⟩ := h 0 T rfl
    obtain ⟨d, e1, d1⟩ := DpAll.get a1 (by simpa using h1)
    obtain ⟨e, e2, d2⟩ := DpAll.get a2 (by simpa using h2)
    have ed : ds.drop n = d :: ds.drop (n + 1) := by
      obtain ⟨hn, q⟩ := List.getElem?_eq_some_iff.mp e1
      rw [List.drop_eq_getElem_cons hn, q]
    have ee : es.drop n = e :: es.drop (n + 1) := by
      obtain ⟨hn, q⟩ := List.getElem?_eq_some_iff.mp e2
      rw [List.drop_eq_getElem_cons hn, q]
    rw [ed, ee, List.zip_cons_cons, List.map_cons, List.map_cons]
    refine .cons (.tup (SqT.of h3) (.cons d1 (.cons d2 .nil))) (dp_pairs a1 a2 (n + 1) Ts (by simp only [List.length_cons] at hl; omega) fun j T' q => ?_)
    obtain ⟨x', y', q1, q2, q3⟩ := h (j + 1) T' (by simpa using q)
    exact ⟨x', y', by rw [← q1]; congr 1; omega, by rw [← q2]; congr 1; omega, q3⟩
end
section
variable {c : Ctx} {Γ : Env'} {P : Dat → Env' → Prop} {ta : TA}
theorem ee_zipT (h : EA c ta Γ fun xs Γ1 => ∃ ds es, xs = [dT ds, dT es] ∧ P (dT ((ds.zip es).map fun p => .tuple [p.1, p.2])) Γ1) : EE c (tZip c.K .tup ta) Γ P := fun σ B H C E Q q =>
  h σ B H C E _ fun vs B1 H1 xs Γ1 s1 d1 ⟨ds, es, e, p⟩ => by
    subst e
    cases d1 with
    | cons d d' => cases d' with
      | cons d2 d3 =>
        cases d3
        cases d with
        | tup h1 a1 => cases d2 with
          | tup h2 a2 =>
            refine ⟨_, _, _, _, rfl, .inr ⟨sqT_mono s1.cur.sub.ex h1, sqT_mono s1.cur.sub.ex h2⟩, fun p H2 N => ?_⟩
            obtain ⟨B2, st, nw⟩ := step_many s1.cur N.old N.fl
            obtain ⟨Ts, t1, t2, t3⟩ := N.its
            refine q _ B2 H2 _ Γ1 (s1.step st) ?_ ‹_›
            have := dp_pairs (DpAll.mono st.b a1) (DpAll.mono st.b a2) 0 Ts (by omega) fun j T e => by
              obtain ⟨n1, x, y, e1, e2, e3⟩ := t3 j T e
              exact ⟨x, y, by simpa using e1, by simpa using e2, nw _ _ n1 e3⟩
            exact .tup (SqT.of (nw _ _ N.new t1)) this
theorem ee_zipL (h : EA c ta Γ fun xs Γ1 => ∃ ds es, xs = [dL ds, dL es] ∧ P (dL ((ds.zip es).map fun p => .tuple [p.1, p.2])) Γ1) : EE c (tZip c.K .lst ta) Γ P := fun σ B H C E Q q =>
  h σ B H C E _ fun vs B1 H1 xs Γ1 s1 d1 ⟨ds, es, e, p⟩ => by
    subst e
    cases d1 with
    | cons d d' => cases d' with
      | cons d2 d3 =>
        cases d3
        cases d with
        | lst h1 a1 => cases d2 with
          | lst h2 a2 =>
            refine ⟨_, _, _, _, rfl, .inl ⟨sqL_mono s1.cur.sub.ex h1, sqL_mono s1.cur.sub.ex h2⟩, fun p H2 N => ?_⟩
            obtain ⟨B2, st, nw⟩ := step_many s1.cur N.old N.fl
            obtain ⟨Ts, t1, t2, t3⟩ := N.its
            refine q _ B2 H2 _ Γ1 (s1.step st) ?_ ‹_›
            have := dp_pairs (DpAll.mono st.b a1) (DpAll.mono st.b a2) 0 Ts (by omega) fun j T e => by
              obtain ⟨n1, x, y, e1, e2, e3⟩ := t3 j T e
              exact ⟨x, y, by simpa using e1, by simpa using e2, nw _ _ n1 e3⟩
            exact .lst (SqL.of (nw _ _ N.new t1)) this
end
end My
end DL11_
section DL12_
set_option maxHeartbeats 1000000
namespace My
open PySem PySem.Spec PyProof.Rows L2 LamX
section
variable {c : Ctx} {Γ : Env'} {B H B1 H1 B2 H2 : Hp}
/-- a walk that gives the data ds, wherever B stands -/
def DWalk (c : Ctx) (J : It) (B : Hp) (ds : List PyData) : Prop :=
  ∃ (G : Hp → Prop) (Y : Nat → Hp → V → Hp → Prop), Walk J ds.length G Y ∧ (∀ B' H', Cur c B' H' → Ex B B' → G H') ∧
    ∀ i B' H' x H'', i < ds.length → Cur c B' H' → Ex B B' → Y i H' x H'' → ∃ B'' d, Step c B' H' B'' H'' ∧ ds[i]? = some d ∧ Dp c.K B'' x d
/-- what is walked -/
def WI (c : Ctx) (wi : TI) (Γ : Env') (R : List PyData → Env' → Prop) : Prop :=
  ∀ (σ : List (Option V)) (B H : Hp), Cur c B H → EnvOk c B H σ Γ → ∀ R0 : It → Hp → Prop, (∀ J B1 H1 Γ1 ds, St1 c B H B1 H1 σ Γ Γ1 → DWalk c J B1 ds → R ds Γ1 → R0 J H1) → wi σ H R0
theorem dw_same {J : It} {G : Hp → Prop} {f : Nat → V → Prop} {ds : List PyData} (w : Walk J ds.length G fun i H x H' => H' = H ∧ f i x) (hg : ∀ B' H', Cur c B' H' → Ex B B' → G H') (hf : ∀ i B' x, i < ds.length → Ex B B' → f i x → ∃ d, ds[i]? = some d ∧ Dp c.K B' x d) : DWalk c J B ds :=
  ⟨G, _, w, hg, fun i B' H' x H'' hi C b ⟨e, q⟩ => by
    subst e
    obtain ⟨d, h1, h2⟩ := hf i B' x hi b q
    exact ⟨B', d, Step.refl C, h1, h2⟩⟩
theorem wi_tup {ta : TE} {R : List PyData → Env' → Prop} (h : EE c ta Γ fun x Γ0 => ∃ ds, x = dT ds ∧ R ds Γ0) : WI c (iTup c.K ta) Γ R := fun σ B H C E R0 q =>
  h σ B H C E _ fun v B1 H1 x Γ0 s1 d1 ⟨ds, e, r⟩ => by
    subst e
    cases d1 with
    | @tup a xs _ sq da =>
      refine ⟨a, rfl, ⟨xs, sqT_mono s1.cur.sub.ex sq⟩, q _ B1 H1 Γ0 ds s1 ?_ r⟩
      refine dw_same (G := fun H => SqT c.K H a xs) (f := fun i x => xs[i]? = some x) (by rw [← My.DpAll.length da]; exact walk_tup) (fun B' H' C' b' => sqT_mono (b'.trans C'.sub.ex) sq) fun i B' x hi b' e => ?_
      obtain ⟨d, h1, h2⟩ := DpAll.get da e
      exact ⟨d, h1, Dp.mono b' h2⟩
theorem wi_list {ta : TE} {R : List PyData → Env' → Prop} (h : EE c ta Γ fun x Γ0 => ∃ ds, x = dL ds ∧ R ds Γ0) : WI c (iList c.K ta) Γ R := fun σ B H C E R0 q =>
  h σ B H C E _ fun v B1 H1 x Γ0 s1 d1 ⟨ds, e, r⟩ => by
    subst e
    cases d1 with
    | @lst a xs _ sq da =>
      refine ⟨a, rfl, ⟨xs, sqL_mono s1.cur.sub.ex sq⟩, q _ B1 H1 Γ0 ds s1 ?_ r⟩
      refine dw_same (G := fun H => SqL c.K H a xs) (f := fun i x => xs[i]? = some x) (by rw [← My.DpAll.length da]; exact walk_list) (fun B' H' C' b' => sqL_mono (b'.trans C'.sub.ex) sq) fun i B' x hi b' e => ?_
      obtain ⟨d, h1, h2⟩ := DpAll.get da e
      exact ⟨d, h1, Dp.mono b' h2⟩
def enumD (ds : List PyData) : List PyData := (ds.zipIdx).map fun p => .tuple [.int (p.2 : Nat), p.1]
theorem enumD_length (ds : List PyData) : (enumD ds).length = ds.length := by unfold enumD; rw [List.length_map, List.length_zipIdx]
theorem enumD_get {ds : List PyData} {i : Nat} {d : PyData} (h : ds[i]? = some d) : (enumD ds)[i]? = some (.tuple [.int (i : Nat), d]) := by
  unfold enumD
  rw [List.getElem?_map, List.getElem?_zipIdx, h]
  simp
theorem walk_enumT {K : PySem.W.Frag} {a : Addr} {xs : List V} : Walk (Iet K a) xs.length (fun H => SqT K H a xs) (YPair (fun i => some (.int (i : Nat))) (fun i => xs[i]?)) := by
  refine ⟨fun i _ hi q => ⟨xs, xs[i], q, by simp [hi]⟩, fun _ q => ⟨xs, q, Nat.le_refl _⟩, fun i H v H' _ q y => ?_⟩
  obtain ⟨T, x, h1, h2, h3, h4⟩ := y
  exact ⟨T, .int (i : Nat), x, h1, h2, h3, rfl, h4 xs q⟩
theorem wi_enumT {ta : TA} {R : List PyData → Env' → Prop} (h : EA c ta Γ fun xs Γ0 => ∃ ds, xs = [dT ds] ∧ R (enumD ds) Γ0) : WI c (iEnumT c.K ta) Γ R := fun σ B H C E R0 q =>
  h σ B H C E _ fun vs B1 H1 xs Γ0 s1 d1 ⟨ds, e, r⟩ => by
    subst e
    cases d1 with
    | cons d d2 =>
      cases d2
      cases d with
      | @tup a xs _ sq da =>
        refine ⟨a, xs, rfl, sqT_mono s1.cur.sub.ex sq, q _ B1 H1 Γ0 _ s1 ⟨fun H => SqT c.K H a xs, _, by rw [enumD_length, ← My.DpAll.length da]; exact walk_enumT, fun B' H' C' b' => sqT_mono (b'.trans C'.sub.ex) sq, fun i B' H' x H'' hi C' b' y => ?_⟩ r⟩
        obtain ⟨T, x1, x2, h1, h2, h3, h4, h5⟩ := y
        subst h1 h3
        cases h4
        obtain ⟨d, e1, e2⟩ := DpAll.get da h5
        have st := step_new (o := .tup [.int (i : Nat), x2]) C' h2
        exact ⟨_, _, st, enumD_get e1, .tup (SqT.of upd_same) (.cons (.int _) (.cons (Dp.mono (b'.trans st.b) e2) .nil))⟩
/-- the signs of a text -/
def signs (x : Str) : List PyData := x.cps.toList.map fun ch => .str ⟨#[ch]⟩
theorem wi_str {te : TE} {R : List PyData → Env' → Prop} (h : EE c te Γ fun x Γ0 => ∃ z, x = dS z ∧ R (signs z) Γ0) : WI c (iStr te) Γ R := fun σ B H C E R0 q =>
  h σ B H C E _ fun v B1 H1 x Γ0 s1 d1 ⟨z, e, r⟩ => by
    subst e
    cases d1
    refine ⟨z, rfl, q _ B1 H1 Γ0 _ s1 ?_ r⟩
    have el : (signs z).length = z.cps.size := by unfold signs; simp
    refine dw_same (G := fun _ => True) (f := fun i v => ∃ ch, z.cps[i]? = some ch ∧ v = .str ⟨#[ch]⟩) (by rw [el]; exact walk_str) (fun _ _ _ _ => trivial) fun i B' x hi b' ⟨ch, e, ev⟩ => ?_
    subst ev
    refine ⟨_, ?_, .str _⟩
    unfold signs
    rw [List.getElem?_map]
    have : z.cps.toList[i]? = some ch := by simpa using e
    rw [this]
    rfl
theorem wi_rng1 {ta : TA} {R : List PyData → Env' → Prop} (h : EA c ta Γ fun xs Γ0 => ∃ n : Nat, n ≤ 1000000 ∧ xs = [dI (n : Int)] ∧ R ((List.range n).map fun i : Nat => PyData.int (i : Int)) Γ0) : WI c (iRng1 ta) Γ R := fun σ B H C E R0 q =>
  h σ B H C E _ fun v B1 H1 x Γ0 s1 d1 ⟨n, hn, e, r⟩ => by
    subst e
    cases d1 with
    | cons d d2 =>
      cases d2
      cases d
      refine ⟨(n : Int), rfl, by omega, by omega, q _ B1 H1 Γ0 _ s1 ?_ r⟩
      refine dw_same (G := fun _ => True) (f := fun i x => x = .int (0 + (i : Int))) (by rw [List.length_map, List.length_range, Int.toNat_natCast]; exact walk_range) (fun _ _ _ _ => trivial) fun i B' x hi b' e => ?_
      subst e
      rw [List.length_map, List.length_range] at hi
      exact ⟨_, by rw [List.getElem?_map, List.getElem?_range hi]; rfl, by rw [Int.zero_add]; exact .int _⟩
/-- range(a, b) -/
theorem wi_rng2 {ta : TA} {R : List PyData → Env' → Prop} (h : EA c ta Γ fun xs Γ0 => ∃ a b : Nat, a ≤ 1000000 ∧ b ≤ 1000000 ∧ xs = [dI (a : Int), dI (b : Int)] ∧ R ((List.range (b - a)).map fun i : Nat => PyData.int ((a + i : Nat) : Int)) Γ0) : WI c (iRng2 ta) Γ R := fun σ B H C E R0 q =>
  h σ B H C E _ fun v B1 H1 x Γ0 s1 d1 ⟨a, b, ha, hb, e, r⟩ => by
    subst e
    cases d1 with
    | cons d d2 => cases d2 with
      | cons d3 d4 =>
        cases d4
        cases d
        cases d3
        refine ⟨(a : Int), (b : Int), rfl, ⟨by omega, by omega, by omega, by omega⟩, q _ B1 H1 Γ0 _ s1 ?_ r⟩
        have en : ((b : Int) - (a : Int)).toNat = b - a := by omega
        refine dw_same (G := fun _ => True) (f := fun i x => x = .int ((a : Int) + (i : Int))) (by rw [List.length_map, List.length_range, en]; exact walk_range) (fun _ _ _ _ => trivial) fun i B' x hi b' e => ?_
        subst e
        rw [List.length_map, List.length_range] at hi
        exact ⟨.int ((a + i : Nat) : Int), by rw [List.getElem?_map, List.getElem?_range hi]; rfl, by rw [Int.natCast_add]; exact .int _⟩
/-- range(n, 0, -1) -/
theorem wi_down {ta : TA} {R : List PyData → Env' → Prop} (h : EA c ta Γ fun xs Γ0 => ∃ n : Nat, n ≤ 1000000 ∧ xs = [dI (n : Int), dI 0, dI (-1)] ∧ R ((List.range n).map fun i : Nat => PyData.int ((n - i : Nat) : Int)) Γ0) : WI c (iRng3 ta) Γ R := fun σ B H C E R0 q =>
  h σ B H C E _ fun v B1 H1 x Γ0 s1 d1 ⟨n, hn, e, r⟩ => by
    subst e
    cases d1 with
    | cons d d2 => cases d2 with
      | cons d3 d4 => cases d4 with
        | cons d5 d6 =>
          cases d6
          cases d
          cases d3
          cases d5
          refine ⟨(n : Int), 0, -1, ((n : Int) - 0).toNat, rfl, RgC.neg (by omega) (by omega) (by omega) (by omega), q _ B1 H1 Γ0 _ s1 ?_ r⟩
          have en : ((n : Int) - 0).toNat = n := by omega
          refine dw_same (G := fun _ => True) (f := fun i x => x = .int ((n : Int) + (i : Int) * -1)) (by rw [List.length_map, List.length_range, en]; exact walk_rangeC) (fun _ _ _ _ => trivial) fun i B' x hi b' e => ?_
          subst e
          rw [List.length_map, List.length_range] at hi
          have e1 : (n : Int) + (i : Int) * -1 = ((n - i : Nat) : Int) := by omega
          exact ⟨.int ((n - i : Nat) : Int), by rw [List.getElem?_map, List.getElem?_range hi]; rfl, by rw [e1]; exact .int _⟩
/-- for .. in any of these -/
theorem ss_for {wi : TI} {g : TG} {t : TS} {vs : List Nat} {P : Post} (h : WI c wi Γ fun ds Γ0 => ∃ I : Nat → Env' → Prop, I 0 Γ0 ∧ (∀ i d Γ1, ds[i]? = some d → I i Γ1 → SG c g vs (.val d) Γ1 fun Γ2 => SS c t Γ2 { nx := I (i + 1), rt := P.rt, bk := P.nx, ct := I (i + 1) }) ∧ ∀ Γ1, I ds.length Γ1 → P.nx Γ1) :
    SS c (tFor wi g t) Γ P := fun σ B H D C E n r b k => by
  refine h σ B H C E _ fun J B1 H1 Γ0 ds s1 ⟨G, Y, w, hg, hy⟩ ⟨I, i0, turn, fin⟩ => ?_
  have b1 := s1.b
  refine for_it w (fun m σ' H' => ∃ B' Γ', Cur c B' H' ∧ Ex B1 B' ∧ EnvOk c B' H' σ' Γ' ∧ I m Γ') ⟨B1, Γ0, s1.cur, Ex.refl _, s1.env, i0⟩ (fun m σ' H' _ ⟨B', Γ', C', b', _⟩ => hg B' H' C' b') ?_ ?_
  · rintro m y σ' H' H'' hm ⟨B', Γ', C', b', E', i'⟩ hY
    obtain ⟨B3, d, st, hd, dp⟩ := hy m B' H' y H'' hm C' b' hY
    have b3 := b'.trans st.b
    refine turn m d Γ' hd i' σ' B3 H'' y st.cur (E'.step st) dp _ fun σ2 Γ2 E2 _ s2 => s2 σ2 B3 H'' _ st.cur E2 (fun σ3 B4 H3 Γ3 C3 b4 E3 p => ⟨B4, Γ3, C3, b3.trans b4, E3, p⟩) (fun v σ3 B4 H3 x Γ3 C3 b4 E3 d p => r v σ3 B4 H3 x Γ3 C3 ((b1.trans b3).trans b4) E3 d p)
      (fun σ3 B4 H3 Γ3 C3 b4 E3 p => n σ3 B4 H3 Γ3 C3 ((b1.trans b3).trans b4) E3 p) (fun σ3 B4 H3 Γ3 C3 b4 E3 p => ⟨B4, Γ3, C3, b3.trans b4, E3, p⟩)
  · rintro σ' H' ⟨B', Γ', C', b', E', i'⟩
    exact n σ' B' H' Γ' C' (b1.trans b') E' (fin Γ' i')
theorem LcSt.step {σ : List (Option V)} {D : Addr} {Γ1 : Env'} {acc : List PyData} (p : LcSt c B1 H1 σ D B H Γ1 acc) (s : Step c B H B2 H2) : LcSt c B1 H1 σ D B2 H2 Γ1 acc := by
  obtain ⟨hnew, C, b, E, ⟨ws, hH, da⟩, hB, keep, live, out, free⟩ := p
  exact ⟨hnew, s.cur, b.trans s.b, E.step s, ⟨ws, s.h.keep _ _ hH (fun ps z => by cases z), DpAll.mono s.b da⟩, s.none hB (by rw [hH]; exact fun z => by cases z), fun b o h n r => s.h.keep _ _ (keep b o h n r) n, fun b h => s.h.live _ (live b h), fun a h1 h2 => out a (s.out a h1 (live a h2)) h2, free⟩
/-- [.. for .. in any of these] -/
theorem ee_lc {wi : TI} {g : TG} {tt : TT} {te : TE} {vs : List Nat} {P : Dat → Env' → Prop} (h : WI c wi Γ fun ds Γ0 => LcD c g tt te vs P ds Γ0) : EE c (tLc wi g tt te vs) Γ P := fun σ B0 H0 C0 E0 Q q => by
  refine h σ B0 H0 C0 E0 _ fun J B1 H1 Γ0 ds s0 ⟨G, Y, w, hg, hy⟩ ⟨hz, I, i0, turn, fin⟩ D hD => ?_
  have hDr : D ∉ c.rs := fun z => (s0.cur.reel D z).1 hD
  have hD0 := new_out s0.cur hD
  refine lc_it w (LcI c B1 H1 σ D Γ0 I) ⟨B1, Γ0, [], lc_new s0.cur s0.env hD, Nat.le_refl _, Rl.refl _, i0⟩ (fun m H' _ ⟨B', Γ', acc, p, _⟩ => hg B' H' p.cur p.b) ?_ ?_
  · rintro m y H' H'' hm ⟨B', Γ', acc, p, hl, rl, i'⟩ hY
    obtain ⟨B3, d, st, hd, dp⟩ := hy m B' H' y H'' hm p.cur p.b hY
    exact lc_turn hDr hD0 (by omega) hl rl (p.step st) dp (turn m d acc Γ' hd i')
  · rintro H' ⟨B', Γ', acc, p, hl, rl, i'⟩
    exact lc_end s0 hDr hD0 rl p q (fin acc Γ' i')
end
end My
end DL12_
section DL13_
set_option maxHeartbeats 1000000
namespace My
open PySem PySem.Spec PySem.W PyProof.Rows L2 LamX
section
variable {P : Program} {w : World} {K : PySem.W.Frag} {mg : Str → Option Value} {base : Heap}
/-- a lambda of one parameter, no captured names, is called -/
theorem run_lam1 {CX : CXT} {k : Nat} {f c' : Addr} {qual a : Str} {params : Arguments} {body : Expr} {scope : Scope} {pm ctv u : Value} {v : V} {A : Around} {outer : List Env} {s : Shared} {H : Hp} {Q : L2.VK} {E : XK}
    (ho : s.heap.get? f = some (kla_obj "<lambda>" qual params body scope [] pm c' ctv)) (hcd : s.heap.CodeRec (.ref c') qual) (S : FnScope [a] [a] scope) (hr : Room (k + 1) A) (e0 : Env0 P w K mg base A outer s H)
    (hb : bindArgs (kla_fn "<lambda>" qual params body scope [] pm (.ref c') ctv) ⟨[u], []⟩ = pure [(a, u)]) (r : L2.RelV v u)
    (hbody : Room k (A.deeper (envOfC qual scope s.heap.objs.size f (.ref c'))) → ∃ t, PE (cxOf CX P w K mg base [a] qual scope f (.ref c') A outer s H E) body t ∧ t (L2.start [a] [v]) H Q) :
    codeAny (model P w) A (.call (.ref f) ⟨[u], []⟩) (CR CX outer P w H s Q E) s := by
  have lim : s.heap.NoLimit := e0.mod.nolimit.keeps fun b o e => (e0.bs b o e).1
  have hkind : ∀ y ∈ [a].zip [u], scope.names.lookup y.1 = some .local ∨ (scope.names.lookup y.1 = some .cell ∧ ((cellsFrom (s.heap.objs.size + 1) scope.names []).lookup y.1).isSome = true) := fun ⟨n, v⟩ hy => by
    rcases S.par n (List.of_mem_zip hy).1 with q | q
    · exact .inl q
    · exact .inr ⟨q, PySem.W.cellsFrom_some _ _ _ (.inl q)⟩
  refine kla_callFunE hr.depth ho rfl S.co S.gen rfl hcd ?_
  rw [hb]
  refine wpAny_pure (wpAny_newFunctionEnv_cells (binds := [a].zip [u]) S.kind hkind fun env he s1 x => ?_)
  subst he
  refine ⟨lim.keeps x.toInCall.keep, kla_codeExpr ?_⟩
  obtain ⟨t, ht, hq⟩ := hbody (hr.deeper _)
  have I : L2.Inv (cxOf CX P w K mg base [a] qual scope f (.ref c') A outer s H E) [] (L2.start [a] [v]) H s1 := inv_start S hr.hd e0 rfl (.cons r .nil) x
  refine wpAny_mono (ht.run [] s1 (L2.start [a] [v]) H Q I hq) (fun u' s' hs => ?_) fun e s' hs => hs
  obtain ⟨v', H', J, rv, q⟩ := hs
  exact ⟨v', H', J.os, J.bare, J.base, J.hok, rv, q⟩
end
def Stat (X : Cx) (pins : List (Addr × Obj)) (b : Addr) : Prop := (b ∈ X.ex ∨ X.s_0.heap.objs.size ≤ b) ∧ b ≠ X.env.locals ∧ (∀ x c, X.env.cells.lookup x = some c → c ≠ b) ∧ ∀ p ∈ X.pn ++ pins, p.1 ≠ b
def MinJ (X : Cx) (pins : List (Addr × Obj)) (σ : List (Option V)) (H1 : Hp) (L it : Addr) (s : Shared) : Prop :=
  ∃ H2, L2.Inv X pins σ H2 s ∧ (∀ b o, H1 b = some o → H2 b = some o) ∧ (∀ b o, H1 b = none → H2 b = some o → ∃ xs, o = .tup xs) ∧ H2 L = none ∧ H2 it = none
def MinV (X : Cx) (H1 : Hp) (L it : Addr) (n : Int) (x : V) (k : Value) (s : Shared) : Prop :=
  ∃ T t u, k = .ref T ∧ H1 T = none ∧ T ≠ L ∧ T ≠ it ∧ T ∉ frs X.stack ∧ IsTup s.heap T #[.int n t, u] ∧ L2.RelV x u
theorem MinJ.moved {X : Cx} {pins : List (Addr × Obj)} {σ : List (Option V)} {H1 : Hp} {L it : Addr} {s s' : Shared} (h1 : Stat X pins L) (h2 : Stat X pins it) (j : MinJ X pins σ H1 L it s) (m : Moved [L, it] (fun a b => b = a) s s') : MinJ X pins σ H1 L it s' := by
  obtain ⟨H2, I, e, n, nL, nI⟩ := j
  refine ⟨H2, I.call' (ch := [L, it]) m.os ⟨fun b o q _ _ hc => m.heap b o hc q, fun b o q _ _ hc => ⟨o.slots, m.heap b o hc q⟩, fun _ _ _ n _ => n, fun b o q hc => ⟨o, m.heap b o hc q⟩, fun _ _ q => q, fun _ _ _ q => q, fun b ps q => ⟨#[], by rw [q]; simp⟩⟩ (fun b u q => ?_) (by rw [m.gens]; exact I.bare) (fun b hb => ?_), e, n, nL, nI⟩
  · have ne : ∀ c v, H2 c = some v → c ∉ [L, it] := fun c v q2 hc => by
      simp only [List.mem_cons, List.not_mem_nil, or_false] at hc
      rcases hc with z | z
      · rw [z, nL] at q2; cases q2
      · rw [z, nI] at q2; cases q2
    refine (I.hok b u q).stay (fun c v hc q2 => m.heap c v ?_ q2) (fun _ q => q) fun _ _ q => q
    rcases hc with z | z
    · rw [z]; exact ne _ _ q
    · exact ne _ _ z
  · simp only [List.mem_cons, List.not_mem_nil, or_false] at hb
    rcases hb with z | z
    · rw [z]; exact h1
    · rw [z]; exact h2
theorem MinV.moved {X : Cx} {H1 : Hp} {L it : Addr} {n : Int} {x : V} {k : Value} {s s' : Shared} (v : MinV X H1 L it n x k s) (m : Moved [L, it] (fun a b => b = a) s s') : MinV X H1 L it n x k s' := by
  obtain ⟨T, t, u, e, h1, h2, h3, h4, ⟨o, ho, hc⟩, r⟩ := v
  exact ⟨T, t, u, e, h1, h2, h3, h4, ⟨o, m.heap T o (by simp [h2, h3]) ho, hc⟩, r⟩
theorem isTup_arr {h : Heap} {T : Addr} {a b : Array Value} (x : IsTup h T a) (y : IsTup h T b) : a = b := by
  obtain ⟨o, ho, _, n, hd⟩ := x
  obtain ⟨o', ho', _, n', hd'⟩ := y
  rw [ho] at ho'
  cases ho'
  rw [hd] at hd'
  injection hd'
/-- a key's tuple stands behind a call -/
theorem MinV.call {X : Cx} {pins : List (Addr × Obj)} {σ : List (Option V)} {H1 H2 H3 : Hp} {L it : Addr} {n : Int} {x : V} {k : Value} {s s' : Shared} (v : MinV X H1 L it n x k s) (I : L2.Inv X pins σ H2 s) (nw : ∀ b o, H1 b = none → H2 b = some o → ∃ xs, o = .tup xs)
    (un : Un (frs X.stack) [] H2 H3 s.heap s'.heap) (hok : HOk X.prog X.w H3 s'.heap) : MinV X H1 L it n x k s' := by
  obtain ⟨T, t, u, e, h1, h2, h3, h4, ht, r⟩ := v
  cases q : H2 T with
  | none =>
    obtain ⟨o, ho, hc⟩ := ht
    exact ⟨T, t, u, e, h1, h2, h3, h4, ⟨o, un.keep T o ho q h4 (by simp), hc⟩, r⟩
  | some o =>
    obtain ⟨xs, rfl⟩ := nw T o h1 q
    obtain ⟨_, its, rv, p⟩ := I.hok T _ q
    obtain ⟨_, its', rv', p'⟩ := hok T _ (un.tups T xs q)
    have e1 := isTup_arr p ht
    have e2 : its = [.int n t, u] := by simpa using congrArg Array.toList e1
    subst e2
    cases rv with
    | cons r1 rr => cases rr with
      | cons r2 rr =>
        cases rr
        cases rv' with
        | cons s1 ss => cases ss with
          | cons s2 ss =>
            cases ss
            have ex := r2.inj r
            subst ex
            have ei := r1.inj (show L2.RelV (.int n) (.int n t) from ⟨t, rfl⟩)
            subst ei
            obtain ⟨t', rfl⟩ := s1
            exact ⟨T, t', _, e, h1, h2, h3, h4, p', s2⟩
/-- the key's data -/
def kD (g : PyData → Int) (d : PyData) : PyData := .tuple [.int (g d), d]
theorem minKeyRun {X : Cx} {pins : List (Addr × Obj)} {σ : List (Option V)} {H1 : Hp} {L it f c' : Addr} {qual a : Str} {params : Arguments} {body : Expr} {scope : Scope} {pm ctv : Value} {xs : List V} {ds : List PyData} {St : Nat → Shared → Prop} {tb : TE} {g : PyData → Int} {k : Nat}
    (hr : Room (k + 2) X.A) (hu : X.A.units + 64 < cLine) (h1 : Stat X pins L) (h2 : Stat X pins it) (da : DpAll X.K H1 xs ds) (hf : (f, kla_obj "<lambda>" qual params body scope [] pm c' ctv) ∈ pins) (hc : H1 c' = some (CodeO c' qual)) (S : FnScope [a] [a] scope)
    (hb : ∀ u, bindArgs (kla_fn "<lambda>" qual params body scope [] pm (.ref c') ctv) ⟨[u], []⟩ = pure [(a, u)]) (hst : ∀ i s, St i s → ∃ o, s.heap.get? it = some o) 
    (hstk : ∀ i (s s' : Shared) H3, St i s → L2.Inv X pins σ H3 s' → (∀ b o, H1 b = some o → H3 b = some o) → (∀ o, s.heap.get? it = some o → s'.heap.get? it = some o) → St i s')
    (hbody : ∀ (A : Around) (outer : List Env) (s : Shared) (H : Hp), Room k (A.deeper (envOfC qual scope s.heap.objs.size f (.ref c'))) → PE (cxOf CX0 X.prog X.w X.K X.mg X.base [a] qual scope f (.ref c') A outer s H E0) body tb)
    (hrun : ∀ (i : Nat) x d H2, xs[i]? = some x → ds[i]? = some d → (∀ b o, H1 b = some o → H2 b = some o) → tb (L2.start [a] [x]) H2 fun v H3 => ∃ T, v = .ref T ∧ H2 T = none ∧ H3 = upd H2 T (.tup [.int (g d), x]))
    (al : PySem.W.AllAlike ds) (sh : ∀ d ∈ ds, Shal d) : KeyRun X.prog X.w X.A.in1 (.ref f) .Lt L [it] (fun a b => b = a) xs.length (fun i v => ∃ x, xs[i]? = some x ∧ L2.RelV x v) St (MinJ X pins σ H1 L it)
      (fun i k s => ∃ x d, xs[i]? = some x ∧ ds[i]? = some d ∧ MinV X H1 L it (g d) x k s) (fun i j => PySem.W.dataLt (kD g (ds.getD i .none)) (kD g (ds.getD j .none))) where
  keep := fun s s' j m => j.moved h1 h2 m
  keepV := fun i k s s' ⟨x, d, e1, e2, v⟩ m => ⟨x, d, e1, e2, v.moved m⟩
  turn := fun i v s o Q E hi hP hJ hSt hL hQ => by
    obtain ⟨H2, I, ex, nw, nL, nI⟩ := hJ
    have ld := My.DpAll.length da
    obtain ⟨x, hx, r⟩ := hP
    obtain ⟨d, hd⟩ : ∃ d, ds[i]? = some d := ⟨_, List.getElem?_eq_getElem (by omega)⟩
    have fo : s.heap.get? f = some (kla_obj "<lambda>" qual params body scope [] pm c' ctv) := (I.pin _ (List.mem_append_right _ hf)).1
    obtain ⟨⟨oc, vs, t, hoc, hdc, hvc⟩, _, _⟩ := I.hok c' _ (ex _ _ hc)
    have e0 : Env0 X.prog X.w X.K X.mg X.base X.A.in1 X.stack s H2 := { I.env0 with frames := by first | exact I.env0.frames | (simpa [Around.in1] using I.env0.frames) }
    refine wpAny_call (codeAny_mono (run_lam1 (CX := CX0) (K := X.K) (mg := X.mg) (base := X.base) (Q := fun v H3 => ∃ T, v = .ref T ∧ H2 T = none ∧ H3 = upd H2 T (.tup [.int (g d), x])) (E := E0) fo ⟨c', oc, vs, t, rfl, hoc, hdc, hvc⟩ S hr.in1 e0 (hb v) r fun hrm => ⟨tb, hbody _ _ _ _ hrm, hrun i x d H2 hx hd ex⟩) fun rr s' hq => ?_)
    cases rr with
    | error e => exact hq.elim
    | ok fl => cases fl with
      | ret u =>
        have hq0 := hq
        obtain ⟨v3, H3, I3, r3, T, ev3, hT, eH⟩ := I.after hq
        obtain ⟨v4, H4, os4, bare4, un, hok4, r4, T4, ev4, hT4, eH4⟩ := hq0
        subst ev3 ev4
        cases r3
        cases r4
        subst eH eH4
        have sT : s.heap.get? T = none := by
          cases q : s.heap.get? T with
          | none => rfl
          | some o' =>
            have := un.free T o' q hT (by simp)
            rw [upd_same] at this
            cases this
        have neT : ∀ b o', s.heap.get? b = some o' → T ≠ b := fun b o' e z => by rw [← z, sT] at e; cases e
        obtain ⟨oi, hoi⟩ := hst _ _ hSt
        have nL' : T ≠ L := neT _ _ hL
        have nI' : T ≠ it := neT _ _ hoi
        have hfr : ∀ b ∈ frs X.stack, ∃ o', s.heap.get? b = some o' := fun b hb => by
          obtain ⟨_, o', ho', _⟩ := I.stack.mem hb
          exact ⟨o', ho'⟩
        have nF : T ∉ frs X.stack := fun hb => by
          obtain ⟨o', ho'⟩ := hfr T hb
          exact neT _ _ ho' rfl
        have notFr : ∀ b, H1 b = none → Stat X pins b → b ∉ frs X.stack := fun b _ st hb => by
          rcases List.mem_cons.mp (I.stkSub b hb) with e | hb2
          · exact st.2.1 e
          · obtain ⟨_, o', ho', _⟩ := I.ok.funs.mem hb2
            rcases st.1 with z | z
            · exact I.ok.exfs b z hb2
            · exact absurd (Heap.lt_size ho') (Nat.not_lt_of_le z)
        have none1 : ∀ b, H2 b = none → H1 b = none := fun b e => by
          cases q : H1 b with
          | none => rfl
          | some o' => rw [ex b o' q] at e; cases e
        have ex3 : ∀ b o', H1 b = some o' → upd H2 T (.tup [.int (g d), x]) b = some o' := fun b o' e => by
          rw [upd_ne (fun z => by rw [z, none1 T hT] at e; cases e)]
          exact ex b o' e
        obtain ⟨_, its3, rv3, p3⟩ := hok4 T _ upd_same
        refine hQ (.ref T) s' ⟨_, I3, ex3, fun b o' e1 e2 => ?_, by rw [upd_ne nL'.symm]; exact nL, by rw [upd_ne nI'.symm]; exact nI⟩ (hstk _ s s' _ hSt I3 ex3 fun o' ho' => un.keep it o' ho' nI (notFr it (none1 it nI) h2) (by simp)) (un.keep L o hL nL (notFr L (none1 L nL) h1) (by simp)) ?_ ?_
        · by_cases z : b = T
          · rw [z, upd_same] at e2
            cases e2
            exact ⟨_, rfl⟩
          · rw [upd_ne z] at e2
            exact nw b o' e1 e2
        · cases rv3 with
          | cons r1 rr => cases rr with
            | cons r2 rr =>
              cases rr
              obtain ⟨t1, rfl⟩ := r1
              exact ⟨x, d, hx, hd, T, t1, _, rfl, none1 T hT, nL', nI', nF, p3, r2⟩
        · rintro j k' ⟨x', d', e1, e2, v2⟩
          exact ⟨x', d', e1, e2, v2.call I nw un hok4⟩
      | next => exact hq.elim
      | brk => exact hq.elim
      | cont => exact hq.elim
  cmp := fun i j ki kj s Q E hJ hi hj hQ => by
    obtain ⟨H2, I, ex, nw, nL, nI⟩ := hJ
    have exx : Ex H1 H2 := ⟨fun b o e _ => ex b o e, fun b e => by
      cases q : H1 b with
      | none => exact absurd q e
      | some o => rw [ex b o q]; exact fun z => by cases z⟩
    have rd : ∀ (i : Nat) (ki : Value), (∃ x d, xs[i]? = some x ∧ ds[i]? = some d ∧ MinV X H1 L it (g d) x ki s) → ∃ as, Reads s.heap ki (kD g (ds.getD i .none)) as ∧ ds.getD i .none ∈ ds := fun i ki h => by
      obtain ⟨x, d, e1, e2, T, t, u, ek, _, _, _, _, ⟨o, ho, hc, n, hd⟩, r⟩ := h
      subst ek
      obtain ⟨d', e3, dd⟩ := DpAll.get da e1
      rw [e2] at e3
      cases e3
      obtain ⟨as, q⟩ := Dp.reads I d x u (Dp.mono exx dd) r
      have ed : ds.getD i .none = d := by rw [List.getD_eq_getElem?_getD, e2]; rfl
      rw [ed]
      exact ⟨_, Reads.tuple ho hc hd (.cons (.int _ _) (.cons q .nil)), List.mem_of_getElem? e2⟩
    obtain ⟨as, r1, m1⟩ := rd i ki hi
    obtain ⟨bs, r2, m2⟩ := rd j kj hj
    have al1 : PySem.W.alike (kD g (ds.getD i .none)) (kD g (ds.getD j .none)) = true := by
      unfold kD
      rw [PySem.W.alike, PySem.W.alikeAll, PySem.W.alikeAll, PySem.W.alikeAll, al _ m1 _ m2]
      rfl
    refine PySem.W.rcLt_alike _ _ X.A.in1 s ki kj _ _ r1 r2 al1 (fun z => by unfold kD at z; cases z) ?_ X.prog X.w E Q hQ
    have q1 := sh _ m1
    unfold Shal at q1
    have q2 : (kD g (ds.getD i .none)).depth ≤ 18 := by
      unfold kD
      rw [PyData.depth, PyData.depthAll, PyData.depthAll, PyData.depthAll, PyData.depth]
      omega
    have q3 := Nat.min_le_left (kD g (ds.getD i .none)).depth (kD g (ds.getD j .none)).depth
    show X.A.units + 1 + _ < cLine
    omega
def StL (it l : Addr) (xs : List V) (i : Nat) (s : Shared) : Prop := s.heap.IsListIter it l i ∧ ∃ its, Vals xs its ∧ s.heap.IsList l its.toArray
def StT (it l : Addr) (xs : List V) (i : Nat) (s : Shared) : Prop := s.heap.IsTupleIter it l i ∧ ∃ its, Vals xs its ∧ s.heap.IsTuple l its.toArray
theorem walksL {prog : Program} {w : World} {A : Around} (hh : A.handled = none) (it l : Addr) (hne : l ≠ it) (xs : List V) : WalksS prog w A it [it, l] [it] (fun a b => b = a) xs.length (fun i v => ∃ x, xs[i]? = some x ∧ L2.RelV x v) (StL it l xs) where
  sub := fun b hb => by simp at hb ⊢; exact .inl hb
  grefl := fun _ => rfl
  gtrans := fun a b c h1 h2 => h2.trans h1
  frame := fun i s h' tk ⟨h1, its, r, h2⟩ _ k => ⟨h1.at fun o e => k it (by simp) o e, its, r, h2.at fun o e => k l (by simp) o e⟩
  item := fun i s Q E hi ⟨h1, its, r, h2⟩ hQ => by
    refine (Walks.list (A := A) hh it l hne its.toArray).toS.item i s Q E (by simp only [List.size_toArray]; rw [← r.length]; exact hi) ⟨h1, h2⟩ fun v s' hP st m => ?_
    obtain ⟨x, hx⟩ : ∃ x, xs[i]? = some x := ⟨_, List.getElem?_eq_getElem hi⟩
    obtain ⟨v', hv', rx⟩ := r.get hx
    have q : its[i]? = some v := by simpa using hP
    rw [hv'] at q
    cases q
    exact hQ _ s' ⟨x, hx, rx⟩ ⟨st.1, its, r, st.2⟩ m
  done := fun s Q E ⟨h1, its, r, h2⟩ hQ => (Walks.list (A := A) hh it l hne its.toArray).toS.done s Q E ⟨by simp only [List.size_toArray]; rw [← r.length]; exact h1, h2⟩ hQ
  self := fun i s Q E ⟨h1, its, r, h2⟩ q => (Walks.list (A := A) hh it l hne its.toArray).toS.self i s Q E ⟨h1, h2⟩ q
theorem walksT {prog : Program} {w : World} {A : Around} (hh : A.handled = none) (it l : Addr) (hne : l ≠ it) (xs : List V) : WalksS prog w A it [it, l] [it] (fun a b => b = a) xs.length (fun i v => ∃ x, xs[i]? = some x ∧ L2.RelV x v) (StT it l xs) where
  sub := fun b hb => by simp at hb ⊢; exact .inl hb
  grefl := fun _ => rfl
  gtrans := fun a b c h1 h2 => h2.trans h1
  frame := fun i s h' tk ⟨h1, its, r, h2⟩ _ k => ⟨h1.at fun o e => k it (by simp) o e, its, r, h2.at fun o e => k l (by simp) o e⟩
  item := fun i s Q E hi ⟨h1, its, r, h2⟩ hQ => by
    refine (Walks.tuple (A := A) hh it l hne its.toArray).toS.item i s Q E (by simp only [List.size_toArray]; rw [← r.length]; exact hi) ⟨h1, h2⟩ fun v s' hP st m => ?_
    obtain ⟨x, hx⟩ : ∃ x, xs[i]? = some x := ⟨_, List.getElem?_eq_getElem hi⟩
    obtain ⟨v', hv', rx⟩ := r.get hx
    have q : its[i]? = some v := by simpa using hP
    rw [hv'] at q
    cases q
    exact hQ _ s' ⟨x, hx, rx⟩ ⟨st.1, its, r, st.2⟩ m
  done := fun s Q E ⟨h1, its, r, h2⟩ hQ => (Walks.tuple (A := A) hh it l hne its.toArray).toS.done s Q E ⟨by simp only [List.size_toArray]; rw [← r.length]; exact h1, h2⟩ hQ
  self := fun i s Q E ⟨h1, its, r, h2⟩ q => (Walks.tuple (A := A) hh it l hne its.toArray).toS.self i s Q E ⟨h1, h2⟩ q
end My
end DL13_
section DL14_
set_option maxHeartbeats 1000000
namespace My
open PySem PySem.Spec PySem.W PyProof.Rows L2 LamX
section
variable {X : Cx} {pins : List (Addr × Obj)} {σ : L2.St} {H : Hp} {s : Shared}
/-- the lambda is made (no captured names): what stood is live, all but the tables stands as it stood -/
theorem lam_new {T : List (Addr × Str)} {c P : Addr} {params : Arguments} {body : Expr} {scope : Scope} {pos : Pos} {E : Value → Shared → Prop} {Q : Value → Shared → Prop} (I : L2.Inv X pins σ H s) (TB : TabB X.base X.mg c P) (hcode : X.env.code = .ref c)
    (hm : (P, X.env.qual ++ "<lambda>") ∈ T) (hu : ∀ p ∈ T, p.1 = P → p.2 = X.env.qual ++ "<lambda>") (hT : Tabs T H) (hdef : defaultsOf params X.env = ([], [])) (hfree : ∀ y ∈ scope.names, y.2 ≠ .free) (hclo : cloFrom X.env.cells scope.names [] = [])
    (h : ∀ (f c' : Addr) (pm ctv : Value) (H1 : Hp) (s' : Shared), L2.Inv X pins σ H1 s' → ExtN H H1 → (∀ b, H b ≠ none → H1 b ≠ none) → Tabs T H1 →
      s'.heap.get? f = some (PySem.W.kla_obj "<lambda>" (X.env.qual ++ "<lambda>") params body scope [] pm c' ctv) → H1 f = none → FpOk X pins H1 f → H1 c' = some (CodeO c' (X.env.qual ++ "<lambda>")) → Q (.ref f) s') :
    wpAny (model X.prog X.w) X.A (eval (.Lambda params body scope pos) X.env) Q E s := by
  obtain ⟨ps, hP, ht, ha⟩ := hT _ hm
  refine PySem.W.kla_eval hdef ?_
  have bP : s.heap.BuiltinsAt X.mg P := TB.bm.keeps I.bk
  have hP' : s.heap.get? P = some { cls := .none, data := .fields ps } := I.hok P _ hP
  have hcl : closureFor scope X.env = pure [] := by
    rw [closure_ok (fun y hy e => absurd e (hfree y hy)), hclo]
  cases hc : codeAmong pos ps.toList with
  | none =>
    refine PySem.W.kla_makeFunction (mg := X.mg) (c := c) (P := P) (ps := ps) hcl I.ok.glob (I.mod.glob.keeps I.bk) hcode (TB.code.keeps I.bk) hP' ht hc TB.gP bP fun c' ctv h' tk hx hge hlt hrec htb => ?_
    obtain ⟨c2, oc, vs, t, e2, hoc, hd, hv⟩ := hrec
    cases e2
    have hsz : s.heap.objs.size ≤ h'.objs.size := Nat.le_trans hge (Nat.le_of_lt hlt)
    have nC : H c' = none := I.hok.fresh hge
    have I1 := inv_table (t' := tk) (more := #[rawInt pos.line, rawInt pos.col, .ref c']) (h' := h'.push (PySem.W.kla_obj "<lambda>" (X.env.qual ++ "<lambda>") params body scope [] ((X.mg "__name__").getD .none) c' ctv)) I hP
      (fun b o hb e => Heap.get?_push_of_some _ (hx b o hb e)) (Heap.get?_push_of_some _ htb) hge ⟨oc, vs, t, Heap.get?_push_of_some _ hoc, hd, hv⟩
    have nPc : P ≠ c' := ne_of_none hP nC
    have hE : ExtN H (upd (upd H P (.tbl (ps ++ #[rawInt pos.line, rawInt pos.col, .ref c']))) c' (CodeO c' (X.env.qual ++ "<lambda>"))) := fun b o e n => by
      rw [upd_ne (ne_of_none e nC), upd_ne (fun z => n ps (Option.some.inj (e.symm.trans (by rw [z]; exact hP))))]
      exact e
    have eL : (ps ++ #[rawInt pos.line, rawInt pos.col, .ref c']).toList = ps.toList ++ [rawInt pos.line, rawInt pos.col, .ref c'] := by simp
    have n1 : h'.objs.size ≠ c' := Nat.ne_of_gt hlt
    have n2 : h'.objs.size ≠ P := Nat.ne_of_gt (Nat.lt_of_lt_of_le (Heap.lt_size hP') hsz)
    have nf : upd (upd H P (.tbl (ps ++ #[rawInt pos.line, rawInt pos.col, .ref c']))) c' (CodeO c' (X.env.qual ++ "<lambda>")) h'.objs.size = none := by
      rw [upd_ne n1, upd_ne n2]
      exact I.hok.fresh hsz
    refine h h'.objs.size c' ((X.mg "__name__").getD .none) ctv _ _ I1 hE (fun b hb => ?_) (fun p hp => ?_) (Heap.get?_push_size _ rfl) nf (I.fpOk hsz nf) upd_same
    · by_cases z : b = c'
      · rw [z, upd_same]; exact fun z => by cases z
      · rw [upd_ne z]
        by_cases z2 : b = P
        · rw [z2, upd_same]; exact fun z => by cases z
        · rw [upd_ne z2]; exact hb
    · by_cases hb : p.1 = P
      · rw [hu p hp hb, hb]
        refine ⟨_, by rw [upd_ne nPc, upd_same], by rw [eL]; exact PySem.TriplesOk_snoc _ _ _ _ ht, fun p' cv hcv => ?_⟩
        rw [eL] at hcv
        rcases among_app _ ht hcv with z | z
        · obtain ⟨c0, e1, e2⟩ := ha p' cv z
          exact ⟨c0, e1, hE _ _ e2 codeO_ne⟩
        · exact ⟨c', z, upd_same⟩
      · obtain ⟨ps', a1, a2, a3⟩ := hT p hp
        refine ⟨ps', by rw [upd_ne (ne_of_none a1 nC), upd_ne hb]; exact a1, a2, fun p' cv hcv => ?_⟩
        obtain ⟨c0, e1, e2⟩ := a3 p' cv hcv
        exact ⟨c0, e1, hE _ _ e2 codeO_ne⟩
  | some cv =>
    obtain ⟨c', e, hco⟩ := ha pos cv hc
    subst e
    refine PySem.W.kla_makeFunctionHit (mg := X.mg) (c := c) (P := P) (ps := ps) hcl I.ok.glob (I.mod.glob.keeps I.bk) hcode (TB.code.keeps I.bk) hP' ht hc bP fun ctv h' tk hx hsz => ?_
    have I1 : L2.Inv X pins σ H { s with heap := h'.push (PySem.W.kla_obj "<lambda>" (X.env.qual ++ "<lambda>") params body scope [] ((X.mg "__name__").getD .none) c' ctv), toks := tk } := I.kept fun b o e => Heap.get?_push_of_some _ (hx b o e)
    exact h h'.objs.size c' ((X.mg "__name__").getD .none) ctv H _ I1 (ExtN.refl H) (fun b hb => hb) hT (Heap.get?_push_size _ rfl) (I.hok.fresh hsz) (I.fpOk hsz (I.hok.fresh hsz)) hco
end
/-- min over the items of a list or a tuple, by keys (g, item); None of nothing -/
def minP (K : PySem.W.Frag) (T : List (Addr × Str)) (g : PyData → Int) (tb : TE) (a : Str) (Q : L2.VK) (x : V) (H1 : Hp) : Prop := Tabs T H1 ∧ ∃ l xs ds, x = .ref l ∧ (SqL K H1 l xs ∨ SqT K H1 l xs) ∧ DpAll K H1 xs ds ∧ PySem.W.AllAlike ds ∧ (∀ d ∈ ds, Shal d) ∧
  (∀ (i : Nat) x d H2, xs[i]? = some x → ds[i]? = some d → ExtN H1 H2 → tb (L2.start [a] [x]) H2 fun v H3 => ∃ T, v = .ref T ∧ H2 T = none ∧ H3 = upd H2 T (.tup [.int (g d), x])) ∧
  ∀ H2, ExtN H1 H2 → (∀ b, H1 b ≠ none → H2 b ≠ none) → Tabs T H2 → (xs = [] → Q .non H2) ∧ ∀ (j : Nat) x, xs[j]? = some x → Q x H2
def tMin (K : PySem.W.Frag) (T : List (Addr × Str)) (g : PyData → Int) (tb : TE) (a : Str) (te : TE) : TE := fun σ H Q => te σ H fun x H1 => minP K T g tb a Q x H1
theorem sqL_ext {K : PySem.W.Frag} {H H' : Hp} {a : Addr} {xs : List V} (e : ∀ b o, H b = some o → (∀ ps, o ≠ .tbl ps) → H' b = some o) (h : SqL K H a xs) : SqL K H' a xs := by
  rcases h with (h | ⟨o, h⟩) | h
  · exact .inl (.inl (e _ _ h fun ps z => by cases z))
  · exact .inl (.inr ⟨o, e _ _ h fun ps z => by cases z⟩)
  · exact .inr h
theorem sqT_ext {K : PySem.W.Frag} {H H' : Hp} {a : Addr} {xs : List V} (e : ∀ b o, H b = some o → (∀ ps, o ≠ .tbl ps) → H' b = some o) (h : SqT K H a xs) : SqT K H' a xs := by
  rcases h with (h | ⟨o, h⟩) | h
  · exact .inl (.inl (e _ _ h fun ps z => by cases z))
  · exact .inl (.inr ⟨o, e _ _ h fun ps z => by cases z⟩)
  · exact .inr h
section
variable {X : Cx}
theorem pe_minKey {T : List (Addr × Str)} {c P : Addr} {k : Nat} {a : Str} {e e2 : Expr} {te tb : TE} {params : Arguments} {body : Expr} {scope : Scope} {g : PyData → Int} {p pos lp kp kp2 : Pos} (hr : Room (k + 2) X.A) (hu : X.A.units + 64 < cLine)
    (hg : Gl X "min") (hmn : X.mg "min" = none) (hcalm : X.calm = true) (he : PA X [e] (tCons te tNil)) (hd2 : PE X e2 (tC .non))
    (TB : TabB X.base X.mg c P) (hcode : X.env.code = .ref c) (hm : (P, X.env.qual ++ "<lambda>") ∈ T) (hut : ∀ p ∈ T, p.1 = P → p.2 = X.env.qual ++ "<lambda>") (hdef : defaultsOf params X.env = ([], [])) (hfree : ∀ y ∈ scope.names, y.2 ≠ .free) (hclo : cloFrom X.env.cells scope.names [] = [])
    (S : FnScope [a] [a] scope) (hb : ∀ (pm cdv ctv u : Value), bindArgs (kla_fn "<lambda>" (X.env.qual ++ "<lambda>") params body scope [] pm cdv ctv) ⟨[u], []⟩ = pure [(a, u)])
    (hbody : ∀ (f : Addr) (cdv : Value) (A : Around) (outer : List Env) (s : Shared) (H : Hp), Room k (A.deeper (envOfC (X.env.qual ++ "<lambda>") scope s.heap.objs.size f cdv)) → PE (cxOf CX0 X.prog X.w X.K X.mg X.base [a] (X.env.qual ++ "<lambda>") scope f cdv A outer s H E0) body tb)
    (hs : backTo pos (starEach [e] X.env) = (false, eval e X.env) :: backTo pos (starEach [] X.env) := by rfl) (hpl : (backTo pos (starEach [e] X.env)).any (·.1) = false := by rfl)
    (hall : (backToKw pos (keywordEach [⟨some "key", .Lambda params body scope lp, kp⟩, ⟨some "default", e2, kp2⟩] X.env)).all (·.1.isSome) = true := by rfl) (hnone : (backToKw pos (keywordEach [⟨some "key", .Lambda params body scope lp, kp⟩, ⟨some "default", e2, kp2⟩] X.env)).any (·.1.isNone) = false := by rfl)
    (hks : (backToKw pos (keywordEach [⟨some "key", .Lambda params body scope lp, kp⟩, ⟨some "default", e2, kp2⟩] X.env)).filterMap (·.1) = [Str.ofString "key", Str.ofString "default"] := by rfl) :
    PE X (.Call (.Name "min" p) [e] [⟨some "key", .Lambda params body scope lp, kp⟩, ⟨some "default", e2, kp2⟩] pos) (tMin X.K T g tb a te) := by
  refine ⟨fun pins s σ H Q I h => ?_⟩
  refine wpAny_Call_Name_kw (ld_blt I hg hmn boot_min ?_)
  refine PyProof.Rows.callWith_kw (thn (he.run pos pins s σ H (fun vs H1 => match vs with | [x] => minP X.K T g tb a Q x H1 | _ => False) I h) fun us s1 ⟨vs, H1, I1, r1, q1⟩ => ?_) hs hpl hall hnone
  obtain ⟨x0, rfl⟩ : ∃ x0, vs = [x0] := by
    cases vs with
    | nil => exact q1.elim
    | cons x0 r => cases r with
      | nil => exact ⟨x0, rfl⟩
      | cons _ _ => exact q1.elim
  obtain ⟨tT, l, xs, ds, ex, hsrc, da, al, sh, hrun, fin⟩ := (q1 : minP X.K T g tb a Q x0 H1)
  subst ex
  obtain ⟨u0, rfl, r0⟩ := vals1 r1
  cases r0
  show wpAny _ _ (evalAll [(do let v ← eval (.Lambda params body scope lp) X.env; standAt pos; pure v), (do let v ← eval e2 X.env; standAt pos; pure v)]) _ _ _
  refine wpAny_evalAll_cons (wpAny_bind (lam_new I1 TB hcode hm hut tT hdef hfree hclo fun f c' pm ctv H2 s2 I2 ext2 live2 tT2 hf nf fpf hc2 => wpAny_bind (wpAny_standAt (wpAny_pure ?_))))
  have I2' : L2.Inv X ((f, kla_obj "<lambda>" (X.env.qual ++ "<lambda>") params body scope [] pm c' ctv) :: pins) σ H2 s2 := I2.pins_of fun p hp => by
    rcases List.mem_cons.mp hp with e | hp
    · subst e
      exact ⟨hf, nf, fpf.2.1, fpf.2.2.1, fun v z => by cases z⟩
    · exact I2.pin p (List.mem_append_right _ hp)
  refine wpAny_evalAll_cons (wpAny_bind (thn (hd2.run _ s2 σ H2 (fun v H3 => v = .non ∧ H3 = H2) I2' ⟨rfl, rfl⟩) fun dv s3 ⟨v3, H3, I3, r3, ev3, eH3⟩ => wpAny_bind (wpAny_standAt (wpAny_pure ?_))))
  subst ev3
  rw [eH3] at I3
  cases r3
  refine wpAny_evalAll_nil ?_
  rw [hks]
  have hh : X.A.in1.handled = none := I3.ok.hd hcalm
  have da3 : DpAll X.K H2 xs ds := DpAll.mono ⟨ext2, live2⟩ da
  have tail : ∀ (it : Addr) (s₂ : Shared) (St : Nat → Shared → Prop), it = s3.heap.objs.size → s₂.heap.objs.size = s3.heap.objs.size + 1 → L2.Inv X ((f, kla_obj "<lambda>" (X.env.qual ++ "<lambda>") params body scope [] pm c' ctv) :: pins) σ H2 s₂ →
      (∀ i s, St i s → ∃ o, s.heap.get? it = some o) →
      (∀ i (s s' : Shared) H3, St i s → L2.Inv X ((f, kla_obj "<lambda>" (X.env.qual ++ "<lambda>") params body scope [] pm c' ctv) :: pins) σ H3 s' → (∀ b o, H2 b = some o → H3 b = some o) → (∀ o, s.heap.get? it = some o → s'.heap.get? it = some o) → St i s') →
      WalksS X.prog X.w X.A.in1 it [it, l] [it] (fun a b => b = a) xs.length (fun i v => ∃ x, xs[i]? = some x ∧ L2.RelV x v) St → St 0 s₂ → (∀ b ∈ [it, l], b < s₂.heap.objs.size) →
      ∃ I fp wr G n P St J V bt, Value.ref it = .ref I ∧ WalksS X.prog X.w X.A.in1 I fp wr G n P St ∧ St 0 s₂ ∧ (∀ b ∈ fp, b < s₂.heap.objs.size) ∧
        KeyRun X.prog X.w X.A.in1 (.ref f) .Lt s₂.heap.objs.size wr G n P St J V bt ∧ J s₂ ∧ (n = 0 → ∀ s', J s' → EP X pins σ Q .none s') ∧ (0 < n → ∀ v s', P (argBest bt (n - 1)) v → J s' → EP X pins σ Q v s') := fun it s₂ St eit esz I4 q1 q2 W st0 hfp => by
    have n1 : H2 it = none := by rw [eit]; exact I3.hok.fresh (Nat.le_refl _)
    have n2 : H2 s₂.heap.objs.size = none := I4.hok.fresh (Nat.le_refl _)
    have f1 : Stat X ((f, kla_obj "<lambda>" (X.env.qual ++ "<lambda>") params body scope [] pm c' ctv) :: pins) it := by
      have q := I3.fpOk (b := it) (by rw [eit]; exact Nat.le_refl _) n1
      exact ⟨q.2.2.2.1, q.2.1, q.2.2.2.2.1, q.2.2.2.2.2⟩
    have f2 : Stat X ((f, kla_obj "<lambda>" (X.env.qual ++ "<lambda>") params body scope [] pm c' ctv) :: pins) s₂.heap.objs.size := by
      have q := I4.fpOk (b := s₂.heap.objs.size) (Nat.le_refl _) n2
      exact ⟨q.2.2.2.1, q.2.1, q.2.2.2.2.1, q.2.2.2.2.2⟩
    have KR := minKeyRun (X := X) (L := s₂.heap.objs.size) (it := it) (f := f) (c' := c') (xs := xs) (ds := ds) (St := St) (tb := tb) (g := g) (σ := σ) hr hu f2 f1 da3 List.mem_cons_self hc2 S (fun u => hb pm _ ctv u) q1 q2 (fun A outer s H hrm => hbody f _ A outer s H hrm)
      (fun i x d H2 e1 e2 e3 => hrun i x d H2 e1 e2 (ext2.trans (ExtN.of e3))) al sh
    have back : ∀ {H5 : Hp} {s' : Shared}, L2.Inv X ((f, kla_obj "<lambda>" (X.env.qual ++ "<lambda>") params body scope [] pm c' ctv) :: pins) σ H5 s' → L2.Inv X pins σ H5 s' := fun {H5 s'} I5 => I5.pins_of fun p hp => I5.pin p (List.mem_append_right _ (List.mem_cons_of_mem _ hp))
    have live5 : ∀ {H5 : Hp}, (∀ b o, H2 b = some o → H5 b = some o) → ∀ b, H1 b ≠ none → H5 b ≠ none := fun {H5} e b hb => by
      cases q : H2 b with
      | none => exact absurd q (live2 b hb)
      | some o => rw [e b o q]; exact fun z => by cases z
    refine ⟨it, [it, l], [it], _, xs.length, _, St, _, _, _, rfl, W, st0, hfp, KR, ⟨H2, I4, fun _ _ e => e, (fun b o e1 e2 => by rw [e1] at e2; cases e2), n2, n1⟩, fun h0 s' ⟨H5, I5, e5, _⟩ => ?_, fun h0 v s' ⟨x, hx, rx⟩ ⟨H5, I5, e5, _⟩ => ?_⟩
    · exact ⟨.non, H5, back I5, rfl, (fin H5 (ext2.trans (ExtN.of e5)) (live5 e5) (tT2.ext e5)).1 (List.eq_nil_of_length_eq_zero h0)⟩
    · exact ⟨x, H5, back I5, rx, (fin H5 (ext2.trans (ExtN.of e5)) (live5 e5) (tT2.ext e5)).2 _ x hx⟩
  refine call_min_walkKD ?_
  rcases hsrc with hsrc | hsrc
  · obtain ⟨its, rv, pl, hz⟩ := I3.list (sqL_ext ext2 hsrc)
    have hl := pl.isList
    have hlt : l < s3.heap.objs.size := let ⟨_, q, _⟩ := hl; Heap.lt_size q
    refine wpAny_pyIter_list hl ?_
    refine tail _ _ (StL s3.heap.objs.size l xs) rfl (Heap.size_push ..) (I3.kept (t' := s3.toks) fun b o e => Heap.get?_push_of_some _ e) (fun i s h => let ⟨⟨o, ho, _⟩, _⟩ := h; ⟨o, ho⟩) (fun i s s' H3 h I5 e5 kp => ?_) (walksL hh _ l (Nat.ne_of_lt hlt) xs) ⟨⟨_, Heap.get?_push_size _ rfl, rfl, rfl⟩, its, rv, hl.at fun o e => Heap.get?_push_of_some _ e⟩ (fun b hb => ?_)
    · obtain ⟨its5, rv5, pl5, _⟩ := I5.list (sqL_ext (fun b o e n => e5 b o (ext2 b o e n)) hsrc)
      exact ⟨h.1.at kp, its5, rv5, pl5.isList⟩
    · show b < (s3.heap.push _).objs.size
      rw [Heap.size_push]
      simp only [List.mem_cons, List.not_mem_nil, or_false] at hb
      rcases hb with z | z
      · rw [z]; exact Nat.lt_succ_self _
      · rw [z]; exact Nat.lt_succ_of_lt hlt
  · obtain ⟨its, rv, hl, hz⟩ := I3.tuple (sqT_ext ext2 hsrc)
    have hl : s3.heap.IsTuple l its.toArray := hl
    have hlt : l < s3.heap.objs.size := let ⟨_, q, _⟩ := hl; Heap.lt_size q
    refine wpAny_pyIter_tuple hl ?_
    refine tail _ _ (StT s3.heap.objs.size l xs) rfl (Heap.size_push ..) (I3.kept (t' := s3.toks) fun b o e => Heap.get?_push_of_some _ e) (fun i s h => let ⟨⟨o, ho, _⟩, _⟩ := h; ⟨o, ho⟩) (fun i s s' H3 h I5 e5 kp => ?_) (walksT hh _ l (Nat.ne_of_lt hlt) xs) ⟨⟨_, Heap.get?_push_size _ rfl, rfl, rfl⟩, its, rv, hl.at fun o e => Heap.get?_push_of_some _ e⟩ (fun b hb => ?_)
    · obtain ⟨its5, rv5, pl5, _⟩ := I5.tuple (sqT_ext (fun b o e n => e5 b o (ext2 b o e n)) hsrc)
      exact ⟨h.1.at kp, its5, rv5, pl5⟩
    · show b < (s3.heap.push _).objs.size
      rw [Heap.size_push]
      simp only [List.mem_cons, List.not_mem_nil, or_false] at hb
      rcases hb with z | z
      · rw [z]; exact Nat.lt_succ_self _
      · rw [z]; exact Nat.lt_succ_of_lt hlt
end
end My
end DL14_
section DL15_
set_option maxHeartbeats 1000000
namespace My
open PySem PySem.Spec PyProof.Rows L2 LamX
section
variable {K : PySem.W.Frag} {H H' : Hp}
mutual
theorem Dp.extn (e : ExtN H H') : ∀ {d : PyData} {v : V}, Dp K H v d → Dp K H' v d
  | .none, _, .non => .non
  | .bool _, _, .bl b => .bl b
  | .int _, _, .int i => .int i
  | .str _, _, .str x => .str x
  | .list _, _, .lst s a => .lst (sqL_ext e s) (DpAll.extn e a)
  | .tuple _, _, .tup s a => .tup (sqT_ext e s) (DpAll.extn e a)
theorem DpAll.extn (e : ExtN H H') : ∀ {ds : List PyData} {vs : List V}, DpAll K H vs ds → DpAll K H' vs ds
  | [], _, .nil => .nil
  | _ :: _, _, .cons h t => .cons (Dp.extn e h) (DpAll.extn e t)
end
end
section
variable {c : Ctx} {Γ : Env'} {P : Dat → Env' → Prop}
/-- the lambda's body at the datum d: a new tuple (g d, d) -/
def KeyOk (c : Ctx) (tb : TE) (a : Str) (g : PyData → Int) (d : PyData) : Prop := ∀ (H : Hp) (x : V), Dp c.K H x d → tb (L2.start [a] [x]) H fun v H3 => ∃ T, v = .ref T ∧ H T = none ∧ H3 = upd H T (.tup [.int (g d), x])
theorem ee_min {T : List (Addr × Str)} {g : PyData → Int} {tb te : TE} {a : Str} (hT : c.T = T) (h : EE c te Γ fun x Γ1 => ∃ ds, (x = dL ds ∨ x = dT ds) ∧ PySem.W.AllAlike ds ∧ (∀ d ∈ ds, Shal d) ∧ (∀ d ∈ ds, KeyOk c tb a g d) ∧ (ds = [] → P dN Γ1) ∧ ∀ d ∈ ds, P (.val d) Γ1) :
    EE c (tMin c.K T g tb a te) Γ P := fun σ B H C E Q q => by
  subst hT
  refine h σ B H C E _ fun v B1 H1 x Γ1 s1 d1 ⟨ds, e, al, sh, ky, p0, p1⟩ => ?_
  obtain ⟨l, xs, ev, src, da⟩ : ∃ l xs, v = .ref l ∧ (SqL c.K H1 l xs ∨ SqT c.K H1 l xs) ∧ DpAll c.K B1 xs ds := by
    rcases e with e | e
    · subst e
      cases d1 with
      | lst h1 a1 => exact ⟨_, _, rfl, .inl (sqL_mono s1.cur.sub.ex h1), a1⟩
    · subst e
      cases d1 with
      | tup h1 a1 => exact ⟨_, _, rfl, .inr (sqT_mono s1.cur.sub.ex h1), a1⟩
  have da1 := DpAll.mono s1.cur.sub.ex da
  refine ⟨s1.cur.tab, l, xs, ds, ev, src, da1, al, sh, fun i x d H2 hx hd e => ?_, fun H2 e lv tab => ?_⟩
  · obtain ⟨d', hd', dd⟩ := DpAll.get da1 hx
    rw [hd] at hd'
    cases hd'
    exact ky d (List.mem_of_getElem? hd) H2 x (Dp.extn e dd)
  · have st := step_call s1.cur (show Ex H1 H2 from ⟨e, lv⟩) tab
    refine ⟨fun h0 => ?_, fun j x hx => ?_⟩
    · subst h0
      cases da
      exact q _ _ H2 dN Γ1 (s1.step st) Dp.non (p0 rfl)
    · obtain ⟨d, hd, dd⟩ := DpAll.get da hx
      exact q _ _ H2 (.val d) Γ1 (s1.step st) (Dp.mono st.b dd) (p1 d (List.mem_of_getElem? hd))
end
section
variable {X : Cx}
/-- min(list of data) -/
def rMinX (K : PySem.W.Frag) : List V → Hp → L2.VK → Prop := fun vs H Q => ∃ (a : Addr) (xs : List V) (ds : List PyData), vs = [.ref a] ∧ SqL K H a xs ∧ DpAll K H xs ds ∧ ds ≠ [] ∧ PySem.W.AllAlike ds ∧ (∀ d ∈ ds, d ≠ .none) ∧ (∀ d ∈ ds, Shal d) ∧ ∀ (j : Nat) x, xs[j]? = some x → Q x H
theorem depthAll_le {n : Nat} : ∀ {ds : List PyData}, (∀ d ∈ ds, d.depth ≤ n) → PyData.depthAll ds ≤ n
  | [], _ => by rw [PyData.depthAll]; omega
  | d :: ds, h => by
    rw [PyData.depthAll]
    exact Nat.max_le.mpr ⟨h d (by simp), depthAll_le fun x hx => h x (by simp [hx])⟩
theorem cr_minX (hu : X.A.units + 64 < cLine) (hcalm : X.calm = true) : CallR X (.builtin "min") (rMinX X.K) := by
  intro pins s σ H xs us Q I r q
  obtain ⟨a, xs, ds, rfl, hq, da, hne, al, nn, sh, q⟩ := q
  obtain ⟨u, rfl, rx⟩ := vals1 r
  cases rx
  obtain ⟨its, rv, pl, hz⟩ := I.list hq
  obtain ⟨as, ra⟩ := Dp.readsAll I ds xs its da rv
  cases ds with
  | nil => exact absurd rfl hne
  | cons d ds =>
    refine PySem.W.min_list_data (I.ok.hd hcalm) pl.isList (by simpa using ra) ⟨fun x hx y hy => al x hx y hy, nn⟩ ?_ fun i v h' tk bs hv _ k => ?_
    · have := depthAll_le (n := 16) fun x hx => sh x hx
      omega
    · have hv' : its[i]? = some v := by simpa using hv
      have hi : i < xs.length := by rw [rv.length]; exact (List.getElem?_eq_some_iff.mp hv').1
      obtain ⟨x, hx⟩ : ∃ x, xs[i]? = some x := ⟨_, List.getElem?_eq_getElem hi⟩
      obtain ⟨v2, h2, r2⟩ := rv.get hx
      rw [hv'] at h2
      cases h2
      exact ⟨x, H, I.kept (t' := tk) k, r2, q i x hx⟩
end
theorem rl_min {c : Ctx} {ds : List PyData} {P : Dat → Prop} (hne : ds ≠ []) (al : PySem.W.AllAlike ds) (nn : ∀ d ∈ ds, d ≠ .none) (sh : ∀ d ∈ ds, Shal d) (k : ∀ d ∈ ds, P (.val d)) : RL1 c (rMinX c.K) ds P := fun B H v C ⟨a, ws, e, h, da⟩ Q q => by
  subst e
  refine ⟨a, ws, ds, rfl, h, DpAll.mono C.sub.ex da, hne, al, nn, sh, fun j x hx => ?_⟩
  obtain ⟨d, hd, dd⟩ := DpAll.get da hx
  exact q _ B H (.val d) (Step.refl C) dd (k d (List.mem_of_getElem? hd))
/-- sorted(x): the sorted data -/
theorem rl_sort {c : Ctx} {ds : List PyData} {P : Dat → Prop} (al : PySem.W.AllAlike ds) (so : PySem.W.Sortable ds) (sh : ∀ d ∈ ds, Shal d) (k : P (dL (ds.mergeSort (PySem.W.dataLe false id)))) : RL1 c (rSortX c.K) ds P := fun B H v C ⟨a, ws, e, h, da⟩ Q q => by
  subst e
  refine ⟨a, ws, ds, rfl, .inl h, DpAll.mono C.sub.ex da, al, so, sh, fun p hp => ?_⟩
  have st := step_new (o := .lst (sortV ws ds)) C hp
  exact q _ _ _ (dL _) st (Dp.lst (SqL.of upd_same) (DpAll.mono st.b (sort_dp da))) k
theorem rl_sortT {c : Ctx} {ds : List PyData} {P : Dat → Prop} (al : PySem.W.AllAlike ds) (so : PySem.W.Sortable ds) (sh : ∀ d ∈ ds, Shal d) (k : P (dL (ds.mergeSort (PySem.W.dataLe false id)))) : RL c (rSortX c.K) [dT ds] P := fun B H vs C d Q q => by
  cases d with
  | cons d t =>
    cases t
    cases d with
    | @tup a ws _ h da =>
      refine ⟨a, ws, ds, rfl, .inr (sqT_mono C.sub.ex h), DpAll.mono C.sub.ex da, al, so, sh, fun p hp => ?_⟩
      have st := step_new (o := .lst (sortV ws ds)) C hp
      exact q _ _ _ (dL _) st (Dp.lst (SqL.of upd_same) (DpAll.mono st.b (sort_dp da))) k
end My
end DL15_
section DL16_
set_option maxHeartbeats 1000000
namespace My
open PySem PySem.Spec PyProof.Rows L2 LamX
def kP : Key → PyData
  | .inl i => .int i
  | .inr x => .str x
section
variable {κ : Type} [DecidableEq κ]
/-- what stands at a key -/
def getD' (kvs : List (κ × PyData)) (k : κ) : Option PyData := (kvs.find? fun kv => decide (kv.1 = k)).map (·.2)
/-- stored at a key: in its place, or at the end -/
def putD' (kvs : List (κ × PyData)) (k : κ) (d : PyData) : List (κ × PyData) :=
  if (kvs.any fun kv => decide (kv.1 = k)) = true then kvs.map (fun kv => if kv.1 = k then (kv.1, d) else kv) else kvs ++ [(k, d)]
variable {K : PySem.W.Frag} {B : Hp}
theorem kv_get {ws : List (κ × V)} {kvs : List (κ × PyData)} (h : KvOk K B ws kvs) (k : κ) : (valV ws k = none ∧ getD' kvs k = none) ∨ ∃ v d, valV ws k = some v ∧ getD' kvs k = some d ∧ Dp K B v d := by
  unfold valV getD'
  induction h with
  | nil => exact .inl ⟨rfl, rfl⟩
  | @cons k' v d r s hd t ih =>
    rw [List.find?_cons, List.find?_cons]
    by_cases e : k' = k
    · simp only [e, decide_true]
      exact .inr ⟨v, d, rfl, rfl, hd⟩
    · simp only [e, decide_false]
      exact ih
theorem kv_any {ws : List (κ × V)} {kvs : List (κ × PyData)} (h : KvOk K B ws kvs) (k : κ) : (ws.any fun kv => decide (kv.1 = k)) = (kvs.any fun kv => decide (kv.1 = k)) := by
  induction h with
  | nil => rfl
  | cons hd t ih => rw [List.any_cons, List.any_cons, ih]
theorem kv_map {ws : List (κ × V)} {kvs : List (κ × PyData)} (h : KvOk K B ws kvs) {k : κ} {v : V} {d : PyData} (hd : Dp K B v d) : KvOk K B (ws.map fun kv => if kv.1 = k then (kv.1, v) else kv) (kvs.map fun kv => if kv.1 = k then (kv.1, d) else kv) := by
  induction h with
  | nil => exact .nil
  | @cons k' v' d' r s hd' t ih =>
    rw [List.map_cons, List.map_cons]
    by_cases e : k' = k
    · rw [if_pos e, if_pos e]; exact .cons hd ih
    · rw [if_neg e, if_neg e]; exact .cons hd' ih
theorem kv_app {ws vs : List (κ × V)} {kvs lvs : List (κ × PyData)} (h : KvOk K B ws kvs) (h2 : KvOk K B vs lvs) : KvOk K B (ws ++ vs) (kvs ++ lvs) := by
  induction h with
  | nil => exact h2
  | cons hd t ih => exact .cons hd ih
theorem kv_put {ws : List (κ × V)} {kvs : List (κ × PyData)} (h : KvOk K B ws kvs) {k : κ} {v : V} {d : PyData} (hd : Dp K B v d) : KvOk K B (putK ws k v) (putD' kvs k d) := by
  unfold putK putD'
  rw [kv_any h]
  split
  · exact kv_map h hd
  · exact kv_app h (.cons hd .nil)
end
theorem dp_key {K : PySem.W.Frag} {B : Hp} {v : V} {k : Key} (h : Dp K B v (kP k)) : v = kV k := by
  cases k with
  | inl i => cases h; rfl
  | inr x => cases h; rfl
/-- a tuple as it was made -/
def dF (c : Ctx) (ds : List PyData) : Dat := .mon fun B v => ∃ b ws, v = .ref b ∧ B b = some (.tup ws) ∧ DpAll c.K B ws ds
theorem dF_val {c : Ctx} {B : Hp} {v : V} {ds : List PyData} (h : DatOk c.K B v (dF c ds)) : DatOk c.K B v (dT ds) := by
  obtain ⟨⟨b, ws, rfl, e, a⟩, _⟩ := h
  exact .tup (SqT.of e) a
theorem dp_keys {K : PySem.W.Frag} {B : Hp} : ∀ {ws : List V} {ks : List Key}, DpAll K B ws (ks.map kP) → ws = ks.map kV
  | [], [], _ => rfl
  | [], _ :: _, h => by cases h
  | _ :: _, [], h => by cases h
  | _ :: _, _ :: _, .cons h t => by rw [dp_key h, dp_keys t]; rfl
section
variable {c : Ctx} {Γ : Env'} {P : Dat → Env' → Prop}
/-- told otherwise -/
theorem ee_as {te : TE} (h : EE c te Γ fun x Γ1 => ∃ y, (∀ B v, DatOk c.K B v x → DatOk c.K B v y) ∧ P y Γ1) : EE c te Γ P := fun σ B H C E Q q =>
  h σ B H C E Q fun v B1 H1 x Γ1 s d ⟨y, hy, p⟩ => q v B1 H1 y Γ1 s (hy B1 v d) p
theorem ee_tupF {ta : TA} (h : EA c ta Γ fun xs Γ1 => ∃ ds : List PyData, xs = ds.map .val ∧ ds.length ≤ 1000000 ∧ P (dF c ds) Γ1) : EE c (tTup ta) Γ P := fun σ B H C E Q q =>
  h σ B H C E _ fun vs B1 H1 xs Γ1 s1 d1 ⟨ds, e, hl, p⟩ => by
    subst e
    have da := DatAll.vals d1
    refine ⟨len_lit (by rw [My.DpAll.length da]; exact hl), fun a ha => ?_⟩
    have s := step_new (o := .tup vs) s1.cur ha
    exact q _ _ _ (dF c ds) Γ1 (s1.step s) ⟨⟨a, vs, rfl, upd_same, DpAll.mono s.b da⟩, fun B' e' => ⟨a, vs, rfl, e'.keep _ _ upd_same (fun ps z => by cases z), DpAll.mono (s.b.trans e') da⟩⟩ p
end
inductive DV where
  | k (kvs : List (Key × PyData))
  | t (kvs : List (List Key × PyData))
inductive KD where
  | k (k : Key)
  | t (ks : List Key)
def DV.get : DV → KD → Option PyData
  | .k kvs, .k y => getD' kvs y
  | .t kvs, .t ks => getD' kvs ks
  | _, _ => none
def DV.fits : DV → KD → Prop
  | .k _, .k _ => True
  | .t _, .t _ => True
  | _, _ => False
def DV.put : DV → KD → PyData → DV
  | .k kvs, .k y, d => .k (putD' kvs y d)
  | .t kvs, .t ks, d => .t (putD' kvs ks d)
  | dv, _, _ => dv
def DV.size : DV → Nat
  | .k kvs => kvs.length
  | .t kvs => kvs.length
def DV.own : DV → Cell
  | .k kvs => .oK kvs
  | .t kvs => .oT kvs
def DVH (c : Ctx) (B H : Hp) (v : V) : DV → Prop
  | .k kvs => ∃ a ws, v = .ref a ∧ H a = some (.dK ws) ∧ KvOk c.K B ws kvs
  | .t kvs => ∃ a ws, v = .ref a ∧ H a = some (.dT ws) ∧ KvOk c.K B ws kvs
inductive DictCell : Cell → DV → Prop
  | oK (kvs : List (Key × PyData)) : DictCell (.oK kvs) (.k kvs)
  | oT (kvs : List (List Key × PyData)) : DictCell (.oT kvs) (.t kvs)
  | dk (kvs : List (Key × PyData)) : DictCell (.dat (.dk kvs)) (.k kvs)
  | dt (kvs : List (List Key × PyData)) : DictCell (.dat (.dt kvs)) (.t kvs)
def keyH (H : Hp) (y : V) : KD → Prop
  | .k k => y = kV k
  | .t ks => ∃ b, y = .ref b ∧ H b = some (.tup (ks.map kV))
def KeyDat (c : Ctx) (x : Dat) (kd : KD) : Prop := ∀ B H v, Sub B H → DatOk c.K B v x → keyH H v kd
theorem key_s {c : Ctx} {s : Str} : KeyDat c (dS s) (.k (.inr s)) := fun B H v _ d => by cases d; rfl
theorem key_t {c : Ctx} {ks : List Key} {ds : List PyData} (e : ds = ks.map kP) : KeyDat c (dF c ds) (.t ks) := fun B H v s d => by
  subst e
  obtain ⟨⟨b, ws, rfl, e, a⟩, _⟩ := d
  rw [dp_keys a] at e
  exact ⟨b, rfl, s b _ e⟩
section
variable {c : Ctx} {Γ Γ1 : Env'} {P : Dat → Env' → Prop} {B H : Hp}
theorem DictCell.rl {i : Nat} {x : Cell} {dv : DV} (rl : Rl Γ Γ1) (f : DictCell x dv) (h : Γ[i]? = some x) : Γ1[i]? = some x := by
  rcases rl.at_ i with e | ⟨k, k', e, _⟩
  · rw [e]; exact h
  · rw [h] at e
    cases e
    cases f
theorem env_dv {σ : List (Option V)} (C : Cur c B H) (E : EnvOk c B H σ Γ) {i : Nat} {x : Cell} {dv : DV} (h : Γ[i]? = some x) (f : DictCell x dv) : ∃ v, σ[i]? = some (some v) ∧ DVH c B H v dv := by
  cases f with
  | oK kvs =>
    obtain ⟨a, ws, h1, h2, _, _, h3⟩ := env_oK E h
    exact ⟨_, h1, a, ws, rfl, h2, h3⟩
  | oT kvs =>
    obtain ⟨a, ws, h1, h2, _, _, h3⟩ := env_oT E h
    exact ⟨_, h1, a, ws, rfl, h2, h3⟩
  | dk kvs =>
    obtain ⟨v, h1, a, ws, rfl, h2, h3⟩ := env_dat E h
    exact ⟨_, h1, a, ws, rfl, C.sub _ _ h2, h3⟩
  | dt kvs =>
    obtain ⟨v, h1, a, ws, rfl, h2, h3⟩ := env_dat E h
    exact ⟨_, h1, a, ws, rfl, C.sub _ _ h2, h3⟩
theorem dv_get {v y : V} {dv : DV} {kd : KD} (h : DVH c B H v dv) (k : keyH H y kd) (ft : dv.fits kd) : ∃ a o, v = .ref a ∧ IsD H a ∧ DGet H a y o ∧ ((o = none ∧ dv.get kd = none) ∨ ∃ u d, o = some u ∧ dv.get kd = some d ∧ Dp c.K B u d) := by
  cases dv with
  | k kvs => cases kd with
    | k k' =>
      obtain ⟨a, ws, rfl, e, kv⟩ := h
      refine ⟨a, valV ws k', rfl, .inl ⟨ws, .inl e⟩, ?_, ?_⟩
      · rw [show y = kV k' from k]; exact DGet.k e
      · rcases kv_get kv k' with ⟨h1, h2⟩ | ⟨u, d, h1, h2, h3⟩
        · exact .inl ⟨h1, h2⟩
        · exact .inr ⟨u, d, h1, h2, h3⟩
    | t ks => exact ft.elim
  | t kvs => cases kd with
    | k k' => exact ft.elim
    | t ks =>
      obtain ⟨a, ws, rfl, e, kv⟩ := h
      obtain ⟨b, rfl, eb⟩ := k
      refine ⟨a, valV ws ks, rfl, .inr ⟨ws, .inl e⟩, DGet.t e eb, ?_⟩
      rcases kv_get kv ks with ⟨h1, h2⟩ | ⟨u, d, h1, h2, h3⟩
      · exact .inl ⟨h1, h2⟩
      · exact .inr ⟨u, d, h1, h2, h3⟩
theorem ref_dv {v w : V} {σ : List (Option V)} {i : Nat} (h1 : σ[i]? = some (some v)) (h2 : σ[i]? = some (some w)) : v = w := by
  rw [h1] at h2
  exact Option.some.inj (Option.some.inj h2)
/-- d[k], k there -/
theorem ee_dget {i : Nat} {x : Cell} {dv : DV} {ty : TE} (hi : Γ[i]? = some x) (f : DictCell x dv) (h : EE c ty Γ fun y Γ1 => ∃ kd d, KeyDat c y kd ∧ dv.fits kd ∧ dv.get kd = some d ∧ P (.val d) Γ1) : EE c (tDGet (tVar i) ty) Γ P := fun σ B H C E Q q => by
  obtain ⟨v0, hv0, _⟩ := env_dv C E hi f
  refine ⟨v0, hv0, h σ B H C E _ fun y B1 H1 yd Γ1 s1 d1 ⟨kd, d, kk, ft, g, p⟩ => ?_⟩
  obtain ⟨v1, hv1, dh⟩ := env_dv s1.cur s1.env (f.rl s1.rl hi) f
  have e := ref_dv hv0 hv1
  subst e
  obtain ⟨a, o, rfl, _, dg, r⟩ := dv_get dh (kk B1 H1 y s1.cur.sub d1) ft
  rcases r with ⟨_, e2⟩ | ⟨u, d', rfl, e2, du⟩
  · rw [g] at e2; cases e2
  · rw [g] at e2
    cases e2
    exact ⟨a, u, rfl, dg, q u B1 H1 (.val d) Γ1 s1 du p⟩
/-- d.get(k, z) -/
theorem ee_dget2 {i : Nat} {x : Cell} {dv : DV} {ty tx : TE} (hi : Γ[i]? = some x) (f : DictCell x dv) (h : EE c ty Γ fun y Γ1 => ∃ kd, KeyDat c y kd ∧ dv.fits kd ∧ EE c tx Γ1 fun z Γ2 => ∃ d, z = .val d ∧ P (.val ((dv.get kd).getD d)) Γ2) : EE c (tDGet2 (tVar i) ty tx) Γ P := fun σ B H C E Q q => by
  obtain ⟨v0, hv0, dh0⟩ := env_dv C E hi f
  obtain ⟨a0, e0, id0⟩ : ∃ a, v0 = .ref a ∧ IsD H a := by
    cases dv with
    | k kvs => obtain ⟨a, ws, e, e2, _⟩ := dh0; exact ⟨a, e, .inl ⟨ws, .inl e2⟩⟩
    | t kvs => obtain ⟨a, ws, e, e2, _⟩ := dh0; exact ⟨a, e, .inr ⟨ws, .inl e2⟩⟩
  refine ⟨v0, hv0, a0, e0, id0, h σ B H C E _ fun y B1 H1 yd Γ1 s1 d1 ⟨kd, kk, ft, h2⟩ => h2 σ B1 H1 s1.cur s1.env _ fun z B2 H2 zd Γ2 s2 d2 ⟨d, ez, p⟩ => ?_⟩
  subst ez
  obtain ⟨v1, hv1, dh⟩ := env_dv s2.cur s2.env (f.rl s2.rl (f.rl s1.rl hi)) f
  have e := ref_dv hv0 hv1
  subst e
  obtain ⟨a, o, e1, _, dg, r⟩ := dv_get dh (kk B2 H2 y s2.cur.sub (DatOk.mono s2.b d1)) ft
  rw [e0] at e1
  cases e1
  refine ⟨o, dg, ?_⟩
  rcases r with ⟨rfl, e2⟩ | ⟨u, d', rfl, e2, du⟩
  · rw [e2] at p
    exact q z B2 H2 (.val d) Γ2 (s1.trans s2) d2 p
  · rw [e2] at p
    exact q u B2 H2 (.val d') Γ2 (s1.trans s2) du p
theorem ee_din {i : Nat} {x : Cell} {dv : DV} {ty : TE} (hi : Γ[i]? = some x) (f : DictCell x dv) (h : EE c ty Γ fun y Γ1 => ∃ kd, KeyDat c y kd ∧ dv.fits kd ∧ P (dB (dv.get kd).isSome) Γ1) : EE c (tDIn ty (tVar i)) Γ P := fun σ B H C E Q q =>
  h σ B H C E _ fun y B1 H1 yd Γ1 s1 d1 ⟨kd, kk, ft, p⟩ => by
    obtain ⟨v1, hv1, dh⟩ := env_dv s1.cur s1.env (f.rl s1.rl hi) f
    obtain ⟨a, o, rfl, _, dg, r⟩ := dv_get dh (kk B1 H1 y s1.cur.sub d1) ft
    have eo : o.isSome = (dv.get kd).isSome := by
      rcases r with ⟨rfl, e2⟩ | ⟨u, d', rfl, e2, du⟩
      · rw [e2]; rfl
      · rw [e2]; rfl
    exact ⟨_, hv1, a, o, rfl, dg, by rw [eo]; exact q _ B1 H1 (dB _) Γ1 s1 (Dp.bl _) p⟩
theorem ee_dnotin {i : Nat} {x : Cell} {dv : DV} {ty : TE} (hi : Γ[i]? = some x) (f : DictCell x dv) (h : EE c ty Γ fun y Γ1 => ∃ kd, KeyDat c y kd ∧ dv.fits kd ∧ P (dB (!(dv.get kd).isSome)) Γ1) : EE c (tDNotIn ty (tVar i)) Γ P := fun σ B H C E Q q =>
  h σ B H C E _ fun y B1 H1 yd Γ1 s1 d1 ⟨kd, kk, ft, p⟩ => by
    obtain ⟨v1, hv1, dh⟩ := env_dv s1.cur s1.env (f.rl s1.rl hi) f
    obtain ⟨a, o, rfl, _, dg, r⟩ := dv_get dh (kk B1 H1 y s1.cur.sub d1) ft
    have eo : o.isSome = (dv.get kd).isSome := by
      rcases r with ⟨rfl, e2⟩ | ⟨u, d', rfl, e2, du⟩
      · rw [e2]; rfl
      · rw [e2]; rfl
    exact ⟨_, hv1, a, o, rfl, dg, by rw [eo]; exact q _ B1 H1 (dB _) Γ1 s1 (Dp.bl _) p⟩
end
/-- d[k] = v, d own -/
theorem ss_dput {c : Ctx} {Γ : Env'} {P : Post} {i : Nat} {ty tv : TE} (h : EE c tv Γ fun x Γ1 => ∃ d dv, x = .val d ∧ Γ1[i]? = some (DV.own dv) ∧ EE c ty Γ1 fun y Γ2 => ∃ kd, KeyDat c y kd ∧ dv.fits kd ∧ dv.size < 1000000 ∧ P.nx (Γ2.set i (DV.own (dv.put kd d)))) : SS c (sDPut (tVar i) ty tv) Γ P := fun σ B H D C E n r b k =>
  h σ B H C E _ fun v B1 H1 x Γ1 s1 d1 ⟨d, dv, ex, hi, h2⟩ => by
    subst ex
    have f : DictCell (DV.own dv) dv := by
      cases dv with
      | k kvs => exact .oK kvs
      | t kvs => exact .oT kvs
    obtain ⟨v0, hv0, dh0⟩ := env_dv s1.cur s1.env hi f
    refine ⟨v0, hv0, h2 σ B1 H1 s1.cur s1.env _ fun y B2 H2 yd Γ2 s2 d2 ⟨kd, kk, ft, hz, p⟩ => ?_⟩
    have hi2 := f.rl s2.rl hi
    have ky := kk B2 H2 y s2.cur.sub d2
    have dv2 := DatOk.mono s2.b d1
    cases dv with
    | k kvs => cases kd with
      | t ks => exact ft.elim
      | k k' =>
        obtain ⟨a, ws, h1, h2, h3, h4, h5⟩ := env_oK s2.env hi2
        have e := ref_dv hv0 h1
        subst e
        refine ⟨a, upd H2 a (.dK (putK ws k' v)), rfl, ?_, ?_⟩
        · rw [show y = kV k' from ky]
          exact DPut.k h2 (Nat.lt_of_lt_of_le (by rw [KvOk.length h5]; exact hz) (by decide))
        · exact n σ B2 _ _ (cur_write s2.cur h3 h4.1 (dK_ne h2).1 (dK_ne h2).2) (s1.b.trans s2.b) (s2.env.write (y := .oK (putD' kvs k' d)) h1 hi2 rfl ⟨a, _, rfl, upd_same, h3, h4, kv_put h5 dv2⟩ fun b hb => hb) p
    | t kvs => cases kd with
      | k k' => exact ft.elim
      | t ks =>
        obtain ⟨a, ws, h1, h2, h3, h4, h5⟩ := env_oT s2.env hi2
        have e := ref_dv hv0 h1
        subst e
        obtain ⟨b', rfl, eb⟩ := ky
        exact ⟨a, _, rfl, DPut.t h2 eb (Nat.lt_of_lt_of_le (by rw [KvOk.length h5]; exact hz) (by decide)),
          n σ B2 _ _ (cur_write s2.cur h3 h4.1 (dT_ne h2).1 (dT_ne h2).2) (s1.b.trans s2.b) (s2.env.write (y := .oT (putD' kvs ks d)) h1 hi2 rfl ⟨a, _, rfl, upd_same, h3, h4, kv_put h5 dv2⟩ fun b hb => hb) p⟩
end My
end DL16_
section DL17_
set_option maxHeartbeats 1000000
namespace My
open PySem PySem.Spec PySem.W PyProof.Rows L2 LamX
abbrev NX := List (NestedKey × Addr × Value)
/-- the dict at d: its entries -/
def ND (P : Program) (w : World) (d : Addr) (xs : NX) : HO := .ext fun h => (d == sysModules) = false ∧ ∃ es ep, h.DictRaw d es ep ∧ es.toList = xs.map (entryOfKey (nestedKind P w))
theorem nd_ok {P : Program} {w : World} {H : Hp} {h : Heap} {d : Addr} {xs : NX} (lo : (d == sysModules) = false) (e : ∃ es ep, h.DictRaw d es ep ∧ es.toList = xs.map (entryOfKey (nestedKind P w))) : ObjOk P w H h d (ND P w d xs) := by
  obtain ⟨es, ep, ⟨o, ho, r⟩, e2⟩ := e
  exact ⟨⟨lo, es, ep, ⟨o, ho, r⟩, e2⟩, ⟨o, ho⟩, fun h1 h2 ⟨a, es, ep, q, e⟩ k => ⟨a, es, ep, q.at k, e⟩⟩
/-- the key of a datum -/
def nkOf : PyData → NestedKey
  | .str x => .text x
  | .int i => .num i
  | .tuple ds => .tup (nkAll ds)
  | .none => .none
  | .bool _ => .none
  | .list _ => .none
  | .dict _ => .none
where nkAll : List PyData → List NestedKey
  | [] => []
  | d :: ds => nkOf d :: nkAll ds
/-- made of texts, whole numbers and tuples -/
def NkD : PyData → Bool
  | .str _ => true
  | .int _ => true
  | .tuple ds => all ds
  | .none => false
  | .bool _ => false
  | .list _ => false
  | .dict _ => false
where all : List PyData → Bool
  | [] => true
  | d :: ds => NkD d && all ds
mutual
theorem nk_depth : ∀ d : PyData, (nkOf d).depth ≤ d.depth
  | .str x => by rw [nkOf, NestedKey.depth]; omega
  | .int i => by rw [nkOf, NestedKey.depth]; omega
  | .tuple ds => by
    rw [nkOf, NestedKey.depth, PyData.depth]
    have := nk_depthAll ds
    omega
  | .none => by rw [nkOf, NestedKey.depth]; omega
  | .bool _ => by rw [nkOf, NestedKey.depth]; omega
  | .list _ => by rw [nkOf, NestedKey.depth]; omega
  | .dict _ => by rw [nkOf, NestedKey.depth]; omega
theorem nk_depthAll : ∀ ds : List PyData, NestedKey.depthAll (nkOf.nkAll ds) ≤ PyData.depthAll ds
  | [] => by rw [nkOf.nkAll, NestedKey.depthAll]; omega
  | d :: ds => by
    rw [nkOf.nkAll, NestedKey.depthAll, PyData.depthAll]
    have h1 := nk_depth d
    have h2 := nk_depthAll ds
    omega
end
mutual
theorem nk_inj : ∀ d e : PyData, NkD d = true → NkD e = true → nkOf d = nkOf e → d = e
  | .str x, e, _, h, q => by
    cases e with
    | str y => rw [nkOf, nkOf] at q; injection q with q; rw [q]
    | int i => rw [nkOf, nkOf] at q; cases q
    | tuple ds => rw [nkOf, nkOf] at q; cases q
    | _ => simp [NkD] at h
  | .int x, e, _, h, q => by
    cases e with
    | int y => rw [nkOf, nkOf] at q; injection q with q; rw [q]
    | str i => rw [nkOf, nkOf] at q; cases q
    | tuple ds => rw [nkOf, nkOf] at q; cases q
    | _ => simp [NkD] at h
  | .tuple ds, e, h1, h, q => by
    cases e with
    | tuple es =>
      rw [nkOf, nkOf] at q
      injection q with q
      rw [nk_injAll ds es (by rw [NkD] at h1; exact h1) (by rw [NkD] at h; exact h) q]
    | str i => rw [nkOf, nkOf] at q; cases q
    | int i => rw [nkOf, nkOf] at q; cases q
    | _ => simp [NkD] at h
  | .none, _, h, _, _ => by simp [NkD] at h
  | .bool _, _, h, _, _ => by simp [NkD] at h
  | .list _, _, h, _, _ => by simp [NkD] at h
  | .dict _, _, h, _, _ => by simp [NkD] at h
theorem nk_injAll : ∀ ds es : List PyData, NkD.all ds = true → NkD.all es = true → nkOf.nkAll ds = nkOf.nkAll es → ds = es
  | [], [], _, _, _ => rfl
  | [], _ :: _, _, _, q => by rw [nkOf.nkAll, nkOf.nkAll] at q; cases q
  | _ :: _, [], _, _, q => by rw [nkOf.nkAll, nkOf.nkAll] at q; cases q
  | d :: ds, e :: es, h1, h2, q => by
    rw [nkOf.nkAll, nkOf.nkAll] at q
    rw [NkD.all, Bool.and_eq_true] at h1 h2
    injection q with q1 q2
    rw [nk_inj d e h1.1 h2.1 q1, nk_injAll ds es h1.2 h2.2 q2]
end
section
variable {X : Cx} {pins : List (Addr × Obj)} {σ : L2.St} {H : Hp} {s : Shared}
mutual
theorem nested_of (I : L2.Inv X pins σ H s) : ∀ (d : PyData) (v : V) (u : Value), NkD d = true → Dp X.K H v d → L2.RelV v u → NestedIs s.heap (nkOf d) u
  | .str x, _, _, _, h, r => by
    cases h
    obtain ⟨t, rfl⟩ := r
    rw [nkOf]; exact .text x t
  | .int x, _, _, _, h, r => by
    cases h
    obtain ⟨t, rfl⟩ := r
    rw [nkOf]; exact .int x t
  | .tuple ds, _, _, n, h, r => by
    cases h with
    | tup hs ha =>
      cases r
      obtain ⟨its, rv, ⟨o, ho, hc, n', hd⟩, _⟩ := I.tuple hs
      rw [nkOf]
      exact .tup ho hc hd (nested_ofAll I ds _ its (by rw [NkD] at n; exact n) ha rv)
  | .none, _, _, n, _, _ => by simp [NkD] at n
  | .bool _, _, _, n, _, _ => by simp [NkD] at n
  | .list _, _, _, n, _, _ => by simp [NkD] at n
  | .dict _, _, _, n, _, _ => by simp [NkD] at n
theorem nested_ofAll (I : L2.Inv X pins σ H s) : ∀ (ds : List PyData) (vs : List V) (us : List Value), NkD.all ds = true → DpAll X.K H vs ds → Vals vs us → NestedAll s.heap (nkOf.nkAll ds) us
  | [], _, _, _, h, r => by
    cases h
    cases r
    rw [nkOf.nkAll]; exact .nil
  | d :: ds, _, _, n, h, r => by
    cases h with
    | cons h1 h2 => cases r with
      | cons r1 r2 =>
        rw [NkD.all, Bool.and_eq_true] at n
        rw [nkOf.nkAll]
        exact .cons (nested_of I d _ _ n.1 h1 r1) (nested_ofAll I ds _ _ n.2 h2 r2)
end
/-- the entries' keys, by their data -/
inductive NKeys (K : PySem.W.Frag) (H : Hp) : NX → List PyData → Prop
  | nil : NKeys K H [] []
  | cons {b : Addr} {u : Value} {d : PyData} {xs : NX} {ds : List PyData} : Dp K H (.ref b) d → NkD d = true → d.depth ≤ 8 → NKeys K H xs ds → NKeys K H ((nkOf d, b, u) :: xs) (d :: ds)
theorem NKeys.mono {K : PySem.W.Frag} {H H' : Hp} (e : Ex H H') : ∀ {xs : NX} {ds : List PyData}, NKeys K H xs ds → NKeys K H' xs ds
  | _, _, .nil => .nil
  | _, _, .cons h a b t => .cons (Dp.mono e h) a b (NKeys.mono e t)
theorem NKeys.is {xs : NX} {ds : List PyData} (I : L2.Inv X pins σ H s) (k : NKeys X.K H xs ds) : ∀ x ∈ xs, (nestedKind X.prog X.w).is s.heap x.1 x.2.1 := by
  induction k with
  | nil => intro x hx; cases hx
  | @cons b u d xs ds h n dd t ih =>
    intro x hx
    rcases List.mem_cons.mp hx with e | hx
    · subst e
      exact ⟨nested_of I d _ _ n h rfl, Nat.le_trans (nk_depth d) dd⟩
    · exact ih x hx
theorem NKeys.keys {K : PySem.W.Frag} {H : Hp} : ∀ {xs : NX} {ds : List PyData}, NKeys K H xs ds → xs.map (·.1) = ds.map nkOf
  | _, _, .nil => rfl
  | _, _, .cons _ _ _ t => by rw [List.map_cons, List.map_cons, NKeys.keys t]
theorem NKeys.dp {K : PySem.W.Frag} {H : Hp} : ∀ {xs : NX} {ds : List PyData}, NKeys K H xs ds → DpAll K H (xs.map fun x => V.ref x.2.1) ds
  | _, _, .nil => .nil
  | _, _, .cons h _ _ t => .cons h (NKeys.dp t)
theorem NKeys.nk {K : PySem.W.Frag} {H : Hp} : ∀ {xs : NX} {ds : List PyData}, NKeys K H xs ds → ∀ d ∈ ds, NkD d = true
  | _, _, .nil, _, h => by cases h
  | _, _, .cons _ n _ t, d, h => by
    rcases List.mem_cons.mp h with e | h
    · rw [e]; exact n
    · exact NKeys.nk t d h
/-- a key put: there, or at the end -/
def putN (ds : List PyData) (d : PyData) : List PyData := if (ds.any fun e => decide (nkOf e = nkOf d)) = true then ds else ds ++ [d]
theorem NKeys.put {K : PySem.W.Frag} {H : Hp} {xs : NX} {ds : List PyData} {b : Addr} {u : Value} {d : PyData} (k : NKeys K H xs ds) (h : Dp K H (.ref b) d) (n : NkD d = true) (dd : d.depth ≤ 8) : NKeys K H (storedH xs (nkOf d) b u) (putN ds d) := by
  have e1 : (atKey xs (nkOf d)).isSome = (ds.any fun e => decide (nkOf e = nkOf d)) := by
    clear h n dd
    unfold atKey
    induction k with
    | nil => rfl
    | @cons b' u' d' xs ds h' n' dd' t ih =>
      rw [List.find?_cons, List.any_cons]
      by_cases e : nkOf d' = nkOf d
      · simp [e]
      · simp only [e, decide_false, Bool.false_or]
        exact ih
  unfold storedH putN
  rw [e1]
  split
  · clear e1
    induction k with
    | nil => exact .nil
    | @cons b' u' d' xs ds h' n' dd' t ih =>
      rw [List.map_cons]
      by_cases hany : (ds.any fun e => decide (nkOf e = nkOf d)) = true
      · have q := ih hany
        unfold putAt
        by_cases e : nkOf d' = nkOf d
        · rw [if_pos e]; exact .cons h' n' dd' q
        · rw [if_neg e]; exact .cons h' n' dd' q
      · have q : xs.map (putAt (nkOf d) u) = xs.map id := by
          clear ih
          rename_i hh
          have : ∀ {xs : NX} {ds : List PyData}, NKeys K H xs ds → ¬ (ds.any fun e => decide (nkOf e = nkOf d)) = true → xs.map (putAt (nkOf d) u) = xs.map id := fun k => by
            induction k with
            | nil => intro _; rfl
            | @cons b' u' d' xs ds h' n' dd' t ih =>
              intro hn
              rw [List.any_cons, Bool.or_eq_true, not_or] at hn
              rw [List.map_cons, List.map_cons, ih hn.2]
              have : ¬ nkOf d' = nkOf d := by simpa using hn.1
              unfold putAt
              rw [if_neg this]
              rfl
          exact this t hany
        rw [q, List.map_id]
        unfold putAt
        by_cases e : nkOf d' = nkOf d
        · rw [if_pos e]; exact .cons h' n' dd' t
        · rw [if_neg e]; exact .cons h' n' dd' t
  · exact (show NKeys K H (xs ++ [(nkOf d, b, u)]) (ds ++ [d]) from by
      clear e1
      induction k with
      | nil => exact .cons h n dd .nil
      | cons h' n' dd' t ih => exact .cons h' n' dd' (ih (by
          rename_i hh
          simp only [List.any_cons, Bool.or_eq_true, not_or] at hh
          exact hh.2)))
end
section
variable {X : Cx}
def tDNewN (P : Program) (w : World) : TE := fun _ H Q => ∀ p, H p = none → Q (.ref p) (upd H p (ND P w p []))
theorem pe_dnewN {pos : Pos} : PE X (.Dict [] [] pos) (tDNewN X.prog X.w) := ⟨fun pins s σ H Q I h =>
  wpAny_Dict_empty ⟨.ref s.heap.objs.size, _, I.laid (a := s.heap.objs.size) (o := ND X.prog X.w s.heap.objs.size []) (t' := s.toks) (fun _ _ q => Heap.get?_push_of_some _ q) (Nat.le_refl _)
    (nd_ok (beq_eq_false_iff_ne.mpr (Ne.symm (Nat.ne_of_lt I.big))) ⟨#[], 0, ⟨_, Heap.get?_push_size _ rfl, ⟨rfl, rfl, rfl⟩, rfl⟩, rfl⟩), rfl, h _ (I.hok.fresh (Nat.le_refl _))⟩⟩
/-- d[k] = True, by nested keys -/
def rSetN (P : Program) (w : World) (K : PySem.W.Frag) : TSet := fun o i v H Q => ∃ (d b : Addr) (xs : NX) (ds : List PyData) (k : PyData) (c : Bool), o = .ref d ∧ i = .ref b ∧ v = .bl c ∧ H d = some (ND P w d xs) ∧ NKeys K H xs ds ∧ ds.Nodup ∧ ds.length < sizeLine ∧ Dp K H (.ref b) k ∧ NkD k = true ∧ k.depth ≤ 8 ∧
  Q (upd H d (ND P w d (storedH xs (nkOf k) b (.bool c))))
theorem set_nest (hu : X.A.units + 64 < cLine) : PSet X (rSetN X.prog X.w X.K) := by
  intro pins s σ H o i v ov iv u Q I ro ri rv h
  obtain ⟨d, b, xs, ds, k, c, rfl, rfl, rfl, hd, nk, nd, hz, dk, n1, n2, q⟩ := h
  cases ro
  cases ri
  cases rv
  obtain ⟨⟨lo, es, ep, ⟨o, ho, hx, hdt⟩, he⟩, _⟩ := I.hok d _ hd
  have hl : xs.length = ds.length := by
    have e := congrArg List.length (NKeys.keys nk)
    rw [List.length_map, List.length_map] at e
    exact e
  have hm : s.heap.DictOfH (nestedKind X.prog X.w) d xs := ⟨o, es, ep, ho, hx, hdt, he, NKeys.is I nk, by
    rw [NKeys.keys nk]
    exact List.pairwise_map.mpr (List.Pairwise.imp_of_mem (fun {a b} ha hb (h : a ≠ b) => fun e => h (nk_inj a b (NKeys.nk nk a ha) (NKeys.nk nk b hb) e)) nd)⟩
  refine wpAny_setItem_heap (knd := nestedKind X.prog X.w) (hsz := by rw [hl]; exact Nat.le_of_lt hz) (show X.A.in1.units + 8 < cLine by show X.A.units + 1 + 8 < _; omega) ⟨nested_of I k _ _ n1 dk rfl, Nat.le_trans (nk_depth k) n2⟩ hm fun h' hm' hs => ?_
  obtain ⟨o', es', ep', ho', hx', hdt', he', _⟩ := hm'
  exact ⟨_, I.write (x := d) (e := d) (by rw [hd]; exact True.intro) (.inl rfl) (fun b q hb z => (hs.2 b hb).trans z) ⟨o', ho'⟩ (nd_ok lo ⟨es', ep', ⟨o', ho', hx', hdt'⟩, he'⟩), q⟩
/-- sorted(d), d by nested keys -/
def rSortN (P : Program) (w : World) (K : PySem.W.Frag) : List V → Hp → L2.VK → Prop := fun vs H Q => ∃ (d : Addr) (xs : NX) (ds : List PyData), vs = [.ref d] ∧ H d = some (ND P w d xs) ∧ NKeys K H xs ds ∧ ds.length < sizeLine ∧ PySem.W.AllAlike ds ∧ PySem.W.Sortable ds ∧ (∀ d ∈ ds, Shal d) ∧
  ∀ p, H p = none → Q (.ref p) (upd H p (.lst (sortV (xs.map fun x => V.ref x.2.1) ds)))
theorem cr_sortN (hu : X.A.units + 64 < cLine) (hcalm : X.calm = true) : CallR X (.builtin "sorted") (rSortN X.prog X.w X.K) := by
  intro pins s σ H xs us Q I r q
  obtain ⟨d, xs, ds, rfl, hd, nk, hz, al, so, sh, q⟩ := q
  obtain ⟨u, rfl, rx⟩ := vals1 r
  cases rx
  obtain ⟨⟨lo, es, ep, hraw, he⟩, _⟩ := I.hok d _ hd
  have hl : xs.length = ds.length := by
    have e := congrArg List.length (NKeys.keys nk)
    rw [List.length_map, List.length_map] at e
    exact e
  have hes : es.size = xs.length := by
    have e := congrArg List.length he
    rw [List.length_map, Array.length_toList] at e
    exact e
  refine Calls.call_function_entry PyProof.Rows.kind_sorted PyProof.Rows.plain_sorted PyProof.Rows.entry_sorted (PyProof.Rows.args_sorted1 _) ?_
  unfold Builtin.«sorted»
  refine wpAny_bind (m := checkCount "sorted" 1 1 _) (wpAny_pure ?_)
  refine wpAny_bind (PySem.W.kdu_collect (A := X.A.in1) (KdlSrc.rawDict (prog := X.prog) (w := X.w) (es := es) (ep := ep) lo) (I.ok.hd hcalm) hraw (by omega) fun h' tk acc hk hacc => ?_)
  have eacc : acc.toList = (xs.map fun x => Value.ref x.2.1) := by
    apply List.ext_getElem?
    intro j
    have e1 : acc.toList[j]? = acc[j]? := Array.getElem?_toList ..
    rw [e1, List.getElem?_map]
    cases e2 : acc[j]? with
    | none =>
      have : acc.size ≤ j := Array.getElem?_eq_none_iff.mp e2
      rw [hacc.1, hes] at this
      rw [List.getElem?_eq_none this]
      rfl
    | some v =>
      obtain ⟨hi, ev⟩ := hacc.2 j v e2
      subst ev
      have hj : j < xs.length := by omega
      have e3 : es.toList[j]? = some es[j] := by simp [hi]
      rw [he, List.getElem?_map, List.getElem?_eq_getElem hj] at e3
      have e4 := Option.some.inj e3
      rw [List.getElem?_eq_getElem hj]
      show some es[j].key = some (Value.ref xs[j].2.1)
      rw [← e4]
      rfl
  rw [eacc]
  have I1 : L2.Inv X pins σ H { s with heap := h', toks := tk } := I.kept hk
  refine sort_tail I1 hu (xs := xs.map fun x => V.ref x.2.1) ?_ (by rw [List.length_map, hl]; exact Nat.le_of_lt hz) nk.dp al so sh q
  have : ∀ l : NX, Vals (l.map fun x => V.ref x.2.1) (l.map fun x => Value.ref x.2.1) := fun l => by
    induction l with
    | nil => exact .nil
    | cons x l ih => exact .cons rfl ih
  exact this xs
end
/-- the slot's thing: a dict of the keys ds -/
def oN (P : Program) (w : World) (K : PySem.W.Frag) (ds : List PyData) : Cell := .own fun a B o => ∃ xs, o = ND P w a xs ∧ NKeys K B xs ds
section
variable {c : Ctx} {Γ : Env'} {P : Program} {w : World}
theorem nd_tbl {d : Addr} {xs : NX} (ps : Array Value) : ND P w d xs ≠ .tbl ps := fun z => by cases z
/-- a dict is no code object -/
theorem nd_code {a d : Addr} {xs : NX} {q : Str} : ND P w d xs ≠ CodeO a q ∨ d ≠ a := by
  by_cases e : d = a
  · refine .inl fun z => ?_
    subst e
    unfold ND CodeO at z
    injection z with z
    let ob : Obj := { cls := .none, data := .fields #[.none, .str q 0] }
    let h : Heap := { objs := Array.replicate (d + 1) ob }
    have hg : h.get? d = some ob := by
      have e1 : h.objs[d]? = some ob := by
        show (Array.replicate (d + 1) ob)[d]? = some ob
        simp
      unfold Heap.get?
      rw [e1]
    have z2 := congrFun z h
    have hr : ∃ (oc : Obj) (vs : Array Value) (t : Tok), h.get? d = some oc ∧ oc.data = .fields vs ∧ vs[1]? = some (.str q t) := ⟨ob, _, 0, hg, rfl, rfl⟩
    rw [← z2] at hr
    obtain ⟨_, es, ep, ⟨o, ho, _, hd⟩, _⟩ := hr
    rw [hg] at ho
    cases ho
    cases hd
  · exact .inr e
theorem nd_ne {H : Hp} {a : Addr} {xs : NX} (h : H a = some (ND P w a xs)) : (∀ ps, H a ≠ some (.tbl ps)) ∧ ∀ q, H a ≠ some (CodeO a q) := ⟨fun ps z => (by rw [h] at z; exact nd_tbl _ (Option.some.inj z)), fun q z => (by
  rw [h] at z
  rcases nd_code (P := P) (w := w) (a := a) (d := a) (xs := xs) (q := q) with e | e
  · exact e (Option.some.inj z)
  · exact e rfl)⟩
theorem ss_newN {Q : Post} {i : Nat} (hi : i < Γ.length) (h : Q.nx (Γ.set i (oN P w c.K []))) : SS c (tAsg (tDNewN P w) (gName i)) Γ Q := fun σ B H D C E n r b k p hp =>
  n (σ.set i (some (.ref p))) B (upd H p (ND P w p [])) _ (cur_new C hp) (Ex.refl _) (E.setOwn (x := oN P w c.K []) hp (by rw [E.len]; exact hi) ⟨p, _, rfl, upd_same, fun ps => nd_tbl ps, C.sub.none hp, new_free C hp, ⟨[], rfl, .nil⟩, fun _ _ => ⟨[], rfl, .nil⟩⟩ fun b hb => ref_inj hb) h
theorem env_oN {B H : Hp} {σ : List (Option V)} (E : EnvOk c B H σ Γ) {i : Nat} {ds : List PyData} (h : Γ[i]? = some (oN P w c.K ds)) : ∃ a xs, σ[i]? = some (some (.ref a)) ∧ H a = some (ND P w a xs) ∧ B a = none ∧ Free c a ∧ NKeys c.K B xs ds := by
  have hi : i < σ.length := by rw [E.len]; exact (List.getElem?_eq_some_iff.mp h).1
  obtain ⟨v, hv⟩ : ∃ v, σ[i]? = some v := ⟨_, List.getElem?_eq_getElem hi⟩
  have q := E.at_ i v _ hv h
  cases v with
  | none => exact q.elim
  | some v =>
    obtain ⟨a, o, r1, r2, _, r3, r4, ⟨xs, r5, r6⟩, _⟩ := q
    subst r1 r5
    exact ⟨a, xs, hv, r2, r3, r4, r6⟩
theorem rl_own {Γ1 : Env'} (rl : Rl Γ Γ1) {i : Nat} {ψ} (h : Γ[i]? = some (.own ψ)) : Γ1[i]? = some (.own ψ) := by
  rcases rl.at_ i with e | ⟨k, k', e, _⟩
  · rw [e]; exact h
  · rw [h] at e; cases e
/-- longer[key] = True -/
theorem ss_nput {Q : Post} {i : Nat} {ty tv : TE} (h : EE c tv Γ fun x Γ1 => ∃ b ds, x = dB b ∧ Γ1[i]? = some (oN P w c.K ds) ∧ ds.Nodup ∧ ds.length < 1000000 ∧ EE c ty Γ1 fun y Γ2 => ∃ d, y = .val (.tuple d) ∧ NkD (.tuple d) = true ∧ (PyData.tuple d).depth ≤ 8 ∧ Q.nx (Γ2.set i (oN P w c.K (putN ds (.tuple d))))) :
    SS c (tAsg tv (gSub (tVar i) ty (rSetN P w c.K))) Γ Q := fun σ B H D C E n r b k =>
  h σ B H C E _ fun v B1 H1 x Γ1 s1 d1 ⟨bb, ds, ex, hi, nd, hz, h2⟩ => by
    subst ex
    cases d1
    obtain ⟨a0, xs0, hv0, _⟩ := env_oN s1.env hi
    refine ⟨_, hv0, h2 σ B1 H1 s1.cur s1.env _ fun y B2 H2 yd Γ2 s2 d2 ⟨d, ey, n1, n2, p⟩ => ?_⟩
    subst ey
    have hi2 := rl_own s2.rl hi
    obtain ⟨a, xs, hv, hH, hB, hF, nk⟩ := env_oN s2.env hi2
    have e := ref_dv hv0 hv
    obtain rfl : a0 = a := V.ref.inj e
    cases d2 with
    | @tup b' ws _ hs ha =>
      have dk : Dp c.K B2 (.ref b') (.tuple d) := .tup hs ha
      exact ⟨a0, b', xs, ds, .tuple d, bb, rfl, rfl, rfl, hH, nk.mono s2.cur.sub.ex, nd, Nat.lt_of_lt_of_le hz (by decide), Dp.mono s2.cur.sub.ex dk, n1, n2,
        n σ B2 _ _ (cur_write s2.cur hB hF.1 (nd_ne hH).1 (nd_ne hH).2) (s1.b.trans s2.b) (s2.env.write (y := oN P w c.K (putN ds (.tuple d))) hv hi2 rfl ⟨a0, _, rfl, upd_same, fun ps => nd_tbl ps, hB, hF, ⟨_, rfl, nk.put dk n1 n2⟩, fun B' e' => ⟨_, rfl, (nk.put dk n1 n2).mono e'⟩⟩ fun b hb => hb) p⟩
end
/-- sorted(longer) -/
theorem ee_sortN {i : Nat} {ds : List PyData} {Q : Dat → Env' → Prop} (hi : Γ[i]? = some (oN P w c.K ds)) (hz : ds.length < 1000000) (al : PySem.W.AllAlike ds) (so : PySem.W.Sortable ds) (sh : ∀ d ∈ ds, Shal d) (k : Q (dL (ds.mergeSort (PySem.W.dataLe false id))) Γ) : EE c (tCB (rSortN P w c.K) (tCons (tVar i) tNil)) Γ Q := fun σ B H C E R q => by
  obtain ⟨a, xs, hv, hH, hB, hF, nk⟩ := env_oN E hi
  refine ⟨_, hv, a, xs, ds, rfl, hH, nk.mono C.sub.ex, Nat.lt_of_lt_of_le hz (by decide), al, so, sh, fun p hp => ?_⟩
  have st := step_new (o := .lst (sortV (xs.map fun x => V.ref x.2.1) ds)) C hp
  exact q _ _ _ (dL _) Γ ((St1.refl C E).step st) (Dp.lst (SqL.of upd_same) (DpAll.mono st.b (sort_dp nk.dp))) k
end My
end DL17_
section DL18_
set_option maxHeartbeats 1000000
namespace My
open PySem PySem.Spec PyProof.Rows L2 LamX
section
variable {c : Ctx} {Γ : Env'}
/-- found = {k: v} -/
theorem ss_disp1 {P : Post} {i : Nat} {tk tv : TE} (hi : i < Γ.length) (hk : EE c tk Γ fun x Γ1 => Γ1 = Γ ∧ ∃ k, x = .val (kP k) ∧ EE c tv Γ fun y Γ2 => Γ2 = Γ ∧ ∃ d, y = .val d ∧ P.nx (Γ.set i (.oK [(k, d)]))) : SS c (tAsg (tDisp [(tk, tv)]) (gName i)) Γ P := fun σ B H D C E n r b q p hp => by
  have C1 : Cur c B (upd H p (.dK [])) := cur_new C hp
  have E1 : EnvOk c B (upd H p (.dK [])) σ Γ := ⟨E.len, fun j v x h1 h2 => (E.at_ j v x h1 h2).other fun o => owns_live (E.at_ j v x h1 h2) o hp, E.sep⟩
  have hpr : p ∉ c.rs := fun z => (C.reel p z).1 hp
  refine hk σ B _ C1 E1 _ fun x B2 H2 xd Γ2 s2 d2 ⟨e2, k, ex, hv⟩ => ?_
  subst ex
  rw [e2] at s2
  refine hv σ B2 H2 s2.cur s2.env _ fun y B3 H3 yd Γ3 s3 d3 ⟨e3, d, ey, pn⟩ => ?_
  subst ey
  rw [e3] at s3
  have s23 := s2.trans s3
  have h3 : H3 p = some (.dK []) := s23.stp.h p _ upd_same (fun ps z => by cases z) hpr
  have b3 : B3 p = none := by
    cases e : B3 p with
    | none => rfl
    | some o => exact absurd (C.sub.none hp) (s23.stp.out p (by rw [e]; exact fun z => by cases z) (by rw [upd_same]; exact fun z => by cases z))
  refine ⟨h3, [(k, y)], by rw [dp_key (DatOk.mono s3.b d2 : Dp c.K B3 x (kP k))]; rfl, by show 1 ≤ 15; decide, ?_⟩
  have hf := new_free C hp
  have own : ∀ (j : Nat) (v : Option V) (z : Cell), σ[j]? = some v → Γ[j]? = some z → ¬ Owns c v z p := fun j v z h1 h2 o => owns_live (E.at_ j v z h1 h2) o hp
  have E3 : EnvOk c B3 (upd H3 p (.dK [(k, y)])) σ Γ := ⟨s3.env.len, fun j v z h1 h2 => (s3.env.at_ j v z h1 h2).other (own j v z h1 h2), s3.env.sep⟩
  refine n (σ.set i (some (.ref p))) B3 _ _ (cur_write s3.cur b3 hf.1 (dK_ne h3).1 (dK_ne h3).2) s23.b ?_ pn
  refine ⟨by rw [List.length_set, List.length_set]; exact E3.len, fun j w z h1 h2 => ?_, fun j m w u z t b hjm h1 h2 h3' h4 o1 o2 => ?_⟩
  · by_cases hj : j = i
    · subst hj
      rw [List.getElem?_set_self (by rw [E.len]; exact hi)] at h1
      rw [List.getElem?_set_self hi] at h2
      cases h1; cases h2
      exact ⟨p, [(k, y)], rfl, upd_same, b3, hf, .cons d3 .nil⟩
    · rw [List.getElem?_set_ne (Ne.symm hj)] at h1 h2
      exact E3.at_ j w z h1 h2
  · have self : ∀ {w : Option V} {z : Cell}, (Γ.set i (.oK [(k, d)]))[i]? = some z → (σ.set i (some (.ref p)))[i]? = some w → ∀ b, Owns c w z b → b = p := fun {w z} g1 g2 b o => by
      rw [List.getElem?_set_self hi] at g1
      rw [List.getElem?_set_self (by rw [E.len]; exact hi)] at g2
      cases g1; cases g2
      exact ref_inj o
    by_cases hj : j = i
    · subst hj
      have e := self h2 h1 b o1
      subst e
      rw [List.getElem?_set_ne hjm] at h3' h4
      exact own m u t h3' h4 o2
    · by_cases hm : m = i
      · subst hm
        have e := self h4 h3' b o2
        subst e
        rw [List.getElem?_set_ne (Ne.symm hj)] at h1 h2
        exact own j w z h1 h2 o1
      · rw [List.getElem?_set_ne (Ne.symm hj)] at h1 h2
        rw [List.getElem?_set_ne (Ne.symm hm)] at h3' h4
        exact E3.sep j m w u z t b hjm h1 h2 h3' h4 o1 o2
/-- sorted(d), d an own dict of texts -/
theorem ee_sortS {i : Nat} {kvs : List (Key × PyData)} {ks : List Str} {Q : Dat → Env' → Prop} (hi : Γ[i]? = some (.oK kvs)) (hk : kvs.map (·.1) = ks.map Sum.inr) (hz : ks.length < 64) (k : ∀ ys : List Str, ys.Perm ks → Q (.val (lE .str ys)) Γ) :
    EE c (tCB (fun xs H Q => ∃ (a : Addr) (kvs : List (Key × V)) (ks : List Str), xs = [.ref a] ∧ Rd H a (.dK kvs) ∧ kvs.map (·.1) = ks.map Sum.inr ∧ ks.length < 64 ∧
    ∀ ys p, ys.Perm ks → PyProof.Rows.sortedS ys = true → H p = none → Q (.ref p) (upd H p (.lst (ys.map V.str)))) (tCons (tVar i) tNil)) Γ Q := fun σ B H C E R q => by
  obtain ⟨a, ws, hv, hH, hB, hF, kv⟩ := env_oK E hi
  have ek : ws.map (·.1) = kvs.map (·.1) := by
    clear hi hk hz k hH hv
    induction kv with
    | nil => rfl
    | cons h t ih => rw [List.map_cons, List.map_cons, ih]
  refine ⟨_, hv, a, ws, ks, rfl, .inl hH, ek.trans hk, hz, fun ys p hp _ hn => ?_⟩
  have st := step_new (o := .lst (ys.map V.str)) C hn
  exact q _ _ _ (.val (lE .str ys)) Γ ((St1.refl C E).step st) (Dp.lst (SqL.of upd_same) (dp_strs ys)) (k ys hp)
def DT' (c : Ctx) (g : TG) (tt : TT) (tk tv : TE) (vs : List Nat) (I : Nat → List (Key × PyData) → Env' → Prop) (i : Nat) (d : PyData) (acc : List (Key × PyData)) (Γ : Env') : Prop :=
  NoOwn Γ vs ∧ SG c g vs (.val d) (wipeG Γ vs) fun Γ2 => ET c tt Γ2 fun b Γ3 => (b = true → EE c tk Γ3 fun x Γ4 => ∃ k, x = .val (kP k) ∧ EE c tv Γ4 fun y Γ5 => ∃ e Γ6, y = .val e ∧ Back vs Γ Γ5 Γ6 ∧ I (i + 1) (putD' acc k e) Γ6) ∧ (b = false → ∃ Γ5, Back vs Γ Γ3 Γ5 ∧ I (i + 1) acc Γ5)
structure DcSt (c : Ctx) (B1 H1 : Hp) (σ : List (Option V)) (D : Addr) (B H : Hp) (Γ : Env') (acc : List (Key × PyData)) : Prop where
  new : H1 D = none
  cur : Cur c B H
  b : Ex B1 B
  env : EnvOk c B H σ Γ
  at_ : ∃ ws, H D = some (.dK ws) ∧ KvOk c.K B ws acc
  no : B D = none
  h : ∀ b o, H1 b = some o → (∀ ps, o ≠ .tbl ps) → b ∉ c.rs → H b = some o
  live : ∀ b, H1 b ≠ none → H b ≠ none
  out : ∀ a, B a ≠ none → H1 a ≠ none → B1 a ≠ none
  free : ∀ (j : Nat) (v : Option V) (x : Cell), σ[j]? = some v → Γ[j]? = some x → ¬ Owns c v x D
theorem dc_new {B1 H1 : Hp} {σ : List (Option V)} {D : Addr} (C : Cur c B1 H1) (E : EnvOk c B1 H1 σ Γ) (hD : H1 D = none) : DcSt c B1 H1 σ D B1 (upd H1 D (.dK [])) Γ [] where
  new := hD
  cur := cur_new C hD
  b := Ex.refl _
  env := ⟨E.len, fun i v x h1 h2 => (E.at_ i v x h1 h2).other fun o => owns_live (E.at_ i v x h1 h2) o hD, E.sep⟩
  at_ := ⟨[], upd_same, .nil⟩
  no := C.sub.none hD
  h := fun b o h _ _ => by rw [upd_ne (ne_of_none h hD)]; exact h
  live := fun b h => (Ex.new hD).live b h
  out := fun a h _ => h
  free := fun j v x h1 h2 o => owns_live (E.at_ j v x h1 h2) o hD
theorem DcSt.step {B1 H1 B H B2 H2 : Hp} {σ : List (Option V)} {D : Addr} {Γ1 : Env'} {acc : List (Key × PyData)} (p : DcSt c B1 H1 σ D B H Γ1 acc) (s : Step c B H B2 H2) : DcSt c B1 H1 σ D B2 H2 Γ1 acc := by
  obtain ⟨hnew, C, b, E, ⟨ws, hH, da⟩, hB, keep, live, out, free⟩ := p
  exact ⟨hnew, s.cur, b.trans s.b, E.step s, ⟨ws, s.h.keep _ _ hH (fun ps z => by cases z), KvOk.mono s.b da⟩, s.none hB (by rw [hH]; exact fun z => by cases z), fun b o h n r => s.h.keep _ _ (keep b o h n r) n, fun b h => s.h.live _ (live b h), fun a h1 h2 => out a (s.out a h1 (live a h2)) h2, free⟩
def DcI (c : Ctx) (B1 H1 : Hp) (σ : List (Option V)) (D : Addr) (Γ0 : Env') (I : Nat → List (Key × PyData) → Env' → Prop) (m : Nat) (H : Hp) : Prop :=
  ∃ (B : Hp) (Γ : Env') (acc : List (Key × PyData)), DcSt c B1 H1 σ D B H Γ acc ∧ acc.length ≤ m ∧ Rl Γ0 Γ ∧ I m acc Γ
theorem putD_len {acc : List (Key × PyData)} {k : Key} {e : PyData} : (putD' acc k e).length ≤ acc.length + 1 := by
  unfold putD'
  split
  · rw [List.length_map]; omega
  · rw [List.length_append]; exact Nat.le_refl _
theorem dc_turn {g : TG} {tt : TT} {tk tv : TE} {vs : List Nat} {I : Nat → List (Key × PyData) → Env' → Prop} {B1 H1 B H : Hp} {σ : List (Option V)} {D : Addr} {i : Nat} {d : PyData} {y : V} {acc : List (Key × PyData)} {Γ0 : Env'} (hDr : D ∉ c.rs) (hD0 : c.H0 D = none) (hz : i < 1000000) (hai : acc.length ≤ i) (rl0 : Rl Γ0 Γ)
    (p : DcSt c B1 H1 σ D B H Γ acc) (dy : Dp c.K B y d) (turn : DT' c g tt tk tv vs I i d acc Γ) :
    g y (L2.wipe σ vs) H fun σ2 H2 => L2.wipe σ2 vs = L2.wipe σ vs ∧ tt σ2 H2 fun b H3 => if b = true then tk σ2 H3 fun y H4 => tv σ2 H4 fun z H5 => ∃ kvs k, y = kV k ∧ H5 D = some (.dK kvs) ∧ kvs.length < sizeLine ∧ DcI c B1 H1 σ D Γ0 I (i + 1) (upd H5 D (.dK (putK kvs k z)))
      else DcI c B1 H1 σ D Γ0 I (i + 1) H3 := by
  obtain ⟨hnew, C, b, E, ⟨ws, hH, da⟩, hB, keep, live, out, free⟩ := p
  obtain ⟨no, sg⟩ := turn
  have Ew := env_wipe E vs
  refine sg (L2.wipe σ vs) B H y C Ew dy _ fun σ1 Γ2 E2 same et => ?_
  obtain ⟨hl1, same⟩ := same
  rw [L2.wipe_length] at hl1
  have hs1 : ∀ i, i ∉ vs → σ1[i]? = σ[i]? := fun i hi => by rw [(same i hi).1, wipe_out hi]
  have g2 : ∀ i, i ∉ vs → Γ2[i]? = Γ[i]? := fun i hi => by rw [(same i hi).2, wipeG_out hi]
  have own : ∀ {Γ4 Γ5 : Env'}, Rl Γ2 Γ4 → Back vs Γ Γ4 Γ5 → ∀ (j : Nat) (v : Option V) (x : Cell), σ[j]? = some v → Γ5[j]? = some x → ¬ Owns c v x D := fun {Γ4 Γ5} rl bk j v x h1 h2 o => by
    by_cases hj : j ∈ vs
    · rw [bk.inn j hj] at h2
      exact free j v x h1 h2 o
    · rw [bk.out j hj] at h2
      obtain ⟨x2, g2, o2⟩ := rl.owns h2 o
      rw [(same j hj).2, wipeG_out hj] at g2
      exact free j v x2 h1 g2 o2
  have hDn : H D ≠ none := by rw [hH]; exact fun z => by cases z
  refine ⟨wipe_same hl1 hs1, et σ1 B H C E2 _ fun bb B3 H3 Γ3 s3 ⟨ht, hf⟩ => ?_⟩
  have hH3 : H3 D = some (.dK ws) := s3.stp.h D _ hH (fun ps z => by cases z) hDr
  have hB3 : B3 D = none := by
    cases e : B3 D with
    | none => rfl
    | some o => exact absurd hB (s3.stp.out D (by rw [e]; exact fun z => by cases z) hDn)
  have keep3 : ∀ b o, H1 b = some o → (∀ ps, o ≠ .tbl ps) → b ∉ c.rs → H3 b = some o := fun b o h n r => s3.stp.h b o (keep b o h n r) n r
  have live3 : ∀ b, H1 b ≠ none → H3 b ≠ none := fun b h => s3.stp.live b (live b h)
  have out3 : ∀ a, B3 a ≠ none → H1 a ≠ none → B1 a ≠ none := fun a h1 h2 => out a (s3.stp.out a h1 (live a h2)) h2
  cases bb with
  | false =>
    obtain ⟨Γ5, bk, i5⟩ := hf rfl
    exact ⟨B3, Γ5, acc, ⟨hnew, s3.cur, b.trans s3.b, env_back E s3.b s3.env hs1 no bk.len bk.inn bk.out, ⟨ws, hH3, KvOk.mono s3.b da⟩, hB3, keep3, live3, out3, own s3.rl bk⟩, Nat.le_succ_of_le hai, rl0.trans (rl_of_back s3.rl bk g2), i5⟩
  | true =>
    refine ht rfl σ1 B3 H3 s3.cur s3.env _ fun kx B4 H4 x4 Γ4 s4 d4 ⟨k, ek, h5⟩ => ?_
    subst ek
    refine h5 σ1 B4 H4 s4.cur s4.env _ fun yv B5 H5 x5 Γ5 s5 d5 ⟨e, Γ6, ey, bk, i6⟩ => ?_
    subst ey
    have s45 := s4.trans s5
    have s35 := s3.trans s45
    have hH5 : H5 D = some (.dK ws) := s45.stp.h D _ hH3 (fun ps z => by cases z) hDr
    have hB5 : B5 D = none := by
      cases e : B5 D with
      | none => rfl
      | some o => exact absurd hB3 (s45.stp.out D (by rw [e]; exact fun z => by cases z) (by rw [hH3]; exact fun z => by cases z))
    have hl : ws.length < sizeLine := Nat.lt_of_lt_of_le (by rw [KvOk.length da]; exact Nat.lt_of_le_of_lt hai hz) (by decide)
    have E6 := env_back E s35.b s5.env hs1 no bk.len bk.inn bk.out
    have f6 := own s35.rl bk
    refine ⟨ws, k, dp_key (d4 : Dp c.K B4 kx (kP k)), hH5, hl, B5, Γ6, putD' acc k e, ⟨hnew, cur_write s5.cur hB5 hD0 (dK_ne hH5).1 (dK_ne hH5).2, b.trans s35.b, ⟨E6.len, fun j v x h1 h2 => (E6.at_ j v x h1 h2).other (f6 j v x h1 h2), E6.sep⟩, ⟨_, upd_same, kv_put (KvOk.mono s35.b da) d5⟩, hB5, fun b o h n r => ?_, fun b h => ?_, fun a h1 h2 => out3 a (s45.stp.out a h1 (live3 a h2)) h2, f6⟩, Nat.le_trans putD_len (Nat.succ_le_succ hai), rl0.trans (rl_of_back s35.rl bk g2), i6⟩
    · by_cases z : b = D
      · rw [z, hnew] at h
        cases h
      · rw [upd_ne z]; exact s45.stp.h b o (keep3 b o h n r) n r
    · by_cases z : b = D
      · rw [z, upd_same]; exact fun z => by cases z
      · rw [upd_ne z]; exact s45.stp.live b (live3 b h)
theorem dc_end {B1 H1 B H : Hp} {σ : List (Option V)} {D : Addr} {Γ1 : Env'} {acc : List (Key × PyData)} {Q : L2.VK} {P : Dat → Env' → Prop} {B0 H0 : Hp} {Γ0 : Env'} (s0 : St1 c B0 H0 B1 H1 σ Γ0 Γ) (hDr : D ∉ c.rs) (hD0 : c.H0 D = none) (rl : Rl Γ Γ1)
    (p : DcSt c B1 H1 σ D B H Γ1 acc) (q : ∀ v B1 H1 x Γ1, St1 c B0 H0 B1 H1 σ Γ0 Γ1 → DatOk c.K B1 v x → P x Γ1 → Q v H1) (h : P (.dk acc) Γ1) : Q (.ref D) H := by
  obtain ⟨hnew, C, b, E, ⟨ws, hH, da⟩, hB, keep, live, out, free⟩ := p
  have ex : Ex B (withB B D (.dK ws)) := Ex.new hB
  refine q (.ref D) (withB B D (.dK ws)) H (.dk acc) Γ1 (s0.trans ⟨⟨cur_withB C hB hH hD0 hDr, b.trans ex, keep, live, fun a h1 h2 => ?_⟩, ⟨E.len, fun i v x h1 h2 => (E.at_ i v x h1 h2).withB hB (free i v x h1 h2), E.sep⟩, rl⟩) ⟨D, ws, rfl, upd_same, KvOk.mono ex da⟩ h
  by_cases z : a = D
  · rw [z] at h2; exact absurd hnew h2
  · exact out a (fun y => h1 ((upd_ne z).trans y)) h2
theorem dc_it {J : It} {n : Nat} {G : Hp → Prop} {Y : Nat → Hp → V → Hp → Prop} (w : Walk J n G Y) {g : TG} {tt : TT} {tk tv : TE} {vs : List Nat} {σ : L2.St} {H1 : Hp} {D : Addr} {Qd : Hp → Prop} (Pv : Nat → Hp → Prop) (h0 : Pv 0 (upd H1 D (.dK []))) (hG : ∀ i H, i ≤ n → Pv i H → G H)
    (hs : ∀ i x H H', i < n → Pv i H → Y i H x H' → g x (L2.wipe σ vs) H' fun σ2 H2 => L2.wipe σ2 vs = L2.wipe σ vs ∧ tt σ2 H2 fun b H3 =>
      if b = true then tk σ2 H3 fun y H4 => tv σ2 H4 fun z H5 => ∃ kvs k, y = kV k ∧ H5 D = some (.dK kvs) ∧ kvs.length < sizeLine ∧ Pv (i + 1) (upd H5 D (.dK (putK kvs k z))) else Pv (i + 1) H3) (hd : ∀ H, Pv n H → Qd H) :
    ∃ W : Nat → Nat → Hp → Prop, (∃ m, W 0 m (upd H1 D (.dK []))) ∧ ∀ i m H, W i m H →
      (J.stop i H ∧ Qd H) ∨ (J.go i H ∧ ∃ Nx : Hp → Prop, (∀ H', Nx H' → ∃ m', m' < m ∧ W (i + 1) m' H') ∧ ∀ x H', J.yld i H x H' → g x (L2.wipe σ vs) H' fun σ2 H2 => L2.wipe σ2 vs = L2.wipe σ vs ∧ tt σ2 H2 fun b H3 =>
        if b = true then tk σ2 H3 fun y H4 => tv σ2 H4 fun z H5 => ∃ kvs k, y = kV k ∧ H5 D = some (.dK kvs) ∧ kvs.length < sizeLine ∧ Nx (upd H5 D (.dK (putK kvs k z))) else Nx H3) := by
  refine ⟨fun i m H => m = n - i ∧ i ≤ n ∧ Pv i H, ⟨n, by simp, Nat.zero_le _, h0⟩, ?_⟩
  rintro i m H ⟨rfl, hi, p⟩
  have q := hG i H hi p
  by_cases hlt : i < n
  · exact .inr ⟨w.goes i H hlt q, Pv (i + 1), fun H' p' => ⟨n - (i + 1), by omega, rfl, hlt, p'⟩, fun x H' y => hs i x H H' hlt p (w.yields i H x H' hlt q y)⟩
  · have e : i = n := by omega
    subst e
    exact .inl ⟨w.stops H q, hd H p⟩
/-- {k: v for .. in ..} -/
theorem ee_dc {wi : TI} {g : TG} {tt : TT} {tk tv : TE} {vs : List Nat} {P : Dat → Env' → Prop} (h : WI c wi Γ fun ds Γ0 => ds.length ≤ 900000 ∧ ∃ I : Nat → List (Key × PyData) → Env' → Prop, I 0 [] Γ0 ∧ (∀ i d acc Γ1, ds[i]? = some d → I i acc Γ1 → DT' c g tt tk tv vs I i d acc Γ1) ∧ ∀ acc Γ1, I ds.length acc Γ1 → P (.dk acc) Γ1) :
    EE c (tDc wi g tt tk tv vs) Γ P := fun σ B0 H0 C0 E0 Q q => by
  refine h σ B0 H0 C0 E0 _ fun J B1 H1 Γ0 ds s0 ⟨G, Y, w, hg, hy⟩ ⟨hz, I, i0, turn, fin⟩ D hD => ?_
  have hDr : D ∉ c.rs := fun z => (s0.cur.reel D z).1 hD
  have hD0 := new_out s0.cur hD
  refine dc_it w (DcI c B1 H1 σ D Γ0 I) ⟨B1, Γ0, [], dc_new s0.cur s0.env hD, Nat.le_refl _, Rl.refl _, i0⟩ (fun m H' _ ⟨B', Γ', acc, p, _⟩ => hg B' H' p.cur p.b) ?_ ?_
  · rintro m y H' H'' hm ⟨B', Γ', acc, p, hl, rl, i'⟩ hY
    obtain ⟨B3, d, st, hd, dp⟩ := hy m B' H' y H'' hm p.cur p.b hY
    exact dc_turn hDr hD0 (by omega) hl rl (p.step st) dp (turn m d acc Γ' hd i')
  · rintro H' ⟨B', Γ', acc, p, hl, rl, i'⟩
    exact dc_end s0 hDr hD0 rl p q (fin acc Γ' i')
end
end My
end DL18_
section DL19_
set_option maxHeartbeats 1000000
namespace My
open PySem PySem.Spec PyProof.Rows L2 LamX
abbrev FnP (K : PySem.W.Frag) (x : Str) (st : Stmt) (f : Addr) (fd : FuncData) : Prop := FunD K x x (defArgs st) (defBody st) (defScope st) [] [] f fd
/-- a def stands at the top by its name -/
def Stands (K : PySem.W.Frag) (mg : Str → Option Value) (x : Str) (st : Stmt) : Prop := ∃ f fd, mg x = some (.ref f) ∧ FnP K x st f fd
/-- a def keeps its promise -/
def DefOk (P : Program) (w : World) (K : PySem.W.Frag) (mg : Str → Option Value) (base : Heap) (x : Str) (ps : List Str) (k : Nat) (sp : Sp) : Prop :=
  ∃ f fd, mg x = some (.ref f) ∧ PySem.W.keepIn K (.ref f) = true ∧ Binds K fd ps [] ∧ FnOk P w K mg base CX0 k f fd ps sp
section
variable {X : Cx} {x : Str} {p pos : Pos} {e : Expr} {es : List Expr} {ps : List Str} {k : Nat} {sp : Sp} {t : TA}
theorem pe_callD (D : DefOk X.prog X.w X.K X.mg X.base x ps k sp) (hr : Room k X.A) (hg : Gl X x) (ha : PA X (e :: es) t) (hdb : (x == ("__debug__" : Str)) = false := by decide) (he : starEach (e :: es) X.env = (false, eval e X.env) :: starEach es X.env := by rfl) (hpl : (backTo pos (starEach es X.env)).any (·.1) = false := by rfl) :
    PE X (.Call (.Name x p) (e :: es) [] pos) (tCall sp [] E0 t) := by
  obtain ⟨f, fd, hm, kp, b, F⟩ := D
  exact pe_call F hr hg hm kp b .nil pass0 ha hdb he hpl
end
/-- the body's state, the context written out -/
theorem sp_go {K : PySem.W.Frag} {T : List (Addr × Str)} {ι : Type} {args : ι → List Dat} {pre : ι → Prop} {post : ι → Dat → Prop} {N : List Str} {t : TS} {vs : List V} {H : Hp} {Q : L2.VK} {E : XK}
    (body : ∀ (H0 B0 : Hp) i, pre i → SS { K := K, T := T, H0 := H0, B0 := B0 } t (start' N (args i)) { nx := fun _ => post i dN, rt := fun x _ => post i x }) (h : SpI K T args pre post vs H Q E) :
    t { nx := fun _ H' => Q .non H', rt := Q } (L2.start N vs) H :=
  sp_run (fun c hK hT hrg hsm i p => by
    obtain ⟨K', T', H0, B0, rg, sm⟩ := c
    subst hK hT hrg hsm
    exact body H0 B0 i p) h

/-- what the top leaves: its names -/
structure Wd (K : PySem.W.Frag) (mg : Str → Option Value) : Prop where
  b_len : mg "len" = none
  b_all : mg "all" = none
  b_any : mg "any" = none
  b_isinstance : mg "isinstance" = none
  b_sorted : mg "sorted" = none
  b_min : mg "min" = none
  b_abs : mg "abs" = none
  b_range : mg "range" = none
  b_enumerate : mg "enumerate" = none
  b_tuple : mg "tuple" = none
  b_list : mg "list" = none
  b_int : mg "int" = none
  b_str : mg "str" = none
  b_zip : mg "zip" = none
  f_is_name : Stands K mg "is_name" sIsName
  f_is_path : Stands K mg "is_path" sIsPath
  f_covers : Stands K mg "covers" sCovers
  f_overlap : Stands K mg "overlap" sOverlap
  f_covered : Stands K mg "covered" sCovered
  f_first_overlap : Stands K mg "first_overlap" sFirstOverlap
  f_is_rule_path : Stands K mg "is_rule_path" sIsRulePath
  f_are_rule_paths : Stands K mg "are_rule_paths" sAreRulePaths
  f_are_rows : Stands K mg "are_rows" sAreRows
  f_item_holds : Stands K mg "item_holds" sItemHolds
  f_parallel_paths : Stands K mg "parallel_paths" sParallelPaths
  f_is_chained : Stands K mg "is_chained" sIsChained
  f_any_overlap : Stands K mg "any_overlap" sAnyOverlap
  f_rule_error : Stands K mg "rule_error" sRuleError
  f_place_of : Stands K mg "place_of" sPlaceOf
  f_is_barred : Stands K mg "is_barred" sIsBarred
  f_links_of : Stands K mg "links_of" sLinksOf
  f_chains_from : Stands K mg "chains_from" sChainsFrom
  f_uses_of : Stands K mg "uses_of" sUsesOf
  f_chain_breaks : Stands K mg "chain_breaks" sChainBreaks
  f_steps_between : Stands K mg "steps_between" sStepsBetween
  f_ring_from : Stands K mg "ring_from" sRingFrom
  f_ring_breaks : Stands K mg "ring_breaks" sRingBreaks
  f_all_breaks : Stands K mg "all_breaks" sAllBreaks
  f_first_of : Stands K mg "first_of" sFirstOf
  f_first_break : Stands K mg "first_break" sFirstBreak
  f_findings_of : Stands K mg "findings_of" sFindingsOf
  f_without : Stands K mg "without" sWithout
  f_short_break : Stands K mg "short_break" sShortBreak
  f_breaks_apart : Stands K mg "breaks_apart" sBreaksApart
  f_cut_sets : Stands K mg "cut_sets" sCutSets
  f_is_pair : Stands K mg "is_pair" sIsPair
  f_modules_error : Stands K mg "modules_error" sModulesError
  f_uses_error : Stands K mg "uses_error" sUsesError
  f_program_error : Stands K mg "program_error" sProgramError
  f_parts_of : Stands K mg "parts_of" sPartsOf
  f_book_error : Stands K mg "book_error" sBookError
  f__law_reel : Stands K mg "_law_reel" sLawReel
  f__law_pull : Stands K mg "_law_pull" sLawPull
  f__law_pick : Stands K mg "_law_pick" sLawPick
  f__law_mixed : Stands K mg "_law_mixed" sLawMixed
  f__law_names : Stands K mg "_law_names" sLawNames
  f__law_under : Stands K mg "_law_under" sLawUnder
  f__law_meet : Stands K mg "_law_meet" sLawMeet
  f__law_home : Stands K mg "_law_home" sLawHome
  f__law_spots : Stands K mg "_law_spots" sLawSpots
  f__law_alone : Stands K mg "_law_alone" sLawAlone
  f__law_rows : Stands K mg "_law_rows" sLawRows
  f__law_rule_of : Stands K mg "_law_rule_of" sLawRuleOf
  f__law_rule : Stands K mg "_law_rule" sLawRule
  f__law_some_rules : Stands K mg "_law_some_rules" sLawSomeRules
  f__law_modules : Stands K mg "_law_modules" sLawModules
  f__law_uses : Stands K mg "_law_uses" sLawUses
  f__law_bars : Stands K mg "_law_bars" sLawBars
  f__law_is_long : Stands K mg "_law_is_long" sLawIsLong
  f__law_far : Stands K mg "_law_far" sLawFar
  f__law_pairs : Stands K mg "_law_pairs" sLawPairs
  f__law_ringed : Stands K mg "_law_ringed" sLawRinged
  f__law_broken : Stands K mg "_law_broken" sLawBroken
  f__law_kept : Stands K mg "_law_kept" sLawKept
  f__law_small_case : Stands K mg "_law_small_case" sLawSmallCase
  f__law_left : Stands K mg "_law_left" sLawLeft
  f__law_told : Stands K mg "_law_told" sLawTold
  f__law_cut_down : Stands K mg "_law_cut_down" sLawCutDown
  f__law_right : Stands K mg "_law_right" sLawRight
  f__law_two_ways : Stands K mg "_law_two_ways" sLawTwoWays
  f__law_all_right : Stands K mg "_law_all_right" sLawAllRight
  f_law : Stands K mg "law" sLaw
  c_MAX_CUTS : ∃ t, mg "MAX_CUTS" = some (.int 4 t)
  c_MAX_MODULES : ∃ t, mg "MAX_MODULES" = some (.int 24 t)
  c_MAX_NAMES : ∃ t, mg "MAX_NAMES" = some (.int 6 t)
  c_MAX_RULE_NAMES : ∃ t, mg "MAX_RULE_NAMES" = some (.int 4 t)
  c_MAX_RULES : ∃ t, mg "MAX_RULES" = some (.int 8 t)
  c_MAX_USES : ∃ t, mg "MAX_USES" = some (.int 200 t)
  c_LETTERS : ∃ t, mg "LETTERS" = some (.str "abcdefghijklmnopqrstuvwxyz" t)
  c_MAX_LETTERS : ∃ t, mg "MAX_LETTERS" = some (.int 8 t)
  c_MOST_PATHS : ∃ t, mg "MOST_PATHS" = some (.int 6 t)
end My
end DL19_
section DL20_
set_option maxHeartbeats 1000000
namespace My
open PySem PySem.Spec PyProof.Rows L2 LamX
section
variable {c : Ctx} {Γ : Env'} {P : Dat → Env' → Prop} {α β : Type}
/-- the slots within the block: the target at i -/
abbrev inB (Γ : Env') (i : Nat) (d : PyData) : Env' := (wipeG Γ [i]).set i (cV (.val d))
theorem inB_out {i j : Nat} {d : PyData} (h : j ∉ [i]) : (inB Γ i d)[j]? = Γ[j]? := by
  have z : i ≠ j := fun e => h (by simp [e])
  rw [List.getElem?_set_ne z, wipeG_out h]
theorem lc1f {i : Nat} {l : List α} (f : α → PyData) (g : β → PyData) (h : α → β) (p : α → Bool) {tt : TT} {te : TE} (hz : l.length ≤ 900000) (hno : ∀ x, Γ[i]? = some x → x = .unk ∨ ∃ y, x = .dat y)
    (turn : ∀ a ∈ l, ET c tt (inB Γ i (f a)) fun b Γ3 => Γ3 = inB Γ i (f a) ∧ b = p a ∧ (p a = true → EE c te (inB Γ i (f a)) fun y Γ4 => Γ4 = inB Γ i (f a) ∧ y = .val (g (h a))))
    (k : P (dL (((l.filter p).map h).map g)) Γ) : LcD c (gName i) tt te [i] P (l.map f) Γ := by
  refine ⟨by rw [List.length_map]; exact hz, fun j acc Γ1 => Γ1 = Γ ∧ acc = (((l.take j).filter p).map h).map g, ⟨rfl, by simp⟩, ?_, ?_⟩
  · rintro j d acc Γ1 hd ⟨rfl, ea⟩
    obtain ⟨a, ha, rfl⟩ : ∃ x, l[j]? = some x ∧ d = f x := by
      rw [List.getElem?_map] at hd
      cases e : l[j]? with
      | none => rw [e] at hd; cases hd
      | some x => rw [e] at hd; exact ⟨x, rfl, (Option.some.inj hd).symm⟩
    have hm : a ∈ l := List.mem_of_getElem? ha
    have ht : l.take (j + 1) = l.take j ++ [a] := by rw [List.take_add_one, ha]; rfl
    refine ⟨fun x hx y hy => ?_, sg_name (ET.imp (turn a hm) fun b Γ3 ⟨e3, eb, h4⟩ => ⟨fun hb => ?_, fun hb => ?_⟩) (by simp)⟩
    · simp at hx
      subst hx
      exact hno y hy
    · subst e3
      have hp : p a = true := by rw [← eb]; exact hb
      refine EE.imp (h4 hp) fun y Γ4 ⟨e4, ey⟩ => ⟨g (h a), Γ1, ey, ⟨rfl, fun _ _ => rfl, fun j hj => by rw [e4]; exact (inB_out hj).symm⟩, rfl, ?_⟩
      rw [ht, List.filter_append, List.map_append, List.map_append, ea, List.filter_cons, if_pos hp]
      rfl
    · subst e3
      have hp : ¬ p a = true := by rw [← eb, hb]; exact Bool.false_ne_true
      refine ⟨Γ1, ⟨rfl, fun _ _ => rfl, fun j hj => (inB_out hj).symm⟩, rfl, ?_⟩
      rw [ht, List.filter_append, List.map_append, List.map_append, ea, List.filter_cons, if_neg hp]
      simp
  · rintro acc Γ1 ⟨rfl, ea⟩
    rw [List.length_map, List.take_length] at ea
    rw [ea]
    exact k
theorem et_yes {Q : Bool → Env' → Prop} (h : Q true Γ) : ET c tYes Γ Q := fun σ B H C E Q q => q true B H Γ (St1.refl C E) h
theorem lc1 {i : Nat} {l : List α} (f : α → PyData) (g : β → PyData) (h : α → β) {te : TE} (hz : l.length ≤ 900000) (hno : ∀ x, Γ[i]? = some x → x = .unk ∨ ∃ y, x = .dat y)
    (turn : ∀ a ∈ l, EE c te (inB Γ i (f a)) fun y Γ4 => Γ4 = inB Γ i (f a) ∧ y = .val (g (h a))) (k : P (dL ((l.map h).map g)) Γ) : LcD c (gName i) tYes te [i] P (l.map f) Γ :=
  lc1f f g h (fun _ => true) hz hno (fun a ha => et_yes ⟨rfl, rfl, fun _ => turn a ha⟩) (by
    have e : l.filter (fun _ => true) = l := List.filter_eq_self.mpr fun _ _ => rfl
    rw [e]; exact k)
theorem hno_unk {i : Nat} (h : Γ[i]? = some .unk) : ∀ x, Γ[i]? = some x → x = .unk ∨ ∃ y, x = .dat y := fun x hx => by rw [h] at hx; cases hx; exact .inl rfl
theorem hno_dat {i : Nat} {y : Dat} (h : Γ[i]? = some (.dat y)) : ∀ x, Γ[i]? = some x → x = .unk ∨ ∃ y, x = .dat y := fun x hx => by rw [h] at hx; cases hx; exact .inr ⟨y, rfl⟩
end
section
variable {c : Ctx} {P : Dat → Prop} {α : Type}
theorem rl_allM {l : List α} {p : α → Bool} (k : P (dB (l.all p))) : RL1 c (rAll c.K) ((l.map p).map .bool) P := rl_all (by rw [List.all_map]; exact k)
theorem rl_anyM {l : List α} {p : α → Bool} (k : P (dB (l.any p))) : RL1 c (rAny c.K) ((l.map p).map .bool) P := rl_any (by rw [List.any_map]; exact k)
end
section
variable {c : Ctx} {Γ : Env'} {P : Dat → Env' → Prop}
theorem dp_rows {K : PySem.W.Frag} {B : Hp} {xs : List V} {dss : List (List PyData)} (a : DpAll K B xs (dss.map .tuple)) {i : Nat} {x : V} (h : xs[i]? = some x) : ∃ b ys ds, x = .ref b ∧ SqT K B b ys ∧ dss[i]? = some ds ∧ DpAll K B ys ds := by
  obtain ⟨d, hd, dd⟩ := DpAll.get a h
  rw [List.getElem?_map] at hd
  cases e : dss[i]? with
  | none => rw [e] at hd; cases hd
  | some ds =>
    rw [e] at hd
    have e2 := Option.some.inj hd
    subst e2
    cases dd with
    | tup s a => exact ⟨_, _, ds, rfl, s, rfl, a⟩
/-- [x for row in rows for x in row] -/
theorem ee_lc2 {i j : Nat} {ta : TE} (hij : i ≠ j) (hi : i < Γ.length) (hj : j < Γ.length) (h : EE c ta Γ fun x Γ0 => ∃ dss : List (List PyData), x = dT (dss.map .tuple) ∧ dss.flatten.length ≤ 900000 ∧ P (dL dss.flatten) Γ0) :
    EE c (tLc2 (iTup c.K ta) (gName i) tYes (iTup c.K (tVar i)) (gName j) tYes (tVar j) [i, j] [j]) Γ P := fun σ B H C E Q q => by
  refine h σ B H C E _ fun v B1 H1 x Γ0 s1 d1 ⟨dss, e, hz, p⟩ => ?_
  subst e
  cases d1 with
  | @tup a xs _ sq da =>
    have si : i < σ.length := by rw [E.len]; exact hi
    have sj : j < σ.length := by rw [E.len]; exact hj
    refine ⟨a, rfl, ⟨xs, sqT_mono s1.cur.sub.ex sq⟩, fun D hD => ?_⟩
    have hB : B1 D = none := s1.cur.sub.none hD
    have up : ∀ ws, Ex B1 (upd H1 D (.lst ws)) := fun ws => ⟨fun b o e n => by rw [upd_ne (fun z => by rw [z, hB] at e; cases e)]; exact s1.cur.sub b o e, fun b e => by
      by_cases z : b = D
      · rw [z, upd_same]; exact fun z => by cases z
      · rw [upd_ne z]
        cases q : B1 b with
        | none => exact absurd q e
        | some o => rw [s1.cur.sub b o q]; exact fun z => by cases z⟩
    have lx : xs.length = dss.length := by rw [My.DpAll.length da, List.length_map]
    have tk : ∀ {i : Nat} {ds}, dss[i]? = some ds → (dss.take (i + 1)).flatten = (dss.take i).flatten ++ ds := fun {i ds} e => by
      rw [List.take_add_one, e, List.flatten_append]
      simp
    have sz : ∀ {i : Nat} {ds k}, dss[i]? = some ds → ((dss.take i).flatten ++ ds.take k).length ≤ 900000 := fun {i ds k} e => by
      have h1 : dss.flatten = (dss.take i).flatten ++ (ds ++ (dss.drop (i + 1)).flatten) := by
        obtain ⟨hl, q⟩ := List.getElem?_eq_some_iff.mp e
        conv => lhs; rw [← List.take_append_drop i dss]
        rw [List.flatten_append, List.drop_eq_getElem_cons hl, List.flatten_cons, q]
      have h2 := congrArg List.length h1
      rw [List.length_append, List.length_append] at h2
      rw [List.length_append, List.length_take]
      omega
    refine ⟨fun n m H2 => m = xs.length - n ∧ n ≤ xs.length ∧ ∃ ws, H2 = upd H1 D (.lst ws) ∧ DpAll c.K B1 ws (dss.take n).flatten, ⟨xs.length, by simp, Nat.zero_le _, [], rfl, by simp; exact .nil⟩, ?_⟩
    rintro n m H2 ⟨rfl, hn, ws, rfl, dw⟩
    by_cases hlt : n < xs.length
    · refine .inr ⟨⟨xs, xs[n], sqT_mono (up ws) sq, by simp [hlt]⟩, fun H' => n + 1 ≤ xs.length ∧ ∃ ws, H' = upd H1 D (.lst ws) ∧ DpAll c.K B1 ws (dss.take (n + 1)).flatten, fun H' ⟨h1, h2⟩ => ⟨xs.length - (n + 1), by omega, rfl, h1, h2⟩, ?_⟩
      rintro y H' ⟨rfl, hy⟩
      obtain ⟨b, ys, ds, rfl, sqb, hds, dys⟩ := dp_rows da (hy xs (sqT_mono (up ws) sq))
      have ly := My.DpAll.length dys
      have upup : ∀ w1 w2, upd (upd H1 D (.lst w1)) D (.lst w2) = upd H1 D (.lst w2) := fun w1 w2 => by
        funext b
        by_cases z : b = D
        · rw [z, upd_same, upd_same]
        · rw [upd_ne z, upd_ne z, upd_ne z]
      have lw : (L2.wipe σ [i, j]).length = σ.length := L2.wipe_length ..
      refine ⟨wipe_same (by rw [List.length_set, lw]) fun k hk => ?_, ?_⟩
      · have z : i ≠ k := fun e => hk (by simp [e])
        rw [List.getElem?_set_ne z, wipe_out hk]
      · unfold tYes
        dsimp only
        rw [if_pos rfl]
        refine ⟨.ref b, List.getElem?_set_self (by rw [lw]; exact si), b, rfl, ⟨ys, sqT_mono (up ws) sqb⟩, ?_⟩
        refine ⟨fun k m H3 => m = ys.length - k ∧ k ≤ ys.length ∧ ∃ ws2, H3 = upd H1 D (.lst ws2) ∧ DpAll c.K B1 ws2 ((dss.take n).flatten ++ ds.take k), ⟨ys.length, by simp, Nat.zero_le _, ws, rfl, by simpa using dw⟩, ?_⟩
        rintro k m H3 ⟨rfl, hk, ws2, rfl, dw2⟩
        by_cases hkl : k < ys.length
        · refine .inr ⟨⟨ys, ys[k], sqT_mono (up ws2) sqb, by simp [hkl]⟩, fun H' => k + 1 ≤ ys.length ∧ ∃ ws3, H' = upd H1 D (.lst ws3) ∧ DpAll c.K B1 ws3 ((dss.take n).flatten ++ ds.take (k + 1)), fun H' ⟨h1, h2⟩ => ⟨ys.length - (k + 1), by omega, rfl, h1, h2⟩, ?_⟩
          rintro y2 H' ⟨rfl, hy2⟩
          have hy2 := hy2 ys (sqT_mono (up ws2) sqb)
          obtain ⟨d2, hd2, dd2⟩ := DpAll.get dys hy2
          have lw2 : (L2.wipe ((L2.wipe σ [i, j]).set i (some (.ref b))) [j]).length = σ.length := by rw [L2.wipe_length, List.length_set, lw]
          refine ⟨wipe_same (by rw [List.length_set, lw2, List.length_set, lw]) fun t ht => ?_, ?_⟩
          · have z : j ≠ t := fun e => ht (by simp [e])
            rw [List.getElem?_set_ne z, wipe_out ht]
          · try unfold tYes
            dsimp only
            rw [if_pos rfl]
            refine ⟨y2, List.getElem?_set_self (by rw [lw2]; exact sj), ws2, upd_same, Nat.lt_of_lt_of_le (Nat.lt_succ_of_le (by rw [My.DpAll.length dw2]; exact sz hds)) (by decide), hkl, ws2 ++ [y2], upup _ _, ?_⟩
            have e3 : ds.take (k + 1) = ds.take k ++ [d2] := by rw [List.take_add_one, hd2]; rfl
            rw [e3, ← List.append_assoc]
            exact DpAll.append dw2 (.cons dd2 .nil)
        · have e : k = ys.length := by omega
          subst e
          rw [ly, List.take_length, ← tk hds] at dw2
          exact .inl ⟨⟨ys, sqT_mono (up ws2) sqb, Nat.le_refl _⟩, hlt, ws2, rfl, dw2⟩
    · have e : n = xs.length := by omega
      subst e
      rw [lx, List.take_length] at dw
      refine .inl ⟨⟨xs, sqT_mono (up ws) sq, Nat.le_refl _⟩, ?_⟩
      have st := step_new (o := .lst ws) s1.cur hD
      exact q _ _ _ (dL _) Γ0 (s1.step st) (Dp.lst (SqL.of upd_same) (DpAll.mono st.b dw)) p
end
section
variable {X : Cx} {K : PySem.W.Frag}
theorem op_eqK (e : X.K = K) (hu : X.A.units + 64 < cLine) : OpR X (compareOp .Eq) (rEqX K false) := by subst e; exact op_eqX hu
theorem op_neK (e : X.K = K) (hu : X.A.units + 64 < cLine) : OpR X (compareOp .NotEq) (rEqX K true) := by subst e; exact op_neX hu
theorem op_inK (e : X.K = K) (hu : X.A.units + 64 < cLine) : OpR X (compareOp .In) (rInX K false) := by subst e; exact op_inX hu
theorem op_notInK (e : X.K = K) (hu : X.A.units + 64 < cLine) : OpR X (compareOp .NotIn) (rInX K true) := by subst e; exact op_notInX hu
theorem op_ltK (e : X.K = K) (hu : X.A.units + 64 < cLine) : OpR X (compareOp .Lt) (rLtX K) := by subst e; exact op_ltX hu
theorem op_addK (e : X.K = K) : OpR X (binaryOp .Add) (rAddX K) := by subst e; exact op_addX
theorem ix_seqK (e : X.K = K) : IxR X (rIx K) := by subst e; exact ix_seq
theorem cr_lenK (e : X.K = K) : CallR X (.builtin "len") (rLen K) := by subst e; exact call_len
theorem cr_allK (e : X.K = K) (hc : X.calm = true) : CallR X (.builtin "all") (rAll K) := by subst e; exact cr_all hc
theorem cr_anyK (e : X.K = K) (hc : X.calm = true) : CallR X (.builtin "any") (rAny K) := by subst e; exact cr_any hc
theorem cr_isiK (e : X.K = K) : CallR X (.builtin "isinstance") (rIsi K) := by subst e; exact call_isi
theorem cr_sortK (e : X.K = K) (hu : X.A.units + 64 < cLine) : CallR X (.builtin "sorted") (rSortX K) := by subst e; exact cr_sortX hu
theorem cr_minK (e : X.K = K) (hu : X.A.units + 64 < cLine) (hc : X.calm = true) : CallR X (.builtin "min") (rMinX K) := by subst e; exact cr_minX hu hc
theorem pi_tupK {tg l : Expr} {tl : TE} (e : X.K = K) (h : PE X l tl) : PI X tg l (iTup K tl) := by subst e; exact pi_tup h
theorem pi_listK {tg l : Expr} {tl : TE} (e : X.K = K) (h : PE X l tl) : PI X tg l (iList K tl) := by subst e; exact pi_list h
theorem pi_enumTK {e' : Expr} {ta : TA} {p pos tpos : Pos} {elts : List Expr} {kk : Nat} (e : X.K = K) (hg : Gl X "enumerate") (hm : X.mg "enumerate" = none) (ha : PA X [e'] ta) (hs : starEach [e'] X.env = [(false, eval e' X.env)] := by rfl) :
    PI X (.Tuple elts kk tpos) (.Call (.Name "enumerate" p) [e'] [] pos) (iEnumT K ta) := by subst e; exact pi_enumT hg hm ha hs
theorem sl_listK (e : X.K = K) : SlR X (rSlL K) := by subst e; exact sl_list
theorem sl_tupK (e : X.K = K) : SlR X (rSlT K) := by subst e; exact sl_tup
abbrev rTupOf (K : PySem.W.Frag) : List V → Hp → L2.VK → Prop := fun xs H Q => ∃ p ys, xs = [.ref p] ∧ ((SqL K H p ys ∧ ∀ l, H l = none → Q (.ref l) (upd H l (.tup ys))) ∨ (SqT K H p ys ∧ Q (.ref p) H))
abbrev rLstOf (K : PySem.W.Frag) : List V → Hp → L2.VK → Prop := fun xs H Q => ∃ p ys, xs = [.ref p] ∧ (SqL K H p ys ∨ SqT K H p ys) ∧ ∀ l, H l = none → Q (.ref l) (upd H l (.lst ys))
theorem cr_tupK (e : X.K = K) : CallR X (.type "tuple") (rTupOf K) := by subst e; exact call_tuple_of
theorem cr_lstK (e : X.K = K) : CallR X (.type "list") (rLstOf K) := by subst e; exact call_list_of
theorem pg_tupK {es : List Expr} {k : Nat} {pos : Pos} {n : Nat} {t : TGs} (e : X.K = K) (h : PG X (.Tuple es k pos) (gTup X.K n t)) : PG X (.Tuple es k pos) (gTup K n t) := by subst e; exact h
end
end My
end DL20_
section DL21_
set_option maxHeartbeats 1000000
namespace My
open PySem PySem.Spec PyProof.Rows L2 LamX
section
variable {κ : Type} [DecidableEq κ] {kvs : List (κ × PyData)} {k k' : κ} {d : PyData}
theorem getD_any : (kvs.any fun kv => decide (kv.1 = k)) = (getD' kvs k).isSome := by
  unfold getD'
  induction kvs with
  | nil => rfl
  | cons p l ih =>
    rw [List.any_cons, List.find?_cons]
    by_cases e : p.1 = k
    · simp [e]
    · simp only [e, decide_false, Bool.false_or]
      exact ih
theorem getD_app {l : List (κ × PyData)} : getD' (kvs ++ l) k = match getD' kvs k with | some d => some d | none => getD' l k := by
  unfold getD'
  rw [List.find?_append]
  cases (kvs.find? fun kv => decide (kv.1 = k)) <;> rfl
theorem getD_map_same (h : (getD' kvs k).isSome = true) : getD' (kvs.map fun kv => if kv.1 = k then (kv.1, d) else kv) k = some d := by
  unfold getD' at h ⊢
  induction kvs with
  | nil => cases h
  | cons p l ih =>
    rw [List.map_cons, List.find?_cons]
    by_cases e : p.1 = k
    · simp [e]
    · rw [List.find?_cons] at h
      simp only [e, decide_false] at h
      simp only [e, if_false, decide_false]
      exact ih h
theorem getD_map_other (h : k' ≠ k) : getD' (kvs.map fun kv => if kv.1 = k then (kv.1, d) else kv) k' = getD' kvs k' := by
  unfold getD'
  induction kvs with
  | nil => rfl
  | cons p l ih =>
    rw [List.map_cons, List.find?_cons, List.find?_cons]
    by_cases e : p.1 = k
    · have e2 : ¬ p.1 = k' := fun z => h (by rw [← z, e])
      rw [if_pos e]
      simp only [e2, decide_false]
      exact ih
    · rw [if_neg e]
      by_cases e2 : p.1 = k'
      · simp [e2]
      · simp only [e2, decide_false]
        exact ih
theorem getD_put_same : getD' (putD' kvs k d) k = some d := by
  unfold putD'
  rw [getD_any]
  split
  · rename_i h
    exact getD_map_same h
  · rename_i h
    rw [getD_app]
    have : getD' kvs k = none := by
      cases e : getD' kvs k with
      | none => rfl
      | some d => rw [e] at h; exact absurd rfl h
    rw [this]
    unfold getD'
    simp
theorem getD_put_other (h : k' ≠ k) : getD' (putD' kvs k d) k' = getD' kvs k' := by
  unfold putD'
  rw [getD_any]
  split
  · exact getD_map_other h
  · rw [getD_app]
    cases e : getD' kvs k' with
    | some d => rfl
    | none =>
      unfold getD'
      have : ¬ k = k' := fun z => h z.symm
      simp [this]
theorem put_new (h : getD' kvs k = none) : putD' kvs k d = kvs ++ [(k, d)] := by
  unfold putD'
  rw [getD_any, h]
  rfl
theorem putD_len' : (putD' kvs k d).length ≤ kvs.length + 1 := by
  unfold putD'
  split
  · rw [List.length_map]; omega
  · rw [List.length_append]; exact Nat.le_refl _
theorem getD_mem (h : getD' kvs k = some d) : (k, d) ∈ kvs := by
  unfold getD' at h
  cases e : kvs.find? (fun kv => decide (kv.1 = k)) with
  | none => rw [e] at h; cases h
  | some p =>
    rw [e] at h
    have h1 := List.find?_some e
    have h2 := List.mem_of_find?_eq_some e
    have h3 : p.1 = k := by simpa using h1
    have h4 : p.2 = d := Option.some.inj h
    rw [← h3, ← h4]
    exact h2
end
theorem nodup_len {α : Type} [DecidableEq α] : ∀ {l m : List α}, l.Nodup → (∀ x ∈ l, x ∈ m) → l.length ≤ m.length
  | [], _, _, _ => Nat.zero_le _
  | x :: l, m, h, s => by
    obtain ⟨a, b, rfl⟩ := List.append_of_mem (s x (by simp))
    have h2 := List.nodup_cons.mp h
    have := nodup_len (l := l) (m := a ++ b) h2.2 fun y hy => by
      have hy2 := s y (by simp [hy])
      have ne : y ≠ x := fun z => h2.1 (z ▸ hy)
      simp only [List.mem_append, List.mem_cons] at hy2 ⊢
      rcases hy2 with q | q | q
      · exact .inl q
      · exact absurd q ne
      · exact .inr q
    simp only [List.length_append, List.length_cons] at this ⊢
    omega
abbrev Use := Str × Str
abbrev uE : Use → PyData := pE .str .str
abbrev usE : List Use → PyData := tE uE
theorem eqe_u : EqE uE := eqe_pE eqe_str eqe_str
theorem dep_u (u : Use) : (uE u).depth ≤ 2 := dep_pE (f := PyData.str) (g := PyData.str) (n := 1) (fun x => by rw [PyData.depth]; omega) (fun x => by rw [PyData.depth]; omega) u
theorem shal_u (u : Use) : Shal (uE u) := by have := dep_u u; unfold Shal; omega
theorem dep_us (l : List Use) : (usE l).depth ≤ 3 := dep_tE dep_u l
theorem shal_us (l : List Use) : Shal (usE l) := by have := dep_us l; unfold Shal; omega
def succ (us : List Use) (m : Str) : List Str := (us.filter fun u => decide (u.1 = m)).map (·.2)
theorem mem_succ {us : List Use} {m x : Str} : x ∈ succ us m ↔ (m, x) ∈ us := by
  unfold succ
  simp only [List.mem_map, List.mem_filter, decide_eq_true_eq]
  constructor
  · rintro ⟨⟨a, b⟩, ⟨h1, h2⟩, h3⟩
    dsimp only at h2 h3
    subst h2; subst h3
    exact h1
  · intro h
    exact ⟨(m, x), ⟨h, rfl⟩, rfl⟩
inductive Wk (us : List Use) (s : Str) : Str → List Str → Prop
  | one : Wk us s s [s]
  | step {m x : Str} {ch : List Str} : Wk us s m ch → (m, x) ∈ us → Wk us s x (ch ++ [x])
def Reach (us : List Use) (s m : Str) : Prop := ∃ ch, Wk us s m ch
theorem Reach.step {us : List Use} {s m x : Str} (h : Reach us s m) (u : (m, x) ∈ us) : Reach us s x := let ⟨ch, w⟩ := h; ⟨ch ++ [x], .step w u⟩
theorem Wk.mono {us us' : List Use} (h : ∀ u ∈ us, u ∈ us') {s m : Str} {ch : List Str} (w : Wk us s m ch) : Wk us' s m ch := by
  induction w with
  | one => exact .one
  | step _ u ih => exact .step ih (h _ u)
/-- the uses of a chain -/
def pairsOf (ch : List Str) : List Use := ch.zip ch.tail
theorem pairs_snoc : ∀ {ch : List Str} {m x : Str}, ch.getLast? = some m → pairsOf (ch ++ [x]) = pairsOf ch ++ [(m, x)]
  | [], _, _, h => by cases h
  | [a], m, x, h => by
    simp at h
    subst h
    rfl
  | a :: b :: l, m, x, h => by
    have ih := pairs_snoc (ch := b :: l) (m := m) (x := x) (by rw [← h, List.getLast?_cons_cons])
    unfold pairsOf at ih ⊢
    simp only [List.cons_append, List.tail_cons, List.zip_cons_cons] at ih ⊢
    rw [ih]
theorem Wk.last {us : List Use} {s m : Str} {ch : List Str} (w : Wk us s m ch) : ch.getLast? = some m := by
  cases w with
  | one => rfl
  | step _ _ => simp
theorem Wk.pairs {us : List Use} {s m : Str} {ch : List Str} (w : Wk us s m ch) : ∀ u ∈ pairsOf ch, u ∈ us := by
  induction w with
  | one => intro u hu; cases hu
  | @step m x ch w u ih =>
    intro v hv
    rw [pairs_snoc w.last] at hv
    rcases List.mem_append.mp hv with q | q
    · exact ih v q
    · simp at q
      rw [q]; exact u
/-- the walk goes on the chain's own uses -/
theorem Wk.own {us : List Use} {s m : Str} {ch : List Str} (w : Wk us s m ch) : Wk (pairsOf ch) s m ch := by
  induction w with
  | one => exact .one
  | @step m x ch w u ih =>
    rw [pairs_snoc w.last]
    exact .step (ih.mono fun v hv => by simp [hv]) (by simp)
theorem Wk.pos {us : List Use} {s m : Str} {ch : List Str} (w : Wk us s m ch) (h : m ≠ s) : pairsOf ch ≠ [] := by
  cases w with
  | one => exact absurd rfl h
  | @step m' _ ch w u => rw [pairs_snoc w.last]; simp
end My
end DL21_
section DL22_
set_option maxHeartbeats 1000000
namespace My
open PySem PySem.Spec PyProof.Rows L2 LamX
inductive Fa2 {α β : Type} (R : α → β → Prop) : List α → List β → Prop
  | nil : Fa2 R [] []
  | cons {a : α} {b : β} {l : List α} {m : List β} : R a b → Fa2 R l m → Fa2 R (a :: l) (b :: m)
theorem fa2_app {α β : Type} {R : α → β → Prop} {a c : List α} {b d : List β} (h : Fa2 R a b) (h2 : Fa2 R c d) : Fa2 R (a ++ c) (b ++ d) := by
  induction h with
  | nil => exact h2
  | cons x _ ih => exact .cons x ih
theorem fa2_mem {α β : Type} {R : α → β → Prop} {a : List α} {b : List β} (h : Fa2 R a b) : ∀ x ∈ a, ∃ y ∈ b, R x y := by
  induction h with
  | nil => intro x hx; cases hx
  | @cons x y _ _ r _ ih =>
    intro z hz
    rcases List.mem_cons.mp hz with e | e
    · exact ⟨y, by simp, e ▸ r⟩
    · obtain ⟨w, hw, r2⟩ := ih z e
      exact ⟨w, by simp [hw], r2⟩
theorem fa2_mem2 {α β : Type} {R : α → β → Prop} {a : List α} {b : List β} (h : Fa2 R a b) : ∀ y ∈ b, ∃ x ∈ a, R x y := by
  induction h with
  | nil => intro x hx; cases hx
  | @cons x y _ _ r _ ih =>
    intro z hz
    rcases List.mem_cons.mp hz with e | e
    · exact ⟨x, by simp, e ▸ r⟩
    · obtain ⟨w, hw, r2⟩ := ih z e
      exact ⟨w, by simp [hw], r2⟩
theorem fa2_len {α β : Type} {R : α → β → Prop} {a : List α} {b : List β} (h : Fa2 R a b) : a.length = b.length := by
  induction h with
  | nil => rfl
  | cons _ _ ih => simp [ih]
section
variable {c : Ctx} {Γ : Env'} {P : Dat → Env' → Prop} {α β γ : Type}
/-- x = [e, ..], an own list -/
theorem ss_newLs {P : Post} {i : Nat} {ta : TA} (hi : i < Γ.length) (h : EA c ta Γ fun xs Γ1 => ∃ ds : List PyData, xs = ds.map .val ∧ ds.length ≤ 1000000 ∧ P.nx (Γ1.set i (.oL ds))) : SS c (tAsg (tLst ta) (gName i)) Γ P := fun σ B H D C E n r b k =>
  h σ B H C E _ fun vs B1 H1 xs Γ1 s1 d1 ⟨ds, e, hl, p⟩ => by
    subst e
    have da := DatAll.vals d1
    refine ⟨len_lit (by rw [DpAll.length da]; exact hl), fun q hq => ?_⟩
    have st := step_new (o := .lst vs) s1.cur hq
    exact n (σ.set i (some (.ref q))) B1 (upd H1 q (.lst vs)) _ (cur_new s1.cur hq) s1.b (s1.env.setOwn (x := .oL ds) hq (by rw [E.len]; exact hi) ⟨q, vs, rfl, upd_same, s1.cur.sub.none hq, new_free s1.cur hq, da⟩ fun b hb => ref_inj hb) p
abbrev inB2 (Γ : Env') (i j : Nat) (d e : PyData) : Env' := ((wipeG Γ [i, j]).set i (cV (.val d))).set j (cV (.val e))
theorem inB2_out {i j k : Nat} {d e : PyData} (h : k ∉ [i, j]) : (inB2 Γ i j d e)[k]? = Γ[k]? := by
  have z : i ≠ k := fun e => h (by simp [e])
  have z2 : j ≠ k := fun e => h (by simp [e])
  rw [List.getElem?_set_ne z2, List.getElem?_set_ne z, wipeG_out h]
theorem lc2f {K : PySem.W.Frag} {i j : Nat} {l : List (α × β)} (f : α → PyData) (f2 : β → PyData) (g : γ → PyData) (h : α × β → γ) (p : α × β → Bool) {tt : TT} {te : TE} (hK : c.K = K) (hz : l.length ≤ 900000) (hno : NoOwn Γ [i, j])
    (turn : ∀ a ∈ l, ET c tt (inB2 Γ i j (f a.1) (f2 a.2)) fun b Γ3 => Γ3 = inB2 Γ i j (f a.1) (f2 a.2) ∧ b = p a ∧ (p a = true → EE c te (inB2 Γ i j (f a.1) (f2 a.2)) fun y Γ4 => Γ4 = inB2 Γ i j (f a.1) (f2 a.2) ∧ y = .val (g (h a))))
    (k : P (dL (((l.filter p).map h).map g)) Γ) : LcD c (gTup K 2 (gCons (gName i) (gCons (gName j) gNil))) tt te [i, j] P (l.map (pE f f2)) Γ := by
  subst hK
  refine ⟨by rw [List.length_map]; exact hz, fun m acc Γ1 => Γ1 = Γ ∧ acc = (((l.take m).filter p).map h).map g, ⟨rfl, by simp⟩, ?_, ?_⟩
  · rintro m d acc Γ1 hd ⟨rfl, ea⟩
    obtain ⟨a, ha, rfl⟩ : ∃ x, l[m]? = some x ∧ d = pE f f2 x := by
      rw [List.getElem?_map] at hd
      cases e : l[m]? with
      | none => rw [e] at hd; cases hd
      | some x => rw [e] at hd; exact ⟨x, rfl, (Option.some.inj hd).symm⟩
    have hm : a ∈ l := List.mem_of_getElem? ha
    have ht : l.take (m + 1) = l.take m ++ [a] := by rw [List.take_add_one, ha]; rfl
    refine ⟨hno, sg_pair (ET.imp (turn a hm) fun b Γ3 ⟨e3, eb, h4⟩ => ⟨fun hb => ?_, fun hb => ?_⟩) (by simp) (by simp)⟩
    · subst e3
      have hp : p a = true := by rw [← eb]; exact hb
      refine EE.imp (h4 hp) fun y Γ4 ⟨e4, ey⟩ => ⟨g (h a), Γ1, ey, ⟨rfl, fun _ _ => rfl, fun j hj => by rw [e4]; exact (inB2_out hj).symm⟩, rfl, ?_⟩
      rw [ht, List.filter_append, List.map_append, List.map_append, ea, List.filter_cons, if_pos hp]
      rfl
    · subst e3
      have hp : ¬ p a = true := by rw [← eb, hb]; exact Bool.false_ne_true
      refine ⟨Γ1, ⟨rfl, fun _ _ => rfl, fun j hj => (inB2_out hj).symm⟩, rfl, ?_⟩
      rw [ht, List.filter_append, List.map_append, List.map_append, ea, List.filter_cons, if_neg hp]
      simp
  · rintro acc Γ1 ⟨rfl, ea⟩
    rw [List.length_map, List.take_length] at ea
    rw [ea]
    exact k
/-- as lc1, what a turn gives being known by a relation alone -/
theorem lc1r {i : Nat} {l : List α} (f : α → PyData) (g : β → PyData) (R : α → β → Prop) {te : TE} (hz : l.length ≤ 900000) (hno : ∀ x, Γ[i]? = some x → x = .unk ∨ ∃ y, x = .dat y)
    (turn : ∀ a ∈ l, EE c te (inB Γ i (f a)) fun y Γ4 => Γ4 = inB Γ i (f a) ∧ ∃ b, R a b ∧ y = .val (g b)) (k : ∀ bs : List β, Fa2 R l bs → P (dL (bs.map g)) Γ) : LcD c (gName i) tYes te [i] P (l.map f) Γ := by
  refine ⟨by rw [List.length_map]; exact hz, fun j acc Γ1 => Γ1 = Γ ∧ ∃ bs, acc = bs.map g ∧ Fa2 R (l.take j) bs, ⟨rfl, [], rfl, .nil⟩, ?_, ?_⟩
  · rintro j d acc Γ1 hd ⟨rfl, bs, ea, fa⟩
    obtain ⟨a, ha, rfl⟩ : ∃ x, l[j]? = some x ∧ d = f x := by
      rw [List.getElem?_map] at hd
      cases e : l[j]? with
      | none => rw [e] at hd; cases hd
      | some x => rw [e] at hd; exact ⟨x, rfl, (Option.some.inj hd).symm⟩
    have hm : a ∈ l := List.mem_of_getElem? ha
    have ht : l.take (j + 1) = l.take j ++ [a] := by rw [List.take_add_one, ha]; rfl
    refine ⟨fun x hx y hy => ?_, sg_name (et_yes ⟨fun _ => EE.imp (turn a hm) fun y Γ4 ⟨e4, b, rb, ey⟩ => ⟨g b, Γ1, ey, ⟨rfl, fun _ _ => rfl, fun j hj => by rw [e4]; exact (inB_out hj).symm⟩, rfl, bs ++ [b], by rw [ea, List.map_append]; rfl, ?_⟩, fun z => by cases z⟩) (by simp)⟩
    · simp at hx
      subst hx
      exact hno y hy
    · rw [ht]
      exact fa2_app fa (.cons rb .nil)
  · rintro acc Γ1 ⟨rfl, bs, ea, fa⟩
    rw [List.length_map, List.take_length] at fa
    rw [ea]
    exact k bs fa
theorem lc2r {K : PySem.W.Frag} {i j : Nat} {l : List (α × β)} (f : α → PyData) (f2 : β → PyData) (g : γ → PyData) (R : α × β → γ → Prop) {te : TE} (hK : c.K = K) (hz : l.length ≤ 900000) (hno : NoOwn Γ [i, j])
    (turn : ∀ a ∈ l, EE c te (inB2 Γ i j (f a.1) (f2 a.2)) fun y Γ4 => Γ4 = inB2 Γ i j (f a.1) (f2 a.2) ∧ ∃ b, R a b ∧ y = .val (g b)) (k : ∀ bs : List γ, Fa2 R l bs → P (dL (bs.map g)) Γ) :
    LcD c (gTup K 2 (gCons (gName i) (gCons (gName j) gNil))) tYes te [i, j] P (l.map (pE f f2)) Γ := by
  subst hK
  refine ⟨by rw [List.length_map]; exact hz, fun j acc Γ1 => Γ1 = Γ ∧ ∃ bs, acc = bs.map g ∧ Fa2 R (l.take j) bs, ⟨rfl, [], rfl, .nil⟩, ?_, ?_⟩
  · rintro m d acc Γ1 hd ⟨rfl, bs, ea, fa⟩
    obtain ⟨a, ha, rfl⟩ : ∃ x, l[m]? = some x ∧ d = pE f f2 x := by
      rw [List.getElem?_map] at hd
      cases e : l[m]? with
      | none => rw [e] at hd; cases hd
      | some x => rw [e] at hd; exact ⟨x, rfl, (Option.some.inj hd).symm⟩
    have hm : a ∈ l := List.mem_of_getElem? ha
    have ht : l.take (m + 1) = l.take m ++ [a] := by rw [List.take_add_one, ha]; rfl
    refine ⟨hno, sg_pair (et_yes ⟨fun _ => EE.imp (turn a hm) fun y Γ4 ⟨e4, b, rb, ey⟩ => ⟨g b, Γ1, ey, ⟨rfl, fun _ _ => rfl, fun j hj => by rw [e4]; exact (inB2_out hj).symm⟩, rfl, bs ++ [b], by rw [ea, List.map_append]; rfl, ?_⟩, fun z => by cases z⟩) (by simp) (by simp)⟩
    rw [ht]
    exact fa2_app fa (.cons rb .nil)
  · rintro acc Γ1 ⟨rfl, bs, ea, fa⟩
    rw [List.length_map, List.take_length] at fa
    rw [ea]
    exact k bs fa
end
theorem perm_of_map {α β : Type} {f : α → β} {m k : List β} (h : m.Perm k) : ∀ {l : List α}, k = l.map f → ∃ l' : List α, l'.Perm l ∧ m = l'.map f := by
  induction h with
  | nil => intro l e; exact ⟨l, .refl _, e⟩
  | cons x p ih =>
    intro l e
    cases l with
    | nil => cases e
    | cons a l =>
      obtain ⟨e1, e2⟩ := List.cons.inj e
      obtain ⟨l', p', e'⟩ := ih e2
      exact ⟨a :: l', p'.cons a, by rw [e1, e']; rfl⟩
  | swap x y l0 =>
    intro l e
    cases l with
    | nil => cases e
    | cons a l =>
      cases l with
      | nil => cases e
      | cons b l =>
        obtain ⟨e1, e2⟩ := List.cons.inj e
        obtain ⟨e3, e4⟩ := List.cons.inj e2
        exact ⟨b :: a :: l, List.Perm.swap a b l, by rw [e1, e3, e4]; rfl⟩
  | trans p q ih1 ih2 =>
    intro l e
    obtain ⟨l', p', e'⟩ := ih2 e
    obtain ⟨l2, p2, e2⟩ := ih1 e'
    exact ⟨l2, p2.trans p', e2⟩
/-- the slots hold what a block may set -/
abbrev U (x : Cell) : Prop := x = .unk ∨ ∃ y, x = .dat y
theorem noOwn_two {Γ : Env'} {i j : Nat} {x y : Cell} (h1 : Γ[i]? = some x) (h2 : Γ[j]? = some y) (u1 : U x) (u2 : U y) : NoOwn Γ [i, j] := fun k hk z hz => by
  rcases List.mem_cons.mp hk with e | e
  · subst e
    rw [h1] at hz
    cases hz
    exact u1
  · simp at e
    subst e
    rw [h2] at hz
    cases hz
    exact u2
theorem enumD_map {α : Type} {f : α → PyData} (l : List α) : enumD (l.map f) = ((l.zipIdx).map fun p => (p.2, p.1)).map (pE (fun n : Nat => PyData.int (n : Int)) f) := by
  unfold enumD
  rw [List.zipIdx_map, List.map_map, List.map_map]
  rfl
end My
end DL22_
section DL23_
set_option maxHeartbeats 1000000
namespace My
open PySem PySem.Spec PyProof.Rows L2 LamX
abbrev lamQ (x : Str) : Str := x ++ Str.ofString ".<locals>." ++ Str.ofString "<lambda>"
/-- a def whose lambda's code object the table at P keeps -/
def LamAt (K : PySem.W.Frag) (mg : Str → Option Value) (base : Heap) (T : List (Addr × Str)) (x : Str) (st : Stmt) : Prop :=
  ∃ f fd c P, mg x = some (.ref f) ∧ FnP K x st f fd ∧ fd.code = .ref c ∧ TabB base mg c P ∧ (P, lamQ x) ∈ T ∧ ∀ p ∈ T, p.1 = P → p.2 = lamQ x
structure WdL (K : PySem.W.Frag) (mg : Str → Option Value) (base : Heap) (T : List (Addr × Str)) : Prop extends Wd K mg where
  l_first_of : LamAt K mg base T "first_of" sFirstOf
  l_short_break : LamAt K mg base T "short_break" sShortBreak
theorem lam_ok {P : Program} {w : World} {K : PySem.W.Frag} {mg : Str → Option Value} {base : Heap} {CX : CXT} {N ps : List Str} {k : Nat} {sp : Sp} {x : Str} {params : Arguments} {body : List Stmt} {scope : Scope} {dvs : List V} {kws : List (Str × V)} {f : Addr} {fd : FuncData} {c : Addr}
    (F : FunD K x x params body scope dvs kws f fd) (hc : fd.code = .ref c) (S : FnScope N ps scope) (len : ∀ vs H Q E, sp vs H Q E → vs.length = ps.length)
    (hbody : ∀ (A : Around) (outer : List Env) (s : Shared) (H : Hp) (vs : List V) (Q : L2.VK) (E : XK), Room k (A.deeper (envOfC x scope s.heap.objs.size f (.ref c))) → sp vs H Q E →
      ∃ t, PSs (cxOf CX P w K mg base N x scope f (.ref c) A outer s H E) body t ∧ t { nx := fun _ H' => Q .non H', rt := Q } (L2.start N vs) H) : FnOk P w K mg base CX (k + 1) f fd ps sp := by
  obtain ⟨oc, od, dV, kV, doc, pm, an, cdv, ct, osl, rfl, lk, hcd, _, _⟩ := F.ex
  have e : cdv = .ref c := hc
  subst e
  exact fn_of lk hcd S len fun A outer s H vs Q E hr hsp => hbody A outer s H vs Q E hr hsp
def tupLen : PyData → Nat
  | .tuple l => l.length
  | _ => 0
def gLen (d : PyData) : Int := (tupLen d : Nat)
def gLen1 : PyData → Int
  | .tuple [_, d] => (tupLen d : Nat)
  | _ => 0
abbrev tbLen (K : PySem.W.Frag) : TE := tTup (tCons (tCB (rLen K) (tCons (tVar 0) tNil)) (tCons (tVar 0) tNil))
abbrev tbLen1 (K : PySem.W.Frag) : TE := tTup (tCons (tCB (rLen K) (tCons (tOp (rIx K) (tVar 0) (tC (.int 1))) tNil)) (tCons (tVar 0) tNil))
section
variable {c : Ctx} {K : PySem.W.Frag}
theorem key_len (hK : c.K = K) {a : Str} {l : List PyData} : KeyOk c (tbLen K) a gLen (.tuple l) := by
  intro H x h
  subst hK
  cases h with
  | @tup b ws _ sq da =>
    refine ⟨_, rfl, _, ws.length, rfl, .inr ⟨_, sq, rfl⟩, _, rfl, by show 2 ≤ _; decide, fun p hp => ⟨p, rfl, hp, ?_⟩⟩
    rw [DpAll.length da]
    rfl
theorem key_len1 (hK : c.K = K) {a : Str} {d0 : PyData} {l : List PyData} : KeyOk c (tbLen1 K) a gLen1 (.tuple [d0, .tuple l]) := by
  intro H x h
  subst hK
  cases h with
  | @tup b ws _ sq da =>
    cases da with
    | @cons v0 _ ws0 _ h0 da =>
      cases da with
      | @cons v1 _ ws1 _ h1 da =>
        cases da
        cases h1 with
        | @tup b2 ws2 _ sq2 da2 =>
          refine ⟨_, rfl, .inr (.inl ⟨_, _, _, _, rfl, rfl, sq, rfl, _, ws2.length, rfl, .inr ⟨_, sq2, rfl⟩, _, rfl, by show 2 ≤ _; decide, fun p hp => ⟨p, rfl, hp, ?_⟩⟩)⟩
          rw [DpAll.length da2]
          rfl
end
end My
end DL23_
section DL24_
set_option maxHeartbeats 1000000
namespace My
open PySem PySem.Spec PyProof.Rows L2 LamX
theorem le_antisymm {x y : PyData} (h1 : PySem.W.dataLt x y = false) (h2 : PySem.W.dataLt y x = false) : PySem.W.keyToks x = PySem.W.keyToks y := lex_total _ _ h1 h2
theorem toks_u (u : Use) : PySem.W.keyToks (uE u) = [.inl 1, .inr u.1.cps.toList, .inl 1, .inr u.2.cps.toList, .inl 0] := by
  show PySem.W.keyToks (.tuple [.str u.1, .str u.2]) = _
  simp [PySem.W.keyToks, PySem.W.keyToksAll]
theorem toks_u_inj {u v : Use} (h : PySem.W.keyToks (uE u) = PySem.W.keyToks (uE v)) : u = v := by
  rw [toks_u, toks_u] at h
  simp only [List.cons.injEq, Sum.inr.injEq] at h
  exact Prod.ext (PySem.W.str_of_cps h.2.1) (PySem.W.str_of_cps h.2.2.2.1)
theorem toksAll_inj : ∀ {l m : List Use}, PySem.W.keyToksAll (l.map uE) = PySem.W.keyToksAll (m.map uE) → l = m
  | [], [], _ => rfl
  | [], v :: m, h => by
    rw [List.map_cons, PySem.W.toks_all_cons] at h
    simp [PySem.W.keyToksAll] at h
  | u :: l, [], h => by
    rw [List.map_cons, PySem.W.toks_all_cons] at h
    simp [PySem.W.keyToksAll] at h
  | u :: l, v :: m, h => by
    rw [List.map_cons, List.map_cons, PySem.W.toks_all_cons, PySem.W.toks_all_cons, toks_u, toks_u] at h
    simp only [List.cons_append, List.nil_append, List.cons.injEq, Sum.inr.injEq] at h
    obtain ⟨_, _, h1, _, h2, _, h3⟩ := h
    rw [show u = v from Prod.ext (PySem.W.str_of_cps h1) (PySem.W.str_of_cps h2), toksAll_inj h3]
theorem toks_us_inj {l m : List Use} (h : PySem.W.keyToks (usE l) = PySem.W.keyToks (usE m)) : l = m := by
  have e : ∀ l : List Use, PySem.W.keyToks (usE l) = PySem.W.keyToksAll (l.map uE) := fun l => by
    show PySem.W.keyToks (.tuple _) = _
    rw [PySem.W.keyToks]
  rw [e, e] at h
  exact toksAll_inj h
def uLe (a b : Use) : Bool := !PySem.W.dataLt (uE b) (uE a)
def tLe (a b : List Use) : Bool := !PySem.W.dataLt (usE b) (usE a)
section
variable {α : Type} {f : α → PyData}
theorem le_tot (f : α → PyData) : PySem.W.TotalLe (PySem.W.dataLe false f) := PySem.W.sortLe_total _ _ _
theorem pw_sort (f : α → PyData) (l : List α) : (l.mergeSort (PySem.W.dataLe false f)).Pairwise (fun a b => PySem.W.dataLe false f a b = true) := List.pairwise_mergeSort (le_tot f).trans (fun a b => by
  rcases (le_tot f).total a b with h | h <;> simp [h]) l
theorem sort_map (f : α → PyData) (l : List α) : (l.map f).mergeSort (PySem.W.dataLe false id) = (l.mergeSort (PySem.W.dataLe false f)).map f := (List.map_mergeSort (r := PySem.W.dataLe false f) (s := PySem.W.dataLe false id) (f := f) fun a _ b _ => rfl).symm
end
abbrev sortU (l : List Use) : List Use := l.mergeSort (PySem.W.dataLe false uE)
abbrev sortT (l : List (List Use)) : List (List Use) := l.mergeSort (PySem.W.dataLe false usE)
def Srt (l : List Use) : Prop := l.Pairwise fun a b => PySem.W.dataLe false uE a b = true
theorem sortU_srt (l : List Use) : Srt (sortU l) := pw_sort uE l
theorem sortU_perm (l : List Use) : (sortU l).Perm l := List.mergeSort_perm _ _
theorem srt_eq : ∀ {l m : List Use}, Srt l → Srt m → l.Perm m → l = m
  | [], m, _, _, p => by rw [List.nil_perm.mp p]
  | a :: l, [], _, _, p => by cases List.perm_nil.mp p
  | a :: l, b :: m, h1, h2, p => by
    have h1' := List.pairwise_cons.mp h1
    have h2' := List.pairwise_cons.mp h2
    have e : a = b := by
      have ha : a ∈ b :: m := p.mem_iff.mp (by simp)
      have hb : b ∈ a :: l := p.mem_iff.mpr (by simp)
      rcases List.mem_cons.mp ha with e | ha
      · exact e
      · rcases List.mem_cons.mp hb with e | hb
        · exact e.symm
        · have q1 := h1'.1 b hb
          have q2 := h2'.1 a ha
          refine toks_u_inj (le_antisymm ?_ ?_)
          · have : (!PySem.W.dataLt (uE a) (uE b)) = true := q2
            simpa using this
          · have : (!PySem.W.dataLt (uE b) (uE a)) = true := q1
            simpa using this
    subst e
    rw [srt_eq h1'.2 h2'.2 (List.Perm.cons_inv p)]
theorem srt_sort {l : List Use} (h : Srt l) : sortU l = l := srt_eq (sortU_srt l) h (sortU_perm l)
theorem NkD_u (u : Use) : NkD (uE u) = true := by simp [NkD, NkD.all]
theorem NkD_us (l : List Use) : NkD (usE l) = true := by
  show NkD (.tuple _) = true
  have : ∀ l : List Use, NkD.all (l.map uE) = true := fun l => by
    induction l with
    | nil => simp [NkD.all]
    | cons u l ih => rw [List.map_cons, NkD.all, NkD_u, ih]; rfl
  rw [NkD, this]
theorem eqe_inj {α : Type} [DecidableEq α] {f : α → PyData} (h : EqE f) {a b : α} (e : f a = f b) : a = b := by
  have q := h a b
  rw [← e, h a a] at q
  simpa using q
theorem eqe_us : EqE usE := eqe_tE eqe_u
theorem nk_us {a b : List Use} : nkOf (usE a) = nkOf (usE b) ↔ a = b := ⟨fun e => eqe_inj eqe_us (nk_inj _ _ (NkD_us a) (NkD_us b) e), fun e => by rw [e]⟩
theorem putN_us (L : List (List Use)) (l : List Use) : putN (L.map usE) (usE l) = (if l ∈ L then L else L ++ [l]).map usE := by
  unfold putN
  have e : ((L.map usE).any fun e => decide (nkOf e = nkOf (usE l))) = decide (l ∈ L) := by
    rw [List.any_map]
    induction L with
    | nil => rfl
    | cons a L ih =>
      rw [List.any_cons, ih]
      by_cases q : a = l
      · simp [q]
      · have q2 : ¬ nkOf (usE a) = nkOf (usE l) := fun z => q (nk_us.mp z)
        have q3 : ¬ l = a := fun z => q z.symm
        simp [q2, q3]
  rw [e]
  by_cases q : l ∈ L
  · simp [q]
  · simp [q]
theorem nodup_us {L : List (List Use)} (h : L.Nodup) : (L.map usE).Nodup := by
  rw [List.nodup_iff_pairwise_ne, List.pairwise_map]
  exact (List.nodup_iff_pairwise_ne.mp h).imp fun ne e => ne (eqe_inj eqe_us e)
theorem sub_count {c S : List Use} (h : c.Nodup) (hs : S.Nodup) (i : ∀ u ∈ c, u ∈ S) : c.length + (S.filter fun u => !decide (u ∈ c)).length ≤ S.length := by
  rw [← List.length_append]
  refine nodup_len (List.nodup_append.mpr ⟨h, List.Pairwise.filter _ hs, fun a ha b hb e => ?_⟩) fun x hx => ?_
  · subst e
    simp at hb
    exact hb.2 ha
  · rcases List.mem_append.mp hx with q | q
    · exact i x q
    · exact (List.mem_filter.mp q).1
/-- lists with nothing in common, each meeting D: no more than D has -/
theorem meet_count {α : Type} {g : α → List Use} {D : List Use} : ∀ {fs : List α}, fs.Pairwise (fun a b => ∀ u ∈ g a, u ∉ g b) → (∀ f ∈ fs, ∃ u ∈ g f, u ∈ D) → ∃ l : List Use, l.Nodup ∧ l.length = fs.length ∧ (∀ u ∈ l, u ∈ D) ∧ ∀ u ∈ l, ∃ f ∈ fs, u ∈ g f
  | [], _, _ => ⟨[], .nil, rfl, (fun _ h => by cases h), fun _ h => by cases h⟩
  | f :: fs, h, m => by
    obtain ⟨h1, h2⟩ := List.pairwise_cons.mp h
    obtain ⟨l, n1, n2, n3, n4⟩ := meet_count h2 fun x hx => m x (by simp [hx])
    obtain ⟨u, hu, hd⟩ := m f (by simp)
    refine ⟨u :: l, List.nodup_cons.mpr ⟨fun hul => ?_, n1⟩, by simp [n2], fun x hx => ?_, fun x hx => ?_⟩
    · obtain ⟨f', hf', h'⟩ := n4 u hul
      exact h1 f' hf' u hu h'
    · rcases List.mem_cons.mp hx with e | e
      · rw [e]; exact hd
      · exact n3 x e
    · rcases List.mem_cons.mp hx with e | e
      · exact ⟨f, by simp, e ▸ hu⟩
      · obtain ⟨f', hf', h'⟩ := n4 x e
        exact ⟨f', by simp [hf'], h'⟩
end My
end DL24_
section P1_
set_option maxHeartbeats 1000000
namespace My
open PySem PySem.Spec PyProof.Rows L2 LamX
def dot : Str := Str.ofString "."
def letters : Str := Str.ofString "abcdefghijklmnopqrstuvwxyz"
/-- path covers other -/
def cov (p o : Str) : Bool := decide (o = p) || Txt.startswith o (p ++ dot)
def ovl (a b : Str) : Bool := cov a b || cov b a
def ShortS (x : Str) : Prop := x.length ≤ 1000
def nameOk (x : Str) : Prop := 1 ≤ x.length ∧ x.length ≤ 8 ∧ ∀ ch ∈ x.cps.toList, ch ∈ letters.cps.toList
def pathOk (x : Str) : Prop := x.length ≤ 1000 ∧ (Txt.split x dot).length ≤ 6 ∧ ∀ n ∈ Txt.split x dot, nameOk n
theorem pathOk.short {x : Str} (h : pathOk x) : ShortS x := h.1
def home (ps : List Str) (m : Str) : Option Str := ps.find? fun p => cov p m
abbrev sE : List Str → PyData := tE .str
abbrev spName (K : PySem.W.Frag) (T : List (Addr × Str)) : Sp := SpI K T (fun i : Str => [dS i]) nameOk (fun i x => x = dB true)
abbrev spPath (K : PySem.W.Frag) (T : List (Addr × Str)) : Sp := SpI K T (fun i : Str => [dS i]) pathOk (fun i x => x = dB true)
abbrev spCov (K : PySem.W.Frag) (T : List (Addr × Str)) : Sp := SpI K T (fun i : Str × Str => [dS i.1, dS i.2]) (fun i => ShortS i.1 ∧ ShortS i.2) (fun i x => x = dB (cov i.1 i.2))
abbrev spOvl (K : PySem.W.Frag) (T : List (Addr × Str)) : Sp := SpI K T (fun i : Str × Str => [dS i.1, dS i.2]) (fun i => ShortS i.1 ∧ ShortS i.2) (fun i x => x = dB (ovl i.1 i.2))
abbrev spHome (K : PySem.W.Frag) (T : List (Addr × Str)) : Sp := SpI K T (fun i : List Str × Str => [.val (sE i.1), dS i.2]) (fun i => (∀ p ∈ i.1, ShortS p) ∧ ShortS i.2) (fun i x => x = .val (oE .str (home i.1 i.2)))
theorem isNo_str (x : Str) : isNo (.str x) = false := rfl
theorem map_get {α : Type} {f : α → PyData} {l : List α} {i : Nat} {d : PyData} (h : (l.map f)[i]? = some d) : ∃ x, l[i]? = some x ∧ d = f x := by
  rw [List.getElem?_map] at h
  cases e : l[i]? with
  | none => rw [e] at h; cases h
  | some x => rw [e] at h; exact ⟨x, rfl, (Option.some.inj h).symm⟩
theorem noOwn_one {Γ : Env'} {i : Nat} {y : Dat} (h : Γ[i]? = some .unk ∨ Γ[i]? = some (.dat y)) : NoOwn Γ [i] := fun j hj x hx => by
  simp at hj
  subst hj
  rcases h with h | h
  · rw [h] at hx; cases hx; exact .inl rfl
  · rw [h] at hx; cases hx; exact .inr ⟨y, rfl⟩
theorem take_snoc {α : Type} {l : List α} {j : Nat} {x : α} (h : l[j]? = some x) : l.take (j + 1) = l.take j ++ [x] := by rw [List.take_add_one, h]; rfl
theorem home_hit {ps : List Str} {j : Nat} {p m : Str} (hp : ps[j]? = some p) (hn : home (ps.take j) m = none) (c : cov p m = true) : home ps m = some p := by
  have e : ps = ps.take j ++ p :: ps.drop (j + 1) := by
    obtain ⟨hj, q⟩ := List.getElem?_eq_some_iff.mp hp
    rw [← q, ← List.drop_eq_getElem_cons hj, List.take_append_drop]
  rw [e]
  unfold home at hn ⊢
  rw [List.find?_append, hn, List.find?_cons, c]
  rfl
theorem home_next {ps : List Str} {j : Nat} {p m : Str} (hp : ps[j]? = some p) (hn : home (ps.take j) m = none) (c : cov p m = false) : home (ps.take (j + 1)) m = none := by
  rw [take_snoc hp]
  unfold home at hn ⊢
  rw [List.find?_append, hn, List.find?_cons, c]
  rfl
/-- the first path that meets one of the others -/
def fstOv (ps os : List Str) : Option Str := ps.find? fun p => os.any (ovl p)
abbrev spFst (K : PySem.W.Frag) (T : List (Addr × Str)) : Sp := SpI K T (fun i : List Str × List Str => [.val (sE i.1), .val (sE i.2)]) (fun i => (∀ p ∈ i.1, ShortS p) ∧ (∀ p ∈ i.2, ShortS p) ∧ (∀ p ∈ i.1, ∀ q ∈ i.2, ovl p q = false) ∧ i.2.length ≤ 1000) (fun i x => x = dN)
theorem cps_len (x : Str) : x.cps.toList.length = x.length := by show x.cps.toList.length = x.cps.size; simp
section
variable {P : Program} {w : World} {K : PySem.W.Frag} {mg : Str → Option Value} {base : Heap} {T : List (Addr × Str)}
theorem sc_covers : FnScope ["path", "other"] ["path", "other"] (defScope sCovers) := ⟨rfl, rfl, rfl, by decide +kernel, rfl, by decide +kernel, by decide +kernel⟩
theorem ok_covers (W : Wd K mg) : DefOk P w K mg base "covers" ["path", "other"] 1 (spCov K T) := by
  obtain ⟨f, fd, hm, F⟩ := W.f_covers
  refine ⟨f, fd, hm, F.kp, F.bindsN fun _ _ _ _ _ _ us hl => match us, hl with | [_, _], _ => rfl, F.ok sc_covers (sp_len fun _ => rfl) fun cdv A outer s H vs Q E hr h => ?_⟩
  have nd := sc_covers.nd
  have hu64 := hr.units
  have hu1 := hu_of hr
  refine ⟨_, PSs.nox ((pss_one (ps_ret (pe_or (pe_cmpR (op_eqK (K := K) rfl hu64) (pv 1) (pv 0) (nomark _)) (pe_one (pe_m1 PySem.F.slot_str_startswith PySem.F.type_str_startswith mt_startswith (pv 1) (pe_op (op_addK (K := K) rfl) (pv 0) pe_str))))))), sp_go (fun H0 B0 i hp => ?_) h⟩
  obtain ⟨p, o⟩ := i
  obtain ⟨h1, h2⟩ := hp
  unfold ShortS at h1 h2
  dsimp only at h1 h2
  refine ss_ret (ee_orV (ee_op (ee_var rfl (ee_var rfl (ro_eqS ⟨_, rfl, fun e => ?_, fun e => ?_⟩)))))
  · show dB true = dB (cov p o)
    unfold cov
    rw [e, Bool.true_or]
  · refine ee_M1 (ee_var rfl ⟨⟨_, rfl⟩, ee_op (ee_var rfl (ee_str (ro_addT (by show p.length + 1 ≤ _; omega) (rm_starts ?_))))⟩)
    show dB _ = dB (cov p o)
    unfold cov
    rw [e, Bool.false_or]
    rfl
theorem sc_overlap : FnScope ["path", "other"] ["path", "other"] (defScope sOverlap) := ⟨rfl, rfl, rfl, by decide +kernel, rfl, by decide +kernel, by decide +kernel⟩
theorem ok_overlap (W : Wd K mg) : DefOk P w K mg base "overlap" ["path", "other"] 2 (spOvl K T) := by
  obtain ⟨f, fd, hm, F⟩ := W.f_overlap
  have D_covers := ok_covers (P := P) (w := w) (base := base) (T := T) W
  refine ⟨f, fd, hm, F.kp, F.bindsN fun _ _ _ _ _ _ us hl => match us, hl with | [_, _], _ => rfl, F.ok sc_overlap (sp_len fun _ => rfl) fun cdv A outer s H vs Q E hr h => ?_⟩
  have nd := sc_overlap.nd
  have hu64 := hr.units
  have hu1 := hu_of hr
  refine ⟨_, PSs.nox ((pss_one (ps_ret (pe_or (pe_callD D_covers (hr.mono (by decide)) rfl (pa_cons (pv 0) (pa_cons (pv 1) pa_nil))) (pe_one (pe_callD D_covers (hr.mono (by decide)) rfl (pa_cons (pv 1) (pa_cons (pv 0) pa_nil)))))))), sp_go (fun H0 B0 i hp => ?_) h⟩
  obtain ⟨p, o⟩ := i
  refine ss_ret (ee_orV (ee_call rfl rfl (ea_cons (ee_var rfl (ea_cons (ee_var rfl (ea_nil ⟨(p, o), rfl, hp, fun x ex => ⟨_, ex, fun e => ?_, fun e => ?_⟩⟩))))))) 
  · show dB true = dB (ovl p o)
    unfold ovl
    rw [show cov p o = true from e, Bool.true_or]
  · refine ee_call rfl rfl (ea_cons (ee_var rfl (ea_cons (ee_var rfl (ea_nil ⟨(o, p), rfl, ⟨hp.2, hp.1⟩, fun x ex => ?_⟩)))))
    rw [ex]
    show dB _ = dB (ovl p o)
    unfold ovl
    rw [show cov p o = false from e, Bool.false_or]
theorem sc_covered : FnScope ["paths", "path", "other"] ["paths", "path"] (defScope sCovered) := ⟨rfl, rfl, rfl, by decide +kernel, rfl, by decide +kernel, by decide +kernel⟩
theorem ok_covered (W : Wd K mg) : DefOk P w K mg base "covered" ["paths", "path"] 2 (spHome K T) := by
  obtain ⟨f, fd, hm, F⟩ := W.f_covered
  have D_covers := ok_covers (P := P) (w := w) (base := base) (T := T) W
  refine ⟨f, fd, hm, F.kp, F.bindsN fun _ _ _ _ _ _ us hl => match us, hl with | [_, _], _ => rfl, F.ok sc_covered (sp_len fun _ => rfl) fun cdv A outer s H vs Q E hr h => ?_⟩
  have nd := sc_covered.nd
  have hu64 := hr.units
  have hu1 := hu_of hr
  refine ⟨_, PSs.nox ((pss_cons (ps_for PassesOwn.never rfl (pi_tupK (K := K) rfl (pv 0)) (pg_name (i := 2) nd rfl (by first | exact Or.inl rfl | exact Or.inr rfl))
    (pss_one (ps_if (pt_val (pe_callD D_covers (hr.mono (by decide)) rfl (pa_cons (pv 2) (pa_cons (pv 1) pa_nil))))
    (pss_one (ps_ret (pv 2)))
    pss_nil)))
    (pss_one (ps_ret pe_non)))), sp_go (fun H0 B0 i hp => ?_) h⟩
  obtain ⟨ps, m⟩ := i
  obtain ⟨h1, h2⟩ := hp
  dsimp only at h1 h2
  refine ss_seq (ss_for (vs := [2]) (wi_tup (ee_var rfl ⟨ps.map .str, rfl, fun j Γ1 => (∃ z, Γ1 = [cV (.val (sE ps)), cV (dS m), z]) ∧ home (ps.take j) m = none, ⟨⟨_, rfl⟩, rfl⟩, fun j d Γ1 hd hI => ?_, fun Γ1 hI => ?_⟩)))
  · obtain ⟨⟨z, rfl⟩, hn⟩ := hI
    obtain ⟨p, hp, rfl⟩ := map_get hd
    have hm := List.mem_of_getElem? hp
    refine sg_name ?_ (by simp)
    refine ss_if (et_test (ee_call rfl rfl (ea_cons (ee_var rfl (ea_cons (ee_var rfl (ea_nil ⟨(p, m), rfl, ⟨h1 p hm, h2⟩, fun x ex => ⟨_, ex, fun e => ?_, fun e => ?_⟩⟩)))))))
    · refine ss_ret (ee_var rfl ?_)
      show Dat.val _ = .val (oE .str (home ps m))
      rw [home_hit hp hn e]
      rfl
    · exact ss_next ⟨⟨_, rfl⟩, home_next hp hn e⟩
  · obtain ⟨⟨z, rfl⟩, hn⟩ := hI
    rw [List.length_map, List.take_length] at hn
    refine ss_ret (ee_non ?_)
    show dN = .val (oE .str (home ps m))
    rw [hn]
    rfl
theorem sc_is_name : FnScope ["value", "sign"] ["value"] (defScope sIsName) := ⟨rfl, rfl, rfl, by decide +kernel, rfl, by decide +kernel, by decide +kernel⟩
theorem ok_is_name (W : Wd K mg) : DefOk P w K mg base "is_name" ["value"] 1 (spName K T) := by
  obtain ⟨f, fd, hm, F⟩ := W.f_is_name
  refine ⟨f, fd, hm, F.kp, F.bindsN fun _ _ _ _ _ _ us hl => match us, hl with | [_], _ => rfl, F.ok sc_is_name (sp_len fun _ => rfl) fun cdv A outer s H vs Q E hr h => ?_⟩
  have nd := sc_is_name.nd
  have hu64 := hr.units
  have hu1 := hu_of hr
  refine ⟨_, PSs.nox ((pss_one (ps_ret (pe_and (pe_callB (cr_isiK (K := K) rfl) rfl W.b_isinstance boot_isinstance (pa_cons (pv 0) (pa_cons (pe_bltn (v := .ty "str") rfl W.b_str boot_str rfl) pa_nil))) (pe_and (pe_chain op_le op_le pe_int (pe_callB (cr_lenK (K := K) rfl) rfl W.b_len boot_len (pa_cons (pv 0) pa_nil)) (pe_glob (v := .int 8) rfl W.c_MAX_LETTERS.choose_spec ⟨_, rfl⟩)) (pe_one (pe_callB (cr_allK (K := K) rfl rfl) rfl W.b_all boot_all (pa_cons (pe_lc (own := [("sign", 1)]) rfl nd (pi_str (pv 0)) (blkOk_by (own := [("sign", 1)]) (N := ["value", "sign"]) (sc := defScope sIsName) (by decide +kernel)) (fun _ _ _ _ _ => (pg_name (i := 1) nd rfl (by first | exact Or.inl rfl | exact Or.inr rfl))) (fun _ _ _ _ _ => pts_nil) (fun _ _ _ _ _ => (pe_cmpR op_in_sign (pv 1) (pe_glob (v := .str "abcdefghijklmnopqrstuvwxyz") rfl W.c_LETTERS.choose_spec ⟨_, rfl⟩) (by rfl)))) pa_nil)))))))), sp_go (fun H0 B0 i hp => ?_) h⟩
  obtain ⟨h1, h2, h3⟩ := hp
  refine ss_ret (ee_andV (ee_CB (ea_cons (ee_var rfl (ea_cons (ee_ref (ea_nil (rl_isS ⟨_, rfl, fun _ => ?_, fun z => by cases z⟩))))))))
  refine ee_andV (ee_chain (ee_int (ee_CB (ea_cons (ee_var rfl (ea_nil (rl_lenS (by omega) (ro_le ⟨_, rfl, fun e => ?_, fun e => ?_⟩))))))))
  · refine ee_int (ro_le ⟨_, rfl, fun e2 => ?_, fun e2 => ?_⟩)
    · refine ee_CB (ea_cons (ee_lc (wi_str (ee_var rfl ⟨i, rfl, lc1 (fun ch : Nat => .str ⟨#[ch]⟩) .bool (fun _ => true) (by rw [cps_len]; omega) (hno_unk rfl) (fun ch hch => ?_) (ea_nil ?_)⟩))))
      · refine ee_op (ee_var rfl (ee_str (ro_flat fun B H v w s d e Q q => ?_)))
        cases d; cases e
        refine ⟨ch, letters, rfl, rfl, ?_⟩
        rw [decide_eq_true (h3 ch hch)]
        exact q _ (dB true) (Dp.bl true) ⟨rfl, rfl⟩
      · refine (rl_allM ?_).rl
        simp
    · have : (i.length : Int) ≤ 8 := by omega
      exact absurd this (of_decide_eq_false e2)
  · have : (1 : Int) ≤ i.length := by omega
    exact absurd this (of_decide_eq_false e)
theorem sc_is_path : FnScope ["value", "names", "name"] ["value"] (defScope sIsPath) := ⟨rfl, rfl, rfl, by decide +kernel, rfl, by decide +kernel, by decide +kernel⟩
theorem ok_is_path (W : Wd K mg) : DefOk P w K mg base "is_path" ["value"] 2 (spPath K T) := by
  obtain ⟨f, fd, hm, F⟩ := W.f_is_path
  have D_is_name := ok_is_name (P := P) (w := w) (base := base) (T := T) W
  refine ⟨f, fd, hm, F.kp, F.bindsN fun _ _ _ _ _ _ us hl => match us, hl with | [_], _ => rfl, F.ok sc_is_path (sp_len fun _ => rfl) fun cdv A outer s H vs Q E hr h => ?_⟩
  have nd := sc_is_path.nd
  have hu64 := hr.units
  have hu1 := hu_of hr
  refine ⟨_, PSs.nox ((pss_cons (ps_if (pt_not (pt_val (pe_callB (cr_isiK (K := K) rfl) rfl W.b_isinstance boot_isinstance (pa_cons (pv 0) (pa_cons (pe_bltn (v := .ty "str") rfl W.b_str boot_str rfl) pa_nil)))))
    (pss_one (ps_ret pe_bl))
    pss_nil)
    (pss_cons (ps_set (i := 1) nd rfl (by first | exact Or.inl rfl | exact Or.inr rfl) (pe_split (pv 0) pe_str))
    (pss_one (ps_ret (pe_and (pe_cmpR op_le (pe_callB (cr_lenK (K := K) rfl) rfl W.b_len boot_len (pa_cons (pv 1) pa_nil)) (pe_glob (v := .int 6) rfl W.c_MAX_NAMES.choose_spec ⟨_, rfl⟩) (nomark _)) (pe_one (pe_callB (cr_allK (K := K) rfl rfl) rfl W.b_all boot_all (pa_cons (pe_lc (own := [("name", 2)]) rfl nd (pi_listK (K := K) rfl (pv 1)) (blkOk_by (own := [("name", 2)]) (N := ["value", "names", "name"]) (sc := defScope sIsPath) (by decide +kernel)) (fun _ _ _ _ _ => (pg_name (i := 2) nd rfl (by first | exact Or.inl rfl | exact Or.inr rfl))) (fun _ _ _ _ _ => pts_nil) (fun _ _ _ _ _ => (pe_callD D_is_name (hr.mono (by decide)) rfl (pa_cons (pv 2) pa_nil)))) pa_nil))))))))), sp_go (fun H0 B0 i hp => ?_) h⟩
  obtain ⟨h1, h2, h3⟩ := hp
  refine ss_seq (ss_if (et_not (et_test (ee_CB (ea_cons (ee_var rfl (ea_cons (ee_ref (ea_nil (rl_isS ⟨_, rfl, ⟨(fun z => by cases z), fun _ => ss_next ?_⟩⟩))))))))))
  refine ss_seq (ss_set (ee_M1 (ee_var rfl ⟨⟨_, rfl⟩, ee_str (rm_split rfl (by omega) ?_)⟩)))
  refine ss_ret (ee_andV (ee_op (ee_CB (ea_cons (ee_var rfl (ea_nil (rl_lenL ?_).rl)))))) 
  rw [List.length_map]
  refine ee_int (ro_le ⟨_, rfl, fun e => ?_, fun e => ?_⟩)
  · refine ee_CB (ea_cons (ee_lc (wi_list (ee_var rfl ⟨_, rfl, lc1 PyData.str .bool (fun _ => true) (by show (Txt.split i dot).length ≤ _; omega) (hno_unk rfl) (fun n hn => ?_) (ea_nil ?_)⟩))))
    · exact ee_call rfl rfl (ea_cons (ee_var rfl (ea_nil ⟨n, rfl, h3 n hn, fun x ex => ⟨rfl, ex⟩⟩)))
    · refine (rl_allM ?_).rl
      simp
  · have : ((Txt.split i dot).length : Int) ≤ 6 := by omega
    exact absurd this (of_decide_eq_false e)
theorem sc_first_overlap : FnScope ["paths", "others", "path", "other"] ["paths", "others"] (defScope sFirstOverlap) := ⟨rfl, rfl, rfl, by decide +kernel, rfl, by decide +kernel, by decide +kernel⟩
theorem ok_first_overlap (W : Wd K mg) : DefOk P w K mg base "first_overlap" ["paths", "others"] 3 (spFst K T) := by
  obtain ⟨f, fd, hm, F⟩ := W.f_first_overlap
  have D_overlap := ok_overlap (P := P) (w := w) (base := base) (T := T) W
  refine ⟨f, fd, hm, F.kp, F.bindsN fun _ _ _ _ _ _ us hl => match us, hl with | [_, _], _ => rfl, F.ok sc_first_overlap (sp_len fun _ => rfl) fun cdv A outer s H vs Q E hr h => ?_⟩
  have nd := sc_first_overlap.nd
  have hu64 := hr.units
  have hu1 := hu_of hr
  refine ⟨_, PSs.nox ((pss_cons (ps_for PassesOwn.never rfl (pi_tupK (K := K) rfl (pv 0)) (pg_name (i := 2) nd rfl (by first | exact Or.inl rfl | exact Or.inr rfl))
    (pss_one (ps_if (pt_cmpR (op_neK (K := K) rfl hu64) (pe_lc (own := [("other", 3)]) rfl nd (pi_tupK (K := K) rfl (pv 1)) (blkOk_by (own := [("other", 3)]) (N := ["paths", "others", "path", "other"]) (sc := defScope sFirstOverlap) (by decide +kernel)) (fun _ _ _ _ _ => (pg_name (i := 3) nd rfl (by first | exact Or.inl rfl | exact Or.inr rfl))) (fun _ _ _ _ _ => (pts_one (pt_val (pe_callD D_overlap (hr.mono (by decide)) rfl (pa_cons (pv 2) (pa_cons (pv 3) pa_nil)))))) (fun _ _ _ _ _ => (pv 3))) (pe_lst pa_nil) (nomark _))
    (pss_one (ps_ret (pv 2)))
    pss_nil)))
    (pss_one (ps_ret pe_non)))), sp_go (fun H0 B0 i hp => ?_) h⟩
  obtain ⟨ps, os⟩ := i
  obtain ⟨h1, h2, h3, h4⟩ := hp
  dsimp only at h1 h2 h3 h4
  refine ss_seq (ss_for (vs := [2]) (wi_tup (ee_var rfl ⟨ps.map .str, rfl, fun j Γ1 => ∃ z, Γ1 = [cV (.val (sE ps)), cV (.val (sE os)), z, .unk], ⟨_, rfl⟩, fun j d Γ1 hd hI => ?_, fun Γ1 hI => ?_⟩)))
  · obtain ⟨z, rfl⟩ := hI
    obtain ⟨p, hp, rfl⟩ := map_get hd
    have hm := List.mem_of_getElem? hp
    refine sg_name (ss_if (et_test (ee_op (ee_lc (wi_tup (ee_var rfl ⟨_, rfl, lc1f PyData.str .str id (fun q => ovl p q) (by omega) (hno_unk rfl) (fun q hq => ?_) ?_⟩)))))) (by simp)
    · refine et_test (ee_call rfl rfl (ea_cons (ee_var rfl (ea_cons (ee_var rfl (ea_nil ⟨(p, q), rfl, ⟨h1 p hm, h2 q hq⟩, fun x ex => ⟨_, ex, rfl, rfl, fun _ => ee_var rfl ⟨rfl, rfl⟩⟩⟩))))))
    · refine ee_lst (ea_nil ⟨[], rfl, by decide, RO1.ro (ro1_neNil ⟨_, rfl, fun e => ?_, fun e => ss_next ⟨_, rfl⟩⟩)⟩)
      have e2 : os.filter (fun q => ovl p q) = [] := List.filter_eq_nil_iff.mpr fun q hq => by rw [h3 p hm q hq]; exact Bool.false_ne_true
      rw [e2] at e
      cases e
  · exact ss_ret (ee_non rfl)
end
end My
end P1_
section P2_
set_option maxHeartbeats 1000000
namespace My
open PySem PySem.Spec PyProof.Rows L2 LamX
inductive Rule where
  | forbid (s t : List Str) (c : Bool)
  | layers (r : List (List Str)) (c : Bool)
  | stairs (r : List (List Str))
  | apart (p : List Str) (c : Bool)
  | only (t u : List Str)
  | face (h : Str) (e : List Str)
  | noring (p : List Str)
  deriving DecidableEq
def howS (c : Bool) : Str := if c then Str.ofString "chain" else Str.ofString "direct"
abbrev rowsE : List (List Str) → PyData := tE sE
def rD : Rule → List PyData
  | .forbid s t c => [.str (Str.ofString "forbid"), sE s, sE t, .str (howS c)]
  | .layers r c => [.str (Str.ofString "layers"), rowsE r, .str (howS c)]
  | .stairs r => [.str (Str.ofString "stairs"), rowsE r]
  | .apart p c => [.str (Str.ofString "apart"), sE p, .str (howS c)]
  | .only t u => [.str (Str.ofString "only"), sE t, sE u]
  | .face h e => [.str (Str.ofString "face"), .str h, sE e]
  | .noring p => [.str (Str.ofString "noring"), sE p]
def rE (r : Rule) : PyData := .tuple (rD r)
def rulePathOk (p : Str) : Prop := pathOk p ∧ (Txt.count p dot : Int) < 4
def rowsOk (r : List (List Str)) : Prop := 2 ≤ r.length ∧ r.length ≤ 5 ∧ ∀ x ∈ r, 1 ≤ x.length ∧ x.length ≤ 4 ∧ ∀ p ∈ x, rulePathOk p
def NoOv (l : List Str) : Prop := l.Pairwise fun a b => ovl b a = false
def par : Rule → List Str
  | .forbid s t _ => s ++ t
  | .layers r _ => r.flatten
  | .stairs r => r.flatten
  | .apart p _ => p
  | .only t u => t ++ u
  | .face _ e => e
  | .noring p => p
def lstOk (n m : Nat) (l : List Str) : Prop := n ≤ l.length ∧ l.length ≤ m ∧ ∀ p ∈ l, rulePathOk p
def RuleOk (r : Rule) : Prop := NoOv (par r) ∧ match r with
  | .forbid s t _ => lstOk 1 6 s ∧ lstOk 1 6 t
  | .layers r _ => rowsOk r
  | .stairs r => rowsOk r
  | .apart p _ => lstOk 2 6 p
  | .only t u => lstOk 1 6 t ∧ lstOk 0 6 u
  | .face h e => rulePathOk h ∧ lstOk 0 6 e ∧ ∀ p ∈ e, cov h p = true ∧ p ≠ h
  | .noring p => lstOk 2 6 p
def isChain : Rule → Bool
  | .forbid _ _ c => c
  | .layers _ c => c
  | .apart _ c => c
  | _ => false
theorem rulePathOk.short {x : Str} (h : rulePathOk x) : ShortS x := h.1.short
abbrev spRPath (K : PySem.W.Frag) (T : List (Addr × Str)) : Sp := SpI K T (fun i : Str => [dS i]) rulePathOk (fun i x => x = dB true)
abbrev spRPaths (K : PySem.W.Frag) (T : List (Addr × Str)) : Sp := SpI K T (fun i : List Str × Nat × Nat => [.val (sE i.1), dI i.2.1, dI i.2.2]) (fun i => lstOk i.2.1 i.2.2 i.1 ∧ i.2.2 ≤ 1000) (fun i x => x = dB true)
abbrev spRows (K : PySem.W.Frag) (T : List (Addr × Str)) : Sp := SpI K T (fun i : List (List Str) => [.val (rowsE i)]) rowsOk (fun i x => x = dB true)
abbrev spPar (K : PySem.W.Frag) (T : List (Addr × Str)) : Sp := SpI K T (fun i : Rule => [.val (rE i)]) RuleOk (fun i x => x = .val (sE (par i)))
abbrev spIsCh (K : PySem.W.Frag) (T : List (Addr × Str)) : Sp := SpI K T (fun i : Rule => [.val (rE i)]) (fun _ => True) (fun i x => x = dB (isChain i))
abbrev spAnyOv (K : PySem.W.Frag) (T : List (Addr × Str)) : Sp := SpI K T (fun i : List Str => [.val (sE i)]) (fun i => NoOv i ∧ (∀ p ∈ i, ShortS p) ∧ i.length ≤ 1000) (fun i x => x = dB false)
def kindS : Rule → Str
  | .forbid _ _ _ => Str.ofString "forbid"
  | .layers _ _ => Str.ofString "layers"
  | .stairs _ => Str.ofString "stairs"
  | .apart _ _ => Str.ofString "apart"
  | .only _ _ => Str.ofString "only"
  | .face _ _ => Str.ofString "face"
  | .noring _ => Str.ofString "noring"
theorem kind_at (r : Rule) : atI (rD r) 0 = some (.str (kindS r)) := by cases r <;> rfl
section
variable {c : Ctx} {Γ : Env'} {P : Dat → Env' → Prop} {r : Rule}
theorem ee_kind {i : Nat} (h : Γ[i]? = some (cV (.val (rE r)))) (k : P (dS (kindS r)) Γ) : EE c (tOp (rIx c.K) (tVar i) (tC (.int 0))) Γ P := ee_op (ee_var h (ee_int (ro_ixT (kind_at r) k)))
theorem ee_item {i n : Nat} {d : PyData} (h : Γ[i]? = some (cV (.val (rE r)))) (hd : (rD r)[n]? = some d) (k : P (.val d) Γ) : EE c (tOp (rIx c.K) (tVar i) (tC (.int (n : Int)))) Γ P := ee_op (ee_var h (ee_int (ro_ixT (atI_nat hd) k)))
theorem ee_keq {i : Nat} {a : Str} (h : Γ[i]? = some (cV (.val (rE r)))) (k : P (dB (decide (kindS r = a))) Γ) : EE c (tOp (rEqX c.K false) (tOp (rIx c.K) (tVar i) (tC (.int 0))) (tC (.str a))) Γ P := ee_op (ee_kind h (ee_str (ro_eqS k)))
theorem ee_kne {i : Nat} {a : Str} (h : Γ[i]? = some (cV (.val (rE r)))) (k : P (dB (!decide (kindS r = a))) Γ) : EE c (tOp (rEqX c.K true) (tOp (rIx c.K) (tVar i) (tC (.int 0))) (tC (.str a))) Γ P := ee_op (ee_kind h (ee_str (ro_neS k)))
theorem ee_kin2 {i : Nat} {a b : Str} (h : Γ[i]? = some (cV (.val (rE r)))) (k : P (dB (decide (kindS r ∈ [a, b]))) Γ) : EE c (tOp (rInX c.K false) (tOp (rIx c.K) (tVar i) (tC (.int 0))) (tTup (tCons (tC (.str a)) (tCons (tC (.str b)) tNil)))) Γ P :=
  ee_op (ee_kind h (ee_tup (ea_cons (ee_str (ea_cons (ee_str (ea_nil ⟨[.str a, .str b], rfl, (by show 2 ≤ 1000000; decide), ro_inE (f := PyData.str) (l := [a, b]) eqe_str (shal_str _) k⟩)))))))
theorem ee_kin3 {i : Nat} {a b d : Str} (h : Γ[i]? = some (cV (.val (rE r)))) (k : P (dB (decide (kindS r ∈ [a, b, d]))) Γ) : EE c (tOp (rInX c.K false) (tOp (rIx c.K) (tVar i) (tC (.int 0))) (tTup (tCons (tC (.str a)) (tCons (tC (.str b)) (tCons (tC (.str d)) tNil))))) Γ P :=
  ee_op (ee_kind h (ee_tup (ea_cons (ee_str (ea_cons (ee_str (ea_cons (ee_str (ea_nil ⟨[.str a, .str b, .str d], rfl, (by show 3 ≤ 1000000; decide), ro_inE (f := PyData.str) (l := [a, b, d]) eqe_str (shal_str _) k⟩)))))))))
theorem ru_neg {c : Ctx} {i : Int} {P : Dat → Prop} (k : P (dI (-i))) : RU' c (L2.rU fun i => .int (-i)) (dI i) P := fun B H v C d Q q => by
  cases d
  exact ⟨i, rfl, q _ B H (dI (-i)) (Step.refl C) (Dp.int _) k⟩
end
theorem nft {α : Prop} (e : false = true) : α := Bool.noConfusion e
theorem ntf {α : Prop} (e : true = false) : α := Bool.noConfusion e
theorem dec2 {a b x : Str} : decide (x ∈ [a, b]) = (decide (x = a) || decide (x = b)) := by simp
theorem dec3 {a b d x : Str} : decide (x ∈ [a, b, d]) = (decide (x = a) || (decide (x = b) || decide (x = d))) := by simp
section
variable {P : Program} {w : World} {K : PySem.W.Frag} {mg : Str → Option Value} {base : Heap} {T : List (Addr × Str)}
theorem sc_is_rule_path : FnScope ["value"] ["value"] (defScope sIsRulePath) := ⟨rfl, rfl, rfl, by decide +kernel, rfl, by decide +kernel, by decide +kernel⟩
theorem ok_is_rule_path (W : Wd K mg) : DefOk P w K mg base "is_rule_path" ["value"] 3 (spRPath K T) := by
  obtain ⟨f, fd, hm, F⟩ := W.f_is_rule_path
  have D_is_path := ok_is_path (P := P) (w := w) (base := base) (T := T) W
  refine ⟨f, fd, hm, F.kp, F.bindsN fun _ _ _ _ _ _ us hl => match us, hl with | [_], _ => rfl, F.ok sc_is_rule_path (sp_len fun _ => rfl) fun cdv A outer s H vs Q E hr h => ?_⟩
  have nd := sc_is_rule_path.nd
  have hu64 := hr.units
  have hu1 := hu_of hr
  refine ⟨_, PSs.nox ((pss_one (ps_ret (pe_and (pe_callD D_is_path (hr.mono (by decide)) rfl (pa_cons (pv 0) pa_nil)) (pe_one (pe_cmpR op_lt (pe_m1 PySem.F.slot_str_count PySem.F.type_str_count mt_count (pv 0) pe_str) (pe_glob (v := .int 4) rfl W.c_MAX_RULE_NAMES.choose_spec ⟨_, rfl⟩) (nomark _))))))), sp_go (fun H0 B0 i hp => ?_) h⟩
  refine ss_ret (ee_andV (ee_call rfl rfl (ea_cons (ee_var rfl (ea_nil ⟨i, rfl, hp.1, fun x ex => ⟨_, ex, fun _ => ?_, fun z => by cases z⟩⟩)))))
  refine ee_op (ee_M1 (ee_var rfl ⟨⟨_, rfl⟩, ee_str (rm_count (ee_int (ro_lt ?_)))⟩))
  show dB _ = dB true
  have q : Txt.count i (Str.ofString ".") < 4 := hp.2
  rw [decide_eq_true q]
theorem sc_are_rule_paths : FnScope ["value", "least", "most", "path"] ["value", "least", "most"] (defScope sAreRulePaths) := ⟨rfl, rfl, rfl, by decide +kernel, rfl, by decide +kernel, by decide +kernel⟩
theorem ok_are_rule_paths (W : Wd K mg) : DefOk P w K mg base "are_rule_paths" ["value", "least", "most"] 4 (spRPaths K T) := by
  obtain ⟨f, fd, hm, F⟩ := W.f_are_rule_paths
  have D_is_rule_path := ok_is_rule_path (P := P) (w := w) (base := base) (T := T) W
  refine ⟨f, fd, hm, F.kp, F.bindsN fun _ _ _ _ _ _ us hl => match us, hl with | [_, _, _], _ => rfl, F.ok sc_are_rule_paths (sp_len fun _ => rfl) fun cdv A outer s H vs Q E hr h => ?_⟩
  have nd := sc_are_rule_paths.nd
  have hu64 := hr.units
  have hu1 := hu_of hr
  refine ⟨_, PSs.nox ((pss_cons (ps_if (PW.pt (pw_or (pt_not (pt_val (pe_callB (cr_isiK (K := K) rfl) rfl W.b_isinstance boot_isinstance (pa_cons (pv 0) (pa_cons (pe_bltn (v := .ty "tuple") rfl W.b_tuple boot_tuple rfl) pa_nil))))) (pw_or1 (pt_not (pt_chain op_le op_le (pv 1) (pe_callB (cr_lenK (K := K) rfl) rfl W.b_len boot_len (pa_cons (pv 0) pa_nil)) (pv 2))))))
    (pss_one (ps_ret pe_bl))
    pss_nil)
    (pss_one (ps_ret (pe_callB (cr_allK (K := K) rfl rfl) rfl W.b_all boot_all (pa_cons (pe_lc (own := [("path", 3)]) rfl nd (pi_tupK (K := K) rfl (pv 0)) (blkOk_by (own := [("path", 3)]) (N := ["value", "least", "most", "path"]) (sc := defScope sAreRulePaths) (by decide +kernel)) (fun _ _ _ _ _ => (pg_name (i := 3) nd rfl (by first | exact Or.inl rfl | exact Or.inr rfl))) (fun _ _ _ _ _ => pts_nil) (fun _ _ _ _ _ => (pe_callD D_is_rule_path (hr.mono (by decide)) rfl (pa_cons (pv 3) pa_nil)))) pa_nil)))))), sp_go (fun H0 B0 i hp => ?_) h⟩
  obtain ⟨ps, a, b⟩ := i
  obtain ⟨⟨h1, h2, h3⟩, h4⟩ := hp
  dsimp only at h1 h2 h3 h4
  refine ss_seq (ss_if (et_or (et_not (et_test (ee_CB (ea_cons (ee_var rfl (ea_cons (ee_ref (ea_nil (rl_isT ⟨_, rfl, ⟨(fun z => by cases z), fun _ => ?_⟩⟩)))))))))))
  refine et_not (et_test (ee_chain (ee_var rfl (ee_CB (ea_cons (ee_var rfl (ea_nil (rl_lenT (ro_le ⟨_, rfl, fun e => ?_, fun e => ?_⟩)))))))))
  · refine ee_var rfl (ro_le ⟨_, rfl, ⟨fun e2 => ?_, fun e2 => ss_next ?_⟩⟩)
    · rw [List.length_map] at e2
      have : (ps.length : Int) ≤ b := by omega
      rw [decide_eq_true this] at e2
      cases e2
    · refine ss_ret (ee_CB (ea_cons (ee_lc (wi_tup (ee_var rfl ⟨_, rfl, lc1 PyData.str .bool (fun _ => true) (by show ps.length ≤ _; omega) (hno_unk rfl) (fun n hn => ?_) (ea_nil ?_)⟩)))))
      · exact ee_call rfl rfl (ea_cons (ee_var rfl (ea_nil ⟨n, rfl, h3 n hn, fun x ex => ⟨rfl, ex⟩⟩)))
      · refine (rl_allM ?_).rl
        simp
  · rw [List.length_map] at e
    have : (a : Int) ≤ ps.length := by omega
    rw [decide_eq_true this] at e
    cases e
theorem sc_are_rows : FnScope ["value", "row"] ["value"] (defScope sAreRows) := ⟨rfl, rfl, rfl, by decide +kernel, rfl, by decide +kernel, by decide +kernel⟩
theorem ok_are_rows (W : Wd K mg) : DefOk P w K mg base "are_rows" ["value"] 5 (spRows K T) := by
  obtain ⟨f, fd, hm, F⟩ := W.f_are_rows
  have D_are_rule_paths := ok_are_rule_paths (P := P) (w := w) (base := base) (T := T) W
  refine ⟨f, fd, hm, F.kp, F.bindsN fun _ _ _ _ _ _ us hl => match us, hl with | [_], _ => rfl, F.ok sc_are_rows (sp_len fun _ => rfl) fun cdv A outer s H vs Q E hr h => ?_⟩
  have nd := sc_are_rows.nd
  have hu64 := hr.units
  have hu1 := hu_of hr
  refine ⟨_, PSs.nox ((pss_cons (ps_if (PW.pt (pw_or (pt_not (pt_val (pe_callB (cr_isiK (K := K) rfl) rfl W.b_isinstance boot_isinstance (pa_cons (pv 0) (pa_cons (pe_bltn (v := .ty "tuple") rfl W.b_tuple boot_tuple rfl) pa_nil))))) (pw_or1 (pt_not (pt_chain op_le op_le pe_int (pe_callB (cr_lenK (K := K) rfl) rfl W.b_len boot_len (pa_cons (pv 0) pa_nil)) pe_int)))))
    (pss_one (ps_ret pe_bl))
    pss_nil)
    (pss_one (ps_ret (pe_callB (cr_allK (K := K) rfl rfl) rfl W.b_all boot_all (pa_cons (pe_lc (own := [("row", 1)]) rfl nd (pi_tupK (K := K) rfl (pv 0)) (blkOk_by (own := [("row", 1)]) (N := ["value", "row"]) (sc := defScope sAreRows) (by decide +kernel)) (fun _ _ _ _ _ => (pg_name (i := 1) nd rfl (by first | exact Or.inl rfl | exact Or.inr rfl))) (fun _ _ _ _ _ => pts_nil) (fun _ _ _ _ _ => (pe_callD D_are_rule_paths (hr.mono (by decide)) rfl (pa_cons (pv 1) (pa_cons pe_int (pa_cons pe_int pa_nil)))))) pa_nil)))))), sp_go (fun H0 B0 i hp => ?_) h⟩
  obtain ⟨h1, h2, h3⟩ := hp
  refine ss_seq (ss_if (et_or (et_not (et_test (ee_CB (ea_cons (ee_var rfl (ea_cons (ee_ref (ea_nil (rl_isT ⟨_, rfl, ⟨(fun z => by cases z), fun _ => ?_⟩⟩)))))))))))
  refine et_not (et_test (ee_chain (ee_int (ee_CB (ea_cons (ee_var rfl (ea_nil (rl_lenT (ro_le ⟨_, rfl, fun e => ?_, fun e => ?_⟩)))))))))
  · refine ee_int (ro_le ⟨_, rfl, ⟨fun e2 => ?_, fun e2 => ss_next ?_⟩⟩)
    · rw [List.length_map] at e2
      have : (i.length : Int) ≤ 5 := by omega
      rw [decide_eq_true this] at e2
      cases e2
    · refine ss_ret (ee_CB (ea_cons (ee_lc (wi_tup (ee_var rfl ⟨_, rfl, lc1 sE .bool (fun _ => true) (by omega) (hno_unk rfl) (fun n hn => ?_) (ea_nil ?_)⟩)))))
      · exact ee_call rfl rfl (ea_cons (ee_var rfl (ea_cons (ee_int (ea_cons (ee_int (ea_nil ⟨(n, 1, 4), rfl, ⟨h3 n hn, (by show 4 ≤ 1000; decide)⟩, fun x ex => ⟨rfl, ex⟩⟩)))))))
      · refine (rl_allM ?_).rl
        simp
  · rw [List.length_map] at e
    have : (2 : Int) ≤ i.length := by omega
    rw [decide_eq_true this] at e
    cases e
theorem sc_is_chained : FnScope ["rule"] ["rule"] (defScope sIsChained) := ⟨rfl, rfl, rfl, by decide +kernel, rfl, by decide +kernel, by decide +kernel⟩
theorem ok_is_chained (W : Wd K mg) : DefOk P w K mg base "is_chained" ["rule"] 1 (spIsCh K T) := by
  obtain ⟨f, fd, hm, F⟩ := W.f_is_chained
  refine ⟨f, fd, hm, F.kp, F.bindsN fun _ _ _ _ _ _ us hl => match us, hl with | [_], _ => rfl, F.ok sc_is_chained (sp_len fun _ => rfl) fun cdv A outer s H vs Q E hr h => ?_⟩
  have nd := sc_is_chained.nd
  have hu64 := hr.units
  have hu1 := hu_of hr
  refine ⟨_, PSs.nox ((pss_one (ps_ret (pe_and (pe_cmpR (op_inK (K := K) rfl hu64) (pe_ix (ix_seqK (K := K) rfl) (pv 0) pe_int (fun _ _ => rfl)) (pe_tup (pa_cons pe_str (pa_cons pe_str (pa_cons pe_str pa_nil)))) (by rfl)) (pe_one (pe_cmpR (op_eqK (K := K) rfl hu64) (pe_ix (ix_seqK (K := K) rfl) (pv 0) (pe_un un_neg pe_int) (fun _ _ => rfl)) pe_str (nomark _))))))), sp_go (fun H0 B0 i hp => ?_) h⟩
  refine ss_ret (ee_andV (ee_kin3 rfl ⟨_, rfl, fun e => ?_, fun e => ?_⟩))
  · refine ee_op (ee_op (ee_var rfl (ee_un (ee_int (ru_neg ?_)))))
    cases i with
    | forbid s t c => exact ro_ixT (d := .str (howS c)) rfl (ee_str (ro_eqS (by cases c <;> rfl)))
    | layers r c => exact ro_ixT (d := .str (howS c)) rfl (ee_str (ro_eqS (by cases c <;> rfl)))
    | apart p c => exact ro_ixT (d := .str (howS c)) rfl (ee_str (ro_eqS (by cases c <;> rfl)))
    | stairs r => exact nft e
    | only t u => exact nft e
    | face h x => exact nft e
    | noring p => exact nft e
  · cases i with
    | forbid s t c => exact ntf e
    | layers r c => exact ntf e
    | apart p c => exact ntf e
    | stairs r => rfl
    | only t u => rfl
    | face h x => rfl
    | noring p => rfl
theorem sc_parallel_paths : FnScope ["rule", "row", "path"] ["rule"] (defScope sParallelPaths) := ⟨rfl, rfl, rfl, by decide +kernel, rfl, by decide +kernel, by decide +kernel⟩
theorem ok_parallel_paths (W : Wd K mg) : DefOk P w K mg base "parallel_paths" ["rule"] 1 (spPar K T) := by
  obtain ⟨f, fd, hm, F⟩ := W.f_parallel_paths
  refine ⟨f, fd, hm, F.kp, F.bindsN fun _ _ _ _ _ _ us hl => match us, hl with | [_], _ => rfl, F.ok sc_parallel_paths (sp_len fun _ => rfl) fun cdv A outer s H vs Q E hr h => ?_⟩
  have nd := sc_parallel_paths.nd
  have hu64 := hr.units
  have hu1 := hu_of hr
  refine ⟨_, PSs.nox ((pss_cons (ps_if (pt_cmpR (op_inK (K := K) rfl hu64) (pe_ix (ix_seqK (K := K) rfl) (pv 0) pe_int (fun _ _ => rfl)) (pe_tup (pa_cons pe_str (pa_cons pe_str pa_nil))) (by rfl))
    (pss_one (ps_ret (pe_callTy (cr_tupK (K := K) rfl) rfl W.b_tuple boot_tuple (pa_cons (pe_lc2 (own := [("row", 1), ("path", 2)]) (vs1 := [2]) rfl nd (pi_tupK (K := K) rfl (pe_ix (ix_seqK (K := K) rfl) (pv 0) pe_int (fun _ _ => rfl))) (blkOk_by (own := [("row", 1), ("path", 2)]) (N := ["rule", "row", "path"]) (sc := defScope sParallelPaths) (by decide +kernel)) (by decide) (fun _ _ _ _ _ => (pg_name (i := 1) nd rfl (by first | exact Or.inl rfl | exact Or.inr rfl))) (fun _ _ _ _ _ => pts_nil) (fun _ _ _ _ _ => (pi_tupK (K := K) rfl (pv 1))) (fun _ _ _ _ _ => (pg_name (i := 2) nd rfl (by first | exact Or.inl rfl | exact Or.inr rfl))) (fun _ _ _ _ _ => pts_nil) (fun _ _ _ _ _ => (pv 2))) pa_nil))))
    pss_nil)
    (pss_cons (ps_if (pt_cmpR (op_inK (K := K) rfl hu64) (pe_ix (ix_seqK (K := K) rfl) (pv 0) pe_int (fun _ _ => rfl)) (pe_tup (pa_cons pe_str (pa_cons pe_str pa_nil))) (by rfl))
    (pss_one (ps_ret (pe_op (op_addK (K := K) rfl) (pe_ix (ix_seqK (K := K) rfl) (pv 0) pe_int (fun _ _ => rfl)) (pe_ix (ix_seqK (K := K) rfl) (pv 0) pe_int (fun _ _ => rfl)))))
    pss_nil)
    (pss_one (ps_ret (pe_ifExp (pt_cmpR (op_eqK (K := K) rfl hu64) (pe_ix (ix_seqK (K := K) rfl) (pv 0) pe_int (fun _ _ => rfl)) pe_str (nomark _)) (pe_ix (ix_seqK (K := K) rfl) (pv 0) pe_int (fun _ _ => rfl)) (pe_ix (ix_seqK (K := K) rfl) (pv 0) pe_int (fun _ _ => rfl)))))))), sp_go (fun H0 B0 i hp => ?_) h⟩
  have rows : ∀ {r : List (List Str)}, rowsOk r → r.flatten.length ≤ 900000 := fun {r} ⟨_, h2, h3⟩ => by
    have : ∀ l : List (List Str), (∀ x ∈ l, x.length ≤ 4) → l.flatten.length ≤ 4 * l.length := fun l => by
      induction l with
      | nil => intro _; simp
      | cons x l ih =>
        intro h
        rw [List.flatten_cons, List.length_append, List.length_cons]
        have h1 := h x (by simp)
        have h2 := ih fun y hy => h y (by simp [hy])
        omega
    have := this r fun x hx => (h3 x hx).2.1
    omega
  refine ss_seq (ss_if (et_test (ee_kin2 rfl ⟨_, rfl, fun e => ?_, fun e => ss_next ?_⟩)))
  · cases i with
    | layers r c =>
      refine ss_ret (ee_CB (ea_cons (ee_lc2 (by decide) (by show 1 < 3; decide) (by show 2 < 3; decide) (ee_item (n := 1) (r := .layers r c) rfl rfl ⟨r.map fun x => x.map .str, (by show Dat.val (.tuple _) = .val (.tuple _); rw [List.map_map]; rfl), (by rw [← List.map_flatten, List.length_map]; exact rows hp.2), ea_nil (RL1.rl (rl_tupL ?_))⟩))))
      rw [← List.map_flatten]
      rfl
    | stairs r =>
      refine ss_ret (ee_CB (ea_cons (ee_lc2 (by decide) (by show 1 < 3; decide) (by show 2 < 3; decide) (ee_item (n := 1) (r := .stairs r) rfl rfl ⟨r.map fun x => x.map .str, (by show Dat.val (.tuple _) = .val (.tuple _); rw [List.map_map]; rfl), (by rw [← List.map_flatten, List.length_map]; exact rows hp.2), ea_nil (RL1.rl (rl_tupL ?_))⟩))))
      rw [← List.map_flatten]
      rfl
    | forbid s t c => exact nft e
    | apart p c => exact nft e
    | only t u => exact nft e
    | face h x => exact nft e
    | noring p => exact nft e
  · refine ss_seq (ss_if (et_test (ee_kin2 rfl ⟨_, rfl, fun e2 => ?_, fun e2 => ss_next ?_⟩)))
    · cases i with
      | forbid s t c =>
        obtain ⟨_, h1, h2⟩ := hp
        refine ss_ret (ee_op (ee_item (n := 1) (r := .forbid s t c) rfl rfl (ee_item (n := 2) (r := .forbid s t c) rfl rfl (ro_catT (by rw [List.length_map, List.length_map]; have := h1.2.1; have := h2.2.1; omega) ?_))))
        rw [← List.map_append]
        rfl
      | only s t =>
        obtain ⟨_, h1, h2⟩ := hp
        refine ss_ret (ee_op (ee_item (n := 1) (r := .only s t) rfl rfl (ee_item (n := 2) (r := .only s t) rfl rfl (ro_catT (by rw [List.length_map, List.length_map]; have := h1.2.1; have := h2.2.1; omega) ?_))))
        rw [← List.map_append]
        rfl
      | layers r c => exact nft e2
      | stairs r => exact nft e2
      | apart p c => exact nft e2
      | face h x => exact nft e2
      | noring p => exact nft e2
    · refine ss_ret (ee_if (et_test (ee_keq rfl ⟨_, rfl, fun e3 => ?_, fun e3 => ?_⟩)))
      · cases i with
        | face h x => exact ee_item (n := 2) (r := .face h x) rfl rfl rfl
        | layers r c => exact nft e3
        | stairs r => exact nft e3
        | apart p c => exact nft e3
        | forbid s t c => exact nft e3
        | only s t => exact nft e3
        | noring p => exact nft e3
      · cases i with
        | apart p c => exact ee_item (n := 1) (r := .apart p c) rfl rfl rfl
        | noring p => exact ee_item (n := 1) (r := .noring p) rfl rfl rfl
        | layers r c => exact ntf e
        | stairs r => exact ntf e
        | forbid s t c => exact ntf e2
        | only s t => exact ntf e2
        | face h x => exact ntf e3
theorem sc_any_overlap : FnScope ["paths", "index", "path"] ["paths"] (defScope sAnyOverlap) := ⟨rfl, rfl, rfl, by decide +kernel, rfl, by decide +kernel, by decide +kernel⟩
theorem ok_any_overlap (W : Wd K mg) : DefOk P w K mg base "any_overlap" ["paths"] 3 (spAnyOv K T) := by
  obtain ⟨f, fd, hm, F⟩ := W.f_any_overlap
  have D_overlap := ok_overlap (P := P) (w := w) (base := base) (T := T) W
  refine ⟨f, fd, hm, F.kp, F.bindsN fun _ _ _ _ _ _ us hl => match us, hl with | [_], _ => rfl, F.ok sc_any_overlap (sp_len fun _ => rfl) fun cdv A outer s H vs Q E hr h => ?_⟩
  have nd := sc_any_overlap.nd
  have hu64 := hr.units
  have hu1 := hu_of hr
  refine ⟨_, PSs.nox ((pss_cons (ps_for PassesOwn.never rfl (pi_range1 rfl W.b_range (pa_cons (pe_callB (cr_lenK (K := K) rfl) rfl W.b_len boot_len (pa_cons (pv 0) pa_nil)) pa_nil)) (pg_name (i := 1) nd rfl (by first | exact Or.inl rfl | exact Or.inr rfl))
    (pss_one (ps_if (pt_val (pe_callB (cr_anyK (K := K) rfl rfl) rfl W.b_any boot_any (pa_cons (pe_lc (own := [("path", 2)]) rfl nd (pi_tupK (K := K) rfl (pe_slice (sl_tupK (K := K) rfl) (pv 0) po_none (po_some (pv 1)))) (blkOk_by (own := [("path", 2)]) (N := ["paths", "index", "path"]) (sc := defScope sAnyOverlap) (by decide +kernel)) (fun _ _ _ _ _ => (pg_name (i := 2) nd rfl (by first | exact Or.inl rfl | exact Or.inr rfl))) (fun _ _ _ _ _ => pts_nil) (fun _ _ _ _ _ => (pe_callD D_overlap (hr.mono (by decide)) rfl (pa_cons (pe_ix (ix_seqK (K := K) rfl) (pv 0) (pv 1) (fun _ _ => rfl)) (pa_cons (pv 2) pa_nil))))) pa_nil)))
    (pss_one (ps_ret pe_bl))
    pss_nil)))
    (pss_one (ps_ret pe_bl)))), sp_go (fun H0 B0 i hp => ?_) h⟩
  obtain ⟨h1, h2, h3⟩ := hp
  refine ss_seq (ss_for (vs := [1]) (wi_rng1 (ea_cons (ee_CB (ea_cons (ee_var rfl (ea_nil (rl_lenT (ea_nil ⟨i.length, by omega, by rw [List.length_map], fun j Γ1 => ∃ z, Γ1 = [cV (.val (sE i)), z, .unk], ⟨_, rfl⟩, fun j d Γ1 hd hI => ?_, fun Γ1 hI => ss_ret (ee_bl rfl)⟩)))))))))
  obtain ⟨z, rfl⟩ := hI
  obtain ⟨k, hk, rfl⟩ : ∃ k : Nat, k < i.length ∧ d = .int (k : Int) := by
    rw [List.getElem?_map] at hd
    cases e : (List.range i.length)[j]? with
    | none => rw [e] at hd; cases hd
    | some k =>
      rw [e] at hd
      have := List.mem_of_getElem? e
      exact ⟨k, by simpa using this, (Option.some.inj hd).symm⟩
  refine sg_name (ss_if <| et_test <| ee_CB <| ea_cons <| ee_lc <| wi_tup <| ee_sl <| ee_var rfl <| eo_none <| eo_some <| ee_var rfl ⟨(k : Int), rfl, ru_slT ?_ ⟨(i.take k).map .str, ?_, lc1 PyData.str .bool (fun p => ovl (i[k]'hk) p) (by rw [List.length_take]; omega) (hno_unk rfl) (fun q hq => ?_) (ea_nil (RL1.rl (rl_anyM ⟨_, rfl, fun e => ?_, fun e => ss_next ⟨_, rfl⟩⟩)))⟩⟩) (by simp)
  · rw [List.length_map]
    rintro ⟨_, h5⟩
    rw [HT.sIx_nat] at h5
    omega
  · show Dat.val (.tuple _) = .val (.tuple _)
    rw [cutD_to, List.map_take]
  · refine ee_call rfl rfl (ea_cons (ee_op (ee_var rfl (ee_var rfl (ro_ixT (d := .str (i[k]'hk)) (atI_nat (by rw [List.getElem?_map, List.getElem?_eq_getElem hk]; rfl)) (ea_cons (ee_var rfl (ea_nil ⟨(i[k]'hk, q), rfl, ⟨h2 _ (List.getElem_mem hk), h2 _ (List.mem_of_mem_take hq)⟩, fun x ex => ⟨rfl, ex⟩⟩))))))))
  · obtain ⟨q, hq, eq⟩ := List.any_eq_true.mp e
    have hov : ovl q (i[k]'hk) = false := by
      have osym : ∀ a b, ovl a b = ovl b a := fun a b => Bool.or_comm ..
      obtain ⟨a, ha⟩ := List.mem_iff_getElem?.mp hq
      have ha2 : a < k := by
        have := (List.getElem?_eq_some_iff.mp ha).1
        rw [List.length_take] at this
        omega
      rw [List.getElem?_take] at ha
      rw [if_pos ha2] at ha
      obtain ⟨ha3, ha4⟩ := List.getElem?_eq_some_iff.mp ha
      have := (List.pairwise_iff_getElem.mp h1) a k ha3 hk ha2
      rw [ha4] at this
      first
        | exact this
        | (rw [osym]; exact this)
    unfold ovl at eq hov
    rw [Bool.or_comm] at hov
    rw [hov] at eq
    cases eq
end
end My
end P2_
section P3_
set_option maxHeartbeats 1000000
namespace My
open PySem PySem.Spec PyProof.Rows L2 LamX
/-- the first row that covers it, with the path -/
def rowFrom : List (List Str) → Str → Nat → Option (Nat × Str)
  | [], _, _ => none
  | r :: rs, m, n => match home r m with
    | some p => some (n, p)
    | none => rowFrom rs m (n + 1)
def rowAt (rows : List (List Str)) (m : Str) : Option (Nat × Str) := rowFrom rows m 0
theorem rowFrom_hit : ∀ {rows : List (List Str)} {m : Str} {n j : Nat} {row : List Str} {p : Str}, (∀ x ∈ rows.take j, home x m = none) → rows[j]? = some row → home row m = some p → rowFrom rows m n = some (n + j, p)
  | [], _, _, _, _, _, _, h, _ => by simp at h
  | r :: rs, m, n, 0, row, p, _, h, hp => by
    simp at h
    subst h
    unfold rowFrom
    rw [hp]
    rfl
  | r :: rs, m, n, j + 1, row, p, h0, h, hp => by
    have e : home r m = none := h0 r (by simp)
    unfold rowFrom
    rw [e]
    have q := rowFrom_hit (rows := rs) (n := n + 1) (j := j) (fun x hx => h0 x (by simp [hx])) (by simpa using h) hp
    dsimp only
    rw [q]
    have : n + 1 + j = n + (j + 1) := by omega
    rw [this]
theorem rowFrom_none : ∀ {rows : List (List Str)} {m : Str} {n : Nat}, (∀ x ∈ rows, home x m = none) → rowFrom rows m n = none
  | [], _, _, _ => rfl
  | r :: rs, m, n, h => by
    unfold rowFrom
    rw [h r (by simp)]
    exact rowFrom_none fun x hx => h x (by simp [hx])
theorem rowAt_hit {rows : List (List Str)} {m : Str} {j : Nat} {row : List Str} {p : Str} (h : ∀ x ∈ rows.take j, home x m = none) (e : rows[j]? = some row) (hp : home row m = some p) : rowAt rows m = some (j, p) := by
  unfold rowAt
  rw [rowFrom_hit h e hp, Nat.zero_add]
def pl1 : Rule → Str → PyData
  | .forbid s _ _, m => oE .str (home s m)
  | .only t _, m => oE .str (home t m)
  | .face h _, m => oE .str (home [h] m)
  | .layers r _, m => oE (fun x : Nat × Str => .int (x.1 : Nat)) (rowAt r m)
  | .stairs r, m => oE (fun x : Nat × Str => .int (x.1 : Nat)) (rowAt r m)
  | .apart _ _, _ => .none
  | .noring _, _ => .none
def pl2 : Rule → Str → Option Str
  | .forbid _ t _, m => home t m
  | .only _ u, m => home u m
  | .face _ e, m => home e m
  | .layers r _, m => (rowAt r m).map (·.2)
  | .stairs r, m => (rowAt r m).map (·.2)
  | .apart p _, m => home p m
  | .noring p, m => home p m
def plD (r : Rule) (m : Str) : PyData := .tuple [pl1 r m, oE .str (pl2 r m)]
def layB : Option (Nat × Str) → Option (Nat × Str) → Bool
  | some x, some y => !decide (x.2 = y.2) && decide (y.1 ≤ x.1)
  | some _, none => false
  | none, _ => false
def staB : Option (Nat × Str) → Option (Nat × Str) → Bool
  | some x, some y => !decide (y.1 = x.1 ∨ y.1 = x.1 + 1)
  | some _, none => false
  | none, _ => false
def difB : Option Str → Option Str → Bool
  | some x, some y => !decide (x = y)
  | some _, none => false
  | none, _ => false
def barred : Rule → Str → Str → Bool
  | .forbid s t _, a, b => (home s a).isSome && (home t b).isSome
  | .only t u, a, b => (home t b).isSome && (!decide (home t a = home t b) && (home u a).isNone)
  | .face h e, a, b => (home [h] b).isSome && ((home [h] a).isNone && (home e b).isNone)
  | .layers r _, a, b => layB (rowAt r a) (rowAt r b)
  | .stairs r, a, b => staB (rowAt r a) (rowAt r b)
  | .apart p _, a, b => difB (home p a) (home p b)
  | .noring _, _, _ => false
def isRing : Rule → Bool
  | .noring _ => true
  | _ => false
theorem isNo_oS (o : Option Str) : isNo (oE .str o) = o.isNone := by cases o <;> rfl
theorem eqe_oS : EqE (oE PyData.str) := fun x y => by
  cases x with
  | none => cases y with
    | none => rfl
    | some b => rfl
  | some a => cases y with
    | none => rfl
    | some b =>
      show PyData.eqv (.str a) (.str b) = _
      rw [eqe_str]
      by_cases e : a = b <;> simp [e]
theorem shal_oS (o : Option Str) : Shal (oE .str o) := by
  cases o with
  | none => show Shal .none; unfold Shal; rw [PyData.depth]; omega
  | some x => exact shal_str x
theorem shal_int (i : Int) : Shal (.int i) := by unfold Shal; rw [PyData.depth]; omega
theorem home_mem {ps : List Str} {m p : Str} (h : home ps m = some p) : p ∈ ps ∧ cov p m = true := ⟨List.mem_of_find?_eq_some h, by have := List.find?_some h; exact this⟩
theorem RuleOk.par_short {r : Rule} (h : RuleOk r) : ∀ p ∈ par r, ShortS p := by
  obtain ⟨_, h⟩ := h
  cases r with
  | forbid s t c =>
    intro p hp
    rcases List.mem_append.mp hp with q | q
    · exact (h.1.2.2 p q).short
    · exact (h.2.2.2 p q).short
  | only s t =>
    intro p hp
    rcases List.mem_append.mp hp with q | q
    · exact (h.1.2.2 p q).short
    · exact (h.2.2.2 p q).short
  | layers r c =>
    intro p hp
    obtain ⟨x, hx, hp⟩ := List.mem_flatten.mp hp
    exact ((h.2.2 x hx).2.2 p hp).short
  | stairs r =>
    intro p hp
    obtain ⟨x, hx, hp⟩ := List.mem_flatten.mp hp
    exact ((h.2.2 x hx).2.2 p hp).short
  | apart p c => exact fun q hq => (h.2.2 q hq).short
  | face x e => exact fun q hq => (h.2.1.2.2 q hq).short
  | noring p => exact fun q hq => (h.2.2 q hq).short
abbrev spPlace (K : PySem.W.Frag) (T : List (Addr × Str)) : Sp := SpI K T (fun i : Rule × Str => [.val (rE i.1), dS i.2]) (fun i => RuleOk i.1 ∧ ShortS i.2) (fun i x => x = .val (plD i.1 i.2))
abbrev spBarred (K : PySem.W.Frag) (T : List (Addr × Str)) : Sp := SpI K T (fun i : Rule × Str × Str => [.val (rE i.1), .val (plD i.1 i.2.1), .val (plD i.1 i.2.2)]) (fun i => isRing i.1 = false) (fun i x => x = dB (barred i.1 i.2.1 i.2.2))
section
variable {c : Ctx} {Γ : Env'} {P : Dat → Env' → Prop} {r : Rule} {m : Str}
theorem ee_pl1 {i : Nat} (h : Γ[i]? = some (cV (.val (plD r m)))) (k : P (.val (pl1 r m)) Γ) : EE c (tOp (rIx c.K) (tVar i) (tC (.int 0))) Γ P := ee_op (ee_var h (ee_int (ro_ixT (d := pl1 r m) rfl k)))
theorem ee_pl2 {i : Nat} (h : Γ[i]? = some (cV (.val (plD r m)))) (k : P (.val (oE .str (pl2 r m))) Γ) : EE c (tOp (rIx c.K) (tVar i) (tC (.int 1))) Γ P := ee_op (ee_var h (ee_int (ro_ixT (d := oE .str (pl2 r m)) rfl k)))
end
section
variable {P : Program} {w : World} {K : PySem.W.Frag} {mg : Str → Option Value} {base : Heap} {T : List (Addr × Str)}
theorem sc_place_of : FnScope ["rule", "module", "index", "row", "path"] ["rule", "module"] (defScope sPlaceOf) := ⟨rfl, rfl, rfl, by decide +kernel, rfl, by decide +kernel, by decide +kernel⟩
theorem ok_place_of (W : Wd K mg) : DefOk P w K mg base "place_of" ["rule", "module"] 3 (spPlace K T) := by
  obtain ⟨f, fd, hm, F⟩ := W.f_place_of
  have D_covered := ok_covered (P := P) (w := w) (base := base) (T := T) W
  refine ⟨f, fd, hm, F.kp, F.bindsN fun _ _ _ _ _ _ us hl => match us, hl with | [_, _], _ => rfl, F.ok sc_place_of (sp_len fun _ => rfl) fun cdv A outer s H vs Q E hr h => ?_⟩
  have nd := sc_place_of.nd
  have hu64 := hr.units
  have hu1 := hu_of hr
  refine ⟨_, PSs.nox ((pss_cons (ps_if (pt_cmpR (op_inK (K := K) rfl hu64) (pe_ix (ix_seqK (K := K) rfl) (pv 0) pe_int (fun _ _ => rfl)) (pe_tup (pa_cons pe_str (pa_cons pe_str pa_nil))) (by rfl))
    (pss_one (ps_ret (pe_tup (pa_cons (pe_callD D_covered (hr.mono (by decide)) rfl (pa_cons (pe_ix (ix_seqK (K := K) rfl) (pv 0) pe_int (fun _ _ => rfl)) (pa_cons (pv 1) pa_nil))) (pa_cons (pe_callD D_covered (hr.mono (by decide)) rfl (pa_cons (pe_ix (ix_seqK (K := K) rfl) (pv 0) pe_int (fun _ _ => rfl)) (pa_cons (pv 1) pa_nil))) pa_nil)))))
    pss_nil)
    (pss_cons (ps_if (pt_cmpR (op_eqK (K := K) rfl hu64) (pe_ix (ix_seqK (K := K) rfl) (pv 0) pe_int (fun _ _ => rfl)) pe_str (nomark _))
    (pss_one (ps_ret (pe_tup (pa_cons (pe_callD D_covered (hr.mono (by decide)) rfl (pa_cons (pe_tup (pa_cons (pe_ix (ix_seqK (K := K) rfl) (pv 0) pe_int (fun _ _ => rfl)) pa_nil)) (pa_cons (pv 1) pa_nil))) (pa_cons (pe_callD D_covered (hr.mono (by decide)) rfl (pa_cons (pe_ix (ix_seqK (K := K) rfl) (pv 0) pe_int (fun _ _ => rfl)) (pa_cons (pv 1) pa_nil))) pa_nil)))))
    pss_nil)
    (pss_cons (ps_if (pt_cmpR (op_inK (K := K) rfl hu64) (pe_ix (ix_seqK (K := K) rfl) (pv 0) pe_int (fun _ _ => rfl)) (pe_tup (pa_cons pe_str (pa_cons pe_str pa_nil))) (by rfl))
    (pss_cons (ps_for PassesOwn.never rfl (pi_enumTK (K := K) rfl (by rfl) W.b_enumerate (pa_cons (pe_ix (ix_seqK (K := K) rfl) (pv 0) pe_int (fun _ _ => rfl)) pa_nil)) (pg_tupK (K := K) rfl (pg_tup (n := 2) rfl (pgs_cons (pg_name (i := 2) nd rfl (by first | exact Or.inl rfl | exact Or.inr rfl)) (pgs_cons (pg_name (i := 3) nd rfl (by first | exact Or.inl rfl | exact Or.inr rfl)) pgs_nil))))
    (pss_cons (ps_set (i := 4) nd rfl (by first | exact Or.inl rfl | exact Or.inr rfl) (pe_callD D_covered (hr.mono (by decide)) rfl (pa_cons (pv 3) (pa_cons (pv 1) pa_nil))))
    (pss_one (ps_if (pt_cmp (pc_notN (pv 4)))
    (pss_one (ps_ret (pe_tup (pa_cons (pv 2) (pa_cons (pv 4) pa_nil)))))
    pss_nil))))
    (pss_one (ps_ret (pe_tup (pa_cons pe_non (pa_cons pe_non pa_nil))))))
    pss_nil)
    (pss_one (ps_ret (pe_tup (pa_cons pe_non (pa_cons (pe_callD D_covered (hr.mono (by decide)) rfl (pa_cons (pe_ix (ix_seqK (K := K) rfl) (pv 0) pe_int (fun _ _ => rfl)) (pa_cons (pv 1) pa_nil))) pa_nil))))))))), sp_go (fun H0 B0 i hp => ?_) h⟩
  obtain ⟨r, m⟩ := i
  obtain ⟨ok, hm⟩ := hp
  have sh := ok.par_short
  dsimp only at ok hm sh
  refine ss_seq (ss_if (et_test (ee_kin2 (r := r) rfl ⟨_, rfl, fun e => ?_, fun e => ss_next ?_⟩)))
  · cases r with
    | forbid s t c => exact ss_ret <| ee_tup <| ea_cons <| ee_call rfl rfl <| ea_cons <| ee_item (n := 1) (r := .forbid s t c) rfl rfl <| ea_cons <| ee_var rfl <| ea_nil ⟨(s, m), rfl, ⟨fun p hp => sh p (List.mem_append_left _ hp), hm⟩, fun x ex => ea_cons <| ee_call rfl rfl <| ea_cons <| ee_item (n := 2) (r := .forbid s t c) rfl rfl <| ea_cons <| ee_var rfl <| ea_nil ⟨(t, m), rfl, ⟨fun p hp => sh p (List.mem_append_right _ hp), hm⟩, fun y ey => ea_nil ⟨[oE .str (home s m), oE .str (home t m)], by rw [ex, ey]; rfl, (by show 2 ≤ 1000000; decide), rfl⟩⟩⟩
    | only s t => exact ss_ret <| ee_tup <| ea_cons <| ee_call rfl rfl <| ea_cons <| ee_item (n := 1) (r := .only s t) rfl rfl <| ea_cons <| ee_var rfl <| ea_nil ⟨(s, m), rfl, ⟨fun p hp => sh p (List.mem_append_left _ hp), hm⟩, fun x ex => ea_cons <| ee_call rfl rfl <| ea_cons <| ee_item (n := 2) (r := .only s t) rfl rfl <| ea_cons <| ee_var rfl <| ea_nil ⟨(t, m), rfl, ⟨fun p hp => sh p (List.mem_append_right _ hp), hm⟩, fun y ey => ea_nil ⟨[oE .str (home s m), oE .str (home t m)], by rw [ex, ey]; rfl, (by show 2 ≤ 1000000; decide), rfl⟩⟩⟩
    | layers r c => exact nft e
    | stairs r => exact nft e
    | apart p c => exact nft e
    | face h x => exact nft e
    | noring p => exact nft e
  refine ss_seq (ss_if (et_test (ee_keq (r := r) rfl ⟨_, rfl, fun e2 => ?_, fun e2 => ss_next ?_⟩)))
  · cases r with
    | face h x => exact ss_ret <| ee_tup <| ea_cons <| ee_call rfl rfl <| ea_cons <| ee_tup <| ea_cons <| ee_item (n := 1) (r := .face h x) rfl rfl <| ea_nil ⟨[.str h], rfl, (by show 1 ≤ 1000000; decide), ea_cons <| ee_var rfl <| ea_nil ⟨([h], m), rfl, ⟨fun p hp => by simp at hp; rw [hp]; exact ok.2.1.short, hm⟩, fun y ey => ea_cons <| ee_call rfl rfl <| ea_cons <| ee_item (n := 2) (r := .face h x) rfl rfl <| ea_cons <| ee_var rfl <| ea_nil ⟨(x, m), rfl, ⟨sh, hm⟩, fun z ez => ea_nil ⟨[oE .str (home [h] m), oE .str (home x m)], by rw [ey, ez]; rfl, (by show 2 ≤ 1000000; decide), rfl⟩⟩⟩⟩
    | layers r c => exact nft e2
    | stairs r => exact nft e2
    | apart p c => exact nft e2
    | forbid s t c => exact ntf e
    | only s t => exact ntf e
    | noring p => exact nft e2
  refine ss_seq (ss_if (et_test (ee_kin2 (r := r) rfl ⟨_, rfl, fun e3 => ?_, fun e3 => ss_next ?_⟩)))
  · obtain ⟨rows, h1, h3, h4, h5⟩ : ∃ rows, (rD r)[1]? = some (rowsE rows) ∧ (∀ x ∈ rows, ∀ p ∈ x, ShortS p) ∧ pl1 r m = oE (fun x : Nat × Str => .int (x.1 : Nat)) (rowAt rows m) ∧ pl2 r m = (rowAt rows m).map (·.2) := by
      cases r with
      | layers r c => exact ⟨r, rfl, fun x hx p hp => sh p (List.mem_flatten.mpr ⟨x, hx, hp⟩), rfl, rfl⟩
      | stairs r => exact ⟨r, rfl, fun x hx p hp => sh p (List.mem_flatten.mpr ⟨x, hx, hp⟩), rfl, rfl⟩
      | forbid s t c => exact ntf e
      | only s t => exact ntf e
      | face h x => exact ntf e2
      | apart p c => exact nft e3
      | noring p => exact nft e3
    refine ss_seq <| ss_for (vs := [2, 3]) <| wi_enumT <| ea_cons <| ee_item (n := 1) (r := r) rfl h1 <| ea_nil ⟨rows.map sE, rfl, fun j Γ1 => (∃ a b d, Γ1 = [cV (.val (rE r)), cV (dS m), a, b, d]) ∧ ∀ x ∈ rows.take j, home x m = none, ⟨⟨_, _, _, rfl⟩, by simp⟩, fun j d Γ1 hd hI => ?_, fun Γ1 hI => ?_⟩
    · obtain ⟨⟨a, b, d', rfl⟩, hn⟩ := hI
      cases e3 : rows[j]? with
      | none =>
        have : (enumD (rows.map sE))[j]? = none := List.getElem?_eq_none (by rw [enumD_length, List.length_map]; exact List.getElem?_eq_none_iff.mp e3)
        rw [this] at hd
        cases hd
      | some row =>
        rw [enumD_get (d := sE row) (by rw [List.getElem?_map, e3]; rfl)] at hd
        cases hd
        have hrow := List.mem_of_getElem? e3
        refine sg_pair (ss_seq <| ss_set <| ee_call rfl rfl <| ea_cons <| ee_var rfl <| ea_cons <| ee_var rfl <| ea_nil ⟨(row, m), rfl, ⟨h3 row hrow, hm⟩, fun x ex => ?_⟩) (by simp) (by simp)
        subst ex
        refine ss_if <| et_B <| ee_notN <| ee_var rfl ⟨_, rfl, _, rfl, fun e4 => ?_, fun e4 => ss_next ⟨⟨_, _, _, rfl⟩, fun x hx => ?_⟩⟩
        · rw [isNo_oS] at e4
          cases e5 : home row m with
          | none => dsimp only at e4; rw [e5] at e4; cases e4
          | some p =>
            refine ss_ret <| ee_tup <| ea_cons <| ee_var rfl <| ea_cons <| ee_var rfl <| ea_nil ⟨[.int (j : Nat), .str p], rfl, (by show 2 ≤ 1000000; decide), ?_⟩
            show Dat.val _ = .val _
            unfold plD
            rw [h4, h5, rowAt_hit hn e3 e5]
            rfl
        · rw [isNo_oS] at e4
          rw [take_snoc e3] at hx
          rcases List.mem_append.mp hx with q | q
          · exact hn x q
          · simp at q
            subst q
            cases e5 : home x m with
            | none => rfl
            | some p => dsimp only at e4; rw [e5] at e4; cases e4
    · obtain ⟨⟨a, b, d', rfl⟩, hn⟩ := hI
      rw [enumD_length, List.length_map, List.take_length] at hn
      refine ss_ret <| ee_tup <| ea_cons <| ee_non <| ea_cons <| ee_non <| ea_nil ⟨[.none, .none], rfl, (by show 2 ≤ 1000000; decide), ?_⟩
      show Dat.val _ = .val _
      unfold plD
      rw [h4, h5]
      unfold rowAt
      rw [rowFrom_none hn]
      rfl
  · cases r with
    | apart p c => exact ss_ret <| ee_tup <| ea_cons <| ee_non <| ea_cons <| ee_call rfl rfl <| ea_cons <| ee_item (n := 1) (r := .apart p c) rfl rfl <| ea_cons <| ee_var rfl <| ea_nil ⟨(p, m), rfl, ⟨sh, hm⟩, fun y ey => ea_nil ⟨[.none, oE .str (home p m)], by rw [ey]; rfl, (by show 2 ≤ 1000000; decide), rfl⟩⟩
    | noring p => exact ss_ret <| ee_tup <| ea_cons <| ee_non <| ea_cons <| ee_call rfl rfl <| ea_cons <| ee_item (n := 1) (r := .noring p) rfl rfl <| ea_cons <| ee_var rfl <| ea_nil ⟨(p, m), rfl, ⟨sh, hm⟩, fun y ey => ea_nil ⟨[.none, oE .str (home p m)], by rw [ey]; rfl, (by show 2 ≤ 1000000; decide), rfl⟩⟩
    | layers r c => exact ntf e3
    | stairs r => exact ntf e3
    | forbid s t c => exact ntf e
    | only s t => exact ntf e
    | face h x => exact ntf e2
theorem sc_is_barred : FnScope ["rule", "one", "other"] ["rule", "one", "other"] (defScope sIsBarred) := ⟨rfl, rfl, rfl, by decide +kernel, rfl, by decide +kernel, by decide +kernel⟩
theorem ok_is_barred (W : Wd K mg) : DefOk P w K mg base "is_barred" ["rule", "one", "other"] 1 (spBarred K T) := by
  obtain ⟨f, fd, hm, F⟩ := W.f_is_barred
  refine ⟨f, fd, hm, F.kp, F.bindsN fun _ _ _ _ _ _ us hl => match us, hl with | [_, _, _], _ => rfl, F.ok sc_is_barred (sp_len fun _ => rfl) fun cdv A outer s H vs Q E hr h => ?_⟩
  have nd := sc_is_barred.nd
  have hu64 := hr.units
  have hu1 := hu_of hr
  refine ⟨_, PSs.nox ((pss_cons (ps_if (pt_cmpR (op_eqK (K := K) rfl hu64) (pe_ix (ix_seqK (K := K) rfl) (pv 0) pe_int (fun _ _ => rfl)) pe_str (nomark _))
    (pss_one (ps_ret (pe_and (pe_cmp (pc_notN (pe_ix (ix_seqK (K := K) rfl) (pv 1) pe_int (fun _ _ => rfl)))) (pe_one (pe_cmp (pc_notN (pe_ix (ix_seqK (K := K) rfl) (pv 2) pe_int (fun _ _ => rfl))))))))
    pss_nil)
    (pss_cons (ps_if (pt_cmpR (op_eqK (K := K) rfl hu64) (pe_ix (ix_seqK (K := K) rfl) (pv 0) pe_int (fun _ _ => rfl)) pe_str (nomark _))
    (pss_one (ps_ret (pe_and (pe_cmp (pc_notN (pe_ix (ix_seqK (K := K) rfl) (pv 2) pe_int (fun _ _ => rfl)))) (pe_and (pe_cmpR (op_neK (K := K) rfl hu64) (pe_ix (ix_seqK (K := K) rfl) (pv 1) pe_int (fun _ _ => rfl)) (pe_ix (ix_seqK (K := K) rfl) (pv 2) pe_int (fun _ _ => rfl)) (nomark _)) (pe_one (pe_cmp (pc_isN (pe_ix (ix_seqK (K := K) rfl) (pv 1) pe_int (fun _ _ => rfl)))))))))
    pss_nil)
    (pss_cons (ps_if (pt_cmpR (op_eqK (K := K) rfl hu64) (pe_ix (ix_seqK (K := K) rfl) (pv 0) pe_int (fun _ _ => rfl)) pe_str (nomark _))
    (pss_one (ps_ret (pe_and (pe_cmp (pc_notN (pe_ix (ix_seqK (K := K) rfl) (pv 2) pe_int (fun _ _ => rfl)))) (pe_and (pe_cmp (pc_isN (pe_ix (ix_seqK (K := K) rfl) (pv 1) pe_int (fun _ _ => rfl)))) (pe_one (pe_cmp (pc_isN (pe_ix (ix_seqK (K := K) rfl) (pv 2) pe_int (fun _ _ => rfl)))))))))
    pss_nil)
    (pss_cons (ps_if (PW.pt (pw_or (pt_cmp (pc_isN (pe_ix (ix_seqK (K := K) rfl) (pv 1) pe_int (fun _ _ => rfl)))) (pw_or1 (pt_cmp (pc_isN (pe_ix (ix_seqK (K := K) rfl) (pv 2) pe_int (fun _ _ => rfl)))))))
    (pss_one (ps_ret pe_bl))
    pss_nil)
    (pss_cons (ps_if (pt_cmpR (op_eqK (K := K) rfl hu64) (pe_ix (ix_seqK (K := K) rfl) (pv 0) pe_int (fun _ _ => rfl)) pe_str (nomark _))
    (pss_one (ps_ret (pe_cmpR (op_notInK (K := K) rfl hu64) (pe_ix (ix_seqK (K := K) rfl) (pv 2) pe_int (fun _ _ => rfl)) (pe_tup (pa_cons (pe_ix (ix_seqK (K := K) rfl) (pv 1) pe_int (fun _ _ => rfl)) (pa_cons (pe_op (op_addK (K := K) rfl) (pe_ix (ix_seqK (K := K) rfl) (pv 1) pe_int (fun _ _ => rfl)) pe_int) pa_nil))) (by rfl))))
    pss_nil)
    (pss_one (ps_ret (pe_and (pe_cmpR (op_neK (K := K) rfl hu64) (pe_ix (ix_seqK (K := K) rfl) (pv 1) pe_int (fun _ _ => rfl)) (pe_ix (ix_seqK (K := K) rfl) (pv 2) pe_int (fun _ _ => rfl)) (nomark _)) (pe_one (pe_or (pe_cmpR (op_eqK (K := K) rfl hu64) (pe_ix (ix_seqK (K := K) rfl) (pv 0) pe_int (fun _ _ => rfl)) pe_str (nomark _)) (pe_one (pe_cmpR op_le (pe_ix (ix_seqK (K := K) rfl) (pv 2) pe_int (fun _ _ => rfl)) (pe_ix (ix_seqK (K := K) rfl) (pv 1) pe_int (fun _ _ => rfl)) (nomark _)))))))))))))), sp_go (fun H0 B0 i hp => ?_) h⟩
  obtain ⟨r, a, b⟩ := i
  dsimp only at hp
  have fin : ∀ {b1 b2 : Bool}, b1 = b2 → dB b1 = dB b2 := fun h => by rw [h]
  refine ss_seq (ss_if (et_test (ee_keq (r := r) rfl ⟨_, rfl, fun e => ?_, fun e => ss_next ?_⟩)))
  · cases r with
    | forbid s t c =>
      refine ss_ret <| ee_andV <| ee_notN <| ee_pl1 (r := .forbid s t c) (m := a) rfl ⟨oE .str (home s a), rfl, _, rfl, fun e2 => ee_notN <| ee_pl2 (r := .forbid s t c) (m := b) rfl ⟨oE .str (home t b), rfl, fin ?_⟩, fun e2 => fin ?_⟩
      · rw [isNo_oS] at e2 ⊢
        show _ = ((home s a).isSome && (home t b).isSome)
        cases h1 : home s a <;> cases h2 : home t b <;> simp_all
      · rw [isNo_oS] at e2
        show _ = ((home s a).isSome && (home t b).isSome)
        cases h1 : home s a <;> simp_all
    | layers r c => exact nft e
    | stairs r => exact nft e
    | apart p c => exact nft e
    | only s t => exact nft e
    | face h x => exact nft e
    | noring p => exact nft e
  refine ss_seq (ss_if (et_test (ee_keq (r := r) rfl ⟨_, rfl, fun e2 => ?_, fun e2 => ss_next ?_⟩)))
  · cases r with
    | only t u =>
      refine ss_ret <| ee_andV <| ee_notN <| ee_pl1 (r := .only t u) (m := b) rfl ⟨oE .str (home t b), rfl, _, rfl, fun e3 => ee_andV <| ee_op <| ee_pl1 (r := .only t u) (m := a) rfl <| ee_pl1 (r := .only t u) (m := b) rfl <| ro_neE (f := oE .str) (x := home t a) (y := home t b) eqe_oS (shal_oS _) ⟨_, rfl, fun e4 => ee_isN <| ee_pl2 (r := .only t u) (m := a) rfl ⟨oE .str (home u a), rfl, fin ?_⟩, fun e4 => fin ?_⟩, fun e3 => fin ?_⟩
      all_goals show _ = ((home t b).isSome && (!decide (home t a = home t b) && (home u a).isNone))
      all_goals (try rw [isNo_oS] at *)
      · rw [e4]
        cases h1 : home t b <;> simp_all
      · rw [e4]
        simp
      · cases h1 : home t b <;> simp_all
    | layers r c => exact nft e2
    | stairs r => exact nft e2
    | apart p c => exact nft e2
    | forbid s t c => exact ntf e
    | face h x => exact nft e2
    | noring p => exact nft e2
  refine ss_seq (ss_if (et_test (ee_keq (r := r) rfl ⟨_, rfl, fun e3 => ?_, fun e3 => ss_next ?_⟩)))
  · cases r with
    | face h x =>
      refine ss_ret <| ee_andV <| ee_notN <| ee_pl1 (r := .face h x) (m := b) rfl ⟨oE .str (home [h] b), rfl, _, rfl, fun e4 => ee_andV <| ee_isN <| ee_pl1 (r := .face h x) (m := a) rfl ⟨oE .str (home [h] a), rfl, _, rfl, fun e5 => ee_isN <| ee_pl2 (r := .face h x) (m := b) rfl ⟨oE .str (home x b), rfl, fin ?_⟩, fun e5 => fin ?_⟩, fun e4 => fin ?_⟩
      all_goals show _ = ((home [h] b).isSome && ((home [h] a).isNone && (home x b).isNone))
      · rw [isNo_oS] at e4 e5 ⊢
        cases h1 : home [h] b <;> simp_all
      · rw [isNo_oS] at e4 e5
        cases h2 : home [h] a <;> simp_all
      · rw [isNo_oS] at e4
        cases h1 : home [h] b <;> simp_all
    | layers r c => exact nft e3
    | stairs r => exact nft e3
    | apart p c => exact nft e3
    | forbid s t c => exact ntf e
    | only t u => exact ntf e2
    | noring p => exact nft e3
  refine ss_seq (ss_if <| et_or <| et_B <| ee_isN <| ee_pl2 (r := r) (m := a) rfl ⟨_, rfl, _, rfl, fun e4 => ⟨fun _ => ss_ret <| ee_bl <| fin ?_, (fun z => by cases z)⟩, fun e4 => et_B <| ee_isN <| ee_pl2 (r := r) (m := b) rfl ⟨_, rfl, _, rfl, fun e5 => ss_ret <| ee_bl <| fin ?_, fun e5 => ss_next ?_⟩⟩)
  · rw [isNo_oS] at e4
    show false = barred r a b
    cases r with
    | layers r c =>
      have q : rowAt r a = none := by simpa [pl2] using e4
      show _ = layB (rowAt r a) (rowAt r b)
      rw [q]
      cases rowAt r b <;> rfl
    | stairs r =>
      have q : rowAt r a = none := by simpa [pl2] using e4
      show _ = staB (rowAt r a) (rowAt r b)
      rw [q]
      cases rowAt r b <;> rfl
    | apart p c =>
      have q : home p a = none := by simpa [pl2] using e4
      show _ = difB (home p a) (home p b)
      rw [q]
      cases home p b <;> rfl
    | noring p => rfl
    | forbid s t c => exact ntf e
    | only t u => exact ntf e2
    | face h x => exact ntf e3
  · rw [isNo_oS] at e5
    show false = barred r a b
    cases r with
    | layers r c =>
      have q : rowAt r b = none := by simpa [pl2] using e5
      show _ = layB (rowAt r a) (rowAt r b)
      rw [q]
      cases rowAt r a <;> rfl
    | stairs r =>
      have q : rowAt r b = none := by simpa [pl2] using e5
      show _ = staB (rowAt r a) (rowAt r b)
      rw [q]
      cases rowAt r a <;> rfl
    | apart p c =>
      have q : home p b = none := by simpa [pl2] using e5
      show _ = difB (home p a) (home p b)
      rw [q]
      cases home p a <;> rfl
    | noring p => rfl
    | forbid s t c => exact ntf e
    | only t u => exact ntf e2
    | face h x => exact ntf e3
  rw [isNo_oS] at e4 e5
  refine ss_seq (ss_if (et_test (ee_keq (r := r) rfl ⟨_, rfl, fun e6 => ?_, fun e6 => ss_next ?_⟩)))
  · cases r with
    | stairs r =>
      obtain ⟨⟨i1, p1⟩, h1⟩ : ∃ x, rowAt r a = some x := by cases h : rowAt r a with
        | none => simp [pl2, h] at e4
        | some x => exact ⟨x, rfl⟩
      obtain ⟨⟨i2, p2⟩, h2⟩ : ∃ x, rowAt r b = some x := by cases h : rowAt r b with
        | none => simp [pl2, h] at e5
        | some x => exact ⟨x, rfl⟩
      have d1 : pl1 (.stairs r) a = .int (i1 : Nat) := by show oE (fun x : Nat × Str => PyData.int (x.1 : Nat)) (rowAt r a) = _; rw [h1]; rfl
      have d2 : pl1 (.stairs r) b = .int (i2 : Nat) := by show oE (fun x : Nat × Str => PyData.int (x.1 : Nat)) (rowAt r b) = _; rw [h2]; rfl
      refine ss_ret <| ee_op <| ee_pl1 (r := .stairs r) (m := b) rfl ?_
      rw [d2]
      refine ee_tup <| ea_cons <| ee_pl1 (r := .stairs r) (m := a) rfl ?_
      rw [d1]
      refine ea_cons <| ee_op <| ee_pl1 (r := .stairs r) (m := a) rfl ?_
      rw [d1]
      refine ee_int <| ro_addI <| ea_nil ⟨[.int (i1 : Nat), .int ((i1 : Nat) + 1)], rfl, (by show 2 ≤ 1000000; decide), ro_ninE (f := PyData.int) (x := (i2 : Int)) (l := [(i1 : Int), (i1 : Int) + 1]) eqe_int (shal_int _) (fin ?_)⟩
      show _ = staB (rowAt r a) (rowAt r b)
      show _ = staB (rowAt r a) (rowAt r b)
      rw [h1, h2]
      show _ = !decide (i2 = i1 ∨ i2 = i1 + 1)
      congr 1
      simp only [List.mem_cons, List.not_mem_nil, or_false]
      congr 1
      apply propext
      constructor <;> intro h <;> omega
    | layers r c => exact nft e6
    | apart p c => exact nft e6
    | noring p => exact nft e6
    | forbid s t c => exact ntf e
    | only t u => exact ntf e2
    | face h x => exact ntf e3
  · refine ss_ret <| ee_andV <| ee_op <| ee_pl2 (r := r) (m := a) rfl <| ee_pl2 (r := r) (m := b) rfl <| ro_neE (f := oE .str) eqe_oS (shal_oS _) ⟨_, rfl, fun e7 => ee_orV <| ee_keq (r := r) rfl ⟨_, rfl, fun e8 => fin ?_, fun e8 => ?_⟩, fun e7 => fin ?_⟩
    · cases r with
      | apart p c =>
        have q : (!decide (home p a = home p b)) = true := e7
        show true = difB (home p a) (home p b)
        show _ = difB (home p a) (home p b)
        cases h1 : home p a with
        | none => simp [pl2, h1] at e4
        | some x => cases h2 : home p b with
          | none => simp [pl2, h2] at e5
          | some y => rw [h1, h2] at q; simp at q; simp [q, difB, layB]
      | layers r c => exact nft e8
      | stairs r => exact ntf e6
      | noring p => exact nft e8
      | forbid s t c => exact ntf e
      | only t u => exact ntf e2
      | face h x => exact ntf e3
    · cases r with
      | layers r c =>
        obtain ⟨⟨i1, p1⟩, h1⟩ : ∃ x, rowAt r a = some x := by cases h : rowAt r a with
          | none => simp [pl2, h] at e4
          | some x => exact ⟨x, rfl⟩
        obtain ⟨⟨i2, p2⟩, h2⟩ : ∃ x, rowAt r b = some x := by cases h : rowAt r b with
          | none => simp [pl2, h] at e5
          | some x => exact ⟨x, rfl⟩
        have d1 : pl1 (.layers r c) a = .int (i1 : Nat) := by show oE (fun x : Nat × Str => PyData.int (x.1 : Nat)) (rowAt r a) = _; rw [h1]; rfl
        have d2 : pl1 (.layers r c) b = .int (i2 : Nat) := by show oE (fun x : Nat × Str => PyData.int (x.1 : Nat)) (rowAt r b) = _; rw [h2]; rfl
        refine ee_op <| ee_pl1 (r := .layers r c) (m := b) rfl ?_
        rw [d2]
        refine ee_pl1 (r := .layers r c) (m := a) rfl ?_
        rw [d1]
        refine ro_le (fin ?_)
        show _ = layB (rowAt r a) (rowAt r b)
        have q : (!decide ((rowAt r a).map (·.2) = (rowAt r b).map (·.2))) = true := e7
        rw [h1, h2] at q
        show _ = layB (rowAt r a) (rowAt r b)
        rw [h1, h2]
        simp at q
        simp [layB, q]
      | apart p c => exact ntf e8
      | stairs r => exact ntf e6
      | noring p => exact ntf hp
      | forbid s t c => exact ntf e
      | only t u => exact ntf e2
      | face h x => exact ntf e3
    · show false = barred r a b
      cases r with
      | layers r c =>
        have q : (!decide ((rowAt r a).map (·.2) = (rowAt r b).map (·.2))) = false := e7
        show _ = layB (rowAt r a) (rowAt r b)
        cases h1 : rowAt r a with
        | none => rfl
        | some x => cases h2 : rowAt r b with
          | none => rfl
          | some y => rw [h1, h2] at q; simp at q; simp [q, difB, layB]
      | apart p c =>
        have q : (!decide (home p a = home p b)) = false := e7
        show _ = difB (home p a) (home p b)
        cases h1 : home p a with
        | none => rfl
        | some x => cases h2 : home p b with
          | none => rfl
          | some y => rw [h1, h2] at q; simp at q; simp [q, difB, layB]
      | stairs r => exact ntf e6
      | noring p => rfl
      | forbid s t c => exact ntf e
      | only t u => exact ntf e2
      | face h x => exact ntf e3
end
end My
end P3_
section P4_
set_option maxHeartbeats 1000000
namespace My
open PySem PySem.Spec PyProof.Rows L2 LamX
/-- the dict tells whom each module uses -/
def LinksOk (us : List Use) (kvs : List (Key × PyData)) : Prop := ∀ m : Str, (getD' kvs (.inr m)).getD (.list []) = lE .str (succ us m)
abbrev has (kvs : List (Key × PyData)) (m : Str) : Prop := (getD' kvs (.inr m)).isSome = true
/-- the chains found so far; O: the modules whose uses are still to be walked -/
structure Cf (us : List Use) (s : Str) (kvs : List (Key × PyData)) (O : Str → Prop) : Prop where
  ch : ∀ m d, getD' kvs (.inr m) = some d → ∃ ch, d = sE ch ∧ Wk us s m ch ∧ ch.length ≤ kvs.length
  st : has kvs s
  cl : ∀ x, has kvs x → ¬ O x → ∀ y ∈ succ us x, has kvs y
  nd : (kvs.map (·.1)).Nodup
  ks : ∀ k ∈ kvs.map (·.1), k ∈ (Sum.inr s :: us.map fun u => Sum.inr u.2 : List Key)
theorem Cf.size {us : List Use} {s : Str} {kvs : List (Key × PyData)} {O : Str → Prop} (c : Cf us s kvs O) : kvs.length ≤ us.length + 1 := by
  have := nodup_len c.nd c.ks
  simpa using this
theorem Cf.weak {us : List Use} {s : Str} {kvs : List (Key × PyData)} {O O' : Str → Prop} (c : Cf us s kvs O) (h : ∀ x, has kvs x → ¬ O' x → ¬ O x ∨ ∀ y ∈ succ us x, has kvs y) : Cf us s kvs O' :=
  ⟨c.ch, c.st, fun x hx hn y hy => (h x hx hn).elim (fun q => c.cl x hx q y hy) (fun q => q y hy), c.nd, c.ks⟩
/-- a new one -/
theorem Cf.put {us : List Use} {s m x : Str} {kvs : List (Key × PyData)} {O O' : Str → Prop} {ch : List Str} (c : Cf us s kvs O) (hm : getD' kvs (.inr m) = some (sE ch)) (hx : getD' kvs (.inr x) = none) (hu : (m, x) ∈ us) (hO : ∀ y, O y → O' y) (hOx : O' x) :
    Cf us s (putD' kvs (.inr x) (sE (ch ++ [x]))) O' := by
  have e := put_new (d := sE (ch ++ [x])) hx
  have other : ∀ y, has kvs y → has (putD' kvs (.inr x) (sE (ch ++ [x]))) y := fun y hy => by
    have ne : (Sum.inr y : Key) ≠ Sum.inr x := fun z => by
      unfold has at hy
      rw [z, hx] at hy
      cases hy
    show (getD' _ _).isSome = true
    rw [getD_put_other ne]
    exact hy
  obtain ⟨ch', e1, w, l⟩ := c.ch m _ hm
  have ech : ch = ch' := by
    have q : PyData.eqv (sE ch) (sE ch') = true := by rw [← e1, eqe_tE eqe_str]; simp
    rw [eqe_tE eqe_str] at q
    exact of_decide_eq_true q
  subst ech
  refine ⟨fun y d hd => ?_, other s c.st, fun y hy hn z hz => ?_, ?_, fun k hk => ?_⟩
  · by_cases ey : y = x
    · subst ey
      rw [getD_put_same] at hd
      cases hd
      exact ⟨_, rfl, .step w hu, by rw [e, List.length_append, List.length_append]; simp; omega⟩
    · rw [getD_put_other (fun z => ey (Sum.inr.inj z))] at hd
      obtain ⟨ch', h1, h2, h3⟩ := c.ch y d hd
      exact ⟨ch', h1, h2, by rw [e, List.length_append]; omega⟩
  · by_cases ey : y = x
    · subst ey
      exact absurd hOx hn
    · have hy' : has kvs y := by
        show (getD' _ _).isSome = true
        rw [← getD_put_other (k := .inr x) (d := sE (ch ++ [x])) (fun z => ey (Sum.inr.inj z))]
        exact hy
      exact other z (c.cl y hy' (fun q => hn (hO y q)) z hz)
  · rw [e, List.map_append]
    refine List.nodup_append.mpr ⟨c.nd, by simp, fun a ha b hb => ?_⟩
    simp at hb
    subst hb
    intro z
    subst z
    obtain ⟨p, hp, ep⟩ := List.mem_map.mp ha
    have : (kvs.any fun kv => decide (kv.1 = Sum.inr x)) = true := List.any_eq_true.mpr ⟨p, hp, by simp [ep]⟩
    rw [getD_any, hx] at this
    cases this
  · rw [e, List.map_append] at hk
    rcases List.mem_append.mp hk with q | q
    · exact c.ks k q
    · simp at q
      subst q
      exact List.mem_cons_of_mem _ (List.mem_map.mpr ⟨(m, x), hu, rfl⟩)
/-- all that is reached is found -/
theorem Cf.all {us : List Use} {s : Str} {kvs : List (Key × PyData)} (c : Cf us s kvs fun _ => False) {m : Str} (r : Reach us s m) : has kvs m := by
  obtain ⟨ch, w⟩ := r
  induction w with
  | one => exact c.st
  | step _ u ih => exact c.cl _ ih (fun z => z) _ (mem_succ.mpr u)
/-- a chain to each module that is reached, and to no other -/
def ChainsOk (us : List Use) (s : Str) (kvs : List (Key × PyData)) : Prop := ∀ m, (getD' kvs (.inr m) = none ∧ ¬ Reach us s m) ∨ ∃ ch, getD' kvs (.inr m) = some (sE ch) ∧ Wk us s m ch ∧ ch.length ≤ us.length + 1
theorem Cf.chains {us : List Use} {s : Str} {kvs : List (Key × PyData)} (c : Cf us s kvs fun _ => False) : ChainsOk us s kvs := fun m => by
  cases e : getD' kvs (.inr m) with
  | none =>
    refine .inl ⟨rfl, fun r => ?_⟩
    have := c.all r
    unfold has at this
    rw [e] at this
    cases this
  | some d =>
    obtain ⟨ch, h1, h2, h3⟩ := c.ch m d e
    exact .inr ⟨ch, by rw [h1], h2, Nat.le_trans h3 c.size⟩
abbrev spLinks (K : PySem.W.Frag) (T : List (Addr × Str)) : Sp := SpI K T (fun i : List Use => [.val (usE i)]) (fun i => i.length ≤ 1000) (fun i x => ∃ kvs, x = .dk kvs ∧ LinksOk i kvs)
abbrev spChains (K : PySem.W.Frag) (T : List (Addr × Str)) : Sp := SpI K T (fun i : List Use × List (Key × PyData) × Str => [.dk i.2.1, dS i.2.2]) (fun i => i.1.length ≤ 1000 ∧ LinksOk i.1 i.2.1) (fun i x => ∃ kvs, x = .dk kvs ∧ ChainsOk i.1 i.2.2 kvs)
abbrev spUsesOf (K : PySem.W.Frag) (T : List (Addr × Str)) : Sp := SpI K T (fun i : List Str => [.val (sE i)]) (fun i => i.length ≤ 2000 ∧ i ≠ []) (fun i x => x = .val (usE (pairsOf i)))
section
variable {P : Program} {w : World} {K : PySem.W.Frag} {mg : Str → Option Value} {base : Heap} {T : List (Addr × Str)}
theorem sc_links_of : FnScope ["uses", "found", "user", "used"] ["uses"] (defScope sLinksOf) := ⟨rfl, rfl, rfl, by decide +kernel, rfl, by decide +kernel, by decide +kernel⟩
theorem ok_links_of (W : Wd K mg) : DefOk P w K mg base "links_of" ["uses"] 1 (spLinks K T) := by
  obtain ⟨f, fd, hm, F⟩ := W.f_links_of
  refine ⟨f, fd, hm, F.kp, F.bindsN fun _ _ _ _ _ _ us hl => match us, hl with | [_], _ => rfl, F.ok sc_links_of (sp_len fun _ => rfl) fun cdv A outer s H vs Q E hr h => ?_⟩
  have nd := sc_links_of.nd
  have hu64 := hr.units
  have hu1 := hu_of hr
  refine ⟨_, PSs.nox ((pss_cons (ps_set (i := 1) nd rfl (by first | exact Or.inl rfl | exact Or.inr rfl) pe_dnewK)
    (pss_cons (ps_for PassesOwn.never rfl (pi_tupK (K := K) rfl (pv 0)) (pg_tupK (K := K) rfl (pg_tup (n := 2) rfl (pgs_cons (pg_name (i := 2) nd rfl (by first | exact Or.inl rfl | exact Or.inr rfl)) (pgs_cons (pg_name (i := 3) nd rfl (by first | exact Or.inl rfl | exact Or.inr rfl)) pgs_nil))))
    (pss_one (ps_dput hu1 (pv 1) (pv 2) (pe_op (op_addK (K := K) rfl) (pe_dget2 hu1 (pv 1) (pv 2) (pe_lst pa_nil) ⟨rfl, rfl, rfl, rfl⟩) (pe_lst (pa_cons (pv 3) pa_nil))) rfl)))
    (pss_one (ps_ret (pv 1)))))), sp_go (fun H0 B0 i hp => ?_) h⟩
  refine ss_seq <| ss_newK (i := 1) (by show 1 < 4; decide) ?_
  refine ss_seq <| ss_for (vs := [2, 3]) <| wi_tup <| ee_var rfl ⟨i.map uE, rfl, fun j Γ1 => ∃ kvs a b, Γ1 = [cV (.val (usE i)), .oK kvs, a, b] ∧ LinksOk (i.take j) kvs ∧ kvs.length ≤ j, ⟨[], _, _, rfl, fun m => rfl, Nat.zero_le _⟩, fun j d Γ1 hd hI => ?_, fun Γ1 hI => ?_⟩
  · obtain ⟨kvs, a, b, rfl, hl, hz⟩ := hI
    obtain ⟨⟨u, v⟩, hu, rfl⟩ := map_get hd
    have hj : j < i.length := (List.getElem?_eq_some_iff.mp hu).1
    refine sg_pair (d1 := .str u) (d2 := .str v) (ss_dput <| ee_op <| ee_dget2 (x := .oK kvs) rfl (.oK kvs) <| ee_var rfl ⟨.k (.inr u), key_s, trivial, ee_lst <| ea_nil ⟨[], rfl, (by decide), .list [], rfl, ?_⟩⟩) (by simp) (by simp)
    rw [show ((DV.k kvs).get (.k (.inr u))).getD (.list []) = lE .str (succ (i.take j) u) from hl u]
    refine ee_lst <| ea_cons <| ee_var rfl <| ea_nil ⟨[.str v], rfl, (by show 1 ≤ 1000000; decide), ro_catL (by
      have : (succ (i.take j) u).length ≤ i.length := by
        unfold succ
        rw [List.length_map]
        exact Nat.le_trans (List.length_filter_le _ _) (by rw [List.length_take]; omega)
      rw [List.length_map]
      show _ + 1 ≤ _
      omega) ⟨_, .k kvs, rfl, rfl, ee_var rfl ⟨.k (.inr u), key_s, trivial, (by show kvs.length < _; omega), _, _, _, rfl, ?_, Nat.le_trans putD_len' (by omega)⟩⟩⟩
    intro m
    rw [take_snoc hu]
    by_cases e : m = u
    · subst e
      rw [getD_put_same]
      show PyData.list _ = .list _
      unfold succ
      rw [List.filter_append, List.map_append, List.map_append]
      simp
    · rw [getD_put_other (fun z => e (Sum.inr.inj z)), hl m]
      show PyData.list _ = .list _
      unfold succ
      rw [List.filter_append, List.map_append]
      have : ¬ u = m := fun z => e z.symm
      simp [this]
  · obtain ⟨kvs, a, b, rfl, hl, hz⟩ := hI
    rw [List.length_map, List.take_length] at hl
    exact ss_freeze (i := 1) (.k kvs) rfl (ss_ret <| ee_var rfl ⟨kvs, rfl, hl⟩)
theorem sc_chains_from : FnScope ["links", "start", "found", "row", "behind", "module", "used"] ["links", "start"] (defScope sChainsFrom) := ⟨rfl, rfl, rfl, by decide +kernel, rfl, by decide +kernel, by decide +kernel⟩
theorem ok_chains_from (W : Wd K mg) : DefOk P w K mg base "chains_from" ["links", "start"] 1 (spChains K T) := by
  obtain ⟨f, fd, hm, F⟩ := W.f_chains_from
  refine ⟨f, fd, hm, F.kp, F.bindsN fun _ _ _ _ _ _ us hl => match us, hl with | [_, _], _ => rfl, F.ok sc_chains_from (sp_len fun _ => rfl) fun cdv A outer s H vs Q E hr h => ?_⟩
  have nd := sc_chains_from.nd
  have hu64 := hr.units
  have hu1 := hu_of hr
  refine ⟨_, PSs.nox ((pss_cons (ps_set (i := 2) nd rfl (by first | exact Or.inl rfl | exact Or.inr rfl) (pe_disp (pps_cons (pv 1) (pe_tup (pa_cons (pv 1) pa_nil)) pps_nil) (by rfl) (by rfl) (fun z => by cases z) (by decide)))
    (pss_cons (ps_set (i := 3) nd rfl (by first | exact Or.inl rfl | exact Or.inr rfl) (pe_lst (pa_cons (pv 1) pa_nil)))
    (pss_cons (ps_while PassesOwn.never (pt_cmpR (op_neK (K := K) rfl hu64) (pv 3) (pe_lst pa_nil) (nomark _))
    (pss_cons (ps_set (i := 4) nd rfl (by first | exact Or.inl rfl | exact Or.inr rfl) (pe_lst pa_nil))
    (pss_cons (ps_for PassesOwn.never rfl (pi_listK (K := K) rfl (pv 3)) (pg_name (i := 5) nd rfl (by first | exact Or.inl rfl | exact Or.inr rfl))
    (pss_one (ps_for PassesOwn.never rfl (pi_listK (K := K) rfl (pe_dget2 hu1 (pv 0) (pv 5) (pe_lst pa_nil) ⟨rfl, rfl, rfl, rfl⟩)) (pg_name (i := 6) nd rfl (by first | exact Or.inl rfl | exact Or.inr rfl))
    (pss_one (ps_if (pt_cmp (pc_dnotin hu1 (pv 6) (pv 2)))
    (pss_cons (ps_dput hu1 (pv 2) (pv 6) (pe_op (op_addK (K := K) rfl) (pe_dget hu1 (pv 2) (pv 5) (fun _ _ => rfl)) (pe_tup (pa_cons (pv 6) pa_nil))) rfl)
    (pss_one (ps_expr (pe_bm PySem.F.plainAttrs_list PySem.F.slot_list_append PySem.F.type_list_append mt_append (pv 4) (pa_cons (pv 6) pa_nil)))))
    pss_nil)))))
    (pss_one (ps_set (i := 3) nd rfl (by first | exact Or.inl rfl | exact Or.inr rfl) (pe_callTy (cr_lstK (K := K) rfl) rfl W.b_list boot_list (pa_cons (pv 4) pa_nil)))))))
    (pss_one (ps_ret (pv 2))))))), sp_go (fun H0 B0 i hp => ?_) h⟩
  obtain ⟨us, lk, s⟩ := i
  obtain ⟨h1, hl⟩ := hp
  dsimp only at h1 hl
  refine ss_seq <| ss_disp1 (by show 2 < 7; decide) <| ee_var rfl ⟨rfl, .inr s, rfl, ee_tup <| ea_cons <| ee_var rfl <| ea_nil ⟨[.str s], rfl, (by show 1 ≤ 1000000; decide), rfl, sE [s], rfl, ?_⟩⟩
  refine ss_seq <| ss_set <| ee_lst <| ea_cons <| ee_var rfl <| ea_nil ⟨[.str s], rfl, (by show 1 ≤ 1000000; decide), ?_⟩
  have start : Cf us s [(.inr s, sE [s])] (fun x => x ∈ [s]) := ⟨fun m d hd => by
    unfold getD' at hd
    by_cases e : s = m
    · subst e
      simp at hd
      exact ⟨[s], hd.symm, .one, Nat.le_refl _⟩
    · simp [e] at hd, by unfold has getD'; simp, fun x hx hn y hy => by
      unfold has getD' at hx
      by_cases e : s = x
      · exact absurd (by simp [e]) hn
      · simp [e] at hx, by simp, by simp⟩
  refine ss_seq <| ss_while (fun n Γ1 => ∃ kvs row a b d, Γ1 = [.dat (.dk lk), cV (dS s), .oK kvs, cV (.val (lE .str row)), a, b, d] ∧ Cf us s kvs (fun x => x ∈ row) ∧ (∀ x ∈ row, has kvs x) ∧ row.length ≤ 2000 ∧ n = 2 * (us.length + 1 - kvs.length) + (if row = [] then 0 else 1)) _ ⟨[(.inr s, sE [s])], [s], .unk, .unk, .unk, rfl, start, by
    intro x hx
    simp at hx
    subst hx
    unfold has getD'
    simp, by simp, rfl⟩ ?_
  rintro n Γ1 ⟨kvs, row, a, b, d, rfl, cf, hrow, hlr, hn⟩
  refine et_test <| ee_op <| ee_var rfl <| ee_lst <| ea_nil ⟨[], rfl, (by decide), RO1.ro <| ro1_neNil ⟨_, rfl, fun e => ?_, fun e => ?_⟩⟩
  · have hne : row ≠ [] := fun z => by rw [z] at e; cases e
    refine ss_seq <| ss_newL (by show 4 < 7; decide) ?_
    refine ss_seq <| ss_for (vs := [5]) <| wi_list <| ee_var rfl ⟨row.map .str, rfl, fun j Γ1 => ∃ kvs' bh a b, Γ1 = [.dat (.dk lk), cV (dS s), .oK kvs', cV (.val (lE .str row)), .oL (bh.map .str), a, b] ∧ Cf us s kvs' (fun x => x ∈ row.drop j ∨ x ∈ bh) ∧ (∀ x ∈ bh, has kvs' x) ∧ (∀ x ∈ row, has kvs' x) ∧ kvs'.length = kvs.length + bh.length,
      ⟨kvs, [], _, _, rfl, cf.weak fun x _ h => .inl (by simpa using h), by simp, hrow, rfl⟩, fun j dm Γ1 hd hI => ?_, fun Γ1 hI => ?_⟩
    · obtain ⟨kvs', bh, a, b, rfl, cf', hb', hr', hz'⟩ := hI
      obtain ⟨m, hm, rfl⟩ := map_get hd
      have hmr := List.mem_of_getElem? hm
      have edrop : row.drop j = m :: row.drop (j + 1) := by
        obtain ⟨hj, q⟩ := List.getElem?_eq_some_iff.mp hm
        rw [List.drop_eq_getElem_cons hj, q]
      refine sg_name (ss_for (vs := [6]) <| wi_list <| ee_dget2 (x := .dat (.dk lk)) rfl (.dk lk) <| ee_var rfl ⟨.k (.inr m), key_s, trivial, ee_lst <| ea_nil ⟨[], rfl, (by decide), .list [], rfl, (succ us m).map .str, by show Dat.val _ = .val _; rw [show ((DV.k lk).get (.k (.inr m))).getD (.list []) = lE .str (succ us m) from hl m], fun k Γ1 => ∃ kvs2 bh2 b, Γ1 = [.dat (.dk lk), cV (dS s), .oK kvs2, cV (.val (lE .str row)), .oL (bh2.map .str), cV (dS m), b] ∧ Cf us s kvs2 (fun x => x ∈ row.drop j ∨ x ∈ bh2) ∧ (∀ x ∈ bh2, has kvs2 x) ∧ (∀ x ∈ row, has kvs2 x) ∧ kvs2.length = kvs.length + bh2.length ∧ ∀ y ∈ (succ us m).take k, has kvs2 y,
        ⟨kvs', bh, _, rfl, cf', hb', hr', hz', by simp⟩, fun k dy Γ1 hd2 hI2 => ?_, fun Γ1 hI2 => ?_⟩⟩) (by simp)
      · obtain ⟨kvs2, bh2, b2, rfl, cf2, hb2, hr2, hz2, hs2⟩ := hI2
        obtain ⟨y, hy, rfl⟩ := map_get hd2
        have hyu : (m, y) ∈ us := mem_succ.mp (List.mem_of_getElem? hy)
        have hsz := cf2.size
        refine sg_name (ss_if <| et_B <| ee_dnotin (x := .oK kvs2) rfl (.oK kvs2) <| ee_var rfl ⟨.k (.inr y), key_s, trivial, _, rfl, fun e5 => ?_, fun e5 => ss_next ⟨kvs2, bh2, _, rfl, cf2, hb2, hr2, hz2, fun z hz => ?_⟩⟩) (by simp)
        · have hnone : getD' kvs2 (.inr y) = none := by
            cases q : getD' kvs2 (.inr y) with
            | none => rfl
            | some d => rw [show (DV.k kvs2).get (.k (.inr y)) = some d from q] at e5; cases e5
          obtain ⟨dd, hdd⟩ : ∃ d, getD' kvs2 (.inr m) = some d := Option.isSome_iff_exists.mp (hr2 m hmr)
          obtain ⟨ch, ed, wk, lch⟩ := cf2.ch m dd hdd
          subst ed
          have keep : ∀ x, has kvs2 x → has (putD' kvs2 (.inr y) (sE (ch ++ [y]))) x := fun x hx => by
            by_cases ex : x = y
            · rw [ex]; unfold has; rw [getD_put_same]; rfl
            · unfold has; rw [getD_put_other (fun z => ex (Sum.inr.inj z))]; exact hx
          have hself : has (putD' kvs2 (.inr y) (sE (ch ++ [y]))) y := by unfold has; rw [getD_put_same]; rfl
          refine ss_seq <| ss_dput <| ee_op <| ee_dget (x := .oK kvs2) rfl (.oK kvs2) <| ee_var rfl ⟨.k (.inr m), sE ch, key_s, trivial, hdd, ee_tup <| ea_cons <| ee_var rfl <| ea_nil ⟨[.str y], rfl, (by show 1 ≤ 1000000; decide), ro_catT (by rw [List.length_map]; show _ + 1 ≤ _; omega) ⟨sE (ch ++ [y]), .k kvs2, (by show Dat.val (.tuple (ch.map .str ++ [.str y])) = .val (.tuple ((ch ++ [y]).map .str)); rw [List.map_append]; rfl), rfl, ee_var rfl ⟨.k (.inr y), key_s, trivial, (by show kvs2.length < _; omega), ?_⟩⟩⟩⟩
          refine ss_append (ds0 := bh2.map .str) (ee_var rfl ⟨.str y, bh2.map .str, rfl, rfl, (by rw [List.length_map]; omega), ?_⟩) rfl
          refine ⟨putD' kvs2 (.inr y) (sE (ch ++ [y])), bh2 ++ [y], _, by rw [List.map_append]; rfl, cf2.put hdd hnone hyu (fun z hz => by rcases hz with q | q; exact .inl q; exact .inr (by simp [q])) (.inr (by simp)), fun x hx => ?_, fun x hx => keep x (hr2 x hx), ?_, fun z hz => ?_⟩
          · rcases List.mem_append.mp hx with q | q
            · exact keep x (hb2 x q)
            · simp at q
              rw [q]; exact hself
          · rw [put_new hnone, List.length_append, List.length_append, hz2]
            simp
            omega
          · rw [take_snoc hy] at hz
            rcases List.mem_append.mp hz with q | q
            · exact keep z (hs2 z q)
            · simp at q
              rw [q]; exact hself
        · rw [take_snoc hy] at hz
          rcases List.mem_append.mp hz with q | q
          · exact hs2 z q
          · simp at q
            rw [q]
            show (getD' kvs2 (.inr y)).isSome = true
            have e6 : (!(getD' kvs2 (.inr y)).isSome) = false := e5
            simpa using e6
      · obtain ⟨kvs2, bh2, b2, rfl, cf2, hb2, hr2, hz2, hs2⟩ := hI2
        rw [List.length_map, List.take_length] at hs2
        refine ⟨kvs2, bh2, _, _, rfl, cf2.weak fun x hx hn => ?_, hb2, hr2, hz2⟩
        by_cases ex : x = m
        · rw [ex]; exact .inr hs2
        · refine .inl fun q => hn ?_
          rcases q with q | q
          · rw [edrop] at q
            rcases List.mem_cons.mp q with z | z
            · exact absurd z ex
            · exact .inl z
          · exact .inr q
    · obtain ⟨kvs', bh, a, b, rfl, cf', hb', hr', hz'⟩ := hI
      have hsz := cf'.size
      refine ss_set <| ee_CBO (ds := bh.map .str) rfl <| rl_list ?_
      refine ⟨_, ?_, kvs', bh, _, _, _, rfl, cf'.weak fun x _ h => .inl (by
        rw [List.length_map, List.drop_length]
        simpa using h), hb', by omega, rfl⟩
      rw [hn, if_neg hne]
      cases bh with
      | nil =>
        rw [if_pos rfl]
        simp only [List.length_nil] at hz'
        omega
      | cons x l =>
        rw [if_neg (by simp)]
        simp only [List.length_cons] at hz'
        omega
  · have he : row = [] := by
      cases row with
      | nil => rfl
      | cons x l => cases e
    subst he
    refine ss_freeze (i := 2) (.k kvs) rfl (ss_ret <| ee_var rfl ⟨kvs, rfl, ?_⟩)
    exact (cf.weak (O' := fun _ => False) fun x _ _ => .inl (by simp)).chains
theorem sc_uses_of : FnScope ["chain"] ["chain"] (defScope sUsesOf) := ⟨rfl, rfl, rfl, by decide +kernel, rfl, by decide +kernel, by decide +kernel⟩
theorem ok_uses_of (W : Wd K mg) : DefOk P w K mg base "uses_of" ["chain"] 1 (spUsesOf K T) := by
  obtain ⟨f, fd, hm, F⟩ := W.f_uses_of
  refine ⟨f, fd, hm, F.kp, F.bindsN fun _ _ _ _ _ _ us hl => match us, hl with | [_], _ => rfl, F.ok sc_uses_of (sp_len fun _ => rfl) fun cdv A outer s H vs Q E hr h => ?_⟩
  have nd := sc_uses_of.nd
  have hu64 := hr.units
  have hu1 := hu_of hr
  refine ⟨_, PSs.nox ((pss_one (ps_ret (pe_tupZip rfl W.b_tuple rfl W.b_zip rfl (pa_cons (pv 0) (pa_cons (pe_slice (sl_tupK (K := K) rfl) (pv 0) (po_some pe_int) po_none) pa_nil)))))), sp_go (fun H0 B0 i hp => ?_) h⟩
  obtain ⟨h1, h2⟩ := hp
  refine ss_ret <| ee_zipT <| ea_cons <| ee_var rfl <| ea_cons <| ee_sl <| ee_var rfl <| eo_some <| ee_int ⟨1, rfl, eo_none <| ru_slT ?_ <| ea_nil ⟨i.map .str, i.tail.map .str, ?_, ?_⟩⟩
  · rintro ⟨h5, _⟩
    rw [show (1 : Int) = ((1 : Nat) : Int) from rfl, HT.sIx_nat, List.length_map] at h5
    cases i with
    | nil => exact h2 rfl
    | cons a l => simp at h5
  · rw [show (1 : Int) = ((1 : Nat) : Int) from rfl, cutD_from, ← List.map_drop, List.drop_one]
  · show Dat.val _ = .val _
    unfold pairsOf usE tE
    rw [List.zip_map, List.map_map]
    rfl
end
end My
end P4_
section P5_
set_option maxHeartbeats 1000000
namespace My
open PySem PySem.Spec PyProof.Rows L2 LamX
/-- a use that leads from the path p to the path q -/
def Stp' (ps : List Str) (u : Use) (p q : Str) : Prop := home ps u.1 = some p ∧ home ps u.2 = some q ∧ p ≠ q
def ringP (us : List Use) (ps : List Str) : Prop := ∃ S : List Str, S ≠ [] ∧ (∀ p ∈ S, p ∈ ps) ∧ ∀ p ∈ S, ∃ q ∈ S, ∃ u ∈ us, Stp' ps u p q
def chainP (ms : List Str) (us : List Use) (r : Rule) : Prop := ∃ a ∈ ms, ∃ b ∈ ms, a ≠ b ∧ Reach us a b ∧ barred r a b = true
def directP (us : List Use) (r : Rule) : Prop := ∃ u ∈ us, barred r u.1 u.2 = true
def ringOf : Rule → List Str
  | .noring p => p
  | _ => []
def brk (ms : List Str) (us : List Use) (r : Rule) : Prop := if isRing r = true then ringP us (ringOf r) else if isChain r = true then chainP ms us r else directP us r
theorem Reach.mono {us us' : List Use} (h : ∀ u ∈ us, u ∈ us') {a b : Str} (r : Reach us a b) : Reach us' a b := let ⟨ch, w⟩ := r; ⟨ch, w.mono h⟩
theorem brk_mono {ms : List Str} {us us' : List Use} {r : Rule} (h : ∀ u ∈ us, u ∈ us') (b : brk ms us r) : brk ms us' r := by
  unfold brk at b ⊢
  split at b
  · rename_i e
    rw [if_pos e]
    obtain ⟨S, h1, h2, h3⟩ := b
    exact ⟨S, h1, h2, fun p hp => let ⟨q, hq, u, hu, st⟩ := h3 p hp; ⟨q, hq, u, h u hu, st⟩⟩
  · rename_i e
    rw [if_neg e]
    split at b
    · rename_i e2
      rw [if_pos e2]
      obtain ⟨a, ha, b', hb, ne, r', br⟩ := b
      exact ⟨a, ha, b', hb, ne, r'.mono h, br⟩
    · rename_i e2
      rw [if_neg e2]
      obtain ⟨u, hu, br⟩ := b
      exact ⟨u, h u hu, br⟩
/-- evidence: uses that break the rule whatever else is used -/
structure EvB (ms : List Str) (us : List Use) (r : Rule) (ev : List Use) : Prop where
  ne : ev ≠ []
  sub : ∀ u ∈ ev, u ∈ us
  brk : ∀ us', (∀ u ∈ ev, u ∈ us') → brk ms us' r
  sz : ev.length ≤ 2000
abbrev evE : List (List Use) → PyData := lE usE
structure CaseOk (ms : List Str) (us : List Use) : Prop where
  m : ms.length ≤ 100
  u : us.length ≤ 1000
  s : ∀ m ∈ ms, ShortS m
  us : ∀ u ∈ us, u.1 ∈ ms ∧ u.2 ∈ ms
theorem Wk.len {us : List Use} {s m : Str} {ch : List Str} (w : Wk us s m ch) : ch ≠ [] := by
  cases w with
  | one => simp
  | step _ _ => simp
theorem pairs_len (ch : List Str) : (pairsOf ch).length ≤ ch.length := by
  unfold pairsOf
  rw [List.length_zip]
  omega
abbrev spCB (K : PySem.W.Frag) (T : List (Addr × Str)) : Sp := SpI K T (fun i : List Str × List Use × Rule => [.val (sE i.1), .val (usE i.2.1), .val (rE i.2.2)]) (fun i => CaseOk i.1 i.2.1 ∧ RuleOk i.2.2 ∧ isRing i.2.2 = false)
  (fun i x => ∃ evs, x = .val (evE evs) ∧ evs.length ≤ 900000 ∧ (chainP i.1 i.2.1 i.2.2 → evs ≠ []) ∧ ∀ ev ∈ evs, ev ≠ [] ∧ ev.length ≤ 2000 ∧ (∀ u ∈ ev, u ∈ i.2.1) ∧ ∀ us', (∀ u ∈ ev, u ∈ us') → chainP i.1 us' i.2.2)
/-- the steps between the paths, each with a use -/
structure StepsOk (us : List Use) (ps : List Str) (kvs : List (List Key × PyData)) : Prop where
  of : ∀ p q d, getD' kvs [.inr p, .inr q] = some d → ∃ u ∈ us, d = uE u ∧ Stp' ps u p q
  all : ∀ u ∈ us, ∀ p q, Stp' ps u p q → (getD' kvs [.inr p, .inr q]).isSome = true
abbrev spSteps (K : PySem.W.Frag) (T : List (Addr × Str)) : Sp := SpI K T (fun i : List Str × List Use => [.val (sE i.1), .val (usE i.2)]) (fun i => (∀ p ∈ i.1, ShortS p) ∧ i.2.length ≤ 1000 ∧ ∀ u ∈ i.2, ShortS u.1 ∧ ShortS u.2) (fun i x => ∃ kvs, x = .dt kvs ∧ StepsOk i.2 i.1 kvs)
section
variable {P : Program} {w : World} {K : PySem.W.Frag} {mg : Str → Option Value} {base : Heap} {T : List (Addr × Str)}
theorem sc_chain_breaks : FnScope ["modules", "uses", "rule", "links", "places", "module", "found", "chains", "other"] ["modules", "uses", "rule"] (defScope sChainBreaks) := ⟨rfl, rfl, rfl, by decide +kernel, rfl, by decide +kernel, by decide +kernel⟩
theorem ok_chain_breaks (W : Wd K mg) : DefOk P w K mg base "chain_breaks" ["modules", "uses", "rule"] 4 (spCB K T) := by
  obtain ⟨f, fd, hm, F⟩ := W.f_chain_breaks
  have D_is_barred := ok_is_barred (P := P) (w := w) (base := base) (T := T) W
  have D_uses_of := ok_uses_of (P := P) (w := w) (base := base) (T := T) W
  have D_chains_from := ok_chains_from (P := P) (w := w) (base := base) (T := T) W
  have D_place_of := ok_place_of (P := P) (w := w) (base := base) (T := T) W
  have D_links_of := ok_links_of (P := P) (w := w) (base := base) (T := T) W
  refine ⟨f, fd, hm, F.kp, F.bindsN fun _ _ _ _ _ _ us hl => match us, hl with | [_, _, _], _ => rfl, F.ok sc_chain_breaks (sp_len fun _ => rfl) fun cdv A outer s H vs Q E hr h => ?_⟩
  have nd := sc_chain_breaks.nd
  have hu64 := hr.units
  have hu1 := hu_of hr
  refine ⟨_, PSs.nox ((pss_cons (ps_par (i := 3) (j := 4) (by rfl) nd rfl rfl (by decide) rfl rfl (pa_cons (pe_callD D_links_of (hr.mono (by decide)) rfl (pa_cons (pv 1) pa_nil)) (pa_cons (pe_dc (own := [("module", 5)]) rfl nd (pi_tupK (K := K) rfl (pv 0)) (blkOk_by (own := [("module", 5)]) (N := ["modules", "uses", "rule", "links", "places", "module", "found", "chains", "other"]) (sc := defScope sChainBreaks) (by decide +kernel)) (fun _ _ _ _ _ => (pg_name (i := 5) nd rfl (by first | exact Or.inl rfl | exact Or.inr rfl))) (fun _ _ _ _ _ => pts_nil) (fun _ _ _ _ _ => (pv 5)) (fun _ _ _ _ _ => (pe_callD D_place_of (hr.mono (by decide)) rfl (pa_cons (pv 2) (pa_cons (pv 5) pa_nil))))) pa_nil)) (by rfl))
    (pss_cons (ps_set (i := 6) nd rfl (by first | exact Or.inl rfl | exact Or.inr rfl) (pe_lst pa_nil))
    (pss_cons (ps_for PassesOwn.never rfl (pi_tupK (K := K) rfl (pv 0)) (pg_name (i := 5) nd rfl (by first | exact Or.inl rfl | exact Or.inr rfl))
    (pss_cons (ps_set (i := 7) nd rfl (by first | exact Or.inl rfl | exact Or.inr rfl) (pe_callD D_chains_from (hr.mono (by decide)) rfl (pa_cons (pv 3) (pa_cons (pv 5) pa_nil))))
    (pss_one (ps_for PassesOwn.never rfl (pi_tupK (K := K) rfl (pv 0)) (pg_name (i := 8) nd rfl (by first | exact Or.inl rfl | exact Or.inr rfl))
    (pss_one (ps_if (PW.pt (pw_and (pt_cmpR (op_neK (K := K) rfl hu64) (pv 8) (pv 5) (nomark _)) (pw_and (pt_cmp (pc_din hu1 (pv 8) (pv 7))) (pw_and1 (pt_val (pe_callD D_is_barred (hr.mono (by decide)) rfl (pa_cons (pv 2) (pa_cons (pe_dget hu1 (pv 4) (pv 5) (fun _ _ => rfl)) (pa_cons (pe_dget hu1 (pv 4) (pv 8) (fun _ _ => rfl)) pa_nil)))))))))
    (pss_one (ps_expr (pe_bm PySem.F.plainAttrs_list PySem.F.slot_list_append PySem.F.type_list_append mt_append (pv 6) (pa_cons (pe_callD D_uses_of (hr.mono (by decide)) rfl (pa_cons (pe_dget hu1 (pv 7) (pv 8) (fun _ _ => rfl)) pa_nil)) pa_nil))))
    pss_nil))))))
    (pss_one (ps_ret (pv 6))))))), sp_go (fun H0 B0 i hp => ?_) h⟩
  obtain ⟨ms, us, r⟩ := i
  obtain ⟨ok, rok, ring⟩ := hp
  dsimp only at ok rok ring
  have hm := ok.m
  have hu0 := ok.u
  refine ss_seq <| ss_par <| ea_cons <| ee_call rfl rfl <| ea_cons <| ee_var rfl <| ea_nil ⟨us, rfl, ok.u, fun x ⟨lk, ex, hlk⟩ => ?_⟩
  subst ex
  refine ea_cons <| ee_dc <| wi_tup <| ee_var rfl ⟨ms.map .str, rfl, by rw [List.length_map]; omega, fun j acc Γ1 => Γ1 = start' ["modules", "uses", "rule", "links", "places", "module", "found", "chains", "other"] [.val (sE ms), .val (usE us), .val (rE r)] ∧ ∀ m ∈ ms.take j, getD' acc (.inr m) = some (plD r m), ⟨rfl, by simp⟩, fun j d acc Γ1 hd hI => ?_, fun acc Γ1 hI => ea_nil ⟨_, _, rfl, ?_⟩⟩
  · obtain ⟨rfl, ha⟩ := hI
    obtain ⟨m, hm1, rfl⟩ := map_get hd
    have hmm := List.mem_of_getElem? hm1
    refine ⟨noOwn_one (y := dN) (.inl rfl), sg_name (et_yes ⟨fun _ => ee_var rfl ⟨.inr m, rfl, ee_call rfl rfl <| ea_cons <| ee_var rfl <| ea_cons <| ee_var rfl <| ea_nil ⟨(r, m), rfl, ⟨rok, ok.s m hmm⟩, fun y ey => ⟨_, _, ey, ⟨rfl, fun i hi => rfl, fun i hi => ?_⟩, rfl, fun z hz => ?_⟩⟩⟩, fun z => by cases z⟩) (by simp)⟩
    · have : i ≠ 5 := fun z => hi (by rw [z]; simp)
      rw [List.getElem?_set_ne (Ne.symm this), wipeG_out hi]
    · rw [take_snoc hm1] at hz
      by_cases e : z = m
      · rw [e, getD_put_same]
      · rw [getD_put_other (fun q => e (Sum.inr.inj q))]
        rcases List.mem_append.mp hz with q | q
        · exact ha z q
        · simp at q
          exact absurd q e
  obtain ⟨rfl, hpl⟩ := hI
  rw [List.length_map, List.take_length] at hpl
  refine ss_seq <| ss_newL (by show 6 < 9; decide) ?_
  let Inv : List Str → List Str → List (List Use) → Prop := fun done now evs => evs.length ≤ done.length * 100 + now.length ∧ (∀ a ∈ done, ∀ b ∈ ms, a ≠ b → Reach us a b → barred r a b = true → evs ≠ []) ∧ ∀ ev ∈ evs, ev ≠ [] ∧ ev.length ≤ 2000 ∧ (∀ u ∈ ev, u ∈ us) ∧ ∀ us', (∀ u ∈ ev, u ∈ us') → chainP ms us' r
  refine ss_seq <| ss_for (vs := [5]) <| wi_tup <| ee_var rfl ⟨ms.map .str, rfl, fun j Γ1 => ∃ evs a b d, Γ1 = [cV (.val (sE ms)), cV (.val (usE us)), cV (.val (rE r)), .dat (.dk lk), .dat (.dk acc), a, .oL (evs.map usE), b, d] ∧ Inv (ms.take j) [] evs, ⟨[], _, _, _, rfl, by simp, by simp, by simp⟩, fun j dm Γ1 hd hI => ?_, fun Γ1 hI => ?_⟩
  · obtain ⟨evs, a, b, d, rfl, h1, h2, h3⟩ := hI
    obtain ⟨m, hm1, rfl⟩ := map_get hd
    have hmm := List.mem_of_getElem? hm1
    have hj : j < ms.length := (List.getElem?_eq_some_iff.mp hm1).1
    have ltk : (ms.take j).length = j := by rw [List.length_take]; omega
    refine sg_name (ss_seq <| ss_set <| ee_call rfl rfl <| ea_cons <| ee_var rfl <| ea_cons <| ee_var rfl <| ea_nil ⟨(us, lk, m), rfl, ⟨ok.u, hlk⟩, fun x ⟨cs, ex, hcs⟩ => ?_⟩) (by simp)
    subst ex
    dsimp only at hcs
    refine ss_for (vs := [8]) <| wi_tup <| ee_var rfl ⟨ms.map .str, rfl, fun k Γ1 => ∃ evs d, Γ1 = [cV (.val (sE ms)), cV (.val (usE us)), cV (.val (rE r)), .dat (.dk lk), .dat (.dk acc), cV (dS m), .oL (evs.map usE), .dat (.dk cs), d] ∧ Inv (ms.take j) (ms.take k) evs ∧ ∀ b ∈ ms.take k, m ≠ b → Reach us m b → barred r m b = true → evs ≠ [], ⟨evs, _, rfl, ⟨h1, h2, h3⟩, by simp⟩, fun k dm Γ1 hd hI => ?_, fun Γ1 hI => ?_⟩
    · obtain ⟨evs, d, rfl, ⟨h1, h2, h3⟩, h4⟩ := hI
      obtain ⟨o, ho1, rfl⟩ := map_get hd
      have hom := List.mem_of_getElem? ho1
      have hk : k < ms.length := (List.getElem?_eq_some_iff.mp ho1).1
      have ltk2 : (ms.take k).length = k := by rw [List.length_take]; omega
      have ltk3 : (ms.take (k + 1)).length = k + 1 := by rw [List.length_take]; omega
      have skip : ¬ (m ≠ o ∧ Reach us m o ∧ barred r m o = true) → ∃ evs' d', [cV (.val (sE ms)), cV (.val (usE us)), cV (.val (rE r)), .dat (.dk lk), .dat (.dk acc), cV (dS m), .oL (evs.map usE), .dat (.dk cs), cV (dS o)] = [cV (.val (sE ms)), cV (.val (usE us)), cV (.val (rE r)), .dat (.dk lk), .dat (.dk acc), cV (dS m), .oL (evs'.map usE), .dat (.dk cs), d'] ∧ Inv (ms.take j) (ms.take (k + 1)) evs' ∧ ∀ b ∈ ms.take (k + 1), m ≠ b → Reach us m b → barred r m b = true → evs' ≠ [] := fun hn => ⟨evs, _, rfl, ⟨by rw [ltk3]; rw [ltk2] at h1; omega, h2, h3⟩, fun b hb q1 q2 q3 => by
        rw [take_snoc ho1] at hb
        rcases List.mem_append.mp hb with q | q
        · exact h4 b q q1 q2 q3
        · simp at q
          subst q
          exact absurd ⟨q1, q2, q3⟩ hn⟩
      refine sg_name (ss_if <| et_and <| et_test <| ee_op <| ee_var rfl <| ee_var rfl <| ro_neS ⟨_, rfl, fun e1 => ?_, fun e1 => ⟨(fun z => by cases z), fun _ => ss_next (skip fun q => ?_)⟩⟩) (by simp)
      · have ne : o ≠ m := by simpa using e1
        refine et_and <| et_B <| ee_din (x := .dat (.dk cs)) rfl (.dk cs) <| ee_var rfl ⟨.k (.inr o), key_s, trivial, _, rfl, fun e2 => ?_, fun e2 => ⟨(fun z => by cases z), fun _ => ss_next (skip fun q => ?_)⟩⟩
        · rcases hcs o with ⟨g, _⟩ | ⟨ch, g, wk, lch⟩
          · rw [show (DV.k cs).get (.k (.inr o)) = none from g] at e2
            cases e2
          · refine et_B <| ee_call rfl rfl <| ea_cons <| ee_var rfl <| ea_cons <| ee_dget (x := .dat (.dk acc)) rfl (.dk acc) <| ee_var rfl ⟨.k (.inr m), plD r m, key_s, trivial, hpl m hmm, ea_cons <| ee_dget (x := .dat (.dk acc)) rfl (.dk acc) <| ee_var rfl ⟨.k (.inr o), plD r o, key_s, trivial, hpl o hom, ea_nil ⟨(r, m, o), rfl, ring, fun x ex => ⟨_, ex, fun e3 => ?_, fun e3 => ss_next (skip fun q => ?_)⟩⟩⟩⟩
            · refine ss_append (ds0 := evs.map usE) (ee_call rfl rfl <| ea_cons <| ee_dget (x := .dat (.dk cs)) rfl (.dk cs) <| ee_var rfl ⟨.k (.inr o), sE ch, key_s, trivial, g, ea_nil ⟨ch, rfl, ⟨by omega, wk.len⟩, fun x ex => ⟨_, evs.map usE, ex, rfl, ?_, ?_⟩⟩⟩) rfl
              · rw [List.length_map]
                rw [ltk, ltk2] at h1
                omega
              · refine ⟨evs ++ [pairsOf ch], _, by rw [List.map_append]; rfl, ⟨?_, fun a ha b hb q1 q2 q3 => by simp, fun ev hev => ?_⟩, fun b hb q1 q2 q3 => by simp⟩
                · rw [List.length_append, ltk3]
                  rw [ltk2] at h1
                  show _ + 1 ≤ _
                  omega
                · rcases List.mem_append.mp hev with q | q
                  · exact h3 ev q
                  · simp at q
                    subst q
                    exact ⟨wk.pos ne, Nat.le_trans (pairs_len ch) (by omega), wk.pairs, fun us' hus => ⟨m, hmm, o, hom, fun z => ne z.symm, ⟨ch, wk.own.mono hus⟩, e3⟩⟩
            · exact absurd q.2.2 (by rw [e3]; exact fun z => by cases z)
        · rcases hcs o with ⟨g, nr⟩ | ⟨ch, g, wk, lch⟩
          · exact nr q.2.1
          · rw [show (DV.k cs).get (.k (.inr o)) = some (sE ch) from g] at e2
            cases e2
      · have : o = m := by simpa using e1
        exact q.1 this.symm
    · obtain ⟨evs, d, rfl, ⟨h1, h2, h3⟩, h4⟩ := hI
      rw [List.length_map, List.take_length] at h1 h4
      refine ⟨evs, _, _, _, rfl, ?_, fun a ha => ?_, h3⟩
      · have : (ms.take (j + 1)).length = j + 1 := by rw [List.length_take]; omega
        rw [this]
        rw [ltk] at h1
        show _ ≤ _ + 0
        omega
      · rw [take_snoc hm1] at ha
        rcases List.mem_append.mp ha with q | q
        · exact h2 a q
        · simp at q
          subst q
          exact h4
  · obtain ⟨evs, a, b, d, rfl, h1, h2, h3⟩ := hI
    rw [List.length_map, List.take_length] at h1 h2
    refine ss_freeze (i := 6) (.l (evs.map usE)) rfl (ss_ret <| ee_var rfl ⟨evs, rfl, ?_, fun ⟨a, ha, b, hb, ne, rr, br⟩ => h2 a ha b hb ne rr br, h3⟩)
    have : ([] : List Str).length = 0 := rfl
    omega
theorem sc_steps_between : FnScope ["paths", "uses", "found", "user", "used", "step"] ["paths", "uses"] (defScope sStepsBetween) := ⟨rfl, rfl, rfl, by decide +kernel, rfl, by decide +kernel, by decide +kernel⟩
theorem ok_steps_between (W : Wd K mg) : DefOk P w K mg base "steps_between" ["paths", "uses"] 3 (spSteps K T) := by
  obtain ⟨f, fd, hm, F⟩ := W.f_steps_between
  have D_covered := ok_covered (P := P) (w := w) (base := base) (T := T) W
  refine ⟨f, fd, hm, F.kp, F.bindsN fun _ _ _ _ _ _ us hl => match us, hl with | [_, _], _ => rfl, F.ok sc_steps_between (sp_len fun _ => rfl) fun cdv A outer s H vs Q E hr h => ?_⟩
  have nd := sc_steps_between.nd
  have hu64 := hr.units
  have hu1 := hu_of hr
  refine ⟨_, PSs.nox ((pss_cons (ps_set (i := 2) nd rfl (by first | exact Or.inl rfl | exact Or.inr rfl) pe_dnewT)
    (pss_cons (ps_for PassesOwn.never rfl (pi_tupK (K := K) rfl (pv 1)) (pg_tupK (K := K) rfl (pg_tup (n := 2) rfl (pgs_cons (pg_name (i := 3) nd rfl (by first | exact Or.inl rfl | exact Or.inr rfl)) (pgs_cons (pg_name (i := 4) nd rfl (by first | exact Or.inl rfl | exact Or.inr rfl)) pgs_nil))))
    (pss_cons (ps_set (i := 5) nd rfl (by first | exact Or.inl rfl | exact Or.inr rfl) (pe_tup (pa_cons (pe_callD D_covered (hr.mono (by decide)) rfl (pa_cons (pv 0) (pa_cons (pv 3) pa_nil))) (pa_cons (pe_callD D_covered (hr.mono (by decide)) rfl (pa_cons (pv 0) (pa_cons (pv 4) pa_nil))) pa_nil))))
    (pss_one (ps_if (PW.pt (pw_and (pt_cmp (pc_notN (pe_ix (ix_seqK (K := K) rfl) (pv 5) pe_int (fun _ _ => rfl)))) (pw_and (pt_cmp (pc_notN (pe_ix (ix_seqK (K := K) rfl) (pv 5) pe_int (fun _ _ => rfl)))) (pw_and (pt_cmpR (op_neK (K := K) rfl hu64) (pe_ix (ix_seqK (K := K) rfl) (pv 5) pe_int (fun _ _ => rfl)) (pe_ix (ix_seqK (K := K) rfl) (pv 5) pe_int (fun _ _ => rfl)) (nomark _)) (pw_and1 (pt_cmp (pc_dnotin hu1 (pv 5) (pv 2))))))))
    (pss_one (ps_dput hu1 (pv 2) (pv 5) (pe_tup (pa_cons (pv 3) (pa_cons (pv 4) pa_nil))) rfl))
    pss_nil))))
    (pss_one (ps_ret (pv 2)))))), sp_go (fun H0 B0 i hp => ?_) h⟩
  obtain ⟨ps, us⟩ := i
  obtain ⟨h1, h2, h3⟩ := hp
  dsimp only at h1 h2 h3
  refine ss_seq <| ss_newT (i := 2) (by show 2 < 6; decide) ?_
  refine ss_seq <| ss_for (vs := [3, 4]) <| wi_tup <| ee_var rfl ⟨us.map uE, rfl, fun j Γ1 => ∃ kvs a b d, Γ1 = [cV (.val (sE ps)), cV (.val (usE us)), .oT kvs, a, b, d] ∧ StepsOk (us.take j) ps kvs ∧ kvs.length ≤ j, ⟨[], _, _, _, rfl, ⟨fun p q d h => (by cases h), fun u hu => (by simp at hu)⟩, Nat.zero_le _⟩, fun j d Γ1 hd hI => ?_, fun Γ1 hI => ?_⟩
  · obtain ⟨kvs, a, b, d', rfl, hk, hz⟩ := hI
    obtain ⟨⟨u, v⟩, hu, rfl⟩ := map_get hd
    have hmem := List.mem_of_getElem? hu
    have hj : j < us.length := (List.getElem?_eq_some_iff.mp hu).1
    obtain ⟨s1, s2⟩ := h3 _ hmem
    have keep : ∀ {kvs' : List (List Key × PyData)}, (∀ p q d, getD' kvs' [.inr p, .inr q] = some d → ∃ u ∈ us.take (j + 1), d = uE u ∧ Stp' ps u p q) → (∀ k, (getD' kvs k).isSome = true → (getD' kvs' k).isSome = true) → (∀ p q, Stp' ps (u, v) p q → (getD' kvs' [.inr p, .inr q]).isSome = true) → StepsOk (us.take (j + 1)) ps kvs' := fun {kvs'} a1 a2 a3 => ⟨a1, fun x hx p q st => by
      rw [take_snoc hu] at hx
      rcases List.mem_append.mp hx with z | z
      · exact a2 _ (hk.all x z p q st)
      · simp at z
        subst z
        exact a3 p q st⟩
    have oldOf : ∀ p q d, getD' kvs [.inr p, .inr q] = some d → ∃ u ∈ us.take (j + 1), d = uE u ∧ Stp' ps u p q := fun p q d h => by
      obtain ⟨x, hx, h2, h3⟩ := hk.of p q d h
      exact ⟨x, by rw [take_snoc hu]; simp [hx], h2, h3⟩
    refine sg_pair (d1 := .str u) (d2 := .str v) (ss_seq <| ss_set <| ee_tupF <| ea_cons <| ee_call rfl rfl <| ea_cons <| ee_var rfl <| ea_cons <| ee_var rfl <| ea_nil ⟨(ps, u), rfl, ⟨h1, s1⟩, fun x ex => ea_cons <| ee_call rfl rfl <| ea_cons <| ee_var rfl <| ea_cons <| ee_var rfl <| ea_nil ⟨(ps, v), rfl, ⟨h1, s2⟩, fun y ey => ea_nil ⟨[oE .str (home ps u), oE .str (home ps v)], by rw [ex, ey]; rfl, (by show 2 ≤ 1000000; decide), ?_⟩⟩⟩) (by simp) (by simp)
    have ix0 : ∀ {Γ : Env'} {P : Dat → Env' → Prop}, Γ[5]? = some (.dat (dF { K := K, T := T, H0 := H0, B0 := B0 } [oE .str (home ps u), oE .str (home ps v)])) → P (.val (oE .str (home ps u))) Γ → EE { K := K, T := T, H0 := H0, B0 := B0 } (tOp (rIx K) (tVar 5) (tC (.int 0))) Γ P := fun {Γ P} h k => ee_op (ee_as (ee_var h ⟨_, fun B v hh => dF_val hh, ee_int (ro_ixT (d := oE .str (home ps u)) rfl k)⟩))
    have ix1 : ∀ {Γ : Env'} {P : Dat → Env' → Prop}, Γ[5]? = some (.dat (dF { K := K, T := T, H0 := H0, B0 := B0 } [oE .str (home ps u), oE .str (home ps v)])) → P (.val (oE .str (home ps v))) Γ → EE { K := K, T := T, H0 := H0, B0 := B0 } (tOp (rIx K) (tVar 5) (tC (.int 1))) Γ P := fun {Γ P} h k => ee_op (ee_as (ee_var h ⟨_, fun B v hh => dF_val hh, ee_int (ro_ixT (d := oE .str (home ps v)) rfl k)⟩))
    have skip : (∀ p q, Stp' ps (u, v) p q → (getD' kvs [.inr p, .inr q]).isSome = true) → ∃ kvs' a b d, [cV (.val (sE ps)), cV (.val (usE us)), .oT kvs, cV (dS u), cV (dS v), .dat (dF { K := K, T := T, H0 := H0, B0 := B0 } [oE .str (home ps u), oE .str (home ps v)])] = [cV (.val (sE ps)), cV (.val (usE us)), .oT kvs', a, b, d] ∧ StepsOk (us.take (j + 1)) ps kvs' ∧ kvs'.length ≤ j + 1 := fun h => ⟨kvs, _, _, _, rfl, keep oldOf (fun _ h => h) h, by omega⟩
    refine ss_if <| et_and <| et_B <| ee_notN <| ix0 rfl ⟨_, rfl, _, rfl, fun e1 => ?_, fun e1 => ⟨(fun z => by cases z), fun _ => ss_next (skip fun p q st => ?_)⟩⟩
    · refine et_and <| et_B <| ee_notN <| ix1 rfl ⟨_, rfl, _, rfl, fun e2 => ?_, fun e2 => ⟨(fun z => by cases z), fun _ => ss_next (skip fun p q st => ?_)⟩⟩
      · rw [isNo_oS] at e1 e2
        obtain ⟨p, hp⟩ : ∃ p, home ps u = some p := by cases h : home ps u with
          | none => rw [h] at e1; cases e1
          | some p => exact ⟨p, rfl⟩
        obtain ⟨q, hq⟩ : ∃ q, home ps v = some q := by cases h : home ps v with
          | none => rw [h] at e2; cases e2
          | some p => exact ⟨p, rfl⟩
        have uniq : ∀ p' q', Stp' ps (u, v) p' q' → p' = p ∧ q' = q := fun p' q' st => ⟨by have := st.1; dsimp only at this; rw [hp] at this; exact (Option.some.inj this).symm, by have := st.2.1; dsimp only at this; rw [hq] at this; exact (Option.some.inj this).symm⟩
        refine et_and <| et_test <| ee_op <| ix0 rfl <| ix1 rfl <| ro_neE (f := oE .str) eqe_oS (shal_oS _) ⟨_, rfl, fun e3 => ?_, fun e3 => ⟨(fun z => by cases z), fun _ => ss_next (skip fun p' q' st => ?_)⟩⟩
        · have hkey : KeyDat { K := K, T := T, H0 := H0, B0 := B0 } (dF { K := K, T := T, H0 := H0, B0 := B0 } [oE .str (home ps u), oE .str (home ps v)]) (.t [.inr p, .inr q]) := key_t (by rw [hp, hq]; rfl)
          refine et_B <| ee_dnotin (x := .oT kvs) rfl (.oT kvs) <| ee_var rfl ⟨.t [.inr p, .inr q], hkey, trivial, _, rfl, fun e4 => ?_, fun e4 => ss_next (skip fun p' q' st => ?_)⟩
          · have hnone : getD' kvs [.inr p, .inr q] = none := by
              cases z : getD' kvs [.inr p, .inr q] with
              | none => rfl
              | some d => rw [show (DV.t kvs).get (.t [.inr p, .inr q]) = some d from z] at e4; cases e4
            refine ss_dput <| ee_tup <| ea_cons <| ee_var rfl <| ea_cons <| ee_var rfl <| ea_nil ⟨[.str u, .str v], rfl, (by show 2 ≤ 1000000; decide), _, .t kvs, rfl, rfl, ee_var rfl ⟨.t [.inr p, .inr q], hkey, trivial, (by show kvs.length < _; omega), _, _, _, _, rfl, keep (fun p' q' d h => ?_) (fun k h => ?_) (fun p' q' st => ?_), Nat.le_trans putD_len' (by omega)⟩⟩
            · by_cases ek : ([.inr p', .inr q'] : List Key) = [.inr p, .inr q]
              · rw [ek, getD_put_same] at h
                have e5 : p' = p ∧ q' = q := by simpa using ek
                obtain ⟨rfl, rfl⟩ := e5
                have e3' : (!decide (home ps u = home ps v)) = true := e3
                rw [hp, hq] at e3'
                simp at e3'
                exact ⟨(u, v), by rw [take_snoc hu]; simp, (Option.some.inj h).symm, hp, hq, e3'⟩
              · rw [getD_put_other ek] at h
                exact oldOf p' q' d h
            · by_cases ek : k = [.inr p, .inr q]
              · rw [ek, getD_put_same]; rfl
              · rw [getD_put_other ek]; exact h
            · obtain ⟨rfl, rfl⟩ := uniq p' q' st
              rw [getD_put_same]; rfl
          · obtain ⟨rfl, rfl⟩ := uniq p' q' st
            have e6 : (!(getD' kvs [.inr p', .inr q']).isSome) = false := e4
            simpa using e6
        · obtain ⟨rfl, rfl⟩ := uniq p' q' st
          have e3' : (!decide (home ps u = home ps v)) = false := e3
          rw [hp, hq] at e3'
          simp at e3'
          exact absurd e3' st.2.2
      · rw [isNo_oS] at e2
        have := st.2.1
        dsimp only at this
        rw [this] at e2
        cases e2
    · rw [isNo_oS] at e1
      have := st.1
      dsimp only at this
      rw [this] at e1
      cases e1
  · obtain ⟨kvs, a, b, d, rfl, hl, hz⟩ := hI
    rw [List.length_map, List.take_length] at hl
    exact ss_freeze (i := 2) (.t kvs) rfl (ss_ret <| ee_var rfl ⟨kvs, rfl, hl⟩)
end
end My
end P5_
section P6_
set_option maxHeartbeats 1000000
namespace My
open PySem PySem.Spec PyProof.Rows L2 LamX
theorem alike_str (x y : Str) : PySem.W.alike (.str x) (.str y) = true := by simp [PySem.W.alike]
theorem alike_int (x y : Int) : PySem.W.alike (.int x) (.int y) = true := by simp [PySem.W.alike]
section
variable {α β : Type} {f : α → PyData} {g : β → PyData}
theorem alike_map (h : ∀ x y, PySem.W.alike (f x) (f y) = true) : ∀ xs ys : List α, PySem.W.alikeAll (xs.map f) (ys.map f) = true
  | [], ys => by simp [PySem.W.alikeAll]
  | x :: xs, [] => by simp [PySem.W.alikeAll]
  | x :: xs, y :: ys => by
    rw [List.map_cons, List.map_cons, PySem.W.alikeAll, h x y, alike_map h xs ys]
    rfl
theorem alike_tE (h : ∀ x y, PySem.W.alike (f x) (f y) = true) (xs ys : List α) : PySem.W.alike (tE f xs) (tE f ys) = true := by
  show PySem.W.alike (.tuple _) (.tuple _) = true
  rw [PySem.W.alike]
  exact alike_map h xs ys
theorem alike_pE (h : ∀ x y, PySem.W.alike (f x) (f y) = true) (h2 : ∀ x y, PySem.W.alike (g x) (g y) = true) (x y : α × β) : PySem.W.alike (pE f g x) (pE f g y) = true := by
  show PySem.W.alike (.tuple [f x.1, g x.2]) (.tuple [f y.1, g y.2]) = true
  rw [PySem.W.alike, PySem.W.alikeAll, PySem.W.alikeAll, PySem.W.alikeAll, h, h2]
  · rfl
  all_goals simp
theorem alike_u : ∀ x y : Use, PySem.W.alike (uE x) (uE y) = true := alike_pE alike_str alike_str
theorem alike_us : ∀ x y : List Use, PySem.W.alike (usE x) (usE y) = true := alike_tE alike_u
theorem allAlike_map (h : ∀ x y, PySem.W.alike (f x) (f y) = true) (l : List α) : PySem.W.AllAlike (l.map f) := fun d hd d' hd' => by
  obtain ⟨x, _, rfl⟩ := List.mem_map.mp hd
  obtain ⟨y, _, rfl⟩ := List.mem_map.mp hd'
  exact h x y
end
inductive SW (us : List Use) (ps : List Str) (s : Str) : Str → List Use → Prop
  | nil : SW us ps s s []
  | step {p q : Str} {ev : List Use} {u : Use} : SW us ps s p ev → u ∈ us → Stp' ps u p q → SW us ps s q (ev ++ [u])
theorem SW.sub {us : List Use} {ps : List Str} {s p : Str} {ev : List Use} (w : SW us ps s p ev) : ∀ u ∈ ev, u ∈ us := by
  induction w with
  | nil => intro u hu; cases hu
  | step _ h _ ih =>
    intro v hv
    rcases List.mem_append.mp hv with q | q
    · exact ih v q
    · simp at q
      rw [q]; exact h
theorem SW.each {us : List Use} {ps : List Str} {s p : Str} {ev : List Use} (w : SW us ps s p ev) : ∀ u ∈ ev, ∃ p' q', Stp' ps u p' q' ∧ (q' = p ∨ ∃ v ∈ ev, home ps v.1 = some q') := by
  induction w with
  | nil => intro u hu; cases hu
  | @step p q ev u w h st ih =>
    intro v hv
    rcases List.mem_append.mp hv with z | z
    · obtain ⟨p', q', s', o⟩ := ih v z
      refine ⟨p', q', s', .inr ?_⟩
      rcases o with o | ⟨x, hx, e⟩
      · exact ⟨u, by simp, by rw [o]; exact st.1⟩
      · exact ⟨x, by simp [hx], e⟩
    · simp at z
      subst z
      exact ⟨p, q, st, .inl rfl⟩
theorem SW.first {us : List Use} {ps : List Str} {s p : Str} {ev : List Use} (w : SW us ps s p ev) (h : ev ≠ []) : ∃ v ∈ ev, home ps v.1 = some s := by
  induction w with
  | nil => exact absurd rfl h
  | @step p q ev u w hu st ih =>
    by_cases e : ev = []
    · subst e
      have hp : p = s := by
        generalize e0 : ([] : List Use) = l at w
        cases w with
        | nil => rfl
        | step w' _ _ => simp at e0
      subst hp
      exact ⟨u, by simp, st.1⟩
    · obtain ⟨v, hv, e2⟩ := ih e
      exact ⟨v, by simp [hv], e2⟩
theorem home_in {ps : List Str} {m p : Str} (h : home ps m = some p) : p ∈ ps := by
  unfold home at h
  exact List.mem_of_find?_eq_some h
/-- a walk back to its start is a ring -/
theorem SW.ring {us : List Use} {ps : List Str} {s : Str} {ev : List Use} (w : SW us ps s s ev) (h : ev ≠ []) {us' : List Use} (hs : ∀ u ∈ ev, u ∈ us') : ringP us' ps := by
  obtain ⟨v, hv, e⟩ := w.first h
  refine ⟨ev.filterMap fun u => home ps u.1, fun z => ?_, fun p hp => ?_, fun p hp => ?_⟩
  · have : s ∈ ev.filterMap fun u => home ps u.1 := List.mem_filterMap.mpr ⟨v, hv, e⟩
    rw [z] at this
    cases this
  · obtain ⟨u, _, e⟩ := List.mem_filterMap.mp hp
    exact home_in e
  · obtain ⟨u, hu, e1⟩ := List.mem_filterMap.mp hp
    obtain ⟨p', q', st, o⟩ := w.each u hu
    have ep : p' = p := by have := st.1; rw [e1] at this; exact (Option.some.inj this).symm
    subst ep
    rcases o with o | ⟨x, hx, e2⟩
    · subst o
      exact ⟨q', List.mem_filterMap.mpr ⟨v, hv, e⟩, u, hs u hu, st⟩
    · exact ⟨q', List.mem_filterMap.mpr ⟨x, hx, e2⟩, u, hs u hu, st⟩
open Classical in
/-- the use that a step's dict tells -/
noncomputable def useAt (kvs : List (List Key × PyData)) (p q : Str) : Use := if h : ∃ u, getD' kvs [.inr p, .inr q] = some (uE u) then h.choose else ("", "")
theorem StepsOk.at_ {us : List Use} {ps : List Str} {kvs : List (List Key × PyData)} (h : StepsOk us ps kvs) {p q : Str} (e : (getD' kvs [.inr p, .inr q]).isSome = true) : getD' kvs [.inr p, .inr q] = some (uE (useAt kvs p q)) ∧ useAt kvs p q ∈ us ∧ Stp' ps (useAt kvs p q) p q := by
  obtain ⟨d, hd⟩ := Option.isSome_iff_exists.mp e
  obtain ⟨u, hu, rfl, st⟩ := h.of p q d hd
  have ex : ∃ u, getD' kvs [.inr p, .inr q] = some (uE u) := ⟨u, hd⟩
  have e1 : getD' kvs [.inr p, .inr q] = some (uE (useAt kvs p q)) := by
    unfold useAt
    rw [dif_pos ex]
    exact ex.choose_spec
  have e2 : useAt kvs p q = u := by
    rw [hd] at e1
    have e3 := eqe_u u (useAt kvs p q)
    rw [← Option.some.inj e1, eqe_u u u] at e3
    exact (show u = useAt kvs p q by simpa using e3).symm
  exact ⟨e1, by rw [e2]; exact hu, by rw [e2]; exact st⟩
abbrev rwE : List Use × Str → PyData := pE usE .str
theorem alike_rw : ∀ x y, PySem.W.alike (rwE x) (rwE y) = true := alike_pE alike_us alike_str
theorem shal_rw (x : List Use × Str) : Shal (rwE x) := by
  have h : (rwE x).depth ≤ 4 := dep_pE (f := usE) (g := PyData.str) (n := 3) (fun x => dep_us x) (fun x => by rw [PyData.depth]; omega) x
  unfold Shal
  omega
/-- the search's state -/
structure RfI (us : List Use) (ps : List Str) (st : Str) (rw0 : List (List Use × Str)) (seen : List Str) : Prop where
  row : ∀ x ∈ rw0, SW us ps st x.2 x.1 ∧ x.1.length < seen.length ∧ x.2 ∈ seen
  has : st ∈ seen
  old : ∀ p ∈ seen, (∃ x ∈ rw0, x.2 = p) ∨ ∀ u ∈ us, ∀ q, Stp' ps u p q → q ≠ st ∧ q ∈ seen
  nd : seen.Nodup
  sub : ∀ p ∈ seen, p ∈ ps
  rz : rw0.length ≤ 100
theorem sw_no {us : List Use} {ps seen : List Str} {st : Str} (cl : ∀ p ∈ seen, ∀ u ∈ us, ∀ q, Stp' ps u p q → q ≠ st ∧ q ∈ seen) (hs : st ∈ seen) {p : Str} {ev : List Use} (w : SW us ps st p ev) : ev ≠ [] → p = st → False := by
  have inn : ∀ {p ev}, SW us ps st p ev → p ∈ seen := fun {p ev} w => by
    induction w with
    | nil => exact hs
    | step _ hu s ih => exact (cl _ ih _ hu _ s).2
  intro h e
  cases w with
  | nil => exact h rfl
  | step w hu s => exact (cl _ (inn w) _ hu _ s).1 e
abbrev spRF (K : PySem.W.Frag) (T : List (Addr × Str)) : Sp := SpI K T (fun i : List Use × List Str × Str × List (List Key × PyData) => [.dt i.2.2.2, .val (sE i.2.1), dS i.2.2.1]) (fun i => StepsOk i.1 i.2.1 i.2.2.2 ∧ i.2.1.length ≤ 100 ∧ i.2.2.1 ∈ i.2.1)
  (fun i x => ∃ o, x = .val (oE usE o) ∧ (o = none → ∀ ev, ev ≠ [] → ¬ SW i.1 i.2.1 i.2.2.1 i.2.2.1 ev) ∧ ∀ ev, o = some ev → ev ≠ [] ∧ SW i.1 i.2.1 i.2.2.1 i.2.2.1 ev ∧ ev.length ≤ 2000)
section
variable {P : Program} {w : World} {K : PySem.W.Frag} {mg : Str → Option Value} {base : Heap} {T : List (Addr × Str)}
theorem sc_ring_from : FnScope ["steps", "paths", "start", "row", "seen", "ends", "behind", "uses", "path", "other"] ["steps", "paths", "start"] (defScope sRingFrom) := ⟨rfl, rfl, rfl, by decide +kernel, rfl, by decide +kernel, by decide +kernel⟩
theorem ok_ring_from (W : Wd K mg) : DefOk P w K mg base "ring_from" ["steps", "paths", "start"] 1 (spRF K T) := by
  obtain ⟨f, fd, hm, F⟩ := W.f_ring_from
  refine ⟨f, fd, hm, F.kp, F.bindsN fun _ _ _ _ _ _ us hl => match us, hl with | [_, _, _], _ => rfl, F.ok sc_ring_from (sp_len fun _ => rfl) fun cdv A outer s H vs Q E hr h => ?_⟩
  have nd := sc_ring_from.nd
  have hu64 := hr.units
  have hu1 := hu_of hr
  refine ⟨_, PSs.nox ((pss_cons (ps_set (i := 3) nd rfl (by first | exact Or.inl rfl | exact Or.inr rfl) (pe_lst (pa_cons (pe_tup (pa_cons (pe_tup pa_nil) (pa_cons (pv 2) pa_nil))) pa_nil)))
    (pss_cons (ps_set (i := 4) nd rfl (by first | exact Or.inl rfl | exact Or.inr rfl) (pe_lst (pa_cons (pv 2) pa_nil)))
    (pss_cons (ps_while PassesOwn.never (pt_cmpR (op_neK (K := K) rfl hu64) (pv 3) (pe_lst pa_nil) (nomark _))
    (pss_cons (ps_setLc (i := 5) (own := [("uses", 7), ("path", 8)]) rfl nd rfl rfl (sw_true rfl rfl rfl (by decide +kernel)) (pi_listK (K := K) rfl (pv 3)) (blkOk_by (own := [("uses", 7), ("path", 8)]) (N := ["steps", "paths", "start", "row", "seen", "ends", "behind", "uses", "path", "other"]) (sc := defScope sRingFrom) (by decide +kernel)) (fun _ _ _ _ _ => (pg_tupK (K := K) rfl (pg_tup (n := 2) rfl (pgs_cons (pg_name (i := 7) nd rfl (by first | exact Or.inl rfl | exact Or.inr rfl)) (pgs_cons (pg_name (i := 8) nd rfl (by first | exact Or.inl rfl | exact Or.inr rfl)) pgs_nil))))) (fun _ _ _ _ _ => (pts_one (pt_cmp (pc_din hu1 (pe_tup (pa_cons (pv 8) (pa_cons (pv 2) pa_nil))) (pv 0))))) (fun _ _ _ _ _ => (pe_op (op_addK (K := K) rfl) (pv 7) (pe_tup (pa_cons (pe_dget hu1 (pv 0) (pe_tup (pa_cons (pv 8) (pa_cons (pv 2) pa_nil))) (fun _ _ => rfl)) pa_nil)))))
    (pss_cons (ps_if (pt_cmpR (op_neK (K := K) rfl hu64) (pv 5) (pe_lst pa_nil) (nomark _))
    (pss_one (ps_ret (pe_callB (cr_minK (K := K) rfl hu64 rfl) rfl W.b_min boot_min (pa_cons (pv 5) pa_nil))))
    pss_nil)
    (pss_cons (ps_set (i := 6) nd rfl (by first | exact Or.inl rfl | exact Or.inr rfl) (pe_lst pa_nil))
    (pss_cons (ps_for PassesOwn.never rfl (pi_listK (K := K) rfl (pv 3)) (pg_tupK (K := K) rfl (pg_tup (n := 2) rfl (pgs_cons (pg_name (i := 7) nd rfl (by first | exact Or.inl rfl | exact Or.inr rfl)) (pgs_cons (pg_name (i := 8) nd rfl (by first | exact Or.inl rfl | exact Or.inr rfl)) pgs_nil))))
    (pss_one (ps_set (i := 6) nd rfl (by first | exact Or.inl rfl | exact Or.inr rfl) (pe_op (op_addK (K := K) rfl) (pv 6) (pe_lc (own := [("other", 9)]) rfl nd (pi_tupK (K := K) rfl (pv 1)) (blkOk_by (own := [("other", 9)]) (N := ["steps", "paths", "start", "row", "seen", "ends", "behind", "uses", "path", "other"]) (sc := defScope sRingFrom) (by decide +kernel)) (fun _ _ _ _ _ => (pg_name (i := 9) nd rfl (by first | exact Or.inl rfl | exact Or.inr rfl))) (fun _ _ _ _ _ => (pts_one (pt_cmp (pc_din hu1 (pe_tup (pa_cons (pv 8) (pa_cons (pv 9) pa_nil))) (pv 0))))) (fun _ _ _ _ _ => (pe_tup (pa_cons (pe_op (op_addK (K := K) rfl) (pv 7) (pe_tup (pa_cons (pe_dget hu1 (pv 0) (pe_tup (pa_cons (pv 8) (pa_cons (pv 9) pa_nil))) (fun _ _ => rfl)) pa_nil))) (pa_cons (pv 9) pa_nil)))))))))
    (pss_cons (ps_set (i := 3) nd rfl (by first | exact Or.inl rfl | exact Or.inr rfl) (pe_lst pa_nil))
    (pss_one (ps_for PassesOwn.never rfl (pi_listK (K := K) rfl (pe_callB (cr_sortK (K := K) rfl hu64) rfl W.b_sorted boot_sorted (pa_cons (pv 6) pa_nil))) (pg_tupK (K := K) rfl (pg_tup (n := 2) rfl (pgs_cons (pg_name (i := 7) nd rfl (by first | exact Or.inl rfl | exact Or.inr rfl)) (pgs_cons (pg_name (i := 8) nd rfl (by first | exact Or.inl rfl | exact Or.inr rfl)) pgs_nil))))
    (pss_one (ps_if (pt_cmpR (op_notInK (K := K) rfl hu64) (pv 8) (pv 4) (by rfl))
    (pss_cons (ps_expr (pe_bm PySem.F.plainAttrs_list PySem.F.slot_list_append PySem.F.type_list_append mt_append (pv 4) (pa_cons (pv 8) pa_nil)))
    (pss_one (ps_expr (pe_bm PySem.F.plainAttrs_list PySem.F.slot_list_append PySem.F.type_list_append mt_append (pv 3) (pa_cons (pe_tup (pa_cons (pv 7) (pa_cons (pv 8) pa_nil))) pa_nil)))))
    pss_nil))))))))))
    (pss_one (ps_ret pe_non)))))), sp_go (fun H0 B0 i hp => ?_) h⟩
  obtain ⟨us, ps, st, kvs⟩ := i
  obtain ⟨h1, h2, h4⟩ := hp
  dsimp only at h1 h2 h4
  refine ss_seq <| ss_newLs (by show 3 < 10; decide) <| ea_cons <| ee_tup <| ea_cons <| ee_tup <| ea_nil ⟨[], rfl, (by decide), ea_cons <| ee_var rfl <| ea_nil ⟨[usE [], .str st], rfl, (by show 2 ≤ 1000000; decide), ea_nil ⟨[rwE ([], st)], rfl, (by show 1 ≤ 1000000; decide), ?_⟩⟩⟩
  refine ss_seq <| ss_newLs (by show 4 < 10; decide) <| ea_cons <| ee_var rfl <| ea_nil ⟨[.str st], rfl, (by show 1 ≤ 1000000; decide), ?_⟩
  refine ss_seq <| ss_while (fun n Γ1 => ∃ row seen a5 a6 a7 a8, Γ1 = [.dat (.dt kvs), cV (.val (sE ps)), cV (dS st), .oL (row.map rwE), .oL (seen.map .str), a5, a6, a7, a8, .unk] ∧ U a5 ∧ U a6 ∧ U a7 ∧ U a8 ∧ RfI us ps st row seen ∧ n = 2 * (101 - seen.length) + (if row = [] then 0 else 1)) _ ⟨[([], st)], [st], .unk, .unk, .unk, .unk, rfl, .inl rfl, .inl rfl, .inl rfl, .inl rfl, ⟨fun x hx => ?_, by simp, fun p hp => .inl ⟨([], st), by simp, ?_⟩, by simp, fun p hp => ?_, by simp⟩, rfl⟩ ?_
  · simp at hx
    subst hx
    exact ⟨.nil, by simp, by simp⟩
  · simp at hp
    exact hp.symm
  · simp at hp
    rw [hp]; exact h4
  rintro n Γ1 ⟨row, seen, a5, a6, a7, a8, rfl, u5, u6, u7, u8, I, hn⟩
  have hsz : seen.length ≤ 100 := Nat.le_trans (nodup_len I.nd I.sub) h2
  have hrz : row.length ≤ 900000 := Nat.le_trans I.rz (by omega)
  refine et_test <| ee_opO1 rfl <| ee_lst <| ea_nil ⟨[], rfl, (by decide), ro1_neNil ⟨_, rfl, fun e => ?_, fun e => ?_⟩⟩
  · have hne : row ≠ [] := fun z => by rw [z] at e; cases e
    refine ss_freeze (i := 3) (.l (row.map rwE)) rfl ?_
    let hs : List Use × Str → Bool := fun x => (getD' kvs [.inr x.2, .inr st]).isSome
    let hv : List Use × Str → List Use := fun x => x.1 ++ [useAt kvs x.2 st]
    refine ss_seq <| ss_set <| ee_lc <| wi_list <| ee_var rfl ⟨row.map rwE, rfl, lc2f usE PyData.str usE hv hs rfl hrz (noOwn_two (x := a7) (y := a8) rfl rfl u7 u8) (fun x hx => ?_) ?_⟩
    · obtain ⟨w, lw, ms⟩ := I.row x hx
      refine et_B <| ee_din (x := .dat (.dt kvs)) rfl (.dt kvs) <| ee_tupF <| ea_cons <| ee_var rfl <| ea_cons <| ee_var rfl <| ea_nil ⟨[.str x.2, .str st], rfl, (by show 2 ≤ 1000000; decide), .t [.inr x.2, .inr st], key_t rfl, trivial, _, rfl, rfl, rfl, fun hx2 => ?_⟩
      obtain ⟨g1, g2, g3⟩ := h1.at_ hx2
      refine ee_op <| ee_var rfl <| ee_tup <| ea_cons <| ee_dget (x := .dat (.dt kvs)) rfl (.dt kvs) <| ee_tupF <| ea_cons <| ee_var rfl <| ea_cons <| ee_var rfl <| ea_nil ⟨[.str x.2, .str st], rfl, (by show 2 ≤ 1000000; decide), .t [.inr x.2, .inr st], uE (useAt kvs x.2 st), key_t rfl, trivial, g1, ea_nil ⟨[uE (useAt kvs x.2 st)], rfl, (by show 1 ≤ 1000000; decide), ro_catT (by rw [List.length_map]; show _ + 1 ≤ _; omega) ⟨rfl, ?_⟩⟩⟩
      show Dat.val (.tuple _) = .val (.tuple _)
      rw [List.map_append]
      rfl
    refine ss_seq <| ss_if <| et_test <| ee_op <| ee_var rfl <| ee_lst <| ea_nil ⟨[], rfl, (by decide), RO1.ro <| ro1_neNil ⟨_, rfl, fun e2 => ?_, fun e2 => ss_next ?_⟩⟩
    · have hne2 : (List.filter hs row).map hv ≠ [] := fun z => by rw [z] at e2; cases e2
      refine ss_ret <| ee_CB <| ea_cons <| ee_var rfl <| ea_nil <| RL1.rl <| rl_min (fun z => hne2 (List.map_eq_nil_iff.mp z)) (allAlike_map alike_us _) (fun d hd => ?_) (fun d hd => ?_) fun d hd => ?_
      · obtain ⟨x, _, rfl⟩ := List.mem_map.mp hd
        exact fun z => by cases z
      · obtain ⟨x, _, rfl⟩ := List.mem_map.mp hd
        exact shal_us x
      · obtain ⟨x, hx, rfl⟩ := List.mem_map.mp hd
        obtain ⟨y, hy, rfl⟩ := List.mem_map.mp hx
        obtain ⟨hy1, hy2⟩ := List.mem_filter.mp hy
        obtain ⟨w, lw, ms⟩ := I.row y hy1
        obtain ⟨g1, g2, g3⟩ := h1.at_ hy2
        refine ⟨some (hv y), rfl, (fun z => by cases z), fun ev hev => ?_⟩
        cases hev
        refine ⟨by simp [hv], .step w g2 g3, ?_⟩
        simp only [hv, List.length_append, List.length_singleton]
        omega
    · have hno : ∀ x ∈ row, ∀ u ∈ us, ¬ Stp' ps u x.2 st := fun x hx u hu s => by
        have q : hs x = true := h1.all u hu _ _ s
        have : hv x ∈ (List.filter hs row).map hv := List.mem_map.mpr ⟨x, List.mem_filter.mpr ⟨hx, q⟩, rfl⟩
        cases z : (List.filter hs row).map hv with
        | nil => rw [z] at this; cases this
        | cons a b => rw [z] at e2; cases e2
      refine ss_seq <| ss_set <| ee_lst <| ea_nil ⟨[], rfl, (by decide), ?_⟩
      refine ss_seq <| ss_for (vs := [7, 8]) <| wi_list <| ee_var rfl ⟨row.map rwE, rfl, fun j Γ1 => ∃ bh x7 x8, Γ1 = [.dat (.dt kvs), cV (.val (sE ps)), cV (dS st), cV (.val (lE rwE row)), .oL (seen.map .str), cV (.val (lE usE ((List.filter hs row).map hv))), cV (.val (lE rwE bh)), x7, x8, .unk] ∧ U x7 ∧ U x8 ∧ bh.length ≤ j * 100 ∧ (∀ x ∈ bh, ∃ y ∈ row, ∃ u ∈ us, x.1 = y.1 ++ [u] ∧ Stp' ps u y.2 x.2 ∧ x.2 ∈ ps) ∧ ∀ y ∈ row.take j, ∀ q ∈ ps, (getD' kvs [.inr y.2, .inr q]).isSome = true → ∃ x ∈ bh, x.2 = q,
        ⟨[], _, _, rfl, u7, u8, by simp, by simp, by simp⟩, fun j d Γ1 hd hI => ?_, fun Γ1 hI => ?_⟩
      · obtain ⟨bh, x7, x8, rfl, v7, v8, b1, b2, b3⟩ := hI
        obtain ⟨y, hy, rfl⟩ := map_get hd
        have hyr := List.mem_of_getElem? hy
        have hj : j < row.length := (List.getElem?_eq_some_iff.mp hy).1
        obtain ⟨w, lw, ms⟩ := I.row y hyr
        have hrz2 := I.rz
        let fs : Str → Bool := fun q => (getD' kvs [.inr y.2, .inr q]).isSome
        let fv : Str → List Use × Str := fun q => (y.1 ++ [useAt kvs y.2 q], q)
        refine sg_pair (d1 := usE y.1) (d2 := .str y.2) (ss_set <| ee_op <| ee_var rfl <| ee_lc <| wi_tup <| ee_var rfl ⟨ps.map .str, rfl, lc1f PyData.str rwE fv fs (by omega) (hno_unk rfl) (fun q hq => ?_) (ro_catL ?_ ?_)⟩) (by simp) (by simp)
        · refine et_B <| ee_din (x := .dat (.dt kvs)) rfl (.dt kvs) <| ee_tupF <| ea_cons <| ee_var rfl <| ea_cons <| ee_var rfl <| ea_nil ⟨[.str y.2, .str q], rfl, (by show 2 ≤ 1000000; decide), .t [.inr y.2, .inr q], key_t rfl, trivial, _, rfl, rfl, rfl, fun hx2 => ?_⟩
          obtain ⟨g1, g2, g3⟩ := h1.at_ hx2
          refine ee_tup <| ea_cons <| ee_op <| ee_var rfl <| ee_tup <| ea_cons <| ee_dget (x := .dat (.dt kvs)) rfl (.dt kvs) <| ee_tupF <| ea_cons <| ee_var rfl <| ea_cons <| ee_var rfl <| ea_nil ⟨[.str y.2, .str q], rfl, (by show 2 ≤ 1000000; decide), .t [.inr y.2, .inr q], uE (useAt kvs y.2 q), key_t rfl, trivial, g1, ea_nil ⟨[uE (useAt kvs y.2 q)], rfl, (by show 1 ≤ 1000000; decide), ro_catT (by rw [List.length_map]; show _ + 1 ≤ _; omega) <| ea_cons <| ee_var rfl <| ea_nil ⟨[usE (y.1 ++ [useAt kvs y.2 q]), .str q], ?_, (by show 2 ≤ 1000000; decide), rfl, rfl⟩⟩⟩
          show [Dat.val (.tuple _), _] = [.val (.tuple _), _]
          rw [List.map_append]
          rfl
        · have : (List.filter fs ps).length ≤ ps.length := List.length_filter_le _ _
          have e4 : j * 100 ≤ 100 * 100 := Nat.mul_le_mul_right 100 (by omega)
          simp only [List.length_map]
          omega
        · refine ⟨bh ++ (List.filter fs ps).map fv, _, _, by rw [← List.map_append]; rfl, .inr ⟨_, rfl⟩, .inr ⟨_, rfl⟩, ?_, fun x hx => ?_, fun z hz q hq hs2 => ?_⟩
          · have : (List.filter fs ps).length ≤ ps.length := List.length_filter_le _ _
            simp only [List.length_append, List.length_map]
            rw [Nat.succ_mul]
            omega
          · rcases List.mem_append.mp hx with z | z
            · exact b2 x z
            · obtain ⟨q, hq, rfl⟩ := List.mem_map.mp z
              obtain ⟨hq1, hq2⟩ := List.mem_filter.mp hq
              obtain ⟨g1, g2, g3⟩ := h1.at_ hq2
              exact ⟨y, hyr, _, g2, rfl, g3, hq1⟩
          · rw [take_snoc hy] at hz
            rcases List.mem_append.mp hz with z2 | z2
            · obtain ⟨x, hx, e⟩ := b3 z z2 q hq hs2
              exact ⟨x, by simp [hx], e⟩
            · simp at z2
              subst z2
              exact ⟨fv q, List.mem_append_right _ (List.mem_map.mpr ⟨q, List.mem_filter.mpr ⟨hq, hs2⟩, rfl⟩), rfl⟩
      · obtain ⟨bh, x7, x8, rfl, v7, v8, b1, b2, b3⟩ := hI
        rw [List.length_map] at b1
        rw [List.length_map, List.take_length] at b3
        have hrz2 := I.rz
        refine ss_seq <| ss_newL (by show 3 < 10; decide) ?_
        obtain ⟨l', pm, el⟩ := perm_of_map (f := rwE) (List.mergeSort_perm (bh.map rwE) (PySem.W.dataLe false id)) rfl
        refine ss_for (vs := [7, 8]) <| wi_list <| ee_CB <| ea_cons <| ee_var rfl <| ea_nil <| RL1.rl <| rl_sort (allAlike_map alike_rw _) ?_ (fun d hd => ?_) ?_
        · refine .inl fun d hd => ?_
          obtain ⟨x, _, rfl⟩ := List.mem_map.mp hd
          exact ⟨_, _, rfl⟩
        · obtain ⟨x, _, rfl⟩ := List.mem_map.mp hd
          exact shal_rw x
        rw [el]
        refine ⟨l'.map rwE, rfl, fun j Γ1 => ∃ rw' x7 x8, Γ1 = [.dat (.dt kvs), cV (.val (sE ps)), cV (dS st), .oL (rw'.map rwE), .oL ((seen ++ rw'.map (·.2)).map .str), cV (.val (lE usE ((List.filter hs row).map hv))), cV (.val (lE rwE bh)), x7, x8, .unk] ∧ U x7 ∧ U x8 ∧ (∀ x ∈ rw', x ∈ bh) ∧ (seen ++ rw'.map (·.2)).Nodup ∧ (∀ p ∈ seen ++ rw'.map (·.2), p ∈ ps) ∧ ∀ x ∈ l'.take j, x.2 ∈ seen ++ rw'.map (·.2),
          ⟨[], _, _, by simp, v7, v8, by simp, by simpa using I.nd, by simpa using I.sub, by simp⟩, fun j d Γ1 hd hI => ?_, fun Γ1 hI => ?_⟩
        · obtain ⟨rw', x7, x8, rfl, v7, v8, c1, c2, c3, c4⟩ := hI
          obtain ⟨x, hx, rfl⟩ := map_get hd
          have hxb : x ∈ bh := pm.mem_iff.mp (List.mem_of_getElem? hx)
          have hz5 : (seen ++ rw'.map (·.2)).length ≤ 100 := Nat.le_trans (nodup_len c2 c3) h2
          have hz6 : seen.length + rw'.length ≤ 100 := by simpa using hz5
          refine sg_pair (d1 := usE x.1) (d2 := .str x.2) (ss_if <| et_test <| ee_opO2 (i := 4) rfl <| ee_var rfl <| ro2_ninE eqe_str (shal_str _) ⟨_, rfl, fun e5 => ?_, fun e5 => ss_next ⟨rw', _, _, rfl, .inr ⟨_, rfl⟩, .inr ⟨_, rfl⟩, c1, c2, c3, fun z hz => ?_⟩⟩) (by simp) (by simp)
          · have hnin : x.2 ∉ seen ++ rw'.map (·.2) := by simpa using e5
            refine ss_seq <| ss_append (ds0 := (seen ++ rw'.map (·.2)).map .str) (ee_var rfl ⟨.str x.2, _, rfl, rfl, (by rw [List.length_map]; omega), ?_⟩) rfl
            refine ss_append (ds0 := rw'.map rwE) (ee_tup <| ea_cons <| ee_var rfl <| ea_cons <| ee_var rfl <| ea_nil ⟨[usE x.1, .str x.2], rfl, (by show 2 ≤ 1000000; decide), _, _, rfl, rfl, (by rw [List.length_map]; omega), ?_⟩) rfl
            have e7 : seen ++ (rw' ++ [x]).map (·.2) = (seen ++ rw'.map (·.2)) ++ [x.2] := by simp
            refine ⟨rw' ++ [x], _, _, by rw [e7]; simp only [List.map_append]; rfl, .inr ⟨_, rfl⟩, .inr ⟨_, rfl⟩, fun z hz => ?_, ?_, fun p hp => ?_, fun z hz => ?_⟩
            · rcases List.mem_append.mp hz with q | q
              · exact c1 z q
              · simp at q
                rw [q]; exact hxb
            · rw [e7]
              refine List.nodup_append.mpr ⟨c2, by simp, fun a ha b hb => ?_⟩
              simp only [List.mem_singleton] at hb
              subst hb
              exact fun z => hnin (z ▸ ha)
            · rw [e7] at hp
              rcases List.mem_append.mp hp with q | q
              · exact c3 p q
              · simp only [List.mem_singleton] at q
                obtain ⟨_, _, _, _, _, _, g⟩ := b2 x hxb
                rw [q]; exact g
            · rw [e7]
              rw [take_snoc hx] at hz
              rcases List.mem_append.mp hz with q | q
              · exact List.mem_append_left _ (c4 z q)
              · simp only [List.mem_singleton] at q
                rw [q]; simp
          · rw [take_snoc hx] at hz
            rcases List.mem_append.mp hz with q | q
            · exact c4 z q
            · simp only [List.mem_singleton] at q
              rw [q]
              simpa using e5
        · obtain ⟨rw', x7, x8, rfl, v7, v8, c1, c2, c3, c4⟩ := hI
          rw [List.length_map, List.take_length] at c4
          have hz5 : (seen ++ rw'.map (·.2)).length ≤ 100 := Nat.le_trans (nodup_len c2 c3) h2
          have hz6 : seen.length + rw'.length ≤ 100 := by simpa using hz5
          refine ⟨_, ?_, rw', _, _, _, _, _, rfl, .inr ⟨_, rfl⟩, .inr ⟨_, rfl⟩, v7, v8, ⟨fun x hx => ?_, List.mem_append_left _ I.has, fun p hp => ?_, c2, c3, by omega⟩, rfl⟩
          · rw [hn, if_neg hne, List.length_append, List.length_map]
            cases rw' with
            | nil => rw [if_pos rfl]; simp
            | cons a l => rw [if_neg (by simp)]; simp only [List.length_cons] at hz6 ⊢; omega
          · obtain ⟨y, hy, u, hu, e1, e2, e3⟩ := b2 x (c1 x hx)
            obtain ⟨w, lw, ms⟩ := I.row y hy
            obtain ⟨x1, x2⟩ := x
            dsimp only at e1 e2 e3
            subst e1
            refine ⟨.step w hu e2, ?_, List.mem_append_right _ (List.mem_map.mpr ⟨_, hx, rfl⟩)⟩
            have : 0 < rw'.length := List.length_pos_of_mem hx
            simp only [List.length_append, List.length_map, List.length_singleton]
            omega
          · by_cases hp2 : ∃ x ∈ rw', x.2 = p
            · exact .inl hp2
            · have hps : p ∈ seen := by
                rcases List.mem_append.mp hp with q | q
                · exact q
                · obtain ⟨x, hx, e⟩ := List.mem_map.mp q
                  exact absurd ⟨x, hx, e⟩ hp2
              refine .inr fun u hu q s => ?_
              rcases I.old p hps with ⟨x, hx, e⟩ | cl
              · subst e
                refine ⟨fun z => hno x hx u hu (z ▸ s), ?_⟩
                obtain ⟨z, hz, e⟩ := b3 x hx q (home_in s.2.1) (h1.all u hu _ _ s)
                rw [← e]
                exact c4 z (pm.mem_iff.mpr hz)
              · exact ⟨(cl u hu q s).1, List.mem_append_left _ (cl u hu q s).2⟩
  · have he : row = [] := by
      cases row with
      | nil => rfl
      | cons x l => cases e
    subst he
    refine ss_ret <| ee_non ⟨none, rfl, fun _ ev hev w => ?_, fun ev h => by cases h⟩
    have cl : ∀ p ∈ seen, ∀ u ∈ us, ∀ q, Stp' ps u p q → q ≠ st ∧ q ∈ seen := fun p hp => by
      rcases I.old p hp with ⟨x, hx, _⟩ | z
      · cases hx
      · exact z
    exact sw_no cl I.has w hev rfl
end
end My
end P6_
section P7_
set_option maxHeartbeats 1000000
namespace My
open PySem PySem.Spec PyProof.Rows L2 LamX
theorem SW.trans {us : List Use} {ps : List Str} {p q r : Str} {e1 e2 : List Use} (w1 : SW us ps p q e1) (w2 : SW us ps q r e2) : SW us ps p r (e1 ++ e2) := by
  induction w2 with
  | nil => rw [List.append_nil]; exact w1
  | step _ hu s ih => rw [← List.append_assoc]; exact .step ih hu s
/-- a finite strict order has a last one -/
theorem last_of {α : Type} {R : α → α → Prop} (irr : ∀ a, ¬ R a a) (tr : ∀ a b c, R a b → R b c → R a c) : ∀ l : List α, l ≠ [] → ∃ m ∈ l, ∀ x ∈ l, ¬ R m x
  | [], h => absurd rfl h
  | [a], _ => ⟨a, by simp, fun x hx => by simp at hx; rw [hx]; exact irr a⟩
  | a :: b :: l, _ => by
    obtain ⟨m, hm, h⟩ := last_of irr tr (b :: l) (by simp)
    by_cases e : R m a
    · refine ⟨a, by simp, fun x hx r => ?_⟩
      rcases List.mem_cons.mp hx with z | z
      · exact irr a (z ▸ r)
      · exact h x z (tr _ _ _ e r)
    · refine ⟨m, List.mem_cons_of_mem _ hm, fun x hx r => ?_⟩
      rcases List.mem_cons.mp hx with z | z
      · exact e (z ▸ r)
      · exact h x z r
/-- a ring has a walk back to its start -/
theorem ring_walk {us : List Use} {ps : List Str} (h : ringP us ps) : ∃ p ∈ ps, ∃ ev, ev ≠ [] ∧ SW us ps p p ev := by
  apply Classical.byContradiction
  intro no
  obtain ⟨S, hne, hsub, hst⟩ := h
  obtain ⟨m, hm, hl⟩ := last_of (R := fun p q => p ∈ ps ∧ ∃ ev, ev ≠ [] ∧ SW us ps p q ev) (fun a ⟨ha, ev, h1, h2⟩ => no ⟨a, ha, ev, h1, h2⟩) (fun a b c ⟨ha, ev, h1, h2⟩ ⟨_, ev2, h3, h4⟩ => ⟨ha, ev ++ ev2, by simp [h1], h2.trans h4⟩) S hne
  obtain ⟨q, hq, u, hu, st⟩ := hst m hm
  exact hl q hq ⟨hsub m hm, [u], by simp, SW.step .nil hu st⟩
abbrev spRB (K : PySem.W.Frag) (T : List (Addr × Str)) : Sp := SpI K T (fun i : List Str × List Use => [.val (sE i.1), .val (usE i.2)]) (fun i => (∀ p ∈ i.1, ShortS p) ∧ i.1.length ≤ 100 ∧ i.2.length ≤ 1000 ∧ ∀ u ∈ i.2, ShortS u.1 ∧ ShortS u.2)
  (fun i x => ∃ evs, x = .val (lE usE evs) ∧ evs.length ≤ 100 ∧ (ringP i.2 i.1 → evs ≠ []) ∧ ∀ ev ∈ evs, ev ≠ [] ∧ ev.length ≤ 2000 ∧ (∀ u ∈ ev, u ∈ i.2) ∧ ∀ us', (∀ u ∈ ev, u ∈ us') → ringP us' i.1)
abbrev spAB (K : PySem.W.Frag) (T : List (Addr × Str)) : Sp := SpI K T (fun i : List Str × List Use × Rule => [.val (sE i.1), .val (usE i.2.1), .val (rE i.2.2)]) (fun i => CaseOk i.1 i.2.1 ∧ RuleOk i.2.2)
  (fun i x => ∃ evs, x = .val (lE usE evs) ∧ evs.length ≤ 900000 ∧ (brk i.1 i.2.1 i.2.2 → evs ≠ []) ∧ ∀ ev ∈ evs, EvB i.1 i.2.1 i.2.2 ev)
section
variable {P : Program} {w : World} {K : PySem.W.Frag} {mg : Str → Option Value} {base : Heap} {T : List (Addr × Str)}
theorem sc_ring_breaks : FnScope ["paths", "uses", "steps", "found", "path", "evidence"] ["paths", "uses"] (defScope sRingBreaks) := ⟨rfl, rfl, rfl, by decide +kernel, rfl, by decide +kernel, by decide +kernel⟩
theorem ok_ring_breaks (W : Wd K mg) : DefOk P w K mg base "ring_breaks" ["paths", "uses"] 4 (spRB K T) := by
  obtain ⟨f, fd, hm, F⟩ := W.f_ring_breaks
  have D_ring_from := ok_ring_from (P := P) (w := w) (base := base) (T := T) W
  have D_steps_between := ok_steps_between (P := P) (w := w) (base := base) (T := T) W
  refine ⟨f, fd, hm, F.kp, F.bindsN fun _ _ _ _ _ _ us hl => match us, hl with | [_, _], _ => rfl, F.ok sc_ring_breaks (sp_len fun _ => rfl) fun cdv A outer s H vs Q E hr h => ?_⟩
  have nd := sc_ring_breaks.nd
  have hu64 := hr.units
  have hu1 := hu_of hr
  refine ⟨_, PSs.nox ((pss_cons (ps_set (i := 2) nd rfl (by first | exact Or.inl rfl | exact Or.inr rfl) (pe_callD D_steps_between (hr.mono (by decide)) rfl (pa_cons (pv 0) (pa_cons (pv 1) pa_nil))))
    (pss_cons (ps_setLc (i := 3) (own := [("path", 4)]) rfl nd rfl rfl (sw_true rfl rfl rfl (by decide +kernel)) (pi_tupK (K := K) rfl (pv 0)) (blkOk_by (own := [("path", 4)]) (N := ["paths", "uses", "steps", "found", "path", "evidence"]) (sc := defScope sRingBreaks) (by decide +kernel)) (fun _ _ _ _ _ => (pg_name (i := 4) nd rfl (by first | exact Or.inl rfl | exact Or.inr rfl))) (fun _ _ _ _ _ => pts_nil) (fun _ _ _ _ _ => (pe_callD D_ring_from (hr.mono (by decide)) rfl (pa_cons (pv 2) (pa_cons (pv 0) (pa_cons (pv 4) pa_nil))))))
    (pss_one (ps_ret (pe_lc (own := [("evidence", 5)]) rfl nd (pi_listK (K := K) rfl (pv 3)) (blkOk_by (own := [("evidence", 5)]) (N := ["paths", "uses", "steps", "found", "path", "evidence"]) (sc := defScope sRingBreaks) (by decide +kernel)) (fun _ _ _ _ _ => (pg_name (i := 5) nd rfl (by first | exact Or.inl rfl | exact Or.inr rfl))) (fun _ _ _ _ _ => (pts_one (pt_cmp (pc_notN (pv 5))))) (fun _ _ _ _ _ => (pv 5)))))))), sp_go (fun H0 B0 i hp => ?_) h⟩
  obtain ⟨ps, us⟩ := i
  obtain ⟨h1, h2, h3, h4⟩ := hp
  dsimp only at h1 h2 h3 h4
  refine ss_seq <| ss_set <| ee_call rfl rfl <| ea_cons <| ee_var rfl <| ea_cons <| ee_var rfl <| ea_nil ⟨(ps, us), rfl, ⟨h1, h3, h4⟩, fun x ⟨kvs, ex, hk⟩ => ?_⟩
  subst ex
  refine ss_seq <| ss_set <| ee_lc <| wi_tup <| ee_var rfl ⟨ps.map .str, rfl, lc1r PyData.str (oE usE) (fun p o => (o = none → ∀ ev, ev ≠ [] → ¬ SW us ps p p ev) ∧ ∀ ev, o = some ev → ev ≠ [] ∧ SW us ps p p ev ∧ ev.length ≤ 2000) (by omega) (hno_unk rfl) (fun p hp => ?_) fun os fa => ?_⟩
  · exact ee_call rfl rfl <| ea_cons <| ee_var rfl <| ea_cons <| ee_var rfl <| ea_cons <| ee_var rfl <| ea_nil ⟨(us, ps, p, kvs), rfl, ⟨hk, h2, hp⟩, fun x ⟨o, ex, o1, o2⟩ => ⟨rfl, o, ⟨o1, o2⟩, ex⟩⟩
  have hl := fa2_len fa
  refine ss_ret <| ee_lc <| wi_list <| ee_var rfl ⟨os.map (oE usE), rfl, lc1f (oE usE) usE (fun o => o.getD []) Option.isSome (by omega) (hno_unk rfl) (fun o ho => ?_) ⟨(os.filter Option.isSome).map fun o => o.getD [], rfl, ?_, fun rg => ?_, fun ev hev => ?_⟩⟩
  · cases o with
    | none => exact et_B <| ee_notN <| ee_var rfl ⟨_, rfl, _, rfl, rfl, rfl, fun z => by cases z⟩
    | some ev => exact et_B <| ee_notN <| ee_var rfl ⟨_, rfl, _, rfl, rfl, rfl, fun _ => ee_var rfl ⟨rfl, rfl⟩⟩
  · have := List.length_filter_le Option.isSome os
    rw [List.length_map]
    omega
  · obtain ⟨p, hp, ev, hev, w⟩ := ring_walk rg
    obtain ⟨o, ho, o1, o2⟩ := fa2_mem fa p hp
    cases o with
    | none => exact absurd w (o1 rfl ev hev)
    | some ev2 =>
      intro z
      have : (some ev2).getD [] ∈ (os.filter Option.isSome).map fun o => o.getD [] := List.mem_map.mpr ⟨_, List.mem_filter.mpr ⟨ho, rfl⟩, rfl⟩
      rw [z] at this
      cases this
  · obtain ⟨o, ho, rfl⟩ := List.mem_map.mp hev
    obtain ⟨ho1, ho2⟩ := List.mem_filter.mp ho
    obtain ⟨p, hp, o1, o2⟩ := fa2_mem2 fa o ho1
    cases o with
    | none => cases ho2
    | some ev =>
      obtain ⟨g1, g2, g3⟩ := o2 ev rfl
      exact ⟨g1, g3, g2.sub, fun us' hs => g2.ring g1 hs⟩
theorem sc_all_breaks : FnScope ["modules", "uses", "rule", "use"] ["modules", "uses", "rule"] (defScope sAllBreaks) := ⟨rfl, rfl, rfl, by decide +kernel, rfl, by decide +kernel, by decide +kernel⟩
theorem ok_all_breaks (W : Wd K mg) : DefOk P w K mg base "all_breaks" ["modules", "uses", "rule"] 5 (spAB K T) := by
  obtain ⟨f, fd, hm, F⟩ := W.f_all_breaks
  have D_is_barred := ok_is_barred (P := P) (w := w) (base := base) (T := T) W
  have D_place_of := ok_place_of (P := P) (w := w) (base := base) (T := T) W
  have D_is_chained := ok_is_chained (P := P) (w := w) (base := base) (T := T) W
  have D_chain_breaks := ok_chain_breaks (P := P) (w := w) (base := base) (T := T) W
  have D_ring_breaks := ok_ring_breaks (P := P) (w := w) (base := base) (T := T) W
  refine ⟨f, fd, hm, F.kp, F.bindsN fun _ _ _ _ _ _ us hl => match us, hl with | [_, _, _], _ => rfl, F.ok sc_all_breaks (sp_len fun _ => rfl) fun cdv A outer s H vs Q E hr h => ?_⟩
  have nd := sc_all_breaks.nd
  have hu64 := hr.units
  have hu1 := hu_of hr
  refine ⟨_, PSs.nox ((pss_cons (ps_if (pt_cmpR (op_eqK (K := K) rfl hu64) (pe_ix (ix_seqK (K := K) rfl) (pv 2) pe_int (fun _ _ => rfl)) pe_str (nomark _))
    (pss_one (ps_ret (pe_callD D_ring_breaks (hr.mono (by decide)) rfl (pa_cons (pe_ix (ix_seqK (K := K) rfl) (pv 2) pe_int (fun _ _ => rfl)) (pa_cons (pv 1) pa_nil)))))
    pss_nil)
    (pss_cons (ps_if (pt_val (pe_callD D_is_chained (hr.mono (by decide)) rfl (pa_cons (pv 2) pa_nil)))
    (pss_one (ps_ret (pe_callD D_chain_breaks (hr.mono (by decide)) rfl (pa_cons (pv 0) (pa_cons (pv 1) (pa_cons (pv 2) pa_nil))))))
    pss_nil)
    (pss_one (ps_ret (pe_lc (own := [("use", 3)]) rfl nd (pi_tupK (K := K) rfl (pv 1)) (blkOk_by (own := [("use", 3)]) (N := ["modules", "uses", "rule", "use"]) (sc := defScope sAllBreaks) (by decide +kernel)) (fun _ _ _ _ _ => (pg_name (i := 3) nd rfl (by first | exact Or.inl rfl | exact Or.inr rfl))) (fun _ _ _ _ _ => (pts_one (pt_val (pe_callD D_is_barred (hr.mono (by decide)) rfl (pa_cons (pv 2) (pa_cons (pe_callD D_place_of (hr.mono (by decide)) rfl (pa_cons (pv 2) (pa_cons (pe_ix (ix_seqK (K := K) rfl) (pv 3) pe_int (fun _ _ => rfl)) pa_nil))) (pa_cons (pe_callD D_place_of (hr.mono (by decide)) rfl (pa_cons (pv 2) (pa_cons (pe_ix (ix_seqK (K := K) rfl) (pv 3) pe_int (fun _ _ => rfl)) pa_nil))) pa_nil))))))) (fun _ _ _ _ _ => (pe_tup (pa_cons (pv 3) pa_nil))))))))), sp_go (fun H0 B0 i hp => ?_) h⟩
  obtain ⟨ms, us, r⟩ := i
  obtain ⟨ok, rok⟩ := hp
  dsimp only at ok rok
  have hm := ok.m
  have hu0 := ok.u
  refine ss_seq <| ss_if <| et_test <| ee_keq (r := r) rfl ⟨_, rfl, fun e => ?_, fun e => ss_next ?_⟩
  · cases r with
    | noring p =>
      have e1 : isRing (.noring p) = true := rfl
      refine ss_ret <| ee_call rfl rfl <| ea_cons <| ee_item (n := 1) (r := .noring p) rfl rfl <| ea_cons <| ee_var rfl <| ea_nil ⟨(p, us), rfl, ⟨rok.par_short, ?_, hu0, fun u hu => ⟨ok.s _ (ok.us u hu).1, ok.s _ (ok.us u hu).2⟩⟩, fun x ⟨evs, ex, q1, q2, q3⟩ => ⟨evs, ex, by omega, fun b => q2 ?_, fun ev hev => ?_⟩⟩
      · have := rok.2.2.1
        dsimp only at this ⊢
        omega
      · unfold brk at b
        rw [if_pos e1] at b
        exact b
      · obtain ⟨g1, g2, g3, g4⟩ := q3 ev hev
        exact ⟨g1, g3, fun us' hs => by unfold brk; rw [if_pos e1]; exact g4 us' hs, g2⟩
    | forbid s t c => exact nft e
    | layers r c => exact nft e
    | stairs r => exact nft e
    | apart p c => exact nft e
    | only t u => exact nft e
    | face h x => exact nft e
  have ring : isRing r = false := by
    cases r with
    | noring p => exact ntf e
    | forbid s t c => rfl
    | layers r c => rfl
    | stairs r => rfl
    | apart p c => rfl
    | only t u => rfl
    | face h x => rfl
  have nr : ¬ isRing r = true := by rw [ring]; exact fun z => by cases z
  refine ss_seq <| ss_if <| et_B <| ee_call rfl rfl <| ea_cons <| ee_var rfl <| ea_nil ⟨r, rfl, trivial, fun x ex => ⟨_, ex, fun e2 => ?_, fun e2 => ss_next ?_⟩⟩
  · refine ss_ret <| ee_call rfl rfl <| ea_cons <| ee_var rfl <| ea_cons <| ee_var rfl <| ea_cons <| ee_var rfl <| ea_nil ⟨(ms, us, r), rfl, ⟨ok, rok, ring⟩, fun x ⟨evs, ex, q1, q2, q3⟩ => ⟨evs, ex, q1, fun b => q2 ?_, fun ev hev => ?_⟩⟩
    · unfold brk at b
      rw [if_neg nr, if_pos e2] at b
      exact b
    · obtain ⟨g1, g2, g3, g4⟩ := q3 ev hev
      exact ⟨g1, g3, fun us' hs => by unfold brk; rw [if_neg nr, if_pos e2]; exact g4 us' hs, g2⟩
  have nc : ¬ isChain r = true := by rw [e2]; exact fun z => by cases z
  refine ss_ret <| ee_lc <| wi_tup <| ee_var rfl ⟨us.map uE, rfl, lc1f uE usE (fun u => [u]) (fun u => barred r u.1 u.2) (by omega) (hno_unk rfl) (fun u hu => ?_) ⟨(us.filter fun u => barred r u.1 u.2).map fun u => [u], rfl, ?_, fun b => ?_, fun ev hev => ?_⟩⟩
  · have sh1 := ok.s _ (ok.us u hu).1
    have sh2 := ok.s _ (ok.us u hu).2
    refine et_B <| ee_call rfl rfl <| ea_cons <| ee_var rfl <| ea_cons <| ee_call rfl rfl <| ea_cons <| ee_var rfl <| ea_cons <| ee_op <| ee_var rfl <| ee_int <| ro_ixT (d := .str u.1) rfl <| ea_nil ⟨(r, u.1), rfl, ⟨rok, sh1⟩, fun x1 ex1 => ea_cons <| ee_call rfl rfl <| ea_cons <| ee_var rfl <| ea_cons <| ee_op <| ee_var rfl <| ee_int <| ro_ixT (d := .str u.2) rfl <| ea_nil ⟨(r, u.2), rfl, ⟨rok, sh2⟩, fun x2 ex2 => ea_nil ⟨(r, u.1, u.2), by rw [ex1, ex2], ring, fun x3 ex3 => ⟨_, ex3, rfl, rfl, fun _ => ee_tup <| ea_cons <| ee_var rfl <| ea_nil ⟨[uE u], rfl, (by show 1 ≤ 1000000; decide), rfl, rfl⟩⟩⟩⟩⟩
  · have := List.length_filter_le (fun u : Use => barred r u.1 u.2) us
    rw [List.length_map]
    omega
  · unfold brk at b
    rw [if_neg nr, if_neg nc] at b
    obtain ⟨u, hu, hb⟩ := b
    intro z
    have : [u] ∈ (us.filter fun u => barred r u.1 u.2).map fun u => [u] := List.mem_map.mpr ⟨u, List.mem_filter.mpr ⟨hu, hb⟩, rfl⟩
    rw [z] at this
    cases this
  · obtain ⟨u, hu, rfl⟩ := List.mem_map.mp hev
    obtain ⟨hu1, hu2⟩ := List.mem_filter.mp hu
    exact ⟨by simp, fun v hv => by simp at hv; rw [hv]; exact hu1, fun us' hs => by unfold brk; rw [if_neg nr, if_neg nc]; exact ⟨u, hs u (by simp), hu2⟩, by simp⟩
end
end My
end P7_
section P8_
set_option maxHeartbeats 1000000
namespace My
open PySem PySem.Spec PyProof.Rows L2 LamX
abbrev spFO (K : PySem.W.Frag) (T : List (Addr × Str)) : Sp := SpI K T (fun i : List (List Use) => [.val (lE usE i)]) (fun i => i.length ≤ 900000)
  (fun i x => ∃ o, x = .val (oE usE o) ∧ (o = none → i = []) ∧ ∀ ev, o = some ev → ev ∈ i)
abbrev spFB (K : PySem.W.Frag) (T : List (Addr × Str)) : Sp := SpI K T (fun i : List Str × List Use × Rule => [.val (sE i.1), .val (usE i.2.1), .val (rE i.2.2)]) (fun i => CaseOk i.1 i.2.1 ∧ RuleOk i.2.2)
  (fun i x => ∃ o, x = .val (oE usE o) ∧ (o = none → ¬ brk i.1 i.2.1 i.2.2) ∧ ∀ ev, o = some ev → EvB i.1 i.2.1 i.2.2 ev)
abbrev natE (n : Nat) : PyData := .int (n : Int)
abbrev Fnd := Nat × List Use
abbrev fE : Fnd → PyData := pE natE usE
abbrev rulesE : List Rule → PyData := tE rE
theorem alike_nat (x y : Nat) : PySem.W.alike (natE x) (natE y) = true := alike_int _ _
theorem alike_f : ∀ x y : Fnd, PySem.W.alike (fE x) (fE y) = true := alike_pE alike_nat alike_us
theorem dep_f (x : Fnd) : (fE x).depth ≤ 4 := dep_pE (f := natE) (g := usE) (n := 3) (fun x => by show PyData.depth (.int _) ≤ _; rw [PyData.depth]; omega) (fun x => dep_us x) x
theorem shal_f (x : Fnd) : Shal (fE x) := by have := dep_f x; unfold Shal; omega
structure BookOk (rs : List Rule) : Prop where
  n : rs.length ≤ 100
  ok : ∀ r ∈ rs, RuleOk r
/-- some rule is broken -/
def brkAny (rs : List Rule) (ms : List Str) (us : List Use) : Prop := ∃ r ∈ rs, brk ms us r
theorem brkAny_mono {rs : List Rule} {ms : List Str} {us us' : List Use} (h : ∀ u ∈ us, u ∈ us') (b : brkAny rs ms us) : brkAny rs ms us' := let ⟨r, hr, hb⟩ := b; ⟨r, hr, brk_mono h hb⟩
/-- a finding's evidence -/
structure FdB (rs : List Rule) (ms : List Str) (us : List Use) (ev : List Use) : Prop where
  ne : ev ≠ []
  sub : ∀ u ∈ ev, u ∈ us
  brk : ∀ us', (∀ u ∈ ev, u ∈ us') → brkAny rs ms us'
  sz : ev.length ≤ 2000
abbrev spFind (K : PySem.W.Frag) (T : List (Addr × Str)) : Sp := SpI K T (fun i : List Rule × List Str × List Use => [.val (rulesE i.1), .val (sE i.2.1), .val (usE i.2.2)]) (fun i => CaseOk i.2.1 i.2.2 ∧ BookOk i.1)
  (fun i x => ∃ fs : List Fnd, x = .val (tE fE fs) ∧ fs.length ≤ 100 ∧ (fs = [] → ¬ brkAny i.1 i.2.1 i.2.2) ∧ ∀ f ∈ fs, FdB i.1 i.2.1 i.2.2 f.2)
def wo (us cs : List Use) : List Use := us.filter fun u => !decide (u ∈ cs)
theorem mem_wo {us cs : List Use} {u : Use} : u ∈ wo us cs ↔ u ∈ us ∧ u ∉ cs := by
  unfold wo
  simp
theorem wo_len (us cs : List Use) : (wo us cs).length ≤ us.length := List.length_filter_le _ _
theorem CaseOk.wo {ms : List Str} {us cs : List Use} (h : CaseOk ms us) : CaseOk ms (wo us cs) := ⟨h.m, Nat.le_trans (wo_len us cs) h.u, h.s, fun u hu => h.us u (mem_wo.mp hu).1⟩
abbrev spWo (K : PySem.W.Frag) (T : List (Addr × Str)) : Sp := SpI K T (fun i : List Use × List Use => [.val (usE i.1), .val (usE i.2)]) (fun i => i.1.length ≤ 1000) (fun i x => x = .val (usE (wo i.1 i.2)))
abbrev spSB (K : PySem.W.Frag) (T : List (Addr × Str)) : Sp := SpI K T (fun i : List Rule × List Str × List Use => [.val (rulesE i.1), .val (sE i.2.1), .val (usE i.2.2)]) (fun i => CaseOk i.2.1 i.2.2 ∧ BookOk i.1)
  (fun i x => ∃ o : Option Fnd, x = .val (oE fE o) ∧ (o = none → ¬ brkAny i.1 i.2.1 i.2.2) ∧ ∀ f, o = some f → FdB i.1 i.2.1 i.2.2 f.2)
/-- findings, no two with a use in common -/
structure Apart (rs : List Rule) (ms : List Str) (us : List Use) (most : Nat) (fs : List Fnd) : Prop where
  n : fs.length ≤ most
  none : 0 < most → fs = [] → ¬ brkAny rs ms us
  ok : ∀ f ∈ fs, FdB rs ms us f.2
  dis : fs.Pairwise fun a b => ∀ u ∈ a.2, u ∉ b.2
structure BaI (rs : List Rule) (ms : List Str) (us : List Use) (most : Nat) (uk : List Use) (fs : List Fnd) : Prop where
  ok : CaseOk ms uk
  sub : ∀ u ∈ uk, u ∈ us
  n : fs.length ≤ most
  each : ∀ f ∈ fs, FdB rs ms us f.2
  dis : fs.Pairwise fun a b => ∀ u ∈ a.2, u ∉ b.2
  out : ∀ f ∈ fs, ∀ u ∈ f.2, u ∉ uk
  first : fs = [] → uk = us
abbrev spBA (K : PySem.W.Frag) (T : List (Addr × Str)) : Sp := SpI K T (fun i : List Rule × List Str × List Use × Nat => [.val (rulesE i.1), .val (sE i.2.1), .val (usE i.2.2.1), dI i.2.2.2]) (fun i => CaseOk i.2.1 i.2.2.1 ∧ BookOk i.1 ∧ i.2.2.2 ≤ 1000)
  (fun i x => ∃ fs : List Fnd, x = .val (lE fE fs) ∧ Apart i.1 i.2.1 i.2.2.1 i.2.2.2 fs)
section
variable {P : Program} {w : World} {K : PySem.W.Frag} {mg : Str → Option Value} {base : Heap} {T : List (Addr × Str)}
theorem sc_first_of : FnScope ["evidence"] ["evidence"] (defScope sFirstOf) := ⟨rfl, rfl, rfl, by decide +kernel, rfl, by decide +kernel, by decide +kernel⟩
theorem ok_first_of (W : WdL K mg base T) : DefOk P w K mg base "first_of" ["evidence"] 3 (spFO K T) := by
  obtain ⟨f, fd, c, Pt, hm, F, hcode, TB, hmT, huT⟩ := W.l_first_of
  refine ⟨f, fd, hm, F.kp, F.bindsN fun _ _ _ _ _ _ us hl => match us, hl with | [_], _ => rfl, lam_ok F hcode sc_first_of (sp_len fun _ => rfl) fun A outer s H vs Q E hr h => ?_⟩
  have nd := sc_first_of.nd
  have hu64 := hr.units
  have hu1 := hu_of hr
  refine ⟨_, PSs.nox ((pss_one (ps_ret (by refine pe_minKey (tb := tbLen K) (k := 0) (a := "uses") (g := gLen) (c := c) (P := Pt) (hr.mono (by decide)) hu64 rfl W.b_min rfl (pa_cons (pv 0) pa_nil) pe_non TB rfl hmT huT rfl ?h1 rfl ?h2 ?h3 ?h4; (case h1 => exact (by decide)); (case h2 => exact ⟨rfl, rfl, rfl, by decide +kernel, rfl, by decide +kernel, by decide +kernel⟩); (case h3 => exact (fun _ _ _ _ => rfl)); (case h4 => exact (fun f cdv A outer s H hr => (pe_tup (pa_cons (pe_callB (cr_lenK (K := K) rfl) rfl W.b_len boot_len (pa_cons (pv 0) pa_nil)) (pa_cons (pv 0) pa_nil))))))))), sp_go (fun H0 B0 i hp => ?_) h⟩
  refine ss_ret <| ee_min rfl <| ee_var rfl ⟨i.map usE, .inl rfl, allAlike_map alike_us _, fun d hd => ?_, fun d hd => ?_, fun e => ⟨none, rfl, fun _ => List.map_eq_nil_iff.mp e, fun _ h => by cases h⟩, fun d hd => ?_⟩
  all_goals obtain ⟨ev, hev, rfl⟩ := List.mem_map.mp hd
  · exact shal_us ev
  · exact key_len rfl
  · exact ⟨some ev, rfl, (fun z => by cases z), fun ev' h => by cases h; exact hev⟩
theorem sc_first_break : FnScope ["modules", "uses", "rule"] ["modules", "uses", "rule"] (defScope sFirstBreak) := ⟨rfl, rfl, rfl, by decide +kernel, rfl, by decide +kernel, by decide +kernel⟩
theorem ok_first_break (W : WdL K mg base T) : DefOk P w K mg base "first_break" ["modules", "uses", "rule"] 6 (spFB K T) := by
  obtain ⟨f, fd, hm, F⟩ := W.f_first_break
  have D_first_of := ok_first_of (P := P) (w := w) (base := base) (T := T) W
  have D_all_breaks := ok_all_breaks (P := P) (w := w) (base := base) (T := T) W.toWd
  refine ⟨f, fd, hm, F.kp, F.bindsN fun _ _ _ _ _ _ us hl => match us, hl with | [_, _, _], _ => rfl, F.ok sc_first_break (sp_len fun _ => rfl) fun cdv A outer s H vs Q E hr h => ?_⟩
  have nd := sc_first_break.nd
  have hu64 := hr.units
  have hu1 := hu_of hr
  refine ⟨_, PSs.nox ((pss_one (ps_ret (pe_callD D_first_of (hr.mono (by decide)) rfl (pa_cons (pe_callD D_all_breaks (hr.mono (by decide)) rfl (pa_cons (pv 0) (pa_cons (pv 1) (pa_cons (pv 2) pa_nil)))) pa_nil))))), sp_go (fun H0 B0 i hp => ?_) h⟩
  obtain ⟨ms, us, r⟩ := i
  refine ss_ret <| ee_call rfl rfl <| ea_cons <| ee_call rfl rfl <| ea_cons <| ee_var rfl <| ea_cons <| ee_var rfl <| ea_cons <| ee_var rfl <| ea_nil ⟨(ms, us, r), rfl, hp, fun x ⟨evs, ex, q1, q2, q3⟩ => ea_nil ⟨evs, by rw [ex], q1, fun y ⟨o, ey, o1, o2⟩ => ⟨o, ey, fun e b => q2 b (o1 e), fun ev e => q3 ev (o2 ev e)⟩⟩⟩
theorem sc_findings_of : FnScope ["rules", "modules", "uses", "found", "index", "rule", "pair"] ["rules", "modules", "uses"] (defScope sFindingsOf) := ⟨rfl, rfl, rfl, by decide +kernel, rfl, by decide +kernel, by decide +kernel⟩
theorem ok_findings_of (W : WdL K mg base T) : DefOk P w K mg base "findings_of" ["rules", "modules", "uses"] 7 (spFind K T) := by
  obtain ⟨f, fd, hm, F⟩ := W.f_findings_of
  have D_first_break := ok_first_break (P := P) (w := w) (base := base) (T := T) W
  refine ⟨f, fd, hm, F.kp, F.bindsN fun _ _ _ _ _ _ us hl => match us, hl with | [_, _, _], _ => rfl, F.ok sc_findings_of (sp_len fun _ => rfl) fun cdv A outer s H vs Q E hr h => ?_⟩
  have nd := sc_findings_of.nd
  have hu64 := hr.units
  have hu1 := hu_of hr
  refine ⟨_, PSs.nox ((pss_cons (ps_setLc (i := 3) (own := [("index", 4), ("rule", 5)]) rfl nd rfl rfl (sw_true rfl rfl rfl (by decide +kernel)) (pi_enumTK (K := K) rfl (by rfl) W.b_enumerate (pa_cons (pv 0) pa_nil)) (blkOk_by (own := [("index", 4), ("rule", 5)]) (N := ["rules", "modules", "uses", "found", "index", "rule", "pair"]) (sc := defScope sFindingsOf) (by decide +kernel)) (fun _ _ _ _ _ => (pg_tupK (K := K) rfl (pg_tup (n := 2) rfl (pgs_cons (pg_name (i := 4) nd rfl (by first | exact Or.inl rfl | exact Or.inr rfl)) (pgs_cons (pg_name (i := 5) nd rfl (by first | exact Or.inl rfl | exact Or.inr rfl)) pgs_nil))))) (fun _ _ _ _ _ => pts_nil) (fun _ _ _ _ _ => (pe_tup (pa_cons (pv 4) (pa_cons (pe_callD D_first_break (hr.mono (by decide)) rfl (pa_cons (pv 1) (pa_cons (pv 2) (pa_cons (pv 5) pa_nil)))) pa_nil)))))
    (pss_one (ps_ret (pe_callTy (cr_tupK (K := K) rfl) rfl W.b_tuple boot_tuple (pa_cons (pe_lc (own := [("pair", 6)]) rfl nd (pi_listK (K := K) rfl (pv 3)) (blkOk_by (own := [("pair", 6)]) (N := ["rules", "modules", "uses", "found", "index", "rule", "pair"]) (sc := defScope sFindingsOf) (by decide +kernel)) (fun _ _ _ _ _ => (pg_name (i := 6) nd rfl (by first | exact Or.inl rfl | exact Or.inr rfl))) (fun _ _ _ _ _ => (pts_one (pt_cmp (pc_notN (pe_ix (ix_seqK (K := K) rfl) (pv 6) pe_int (fun _ _ => rfl)))))) (fun _ _ _ _ _ => (pv 6))) pa_nil)))))), sp_go (fun H0 B0 i hp => ?_) h⟩
  obtain ⟨rs, ms, us⟩ := i
  obtain ⟨ok, bk⟩ := hp
  dsimp only at ok bk
  have hbn := bk.n
  refine ss_seq <| ss_set <| ee_lc <| wi_enumT <| ea_cons <| ee_var rfl <| ea_nil ⟨rs.map rE, rfl, ?_⟩
  rw [enumD_map]
  refine lc2r (α := Nat) (β := Rule) (γ := Nat × Option (List Use)) natE rE (pE natE (oE usE)) (fun a b => b.1 = a.1 ∧ (b.2 = none → ¬ brk ms us a.2) ∧ ∀ ev, b.2 = some ev → EvB ms us a.2 ev) rfl (by rw [List.length_map, List.length_zipIdx]; omega) (noOwn_two (x := .unk) (y := .unk) rfl rfl (.inl rfl) (.inl rfl)) (fun a ha => ?_) fun fs fa => ?_
  · have hr2 : a.2 ∈ rs := by
      obtain ⟨p, hp, rfl⟩ := List.mem_map.mp ha
      exact (List.mem_zipIdx hp).2.2 ▸ List.getElem_mem _
    exact ee_tup <| ea_cons <| ee_var rfl <| ea_cons <| ee_call rfl rfl <| ea_cons <| ee_var rfl <| ea_cons <| ee_var rfl <| ea_cons <| ee_var rfl <| ea_nil ⟨(ms, us, a.2), rfl, ⟨ok, bk.ok _ hr2⟩, fun x ⟨o, ex, o1, o2⟩ => ea_nil ⟨[natE a.1, oE usE o], by rw [ex]; rfl, (by show 2 ≤ 1000000; decide), rfl, (a.1, o), ⟨rfl, o1, o2⟩, rfl⟩⟩
  have hl := fa2_len fa
  rw [List.length_map, List.length_zipIdx] at hl
  refine ss_ret <| ee_CB <| ea_cons <| ee_lc <| wi_list <| ee_var rfl ⟨fs.map (pE natE (oE usE)), rfl, lc1f (pE natE (oE usE)) fE (fun b => (b.1, b.2.getD [])) (fun b => b.2.isSome) (by omega) (hno_unk rfl) (fun b hb => ?_) <| ea_nil <| RL1.rl <| rl_tupL ⟨(fs.filter fun b => b.2.isSome).map fun b => (b.1, b.2.getD []), rfl, ?_, fun e b => ?_, fun f hf => ?_⟩⟩
  · obtain ⟨n, o⟩ := b
    cases o with
    | none => exact et_B <| ee_notN <| ee_op <| ee_var rfl <| ee_int <| ro_ixT (d := .none) rfl ⟨_, rfl, _, rfl, rfl, rfl, fun z => by cases z⟩
    | some ev => exact et_B <| ee_notN <| ee_op <| ee_var rfl <| ee_int <| ro_ixT (d := usE ev) rfl ⟨_, rfl, _, rfl, rfl, rfl, fun _ => ee_var rfl ⟨rfl, rfl⟩⟩
  · have := List.length_filter_le (fun b : Nat × Option (List Use) => b.2.isSome) fs
    rw [List.length_map]
    omega
  · obtain ⟨r, hr2, hb⟩ := b
    obtain ⟨j, hj, ej⟩ := List.getElem_of_mem hr2
    have hin : (j, r) ∈ (rs.zipIdx).map fun p => (p.2, p.1) := List.mem_map.mpr ⟨(r, j), List.mk_mem_zipIdx_iff_getElem?.mpr (by rw [← ej]; exact List.getElem?_eq_getElem hj), rfl⟩
    obtain ⟨y, hy, _, y2, y3⟩ := fa2_mem fa _ hin
    cases e2 : y.2 with
    | none => exact y2 e2 hb
    | some ev =>
      have : (y.1, y.2.getD []) ∈ (fs.filter fun b => b.2.isSome).map fun b => (b.1, b.2.getD []) := List.mem_map.mpr ⟨y, List.mem_filter.mpr ⟨hy, by rw [e2]; rfl⟩, rfl⟩
      rw [e] at this
      cases this
  · obtain ⟨b, hb, rfl⟩ := List.mem_map.mp hf
    obtain ⟨hb1, hb2⟩ := List.mem_filter.mp hb
    obtain ⟨x, hx, _, _, y3⟩ := fa2_mem2 fa b hb1
    have hr2 : x.2 ∈ rs := by
      obtain ⟨p, hp, rfl⟩ := List.mem_map.mp hx
      exact (List.mem_zipIdx hp).2.2 ▸ List.getElem_mem _
    obtain ⟨ev, hev⟩ := Option.isSome_iff_exists.mp hb2
    have q := y3 ev hev
    dsimp only
    rw [hev]
    exact ⟨q.ne, q.sub, fun us' hs => ⟨x.2, hr2, q.brk us' hs⟩, q.sz⟩
theorem sc_without : FnScope ["uses", "cuts", "use"] ["uses", "cuts"] (defScope sWithout) := ⟨rfl, rfl, rfl, by decide +kernel, rfl, by decide +kernel, by decide +kernel⟩
theorem ok_without (W : Wd K mg) : DefOk P w K mg base "without" ["uses", "cuts"] 1 (spWo K T) := by
  obtain ⟨f, fd, hm, F⟩ := W.f_without
  refine ⟨f, fd, hm, F.kp, F.bindsN fun _ _ _ _ _ _ us hl => match us, hl with | [_, _], _ => rfl, F.ok sc_without (sp_len fun _ => rfl) fun cdv A outer s H vs Q E hr h => ?_⟩
  have nd := sc_without.nd
  have hu64 := hr.units
  have hu1 := hu_of hr
  refine ⟨_, PSs.nox ((pss_one (ps_ret (pe_callTy (cr_tupK (K := K) rfl) rfl W.b_tuple boot_tuple (pa_cons (pe_lc (own := [("use", 2)]) rfl nd (pi_tupK (K := K) rfl (pv 0)) (blkOk_by (own := [("use", 2)]) (N := ["uses", "cuts", "use"]) (sc := defScope sWithout) (by decide +kernel)) (fun _ _ _ _ _ => (pg_name (i := 2) nd rfl (by first | exact Or.inl rfl | exact Or.inr rfl))) (fun _ _ _ _ _ => (pts_one (pt_cmpR (op_notInK (K := K) rfl hu64) (pv 2) (pv 1) (by rfl)))) (fun _ _ _ _ _ => (pv 2))) pa_nil))))), sp_go (fun H0 B0 i hp => ?_) h⟩
  obtain ⟨us, cs⟩ := i
  have hp : us.length ≤ 1000 := hp
  show SS _ _ _ { nx := fun _ => dN = .val (usE (wo us cs)), rt := fun x _ => x = .val (usE (wo us cs)) }
  show SS _ _ (start' ["uses", "cuts", "use"] [.val (usE us), .val (usE cs)]) _
  refine ss_ret <| ee_CB <| ea_cons <| ee_lc <| wi_tup <| ee_var rfl ⟨us.map uE, rfl, lc1f uE uE id (fun u => !decide (u ∈ cs)) (by omega) (hno_unk rfl) (fun u hu => ?_) <| ea_nil ?_⟩
  · exact et_test <| ee_op <| ee_var rfl <| ee_var rfl <| ro_ninE eqe_u (shal_u _) ⟨_, rfl, rfl, congrArg not (decide_eq_decide.mpr Iff.rfl), fun _ => ee_var rfl ⟨rfl, rfl⟩⟩
  · rw [List.map_id]
    exact RL1.rl <| rl_tupL rfl
theorem sc_short_break : FnScope ["rules", "modules", "uses"] ["rules", "modules", "uses"] (defScope sShortBreak) := ⟨rfl, rfl, rfl, by decide +kernel, rfl, by decide +kernel, by decide +kernel⟩
theorem ok_short_break (W : WdL K mg base T) : DefOk P w K mg base "short_break" ["rules", "modules", "uses"] 8 (spSB K T) := by
  obtain ⟨f, fd, c, Pt, hm, F, hcode, TB, hmT, huT⟩ := W.l_short_break
  have D_findings_of := ok_findings_of (P := P) (w := w) (base := base) (T := T) W
  refine ⟨f, fd, hm, F.kp, F.bindsN fun _ _ _ _ _ _ us hl => match us, hl with | [_, _, _], _ => rfl, lam_ok F hcode sc_short_break (sp_len fun _ => rfl) fun A outer s H vs Q E hr h => ?_⟩
  have nd := sc_short_break.nd
  have hu64 := hr.units
  have hu1 := hu_of hr
  refine ⟨_, PSs.nox ((pss_one (ps_ret (by refine pe_minKey (tb := tbLen1 K) (k := 0) (a := "pair") (g := gLen1) (c := c) (P := Pt) (hr.mono (by decide)) hu64 rfl W.b_min rfl (pa_cons (pe_callD D_findings_of (hr.mono (by decide)) rfl (pa_cons (pv 0) (pa_cons (pv 1) (pa_cons (pv 2) pa_nil)))) pa_nil) pe_non TB rfl hmT huT rfl ?h1 rfl ?h2 ?h3 ?h4; (case h1 => exact (by decide)); (case h2 => exact ⟨rfl, rfl, rfl, by decide +kernel, rfl, by decide +kernel, by decide +kernel⟩); (case h3 => exact (fun _ _ _ _ => rfl)); (case h4 => exact (fun f cdv A outer s H hr => (pe_tup (pa_cons (pe_callB (cr_lenK (K := K) rfl) rfl W.b_len boot_len (pa_cons (pe_ix (ix_seqK (K := K) rfl) (pv 0) pe_int (fun _ _ => rfl)) pa_nil)) (pa_cons (pv 0) pa_nil))))))))), sp_go (fun H0 B0 i hp => ?_) h⟩
  obtain ⟨rs, ms, us⟩ := i
  refine ss_ret <| ee_min rfl <| ee_call rfl rfl <| ea_cons <| ee_var rfl <| ea_cons <| ee_var rfl <| ea_cons <| ee_var rfl <| ea_nil ⟨(rs, ms, us), rfl, hp, fun x ⟨fs, ex, q1, q2, q3⟩ => ⟨fs.map fE, .inr ex, allAlike_map alike_f _, fun d hd => ?_, fun d hd => ?_, fun e => ⟨none, rfl, fun _ => q2 (List.map_eq_nil_iff.mp e), fun _ h => by cases h⟩, fun d hd => ?_⟩⟩
  all_goals obtain ⟨f, hf, rfl⟩ := List.mem_map.mp hd
  · exact shal_f f
  · exact key_len1 rfl
  · exact ⟨some f, rfl, (fun z => by cases z), fun f' h => by cases h; exact q3 f hf⟩
theorem sc_breaks_apart : FnScope ["rules", "modules", "uses", "most", "found", "pair"] ["rules", "modules", "uses", "most"] (defScope sBreaksApart) := ⟨rfl, rfl, rfl, by decide +kernel, rfl, by decide +kernel, by decide +kernel⟩
theorem ok_breaks_apart (W : WdL K mg base T) : DefOk P w K mg base "breaks_apart" ["rules", "modules", "uses", "most"] 9 (spBA K T) := by
  obtain ⟨f, fd, hm, F⟩ := W.f_breaks_apart
  have D_without := ok_without (P := P) (w := w) (base := base) (T := T) W.toWd
  have D_short_break := ok_short_break (P := P) (w := w) (base := base) (T := T) W
  refine ⟨f, fd, hm, F.kp, F.bindsN fun _ _ _ _ _ _ us hl => match us, hl with | [_, _, _, _], _ => rfl, F.ok sc_breaks_apart (sp_len fun _ => rfl) fun cdv A outer s H vs Q E hr h => ?_⟩
  have nd := sc_breaks_apart.nd
  have hu64 := hr.units
  have hu1 := hu_of hr
  refine ⟨_, PSs.nox ((pss_cons (ps_set (i := 4) nd rfl (by first | exact Or.inl rfl | exact Or.inr rfl) (pe_lst pa_nil))
    (pss_cons (ps_while PassesOwn.never (pt_cmpR op_lt (pe_callB (cr_lenK (K := K) rfl) rfl W.b_len boot_len (pa_cons (pv 4) pa_nil)) (pv 3) (nomark _))
    (pss_cons (ps_set (i := 5) nd rfl (by first | exact Or.inl rfl | exact Or.inr rfl) (pe_callD D_short_break (hr.mono (by decide)) rfl (pa_cons (pv 0) (pa_cons (pv 1) (pa_cons (pv 2) pa_nil)))))
    (pss_cons (ps_if (pt_cmp (pc_isN (pv 5)))
    (pss_one (ps_ret (pv 4)))
    pss_nil)
    (pss_cons (ps_expr (pe_bm PySem.F.plainAttrs_list PySem.F.slot_list_append PySem.F.type_list_append mt_append (pv 4) (pa_cons (pv 5) pa_nil)))
    (pss_one (ps_set (i := 2) nd rfl (by first | exact Or.inl rfl | exact Or.inr rfl) (pe_callD D_without (hr.mono (by decide)) rfl (pa_cons (pv 2) (pa_cons (pe_ix (ix_seqK (K := K) rfl) (pv 5) pe_int (fun _ _ => rfl)) pa_nil)))))))))
    (pss_one (ps_ret (pv 4)))))), sp_go (fun H0 B0 i hp => ?_) h⟩
  obtain ⟨rs, ms, us, most⟩ := i
  obtain ⟨ok, bk, hz⟩ := hp
  dsimp only at ok bk hz
  refine ss_seq <| ss_newL (by show 4 < 6; decide) ?_
  refine ss_seq <| ss_while (fun n Γ1 => ∃ uk fs d, Γ1 = [cV (.val (rulesE rs)), cV (.val (sE ms)), cV (.val (usE uk)), cV (dI (most : Nat)), .oL (fs.map fE), d] ∧ BaI rs ms us most uk fs ∧ n = most - fs.length) _ ⟨us, [], .unk, rfl, ⟨ok, fun u h => h, Nat.zero_le _, (fun _ h => by cases h), .nil, (fun _ h => by cases h), fun _ => rfl⟩, rfl⟩ ?_
  rintro n Γ1 ⟨uk, fs, d, rfl, I, hn⟩
  refine et_test <| ee_op <| ee_CBO (ds := fs.map fE) rfl <| rl_lenL <| ee_var rfl <| ro_lt ⟨_, rfl, fun e => ?_, fun e => ?_⟩
  · have hlt : fs.length < most := by
      rw [List.length_map] at e
      have := of_decide_eq_true e
      omega
    refine ss_seq <| ss_set <| ee_call rfl rfl <| ea_cons <| ee_var rfl <| ea_cons <| ee_var rfl <| ea_cons <| ee_var rfl <| ea_nil ⟨(rs, ms, uk), rfl, ⟨I.ok, bk⟩, fun x ⟨o, ex, o1, o2⟩ => ?_⟩
    subst ex
    dsimp only at o1 o2
    cases o with
    | none =>
      refine ss_seq <| ss_if <| et_B <| ee_isN <| ee_var rfl ⟨_, rfl, _, rfl, fun _ => ?_, fun z => by cases z⟩
      refine ss_freeze (i := 4) (.l (fs.map fE)) rfl (ss_ret <| ee_var rfl ⟨fs, rfl, ⟨I.n, fun _ e => ?_, I.each, I.dis⟩⟩)
      rw [← I.first e]
      exact o1 rfl
    | some f =>
      have hf := o2 f rfl
      refine ss_seq <| ss_if <| et_B <| ee_isN <| ee_var rfl ⟨_, rfl, _, rfl, (fun z => by cases z), fun _ => ss_next ?_⟩
      refine ss_seq <| ss_append (ds0 := fs.map fE) (ee_var rfl ⟨fE f, fs.map fE, rfl, rfl, (by rw [List.length_map]; omega), ?_⟩) rfl
      refine ss_set <| ee_call rfl rfl <| ea_cons <| ee_var rfl <| ea_cons <| ee_op <| ee_var rfl <| ee_int <| ro_ixT (d := usE f.2) rfl <| ea_nil ⟨(uk, f.2), rfl, I.ok.u, fun x ex => ?_⟩
      subst ex
      refine ⟨_, ?_, wo uk f.2, fs ++ [f], _, by rw [List.map_append]; rfl, ⟨I.ok.wo, fun u hu => I.sub u (mem_wo.mp hu).1, ?_, fun g hg => ?_, ?_, fun g hg u hu => ?_, fun z => by simp at z⟩, rfl⟩
      · rw [hn, List.length_append, List.length_singleton]
        omega
      · rw [List.length_append, List.length_singleton]
        omega
      · rcases List.mem_append.mp hg with q | q
        · exact I.each g q
        · simp only [List.mem_singleton] at q
          subst q
          exact ⟨hf.ne, fun u hu => I.sub u (hf.sub u hu), hf.brk, hf.sz⟩
      · refine List.pairwise_append.mpr ⟨I.dis, by simp, fun a ha b hb u hu hub => ?_⟩
        simp only [List.mem_singleton] at hb
        subst hb
        exact I.out a ha u hu (hf.sub u hub)
      · rcases List.mem_append.mp hg with q | q
        · exact fun z => I.out g q u hu (mem_wo.mp z).1
        · simp only [List.mem_singleton] at q
          subst q
          exact fun z => (mem_wo.mp z).2 hu
  · refine ss_freeze (i := 4) (.l (fs.map fE)) rfl (ss_ret <| ee_var rfl ⟨fs, rfl, ⟨I.n, fun hm e2 => ?_, I.each, I.dis⟩⟩)
    subst e2
    have := of_decide_eq_false e
    simp at this
    dsimp only at hm
    omega
end
end My
end P8_
section P9_
set_option maxHeartbeats 1000000
namespace My
open PySem PySem.Spec PyProof.Rows L2 LamX
theorem eqe_nat : EqE natE := fun a b => by
  show PyData.eqv (.int (a : Int)) (.int (b : Int)) = _
  rw [eqe_int]
  exact decide_eq_decide.mpr ⟨Int.ofNat.inj, fun e => by rw [e]⟩
theorem eqe_f : EqE fE := eqe_pE eqe_nat eqe_us
theorem shal_fs (l : List Fnd) : Shal (tE fE l) := by
  have h : (tE fE l).depth ≤ 5 := dep_tE dep_f l
  unfold Shal
  omega
structure SmallOk (ms : List Str) (us : List Use) : Prop where
  c : CaseOk ms us
  n : us.length ≤ 25
/-- a set of so many uses without which the rules are kept -/
structure Good (rs : List Rule) (ms : List Str) (us : List Use) (number : Nat) (S : List Use) : Prop where
  nd : S.Nodup
  len : S.length = number
  sub : ∀ u ∈ S, u ∈ us
  kept : ¬ brkAny rs ms (wo us S)
/-- fewer are not enough -/
def Min (rs : List Rule) (ms : List Str) (us : List Use) (number : Nat) : Prop := ∀ S : List Use, S.length < number → (∀ u ∈ S, u ∈ us) → S.Nodup → brkAny rs ms (wo us S)
structure RowOk (us : List Use) (k : Nat) (c : List Use) : Prop where
  len : c.length = k
  sub : ∀ u ∈ c, u ∈ us
  nd : c.Nodup
  srt : Srt c
theorem RowOk.add {us : List Use} {k : Nat} {c : List Use} {u : Use} (h : RowOk us k c) (hu : u ∈ us) (hn : u ∉ c) : RowOk us (k + 1) (sortU (c ++ [u])) := by
  have p := sortU_perm (c ++ [u])
  refine ⟨by rw [p.length_eq, List.length_append, h.len]; rfl, fun v hv => ?_, p.nodup_iff.mpr (List.nodup_append.mpr ⟨h.nd, by simp, fun a ha b hb e => ?_⟩), sortU_srt _⟩
  · rcases List.mem_append.mp (p.mem_iff.mp hv) with q | q
    · exact h.sub v q
    · simp only [List.mem_singleton] at q
      rw [q]; exact hu
  · simp only [List.mem_singleton] at hb
    subst hb
    subst e
    exact hn ha
/-- the rows of one length -/
structure RowsI (rs : List Rule) (ms : List Str) (us : List Use) (number k : Nat) (rows : List (List Use)) : Prop where
  sz : rows.length ≤ 25 ^ k
  ok : ∀ c ∈ rows, RowOk us k c
  all : Min rs ms us number → ∀ S, Good rs ms us number S → ∃ c ∈ rows, ∀ u ∈ c, u ∈ S
  srt : rows.Pairwise fun a b => PySem.W.dataLe false usE a b = true
/-- the keys so far -/
structure KeysI (us : List Use) (k : Nat) (rows L : List (List Use)) : Prop where
  nd : L.Nodup
  of : ∀ l ∈ L, ∃ c ∈ rows, ∃ u ∈ us, u ∉ c ∧ l = sortU (c ++ [u])
theorem KeysI.size {us : List Use} {k : Nat} {rows L : List (List Use)} (h : KeysI us k rows L) (hu : us.length ≤ 25) (hr : rows.length ≤ 25 ^ k) : L.length ≤ 25 ^ (k + 1) := by
  have e : ∀ rows : List (List Use), (rows.flatMap fun c => us.map fun u => sortU (c ++ [u])).length = rows.length * us.length := fun rows => by
    induction rows with
    | nil => simp
    | cons a l ih => rw [List.flatMap_cons, List.length_append, ih, List.length_map, List.length_cons, Nat.succ_mul]; omega
  have := nodup_len (m := rows.flatMap fun c => us.map fun u => sortU (c ++ [u])) h.nd fun l hl => by
    obtain ⟨c, hc, u, hu, _, e⟩ := h.of l hl
    exact List.mem_flatMap.mpr ⟨c, hc, List.mem_map.mpr ⟨u, hu, e.symm⟩⟩
  rw [e] at this
  have q := Nat.mul_le_mul hr hu
  rw [Nat.pow_succ]
  omega
theorem KeysI.put {us : List Use} {k : Nat} {rows L : List (List Use)} {c : List Use} {u : Use} (h : KeysI us k rows L) (hc : c ∈ rows) (hu : u ∈ us) (hn : u ∉ c) : KeysI us k rows (if sortU (c ++ [u]) ∈ L then L else L ++ [sortU (c ++ [u])]) := by
  split
  · exact h
  · rename_i q
    refine ⟨List.nodup_append.mpr ⟨h.nd, by simp, fun a ha b hb e => ?_⟩, fun l hl => ?_⟩
    · simp only [List.mem_singleton] at hb
      subst hb
      subst e
      exact q ha
    · rcases List.mem_append.mp hl with z | z
      · exact h.of l z
      · simp only [List.mem_singleton] at z
        exact ⟨c, hc, u, hu, hn, z⟩
theorem mem_put {L : List (List Use)} {l x : List Use} : x ∈ (if l ∈ L then L else L ++ [l]) ↔ x ∈ L ∨ x = l := by
  split
  · rename_i h
    exact ⟨.inl, fun o => o.elim id fun e => e ▸ h⟩
  · simp
/-- each cut of a good set goes on -/
theorem go_on {rs : List Rule} {ms : List Str} {us : List Use} {number k : Nat} {c S : List Use} {fs : List Fnd} (hm : Min rs ms us number) (g : Good rs ms us number S) (hc : RowOk us k c) (hk : k < number) (hs : ∀ u ∈ c, u ∈ S) (a : Apart rs ms (wo us c) (number - k + 1) fs) :
    fs ≠ [] ∧ fs.length ≤ number - k ∧ ∀ f ∈ fs, ∃ u ∈ f.2, u ∈ S ∧ u ∉ c := by
  have meets : ∀ f ∈ fs, ∃ u ∈ f.2, u ∈ S ∧ u ∉ c := fun f hf => by
    apply Classical.byContradiction
    intro no
    have q := a.ok f hf
    refine g.kept (q.brk _ fun u hu => mem_wo.mpr ⟨(mem_wo.mp (q.sub u hu)).1, fun z => no ⟨u, hu, z, (mem_wo.mp (q.sub u hu)).2⟩⟩)
  refine ⟨fun e => a.none (by omega) e (hm c (by rw [hc.len]; exact hk) hc.sub hc.nd), ?_, meets⟩
  obtain ⟨l, n1, n2, n3, _⟩ := meet_count (g := fun f : Fnd => f.2) (D := S.filter fun u => !decide (u ∈ c)) a.dis fun f hf => by
    obtain ⟨u, h1, h2, h3⟩ := meets f hf
    exact ⟨u, h1, List.mem_filter.mpr ⟨h2, by simp [h3]⟩⟩
  have q1 := nodup_len n1 n3
  have q2 := sub_count hc.nd g.nd hs
  rw [hc.len, g.len] at q2
  omega
open Classical in
noncomputable def keptB (rs : List Rule) (ms : List Str) (us : List Use) (c : List Use) : Bool := decide (¬ brkAny rs ms (wo us c))
abbrev spCut (K : PySem.W.Frag) (T : List (Addr × Str)) : Sp := SpI K T (fun i : List Rule × List Str × List Use × Nat => [.val (rulesE i.1), .val (sE i.2.1), .val (usE i.2.2.1), dI i.2.2.2]) (fun i => SmallOk i.2.1 i.2.2.1 ∧ BookOk i.1 ∧ i.2.2.2 ≤ 4)
  (fun i x => ∃ rows, x = .val (lE usE (rows.filter (keptB i.1 i.2.1 i.2.2.1))) ∧ RowsI i.1 i.2.1 i.2.2.1 i.2.2.2 i.2.2.2 rows)
section
variable {P : Program} {w : World} {K : PySem.W.Frag} {mg : Str → Option Value} {base : Heap} {T : List (Addr × Str)}
theorem sc_cut_sets : FnScope ["rules", "modules", "uses", "number", "rows", "left", "longer", "cuts", "pairs", "use"] ["rules", "modules", "uses", "number"] (defScope sCutSets) := ⟨rfl, rfl, rfl, by decide +kernel, rfl, by decide +kernel, by decide +kernel⟩
theorem ok_cut_sets (W : WdL K mg base T) : DefOk P w K mg base "cut_sets" ["rules", "modules", "uses", "number"] 10 (spCut K T) := by
  obtain ⟨f, fd, hm, F⟩ := W.f_cut_sets
  have D_findings_of := ok_findings_of (P := P) (w := w) (base := base) (T := T) W
  have D_without := ok_without (P := P) (w := w) (base := base) (T := T) W.toWd
  have D_breaks_apart := ok_breaks_apart (P := P) (w := w) (base := base) (T := T) W
  refine ⟨f, fd, hm, F.kp, F.bindsN fun _ _ _ _ _ _ us hl => match us, hl with | [_, _, _, _], _ => rfl, F.ok sc_cut_sets (sp_len fun _ => rfl) fun cdv A outer s H vs Q E hr h => ?_⟩
  have nd := sc_cut_sets.nd
  have hu64 := hr.units
  have hu1 := hu_of hr
  refine ⟨_, PSs.nox ((pss_cons (ps_set (i := 4) nd rfl (by first | exact Or.inl rfl | exact Or.inr rfl) (pe_lst (pa_cons (pe_tup pa_nil) pa_nil)))
    (pss_cons (ps_for PassesOwn.never rfl (pi_range3 rfl W.b_range (pa_cons (pv 3) (pa_cons pe_int (pa_cons (pe_un un_neg pe_int) pa_nil)))) (pg_name (i := 5) nd rfl (by first | exact Or.inl rfl | exact Or.inr rfl))
    (pss_cons (ps_set (i := 6) nd rfl (by first | exact Or.inl rfl | exact Or.inr rfl) pe_dnewN)
    (pss_cons (ps_for PassesOwn.never rfl (pi_listK (K := K) rfl (pv 4)) (pg_name (i := 7) nd rfl (by first | exact Or.inl rfl | exact Or.inr rfl))
    (pss_cons (ps_set (i := 8) nd rfl (by first | exact Or.inl rfl | exact Or.inr rfl) (pe_callD D_breaks_apart (hr.mono (by decide)) rfl (pa_cons (pv 0) (pa_cons (pv 1) (pa_cons (pe_callD D_without (hr.mono (by decide)) rfl (pa_cons (pv 2) (pa_cons (pv 7) pa_nil))) (pa_cons (pe_op (op_addK (K := K) rfl) (pv 5) pe_int) pa_nil))))))
    (pss_one (ps_if (pt_chain op_lt op_le pe_int (pe_callB (cr_lenK (K := K) rfl) rfl W.b_len boot_len (pa_cons (pv 8) pa_nil)) (pv 5))
    (pss_one (ps_for PassesOwn.never rfl (pi_tupK (K := K) rfl (pe_ix (ix_seqK (K := K) rfl) (pe_ix (ix_seqK (K := K) rfl) (pv 8) pe_int (fun _ _ => rfl)) pe_int (fun _ _ => rfl))) (pg_name (i := 9) nd rfl (by first | exact Or.inl rfl | exact Or.inr rfl))
    (pss_one (ps_asg pe_bl (pg_sub (pv 6) (pe_callTy (cr_tupK (K := K) rfl) rfl W.b_tuple boot_tuple (pa_cons (pe_callB (cr_sortK (K := K) rfl hu64) rfl W.b_sorted boot_sorted (pa_cons (pe_op (op_addK (K := K) rfl) (pv 7) (pe_tup (pa_cons (pv 9) pa_nil))) pa_nil)) pa_nil)) (set_nest hu64))))))
    pss_nil))))
    (pss_one (ps_set (i := 4) nd rfl (by first | exact Or.inl rfl | exact Or.inr rfl) (pe_callB ((cr_sortN hu64 rfl)) rfl W.b_sorted boot_sorted (pa_cons (pv 6) pa_nil)))))))
    (pss_one (ps_ret (pe_lc (own := [("cuts", 7)]) rfl nd (pi_listK (K := K) rfl (pv 4)) (blkOk_by (own := [("cuts", 7)]) (N := ["rules", "modules", "uses", "number", "rows", "left", "longer", "cuts", "pairs", "use"]) (sc := defScope sCutSets) (by decide +kernel)) (fun _ _ _ _ _ => (pg_name (i := 7) nd rfl (by first | exact Or.inl rfl | exact Or.inr rfl))) (fun _ _ _ _ _ => (pts_one (pt_cmpR (op_eqK (K := K) rfl hu64) (pe_callD D_findings_of (hr.mono (by decide)) rfl (pa_cons (pv 0) (pa_cons (pv 1) (pa_cons (pe_callD D_without (hr.mono (by decide)) rfl (pa_cons (pv 2) (pa_cons (pv 7) pa_nil))) pa_nil)))) (pe_tup pa_nil) (nomark _)))) (fun _ _ _ _ _ => (pv 7)))))))), sp_go (fun H0 B0 i hp => ?_) h⟩
  obtain ⟨rs, ms, us, number⟩ := i
  obtain ⟨ok, bk, hz⟩ := hp
  dsimp only at ok bk hz
  have hu25 := ok.n
  have pow4 : ∀ k, k ≤ 4 → 25 ^ k ≤ 390625 := fun k hk => Nat.le_trans (Nat.pow_le_pow_right (by decide) hk) (by decide)
  refine ss_seq <| ss_set <| ee_lst <| ea_cons <| ee_tup <| ea_nil ⟨[], rfl, (by decide), ea_nil ⟨[usE []], rfl, (by show 1 ≤ 1000000; decide), ?_⟩⟩
  refine ss_seq <| ss_for (vs := [5]) <| wi_down <| ea_cons <| ee_var rfl <| ea_cons <| ee_int <| ea_cons <| ee_un <| ee_int <| ru_neg <| ea_nil ⟨number, by omega, rfl, fun i Γ1 => ∃ rows a5 a6 a7 a8 a9, Γ1 = [cV (.val (rulesE rs)), cV (.val (sE ms)), cV (.val (usE us)), cV (dI (number : Nat)), cV (.val (lE usE rows)), a5, a6, a7, a8, a9] ∧ U a7 ∧ RowsI rs ms us number i rows,
    ⟨[[]], _, _, _, _, _, rfl, .inl rfl, ⟨by simp, fun c hc => ?_, fun _ S _ => ⟨[], by simp, fun u hu => by cases hu⟩, by simp⟩⟩, fun i d Γ1 hd hI => ?_, fun Γ1 hI => ?_⟩
  · simp only [List.mem_singleton] at hc
    subst hc
    exact ⟨rfl, (fun u hu => by cases hu), .nil, .nil⟩
  · obtain ⟨rows, a5, a6, a7, a8, a9, rfl, v7, R⟩ := hI
    obtain ⟨i', hi', rfl⟩ := map_get hd
    obtain ⟨hil, e⟩ := List.getElem?_eq_some_iff.mp hi'
    rw [List.getElem_range] at e
    subst e
    rw [List.length_range] at hil
    have hrz := Nat.le_trans R.sz (pow4 i (by omega))
    refine sg_name (ss_seq <| ss_newN (by show 6 < 10; decide) ?_) (by simp)
    refine ss_seq <| ss_for (vs := [7]) <| wi_list <| ee_var rfl ⟨rows.map usE, rfl, fun j Γ1 => ∃ L a7 a8 a9, Γ1 = [cV (.val (rulesE rs)), cV (.val (sE ms)), cV (.val (usE us)), cV (dI (number : Nat)), cV (.val (lE usE rows)), cV (dI ((number - i : Nat) : Int)), oN P w K (L.map usE), a7, a8, a9] ∧ U a7 ∧ KeysI us i rows L ∧ (Min rs ms us number → ∀ c ∈ rows.take j, ∀ S, Good rs ms us number S → (∀ u ∈ c, u ∈ S) → ∃ l ∈ L, ∀ u ∈ l, u ∈ S),
      ⟨[], _, _, _, rfl, v7, ⟨.nil, fun l hl => by cases hl⟩, by simp⟩, fun j d Γ1 hd hI => ?_, fun Γ1 hI => ?_⟩
    · obtain ⟨L, a7, a8, a9, rfl, v7, KI, hall⟩ := hI
      obtain ⟨c, hc, rfl⟩ := map_get hd
      have hcr := List.mem_of_getElem? hc
      have rc := R.ok c hcr
      have hcl : c.length ≤ 4 := by rw [rc.len]; omega
      refine sg_name (ss_seq <| ss_set <| ee_call rfl rfl <| ea_cons <| ee_var rfl <| ea_cons <| ee_var rfl <| ea_cons <| ee_call rfl rfl <| ea_cons <| ee_var rfl <| ea_cons <| ee_var rfl <| ea_nil ⟨(us, c), rfl, ok.c.u, fun x ex => ea_cons <| ee_op <| ee_var rfl <| ee_int <| ro_addI <| ea_nil ⟨(rs, ms, wo us c, number - i + 1), by rw [ex]; rfl, ⟨ok.c.wo, bk, by show number - i + 1 ≤ _; omega⟩, fun y ⟨fs, ey, ap⟩ => ?_⟩⟩) (by simp)
      subst ey
      dsimp only at ap
      have skip : ¬ (fs ≠ [] ∧ fs.length ≤ number - i) → Min rs ms us number → ∀ c ∈ rows.take (j + 1), ∀ S, Good rs ms us number S → (∀ u ∈ c, u ∈ S) → ∃ l ∈ L, ∀ u ∈ l, u ∈ S := fun hn hm c' hc' S g hs => by
        rw [take_snoc hc] at hc'
        rcases List.mem_append.mp hc' with q | q
        · exact hall hm c' q S g hs
        · simp only [List.mem_singleton] at q
          subst q
          obtain ⟨g1, g2, _⟩ := go_on hm g rc hil hs ap
          exact absurd ⟨g1, g2⟩ hn
      have next : (Min rs ms us number → ∀ c ∈ rows.take (j + 1), ∀ S, Good rs ms us number S → (∀ u ∈ c, u ∈ S) → ∃ l ∈ L, ∀ u ∈ l, u ∈ S) → ∃ L' b7 b8 b9, [cV (.val (rulesE rs)), cV (.val (sE ms)), cV (.val (usE us)), cV (dI (number : Nat)), cV (.val (lE usE rows)), cV (dI ((number - i : Nat) : Int)), oN P w K (L.map usE), cV (.val (usE c)), cV (.val (lE fE fs)), a9] = [cV (.val (rulesE rs)), cV (.val (sE ms)), cV (.val (usE us)), cV (dI (number : Nat)), cV (.val (lE usE rows)), cV (dI ((number - i : Nat) : Int)), oN P w K (L'.map usE), b7, b8, b9] ∧ U b7 ∧ KeysI us i rows L' ∧ (Min rs ms us number → ∀ c ∈ rows.take (j + 1), ∀ S, Good rs ms us number S → (∀ u ∈ c, u ∈ S) → ∃ l ∈ L', ∀ u ∈ l, u ∈ S) := fun h => ⟨L, _, _, _, rfl, .inr ⟨_, rfl⟩, KI, h⟩
      refine ss_if <| et_test <| ee_chain <| ee_int <| ee_CB <| ea_cons <| ee_var rfl <| ea_nil <| RL1.rl <| rl_lenL <| ro_lt ⟨_, rfl, fun e1 => ee_var rfl <| ro_le ⟨_, rfl, fun e2 => ?_, fun e2 => ss_next <| next <| skip fun q => ?_⟩, fun e1 => ⟨_, rfl, (fun z => by cases z), fun _ => ss_next <| next <| skip fun q => ?_⟩⟩
      · cases fs with
        | nil => cases e1
        | cons f0 fr =>
          have f0ok := ap.ok f0 (by simp)
          refine ss_for (vs := [9]) <| wi_tup <| ee_op <| ee_op <| ee_var rfl <| ee_int <| ro_ixL (d := fE f0) (atI_nat (xs := List.map fE (f0 :: fr)) (j := 0) rfl) <| ee_int <| ro_ixT (d := usE f0.2) rfl ⟨f0.2.map uE, rfl, fun k Γ1 => ∃ L' b9, Γ1 = [cV (.val (rulesE rs)), cV (.val (sE ms)), cV (.val (usE us)), cV (dI (number : Nat)), cV (.val (lE usE rows)), cV (dI ((number - i : Nat) : Int)), oN P w K (L'.map usE), cV (.val (usE c)), cV (.val (lE fE (f0 :: fr))), b9] ∧ KeysI us i rows L' ∧ (∀ l ∈ L, l ∈ L') ∧ ∀ u ∈ f0.2.take k, sortU (c ++ [u]) ∈ L',
            ⟨L, _, rfl, KI, fun l h => h, by simp⟩, fun k d Γ1 hd hI => ?_, fun Γ1 hI => ?_⟩
          · obtain ⟨L', b9, rfl, KI', old, got⟩ := hI
            obtain ⟨u, hu, rfl⟩ := map_get hd
            have hum := f0ok.sub u (List.mem_of_getElem? hu)
            have hsz := Nat.le_trans (KI'.size hu25 R.sz) (pow4 (i + 1) (by omega))
            have e0 : c.map uE ++ [uE u] = (c ++ [u]).map uE := by simp
            refine sg_name (ss_nput (P := P) (w := w) <| ee_bl ⟨true, L'.map usE, rfl, rfl, nodup_us KI'.nd, by rw [List.length_map]; omega, ee_CB <| ea_cons <| ee_CB <| ea_cons <| ee_op <| ee_var rfl <| ee_tup <| ea_cons <| ee_var rfl <| ea_nil ⟨[uE u], rfl, (by show 1 ≤ 1000000; decide), ro_catT (by rw [List.length_map]; show _ + 1 ≤ _; omega) ?_⟩⟩) (by simp)
            rw [e0]
            refine ea_nil <| rl_sortT (allAlike_map alike_u _) (.inl fun d hd => ?_) (fun d hd => ?_) ?_
            · obtain ⟨x, _, rfl⟩ := List.mem_map.mp hd
              exact ⟨_, _, rfl⟩
            · obtain ⟨x, _, rfl⟩ := List.mem_map.mp hd
              exact shal_u x
            rw [sort_map]
            refine ea_nil <| RL1.rl <| rl_tupL ⟨(sortU (c ++ [u])).map uE, rfl, NkD_us _, Nat.le_trans (dep_us (sortU (c ++ [u]))) (by decide), ?_⟩
            refine ⟨if sortU (c ++ [u]) ∈ L' then L' else L' ++ [sortU (c ++ [u])], _, by rw [← putN_us]; rfl, KI'.put hcr (mem_wo.mp hum).1 (mem_wo.mp hum).2, fun l hl => mem_put.mpr (.inl (old l hl)), fun v hv => ?_⟩
            rw [take_snoc hu] at hv
            rcases List.mem_append.mp hv with q | q
            · exact mem_put.mpr (.inl (got v q))
            · simp only [List.mem_singleton] at q
              rw [q]
              exact mem_put.mpr (.inr rfl)
          · obtain ⟨L', b9, rfl, KI', old, got⟩ := hI
            rw [List.length_map, List.take_length] at got
            refine ⟨L', _, _, _, rfl, .inr ⟨_, rfl⟩, KI', fun hm c' hc' S g hs => ?_⟩
            rw [take_snoc hc] at hc'
            rcases List.mem_append.mp hc' with q | q
            · obtain ⟨l, hl, h⟩ := hall hm c' q S g hs
              exact ⟨l, old l hl, h⟩
            · simp only [List.mem_singleton] at q
              subst q
              obtain ⟨_, _, g3⟩ := go_on hm g rc hil hs ap
              obtain ⟨u, hu, hus, _⟩ := g3 f0 (by simp)
              refine ⟨_, got u hu, fun v hv => ?_⟩
              rcases List.mem_append.mp ((sortU_perm _).mem_iff.mp hv) with q | q
              · exact hs v q
              · simp only [List.mem_singleton] at q
                rw [q]; exact hus
      · rw [List.length_map] at e2
        have := of_decide_eq_false e2
        omega
      · rw [List.length_map] at e1
        have := of_decide_eq_false e1
        have := List.length_pos_iff.mpr q.1
        omega
    · obtain ⟨L, a7, a8, a9, rfl, v7, KI, hall⟩ := hI
      rw [List.length_map, List.take_length] at hall
      have hsz := KI.size hu25 R.sz
      have hsz2 := Nat.le_trans hsz (pow4 (i + 1) (by omega))
      have pm : (sortT L).Perm L := List.mergeSort_perm _ _
      refine ss_set <| ee_sortN (P := P) (w := w) (i := 6) (ds := L.map usE) rfl (by rw [List.length_map]; omega) (allAlike_map alike_us _) (.inl fun d hd => ?_) (fun d hd => ?_) ?_
      · obtain ⟨l, hl, rfl⟩ := List.mem_map.mp hd
        obtain ⟨c, _, u, _, _, rfl⟩ := KI.of l hl
        cases e : sortU (c ++ [u]) with
        | nil =>
          have := (sortU_perm (c ++ [u])).length_eq
          rw [e] at this
          simp at this
        | cons x r => exact ⟨_, _, rfl⟩
      · obtain ⟨l, hl, rfl⟩ := List.mem_map.mp hd
        exact shal_us l
      rw [sort_map]
      refine ⟨sortT L, _, _, _, _, _, rfl, v7, ⟨by rw [pm.length_eq]; exact hsz, fun l hl => ?_, fun hm S g => ?_, pw_sort usE L⟩⟩
      · obtain ⟨c, hc, u, hu, hn, rfl⟩ := KI.of l (pm.mem_iff.mp hl)
        exact (R.ok c hc).add hu hn
      · obtain ⟨c, hc, hs⟩ := R.all hm S g
        obtain ⟨l, hl, h⟩ := hall hm c hc S g hs
        exact ⟨l, pm.mem_iff.mpr hl, h⟩
  · obtain ⟨rows, a5, a6, a7, a8, a9, rfl, v7, R⟩ := hI
    rw [List.length_map, List.length_range] at R
    have hrz := Nat.le_trans R.sz (pow4 number (by omega))
    refine ss_ret <| ee_lc <| wi_list <| ee_var rfl ⟨rows.map usE, rfl, lc1f usE usE id (keptB rs ms us) (by omega) (fun x hx => by cases hx; exact v7) (fun c hc => ?_) ⟨rows, by rw [List.map_id], R⟩⟩
    refine et_test <| ee_op <| ee_call rfl rfl <| ea_cons <| ee_var rfl <| ea_cons <| ee_var rfl <| ea_cons <| ee_call rfl rfl <| ea_cons <| ee_var rfl <| ea_cons <| ee_var rfl <| ea_nil ⟨(us, c), rfl, ok.c.u, fun x ex => ea_nil ⟨(rs, ms, wo us c), by rw [ex], ⟨ok.c.wo, bk⟩, fun y ⟨fs, ey, f1, f2, f3⟩ => ?_⟩⟩
    subst ey
    refine ee_tup <| ea_nil ⟨[], rfl, (by decide), ro_eqE (f := tE fE) (x := fs) (y := []) (eqe_tE eqe_f) (shal_fs fs) ⟨_, rfl, rfl, ?_, fun _ => ee_var rfl ⟨rfl, rfl⟩⟩⟩
    unfold keptB
    refine decide_eq_decide.mpr ⟨f2, fun nb => ?_⟩
    cases fs with
    | nil => rfl
    | cons f fr => exact absurd ((f3 f (by simp)).brk _ (f3 f (by simp)).sub) nb
end
end My
end P9_
section DL25_
set_option maxHeartbeats 1000000
namespace My
open PySem PySem.Spec PyProof.Rows L2 LamX
abbrev ls (x : Str) : List Nat := x.cps.toList
theorem ls_len (x : Str) : (ls x).length = x.length := cps_len x
theorem starts_iff {x y : Str} : Txt.startswith x y = true ↔ ls y <+: ls x := by
  unfold Txt.startswith
  rw [Bool.and_eq_true, decide_eq_true_eq, StrLaws.subAt_eq, List.drop_zero, beq_iff_eq, List.prefix_iff_eq_take, ls_len]
  constructor
  · rintro ⟨_, h⟩; exact h.symm
  · intro h
    refine ⟨?_, h.symm⟩
    have : (ls y).length = (List.take y.length (ls x)).length := congrArg List.length h
    rw [List.length_take, ls_len, ls_len] at this
    omega
theorem ls_app (x y : Str) : ls (x ++ y) = ls x ++ ls y := PySem.W.KT.app_list x y
theorem ls_inj {x y : Str} (h : ls x = ls y) : x = y := PySem.W.str_of_cps h
theorem cov_iff {p m : Str} : cov p m = true ↔ m = p ∨ ls p ++ ls dot <+: ls m := by
  unfold cov
  rw [Bool.or_eq_true, decide_eq_true_eq, starts_iff, ls_app]
theorem ovl_comm (a b : Str) : ovl a b = ovl b a := by unfold ovl; rw [Bool.or_comm]
/-- two paths over one module -/
theorem cov_meet {p q m : Str} (h1 : cov p m = true) (h2 : cov q m = true) : ovl p q = true := by
  have dl : (ls dot).length = 1 := rfl
  have main : ∀ {p q : Str}, ls p ++ ls dot <+: ls m → ls q ++ ls dot <+: ls m → (ls p).length ≤ (ls q).length → cov p q = true := fun {p q} a b hl => by
    rw [cov_iff]
    by_cases e : (ls p).length = (ls q).length
    · have q1 := List.prefix_of_prefix_length_le a b (by rw [List.length_append, List.length_append]; omega)
      have q2 : ls p ++ ls dot = ls q ++ ls dot := q1.eq_of_length (by rw [List.length_append, List.length_append]; omega)
      exact .inl (ls_inj (List.append_cancel_right q2)).symm
    · refine .inr (List.prefix_of_prefix_length_le a ((List.prefix_append _ _).trans b) ?_)
      rw [List.length_append, dl]
      omega
  unfold ovl
  rw [Bool.or_eq_true]
  rcases cov_iff.mp h1 with e | a
  · subst e
    exact .inr h2
  · rcases cov_iff.mp h2 with e | b
    · subst e
      exact .inl h1
    · by_cases hl : (ls p).length ≤ (ls q).length
      · exact .inl (main a b hl)
      · exact .inr (main b a (by omega))
theorem ovl_self (p : Str) : ovl p p = true := by unfold ovl cov; simp
/-- among paths that do not meet, one at most covers a module -/
theorem NoOv.one {l : List Str} (h : NoOv l) {p q m : Str} (hp : p ∈ l) (hq : q ∈ l) (c1 : cov p m = true) (c2 : cov q m = true) : p = q := by
  unfold NoOv at h
  induction h with
  | nil => cases hp
  | @cons a l hd _ ih =>
    rcases List.mem_cons.mp hp with e1 | e1
    · rcases List.mem_cons.mp hq with e2 | e2
      · rw [e1, e2]
      · subst e1
        have := hd q e2
        rw [cov_meet c2 c1] at this
        cases this
    · rcases List.mem_cons.mp hq with e2 | e2
      · subst e2
        have := hd p e1
        rw [cov_meet c1 c2] at this
        cases this
      · exact ih e1 e2
theorem NoOv.home {l : List Str} (h : NoOv l) {p m : Str} (hp : p ∈ l) (c : cov p m = true) : home l m = some p := by
  cases e : My.home l m with
  | none =>
    unfold My.home at e
    have := List.find?_eq_none.mp e p hp
    exact absurd c this
  | some q =>
    obtain ⟨h1, h2⟩ := home_mem e
    rw [h.one h1 hp h2 c]
theorem NoOv.left {a b : List Str} (h : NoOv (a ++ b)) : NoOv a := (List.pairwise_append.mp h).1
theorem NoOv.nodup {l : List Str} (h : NoOv l) : l.Nodup := by
  rw [List.nodup_iff_pairwise_ne]
  exact h.imp fun {a b} e z => by rw [z, ovl_self] at e; cases e
end My
end DL25_
section P10_
set_option maxHeartbeats 1000000
namespace My
open PySem PySem.Spec PyProof.Rows L2 LamX
section
variable {P : Program} {w : World} {K : PySem.W.Frag} {mg : Str → Option Value} {base : Heap} {T : List (Addr × Str)}
theorem sc__law_under : FnScope ["_law_path", "_law_other"] ["_law_path", "_law_other"] (defScope sLawUnder) := ⟨rfl, rfl, rfl, by decide +kernel, rfl, by decide +kernel, by decide +kernel⟩
theorem ok__law_under (W : Wd K mg) : DefOk P w K mg base "_law_under" ["_law_path", "_law_other"] 1 (spCov K T) := by
  obtain ⟨f, fd, hm, F⟩ := W.f__law_under
  refine ⟨f, fd, hm, F.kp, F.bindsN fun _ _ _ _ _ _ us hl => match us, hl with | [_, _], _ => rfl, F.ok sc__law_under (sp_len fun _ => rfl) fun cdv A outer s H vs Q E hr h => ?_⟩
  have nd := sc__law_under.nd
  have hu64 := hr.units
  have hu1 := hu_of hr
  refine ⟨_, PSs.nox ((pss_one (ps_ret (pe_or (pe_cmpR (op_eqK (K := K) rfl hu64) (pv 1) (pv 0) (nomark _)) (pe_one (pe_m1 PySem.F.slot_str_startswith PySem.F.type_str_startswith mt_startswith (pv 1) (pe_op (op_addK (K := K) rfl) (pv 0) pe_str))))))), sp_go (fun H0 B0 i hp => ?_) h⟩
  obtain ⟨p, o⟩ := i
  obtain ⟨h1, h2⟩ := hp
  unfold ShortS at h1 h2
  dsimp only at h1 h2
  refine ss_ret (ee_orV (ee_op (ee_var rfl (ee_var rfl (ro_eqS ⟨_, rfl, fun e => ?_, fun e => ?_⟩)))))
  · show dB true = dB (cov p o)
    unfold cov
    rw [e, Bool.true_or]
  · refine ee_M1 (ee_var rfl ⟨⟨_, rfl⟩, ee_op (ee_var rfl (ee_str (ro_addT (by show p.length + 1 ≤ _; omega) (rm_starts ?_))))⟩)
    show dB _ = dB (cov p o)
    unfold cov
    rw [e, Bool.false_or]
    rfl
theorem sc__law_meet : FnScope ["_law_path", "_law_other"] ["_law_path", "_law_other"] (defScope sLawMeet) := ⟨rfl, rfl, rfl, by decide +kernel, rfl, by decide +kernel, by decide +kernel⟩
theorem ok__law_meet (W : Wd K mg) : DefOk P w K mg base "_law_meet" ["_law_path", "_law_other"] 2 (spOvl K T) := by
  obtain ⟨f, fd, hm, F⟩ := W.f__law_meet
  have D__law_under := ok__law_under (P := P) (w := w) (base := base) (T := T) W
  refine ⟨f, fd, hm, F.kp, F.bindsN fun _ _ _ _ _ _ us hl => match us, hl with | [_, _], _ => rfl, F.ok sc__law_meet (sp_len fun _ => rfl) fun cdv A outer s H vs Q E hr h => ?_⟩
  have nd := sc__law_meet.nd
  have hu64 := hr.units
  have hu1 := hu_of hr
  refine ⟨_, PSs.nox ((pss_one (ps_ret (pe_or (pe_callD D__law_under (hr.mono (by decide)) rfl (pa_cons (pv 0) (pa_cons (pv 1) pa_nil))) (pe_one (pe_callD D__law_under (hr.mono (by decide)) rfl (pa_cons (pv 1) (pa_cons (pv 0) pa_nil)))))))), sp_go (fun H0 B0 i hp => ?_) h⟩
  obtain ⟨p, o⟩ := i
  refine ss_ret (ee_orV (ee_call rfl rfl (ea_cons (ee_var rfl (ea_cons (ee_var rfl (ea_nil ⟨(p, o), rfl, hp, fun x ex => ⟨_, ex, fun e => ?_, fun e => ?_⟩⟩))))))) 
  · show dB true = dB (ovl p o)
    unfold ovl
    rw [show cov p o = true from e, Bool.true_or]
  · refine ee_call rfl rfl (ea_cons (ee_var rfl (ea_cons (ee_var rfl (ea_nil ⟨(o, p), rfl, ⟨hp.2, hp.1⟩, fun x ex => ?_⟩)))))
    rw [ex]
    show dB _ = dB (ovl p o)
    unfold ovl
    rw [show cov p o = false from e, Bool.false_or]
theorem sc__law_home : FnScope ["_law_paths", "_law_module", "_law_path"] ["_law_paths", "_law_module"] (defScope sLawHome) := ⟨rfl, rfl, rfl, by decide +kernel, rfl, by decide +kernel, by decide +kernel⟩
theorem ok__law_home (W : Wd K mg) : DefOk P w K mg base "_law_home" ["_law_paths", "_law_module"] 2 (spHome K T) := by
  obtain ⟨f, fd, hm, F⟩ := W.f__law_home
  have D__law_under := ok__law_under (P := P) (w := w) (base := base) (T := T) W
  refine ⟨f, fd, hm, F.kp, F.bindsN fun _ _ _ _ _ _ us hl => match us, hl with | [_, _], _ => rfl, F.ok sc__law_home (sp_len fun _ => rfl) fun cdv A outer s H vs Q E hr h => ?_⟩
  have nd := sc__law_home.nd
  have hu64 := hr.units
  have hu1 := hu_of hr
  refine ⟨_, PSs.nox ((pss_cons (ps_for PassesOwn.never rfl (pi_tupK (K := K) rfl (pv 0)) (pg_name (i := 2) nd rfl (by first | exact Or.inl rfl | exact Or.inr rfl))
    (pss_one (ps_if (pt_val (pe_callD D__law_under (hr.mono (by decide)) rfl (pa_cons (pv 2) (pa_cons (pv 1) pa_nil))))
    (pss_one (ps_ret (pv 2)))
    pss_nil)))
    (pss_one (ps_ret pe_non)))), sp_go (fun H0 B0 i hp => ?_) h⟩
  obtain ⟨ps, m⟩ := i
  obtain ⟨h1, h2⟩ := hp
  dsimp only at h1 h2
  refine ss_seq (ss_for (vs := [2]) (wi_tup (ee_var rfl ⟨ps.map .str, rfl, fun j Γ1 => (∃ z, Γ1 = [cV (.val (sE ps)), cV (dS m), z]) ∧ home (ps.take j) m = none, ⟨⟨_, rfl⟩, rfl⟩, fun j d Γ1 hd hI => ?_, fun Γ1 hI => ?_⟩)))
  · obtain ⟨⟨z, rfl⟩, hn⟩ := hI
    obtain ⟨p, hp, rfl⟩ := map_get hd
    have hm := List.mem_of_getElem? hp
    refine sg_name ?_ (by simp)
    refine ss_if (et_test (ee_call rfl rfl (ea_cons (ee_var rfl (ea_cons (ee_var rfl (ea_nil ⟨(p, m), rfl, ⟨h1 p hm, h2⟩, fun x ex => ⟨_, ex, fun e => ?_, fun e => ?_⟩⟩)))))))
    · refine ss_ret (ee_var rfl ?_)
      show Dat.val _ = .val (oE .str (home ps m))
      rw [home_hit hp hn e]
      rfl
    · exact ss_next ⟨⟨_, rfl⟩, home_next hp hn e⟩
  · obtain ⟨⟨z, rfl⟩, hn⟩ := hI
    rw [List.length_map, List.take_length] at hn
    refine ss_ret (ee_non ?_)
    show dN = .val (oE .str (home ps m))
    rw [hn]
    rfl
theorem sc__law_is_long : FnScope ["_law_rule_here"] ["_law_rule_here"] (defScope sLawIsLong) := ⟨rfl, rfl, rfl, by decide +kernel, rfl, by decide +kernel, by decide +kernel⟩
theorem ok__law_is_long (W : Wd K mg) : DefOk P w K mg base "_law_is_long" ["_law_rule_here"] 1 (spIsCh K T) := by
  obtain ⟨f, fd, hm, F⟩ := W.f__law_is_long
  refine ⟨f, fd, hm, F.kp, F.bindsN fun _ _ _ _ _ _ us hl => match us, hl with | [_], _ => rfl, F.ok sc__law_is_long (sp_len fun _ => rfl) fun cdv A outer s H vs Q E hr h => ?_⟩
  have nd := sc__law_is_long.nd
  have hu64 := hr.units
  have hu1 := hu_of hr
  refine ⟨_, PSs.nox ((pss_one (ps_ret (pe_and (pe_cmpR (op_inK (K := K) rfl hu64) (pe_ix (ix_seqK (K := K) rfl) (pv 0) pe_int (fun _ _ => rfl)) (pe_tup (pa_cons pe_str (pa_cons pe_str (pa_cons pe_str pa_nil)))) (by rfl)) (pe_one (pe_cmpR (op_eqK (K := K) rfl hu64) (pe_ix (ix_seqK (K := K) rfl) (pv 0) (pe_un un_neg pe_int) (fun _ _ => rfl)) pe_str (nomark _))))))), sp_go (fun H0 B0 i hp => ?_) h⟩
  refine ss_ret (ee_andV (ee_kin3 rfl ⟨_, rfl, fun e => ?_, fun e => ?_⟩))
  · refine ee_op (ee_op (ee_var rfl (ee_un (ee_int (ru_neg ?_)))))
    cases i with
    | forbid s t c => exact ro_ixT (d := .str (howS c)) rfl (ee_str (ro_eqS (by cases c <;> rfl)))
    | layers r c => exact ro_ixT (d := .str (howS c)) rfl (ee_str (ro_eqS (by cases c <;> rfl)))
    | apart p c => exact ro_ixT (d := .str (howS c)) rfl (ee_str (ro_eqS (by cases c <;> rfl)))
    | stairs r => exact nft e
    | only t u => exact nft e
    | face h x => exact nft e
    | noring p => exact nft e
  · cases i with
    | forbid s t c => exact ntf e
    | layers r c => exact ntf e
    | apart p c => exact ntf e
    | stairs r => rfl
    | only t u => rfl
    | face h x => rfl
    | noring p => rfl
end
end My
end P10_
section DL26_
set_option maxHeartbeats 1000000
namespace My
open PySem PySem.Spec PyProof.Rows L2 LamX
section
variable {c : Ctx} {Γ : Env'} {P : Post}
/-- x, y = e, f where one of the names is a cell -/
theorem ss_asgG {te : TE} {g : TG} {vs : List Nat} (h : EE c te Γ fun x Γ1 => SG c g vs x Γ1 P.nx) : SS c (tAsg te g) Γ P := fun σ B H D C E n r b k =>
  h σ B H C E _ fun v B1 H1 x Γ1 s1 d1 sg => sg σ B1 H1 v s1.cur s1.env d1 _ fun σ2 Γ2 E2 _ p => n σ2 B1 H1 Γ2 s1.cur s1.b E2 p
end
end My
end DL26_
section P11_
set_option maxHeartbeats 1000000
namespace My
open PySem PySem.Spec PyProof.Rows L2 LamX
theorem rowFrom_some : ∀ {rows : List (List Str)} {m : Str} {k n : Nat} {p : Str}, rowFrom rows m k = some (n, p) → ∃ j row, n = k + j ∧ rows[j]? = some row ∧ home row m = some p
  | [], _, _, _, _, h => by cases h
  | r :: rs, m, k, n, p, h => by
    unfold rowFrom at h
    cases e : home r m with
    | some q =>
      rw [e] at h
      cases h
      exact ⟨0, r, rfl, rfl, e⟩
    | none =>
      rw [e] at h
      obtain ⟨j, row, h1, h2, h3⟩ := rowFrom_some h
      exact ⟨j + 1, row, by omega, h2, h3⟩
theorem rowFrom_no : ∀ {rows : List (List Str)} {m : Str} {k : Nat}, rowFrom rows m k = none → ∀ x ∈ rows, home x m = none
  | [], _, _, _, _, hx => by cases hx
  | r :: rs, m, k, h, x, hx => by
    unfold rowFrom at h
    cases e : home r m with
    | some q => rw [e] at h; cases h
    | none =>
      rw [e] at h
      rcases List.mem_cons.mp hx with z | z
      · rw [z]; exact e
      · exact rowFrom_no h x z
theorem rows_one {rows : List (List Str)} (h : NoOv rows.flatten) {i j : Nat} {ri rj : List Str} {m p q : Str} (h1 : rows[i]? = some ri) (h2 : rows[j]? = some rj) (hp : p ∈ ri) (hq : q ∈ rj) (c1 : cov p m = true) (c2 : cov q m = true) : i = j := by
  have h3 := (List.pairwise_flatten.mp h).2
  have key : ∀ {i j : Nat} {ri rj : List Str} {p q : Str}, rows[i]? = some ri → rows[j]? = some rj → p ∈ ri → q ∈ rj → cov p m = true → cov q m = true → ¬ i < j := fun {i j ri rj p q} a b hp hq c1 c2 hij => by
    obtain ⟨hi, e1⟩ := List.getElem?_eq_some_iff.mp a
    obtain ⟨hj, e2⟩ := List.getElem?_eq_some_iff.mp b
    have := List.pairwise_iff_getElem.mp h3 i j hi hj hij p (by rw [e1]; exact hp) q (by rw [e2]; exact hq)
    rw [cov_meet c2 c1] at this
    cases this
  have a1 := key h1 h2 hp hq c1 c2
  have a2 := key h2 h1 hq hp c2 c1
  omega
theorem filt_none {p : Nat → Bool} {N : Nat} (h : ∀ k, k < N → p k = false) : (List.range N).filter p = [] := List.filter_eq_nil_iff.mpr fun k hk => by
  rw [h k (List.mem_range.mp hk)]
  exact Bool.false_ne_true
theorem filt_one {p : Nat → Bool} {n : Nat} : ∀ {N : Nat}, n < N → p n = true → (∀ k, k < N → p k = true → k = n) → (List.range N).filter p = [n]
  | 0, h, _, _ => by omega
  | N + 1, h, hp, hu => by
    rw [List.range_succ, List.filter_append]
    by_cases e : n = N
    · subst e
      rw [filt_none fun k hk => by
        cases q : p k with
        | false => rfl
        | true => have := hu k (by omega) q; omega]
      simp [hp]
    · rw [filt_one (by omega) hp fun k hk => hu k (by omega)]
      have : p N = false := by
        cases q : p N with
        | false => rfl
        | true => have := hu N (by omega) q; omega
      simp [this]
theorem getD_at {l : List (List Str)} {k : Nat} (h : k < l.length) : l.getD k [] = l[k] := by simp [List.getD, List.getElem?_eq_getElem h]
def hitRows (rows : List (List Str)) (m : Str) : List Nat := (List.range rows.length).filter fun k => (home (rows.getD k []) m).isSome
theorem hit_none {rows : List (List Str)} {m : Str} (h : rowAt rows m = none) : hitRows rows m = [] := filt_none fun k hk => by
  have := rowFrom_no h rows[k] (List.getElem_mem hk)
  rw [getD_at hk, this]
  rfl
theorem hit_some {rows : List (List Str)} {m : Str} {n : Nat} {p : Str} (ok : NoOv rows.flatten) (h : rowAt rows m = some (n, p)) : ∃ row, rows[n]? = some row ∧ home row m = some p ∧ hitRows rows m = [n] := by
  obtain ⟨j, row, e, h1, h2⟩ := rowFrom_some h
  have e : n = j := by omega
  subst e
  obtain ⟨hn, e1⟩ := List.getElem?_eq_some_iff.mp h1
  refine ⟨row, h1, h2, filt_one hn (by rw [getD_at hn, e1, h2]; rfl) fun k hk hp => ?_⟩
  rw [getD_at hk] at hp
  obtain ⟨q, hq⟩ := Option.isSome_iff_exists.mp hp
  exact rows_one ok (List.getElem?_eq_getElem hk) h1 (home_mem hq).1 (home_mem h2).1 (home_mem hq).2 (home_mem h2).2
theorem home_cons {g m : Str} {u : List Str} : home (g :: u) m = if cov g m = true then some g else home u m := by
  unfold home
  rw [List.find?_cons]
  cases cov g m <;> rfl
theorem shal_l1 (n : Nat) : Shal (lE natE [n]) := by
  show Shal (.list [.int _])
  unfold Shal
  simp [PyData.depth, PyData.depthAll]
abbrev spBars (K : PySem.W.Frag) (T : List (Addr × Str)) : Sp := SpI K T (fun i : Rule × Str × Str => [.val (rE i.1), dS i.2.1, dS i.2.2]) (fun i => RuleOk i.1 ∧ isRing i.1 = false ∧ ShortS i.2.1 ∧ ShortS i.2.2) (fun i x => x = dB (barred i.1 i.2.1 i.2.2))
section
variable {P : Program} {w : World} {K : PySem.W.Frag} {mg : Str → Option Value} {base : Heap} {T : List (Addr × Str)}
theorem sc__law_bars : FnScope ["_law_rule_here", "_law_one", "_law_other", "_law_kind", "_law_paths", "_law_goal", "_law_inner", "_law_a", "_law_b", "_law_k", "_law_same"] ["_law_rule_here", "_law_one", "_law_other"] (defScope sLawBars) := ⟨rfl, rfl, rfl, by decide +kernel, rfl, by decide +kernel, by decide +kernel⟩
theorem ok__law_bars (W : Wd K mg) : DefOk P w K mg base "_law_bars" ["_law_rule_here", "_law_one", "_law_other"] 3 (spBars K T) := by
  obtain ⟨f, fd, hm, F⟩ := W.f__law_bars
  have D__law_home := ok__law_home (P := P) (w := w) (base := base) (T := T) W
  have D__law_under := ok__law_under (P := P) (w := w) (base := base) (T := T) W
  refine ⟨f, fd, hm, F.kp, F.bindsN fun _ _ _ _ _ _ us hl => match us, hl with | [_, _, _], _ => rfl, F.ok sc__law_bars (sp_len fun _ => rfl) fun cdv A outer s H vs Q E hr h => ?_⟩
  have nd := sc__law_bars.nd
  have hu64 := hr.units
  have hu1 := hu_of hr
  refine ⟨_, PSs.nox ((pss_cons (ps_asg (pe_tup (pa_cons (pe_ix (ix_seqK (K := K) rfl) (pv 0) pe_int (fun _ _ => rfl)) (pa_cons (pe_ix (ix_seqK (K := K) rfl) (pv 0) pe_int (fun _ _ => rfl)) pa_nil))) (pg_tupK (K := K) rfl (pg_tup (n := 2) rfl (pgs_cons (pg_name (i := 3) nd rfl (by first | exact Or.inl rfl | exact Or.inr rfl)) (pgs_cons (pg_name (i := 4) nd rfl (by first | exact Or.inl rfl | exact Or.inr rfl)) pgs_nil)))))
    (pss_cons (ps_if (pt_cmpR (op_eqK (K := K) rfl hu64) (pv 3) pe_str (nomark _))
    (pss_one (ps_ret (pe_and (pe_cmp (pc_notN (pe_callD D__law_home (hr.mono (by decide)) rfl (pa_cons (pv 4) (pa_cons (pv 1) pa_nil))))) (pe_one (pe_cmp (pc_notN (pe_callD D__law_home (hr.mono (by decide)) rfl (pa_cons (pe_ix (ix_seqK (K := K) rfl) (pv 0) pe_int (fun _ _ => rfl)) (pa_cons (pv 2) pa_nil)))))))))
    pss_nil)
    (pss_cons (ps_if (pt_cmpR (op_eqK (K := K) rfl hu64) (pv 3) pe_str (nomark _))
    (pss_cons (ps_set (i := 5) nd rfl (by first | exact Or.inl rfl | exact Or.inr rfl) (pe_callD D__law_home (hr.mono (by decide)) rfl (pa_cons (pv 4) (pa_cons (pv 2) pa_nil))))
    (pss_one (ps_ret (pe_and (pe_cmp (pc_notN (pv 5))) (pe_one (pe_cmp (pc_isN (pe_callD D__law_home (hr.mono (by decide)) rfl (pa_cons (pe_op (op_addK (K := K) rfl) (pe_tup (pa_cons (pv 5) pa_nil)) (pe_ix (ix_seqK (K := K) rfl) (pv 0) pe_int (fun _ _ => rfl))) (pa_cons (pv 1) pa_nil))))))))))
    pss_nil)
    (pss_cons (ps_if (pt_cmpR (op_eqK (K := K) rfl hu64) (pv 3) pe_str (nomark _))
    (pss_cons (ps_set (i := 6) nd rfl (by first | exact Or.inl rfl | exact Or.inr rfl) (pe_and (pe_callD D__law_under (hr.mono (by decide)) rfl (pa_cons (pv 4) (pa_cons (pv 2) pa_nil))) (pe_one (pe_not (pe_callD D__law_under (hr.mono (by decide)) rfl (pa_cons (pv 4) (pa_cons (pv 1) pa_nil)))))))
    (pss_one (ps_ret (pe_and (pv 6) (pe_one (pe_cmp (pc_isN (pe_callD D__law_home (hr.mono (by decide)) rfl (pa_cons (pe_ix (ix_seqK (K := K) rfl) (pv 0) pe_int (fun _ _ => rfl)) (pa_cons (pv 2) pa_nil))))))))))
    pss_nil)
    (pss_cons (ps_if (pt_cmpR (op_eqK (K := K) rfl hu64) (pv 3) pe_str (nomark _))
    (pss_cons (ps_par (i := 7) (j := 8) (by rfl) nd rfl rfl (by decide) rfl rfl (pa_cons (pe_callD D__law_home (hr.mono (by decide)) rfl (pa_cons (pv 4) (pa_cons (pv 1) pa_nil))) (pa_cons (pe_callD D__law_home (hr.mono (by decide)) rfl (pa_cons (pv 4) (pa_cons (pv 2) pa_nil))) pa_nil)) (by rfl))
    (pss_one (ps_ret (pe_and (pe_cmp (pc_notN (pv 7))) (pe_and (pe_cmp (pc_notN (pv 8))) (pe_one (pe_cmpR (op_neK (K := K) rfl hu64) (pv 7) (pv 8) (nomark _))))))))
    pss_nil)
    (pss_cons (ps_setLc (i := 7) (own := [("_law_k", 9)]) rfl nd rfl rfl (sw_true rfl rfl rfl (by decide +kernel)) (pi_range1 rfl W.b_range (pa_cons (pe_callB (cr_lenK (K := K) rfl) rfl W.b_len boot_len (pa_cons (pv 4) pa_nil)) pa_nil)) (blkOk_by (own := [("_law_k", 9)]) (N := ["_law_rule_here", "_law_one", "_law_other", "_law_kind", "_law_paths", "_law_goal", "_law_inner", "_law_a", "_law_b", "_law_k", "_law_same"]) (sc := defScope sLawBars) (by decide +kernel)) (fun _ _ _ _ _ => (pg_name (i := 9) nd rfl (by first | exact Or.inl rfl | exact Or.inr rfl))) (fun _ _ _ _ _ => (pts_one (pt_cmp (pc_notN (pe_callD D__law_home (hr.mono (by decide)) rfl (pa_cons (pe_ix (ix_seqK (K := K) rfl) (pv 4) (pv 9) (fun _ _ => rfl)) (pa_cons (pv 1) pa_nil))))))) (fun _ _ _ _ _ => (pv 9)))
    (pss_cons (ps_setLc (i := 8) (own := [("_law_k", 9)]) rfl nd rfl rfl (sw_true rfl rfl rfl (by decide +kernel)) (pi_range1 rfl W.b_range (pa_cons (pe_callB (cr_lenK (K := K) rfl) rfl W.b_len boot_len (pa_cons (pv 4) pa_nil)) pa_nil)) (blkOk_by (own := [("_law_k", 9)]) (N := ["_law_rule_here", "_law_one", "_law_other", "_law_kind", "_law_paths", "_law_goal", "_law_inner", "_law_a", "_law_b", "_law_k", "_law_same"]) (sc := defScope sLawBars) (by decide +kernel)) (fun _ _ _ _ _ => (pg_name (i := 9) nd rfl (by first | exact Or.inl rfl | exact Or.inr rfl))) (fun _ _ _ _ _ => (pts_one (pt_cmp (pc_notN (pe_callD D__law_home (hr.mono (by decide)) rfl (pa_cons (pe_ix (ix_seqK (K := K) rfl) (pv 4) (pv 9) (fun _ _ => rfl)) (pa_cons (pv 2) pa_nil))))))) (fun _ _ _ _ _ => (pv 9)))
    (pss_cons (ps_if (PW.pt (pw_or (pt_cmpR (op_notInK (K := K) rfl hu64) (pv 3) (pe_tup (pa_cons pe_str (pa_cons pe_str pa_nil))) (by rfl)) (pw_or (pt_cmpR (op_eqK (K := K) rfl hu64) (pv 7) (pe_lst pa_nil) (nomark _)) (pw_or1 (pt_cmpR (op_eqK (K := K) rfl hu64) (pv 8) (pe_lst pa_nil) (nomark _))))))
    (pss_one (ps_ret pe_bl))
    pss_nil)
    (pss_cons (ps_if (pt_cmpR (op_eqK (K := K) rfl hu64) (pv 3) pe_str (nomark _))
    (pss_one (ps_ret (pe_not (pe_chain op_le op_le (pe_ix (ix_seqK (K := K) rfl) (pv 7) pe_int (fun _ _ => rfl)) (pe_ix (ix_seqK (K := K) rfl) (pv 8) pe_int (fun _ _ => rfl)) (pe_op (op_addK (K := K) rfl) (pe_ix (ix_seqK (K := K) rfl) (pv 7) pe_int (fun _ _ => rfl)) pe_int)))))
    pss_nil)
    (pss_cons (ps_set (i := 10) nd rfl (by first | exact Or.inl rfl | exact Or.inr rfl) (pe_and (pe_cmpR (op_eqK (K := K) rfl hu64) (pv 7) (pv 8) (nomark _)) (pe_one (pe_cmpR (op_eqK (K := K) rfl hu64) (pe_callD D__law_home (hr.mono (by decide)) rfl (pa_cons (pe_ix (ix_seqK (K := K) rfl) (pv 4) (pe_ix (ix_seqK (K := K) rfl) (pv 7) pe_int (fun _ _ => rfl)) (fun _ _ => rfl)) (pa_cons (pv 1) pa_nil))) (pe_callD D__law_home (hr.mono (by decide)) rfl (pa_cons (pe_ix (ix_seqK (K := K) rfl) (pv 4) (pe_ix (ix_seqK (K := K) rfl) (pv 8) pe_int (fun _ _ => rfl)) (fun _ _ => rfl)) (pa_cons (pv 2) pa_nil))) (nomark _)))))
    (pss_one (ps_ret (pe_and (pe_not (pv 10)) (pe_one (pe_cmpR op_le (pe_ix (ix_seqK (K := K) rfl) (pv 8) pe_int (fun _ _ => rfl)) (pe_ix (ix_seqK (K := K) rfl) (pv 7) pe_int (fun _ _ => rfl)) (nomark _))))))))))))))))), sp_go (fun H0 B0 i hp => ?_) h⟩
  obtain ⟨r, a, b⟩ := i
  obtain ⟨rok, ring, ha, hb⟩ := hp
  dsimp only at rok ring ha hb
  have sh := rok.par_short
  cases r with
  | noring p =>
    exact nft ring.symm
  | forbid s t c =>
    refine ss_seq <| ss_asgG (vs := [3, 4]) <| ee_tup <| ea_cons <| ee_kind (r := .forbid s t c) rfl <| ea_cons <| ee_item (n := 1) (r := .forbid s t c) rfl rfl <| ea_nil ⟨[.str (kindS (.forbid s t c)), sE s], rfl, (by show 2 ≤ 1000000; decide), sg_pair (d1 := .str (kindS (.forbid s t c))) (d2 := sE s) ?_ (by simp) (by simp)⟩
    refine ss_seq <| ss_if <| et_test <| ee_op <| ee_var rfl <| ee_str <| ro_eqS ⟨_, rfl, fun _ => ?_, fun e => ntf e⟩
    refine ss_ret <| ee_andV <| ee_notN <| ee_call rfl rfl <| ea_cons <| ee_var rfl <| ea_cons <| ee_var rfl <| ea_nil ⟨(s, a), rfl, ⟨fun p hp => sh p (List.mem_append_left _ hp), ha⟩, fun x ex => ⟨oE .str (home s a), ex, _, rfl, fun e => ?_, fun e => ?_⟩⟩
    · refine ee_notN <| ee_call rfl rfl <| ea_cons <| ee_item (n := 2) (r := .forbid s t c) rfl rfl <| ea_cons <| ee_var rfl <| ea_nil ⟨(t, b), rfl, ⟨fun p hp => sh p (List.mem_append_right _ hp), hb⟩, fun x ex => ⟨oE .str (home t b), ex, ?_⟩⟩
      show dB _ = dB ((home s a).isSome && (home t b).isSome)
      rw [isNo_oS] at e ⊢
      cases h1 : home s a <;> cases h2 : home t b <;> first | rfl | (rw [h1] at e; cases e)
    · show dB false = dB ((home s a).isSome && (home t b).isSome)
      rw [isNo_oS] at e
      cases h1 : home s a <;> first | rfl | (rw [h1] at e; cases e)
  | only t u =>
    refine ss_seq <| ss_asgG (vs := [3, 4]) <| ee_tup <| ea_cons <| ee_kind (r := .only t u) rfl <| ea_cons <| ee_item (n := 1) (r := .only t u) rfl rfl <| ea_nil ⟨[.str (kindS (.only t u)), sE t], rfl, (by show 2 ≤ 1000000; decide), sg_pair (d1 := .str (kindS (.only t u))) (d2 := sE t) ?_ (by simp) (by simp)⟩
    refine ss_seq <| ss_if <| et_test <| ee_op <| ee_var rfl <| ee_str <| ro_eqS ⟨_, rfl, fun e => nft e, fun _ => ss_next ?_⟩
    refine ss_seq <| ss_if <| et_test <| ee_op <| ee_var rfl <| ee_str <| ro_eqS ⟨_, rfl, fun _ => ?_, fun e => ntf e⟩
    refine ss_seq <| ss_set <| ee_call rfl rfl <| ea_cons <| ee_var rfl <| ea_cons <| ee_var rfl <| ea_nil ⟨(t, b), rfl, ⟨fun p hp => sh p (List.mem_append_left _ hp), hb⟩, fun x ex => ?_⟩
    subst ex
    dsimp only
    cases hg : home t b with
    | none =>
      refine ss_ret <| ee_andV <| ee_notN <| ee_var rfl ⟨_, rfl, _, rfl, (fun z => by cases z), fun _ => ?_⟩
      show dB false = dB ((home t b).isSome && _)
      rw [hg]
      rfl
    | some g =>
      have hgt := (home_mem hg).1
      have no : NoOv t := NoOv.left rok.1
      refine ss_ret <| ee_andV <| ee_notN <| ee_var rfl ⟨_, rfl, _, rfl, (fun _ => ?_), fun z => by cases z⟩
      refine ee_isN <| ee_call rfl rfl <| ea_cons <| ee_op <| ee_tup <| ea_cons <| ee_var rfl <| ea_nil ⟨[.str g], rfl, (by show 1 ≤ 1000000; decide), ee_item (n := 2) (r := .only t u) rfl rfl <| ro_catT (by
        have := rok.2.2.2.1
        rw [List.length_map]
        show 1 + _ ≤ _
        omega) <| ea_cons <| ee_var rfl <| ea_nil ⟨(g :: u, a), rfl, ⟨fun p hp => ?_, ha⟩, fun x ex => ⟨oE .str (home (g :: u) a), ex, ?_⟩⟩⟩
      · rcases List.mem_cons.mp hp with z | z
        · rw [z]; exact sh g (List.mem_append_left _ hgt)
        · exact sh p (List.mem_append_right _ z)
      · show dB _ = dB ((home t b).isSome && (!decide (home t a = home t b) && (home u a).isNone))
        rw [isNo_oS, hg, home_cons]
        by_cases c : cov g a = true
        · rw [if_pos c, no.home hgt c]
          simp
        · rw [if_neg c]
          have : ¬ home t a = some g := fun z => c (home_mem z).2
          simp [this]
  | face h x =>
    refine ss_seq <| ss_asgG (vs := [3, 4]) <| ee_tup <| ea_cons <| ee_kind (r := .face h x) rfl <| ea_cons <| ee_item (n := 1) (r := .face h x) rfl rfl <| ea_nil ⟨[.str (kindS (.face h x)), .str h], rfl, (by show 2 ≤ 1000000; decide), sg_pair (d1 := .str (kindS (.face h x))) (d2 := .str h) ?_ (by simp) (by simp)⟩
    refine ss_seq <| ss_if <| et_test <| ee_op <| ee_var rfl <| ee_str <| ro_eqS ⟨_, rfl, fun e => nft e, fun _ => ss_next ?_⟩
    refine ss_seq <| ss_if <| et_test <| ee_op <| ee_var rfl <| ee_str <| ro_eqS ⟨_, rfl, fun e => nft e, fun _ => ss_next ?_⟩
    refine ss_seq <| ss_if <| et_test <| ee_op <| ee_var rfl <| ee_str <| ro_eqS ⟨_, rfl, fun _ => ?_, fun e => ntf e⟩
    have hh : ShortS h := rok.2.1.short
    have one : ∀ m, (home [h] m).isSome = cov h m := fun m => by rw [home_cons]; cases cov h m <;> rfl
    have non : ∀ m, (home [h] m).isNone = !cov h m := fun m => by rw [home_cons]; cases cov h m <;> rfl
    refine ss_seq <| ss_set <| ee_andV <| ee_call rfl rfl <| ea_cons <| ee_var rfl <| ea_cons <| ee_var rfl <| ea_nil ⟨(h, b), rfl, ⟨hh, hb⟩, fun y ey => ⟨_, ey, fun e => ?_, fun e => ?_⟩⟩
    · refine ee_notV <| ee_call rfl rfl <| ea_cons <| ee_var rfl <| ea_cons <| ee_var rfl <| ea_nil ⟨(h, a), rfl, ⟨hh, ha⟩, fun y ey => ⟨_, ey, ?_⟩⟩
      refine ss_ret <| ee_andV <| ee_var rfl ⟨_, rfl, fun e2 => ?_, fun e2 => ?_⟩
      · refine ee_isN <| ee_call rfl rfl <| ea_cons <| ee_item (n := 2) (r := .face h x) rfl rfl <| ea_cons <| ee_var rfl <| ea_nil ⟨(x, b), rfl, ⟨sh, hb⟩, fun y ey => ⟨oE .str (home x b), ey, ?_⟩⟩
        show dB _ = dB ((home [h] b).isSome && ((home [h] a).isNone && (home x b).isNone))
        rw [isNo_oS, one, non, show cov h b = true from e, show (!cov h a) = true from e2]
        rfl
      · show dB _ = dB ((home [h] b).isSome && ((home [h] a).isNone && (home x b).isNone))
        rw [one, non, show cov h b = true from e, show (!cov h a) = false from e2]
        rfl
    · refine ss_ret <| ee_andV <| ee_var rfl ⟨_, rfl, (fun z => by cases z), fun _ => ?_⟩
      show dB _ = dB ((home [h] b).isSome && _)
      rw [one, show cov h b = false from e]
      rfl
  | apart p c =>
    refine ss_seq <| ss_asgG (vs := [3, 4]) <| ee_tup <| ea_cons <| ee_kind (r := .apart p c) rfl <| ea_cons <| ee_item (n := 1) (r := .apart p c) rfl rfl <| ea_nil ⟨[.str (kindS (.apart p c)), sE p], rfl, (by show 2 ≤ 1000000; decide), sg_pair (d1 := .str (kindS (.apart p c))) (d2 := sE p) ?_ (by simp) (by simp)⟩
    refine ss_seq <| ss_if <| et_test <| ee_op <| ee_var rfl <| ee_str <| ro_eqS ⟨_, rfl, fun e => nft e, fun _ => ss_next ?_⟩
    refine ss_seq <| ss_if <| et_test <| ee_op <| ee_var rfl <| ee_str <| ro_eqS ⟨_, rfl, fun e => nft e, fun _ => ss_next ?_⟩
    refine ss_seq <| ss_if <| et_test <| ee_op <| ee_var rfl <| ee_str <| ro_eqS ⟨_, rfl, fun e => nft e, fun _ => ss_next ?_⟩
    refine ss_seq <| ss_if <| et_test <| ee_op <| ee_var rfl <| ee_str <| ro_eqS ⟨_, rfl, fun _ => ?_, fun e => ntf e⟩
    refine ss_seq <| ss_par <| ea_cons <| ee_call rfl rfl <| ea_cons <| ee_var rfl <| ea_cons <| ee_var rfl <| ea_nil ⟨(p, a), rfl, ⟨sh, ha⟩, fun y ey => ea_cons <| ee_call rfl rfl <| ea_cons <| ee_var rfl <| ea_cons <| ee_var rfl <| ea_nil ⟨(p, b), rfl, ⟨sh, hb⟩, fun z ez => ea_nil ⟨y, z, rfl, ?_⟩⟩⟩
    subst ey ez
    dsimp only
    refine ss_ret <| ee_andV <| ee_notN <| ee_var rfl ⟨_, rfl, _, rfl, fun e1 => ee_andV <| ee_notN <| ee_var rfl ⟨_, rfl, _, rfl, fun e2 => ee_op <| ee_var rfl <| ee_var rfl <| ro_neE (f := oE .str) eqe_oS (shal_oS _) ?_, fun e2 => ?_⟩, fun e1 => ?_⟩
    · show dB _ = dB (difB (home p a) (home p b))
      rw [isNo_oS] at e1 e2
      cases h1 : home p a <;> cases h2 : home p b <;> first | (rw [h1] at e1; cases e1; done) | (rw [h2] at e2; cases e2; done) | simp [difB]
    · show dB _ = dB (difB (home p a) (home p b))
      rw [isNo_oS] at e1 e2
      cases h1 : home p a <;> cases h2 : home p b <;> first | (rw [h1] at e1; cases e1; done) | (rw [h2] at e2; cases e2; done) | rfl
    · show dB _ = dB (difB (home p a) (home p b))
      rw [isNo_oS] at e1
      cases h1 : home p a <;> first | (rw [h1] at e1; cases e1; done) | rfl
  | layers rows c =>
    refine ss_seq <| ss_asgG (vs := [3, 4]) <| ee_tup <| ea_cons <| ee_kind (r := .layers rows c) rfl <| ea_cons <| ee_item (n := 1) (r := .layers rows c) rfl rfl <| ea_nil ⟨[.str (kindS (.layers rows c)), rowsE rows], rfl, (by show 2 ≤ 1000000; decide), sg_pair (d1 := .str (kindS (.layers rows c))) (d2 := rowsE rows) ?_ (by simp) (by simp)⟩
    have hlen : rows.length ≤ 5 := rok.2.2.1
    have no : NoOv rows.flatten := rok.1
    refine ss_seq <| ss_if <| et_test <| ee_op <| ee_var rfl <| ee_str <| ro_eqS ⟨_, rfl, fun e => nft e, fun _ => ss_next ?_⟩
    refine ss_seq <| ss_if <| et_test <| ee_op <| ee_var rfl <| ee_str <| ro_eqS ⟨_, rfl, fun e => nft e, fun _ => ss_next ?_⟩
    refine ss_seq <| ss_if <| et_test <| ee_op <| ee_var rfl <| ee_str <| ro_eqS ⟨_, rfl, fun e => nft e, fun _ => ss_next ?_⟩
    refine ss_seq <| ss_if <| et_test <| ee_op <| ee_var rfl <| ee_str <| ro_eqS ⟨_, rfl, fun e => nft e, fun _ => ss_next ?_⟩
    refine ss_seq <| ss_set <| ee_lc <| wi_rng1 <| ea_cons <| ee_CB <| ea_cons <| ee_var rfl <| ea_nil <| rl_lenT <| ea_nil ⟨rows.length, by omega, by rw [List.length_map], lc1f natE natE id (fun k => (home (rows.getD k []) a).isSome) (by rw [List.length_range]; omega) (hno_unk rfl) (fun k hk => ?_) ?_⟩
    · have hk := List.mem_range.mp hk
      exact et_B <| ee_notN <| ee_call rfl rfl <| ea_cons <| ee_op <| ee_var rfl <| ee_var rfl <| ro_ixT (d := sE rows[k]) (atI_nat (by rw [List.getElem?_map, List.getElem?_eq_getElem hk]; rfl)) <| ea_cons <| ee_var rfl <| ea_nil ⟨(rows[k], a), rfl, ⟨fun p hp => sh p (List.mem_flatten.mpr ⟨_, List.getElem_mem hk, hp⟩), ha⟩, fun x ex => ⟨oE .str (home rows[k] a), ex, _, rfl, rfl, (by rw [isNo_oS, getD_at hk]; cases home rows[k] a <;> rfl), fun _ => ee_var rfl ⟨rfl, rfl⟩⟩⟩
    rw [show (List.filter (fun k => (home (rows.getD k []) a).isSome) (List.range rows.length)).map id = hitRows rows a from List.map_id _]
    refine ss_seq <| ss_set <| ee_lc <| wi_rng1 <| ea_cons <| ee_CB <| ea_cons <| ee_var rfl <| ea_nil <| rl_lenT <| ea_nil ⟨rows.length, by omega, by rw [List.length_map], lc1f natE natE id (fun k => (home (rows.getD k []) b).isSome) (by rw [List.length_range]; omega) (hno_unk rfl) (fun k hk => ?_) ?_⟩
    · have hk := List.mem_range.mp hk
      exact et_B <| ee_notN <| ee_call rfl rfl <| ea_cons <| ee_op <| ee_var rfl <| ee_var rfl <| ro_ixT (d := sE rows[k]) (atI_nat (by rw [List.getElem?_map, List.getElem?_eq_getElem hk]; rfl)) <| ea_cons <| ee_var rfl <| ea_nil ⟨(rows[k], b), rfl, ⟨fun p hp => sh p (List.mem_flatten.mpr ⟨_, List.getElem_mem hk, hp⟩), hb⟩, fun x ex => ⟨oE .str (home rows[k] b), ex, _, rfl, rfl, (by rw [isNo_oS, getD_at hk]; cases home rows[k] b <;> rfl), fun _ => ee_var rfl ⟨rfl, rfl⟩⟩⟩
    rw [show (List.filter (fun k => (home (rows.getD k []) b).isSome) (List.range rows.length)).map id = hitRows rows b from List.map_id _]
    refine ss_seq <| ss_if <| et_or <| et_test <| ee_op <| ee_var rfl <| ee_tup <| ea_cons <| ee_str <| ea_cons <| ee_str <| ea_nil ⟨[.str "layers", .str "stairs"], rfl, (by show 2 ≤ 1000000; decide), ro_ninE (f := PyData.str) (l := ["layers", "stairs"]) eqe_str (shal_str _) ⟨_, rfl, fun e => nft e, fun _ => et_or <| et_test <| ee_op <| ee_var rfl <| ee_lst <| ea_nil ⟨[], rfl, (by decide), RO1.ro <| ro1_eqNil ⟨_, rfl, fun e1 => ⟨fun _ => ss_ret <| ee_bl ?_, (fun z => by cases z)⟩, fun e1 => et_test <| ee_op <| ee_var rfl <| ee_lst <| ea_nil ⟨[], rfl, (by decide), RO1.ro <| ro1_eqNil ⟨_, rfl, fun e2 => ss_ret <| ee_bl ?_, fun e2 => ss_next ?_⟩⟩⟩⟩⟩⟩
    · show dB false = dB (layB (rowAt rows a) (rowAt rows b))
      cases h1 : rowAt rows a with
      | none => rfl
      | some x =>
        obtain ⟨_, _, _, e⟩ := hit_some (n := x.1) (p := x.2) no h1
        rw [e] at e1
        cases e1
    · show dB false = dB (layB (rowAt rows a) (rowAt rows b))
      cases h2 : rowAt rows b with
      | none => cases rowAt rows a <;> rfl
      | some x =>
        obtain ⟨_, _, _, e⟩ := hit_some (n := x.1) (p := x.2) no h2
        rw [e] at e2
        cases e2
    cases h1 : rowAt rows a with
    | none => rw [hit_none h1] at e1; cases e1
    | some x =>
    cases h2 : rowAt rows b with
    | none => rw [hit_none h2] at e2; cases e2
    | some y =>
    obtain ⟨ra, a1, a2, a3⟩ := hit_some (n := x.1) (p := x.2) no h1
    obtain ⟨rb, b1, b2, b3⟩ := hit_some (n := y.1) (p := y.2) no h2
    rw [a3, b3]
    refine ss_seq <| ss_if <| et_test <| ee_op <| ee_var rfl <| ee_str <| ro_eqS ⟨_, rfl, fun e => nft e, fun _ => ss_next ?_⟩
    have hfin : ∀ S : Bool, (S = true ↔ x.1 = y.1 ∧ x.2 = y.2) → dB (!S && decide ((y.1 : Int) ≤ x.1)) = dB (layB (rowAt rows a) (rowAt rows b)) := fun S hS => by
      rw [h1, h2]
      show dB _ = dB (!decide (x.2 = y.2) && decide (y.1 ≤ x.1))
      have i1 : decide ((y.1 : Int) ≤ x.1) = decide (y.1 ≤ x.1) := decide_eq_decide.mpr (by omega)
      rw [i1]
      by_cases e : x.2 = y.2
      · have q := rows_one no a1 b1 (home_mem a2).1 (by rw [e]; exact (home_mem b2).1) (home_mem a2).2 (home_mem a2).2
        rw [hS.mpr ⟨q, e⟩]
        simp [e]
      · have : S = false := by
          cases S with
          | false => rfl
          | true => exact absurd (hS.mp rfl).2 e
        rw [this]
        simp [e]
    obtain ⟨xa, ea⟩ := List.getElem?_eq_some_iff.mp a1
    obtain ⟨xb, eb⟩ := List.getElem?_eq_some_iff.mp b1
    refine ss_seq <| ss_set <| ee_andV <| ee_op <| ee_var rfl <| ee_var rfl <| ro_eqE (f := lE natE) (x := [x.1]) (y := [y.1]) (eqe_lE eqe_nat) (shal_l1 x.1) ⟨_, rfl, fun e => ?_, fun e => ?_⟩
    · refine ee_op <| ee_call rfl rfl <| ea_cons <| ee_op <| ee_var rfl <| ee_op <| ee_var rfl <| ee_int <| ro_ixL (d := natE x.1) (atI_nat (xs := List.map natE [x.1]) (j := 0) rfl) <| ro_ixT (d := sE ra) (atI_nat (by rw [List.getElem?_map, a1]; rfl)) <| ea_cons <| ee_var rfl <| ea_nil ⟨(ra, a), rfl, ⟨fun p hp => sh p (List.mem_flatten.mpr ⟨ra, List.mem_of_getElem? a1, hp⟩), ha⟩, fun u eu => ee_call rfl rfl <| ea_cons <| ee_op <| ee_var rfl <| ee_op <| ee_var rfl <| ee_int <| ro_ixL (d := natE y.1) (atI_nat (xs := List.map natE [y.1]) (j := 0) rfl) <| ro_ixT (d := sE rb) (atI_nat (by rw [List.getElem?_map, b1]; rfl)) <| ea_cons <| ee_var rfl <| ea_nil ⟨(rb, b), rfl, ⟨fun p hp => sh p (List.mem_flatten.mpr ⟨rb, List.mem_of_getElem? b1, hp⟩), hb⟩, fun v ev => ?_⟩⟩
      subst eu ev
      dsimp only
      rw [a2, b2]
      refine ro_eqE (f := oE .str) (x := some x.2) (y := some y.2) eqe_oS (shal_oS _) ?_
      refine ss_ret <| ee_andV <| ee_notV <| ee_var rfl ⟨_, rfl, _, rfl, fun e2 => ee_op <| ee_op <| ee_var rfl <| ee_int <| ro_ixL (d := natE y.1) (atI_nat (xs := List.map natE [y.1]) (j := 0) rfl) <| ee_op <| ee_var rfl <| ee_int <| ro_ixL (d := natE x.1) (atI_nat (xs := List.map natE [x.1]) (j := 0) rfl) <| ro_le ?_, fun e2 => ?_⟩
      · have q := hfin (decide (some x.2 = some y.2)) ⟨fun h => ⟨by simpa using e, by simpa using h⟩, fun h => by simp [h.2]⟩
        rw [e2] at q
        exact q
      · have q := hfin (decide (some x.2 = some y.2)) ⟨fun h => ⟨by simpa using e, by simpa using h⟩, fun h => by simp [h.2]⟩
        rw [e2] at q
        exact q
    · refine ss_ret <| ee_andV <| ee_notV <| ee_var rfl ⟨_, rfl, _, rfl, fun e2 => ee_op <| ee_op <| ee_var rfl <| ee_int <| ro_ixL (d := natE y.1) (atI_nat (xs := List.map natE [y.1]) (j := 0) rfl) <| ee_op <| ee_var rfl <| ee_int <| ro_ixL (d := natE x.1) (atI_nat (xs := List.map natE [x.1]) (j := 0) rfl) <| ro_le ?_, fun e2 => by cases e2⟩
      have q := hfin false ⟨fun h => (by cases h), fun h => absurd h.1 (by simpa using e)⟩
      exact q
  | stairs rows =>
    refine ss_seq <| ss_asgG (vs := [3, 4]) <| ee_tup <| ea_cons <| ee_kind (r := .stairs rows) rfl <| ea_cons <| ee_item (n := 1) (r := .stairs rows) rfl rfl <| ea_nil ⟨[.str (kindS (.stairs rows)), rowsE rows], rfl, (by show 2 ≤ 1000000; decide), sg_pair (d1 := .str (kindS (.stairs rows))) (d2 := rowsE rows) ?_ (by simp) (by simp)⟩
    have hlen : rows.length ≤ 5 := rok.2.2.1
    have no : NoOv rows.flatten := rok.1
    refine ss_seq <| ss_if <| et_test <| ee_op <| ee_var rfl <| ee_str <| ro_eqS ⟨_, rfl, fun e => nft e, fun _ => ss_next ?_⟩
    refine ss_seq <| ss_if <| et_test <| ee_op <| ee_var rfl <| ee_str <| ro_eqS ⟨_, rfl, fun e => nft e, fun _ => ss_next ?_⟩
    refine ss_seq <| ss_if <| et_test <| ee_op <| ee_var rfl <| ee_str <| ro_eqS ⟨_, rfl, fun e => nft e, fun _ => ss_next ?_⟩
    refine ss_seq <| ss_if <| et_test <| ee_op <| ee_var rfl <| ee_str <| ro_eqS ⟨_, rfl, fun e => nft e, fun _ => ss_next ?_⟩
    refine ss_seq <| ss_set <| ee_lc <| wi_rng1 <| ea_cons <| ee_CB <| ea_cons <| ee_var rfl <| ea_nil <| rl_lenT <| ea_nil ⟨rows.length, by omega, by rw [List.length_map], lc1f natE natE id (fun k => (home (rows.getD k []) a).isSome) (by rw [List.length_range]; omega) (hno_unk rfl) (fun k hk => ?_) ?_⟩
    · have hk := List.mem_range.mp hk
      exact et_B <| ee_notN <| ee_call rfl rfl <| ea_cons <| ee_op <| ee_var rfl <| ee_var rfl <| ro_ixT (d := sE rows[k]) (atI_nat (by rw [List.getElem?_map, List.getElem?_eq_getElem hk]; rfl)) <| ea_cons <| ee_var rfl <| ea_nil ⟨(rows[k], a), rfl, ⟨fun p hp => sh p (List.mem_flatten.mpr ⟨_, List.getElem_mem hk, hp⟩), ha⟩, fun x ex => ⟨oE .str (home rows[k] a), ex, _, rfl, rfl, (by rw [isNo_oS, getD_at hk]; cases home rows[k] a <;> rfl), fun _ => ee_var rfl ⟨rfl, rfl⟩⟩⟩
    rw [show (List.filter (fun k => (home (rows.getD k []) a).isSome) (List.range rows.length)).map id = hitRows rows a from List.map_id _]
    refine ss_seq <| ss_set <| ee_lc <| wi_rng1 <| ea_cons <| ee_CB <| ea_cons <| ee_var rfl <| ea_nil <| rl_lenT <| ea_nil ⟨rows.length, by omega, by rw [List.length_map], lc1f natE natE id (fun k => (home (rows.getD k []) b).isSome) (by rw [List.length_range]; omega) (hno_unk rfl) (fun k hk => ?_) ?_⟩
    · have hk := List.mem_range.mp hk
      exact et_B <| ee_notN <| ee_call rfl rfl <| ea_cons <| ee_op <| ee_var rfl <| ee_var rfl <| ro_ixT (d := sE rows[k]) (atI_nat (by rw [List.getElem?_map, List.getElem?_eq_getElem hk]; rfl)) <| ea_cons <| ee_var rfl <| ea_nil ⟨(rows[k], b), rfl, ⟨fun p hp => sh p (List.mem_flatten.mpr ⟨_, List.getElem_mem hk, hp⟩), hb⟩, fun x ex => ⟨oE .str (home rows[k] b), ex, _, rfl, rfl, (by rw [isNo_oS, getD_at hk]; cases home rows[k] b <;> rfl), fun _ => ee_var rfl ⟨rfl, rfl⟩⟩⟩
    rw [show (List.filter (fun k => (home (rows.getD k []) b).isSome) (List.range rows.length)).map id = hitRows rows b from List.map_id _]
    refine ss_seq <| ss_if <| et_or <| et_test <| ee_op <| ee_var rfl <| ee_tup <| ea_cons <| ee_str <| ea_cons <| ee_str <| ea_nil ⟨[.str "layers", .str "stairs"], rfl, (by show 2 ≤ 1000000; decide), ro_ninE (f := PyData.str) (l := ["layers", "stairs"]) eqe_str (shal_str _) ⟨_, rfl, fun e => nft e, fun _ => et_or <| et_test <| ee_op <| ee_var rfl <| ee_lst <| ea_nil ⟨[], rfl, (by decide), RO1.ro <| ro1_eqNil ⟨_, rfl, fun e1 => ⟨fun _ => ss_ret <| ee_bl ?_, (fun z => by cases z)⟩, fun e1 => et_test <| ee_op <| ee_var rfl <| ee_lst <| ea_nil ⟨[], rfl, (by decide), RO1.ro <| ro1_eqNil ⟨_, rfl, fun e2 => ss_ret <| ee_bl ?_, fun e2 => ss_next ?_⟩⟩⟩⟩⟩⟩
    · show dB false = dB (staB (rowAt rows a) (rowAt rows b))
      cases h1 : rowAt rows a with
      | none => rfl
      | some x =>
        obtain ⟨_, _, _, e⟩ := hit_some (n := x.1) (p := x.2) no h1
        rw [e] at e1
        cases e1
    · show dB false = dB (staB (rowAt rows a) (rowAt rows b))
      cases h2 : rowAt rows b with
      | none => cases rowAt rows a <;> rfl
      | some x =>
        obtain ⟨_, _, _, e⟩ := hit_some (n := x.1) (p := x.2) no h2
        rw [e] at e2
        cases e2
    cases h1 : rowAt rows a with
    | none => rw [hit_none h1] at e1; cases e1
    | some x =>
    cases h2 : rowAt rows b with
    | none => rw [hit_none h2] at e2; cases e2
    | some y =>
    obtain ⟨ra, a1, a2, a3⟩ := hit_some (n := x.1) (p := x.2) no h1
    obtain ⟨rb, b1, b2, b3⟩ := hit_some (n := y.1) (p := y.2) no h2
    rw [a3, b3]
    refine ss_seq <| ss_if <| et_test <| ee_op <| ee_var rfl <| ee_str <| ro_eqS ⟨_, rfl, fun _ => ?_, fun e => ntf e⟩
    refine ss_ret <| ee_notV <| ee_chain <| ee_op <| ee_var rfl <| ee_int <| ro_ixL (d := natE x.1) (atI_nat (xs := List.map natE [x.1]) (j := 0) rfl) <| ee_op <| ee_var rfl <| ee_int <| ro_ixL (d := natE y.1) (atI_nat (xs := List.map natE [y.1]) (j := 0) rfl) <| ro_le ⟨_, rfl, fun e => ee_op <| ee_op <| ee_var rfl <| ee_int <| ro_ixL (d := natE x.1) (atI_nat (xs := List.map natE [x.1]) (j := 0) rfl) <| ee_int <| ro_addI <| ro_le ⟨_, rfl, ?_⟩, fun e => ⟨_, rfl, ?_⟩⟩
    · show dB _ = dB (staB (rowAt rows a) (rowAt rows b))
      rw [h1, h2]
      have e := of_decide_eq_true e
      show dB _ = dB (!decide (y.1 = x.1 ∨ y.1 = x.1 + 1))
      refine congrArg dB (congrArg not (decide_eq_decide.mpr ?_))
      omega
    · show dB _ = dB (staB (rowAt rows a) (rowAt rows b))
      rw [h1, h2]
      have e := of_decide_eq_false e
      show dB (!false) = dB (!decide (y.1 = x.1 ∨ y.1 = x.1 + 1))
      refine congrArg dB (congrArg not (Eq.symm (decide_eq_false ?_)))
      omega
end
end My
end P11_
section DL27_
set_option maxHeartbeats 1000000
namespace My
open PySem PySem.Spec PyProof.Rows L2 LamX
structure FarI (ms : List Str) (us : List Use) (m : Str) (seen : List Str) (k : Nat) : Prop where
  nd : seen.Nodup
  hd : ∃ t, seen = m :: t
  re : ∀ x ∈ seen, Reach us m x
  ms : ∀ x ∈ seen, x ∈ ms
  cl : ∀ j, j < k → ∀ x, seen[j]? = some x → ∀ y, (x, y) ∈ us → y ∈ seen
def farNew (us : List Use) (seen here : List Str) : List Str := (us.filter fun u => decide (u.1 ∈ here) && !decide (u.2 ∈ seen)).map (·.2)
theorem FarI.start {ms : List Str} {us : List Use} {m : Str} (h : m ∈ ms) : FarI ms us m [m] 0 :=
  ⟨by simp, ⟨[], rfl⟩, fun x hx => by simp at hx; rw [hx]; exact ⟨[m], .one⟩, fun x hx => by simp at hx; rw [hx]; exact h, fun j hj => by omega⟩
theorem take1 {l : List Str} {k : Nat} : (l.drop k).take 1 = match l[k]? with | some x => [x] | none => [] := by
  cases e : l[k]? with
  | none =>
    have := List.getElem?_eq_none_iff.mp e
    rw [List.drop_eq_nil_of_le this]
    rfl
  | some x =>
    obtain ⟨h, e2⟩ := List.getElem?_eq_some_iff.mp e
    rw [List.drop_eq_getElem_cons h, e2]
    rfl
theorem FarI.step {ms : List Str} {us : List Use} {m : Str} {seen : List Str} {k : Nat} (f : FarI ms us m seen k) (hu : us.Nodup) (hm : ∀ u ∈ us, u.1 ∈ ms ∧ u.2 ∈ ms) : FarI ms us m (seen ++ farNew us seen ((seen.drop k).take 1)) (k + 1) := by
  have mem : ∀ {y}, y ∈ farNew us seen ((seen.drop k).take 1) ↔ ∃ x, seen[k]? = some x ∧ (x, y) ∈ us ∧ y ∉ seen := fun {y} => by
    unfold farNew
    rw [List.mem_map, take1]
    constructor
    · rintro ⟨u, hu, rfl⟩
      obtain ⟨h1, h2⟩ := List.mem_filter.mp hu
      rw [Bool.and_eq_true] at h2
      cases e : seen[k]? with
      | none => rw [e] at h2; simp at h2
      | some x =>
        rw [e] at h2
        simp at h2
        refine ⟨x, rfl, ?_, h2.2⟩
        rw [← h2.1]; exact h1
    · rintro ⟨x, e, h1, h2⟩
      refine ⟨(x, y), List.mem_filter.mpr ⟨h1, ?_⟩, rfl⟩
      rw [e]
      simp [h2]
  refine ⟨List.nodup_append.mpr ⟨f.nd, ?_, fun a ha b hb e => ?_⟩, ?_, fun x hx => ?_, fun x hx => ?_, fun j hj x hx y hy => ?_⟩
  · unfold farNew
    rw [take1]
    rw [List.nodup_iff_pairwise_ne, List.pairwise_map]
    refine List.Pairwise.imp_of_mem ?_ (List.nodup_iff_pairwise_ne.mp (List.Pairwise.filter _ hu))
    intro u v hu hv ne e
    have h1 := (List.mem_filter.mp hu).2
    have h2 := (List.mem_filter.mp hv).2
    cases e3 : seen[k]? with
    | none => rw [e3] at h1; simp at h1
    | some x =>
      rw [e3] at h1 h2
      simp at h1 h2
      exact ne (Prod.ext (h1.1.trans h2.1.symm) e)
  · subst e
    obtain ⟨x, _, _, h⟩ := mem.mp hb
    exact h ha
  · obtain ⟨t, e⟩ := f.hd
    exact ⟨t ++ _, by rw [e]; rfl⟩
  · rcases List.mem_append.mp hx with q | q
    · exact f.re x q
    · obtain ⟨z, h1, h2, _⟩ := mem.mp q
      exact (f.re z (List.mem_of_getElem? h1)).step h2
  · rcases List.mem_append.mp hx with q | q
    · exact f.ms x q
    · obtain ⟨z, _, h2, _⟩ := mem.mp q
      exact (hm _ h2).2
  · by_cases hjl : j < seen.length
    · rw [List.getElem?_append_left hjl] at hx
      by_cases hjk : j < k
      · exact List.mem_append_left _ (f.cl j hjk x hx y hy)
      · have : j = k := by omega
        subst this
        by_cases q : y ∈ seen
        · exact List.mem_append_left _ q
        · exact List.mem_append_right _ (mem.mpr ⟨x, hx, hy, q⟩)
    · have : seen[k]? = none := List.getElem?_eq_none (by omega)
      have e : farNew us seen ((seen.drop k).take 1) = [] := by
        cases q : farNew us seen ((seen.drop k).take 1) with
        | nil => rfl
        | cons z l =>
          obtain ⟨w, h1, _⟩ := mem.mp (show z ∈ farNew us seen ((seen.drop k).take 1) by rw [q]; simp)
          rw [this] at h1
          cases h1
      rw [e, List.append_nil] at hx
      rw [List.getElem?_eq_none (by omega)] at hx
      cases hx
theorem FarI.all {ms : List Str} {us : List Use} {m : Str} {seen : List Str} (f : FarI ms us m seen ms.length) : ∀ y, y ∈ seen ↔ Reach us m y := fun y => ⟨f.re y, fun ⟨ch, w⟩ => by
  have hl := nodup_len f.nd f.ms
  induction w with
  | one =>
    obtain ⟨t, e⟩ := f.hd
    rw [e]; simp
  | @step m' x ch w hu ih =>
    obtain ⟨j, hj, e⟩ := List.getElem_of_mem (ih ⟨ch, w⟩)
    exact f.cl j (by omega) _ (by rw [List.getElem?_eq_getElem hj, e]) _ hu⟩
theorem FarI.tail {ms : List Str} {us : List Use} {m : Str} {seen : List Str} (f : FarI ms us m seen ms.length) : ∀ y, y ∈ seen.drop 1 ↔ y ≠ m ∧ Reach us m y := fun y => by
  have h := f.all y
  obtain ⟨t, e⟩ := f.hd
  have nd := f.nd
  rw [e] at h nd
  rw [e, List.drop_one, List.tail_cons]
  have n := (List.nodup_cons.mp nd).1
  constructor
  · intro hy
    exact ⟨fun z => n (z ▸ hy), h.mp (List.mem_cons_of_mem _ hy)⟩
  · rintro ⟨h1, h2⟩
    rcases List.mem_cons.mp (h.mpr h2) with q | q
    · exact absurd q h1
    · exact q
end My
end DL27_
section P12_
set_option maxHeartbeats 1000000
namespace My
open PySem PySem.Spec PyProof.Rows L2 LamX
abbrev luE : List Use → PyData := lE uE
abbrev slE : List Str → PyData := lE .str
structure LawOk (ms : List Str) (us : List Use) : Prop where
  m : ms.length ≤ 100
  u : us.length ≤ 1000
  s : ∀ m ∈ ms, ShortS m
  nd : us.Nodup
  mem : ∀ u ∈ us, u.1 ∈ ms ∧ u.2 ∈ ms
abbrev spRinged (K : PySem.W.Frag) (T : List (Addr × Str)) : Sp := SpI K T (fun i : List Str × List Use => [.val (sE i.1), .val (luE i.2)]) (fun i => (∀ p ∈ i.1, ShortS p) ∧ i.1.length ≤ 100 ∧ i.2.length ≤ 1000 ∧ ∀ u ∈ i.2, ShortS u.1 ∧ ShortS u.2) (fun i x => ∃ b, x = dB b ∧ (b = true ↔ ringP i.2 i.1))
abbrev spPairs (K : PySem.W.Frag) (T : List (Addr × Str)) : Sp := SpI K T (fun i : List Str × List Use => [.val (slE i.1), .val (luE i.2)]) (fun i => LawOk i.1 i.2) (fun i x => ∃ ps : List Use, x = .val (luE ps) ∧ ps.length ≤ 10000 ∧ ∀ a b, (a, b) ∈ ps ↔ a ∈ i.1 ∧ b ≠ a ∧ Reach i.2 a b)
abbrev spFar (K : PySem.W.Frag) (T : List (Addr × Str)) : Sp := SpI K T (fun i : List Str × List Use => [.val (slE i.1), .val (luE i.2)]) (fun i => LawOk i.1 i.2) (fun i x => ∃ kvs, x = .dk kvs ∧ ∀ m ∈ i.1, ∃ l, getD' kvs (.inr m) = some (slE l) ∧ l.length ≤ 100 ∧ ∀ y, y ∈ l ↔ y ≠ m ∧ Reach i.2 m y)
section
variable {P : Program} {w : World} {K : PySem.W.Frag} {mg : Str → Option Value} {base : Heap} {T : List (Addr × Str)}
theorem sc__law_far : FnScope ["_law_modules_here", "_law_uses_here", "_law_found", "_law_one", "_law_seen", "_law_at", "_law_here", "_law_a", "_law_b"] ["_law_modules_here", "_law_uses_here"] (defScope sLawFar) := ⟨rfl, rfl, rfl, by decide +kernel, rfl, by decide +kernel, by decide +kernel⟩
theorem ok__law_far (W : Wd K mg) : DefOk P w K mg base "_law_far" ["_law_modules_here", "_law_uses_here"] 1 (spFar K T) := by
  obtain ⟨f, fd, hm, F⟩ := W.f__law_far
  refine ⟨f, fd, hm, F.kp, F.bindsN fun _ _ _ _ _ _ us hl => match us, hl with | [_, _], _ => rfl, F.ok sc__law_far (sp_len fun _ => rfl) fun cdv A outer s H vs Q E hr h => ?_⟩
  have nd := sc__law_far.nd
  have hu64 := hr.units
  have hu1 := hu_of hr
  refine ⟨_, PSs.nox ((pss_cons (ps_set (i := 2) nd rfl (by first | exact Or.inl rfl | exact Or.inr rfl) pe_dnewK)
    (pss_cons (ps_for PassesOwn.never rfl (pi_listK (K := K) rfl (pv 0)) (pg_name (i := 3) nd rfl (by first | exact Or.inl rfl | exact Or.inr rfl))
    (pss_cons (ps_set (i := 4) nd rfl (by first | exact Or.inl rfl | exact Or.inr rfl) (pe_lst (pa_cons (pv 3) pa_nil)))
    (pss_cons (ps_for PassesOwn.never rfl (pi_range1 rfl W.b_range (pa_cons (pe_callB (cr_lenK (K := K) rfl) rfl W.b_len boot_len (pa_cons (pv 0) pa_nil)) pa_nil)) (pg_name (i := 5) nd rfl (by first | exact Or.inl rfl | exact Or.inr rfl))
    (pss_cons (ps_set (i := 6) nd rfl (by first | exact Or.inl rfl | exact Or.inr rfl) (pe_slice (sl_listK (K := K) rfl) (pv 4) (po_some (pv 5)) (po_some (pe_op (op_addK (K := K) rfl) (pv 5) pe_int))))
    (pss_one (ps_set (i := 4) nd rfl (by first | exact Or.inl rfl | exact Or.inr rfl) (pe_op (op_addK (K := K) rfl) (pv 4) (pe_lc (own := [("_law_a", 7), ("_law_b", 8)]) rfl nd (pi_listK (K := K) rfl (pv 1)) (blkOk_by (own := [("_law_a", 7), ("_law_b", 8)]) (N := ["_law_modules_here", "_law_uses_here", "_law_found", "_law_one", "_law_seen", "_law_at", "_law_here", "_law_a", "_law_b"]) (sc := defScope sLawFar) (by decide +kernel)) (fun _ _ _ _ _ => (pg_tupK (K := K) rfl (pg_tup (n := 2) rfl (pgs_cons (pg_name (i := 7) nd rfl (by first | exact Or.inl rfl | exact Or.inr rfl)) (pgs_cons (pg_name (i := 8) nd rfl (by first | exact Or.inl rfl | exact Or.inr rfl)) pgs_nil))))) (fun _ _ _ _ _ => (pts_one (PW.pt (pw_and (pt_cmpR (op_inK (K := K) rfl hu64) (pv 7) (pv 6) (by rfl)) (pw_and1 (pt_cmpR (op_notInK (K := K) rfl hu64) (pv 8) (pv 4) (by rfl))))))) (fun _ _ _ _ _ => (pv 8))))))))
    (pss_one (ps_dput hu1 (pv 2) (pv 3) (pe_slice (sl_listK (K := K) rfl) (pv 4) (po_some pe_int) po_none) rfl)))))
    (pss_one (ps_ret (pv 2)))))), sp_go (fun H0 B0 i hp => ?_) h⟩
  obtain ⟨ms, us⟩ := i
  have ok : LawOk ms us := hp
  have hm := ok.m
  have hu0 := ok.u
  refine ss_seq <| ss_newK (by show 2 < 9; decide) ?_
  refine ss_seq <| ss_for (vs := [3]) <| wi_list <| ee_var rfl ⟨ms.map .str, rfl, fun j Γ1 => ∃ kvs a b d e, Γ1 = [cV (.val (slE ms)), cV (.val (luE us)), .oK kvs, a, b, d, e, .unk, .unk] ∧ kvs.length ≤ j ∧ ∀ m ∈ ms.take j, ∃ l, getD' kvs (.inr m) = some (slE l) ∧ l.length ≤ 100 ∧ ∀ y, y ∈ l ↔ y ≠ m ∧ Reach us m y,
    ⟨[], _, _, _, _, rfl, by simp, by simp⟩, fun j dm Γ1 hd hI => ?_, fun Γ1 hI => ?_⟩
  · obtain ⟨kvs, a, b, d, e, rfl, hz, hk⟩ := hI
    obtain ⟨m, hm1, rfl⟩ := map_get hd
    have hmm := List.mem_of_getElem? hm1
    have hj : j < ms.length := (List.getElem?_eq_some_iff.mp hm1).1
    refine sg_name (ss_seq <| ss_set <| ee_lst <| ea_cons <| ee_var rfl <| ea_nil ⟨[.str m], rfl, (by show 1 ≤ 1000000; decide), ?_⟩) (by simp)
    refine ss_seq <| ss_for (vs := [5]) <| wi_rng1 <| ea_cons <| ee_CB <| ea_cons <| ee_var rfl <| ea_nil <| RL1.rl <| rl_lenL <| ea_nil ⟨ms.length, by omega, by rw [List.length_map], fun k Γ1 => ∃ seen d e, Γ1 = [cV (.val (slE ms)), cV (.val (luE us)), .oK kvs, cV (dS m), cV (.val (slE seen)), d, e, .unk, .unk] ∧ FarI ms us m seen k, ⟨[m], _, _, rfl, FarI.start hmm⟩, fun k dk Γ1 hd2 hI2 => ?_, fun Γ1 hI2 => ?_⟩
    · obtain ⟨seen, d, e, rfl, f⟩ := hI2
      obtain ⟨k', hk', rfl⟩ := map_get hd2
      obtain ⟨hkl, ek⟩ := List.getElem?_eq_some_iff.mp hk'
      rw [List.getElem_range] at ek
      subst ek
      have hsz := Nat.le_trans (nodup_len f.nd f.ms) hm
      have f' := f.step ok.nd ok.mem
      have hsz' := Nat.le_trans (nodup_len f'.nd f'.ms) hm
      refine sg_name (ss_seq <| ss_set <| ee_sl <| ee_var rfl <| eo_some <| ee_var rfl ⟨(k : Int), rfl, eo_some <| ee_op <| ee_var rfl <| ee_int <| ro_addI ⟨((k + 1 : Nat) : Int), rfl, RU1.ru <| ru1_sl ?_⟩⟩) (by simp)
      rw [cutD_map, cutD_mid, show k + 1 - k = 1 by omega]
      refine ss_set <| ee_op <| ee_var rfl <| ee_lc <| wi_list <| ee_var rfl ⟨us.map uE, rfl, lc2f PyData.str PyData.str PyData.str (fun u => u.2) (fun u => decide (u.1 ∈ (seen.drop k).take 1) && !decide (u.2 ∈ seen)) rfl (by omega) (noOwn_two (x := .unk) (y := .unk) rfl rfl (.inl rfl) (.inl rfl)) (fun u hu => ?_) (ro_catL ?_ ⟨seen ++ farNew us seen ((seen.drop k).take 1), _, _, by rw [← List.map_append]; rfl, f'⟩)⟩
      · refine et_and <| et_test <| ee_op <| ee_var rfl <| ee_var rfl <| RO2.ro <| ro2_inE eqe_str (shal_str _) ⟨_, rfl, fun e1 => ?_, fun e1 => ?_⟩
        · refine et_test <| ee_op <| ee_var rfl <| ee_var rfl <| RO2.ro <| ro2_ninE eqe_str (shal_str _) ⟨_, rfl, rfl, ?_, fun _ => ee_var rfl ⟨rfl, rfl⟩⟩
          rw [e1]; rfl
        · refine ⟨rfl, ?_, fun z => ?_⟩
          · rw [e1]; rfl
          · rw [e1] at z
            cases z
      · refine Nat.le_trans (Nat.add_le_add (show _ ≤ 100 by rw [List.length_map]; exact hsz) (show _ ≤ 1000 from Nat.le_trans (by simp only [List.length_map]; exact List.length_filter_le _ _) hu0)) (by omega)
    · obtain ⟨seen, d, e, rfl, f⟩ := hI2
      rw [List.length_map, List.length_range] at f
      have hsz := Nat.le_trans (nodup_len f.nd f.ms) hm
      refine ss_dput <| ee_sl <| ee_var rfl <| eo_some <| ee_int ⟨1, rfl, eo_none <| RU1.ru <| ru1_sl ⟨slE (seen.drop 1), .k kvs, ?_, rfl, ee_var rfl ⟨.k (.inr m), key_s, trivial, (by show kvs.length < _; omega), _, _, _, _, _, rfl, Nat.le_trans putD_len' (by omega), fun z hz2 => ?_⟩⟩⟩
      · rw [show (1 : Int) = ((1 : Nat) : Int) from rfl, cutD_map, cutD_from]
      · rw [take_snoc hm1] at hz2
        by_cases e2 : z = m
        · subst e2
          exact ⟨seen.drop 1, getD_put_same, by rw [List.length_drop]; omega, f.tail⟩
        · rcases List.mem_append.mp hz2 with q | q
          · obtain ⟨l, h1, h2⟩ := hk z q
            exact ⟨l, by rw [getD_put_other (fun w => e2 (Sum.inr.inj w))]; exact h1, h2⟩
          · simp only [List.mem_singleton] at q
            exact absurd q e2
  · obtain ⟨kvs, a, b, d, e, rfl, hz, hk⟩ := hI
    rw [List.length_map, List.take_length] at hk
    exact ss_freeze (i := 2) (.k kvs) rfl (ss_ret <| ee_var rfl ⟨kvs, rfl, hk⟩)
theorem sc__law_pairs : FnScope ["_law_modules_here", "_law_uses_here", "_law_found", "_law_far_here", "_law_one", "_law_other"] ["_law_modules_here", "_law_uses_here"] (defScope sLawPairs) := ⟨rfl, rfl, rfl, by decide +kernel, rfl, by decide +kernel, by decide +kernel⟩
theorem ok__law_pairs (W : Wd K mg) : DefOk P w K mg base "_law_pairs" ["_law_modules_here", "_law_uses_here"] 2 (spPairs K T) := by
  obtain ⟨f, fd, hm, F⟩ := W.f__law_pairs
  have D__law_far := ok__law_far (P := P) (w := w) (base := base) (T := T) W
  refine ⟨f, fd, hm, F.kp, F.bindsN fun _ _ _ _ _ _ us hl => match us, hl with | [_, _], _ => rfl, F.ok sc__law_pairs (sp_len fun _ => rfl) fun cdv A outer s H vs Q E hr h => ?_⟩
  have nd := sc__law_pairs.nd
  have hu64 := hr.units
  have hu1 := hu_of hr
  refine ⟨_, PSs.nox ((pss_cons (ps_par (i := 2) (j := 3) (by rfl) nd rfl rfl (by decide) rfl rfl (pa_cons (pe_lst pa_nil) (pa_cons (pe_callD D__law_far (hr.mono (by decide)) rfl (pa_cons (pv 0) (pa_cons (pv 1) pa_nil))) pa_nil)) (by rfl))
    (pss_cons (ps_for PassesOwn.never rfl (pi_listK (K := K) rfl (pv 0)) (pg_name (i := 4) nd rfl (by first | exact Or.inl rfl | exact Or.inr rfl))
    (pss_one (ps_set (i := 2) nd rfl (by first | exact Or.inl rfl | exact Or.inr rfl) (pe_op (op_addK (K := K) rfl) (pv 2) (pe_lc (own := [("_law_other", 5)]) rfl nd (pi_listK (K := K) rfl (pe_dget hu1 (pv 3) (pv 4) (fun _ _ => rfl))) (blkOk_by (own := [("_law_other", 5)]) (N := ["_law_modules_here", "_law_uses_here", "_law_found", "_law_far_here", "_law_one", "_law_other"]) (sc := defScope sLawPairs) (by decide +kernel)) (fun _ _ _ _ _ => (pg_name (i := 5) nd rfl (by first | exact Or.inl rfl | exact Or.inr rfl))) (fun _ _ _ _ _ => pts_nil) (fun _ _ _ _ _ => (pe_tup (pa_cons (pv 4) (pa_cons (pv 5) pa_nil)))))))))
    (pss_one (ps_ret (pv 2)))))), sp_go (fun H0 B0 i hp => ?_) h⟩
  obtain ⟨ms, us⟩ := i
  have ok : LawOk ms us := hp
  have hm := ok.m
  refine ss_seq <| ss_par <| ea_cons <| ee_lst <| ea_nil ⟨[], rfl, (by decide), ea_cons <| ee_call rfl rfl <| ea_cons <| ee_var rfl <| ea_cons <| ee_var rfl <| ea_nil ⟨(ms, us), rfl, ok, fun x ⟨kvs, ex, hk⟩ => ea_nil ⟨_, _, rfl, ?_⟩⟩⟩
  subst ex
  dsimp only at hk
  refine ss_seq <| ss_for (vs := [4]) <| wi_list <| ee_var rfl ⟨ms.map .str, rfl, fun j Γ1 => ∃ ps a, Γ1 = [cV (.val (slE ms)), cV (.val (luE us)), cV (.val (luE ps)), .dat (.dk kvs), a, .unk] ∧ ps.length ≤ j * 100 ∧ ∀ a b, (a, b) ∈ ps ↔ a ∈ ms.take j ∧ b ≠ a ∧ Reach us a b,
    ⟨[], _, rfl, by simp, by simp⟩, fun j dm Γ1 hd hI => ?_, fun Γ1 hI => ?_⟩
  · obtain ⟨ps, a, rfl, hz, hp⟩ := hI
    obtain ⟨m, hm1, rfl⟩ := map_get hd
    have hmm := List.mem_of_getElem? hm1
    have hj : j < ms.length := (List.getElem?_eq_some_iff.mp hm1).1
    obtain ⟨l, g1, g2, g3⟩ := hk m hmm
    have e4 : j * 100 ≤ 100 * 100 := Nat.mul_le_mul_right 100 (by omega)
    refine sg_name (ss_set <| ee_op <| ee_var rfl <| ee_lc <| wi_list <| ee_dget (x := .dat (.dk kvs)) rfl (.dk kvs) <| ee_var rfl ⟨.k (.inr m), slE l, key_s, trivial, g1, l.map .str, rfl, lc1 PyData.str uE (fun b => (m, b)) (by omega) (hno_unk rfl) (fun b hb => ee_tup <| ea_cons <| ee_var rfl <| ea_cons <| ee_var rfl <| ea_nil ⟨[.str m, .str b], rfl, (by show 2 ≤ 1000000; decide), rfl, rfl⟩) (ro_catL ?_ ⟨ps ++ l.map (fun b => (m, b)), _, by rw [← List.map_append]; rfl, ?_, fun x y => ?_⟩)⟩) (by simp)
    · simp only [List.length_map]
      omega
    · rw [List.length_append, List.length_map, Nat.succ_mul]
      omega
    · rw [take_snoc hm1, List.mem_append, List.mem_append, hp x y]
      constructor
      · rintro (⟨q1, q2⟩ | q)
        · exact ⟨.inl q1, q2⟩
        · obtain ⟨b, hb, e⟩ := List.mem_map.mp q
          cases e
          exact ⟨.inr (by simp), (g3 y).mp hb⟩
      · rintro ⟨q1 | q1, q2⟩
        · exact .inl ⟨q1, q2⟩
        · simp only [List.mem_singleton] at q1
          subst q1
          exact .inr (List.mem_map.mpr ⟨y, (g3 y).mpr q2, rfl⟩)
  · obtain ⟨ps, a, rfl, hz, hp⟩ := hI
    rw [List.length_map] at hz
    rw [List.length_map, List.take_length] at hp
    exact ss_ret <| ee_var rfl ⟨ps, rfl, by omega, hp⟩
end
end My
end P12_
section P13_
set_option maxHeartbeats 1000000
namespace My
open PySem PySem.Spec PyProof.Rows L2 LamX
/-- the steps between different paths -/
def hm2 (ps : List Str) (u : Use) : Option Str × Option Str := (home ps u.1, home ps u.2)
abbrev oS : Option Str → PyData := oE .str
abbrev stE : Option Str × Option Str → PyData := pE oS oS
def goodSt (x : Option Str × Option Str) : Bool := (x.1.isSome && x.2.isSome) && !decide (x.1 = x.2)
def rSteps (ps : List Str) (us : List Use) : List (Option Str × Option Str) := (us.map (hm2 ps)).filter goodSt
theorem mem_steps {ps : List Str} {us : List Use} {p q : Str} : (some p, some q) ∈ rSteps ps us ↔ ∃ u ∈ us, Stp' ps u p q := by
  unfold rSteps
  rw [List.mem_filter]
  constructor
  · rintro ⟨h1, h2⟩
    obtain ⟨u, hu, e⟩ := List.mem_map.mp h1
    unfold hm2 at e
    simp only [Prod.mk.injEq] at e
    simp [goodSt] at h2
    exact ⟨u, hu, e.1, e.2, h2⟩
  · rintro ⟨u, hu, h1, h2, h3⟩
    refine ⟨List.mem_map.mpr ⟨u, hu, ?_⟩, by simp [goodSt, h3]⟩
    unfold hm2
    rw [h1, h2]
/-- one round -/
def prune (st : List (Option Str × Option Str)) (l : List Str) : List Str := l.filter fun p => !((st.filter fun x => decide (x.1 = some p) && decide (x.2 ∈ l.map some)).isEmpty)
/-- a ring within l -/
def Fix (us : List Use) (ps l : List Str) : Prop := ∀ p ∈ l, ∃ q ∈ l, ∃ u ∈ us, Stp' ps u p q
theorem mem_prune {ps : List Str} {us : List Use} {l : List Str} {p : Str} : p ∈ prune (rSteps ps us) l ↔ p ∈ l ∧ ∃ q ∈ l, ∃ u ∈ us, Stp' ps u p q := by
  unfold prune
  rw [List.mem_filter]
  refine and_congr_right fun hp => ?_
  constructor
  · intro h
    cases e : (rSteps ps us).filter fun x => decide (x.1 = some p) && decide (x.2 ∈ l.map some) with
    | nil => rw [e] at h; cases h
    | cons x r =>
      have hx : x ∈ (rSteps ps us).filter fun x => decide (x.1 = some p) && decide (x.2 ∈ l.map some) := by rw [e]; simp
      obtain ⟨h1, h2⟩ := List.mem_filter.mp hx
      rw [Bool.and_eq_true, decide_eq_true_eq, decide_eq_true_eq] at h2
      obtain ⟨q, hq, e2⟩ := List.mem_map.mp h2.2
      obtain ⟨x1, x2⟩ := x
      dsimp only at h2 e2
      rw [h2.1, ← e2] at h1
      exact ⟨q, hq, mem_steps.mp h1⟩
  · rintro ⟨q, hq, h⟩
    have hx : (some p, some q) ∈ (rSteps ps us).filter fun x => decide (x.1 = some p) && decide (x.2 ∈ l.map some) := List.mem_filter.mpr ⟨mem_steps.mpr h, by simp [hq]⟩
    cases e : (rSteps ps us).filter fun x => decide (x.1 = some p) && decide (x.2 ∈ l.map some) with
    | nil => rw [e] at hx; cases hx
    | cons x r => rfl
/-- after k rounds -/
structure PrI (ps : List Str) (us : List Use) (l : List Str) (k : Nat) : Prop where
  sub : ∀ p ∈ l, p ∈ ps
  le : l.length ≤ ps.length
  keep : ∀ S : List Str, (∀ p ∈ S, p ∈ ps) → Fix us ps S → ∀ p ∈ S, p ∈ l
  fix : Fix us ps l ∨ l.length + k ≤ ps.length
theorem PrI.step {ps : List Str} {us : List Use} {l : List Str} {k : Nat} (h : PrI ps us l k) : PrI ps us (prune (rSteps ps us) l) (k + 1) := by
  have hl : (prune (rSteps ps us) l).length ≤ l.length := List.length_filter_le _ _
  refine ⟨fun p hp => h.sub p (mem_prune.mp hp).1, Nat.le_trans hl h.le, fun S hS hf p hp => ?_, ?_⟩
  · obtain ⟨q, hq, u⟩ := hf p hp
    exact mem_prune.mpr ⟨h.keep S hS hf p hp, q, h.keep S hS hf q hq, u⟩
  · by_cases e : (prune (rSteps ps us) l).length = l.length
    · have e2 : prune (rSteps ps us) l = l := List.Sublist.eq_of_length List.filter_sublist e
      rw [e2]
      refine .inl fun p hp => ?_
      rw [← e2] at hp
      exact (mem_prune.mp hp).2
    · rcases h.fix with f | f
      · refine absurd ?_ e
        have : prune (rSteps ps us) l = l := List.filter_eq_self.mpr fun p hp => (List.mem_filter.mp (mem_prune.mpr ⟨hp, f p hp⟩)).2
        rw [this]
      · exact .inr (by omega)
theorem PrI.ring {ps : List Str} {us : List Use} {l : List Str} (h : PrI ps us l ps.length) : l ≠ [] ↔ ringP us ps := by
  constructor
  · intro hne
    rcases h.fix with f | f
    · exact ⟨l, hne, h.sub, f⟩
    · have := List.length_pos_iff.mpr hne
      omega
  · rintro ⟨S, hne, h1, h2⟩ e
    cases S with
    | nil => exact hne rfl
    | cons a r =>
      have := h.keep (a :: r) h1 h2 a (by simp)
      rw [e] at this
      cases this
section
variable {P : Program} {w : World} {K : PySem.W.Frag} {mg : Str → Option Value} {base : Heap} {T : List (Addr × Str)}
theorem sc__law_ringed : FnScope ["_law_paths", "_law_uses_here", "_law_steps", "_law_a", "_law_b", "_law_step", "_law_left_here", "_law_turn", "_law_path"] ["_law_paths", "_law_uses_here"] (defScope sLawRinged) := ⟨rfl, rfl, rfl, by decide +kernel, rfl, by decide +kernel, by decide +kernel⟩
theorem ok__law_ringed (W : Wd K mg) : DefOk P w K mg base "_law_ringed" ["_law_paths", "_law_uses_here"] 3 (spRinged K T) := by
  obtain ⟨f, fd, hm, F⟩ := W.f__law_ringed
  have D__law_home := ok__law_home (P := P) (w := w) (base := base) (T := T) W
  refine ⟨f, fd, hm, F.kp, F.bindsN fun _ _ _ _ _ _ us hl => match us, hl with | [_, _], _ => rfl, F.ok sc__law_ringed (sp_len fun _ => rfl) fun cdv A outer s H vs Q E hr h => ?_⟩
  have nd := sc__law_ringed.nd
  have hu64 := hr.units
  have hu1 := hu_of hr
  refine ⟨_, PSs.nox ((pss_cons (ps_set (i := 2) nd rfl (by first | exact Or.inl rfl | exact Or.inr rfl) (pe_lc (own := [("_law_a", 3), ("_law_b", 4)]) rfl nd (pi_listK (K := K) rfl (pv 1)) (blkOk_by (own := [("_law_a", 3), ("_law_b", 4)]) (N := ["_law_paths", "_law_uses_here", "_law_steps", "_law_a", "_law_b", "_law_step", "_law_left_here", "_law_turn", "_law_path"]) (sc := defScope sLawRinged) (by decide +kernel)) (fun _ _ _ _ _ => (pg_tupK (K := K) rfl (pg_tup (n := 2) rfl (pgs_cons (pg_name (i := 3) nd rfl (by first | exact Or.inl rfl | exact Or.inr rfl)) (pgs_cons (pg_name (i := 4) nd rfl (by first | exact Or.inl rfl | exact Or.inr rfl)) pgs_nil))))) (fun _ _ _ _ _ => pts_nil) (fun _ _ _ _ _ => (pe_tup (pa_cons (pe_callD D__law_home (hr.mono (by decide)) rfl (pa_cons (pv 0) (pa_cons (pv 3) pa_nil))) (pa_cons (pe_callD D__law_home (hr.mono (by decide)) rfl (pa_cons (pv 0) (pa_cons (pv 4) pa_nil))) pa_nil))))))
    (pss_cons (ps_set (i := 2) nd rfl (by first | exact Or.inl rfl | exact Or.inr rfl) (pe_lc (own := [("_law_step", 5)]) rfl nd (pi_listK (K := K) rfl (pv 2)) (blkOk_by (own := [("_law_step", 5)]) (N := ["_law_paths", "_law_uses_here", "_law_steps", "_law_a", "_law_b", "_law_step", "_law_left_here", "_law_turn", "_law_path"]) (sc := defScope sLawRinged) (by decide +kernel)) (fun _ _ _ _ _ => (pg_name (i := 5) nd rfl (by first | exact Or.inl rfl | exact Or.inr rfl))) (fun _ _ _ _ _ => (pts_one (PW.pt (pw_and (pt_cmpR (op_notInK (K := K) rfl hu64) pe_non (pv 5) (by rfl)) (pw_and1 (pt_cmpR (op_neK (K := K) rfl hu64) (pe_ix (ix_seqK (K := K) rfl) (pv 5) pe_int (fun _ _ => rfl)) (pe_ix (ix_seqK (K := K) rfl) (pv 5) pe_int (fun _ _ => rfl)) (nomark _))))))) (fun _ _ _ _ _ => (pv 5))))
    (pss_cons (ps_set (i := 6) nd rfl (by first | exact Or.inl rfl | exact Or.inr rfl) (pe_callTy (cr_lstK (K := K) rfl) rfl W.b_list boot_list (pa_cons (pv 0) pa_nil)))
    (pss_cons (ps_for PassesOwn.never rfl (pi_range1 rfl W.b_range (pa_cons (pe_callB (cr_lenK (K := K) rfl) rfl W.b_len boot_len (pa_cons (pv 0) pa_nil)) pa_nil)) (pg_name (i := 7) nd rfl (by first | exact Or.inl rfl | exact Or.inr rfl))
    (pss_one (ps_set (i := 6) nd rfl (by first | exact Or.inl rfl | exact Or.inr rfl) (pe_lc (own := [("_law_path", 8)]) rfl nd (pi_listK (K := K) rfl (pv 6)) (blkOk_by (own := [("_law_path", 8)]) (N := ["_law_paths", "_law_uses_here", "_law_steps", "_law_a", "_law_b", "_law_step", "_law_left_here", "_law_turn", "_law_path"]) (sc := defScope sLawRinged) (by decide +kernel)) (fun _ _ _ _ _ => (pg_name (i := 8) nd rfl (by first | exact Or.inl rfl | exact Or.inr rfl))) (fun _ _ _ _ _ => (pts_one (pt_cmpR (op_neK (K := K) rfl hu64) (pe_lc (own := [("_law_a", 3), ("_law_b", 4)]) rfl nd (pi_listK (K := K) rfl (pv 2)) (blkOk_by (own := [("_law_a", 3), ("_law_b", 4)]) (N := ["_law_paths", "_law_uses_here", "_law_steps", "_law_a", "_law_b", "_law_step", "_law_left_here", "_law_turn", "_law_path"]) (by rfl)) (fun _ _ _ _ _ => (pg_tupK (K := K) rfl (pg_tup (n := 2) rfl (pgs_cons (pg_name (i := 3) nd rfl (by first | exact Or.inl rfl | exact Or.inr rfl)) (pgs_cons (pg_name (i := 4) nd rfl (by first | exact Or.inl rfl | exact Or.inr rfl)) pgs_nil))))) (fun _ _ _ _ _ => (pts_one (PW.pt (pw_and (pt_cmpR (op_eqK (K := K) rfl hu64) (pv 3) (pv 8) (nomark _)) (pw_and1 (pt_cmpR (op_inK (K := K) rfl hu64) (pv 4) (pv 6) (by rfl))))))) (fun _ _ _ _ _ => (pv 4))) (pe_lst pa_nil) (nomark _)))) (fun _ _ _ _ _ => (pv 8))))))
    (pss_one (ps_ret (pe_cmpR (op_neK (K := K) rfl hu64) (pv 6) (pe_lst pa_nil) (nomark _))))))))), sp_go (fun H0 B0 i hp => ?_) h⟩
  obtain ⟨ps, us⟩ := i
  obtain ⟨h1, h2, h3, h4⟩ := hp
  dsimp only at h1 h2 h3 h4
  refine ss_seq <| ss_set <| ee_lc <| wi_list <| ee_var rfl ⟨us.map uE, rfl, lc2f PyData.str PyData.str stE (hm2 ps) (fun _ => true) rfl (by omega) (noOwn_two (x := .unk) (y := .unk) rfl rfl (.inl rfl) (.inl rfl)) (fun u hu => ?_) ?_⟩
  · exact et_yes ⟨rfl, rfl, fun _ => ee_tup <| ea_cons <| ee_call rfl rfl <| ea_cons <| ee_var rfl <| ea_cons <| ee_var rfl <| ea_nil ⟨(ps, u.1), rfl, ⟨h1, (h4 u hu).1⟩, fun x ex => ea_cons <| ee_call rfl rfl <| ea_cons <| ee_var rfl <| ea_cons <| ee_var rfl <| ea_nil ⟨(ps, u.2), rfl, ⟨h1, (h4 u hu).2⟩, fun y ey => ea_nil ⟨[oS (home ps u.1), oS (home ps u.2)], by rw [ex, ey]; rfl, (by show 2 ≤ 1000000; decide), rfl, rfl⟩⟩⟩⟩
  rw [List.filter_eq_self.mpr fun _ _ => rfl]
  refine ss_seq <| ss_set <| ee_lc <| wi_list <| ee_var rfl ⟨(us.map (hm2 ps)).map stE, rfl, lc1f stE stE id goodSt (by rw [List.length_map]; omega) (hno_unk rfl) (fun x hx => ?_) ?_⟩
  · refine et_and <| et_test <| ee_op <| ee_non <| ee_var rfl <| ro_ninE (f := oS) (x := none) (l := [x.1, x.2]) eqe_oS (shal_oS none) ⟨_, rfl, fun e => ?_, fun e => ⟨rfl, ?_, fun z => ?_⟩⟩
    · have i0 : atI [oS x.1, oS x.2] 0 = some (oS x.1) := rfl
      have i1 : atI [oS x.1, oS x.2] 1 = some (oS x.2) := rfl
      refine et_test <| ee_op <| ee_op <| ee_var rfl <| ee_int <| ro_ixT i0 <| ee_op <| ee_var rfl <| ee_int <| ro_ixT i1 <| ro_neE (f := oS) eqe_oS (shal_oS _) ⟨_, rfl, rfl, ?_, fun _ => ee_var rfl ⟨rfl, rfl⟩⟩
      obtain ⟨a, b⟩ := x
      cases a <;> cases b <;> simp_all [goodSt]
    · obtain ⟨a, b⟩ := x
      cases a <;> cases b <;> simp_all [goodSt]
    · obtain ⟨a, b⟩ := x
      cases a <;> cases b <;> simp_all [goodSt]
  rw [List.map_id, show List.filter goodSt (us.map (hm2 ps)) = rSteps ps us from rfl]
  have hst : (rSteps ps us).length ≤ 1000 := Nat.le_trans (List.length_filter_le _ _) (by rw [List.length_map]; exact h3)
  refine ss_seq <| ss_set <| ee_CB <| ea_cons <| ee_var rfl <| ea_nil <| rl_listT ?_
  refine ss_seq <| ss_for (vs := [7]) <| wi_rng1 <| ea_cons <| ee_CB <| ea_cons <| ee_var rfl <| ea_nil <| rl_lenT <| ea_nil ⟨ps.length, by omega, by rw [List.length_map], fun j Γ1 => ∃ l a, Γ1 = [cV (.val (sE ps)), cV (.val (luE us)), cV (.val (lE stE (rSteps ps us))), .unk, .unk, .unk, cV (.val (slE l)), a, .unk] ∧ PrI ps us l j,
    ⟨ps, _, rfl, fun p hp => hp, Nat.le_refl _, fun S h _ p hp => h p hp, .inr (by omega)⟩, fun j d Γ1 hd hI => ?_, fun Γ1 hI => ?_⟩
  · obtain ⟨l, a, rfl, I⟩ := hI
    obtain ⟨k, _, rfl⟩ := map_get hd
    have hl := I.le
    have el : l.map PyData.str = (l.map some).map oS := by rw [List.map_map]; rfl
    refine sg_name (ss_set <| ee_lc <| wi_list <| ee_var rfl ⟨l.map .str, rfl, lc1f PyData.str PyData.str id (fun p => !(((rSteps ps us).filter fun x => decide (x.1 = some p) && decide (x.2 ∈ l.map some)).isEmpty)) (by omega) (hno_unk rfl) (fun p hp => ?_) ?_⟩) (by simp)
    · refine et_test <| ee_op <| ee_lc <| wi_list <| ee_var rfl ⟨(rSteps ps us).map stE, rfl, lc2f oS oS oS (fun x => x.2) (fun x => decide (x.1 = some p) && decide (x.2 ∈ l.map some)) rfl (by omega) (noOwn_two (x := .unk) (y := .unk) rfl rfl (.inl rfl) (.inl rfl)) (fun x hx => ?_) ?_⟩
      · refine et_and <| et_test <| ee_op <| ee_var rfl <| ee_var rfl <| ro_eqE (f := oS) (x := x.1) (y := some p) eqe_oS (shal_oS _) ⟨_, rfl, fun e => ?_, fun e => ⟨rfl, by rw [e]; rfl, fun z => by rw [e] at z; cases z⟩⟩
        refine et_test <| ee_op <| ee_var rfl <| ee_var rfl ?_
        show RO _ _ (.val (oS x.2)) (dL (l.map PyData.str)) _
        rw [el]
        exact RO2.ro <| ro2_inE (f := oS) eqe_oS (shal_oS _) ⟨_, rfl, rfl, by rw [e, Bool.true_and]; exact decide_eq_decide.mpr Iff.rfl, fun _ => ee_var rfl ⟨rfl, rfl⟩⟩
      · refine ee_lst <| ea_nil ⟨[], rfl, (by decide), RO1.ro <| ro1_neNil ⟨_, rfl, rfl, ?_, fun _ => ee_var rfl ⟨rfl, rfl⟩⟩⟩
        rw [List.isEmpty_map, List.isEmpty_map]
    · rw [List.map_id]
      exact ⟨_, _, rfl, I.step⟩
  · obtain ⟨l, a, rfl, I⟩ := hI
    rw [List.length_map, List.length_range] at I
    refine ss_ret <| ee_op <| ee_var rfl <| ee_lst <| ea_nil ⟨[], rfl, (by decide), RO1.ro <| ro1_neNil ⟨_, rfl, ?_⟩⟩
    rw [← I.ring, List.isEmpty_map]
    cases l <;> simp
end
end My
end P13_
section P14_
set_option maxHeartbeats 1000000
namespace My
open PySem PySem.Spec PyProof.Rows L2 LamX
abbrev spBroken (K : PySem.W.Frag) (T : List (Addr × Str)) : Sp := SpI K T (fun i : List Str × List Use × Rule => [.val (slE i.1), .val (luE i.2.1), .val (rE i.2.2)]) (fun i => LawOk i.1 i.2.1 ∧ RuleOk i.2.2) (fun i x => ∃ b, x = dB b ∧ (b = true ↔ brk i.1 i.2.1 i.2.2))
abbrev spKept (K : PySem.W.Frag) (T : List (Addr × Str)) : Sp := SpI K T (fun i : List Str × List Use × List Rule => [.val (slE i.1), .val (luE i.2.1), .val (rulesE i.2.2)]) (fun i => LawOk i.1 i.2.1 ∧ BookOk i.2.2) (fun i x => ∃ b, x = dB b ∧ (b = true ↔ ¬ brkAny i.2.2 i.1 i.2.1))
open Classical in
noncomputable def brkB (ms : List Str) (us : List Use) (r : Rule) : Bool := decide (brk ms us r)
theorem Reach.in {ms : List Str} {us : List Use} (h : ∀ u ∈ us, u.1 ∈ ms ∧ u.2 ∈ ms) {a b : Str} (ha : a ∈ ms) (r : Reach us a b) : b ∈ ms := by
  obtain ⟨ch, w⟩ := r
  cases w with
  | one => exact ha
  | step _ hu => exact (h _ hu).2
section
variable {P : Program} {w : World} {K : PySem.W.Frag} {mg : Str → Option Value} {base : Heap} {T : List (Addr × Str)}
theorem sc__law_broken : FnScope ["_law_modules_here", "_law_uses_here", "_law_rule_here", "_law_pairs_here", "_law_a", "_law_b"] ["_law_modules_here", "_law_uses_here", "_law_rule_here"] (defScope sLawBroken) := ⟨rfl, rfl, rfl, by decide +kernel, rfl, by decide +kernel, by decide +kernel⟩
theorem ok__law_broken (W : Wd K mg) : DefOk P w K mg base "_law_broken" ["_law_modules_here", "_law_uses_here", "_law_rule_here"] 4 (spBroken K T) := by
  obtain ⟨f, fd, hm, F⟩ := W.f__law_broken
  have D__law_bars := ok__law_bars (P := P) (w := w) (base := base) (T := T) W
  have D__law_is_long := ok__law_is_long (P := P) (w := w) (base := base) (T := T) W
  have D__law_pairs := ok__law_pairs (P := P) (w := w) (base := base) (T := T) W
  have D__law_ringed := ok__law_ringed (P := P) (w := w) (base := base) (T := T) W
  refine ⟨f, fd, hm, F.kp, F.bindsN fun _ _ _ _ _ _ us hl => match us, hl with | [_, _, _], _ => rfl, F.ok sc__law_broken (sp_len fun _ => rfl) fun cdv A outer s H vs Q E hr h => ?_⟩
  have nd := sc__law_broken.nd
  have hu64 := hr.units
  have hu1 := hu_of hr
  refine ⟨_, PSs.nox ((pss_cons (ps_if (pt_cmpR (op_eqK (K := K) rfl hu64) (pe_ix (ix_seqK (K := K) rfl) (pv 2) pe_int (fun _ _ => rfl)) pe_str (nomark _))
    (pss_one (ps_ret (pe_callD D__law_ringed (hr.mono (by decide)) rfl (pa_cons (pe_ix (ix_seqK (K := K) rfl) (pv 2) pe_int (fun _ _ => rfl)) (pa_cons (pv 1) pa_nil)))))
    pss_nil)
    (pss_cons (ps_set (i := 3) nd rfl (by first | exact Or.inl rfl | exact Or.inr rfl) (pv 1))
    (pss_cons (ps_if (pt_val (pe_callD D__law_is_long (hr.mono (by decide)) rfl (pa_cons (pv 2) pa_nil)))
    (pss_one (ps_set (i := 3) nd rfl (by first | exact Or.inl rfl | exact Or.inr rfl) (pe_callD D__law_pairs (hr.mono (by decide)) rfl (pa_cons (pv 0) (pa_cons (pv 1) pa_nil)))))
    pss_nil)
    (pss_one (ps_ret (pe_cmpR (op_neK (K := K) rfl hu64) (pe_lc (own := [("_law_a", 4), ("_law_b", 5)]) rfl nd (pi_listK (K := K) rfl (pv 3)) (blkOk_by (own := [("_law_a", 4), ("_law_b", 5)]) (N := ["_law_modules_here", "_law_uses_here", "_law_rule_here", "_law_pairs_here", "_law_a", "_law_b"]) (sc := defScope sLawBroken) (by decide +kernel)) (fun _ _ _ _ _ => (pg_tupK (K := K) rfl (pg_tup (n := 2) rfl (pgs_cons (pg_name (i := 4) nd rfl (by first | exact Or.inl rfl | exact Or.inr rfl)) (pgs_cons (pg_name (i := 5) nd rfl (by first | exact Or.inl rfl | exact Or.inr rfl)) pgs_nil))))) (fun _ _ _ _ _ => (pts_one (pt_val (pe_callD D__law_bars (hr.mono (by decide)) rfl (pa_cons (pv 2) (pa_cons (pv 4) (pa_cons (pv 5) pa_nil))))))) (fun _ _ _ _ _ => pe_int)) (pe_lst pa_nil) (nomark _)))))))), sp_go (fun H0 B0 i hp => ?_) h⟩
  obtain ⟨ms, us, r⟩ := i
  obtain ⟨ok, rok⟩ := hp
  dsimp only at ok rok
  have hm := ok.m
  have hu0 := ok.u
  refine ss_seq <| ss_if <| et_test <| ee_keq (r := r) rfl ⟨_, rfl, fun e => ?_, fun e => ss_next ?_⟩
  · cases r with
    | noring p =>
      have e1 : isRing (.noring p) = true := rfl
      refine ss_ret <| ee_call rfl rfl <| ea_cons <| ee_item (n := 1) (r := .noring p) rfl rfl <| ea_cons <| ee_var rfl <| ea_nil ⟨(p, us), rfl, ⟨rok.par_short, ?_, hu0, fun u hu => ⟨ok.s _ (ok.mem u hu).1, ok.s _ (ok.mem u hu).2⟩⟩, fun x ⟨b, ex, hb⟩ => ⟨b, ex, ?_⟩⟩
      · have := rok.2.2.1
        dsimp only at this ⊢
        omega
      · unfold brk
        rw [if_pos e1]
        exact hb
    | forbid s t c => exact nft e
    | layers r c => exact nft e
    | stairs r => exact nft e
    | apart p c => exact nft e
    | only t u => exact nft e
    | face h x => exact nft e
  have ring : isRing r = false := by
    cases r with
    | noring p => exact ntf e
    | forbid s t c => rfl
    | layers r c => rfl
    | stairs r => rfl
    | apart p c => rfl
    | only t u => rfl
    | face h x => rfl
  have nr : ¬ isRing r = true := by rw [ring]; exact fun z => by cases z
  have fin : ∀ q : List Use, q.length ≤ 10000 → (∀ u ∈ q, ShortS u.1 ∧ ShortS u.2) → ((∃ u ∈ q, barred r u.1 u.2 = true) ↔ brk ms us r) → SS { K := K, T := T, H0 := H0, B0 := B0 } (tRet (tOp (rEqX K true) (tLc (iList K (tVar 3)) (gTup K 2 (gCons (gName 4) (gCons (gName 5) gNil))) (tB (tCall (spBars K T) [] E0 (tCons (tVar 2) (tCons (tVar 4) (tCons (tVar 5) tNil))))) (tC (V.int 1)) [4, 5]) (tLst tNil)))
      [cV (.val (slE ms)), cV (.val (luE us)), cV (.val (rE r)), cV (.val (luE q)), .unk, .unk] { nx := fun _ => ∃ b, dN = dB b ∧ (b = true ↔ brk ms us r), rt := fun x _ => ∃ b, x = dB b ∧ (b = true ↔ brk ms us r) } := fun q hq hs hb => by
    refine ss_ret <| ee_op <| ee_lc <| wi_list <| ee_var rfl ⟨q.map uE, rfl, lc2f PyData.str PyData.str natE (fun _ => 1) (fun u => barred r u.1 u.2) rfl (by omega) (noOwn_two (x := .unk) (y := .unk) rfl rfl (.inl rfl) (.inl rfl)) (fun u hu => ?_) ?_⟩
    · exact et_B <| ee_call rfl rfl <| ea_cons <| ee_var rfl <| ea_cons <| ee_var rfl <| ea_cons <| ee_var rfl <| ea_nil ⟨(r, u.1, u.2), rfl, ⟨rok, ring, (hs u hu).1, (hs u hu).2⟩, fun x ex => ⟨_, ex, rfl, rfl, fun _ => ee_int ⟨rfl, rfl⟩⟩⟩
    · refine ee_lst <| ea_nil ⟨[], rfl, (by decide), RO1.ro <| ro1_neNil ⟨_, rfl, ?_⟩⟩
      rw [← hb, List.isEmpty_map, List.isEmpty_map]
      constructor
      · intro h
        cases e : q.filter fun u => barred r u.1 u.2 with
        | nil => rw [e] at h; cases h
        | cons u l =>
          have hu : u ∈ q.filter fun u => barred r u.1 u.2 := by rw [e]; simp
          exact ⟨u, (List.mem_filter.mp hu).1, (List.mem_filter.mp hu).2⟩
      · rintro ⟨u, hu, hb⟩
        have hu : u ∈ q.filter fun u => barred r u.1 u.2 := List.mem_filter.mpr ⟨hu, hb⟩
        cases e : q.filter fun u => barred r u.1 u.2 with
        | nil => rw [e] at hu; cases hu
        | cons u l => rfl
  refine ss_seq <| ss_set <| ee_var rfl <| ss_seq <| ss_if <| et_B <| ee_call rfl rfl <| ea_cons <| ee_var rfl <| ea_nil ⟨r, rfl, trivial, fun x ex => ⟨_, ex, fun e2 => ?_, fun e2 => ss_next ?_⟩⟩
  · refine ss_set <| ee_call rfl rfl <| ea_cons <| ee_var rfl <| ea_cons <| ee_var rfl <| ea_nil ⟨(ms, us), rfl, ok, fun x ⟨q, ex, hq, hp⟩ => ?_⟩
    subst ex
    dsimp only at hp
    refine fin q hq (fun u hu => ?_) ?_
    · obtain ⟨h1, _, h2⟩ := (hp u.1 u.2).mp hu
      exact ⟨ok.s _ h1, ok.s _ (h2.in ok.mem h1)⟩
    · unfold brk
      rw [if_neg nr, if_pos e2]
      constructor
      · rintro ⟨u, hu, hb⟩
        obtain ⟨h1, h2, h3⟩ := (hp u.1 u.2).mp hu
        exact ⟨u.1, h1, u.2, h3.in ok.mem h1, fun z => h2 z.symm, h3, hb⟩
      · rintro ⟨a, ha, b, hb, ne, h3, h4⟩
        exact ⟨(a, b), (hp a b).mpr ⟨ha, fun z => ne z.symm, h3⟩, h4⟩
  · have nc : ¬ isChain r = true := by rw [e2]; exact fun z => by cases z
    refine fin us (by omega) (fun u hu => ⟨ok.s _ (ok.mem u hu).1, ok.s _ (ok.mem u hu).2⟩) ?_
    unfold brk
    rw [if_neg nr, if_neg nc]
    exact Iff.rfl
theorem sc__law_kept : FnScope ["_law_modules_here", "_law_uses_here", "_law_some", "_law_rule_here"] ["_law_modules_here", "_law_uses_here", "_law_some"] (defScope sLawKept) := ⟨rfl, rfl, rfl, by decide +kernel, rfl, by decide +kernel, by decide +kernel⟩
theorem ok__law_kept (W : Wd K mg) : DefOk P w K mg base "_law_kept" ["_law_modules_here", "_law_uses_here", "_law_some"] 5 (spKept K T) := by
  obtain ⟨f, fd, hm, F⟩ := W.f__law_kept
  have D__law_broken := ok__law_broken (P := P) (w := w) (base := base) (T := T) W
  refine ⟨f, fd, hm, F.kp, F.bindsN fun _ _ _ _ _ _ us hl => match us, hl with | [_, _, _], _ => rfl, F.ok sc__law_kept (sp_len fun _ => rfl) fun cdv A outer s H vs Q E hr h => ?_⟩
  have nd := sc__law_kept.nd
  have hu64 := hr.units
  have hu1 := hu_of hr
  refine ⟨_, PSs.nox ((pss_one (ps_ret (pe_cmpR (op_eqK (K := K) rfl hu64) (pe_lc (own := [("_law_rule_here", 3)]) rfl nd (pi_tupK (K := K) rfl (pv 2)) (blkOk_by (own := [("_law_rule_here", 3)]) (N := ["_law_modules_here", "_law_uses_here", "_law_some", "_law_rule_here"]) (sc := defScope sLawKept) (by decide +kernel)) (fun _ _ _ _ _ => (pg_name (i := 3) nd rfl (by first | exact Or.inl rfl | exact Or.inr rfl))) (fun _ _ _ _ _ => (pts_one (pt_val (pe_callD D__law_broken (hr.mono (by decide)) rfl (pa_cons (pv 0) (pa_cons (pv 1) (pa_cons (pv 3) pa_nil))))))) (fun _ _ _ _ _ => (pv 3))) (pe_lst pa_nil) (nomark _))))), sp_go (fun H0 B0 i hp => ?_) h⟩
  obtain ⟨ms, us, rs⟩ := i
  obtain ⟨ok, bk⟩ := hp
  dsimp only at ok bk
  have hn := bk.n
  refine ss_ret <| ee_op <| ee_lc <| wi_tup <| ee_var rfl ⟨rs.map rE, rfl, lc1f rE rE id (brkB ms us) (by omega) (hno_unk rfl) (fun r hr => ?_) ?_⟩
  · refine et_B <| ee_call rfl rfl <| ea_cons <| ee_var rfl <| ea_cons <| ee_var rfl <| ea_cons <| ee_var rfl <| ea_nil ⟨(ms, us, r), rfl, ⟨ok, bk.ok r hr⟩, fun x ⟨b, ex, hb⟩ => ⟨b, ex, rfl, ?_, fun _ => ee_var rfl ⟨rfl, rfl⟩⟩⟩
    have h2 : brkB ms us r = true ↔ brk ms us r := by unfold brkB; simp
    exact Bool.eq_iff_iff.mpr (hb.trans h2.symm)
  · refine ee_lst <| ea_nil ⟨[], rfl, (by decide), RO1.ro <| ro1_eqNil ⟨_, rfl, ?_⟩⟩
    rw [List.isEmpty_map, List.isEmpty_map, List.isEmpty_iff, List.filter_eq_nil_iff]
    constructor
    · rintro h ⟨r, hr, hb⟩
      exact h r hr (by unfold brkB; simpa using hb)
    · intro h r hr hb
      exact h ⟨r, hr, by unfold brkB at hb; simpa using hb⟩
end
end My
end P14_
section P15_
set_option maxHeartbeats 1000000
namespace My
open PySem PySem.Spec PyProof.Rows L2 LamX
/-- some uses, a tuple or a list -/
def csE (t : Bool) (l : List Use) : PyData := if t = true then usE l else luE l
abbrev spLeftL (K : PySem.W.Frag) (T : List (Addr × Str)) : Sp := SpI K T (fun i : List Use × Bool × List Use => [.val (luE i.1), .val (csE i.2.1 i.2.2)]) (fun i => i.1.length ≤ 1000) (fun i x => x = .val (luE (wo i.1 i.2.2)))
section
variable {P : Program} {w : World} {K : PySem.W.Frag} {mg : Str → Option Value} {base : Heap} {T : List (Addr × Str)}
theorem sc__law_left : FnScope ["_law_uses_here", "_law_cuts", "_law_use"] ["_law_uses_here", "_law_cuts"] (defScope sLawLeft) := ⟨rfl, rfl, rfl, by decide +kernel, rfl, by decide +kernel, by decide +kernel⟩
theorem ok__law_left (W : Wd K mg) : DefOk P w K mg base "_law_left" ["_law_uses_here", "_law_cuts"] 1 (spLeftL K T) := by
  obtain ⟨f, fd, hm, F⟩ := W.f__law_left
  refine ⟨f, fd, hm, F.kp, F.bindsN fun _ _ _ _ _ _ us hl => match us, hl with | [_, _], _ => rfl, F.ok sc__law_left (sp_len fun _ => rfl) fun cdv A outer s H vs Q E hr h => ?_⟩
  have nd := sc__law_left.nd
  have hu64 := hr.units
  have hu1 := hu_of hr
  refine ⟨_, PSs.nox ((pss_one (ps_ret (pe_lc (own := [("_law_use", 2)]) rfl nd (pi_listK (K := K) rfl (pv 0)) (blkOk_by (own := [("_law_use", 2)]) (N := ["_law_uses_here", "_law_cuts", "_law_use"]) (sc := defScope sLawLeft) (by decide +kernel)) (fun _ _ _ _ _ => (pg_name (i := 2) nd rfl (by first | exact Or.inl rfl | exact Or.inr rfl))) (fun _ _ _ _ _ => (pts_one (pt_cmpR (op_notInK (K := K) rfl hu64) (pv 2) (pv 1) (by rfl)))) (fun _ _ _ _ _ => (pv 2)))))), sp_go (fun H0 B0 i hp => ?_) h⟩
  obtain ⟨us, t, cs⟩ := i
  have hp : us.length ≤ 1000 := hp
  refine ss_ret <| ee_lc <| wi_list <| ee_var rfl ⟨us.map uE, rfl, lc1f uE uE id (fun u => !decide (u ∈ cs)) (by omega) (hno_unk rfl) (fun u hu => ?_) ?_⟩
  · refine et_test <| ee_op <| ee_var rfl <| ee_var rfl ?_
    have q : (!decide (u ∈ cs)) = (!decide (u ∈ cs)) := rfl
    cases t with
    | true => exact ro_ninE eqe_u (shal_u _) ⟨_, rfl, rfl, congrArg not (decide_eq_decide.mpr Iff.rfl), fun _ => ee_var rfl ⟨rfl, rfl⟩⟩
    | false => exact RO2.ro <| ro2_ninE eqe_u (shal_u _) ⟨_, rfl, rfl, congrArg not (decide_eq_decide.mpr Iff.rfl), fun _ => ee_var rfl ⟨rfl, rfl⟩⟩
  · rw [List.map_id]
    rfl
end
end My
end P15_
section DL28_
set_option maxHeartbeats 2000000
namespace PySem
namespace TmX
open PySem.W PySem.Calls PyProof.Rows PySem.HandSPX
def iA (p1 p2 : Pos) : Arguments := { posonlyargs := [], args := [{ arg := "self", annotation := none, pos := p1 }, { arg := "limit", annotation := none, pos := p2 }], vararg := none, kwonlyargs := [], kw_defaults := [], kwarg := none, defaults := [] }
def iB (q1 q2 q3 q4 : Pos) : List Stmt := [.Assign [.Attribute (.Name "self" q1) "limit" q2] (.Name "limit" q3) q4]
def iS : Scope := { kind := .function, names := [(PySem.Str.ofString "self", .local), (PySem.Str.ofString "limit", .local)], isGenerator := false, isCoroutine := false, more := [] }
/-- what the written part says of TooMany, at C, and of its __init__, at fI -/
structure TmTxt (K : Frag) (mg : Str → Option Value) (C fI : Addr) : Prop where
  gC : mg "TooMany" = some (.ref C)
  cls : ∃ nm q N bs bm sn sub ab col dd k0 k1 k2 k3 k5, K.lookup C = some (excClassObj nm q C N bs bm true sn sub ab col dd k0 k1 k2 k3 k5 "ValueError.__new__") ∧ refsVE bm = true
  sa : findIn K (.ref C) "__setattr__" = some (some (.builtin "object.__setattr__"))
  ga : findIn K (.ref C) "__getattribute__" = some (some (.builtin "BaseException.__getattribute__"))
  gg : findIn K (.ref C) "__getattr__" = some none
  noN : findIn K (.ref C) "limit" = some none
  iC : findIn K (.ref C) "__init__" = some (some (.ref fI))
  tC : typeIn K (.ref fI) = some (.type "function")
  kC : keepIn K (.ref C) = true
  exC : subIn K (.ref C) (.type "BaseException") = some true
  tyC : typeIn K (.ref C) = some (.type "type")
  hdC : hasDictIn K C = true
  te : exmOne K (.ref C) (.ref C) = some true
  fn : ∃ (oc : Value) (od : Option Addr) (doc pm : Value) (an : Option Addr) (cdv ct : Value) (osl : Array (Option Value)) (p1 p2 q1 q2 q3 q4 : Pos),
    K.lookup fI = some ⟨oc, od, .func (fnOf "__init__" "TooMany.__init__" (iA p1 p2) (iB q1 q2 q3 q4) iS .none .none doc pm an cdv ct), osl⟩ ∧ codeIn K cdv "TooMany.__init__" = true
theorem one_size (v : Value) : [v].length ≤ sizeLine := by
  rw [sizeLine_eq]
  exact (by decide : 1 ≤ 16777216)
theorem kept_but {K : Frag} {h h' : Heap} {x : Addr} (X : K.In h) (hx : K.lookup x = none) (k : ∀ b o, b ≠ x → h.get? b = some o → h'.get? b = some o) : K.In h' := fun a o e =>
  k a o (fun z => by rw [z, hx] at e; cases e) (X a o e)
theorem ldC {M : Model} {s : Shared} {name : Str} {scope : Scope} {L a : Addr} {cd : Value} {m : Str → Option Value} {x : Str} {pos : Pos} {v : Value} {Q : Value → Shared → Prop} {A : Around} {E : Value → Shared → Prop} (hn : s.heap.Ns L m) (hv : m x = some v) (h : Q v s)
    (hk : scope.kind = .function := by rfl) (hl : (envOfC name scope L a cd).kindOf x = some .local := by rfl) (hd : (x == ("__debug__" : Str)) = false := by decide) :
    wpAny M A (eval (.Name x pos) (envOfC name scope L a cd)) Q E s := wpAny_Name (wpAny_loadName_local hk hl hn hv h) hd
/-- what __init__ leaves of a fresh exception at x -/
structure InitEnd (h h' : Heap) (x C dx t1 : Addr) (v : Value) : Prop where
  keep : ∀ b o, b ≠ x → h.get? b = some o → h'.get? b = some o
  obj : h'.get? x = some { cls := .ref C, dict := some dx, data := .fields #[.ref t1, .none, .none, .none, .bool false, .none] }
  dbig : h.objs.size ≤ dx
  dne : dx ≠ x
  ns : h'.Ns1 dx (fun y => if y = "limit" then some v else none)
/-- a made TooMany -/
structure OwnMade (h h' : Heap) (e C d : Addr) (v : Value) : Prop where
  keep : ∀ b o, h.get? b = some o → h'.get? b = some o
  new : h.objs.size ≤ e
  obj : ∃ oe vs, h'.get? e = some oe ∧ oe.cls = .ref C ∧ oe.dict = some d ∧ oe.data = .fields vs ∧ vs[1]? = some .none
  dbig : h.objs.size ≤ d
  dne : d ≠ e
  ns : h'.Ns1 d (fun y => if y = "limit" then some v else none)
section
variable {prog : Program} {w : World} {A : Around} {E : Value → Shared → Prop} {R : Result → Shared → Prop} {s : Shared} {K : Frag} {mg : Str → Option Value} {C fI : Addr}
theorem tm_init (T : TmTxt K mg C fI) {x t0 : Addr} {v : Value} (X : K.In s.heap) (hlim : s.heap.NoLimit) (hx : s.heap.get? x = some (excO C t0)) (hnx : K.lookup x = none) (hroom : A.depth < recursionLimit)
    (hq : ∀ h' tk dx, InitEnd s.heap h' x C dx t0 v → R (.ok (.ret .none)) { s with heap := h', toks := tk }) :
    codeAny (model prog w) A (.call (.ref fI) ⟨[.ref x, v], []⟩) R s := by
  obtain ⟨oc, od, doc, pm, an, cdv, ct, osl, p1, p2, q1, q2, q3, q4, ho, hcd⟩ := T.fn
  obtain ⟨nm, q, N, bs, bm, sn, sub, ab, col, dd, k0, k1, k2, k3, k5, hC, hbm⟩ := T.cls
  have hcl : clsIn K C = some { name := nm, bases := bs, mro := .ref C :: bm, ns := N, qualname := q, hasDict := true, slotNames := sn, subclasses := sub, abstract := ab, collection := col, hasDel := false } := by unfold clsIn; rw [hC] <;> rfl
  refine Att.call_fn (binds := [("self", .ref x), ("limit", v)]) X hlim ho hcd hroom (BindsTo.of_eq (by first | rfl | with_unfolding_all rfl)) (by first | rfl | decide | with_unfolding_all rfl) (fun s₁ IC => ?_) rfl rfl rfl
  obtain ⟨h₁, tk₁, rfl⟩ := IC.toInCall.same
  have k : ∀ b o, s.heap.get? b = some o → h₁.get? b = some o := IC.toInCall.keep
  have hn := IC.toInCall.ns
  have hxL : s.heap.objs.size ≠ x := Nat.ne_of_gt (Heap.lt_size hx)
  have X₁ : K.In h₁ := X.keeps k
  have hx₁ := k _ _ hx
  -- self.by = by
  show wpAny _ _ (execs _ _) _ _ _
  refine wpAny_execs_cons (plainObj_wpAny_Assign_Attribute ?_)
  refine ldC (v := v) hn (by first | rfl | with_unfolding_all rfl | kernel_rfl) (ldC (v := .ref x) hn (by first | rfl | with_unfolding_all rfl | kernel_rfl) ?_)
  refine set_plain X₁ (ox := excO C t0) (od := none) ⟨hx₁, rfl, rfl, trivial⟩ T.sa ?_
  refine exc_osa X₁ hx₁ hcl (show refsVE (.ref C :: bm) = true from hbm) rfl T.noN (fun h₃ tk₃ dx k₃ dn dne hx₃ hn₃ => ?_)
  show wpAny _ _ (execs _ _) _ _ _
  have z : s.heap.objs.size < h₁.objs.size := hn.lt
  exact wpAny_execs_nil (hq h₃ tk₃ dx ⟨fun b o hb e => k₃ b o hb (k b o e), hx₃, Nat.le_of_lt (Nat.lt_of_lt_of_le z dn), dne, hn₃⟩)
theorem tm_made (T : TmTxt K mg C fI) {v : Value} (X : K.In s.heap) (hlim : s.heap.NoLimit) (hroom : A.depth + 1 < recursionLimit)
    (hq : ∀ h' tk e d, OwnMade s.heap h' e C d v → R (.ok (.ret (.ref e))) { s with heap := h', toks := tk }) :
    codeAny (model prog w) A (.call (.ref C) ⟨[v], []⟩) R s := by
  obtain ⟨nm, q, N, bs, bm, sn, sub, ab, col, dd, k0, k1, k2, k3, k5, hC, hbm⟩ := T.cls
  obtain ⟨hp, g, dr, tk, os⟩ := s
  have k : ∀ b o, hp.get? b = some o → ((hp.push (kdv_tup [v])).push (excO C hp.objs.size)).get? b = some o := fun b o e => Heap.get?_push_of_some _ (Heap.get?_push_of_some _ e)
  have hget : ((hp.push (kdv_tup [v])).push (excO C hp.objs.size)).get? (hp.objs.size + 1) = some (excO C hp.objs.size) := by heap_get
  have hnx : K.lookup (hp.objs.size + 1) = none := by
    cases e : K.lookup (hp.objs.size + 1) with
    | none => rfl
    | some o =>
      have z : hp.get? (hp.objs.size + 1) = some o := X _ _ e
      exact absurd (Nat.lt_of_succ_lt (Heap.lt_size z)) (Nat.lt_irrefl _)
  refine call_own F.excBase_ValueError (fun X => refsVE_contains X bm hbm) (X _ _ hC) (looks_findIn X T.iC) (fun self => bind_fn X self T.tC) (one_size v) ?_
  refine tm_init (s := ⟨(hp.push (kdv_tup [v])).push (excO C hp.objs.size), g, dr, tk, os⟩) T (X.keeps k) (hlim.keeps k) hget hnx ?_ fun h' tk' dx ⟨k', hx, dn, dne, hns⟩ => ?_
  · show A.depth + 1 < recursionLimit
    exact hroom
  · have old : ∀ b o, hp.get? b = some o → h'.get? b = some o := fun b o e => k' b o (Nat.ne_of_lt (Nat.lt_succ_of_lt (Heap.lt_size e))) (k b o e)
    have z : hp.objs.size + 1 + 1 ≤ dx := by
      first
        | (simpa only [Heap.size_push] using dn)
        | exact dn
        | (have q := dn; rw [Heap.size_push, Heap.size_push] at q; exact q)
    exact ⟨rfl, hq h' tk' (hp.objs.size + 1) dx ⟨old, Nat.le_succ _, ⟨_, _, hx, rfl, rfl, rfl, rfl⟩, Nat.le_trans (Nat.le_trans (Nat.le_succ _) (Nat.le_succ _)) z, dne, hns⟩⟩
end
end TmX
end PySem
namespace L2
open PySem PySem.Spec PyProof.Rows
theorem relO_tm {v : V} {v' : Value} (r : RelV v v') (f : Str) : RelO (List.lookup f [(("limit" : Str), v)]) (if f = "limit" then some v' else none) := by
  by_cases hw : f = "limit"
  · subst hw
    rw [if_pos rfl]
    have q : List.lookup ("limit" : Str) [(("limit" : Str), v)] = some v := by simp [List.lookup]
    rw [q]
    exact r
  · rw [if_neg hw]
    have qw : (f == ("limit" : Str)) = false := by simpa using hw
    have q2 : List.lookup f [(("limit" : Str), v)] = none := by simp [List.lookup, qw]
    rw [q2]
    trivial
section
variable {X : Cx} {C fI : Addr}
/-- TooMany(e) -/
def tMkTm (C : Addr) (ta : TA) : St → Hp → XK → Prop := fun σ H Q => ta σ H fun vs H1 => ∃ v, vs = [v] ∧ ∀ d, H1 d = none → Q (.ref C) (some d) (upd H1 d (.xd [(("limit" : Str), v)]))
theorem pmk_tm {a : Expr} {ta : TA} {p pos : Pos} {k : Nat} (T : PySem.TmX.TmTxt X.K X.mg C fI) (hr : Room k X.A) (ha : PA X [a] ta) (hg : Gl X "TooMany" := by rfl)
    (he : starEach (a :: []) X.env = (false, eval a X.env) :: starEach [] X.env := by rfl) (hpl : (backTo pos (starEach [] X.env)).any (·.1) = false := by rfl) :
    PMk X (.Call (.Name "TooMany" p) [a] [] pos) (tMkTm C ta) := by
  intro pins s σ H Q I h
  refine wpAny_Call_Name_kw (ld_glob I hg T.gC ?_)
  refine PySem.W.callWith_K (h₀ := X.base) I.ok.mod.kin T.kC (thn (ha.run pos pins s σ H _ I h) fun us s1 hh => ?_) he hpl
  obtain ⟨vs, H1, I1, r1, v, ev, q1⟩ := hh
  subst ev
  refine ⟨I1.kIn, ?_⟩
  cases r1 with
  | cons rv rn =>
    rename_i v' us'
    cases rn
    show wpAny _ _ (call (.ref C) [v']) _ _ _
    have hlim := I1.nolimit
    obtain ⟨hp, g, dr, tk, os⟩ := s1
    refine wpAny_call (PySem.TmX.tm_made T I1.kIn hlim (by have := hr.dp; omega) fun h' tk' e d M => ?_)
    show MkP X pins σ Q (.ref e) ⟨h', g, dr, tk', os⟩
    obtain ⟨oe, fv, hoe, hc, hd, hdat, h1⟩ := M.obj
    have hns := M.ns
    obtain ⟨G', g1, g2⟩ := restrict h' fun b => decide (b ≠ e)
    have gk : ∀ b, b ≠ e → G'.get? b = h'.get? b := fun b hb => g1 b (decide_eq_true hb)
    have ge : G'.get? e = none := g2 e (by simp)
    have old : ∀ b o, hp.get? b = some o → G'.get? b = some o := fun b o q => (gk b (Nat.ne_of_lt (Nat.lt_of_lt_of_le (Heap.lt_size q) M.new))).trans (M.keep b o q)
    have ob : ObjOk X.prog X.w (upd H1 d (.xd [(("limit" : Str), v)])) G' d (.xd [(("limit" : Str), v)]) :=
      ⟨_, hns.at (fun o q => (gk d M.dne).trans q), fun f => relO_tm rv f⟩
    have J : Inv X pins σ (upd H1 d (.xd [(("limit" : Str), v)])) ⟨G', g, dr, tk', os⟩ := I1.laid (t' := tk') old M.dbig ob
    refine ⟨e, oe, fv, ⟨G', g, dr, tk', os⟩, _, .ref C, some d, rfl, J, fun b o q => ?_, ge, hoe, ⟨hc, hd⟩, hdat, h1, ?_, rfl, I1.bare, raises_own T.exC T.tyC, q1 d (I1.hok.fresh M.dbig)⟩
    · by_cases hb : b = e
      · have q' : G'.get? b = some o := q
        rw [hb, ge] at q'; cases q'
      · exact (gk b hb).symm.trans q
    · rw [upd_ne (Ne.symm M.dne)]
      exact I1.hok.fresh M.new
/-- raise TooMany(e) -/
def tRaiseTm (C : Addr) (W : WX) (ta : TA) : TS := fun _ σ H => tMkTm C ta σ H fun cls d H' => W cls d σ H'
theorem ps_raiseTm {a : Expr} {ta : TA} {W : WX} {p pos pos2 : Pos} {k : Nat} (hc : X.calm = true) (T : PySem.TmX.TmTxt X.K X.mg C fI) (hr : Room k X.A) (tk : Takes X W) (ha : PA X [a] ta) (hg : Gl X "TooMany" := by rfl)
    (he : starEach (a :: []) X.env = (false, eval a X.env) :: starEach [] X.env := by rfl) (hpl : (backTo pos (starEach [] X.env)).any (·.1) = false := by rfl) :
    PS X (.Raise (some (.Call (.Name "TooMany" p) [a] [] pos)) none pos2) (tRaiseTm C W ta) := ps_raise hc tk (pmk_tm T hr ha hg he hpl)
end
end L2
end DL28_
section DL29_
set_option maxHeartbeats 1000000
namespace My
open PySem PySem.Spec PyProof.Rows L2 LamX
/-- as SpI; where `bad` holds an error of the class at C may come instead -/
def SpX (K : PySem.W.Frag) (T : List (Addr × Str)) (C : Addr) {ι : Type} (args : ι → List Dat) (pre : ι → Prop) (post : ι → Dat → Prop) (bad : ι → Prop) : Sp := fun vs H Q E =>
  ∃ (B : Hp) (i : ι), Sub B H ∧ Tabs T H ∧ DatAll K B vs (args i) ∧ pre i ∧ (∀ v H1 x, Ex H H1 → Tabs T H1 → DatOk K (ext B H H1) v x → post i x → Q v H1) ∧ (bad i → ∀ d H1, Ex H H1 → Tabs T H1 → E (.ref C) (some d) H1)
theorem spx_len {K : PySem.W.Frag} {T : List (Addr × Str)} {C : Addr} {ι : Type} {args : ι → List Dat} {pre : ι → Prop} {post : ι → Dat → Prop} {bad : ι → Prop} {n : Nat} (hn : ∀ i, (args i).length = n) : ∀ vs H Q E, SpX K T C args pre post bad vs H Q E → vs.length = n := fun vs H Q E ⟨B, i, _, _, da, _⟩ => by
  rw [da.length, hn i]
theorem sp_goX {K : PySem.W.Frag} {T : List (Addr × Str)} {C : Addr} {ι : Type} {args : ι → List Dat} {pre : ι → Prop} {post : ι → Dat → Prop} {bad : ι → Prop} {N : List Str} {t : TS} {vs : List V} {H : Hp} {Q : L2.VK} {E : XK}
    (body : ∀ (B0 : Hp) i, pre i → (bad i → ∀ d H1, Ex H H1 → Tabs T H1 → E (.ref C) (some d) H1) → SS { K := K, T := T, H0 := H, B0 := B0 } t (start' N (args i)) { nx := fun _ => post i dN, rt := fun x _ => post i x }) (h : SpX K T C args pre post bad vs H Q E) :
    t { nx := fun _ H' => Q .non H', rt := Q } (L2.start N vs) H := by
  obtain ⟨B, i, sub, tab, da, p, k, hE⟩ := h
  have C0 : Cur { K := K, T := T, H0 := H, B0 := B } B H := ⟨sub, Ex.refl _, Ex.refl _, fun a h _ => h, tab, fun a ha => by cases ha⟩
  have to_ext : ∀ {B1 H1 : Hp}, Cur { K := K, T := T, H0 := H, B0 := B } B1 H1 → Ex B1 (ext B H H1) := fun {B1 H1} C1 => (show Sub B1 (ext B H H1) from fun b o e => by
    by_cases hb : H b = none
    · rw [ext_new hb]; exact C1.sub b o e
    · rw [ext_old (C1.out b (by rw [e]; exact fun z => by cases z) hb)]; exact C1.sub b o e).ex
  refine body B i p hE (L2.start N vs) B H _ C0 (env_start da) (fun σ1 B1 H1 Γ1 C1 b1 E1 q => k .non H1 dN C1.ex0 C1.tab Dp.non q) (fun v σ1 B1 H1 x Γ1 C1 b1 E1 d q => k v H1 x C1.ex0 C1.tab (DatOk.mono (to_ext C1) d) q) (fun _ _ _ _ _ _ _ z => z.elim) (fun _ _ _ _ _ _ _ z => z.elim)
section
variable {c : Ctx} {Γ : Env'} {P : Post}
/-- raise TooMany(e) -/
theorem ss_raiseTm {C : Addr} {E : XK} {ta : TA} (hE : ∀ d H1, Ex c.H0 H1 → Tabs c.T H1 → E (.ref C) (some d) H1) (h : EA c ta Γ fun xs _ => ∃ x, xs = [x]) : SS c (tRaiseTm C (fun cls d _ H => E cls d H) ta) Γ P := fun σ B H D C0 E0 n r b k =>
  h σ B H C0 E0 _ fun vs B1 H1 xs Γ1 s1 d1 ⟨x, e⟩ => by
    subst e
    cases d1 with
    | @cons v _ _ _ dv dn =>
      cases dn
      refine ⟨v, rfl, fun d hd => ?_⟩
      have st := step_new (o := .xd [(("limit" : Str), v)]) s1.cur hd
      exact hE d _ (s1.step st).cur.ex0 (s1.step st).cur.tab
end
end My
end DL29_
section DL30_
set_option maxHeartbeats 1000000
namespace My
open PySem PySem.Spec PyProof.Rows L2 LamX
/-- the heap without the reel's two lists -/
def hm (H : Hp) (r g : Addr) : Hp := fun a => if a = r ∨ a = g then none else H a
theorem hm_r {H : Hp} {r g : Addr} : hm H r g r = none := if_pos (.inl rfl)
theorem hm_g {H : Hp} {r g : Addr} : hm H r g g = none := if_pos (.inr rfl)
theorem hm_ne {H : Hp} {r g a : Addr} (h1 : a ≠ r) (h2 : a ≠ g) : hm H r g a = H a := if_neg fun z => z.elim h1 h2
theorem hm_of {H : Hp} {r g a : Addr} (h : hm H r g a ≠ none) : a ≠ r ∧ a ≠ g := ⟨fun z => h (by rw [z, hm_r]), fun z => h (by rw [z, hm_g])⟩
theorem ex_hm (H : Hp) (r g : Addr) : Ex (hm H r g) H := ⟨fun b o h _ => by
  have q := hm_of (H := H) (r := r) (g := g) (a := b) (by rw [h]; exact fun z => by cases z)
  rw [hm_ne q.1 q.2] at h
  exact h, fun b h => by
  have q := hm_of h
  rw [hm_ne q.1 q.2] at h
  exact h⟩
theorem ReelAt.le {B H : Hp} {r g sm : Addr} {k m : Nat} (h : ReelAt B H r g sm k) (q : m ≤ k) : ReelAt B H r g sm m := by
  obtain ⟨n, gs, ss, h1, h2, h3, h4, h5, h6⟩ := h
  exact ⟨n, gs, ss, h1, h2, h3, h4, by omega, h6⟩
/-- the promise of a def whose first argument is the reel: it takes at most so many draws -/
def SpR (K : PySem.W.Frag) (T : List (Addr × Str)) {ι : Type} (args : ι → List Dat) (pre : ι → Prop) (cost : ι → Nat) (post : ι → Dat → Prop) : Sp := fun vs H Q _ =>
  ∃ (B : Hp) (i : ι) (r g sm : Addr) (k : Nat) (ws : List V), vs = .ref r :: ws ∧ Sub B H ∧ Tabs T H ∧ B r = none ∧ B g = none ∧ ReelAt B H r g sm (k + cost i) ∧ DatAll K B ws (args i) ∧ pre i ∧
    ∀ v H1 x, Ex (hm H r g) H1 → Tabs T H1 → ReelAt (ext B H H1) H1 r g sm k → DatOk K (ext B H H1) v x → post i x → Q v H1
theorem spr_len {K : PySem.W.Frag} {T : List (Addr × Str)} {ι : Type} {args : ι → List Dat} {pre : ι → Prop} {cost : ι → Nat} {post : ι → Dat → Prop} {n : Nat} (hn : ∀ i, (args i).length = n) : ∀ vs H Q E, SpR K T args pre cost post vs H Q E → vs.length = n + 1 := fun vs H Q E ⟨B, i, r, g, sm, k, ws, e, _, _, _, _, _, da, _⟩ => by
  rw [e, List.length_cons, da.length, hn i]
/-- the slots at the entry -/
def startR (N : List Str) (k : Nat) (xs : List Dat) : Env' := .reel k :: (xs.map .dat ++ List.replicate (N.length - (xs.length + 1)) .unk)
theorem start_no {c : Ctx} {N : List Str} {xs : List Dat} {i : Nat} {x : Cell} {v : Option V} {a : Addr} (h : (start' N xs)[i]? = some x) (o : Owns c v x a) : False := by
  unfold start' at h
  by_cases hi : i < (xs.map Cell.dat).length
  · rw [List.getElem?_append_left hi, List.getElem?_map] at h
    cases e : xs[i]? with
    | none => rw [e] at h; cases h
    | some y => rw [e] at h; cases h; exact o
  · rw [List.getElem?_append_right (by omega)] at h
    have e := List.mem_replicate.mp (List.mem_of_getElem? h)
    rw [e.2] at o
    exact o
theorem env_cons {c : Ctx} {B H : Hp} {σ : List (Option V)} {Γ : Env'} {v : V} {x : Cell} (E : EnvOk c B H σ Γ) (no : ∀ (i : Nat) (y : Cell) (w : Option V) (a : Addr), Γ[i]? = some y → Owns c w y a → False) (h : CellOk c B H (some v) x) : EnvOk c B H (some v :: σ) (x :: Γ) := by
  refine ⟨by rw [List.length_cons, List.length_cons, E.len], fun i w y h1 h2 => ?_, fun i j w u y z a hij h1 h2 h3 h4 o1 o2 => ?_⟩
  · cases i with
    | zero =>
      simp at h1 h2
      subst h1; subst h2
      exact h
    | succ i => exact E.at_ i w y (by simpa using h1) (by simpa using h2)
  · cases i with
    | zero =>
      cases j with
      | zero => exact hij rfl
      | succ j => exact no j z u a (by simpa using h4) o2
    | succ i => exact no i y w a (by simpa using h2) o1
theorem start_cons {n0 : Str} {N : List Str} {v : V} {vs : List V} : L2.start (n0 :: N) (v :: vs) = some v :: L2.start N vs := by
  unfold L2.start
  rw [List.length_cons, List.length_cons, Nat.succ_sub_succ]
  rfl
theorem startR_cons {n0 : Str} {N : List Str} {k : Nat} {xs : List Dat} : startR (n0 :: N) k xs = .reel k :: start' N xs := by
  unfold startR start'
  rw [List.length_cons, Nat.succ_sub_succ]
section
variable {K : PySem.W.Frag} {T : List (Addr × Str)} {ι : Type} {args : ι → List Dat} {pre : ι → Prop} {cost : ι → Nat} {post : ι → Dat → Prop}
theorem reel_get {c : Ctx} {B H : Hp} {σ : List (Option V)} {Γ : Env'} (E : EnvOk c B H σ Γ) {j k : Nat} (h : Γ[j]? = some (.reel k)) : ∃ r g, c.rg = some (r, g) ∧ σ[j]? = some (some (.ref r)) ∧ B r = none ∧ B g = none ∧ c.H0 r = none ∧ c.H0 g = none ∧ ReelAt B H r g c.sm k := by
  have hi : j < σ.length := by rw [E.len]; exact (List.getElem?_eq_some_iff.mp h).1
  obtain ⟨v, hv⟩ : ∃ v, σ[j]? = some v := ⟨_, List.getElem?_eq_getElem hi⟩
  have q := E.at_ j v _ hv h
  cases v with
  | none => exact q.elim
  | some v =>
    obtain ⟨r, g, h1, h2, h3⟩ := q
    subst h2
    exact ⟨r, g, h1, hv, h3⟩
theorem sp_goR {n0 : Str} {N : List Str} {t : TS} {vs : List V} {H : Hp} {Q : L2.VK} {E : XK}
    (body : ∀ (H0 B0 : Hp) (rg : Option (Addr × Addr)) (sm : Addr) i (k : Nat), pre i → SS { K := K, T := T, H0 := H0, B0 := B0, rg := rg, sm := sm } t (startR (n0 :: N) (k + cost i) (args i)) { nx := fun Γ1 => Γ1[0]? = some (.reel k) ∧ post i dN, rt := fun x Γ1 => Γ1[0]? = some (.reel k) ∧ post i x }) (h : SpR K T args pre cost post vs H Q E) :
    t { nx := fun _ H' => Q .non H', rt := Q } (L2.start (n0 :: N) vs) H := by
  obtain ⟨B, i, r, g, sm, k, ws, e, sub, tab, hr, hg, ra, da, p, q⟩ := h
  subst e
  have hrl : H r ≠ none := by obtain ⟨n, gs, ss, q1, _⟩ := ra; rw [q1]; exact fun z => by cases z
  have hgl : H g ≠ none := by obtain ⟨n, gs, ss, q1, q2, _⟩ := ra; rw [q2]; exact fun z => by cases z
  let c : Ctx := { K := K, T := T, H0 := hm H r g, B0 := B, rg := some (r, g), sm := sm }
  have C : Cur c B H := ⟨sub, ex_hm H r g, Ex.refl _, fun a h _ => h, tab, fun a ha => by
    have ha : a = r ∨ a = g := by
      have : a ∈ [r, g] := ha
      simpa using this
    rcases ha with z | z
    · subst z; exact ⟨hrl, hr, hm_r⟩
    · subst z; exact ⟨hgl, hg, hm_g⟩⟩
  have E0 : EnvOk c B H (L2.start (n0 :: N) (.ref r :: ws)) (startR (n0 :: N) (k + cost i) (args i)) := by
    rw [start_cons, startR_cons]
    exact env_cons (env_start da) (fun i y w a h o => start_no h o) ⟨r, g, rfl, rfl, hr, hg, hm_r, hm_g, ra⟩
  have to_ext : ∀ {B1 H1 : Hp}, Cur c B1 H1 → Ex B1 (ext B H H1) := fun {B1 H1} C1 => (show Sub B1 (ext B H H1) from fun b o e => by
    by_cases hb : H b = none
    · rw [ext_new hb]; exact C1.sub b o e
    · have nr : b ∉ c.rs := fun z => by
        have := (C1.reel b z).2.1
        rw [this] at e; cases e
      have n1 : b ≠ r := fun z => nr (by rw [z]; show r ∈ [r, g]; simp)
      have n2 : b ≠ g := fun z => nr (by rw [z]; show g ∈ [r, g]; simp)
      rw [ext_old (C1.out b (by rw [e]; exact fun z => by cases z) (by show hm H r g b ≠ none; rw [hm_ne n1 n2]; exact hb))]; exact C1.sub b o e).ex
  have fin : ∀ {B1 H1 : Hp} {σ1 : List (Option V)} {Γ1 : Env'}, Cur c B1 H1 → EnvOk c B1 H1 σ1 Γ1 → Γ1[0]? = some (.reel k) → ReelAt (ext B H H1) H1 r g sm k := fun {B1 H1 σ1 Γ1} C1 E1 h => by
    obtain ⟨r', g', e1, _, _, _, _, _, ra1⟩ := reel_get E1 h
    cases e1
    exact ra1.mono (to_ext C1) (Ex.refl _)
  exact body _ _ _ _ i k p (L2.start (n0 :: N) (.ref r :: ws)) B H _ C E0 (fun σ1 B1 H1 Γ1 C1 b1 E1 ⟨h1, h2⟩ => q .non H1 dN C1.ex0 C1.tab (fin C1 E1 h1) Dp.non h2)
    (fun v σ1 B1 H1 x Γ1 C1 b1 E1 d ⟨h1, h2⟩ => q v H1 x C1.ex0 C1.tab (fin C1 E1 h1) (DatOk.mono (to_ext C1) d) h2) (fun _ _ _ _ _ _ _ z => z.elim) (fun _ _ _ _ _ _ _ z => z.elim)
/-- behind a turn of the reel -/
theorem reel_after {c : Ctx} {B H H1 : Hp} {σ : List (Option V)} {Γ : Env'} {j m k : Nat} {r g : Addr} (C : Cur c B H) (E : EnvOk c B H σ Γ) (hj : Γ[j]? = some (.reel m)) (hrg : c.rg = some (r, g)) (e : Ex (hm H r g) H1) (t : Tabs c.T H1) (ra : ReelAt (ext B H H1) H1 r g c.sm k) :
    St1 c B H (ext B H H1) H1 σ Γ (Γ.set j (.reel k)) := by
  obtain ⟨r', g', e1, hv, hr, hg, h0r, h0g, ra0⟩ := reel_get E hj
  rw [hrg] at e1
  cases e1
  have hjl : j < Γ.length := (List.getElem?_eq_some_iff.mp hj).1
  have mem : ∀ {a : Addr}, a ∉ c.rs ↔ a ≠ r ∧ a ≠ g := fun {a} => by unfold Ctx.rs; rw [hrg]; simp
  have live : ∀ b, H b ≠ none → H1 b ≠ none := fun b hb => by
    by_cases z : b = r
    · obtain ⟨n, gs, ss, q1, _⟩ := ra; rw [z, q1]; exact fun z => by cases z
    · by_cases z2 : b = g
      · obtain ⟨n, gs, ss, q1, q2, _⟩ := ra; rw [z2, q2]; exact fun z => by cases z
      · exact e.live b (by rw [hm_ne z z2]; exact hb)
  have keep : ∀ b o, H b = some o → (∀ ps, o ≠ .tbl ps) → b ∉ c.rs → H1 b = some o := fun b o h n hb => e.keep b o (by rw [hm_ne (mem.mp hb).1 (mem.mp hb).2]; exact h) n
  have bex : Ex B (ext B H H1) := ⟨fun b o h n => by
    rw [ext_old (by rw [h]; exact fun z => by cases z)]
    exact keep b o (C.sub b o h) n (mem.mpr ⟨fun z => (by rw [z, hr] at h; cases h), fun z => (by rw [z, hg] at h; cases h)⟩), fun b h => by
    rw [ext_old h]
    exact live b (C.sub.ex.live b h)⟩
  have rs : ∀ a ∈ c.rs, H1 a ≠ none ∧ ext B H H1 a = none ∧ c.H0 a = none := fun a ha => by
    obtain ⟨r1, r2, r3⟩ := C.reel a ha
    exact ⟨live a r1, ext_out r1 r2, r3⟩
  have cur : Cur c (ext B H H1) H1 := by
    refine ⟨ext_sub, ⟨fun b o h n => ?_, fun b h => live b (C.ex0.live b h)⟩, C.bex.trans bex, fun a h1 h2 => ?_, t, rs⟩
    · exact keep b o (C.ex0.keep b o h n) n (fun z => by rw [(C.reel b z).2.2] at h; cases h)
    · by_cases hb : B a = none
      · exact absurd (ext_out (C.ex0.live a h2) hb) h1
      · exact C.out a hb h2
  have out : ∀ a, ext B H H1 a ≠ none → H a ≠ none → B a ≠ none := fun a h1 h2 hb => h1 (ext_out h2 hb)
  have stp : Stp c B H (ext B H H1) H1 := ⟨cur, bex, keep, live, out⟩
  have no : ∀ {a : Addr}, B a = none → H a ≠ none → ext B H H1 a = none := fun {a} h1 h2 => ext_out h2 h1
  refine ⟨stp, ⟨by rw [List.length_set]; exact E.len, fun i v x h1 h2 => ?_, fun i l v w x y a hil h1 h2 h3 h4 o1 o2 => ?_⟩, ⟨List.length_set, fun i => ?_⟩⟩
  · by_cases hi : i = j
    · subst hi
      rw [List.getElem?_set_self hjl] at h2
      rw [hv] at h1
      cases h1; cases h2
      exact ⟨r, g, hrg, rfl, no hr (by obtain ⟨n, gs, ss, q1, _⟩ := ra0; rw [q1]; exact fun z => by cases z), no hg (by obtain ⟨n, gs, ss, q1, q2, _⟩ := ra0; rw [q2]; exact fun z => by cases z), h0r, h0g, ra⟩
    · rw [List.getElem?_set_ne (Ne.symm hi)] at h2
      have q := E.at_ i v x h1 h2
      cases x with
      | unk => cases v <;> trivial
      | dat y => cases v with
        | none => exact q
        | some v => exact DatOk.mono bex q
      | oL ds => cases v with
        | none => exact q
        | some v =>
          obtain ⟨a, ws, r1, r2, r3, r4, r5⟩ := q
          exact ⟨a, ws, r1, keep a _ r2 (fun ps z => by cases z) r4.2, no r3 (by rw [r2]; exact fun z => by cases z), r4, DpAll.mono bex r5⟩
      | oK ds => cases v with
        | none => exact q
        | some v =>
          obtain ⟨a, ws, r1, r2, r3, r4, r5⟩ := q
          exact ⟨a, ws, r1, keep a _ r2 (fun ps z => by cases z) r4.2, no r3 (by rw [r2]; exact fun z => by cases z), r4, KvOk.mono bex r5⟩
      | oT ds => cases v with
        | none => exact q
        | some v =>
          obtain ⟨a, ws, r1, r2, r3, r4, r5⟩ := q
          exact ⟨a, ws, r1, keep a _ r2 (fun ps z => by cases z) r4.2, no r3 (by rw [r2]; exact fun z => by cases z), r4, KvOk.mono bex r5⟩
      | own ψ => cases v with
        | none => exact q
        | some v =>
          obtain ⟨a, o, r1, r2, r0, r3, r4, r5, r6⟩ := q
          exact ⟨a, o, r1, keep a _ r2 r0 r4.2, r0, no r3 (by rw [r2]; exact fun z => by cases z), r4, r6 _ bex, fun B' b' => r6 _ (bex.trans b')⟩
      | oLL b rows last => cases v with
        | none => exact q
        | some v =>
          obtain ⟨a, ws, vs, r1, r2, r2b, ne, r3, r3b, r4, r4b, r5, r6⟩ := q
          exact ⟨a, ws, vs, r1, keep a _ r2 (fun ps z => by cases z) r4.2, keep b _ r2b (fun ps z => by cases z) r4b.2, ne, no r3 (by rw [r2]; exact fun z => by cases z), no r3b (by rw [r2b]; exact fun z => by cases z), r4, r4b, DpAll.mono bex r5, DpAll.mono bex r6⟩
      | reel k' =>
        exact absurd (show r ∈ c.rs by unfold Ctx.rs; rw [hrg]; simp) fun z => E.sep i j v (some (.ref r)) (.reel k') (.reel m) r hi h1 h2 hv hj z z
  · have conv : ∀ {i : Nat} {v : Option V} {x : Cell}, (Γ.set j (.reel k))[i]? = some x → Owns c v x a → ∃ y, Γ[i]? = some y ∧ Owns c v y a := fun {i v x} h o => by
      by_cases hi : i = j
      · subst hi
        rw [List.getElem?_set_self hjl] at h
        cases h
        exact ⟨_, hj, o⟩
      · rw [List.getElem?_set_ne (Ne.symm hi)] at h
        exact ⟨x, h, o⟩
    obtain ⟨x', hx, ox⟩ := conv h2 o1
    obtain ⟨y', hy, oy⟩ := conv h4 o2
    exact E.sep i l v w x' y' a hil h1 hx h3 hy ox oy
  · by_cases hi : i = j
    · subst hi
      exact .inr ⟨m, k, hj, List.getElem?_set_self hjl⟩
    · exact .inl (List.getElem?_set_ne (Ne.symm hi))
/-- a call with the reel -/
theorem ee_callR {c : Ctx} {Γ : Env'} {P : Dat → Env' → Prop} {E' : XK} {ta : TA} {j m : Nat} (hT : c.T = T) (hK : c.K = K) (h0 : Γ[j]? = some (.reel m))
    (h : EA c ta Γ fun xs Γ1 => ∃ i k, xs = args i ∧ pre i ∧ (∃ n, Γ1[j]? = some (.reel n) ∧ k + cost i ≤ n) ∧ ∀ x, post i x → P x (Γ1.set j (.reel k))) :
    EE c (tCall (SpR K T args pre cost post) [] E' (tCons (tVar j) ta)) Γ P := fun σ B H C E Q q => by
  subst hT hK
  obtain ⟨r, g, hrg, hv, _⟩ := reel_get E h0
  refine ⟨_, hv, ?_⟩
  refine h σ B H C E _ fun vs B1 H1 xs Γ1 s1 d1 ⟨i, k, e, p, ⟨n, hn, hk⟩, fin⟩ => ?_
  show SpR c.K c.T args pre cost post ((V.ref r :: vs) ++ []) H1 Q E'
  rw [List.append_nil]
  obtain ⟨r', g', hrg', hv', hr, hg, h0r, h0g, ra⟩ := reel_get s1.env hn
  rw [hrg] at hrg'
  cases hrg'
  refine ⟨B1, i, r, g, c.sm, k, vs, rfl, s1.cur.sub, s1.cur.tab, hr, hg, ra.le hk, by rw [← e]; exact d1, p, fun v H2 x ex tab ra2 d2 po => ?_⟩
  exact q v _ H2 x _ (s1.trans (reel_after s1.cur s1.env hn hrg ex tab ra2)) d2 (fin x po)
end
end My
end DL30_
section P16_
set_option maxHeartbeats 1000000
namespace My
open PySem PySem.Spec PyProof.Rows L2 LamX
/-- the reel inside a pull: as before, but for the reel's own lists -/
structure PI (T : List (Addr × Str)) (H : Hp) (r g sm : Addr) (n : Nat) (gs ss : List Int) (H1 : Hp) : Prop where
  ex : Ex (hm H r g) H1
  tab : Tabs T H1
  hr : H1 r = some (.lst [.ref g, .ref sm, .int n])
  hg : H1 g = some (.lst (gs.map V.int))
  hs : H1 sm = some (.lst (ss.map V.int))
  ne : r ≠ g
  nr : sm ≠ r
  ng : sm ≠ g
theorem PI.new {T : List (Addr × Str)} {H : Hp} {r g sm : Addr} {n : Nat} {gs ss : List Int} {H1 : Hp} {p : Addr} {o : HO} (h : PI T H r g sm n gs ss H1) (hp : H1 p = none) : PI T H r g sm n gs ss (upd H1 p o) :=
  ⟨h.ex.trans (Ex.new hp), Tabs.new h.tab hp, by rw [upd_ne (ne_of_none h.hr hp)]; exact h.hr, by rw [upd_ne (ne_of_none h.hg hp)]; exact h.hg, by rw [upd_ne (ne_of_none h.hs hp)]; exact h.hs, h.ne, h.nr, h.ng⟩
theorem ex_write {H H1 : Hp} {a : Addr} {o : HO} (e : Ex H H1) (h : H a = none) : Ex H (upd H1 a o) := ⟨fun b u q n => by rw [upd_ne (ne_of_none q h)]; exact e.keep b u q n, fun b q => by
  rw [upd_ne (fun z => q (by rw [z]; exact h))]; exact e.live b q⟩
theorem PI.setg {T : List (Addr × Str)} {H : Hp} {r g sm : Addr} {n : Nat} {gs gs2 ss : List Int} {H1 : Hp} (h : PI T H r g sm n gs ss H1) : PI T H r g sm n gs2 ss (upd H1 g (.lst (gs2.map V.int))) :=
  ⟨ex_write h.ex hm_g, Tabs.write h.tab (lst_ne h.hg).1 (lst_ne h.hg).2, by rw [upd_ne h.ne]; exact h.hr, upd_same, by rw [upd_ne h.ng]; exact h.hs, h.ne, h.nr, h.ng⟩
theorem PI.setr {T : List (Addr × Str)} {H : Hp} {r g sm : Addr} {n m : Nat} {gs ss : List Int} {H1 : Hp} (h : PI T H r g sm n gs ss H1) : PI T H r g sm m gs ss (upd H1 r (.lst [.ref g, .ref sm, .int m])) :=
  ⟨ex_write h.ex hm_r, Tabs.write h.tab (lst_ne h.hr).1 (lst_ne h.hr).2, upd_same, by rw [upd_ne h.ne.symm]; exact h.hg, by rw [upd_ne h.nr]; exact h.hs, h.ne, h.nr, h.ng⟩
theorem dp_ints {K : PySem.W.Frag} {H : Hp} : ∀ l : List Int, DpAll K H (l.map V.int) (l.map PyData.int)
  | [] => .nil
  | i :: l => .cons (.int i) (dp_ints l)
theorem ints_get {l : List Int} {i : Nat} {x : Int} (h : l[i]? = some x) : (l.map V.int)[i]? = some (.int x) := by rw [List.getElem?_map, h]; rfl
theorem ix_nat {n j : Nat} (hj : j < n) : ixN n (j : Int) = some j := by
  unfold ixN
  rw [if_pos (by omega), if_pos (by omega)]
  simp
abbrev spPull (K : PySem.W.Frag) (T : List (Addr × Str)) : Sp := SpR K T (fun i : Nat => [dI (i : Nat)]) (fun i => 1 ≤ i ∧ i ≤ 100000) (fun _ => 1) (fun i x => ∃ v : Nat, v < i ∧ x = dI (v : Nat))
section
variable {P : Program} {w : World} {K : PySem.W.Frag} {mg : Str → Option Value} {base : Heap} {T : List (Addr × Str)}
theorem sc__law_pull : FnScope ["_law_reel_here", "_law_many", "_law_rest", "_law_turn", "_law_mixed_here"] ["_law_reel_here", "_law_many"] (defScope sLawPull) := ⟨rfl, rfl, rfl, by decide +kernel, rfl, by decide +kernel, by decide +kernel⟩
theorem ok__law_pull (W : Wd K mg) : DefOk P w K mg base "_law_pull" ["_law_reel_here", "_law_many"] 1 (spPull K T) := by
  obtain ⟨f, fd, hm, F⟩ := W.f__law_pull
  refine ⟨f, fd, hm, F.kp, F.bindsN fun _ _ _ _ _ _ us hl => match us, hl with | [_, _], _ => rfl, F.ok sc__law_pull (spr_len fun _ => rfl) fun cdv A outer s H vs Q E hr h => ?_⟩
  have nd := sc__law_pull.nd
  have hu64 := hr.units
  have hu1 := hu_of hr
  refine ⟨_, PSs.nox ((pss_cons (ps_while PassesOwn.never (pt_cmpR (op_neK (K := K) rfl hu64) (pe_ix (ix_seqK (K := K) rfl) (pv 0) pe_int (fun _ _ => rfl)) (pe_lst pa_nil) (nomark _))
    (pss_cons (ps_set (i := 2) nd rfl (by first | exact Or.inl rfl | exact Or.inr rfl) (pe_ix (ix_seqK (K := K) rfl) (pe_ix (ix_seqK (K := K) rfl) (pv 0) pe_int (fun _ _ => rfl)) pe_int (fun _ _ => rfl)))
    (pss_cons (ps_if (pt_cmpR op_gt (pv 2) pe_int (nomark _))
    (pss_cons (ps_asg (pe_op op_fdiv (pv 2) (pv 1)) (pg_sub (pe_ix (ix_seqK (K := K) rfl) (pv 0) pe_int (fun _ _ => rfl)) pe_int set_list))
    (pss_one (ps_ret (pe_op op_mod (pe_callTy (call_int1) rfl W.b_int boot_int (pa_cons (pv 2) pa_nil)) (pv 1)))))
    pss_nil)
    (pss_one (ps_expr (pe_bm PySem.F.plainAttrs_list PySem.F.slot_list_pop PySem.F.type_list_pop mt_popAt (pe_ix (ix_seqK (K := K) rfl) (pv 0) pe_int (fun _ _ => rfl)) (pa_cons pe_int pa_nil)))))))
    (pss_cons (ps_asg (pe_op (op_addK (K := K) rfl) (pe_ix (ix_seqK (K := K) rfl) (pv 0) pe_int (fun _ _ => rfl)) pe_int) (pg_sub (pv 0) pe_int set_list))
    (pss_cons (ps_set (i := 3) nd rfl (by first | exact Or.inl rfl | exact Or.inr rfl) (pe_ix (ix_seqK (K := K) rfl) (pv 0) pe_int (fun _ _ => rfl)))
    (pss_cons (ps_set (i := 4) nd rfl (by first | exact Or.inl rfl | exact Or.inr rfl) (pe_op op_mod (pe_callTy (call_int1) rfl W.b_int boot_int (pa_cons (pe_ix (ix_seqK (K := K) rfl) (pe_ix (ix_seqK (K := K) rfl) (pv 0) pe_int (fun _ _ => rfl)) (pe_op op_mod (pe_callTy (call_int1) rfl W.b_int boot_int (pa_cons (pv 3) pa_nil)) (pe_callB (cr_lenK (K := K) rfl) rfl W.b_len boot_len (pa_cons (pe_ix (ix_seqK (K := K) rfl) (pv 0) pe_int (fun _ _ => rfl)) pa_nil))) (fun _ _ => rfl)) pa_nil)) pe_int))
    (pss_cons (ps_set (i := 4) nd rfl (by first | exact Or.inl rfl | exact Or.inr rfl) (pe_op (op_addK (K := K) rfl) (pe_op (op_addK (K := K) rfl) (pe_op op_mul (pv 4) (pe_op (op_addK (K := K) rfl) pe_int (pe_op op_mul pe_int (pv 3)))) (pe_op op_mul (pe_op op_mul pe_int (pv 3)) (pv 3))) pe_int))
    (pss_cons (ps_set (i := 4) nd rfl (by first | exact Or.inl rfl | exact Or.inr rfl) (pe_op (op_addK (K := K) rfl) (pe_op op_mod (pe_callTy (call_int1) rfl W.b_int boot_int (pa_cons (pe_op op_mul (pv 4) (pv 4)) pa_nil)) pe_int) (pe_op op_mul pe_int (pv 3))))
    (pss_one (ps_ret (pe_op op_mod (pe_op op_fdiv (pe_op op_mod (pe_callTy (call_int1) rfl W.b_int boot_int (pa_cons (pe_op op_mul (pv 4) (pv 4)) pa_nil)) pe_int) pe_int) (pv 1))))))))))), ?_⟩
  obtain ⟨B, many, r, g, sm, k, ws, e, sub, tab, hbr, hbg, ⟨n, gs, ss, h1, h2, h3, h4, h5, h6, h7, h8, h9, h10⟩, da, ⟨m1, m2⟩, fin⟩ := h
  subst e
  cases da with
  | cons d1 dn =>
  cases dn
  cases d1
  have p0 : PI T H r g sm n gs ss H := ⟨ex_hm H r g, tab, h1, h2, sub _ _ h4, h3, fun z => (by rw [z, hbr] at h4; cases h4), fun z => (by rw [z, hbg] at h4; cases h4)⟩
  have hext : ∀ {H1 : Hp}, (ext B H H1) sm = H1 sm := ext_old (by rw [h4]; exact fun z => by cases z)
  have done : ∀ {H1 : Hp} {n1 : Nat} {gs1 : List Int} {v : Nat}, PI T H r g sm n1 gs1 ss H1 → n1 + k ≤ 30000 → gs1.length ≤ 100 → (∀ i ∈ gs1, 0 ≤ i) → v < many → Q (.int (v : Int)) H1 := fun {H1 n1 gs1 v} p q1 q2 q3 q4 =>
    fin _ H1 (dI (v : Nat)) p.ex p.tab ⟨n1, gs1, ss, p.hr, p.hg, p.ne, by rw [hext]; exact p.hs, q1, q2, q3, h8, h9, h10⟩ (Dp.int _) ⟨v, q4, rfl⟩
  refine ⟨fun m σ H1 => ∃ gs1 z, m = gs1.length ∧ gs1.length ≤ 100 ∧ (∀ i ∈ gs1, 0 ≤ i) ∧ σ = [some (.ref r), some (.int (many : Nat)), z, none, none] ∧ PI T H r g sm n gs1 ss H1, ⟨_, gs, none, rfl, h6, h7, rfl, p0⟩, ?_⟩
  rintro m σ H1 ⟨gs1, z, rfl, g1, g2, rfl, p⟩
  refine ⟨_, rfl, .inl ⟨r, _, 0, _, rfl, rfl, SqL.of p.hr, rfl, ?_⟩⟩
  refine ⟨(by decide), fun l hl => ?_⟩
  have p' := p.new (o := .lst []) hl
  refine ⟨.list (gs1.map .int), .list [], .lst (SqL.of p'.hg) (dp_ints gs1), .lst (SqL.of upd_same) .nil, .inr shal_nil, _, rfl, ?_⟩
  rw [if_pos rfl, eqv_nil]
  cases gs1 with
  | cons x gr =>
    have hx := g2 x (by simp)
    have at0 : atI ((x :: gr).map V.int) 0 = some (.int x) := atI_nat (j := 0) rfl
    have ix0 : ixN ((x :: gr).map V.int).length 0 = some 0 := ix_nat (j := 0) (by simp)
    refine ⟨_, fun σ' H' q => q, ?_⟩
    refine ⟨_, rfl, .inl ⟨r, _, 0, _, rfl, rfl, SqL.of p'.hr, rfl, .inl ⟨g, _, 0, .int x, rfl, rfl, SqL.of p'.hg, at0, ?_⟩⟩⟩
    refine ⟨_, rfl, _, _, rfl, rfl, _, rfl, ?_⟩
    by_cases hp : 0 < x
    · rw [decide_eq_true hp]
      refine ⟨_, rfl, _, rfl, x, many, rfl, rfl, ⟨by omega, by omega⟩, _, rfl, .inl ⟨r, _, 0, _, rfl, rfl, SqL.of p'.hr, rfl, g, _, 0, 0, rfl, rfl, p'.hg, ix0, ?_⟩⟩
      have p2 := p'.setg (gs2 := (x / (many : Int)) :: gr)
      refine ⟨_, rfl, .inl ⟨x, rfl, _, rfl, x, many, rfl, rfl, (by omega), ?_⟩⟩
      obtain ⟨v, hv⟩ := Int.eq_ofNat_of_zero_le (Int.emod_nonneg x (b := (many : Int)) (by omega))
      have hlt := Int.emod_lt_of_pos x (b := (many : Int)) (by omega)
      show Q (.int (x % (many : Int))) _
      rw [hv]
      refine done p2 (by dsimp only at h5; omega) (by simpa using g1) (fun i hi => ?_) (by omega)
      rcases List.mem_cons.mp hi with q | q
      · rw [q]; exact Int.ediv_nonneg hx (by omega)
      · exact g2 i (List.mem_cons_of_mem _ q)
    · rw [decide_eq_false hp]
      refine ⟨_, rfl, .inl ⟨r, _, 0, _, rfl, rfl, SqL.of p'.hr, rfl, ?_⟩⟩
      refine ⟨.inl ⟨rfl, _, SqL.of p'.hg⟩, g, _, 0, 0, .int x, rfl, rfl, p'.hg, (by decide), (by decide), (ixN_seq ix0).1, rfl, ?_⟩
      have p2 := p'.setg (gs2 := gr)
      exact ⟨gr.length, by rw [List.length_cons]; omega, gr, _, rfl, by rw [List.length_cons] at g1; omega, fun i hi => g2 i (List.mem_cons_of_mem _ hi), rfl, p2⟩
  | nil =>
    rw [if_neg (by decide)]
    refine ⟨_, rfl, .inl ⟨r, _, 2, _, rfl, rfl, SqL.of p'.hr, rfl, .inl ⟨(n : Int), 1, rfl, rfl, _, rfl, r, _, 2, 2, rfl, rfl, p'.hr, rfl, ?_⟩⟩⟩
    have p2 := p'.setr (m := n + 1)
    refine ⟨_, rfl, .inl ⟨r, _, 2, _, rfl, rfl, SqL.of p2.hr, rfl, ?_⟩⟩
    have hlen : 0 < ss.length := List.length_pos_iff.mpr h8
    obtain ⟨y, hy⟩ : ∃ y, ss[(n + 1) % ss.length]? = some y := ⟨_, List.getElem?_eq_getElem (Nat.mod_lt _ hlen)⟩
    have hy0 := h10 y (List.mem_of_getElem? hy)
    have aty : atI (ss.map V.int) (((n + 1 : Nat) : Int) % ((ss.map V.int).length : Int)) = some (.int y) := by
      rw [List.length_map, ← Int.natCast_emod]
      exact atI_nat (ints_get hy)
    have y1 := Int.emod_nonneg y (b := 2147483629) (by decide)
    have y2 := Int.emod_lt_of_pos y (b := 2147483629) (by decide)
    refine ⟨_, rfl, .inl ⟨r, _, 1, _, rfl, rfl, SqL.of p2.hr, rfl, ?_⟩⟩
    refine ⟨_, rfl, .inl ⟨((n + 1 : Nat) : Int), rfl, _, rfl, .inl ⟨r, _, 1, _, rfl, rfl, SqL.of p2.hr, rfl, _, _, rfl, .inl ⟨_, SqL.of p2.hs, rfl⟩, _, _, rfl, rfl, (by rw [List.length_map]; omega), .inl ⟨sm, _, _, _, rfl, rfl, SqL.of p2.hs, aty, ?_⟩⟩⟩⟩
    obtain ⟨m, hm⟩ : ∃ m, m = y % 2147483629 := ⟨_, rfl⟩
    rw [← hm] at y1 y2
    refine .inl ⟨_, rfl, _, _, rfl, rfl, (by show (0 : Int) < 2147483629; decide), ?_⟩
    show tSeq _ _ _ ([some (.ref r), some (.int (many : Nat)), z, some (.int ((n + 1 : Nat) : Int)), some (.int (y % 2147483629))]) _
    rw [← hm]
    obtain ⟨t, ht⟩ : ∃ t : Int, t = ((n + 1 : Nat) : Int) := ⟨_, rfl⟩
    dsimp only at h5
    have t1 : 0 ≤ t := by omega
    have t2 : t ≤ 30000 := by omega
    rw [← ht]
    refine ⟨_, rfl, ?_⟩
    refine ⟨_, rfl, _, _, rfl, rfl, .inl ⟨by decide, by decide⟩, .inl ⟨_, _, rfl, rfl, ?_⟩⟩
    refine ⟨_, _, rfl, rfl, .inl ⟨by omega, by omega⟩, ?_⟩
    refine ⟨_, rfl, _, _, rfl, rfl, .inl ⟨by decide, by decide⟩, _, rfl, _, _, rfl, rfl, .inl ⟨by omega, by omega⟩, .inl ⟨_, _, rfl, rfl, .inl ⟨_, _, rfl, rfl, ?_⟩⟩⟩
    obtain ⟨q, hq⟩ : ∃ q : Int, q = m * (48271 + 69621 * t) + 40692 * t * t + 59 := ⟨_, rfl⟩
    show tSeq _ _ _ ([some (.ref r), some (.int (many : Nat)), z, some (.int t), some (.int (m * (48271 + 69621 * t) + 40692 * t * t + 59))]) _
    rw [← hq]
    have a1 : m * (48271 + 69621 * t) ≤ 2147483629 * 2088678271 := Int.mul_le_mul (by omega) (by omega) (by omega) (by decide)
    have a2 : 0 ≤ m * (48271 + 69621 * t) := Int.mul_nonneg (by omega) (by omega)
    have a3 : 40692 * t * t ≤ 1220760000 * 30000 := Int.mul_le_mul (by omega) (by omega) (by omega) (by decide)
    have a4 : 0 ≤ 40692 * t * t := Int.mul_nonneg (by omega) (by omega)
    have q1 : 0 ≤ q := by omega
    have q2 : q < 2 ^ 64 := by omega
    clear hq a1 a2 a3 a4
    have e1 := Int.emod_nonneg (q * q) (b := 2305843009213693951) (by decide)
    have e2 := Int.emod_lt_of_pos (q * q) (b := 2305843009213693951) (by decide)
    refine ⟨_, rfl, _, rfl, _, _, rfl, rfl, .inl ⟨by omega, by omega⟩, .inl ⟨_, rfl, _, _, rfl, rfl, (by show (0 : Int) < 2305843009213693951; decide), ?_⟩⟩
    obtain ⟨u, hu⟩ : ∃ u : Int, u = q * q % 2305843009213693951 := ⟨_, rfl⟩
    refine ⟨_, rfl, _, _, rfl, rfl, .inl ⟨by decide, by decide⟩, .inl ⟨_, _, rfl, rfl, ?_⟩⟩
    dsimp only
    rw [← hu] at e1 e2 ⊢
    have u1 : 0 ≤ u + 16807 * t := by omega
    have u2 : u + 16807 * t < 2 ^ 64 := by omega
    generalize u + 16807 * t = v at u1 u2 ⊢
    refine ⟨_, rfl, _, rfl, _, _, rfl, rfl, .inl ⟨by omega, by omega⟩, .inl ⟨_, rfl, _, _, rfl, rfl, (by show (0 : Int) < 2305843009213693951; decide), ?_⟩⟩
    refine ⟨_, _, rfl, rfl, ⟨by decide, by decide⟩, _, rfl, _, _, rfl, rfl, (by show (0 : Int) < (many : Int); omega), ?_⟩
    obtain ⟨z1, hz⟩ := Int.eq_ofNat_of_zero_le (Int.emod_nonneg (v * v % 2305843009213693951 / 4099) (b := (many : Int)) (by omega))
    have hlt := Int.emod_lt_of_pos (v * v % 2305843009213693951 / 4099) (b := (many : Int)) (by omega)
    show Q (.int (v * v % 2305843009213693951 / 4099 % (many : Int))) _
    rw [hz]
    exact done p2 (by omega) (by simp) (by simp) (by omega)
end
end My
end P16_
section DL31_
set_option maxHeartbeats 1000000
namespace My
open PySem PySem.Spec PyProof.Rows L2 LamX
section
variable {c : Ctx} {Γ : Env'} {P : Post} {B H : Hp} {σ : List (Option V)}
/-- a fresh list, owned by no slot -/
structure NewL (c : Ctx) (B H : Hp) (σ : List (Option V)) (Γ : Env') (D : Addr) (ds : List PyData) : Prop where
  at_ : ∃ ws, H D = some (.lst ws) ∧ DpAll c.K B ws ds
  no : B D = none
  free : Free c D
  own : ∀ (j : Nat) (v : Option V) (x : Cell), σ[j]? = some v → Γ[j]? = some x → ¬ Owns c v x D
theorem env_put {D : Addr} {ds : List PyData} {i : Nat} (E : EnvOk c B H σ Γ) (h : NewL c B H σ Γ D ds) (hi : i < σ.length) : EnvOk c B H (σ.set i (some (.ref D))) (Γ.set i (.oL ds)) := by
  obtain ⟨⟨ws, hH, da⟩, hB, hF, no⟩ := h
  refine ⟨by rw [List.length_set, List.length_set]; exact E.len, fun j w z h1 h2 => ?_, fun j k w u z t b hjk h1 h2 h3 h4 o1 o2 => ?_⟩
  · by_cases hj : j = i
    · subst hj
      rw [List.getElem?_set_self hi] at h1
      rw [List.getElem?_set_self (by rw [← E.len]; exact hi)] at h2
      cases h1; cases h2
      exact ⟨D, ws, rfl, hH, hB, hF, da⟩
    · rw [List.getElem?_set_ne (Ne.symm hj)] at h1 h2
      exact E.at_ j w z h1 h2
  · by_cases hj : j = i
    · subst hj
      rw [List.getElem?_set_self hi] at h1
      rw [List.getElem?_set_self (by rw [← E.len]; exact hi)] at h2
      rw [List.getElem?_set_ne hjk] at h3 h4
      cases h1; cases h2
      rw [ref_inj o1] at o2
      exact no k u t h3 h4 o2
    · rw [List.getElem?_set_ne (Ne.symm hj)] at h1 h2
      by_cases hk : k = i
      · subst hk
        rw [List.getElem?_set_self hi] at h3
        rw [List.getElem?_set_self (by rw [← E.len]; exact hi)] at h4
        cases h3; cases h4
        rw [ref_inj o2] at o1
        exact no j w z h1 h2 o1
      · rw [List.getElem?_set_ne (Ne.symm hk)] at h3 h4
        exact E.sep j k w u z t b hjk h1 h2 h3 h4 o1 o2
/-- an expression that gives a fresh list -/
def EN (c : Ctx) (te : TE) (Γ : Env') (P : List PyData → Env' → Prop) : Prop :=
  ∀ (σ : List (Option V)) (B H : Hp), Cur c B H → EnvOk c B H σ Γ → ∀ Q : L2.VK, (∀ D B1 H1 ds Γ1, Cur c B1 H1 → Ex B B1 → EnvOk c B1 H1 σ Γ1 → Γ1.length = Γ.length → NewL c B1 H1 σ Γ1 D ds → P ds Γ1 → Q (.ref D) H1) → te σ H Q
theorem newL_upd {p : Addr} {ws : List V} {ds : List PyData} (C : Cur c B H) (E : EnvOk c B H σ Γ) (hp : H p = none) (da : DpAll c.K B ws ds) : Cur c B (upd H p (.lst ws)) ∧ EnvOk c B (upd H p (.lst ws)) σ Γ ∧ NewL c B (upd H p (.lst ws)) σ Γ p ds := by
  have old : ∀ (j : Nat) (v : Option V) (x : Cell), σ[j]? = some v → Γ[j]? = some x → ¬ Owns c v x p := fun j v x h1 h2 o => owns_live (E.at_ j v x h1 h2) o hp
  exact ⟨cur_new C hp, ⟨E.len, fun i v x h1 h2 => (E.at_ i v x h1 h2).other (old i v x h1 h2), E.sep⟩, ⟨ws, upd_same, da⟩, C.sub.none hp, new_free C hp, old⟩
theorem en_nil {P : List PyData → Env' → Prop} (h : P [] Γ) : EN c (tLst tNil) Γ P := fun σ B H C E Q q => by
  refine ⟨(by decide), fun p hp => ?_⟩
  obtain ⟨C1, E1, n1⟩ := newL_upd (ws := []) (ds := []) C E hp .nil
  exact q p B _ [] Γ C1 (Ex.refl _) E1 rfl n1 h
theorem en_list {K : PySem.W.Frag} {te : TE} {P : List PyData → Env' → Prop} (hK : c.K = K) (h : EE c te Γ fun x Γ1 => ∃ ds, (x = dL ds ∨ x = dT ds) ∧ P ds Γ1) : EN c (tCB (rLstOf K) (tCons te tNil)) Γ P := fun σ B H C E Q q => by
  subst hK
  refine h σ B H C E _ fun v B1 H1 x Γ1 s1 d1 ⟨ds, e, p⟩ => ?_
  have fin : ∀ {a : Addr} {ws : List V}, DpAll c.K B1 ws ds → (SqL c.K H1 a ws ∨ SqT c.K H1 a ws) → v = .ref a → rLstOf c.K [v] H1 Q := fun {a ws} da sq ev => by
    subst ev
    refine ⟨a, ws, rfl, sq, fun l hl => ?_⟩
    obtain ⟨C1, E1, n1⟩ := newL_upd s1.cur s1.env hl da
    exact q l B1 _ ds Γ1 C1 s1.b E1 s1.rl.len n1 p
  rcases e with e | e
  · subst e
    cases d1 with
    | lst sq da => exact fin da (.inl (sqL_mono s1.cur.sub.ex sq)) rfl
  · subst e
    cases d1 with
    | tup sq da => exact fin da (.inr (sqT_mono s1.cur.sub.ex sq)) rfl
theorem en_lc {wi : TI} {g : TG} {tt : TT} {te : TE} {vs : List Nat} {P : List PyData → Env' → Prop}
    (h : WI c wi Γ fun ds Γ0 => ds.length ≤ 900000 ∧ ∃ I : Nat → List PyData → Env' → Prop, I 0 [] Γ0 ∧ (∀ i d acc Γ1, ds[i]? = some d → I i acc Γ1 → LT c g tt te vs I i d acc Γ1) ∧ ∀ acc Γ1, I ds.length acc Γ1 → P acc Γ1) : EN c (tLc wi g tt te vs) Γ P := fun σ B0 H0 C0 E0 Q q => by
  refine h σ B0 H0 C0 E0 _ fun J B1 H1 Γ0 ds s0 ⟨G, Y, w, hg, hy⟩ ⟨hz, I, i0, turn, fin⟩ D hD => ?_
  have hDr : D ∉ c.rs := fun z => (s0.cur.reel D z).1 hD
  have hD0 := new_out s0.cur hD
  refine lc_it w (LcI c B1 H1 σ D Γ0 I) ⟨B1, Γ0, [], lc_new s0.cur s0.env hD, Nat.le_refl _, Rl.refl _, i0⟩ (fun m H' _ ⟨B', Γ', acc, p, _⟩ => hg B' H' p.cur p.b) ?_ ?_
  · rintro m y H' H'' hm ⟨B', Γ', acc, p, hl, rl, i'⟩ hY
    obtain ⟨B3, d, st, hd, dp⟩ := hy m B' H' y H'' hm p.cur p.b hY
    exact lc_turn hDr hD0 (by omega) hl rl (p.step st) dp (turn m d acc Γ' hd i')
  · rintro H' ⟨B', Γ', acc, p, hl, rl, i'⟩
    obtain ⟨hnew, C, b, E, at_, hB, keep, live, out, free⟩ := p
    exact q D B' H' acc Γ' C (s0.b.trans b) E (rl.len.trans s0.rl.len) ⟨at_, hB, ⟨hD0, hDr⟩, free⟩ (fin acc Γ' i')
theorem ss_setN {te : TE} {i : Nat} (hi : i < Γ.length) (h : EN c te Γ fun ds Γ1 => P.nx (Γ1.set i (.oL ds))) : SS c (tAsg te (gName i)) Γ P := fun σ B H D C E n r b k =>
  h σ B H C E _ fun p B1 H1 ds Γ1 C1 b1 E1 hl nl q => n _ B1 H1 _ C1 b1 (env_put E1 nl (by rw [E.len]; exact hi)) q
/-- a, b = an own list, [] -/
theorem ss_parN {ta : TE} {i j : Nat} (hij : i ≠ j) (hi : i < Γ.length) (hj : j < Γ.length) (h : EN c ta Γ fun ds Γ1 => P.nx ((Γ1.set i (.oL ds)).set j (.oL []))) : SS c (tPar i j (tCons ta (tCons (tLst tNil) tNil))) Γ P := fun σ B H D C E n r b k =>
  h σ B H C E _ fun p B1 H1 ds Γ1 C1 b1 E1 hl nl q => by
    refine ⟨(by decide), fun l hl2 => ⟨_, _, rfl, ?_⟩⟩
    have E2 := env_put (i := i) E1 nl (by rw [E.len]; exact hi)
    exact n _ B1 _ _ (cur_new C1 hl2) b1 (E2.setOwn (i := j) (x := .oL []) hl2 (by rw [List.length_set, E.len]; exact hj) ⟨l, [], rfl, upd_same, C1.sub.none hl2, new_free C1 hl2, .nil⟩ fun b hb => ref_inj hb) q
/-- a, b = data, [] -/
theorem ss_parD {ta : TE} {i j : Nat} (hj : j < Γ.length) (h : EE c ta Γ fun x Γ1 => P.nx ((Γ1.set i (.dat x)).set j (.oL []))) : SS c (tPar i j (tCons ta (tCons (tLst tNil) tNil))) Γ P := fun σ B H D C E n r b k =>
  h σ B H C E _ fun v B1 H1 x Γ1 s1 d1 q => by
    refine ⟨(by decide), fun l hl2 => ⟨_, _, rfl, ?_⟩⟩
    have E2 := s1.env.set (i := i) d1
    exact n _ B1 _ _ (cur_new s1.cur hl2) s1.b (E2.setOwn (i := j) (x := .oL []) hl2 (by rw [List.length_set, E.len]; exact hj) ⟨l, [], rfl, upd_same, s1.cur.sub.none hl2, new_free s1.cur hl2, .nil⟩ fun b hb => ref_inj hb) q
theorem oL_ne {a : Addr} {ds : List PyData} {es : List PyData} {b : Addr} {i j : Nat} (E : EnvOk c B H σ Γ) (hij : i ≠ j) (h1 : σ[i]? = some (some (.ref a))) (h2 : Γ[i]? = some (.oL ds)) (h3 : σ[j]? = some (some (.ref b))) (h4 : Γ[j]? = some (.oL es)) : a ≠ b := fun z => by
  subst z
  exact E.sep i j _ _ _ _ a hij h1 h2 h3 h4 rfl rfl
/-- xs.append(ys.pop(e)), both own -/
theorem ss_appPop {te : TE} {i j : Nat} (hij : i ≠ j) {ds0 es0 : List PyData} (h0i : Γ[i]? = some (.oL es0)) (h0j : Γ[j]? = some (.oL ds0))
    (h : EE c te Γ fun x Γ1 => ∃ (k : Nat) (d : PyData) (ds es : List PyData), x = dI (k : Nat) ∧ Γ1[j]? = some (.oL ds) ∧ Γ1[i]? = some (.oL es) ∧ ds[k]? = some d ∧ ds.length < 1000000 ∧ es.length < 1000000 ∧ P.nx ((Γ1.set j (.oL (ds.eraseIdx k))).set i (.oL (es ++ [d])))) :
    SS c (tDrop (tBM c.K "list" rAppend (tVar i) (tCons (tBM c.K "list" rPopAt (tVar j) (tCons te tNil)) tNil))) Γ P := fun σ B H D C E n r b k => by
  obtain ⟨a0, ws0, hv0, hH0, _⟩ := env_oL E h0i
  obtain ⟨b0, us0, hu0, hG0, _⟩ := env_oL E h0j
  refine ⟨.ref a0, hv0, .inl ⟨rfl, _, SqL.of hH0⟩, ?_⟩
  refine ⟨.ref b0, hu0, .inl ⟨rfl, _, SqL.of hG0⟩, ?_⟩
  refine h σ B H C E _ fun v B1 H1 x Γ1 s1 d1 ⟨k, d, ds, es, e, h1, h2, hk, hl1, hl2, p⟩ => ?_
  have E1 := s1.env
  have C1 := s1.cur
  have b1 := s1.b
  subst e
  cases d1
  obtain ⟨a, ws, hv, hH, hB, hF, da⟩ := env_oL E1 h2
  obtain ⟨y, us, hu, hG, hBy, hFy, du⟩ := env_oL E1 h1
  have ea : a0 = a := V.ref.inj (same_ref hv0 hv)
  subst ea
  have eb : b0 = y := V.ref.inj (same_ref hu0 hu)
  subst eb
  have ne : a0 ≠ b0 := oL_ne E1 hij hv h2 hu h1
  obtain ⟨x, hx, dx⟩ := DpAll.get' du hk
  have hkl : k < us.length := (List.getElem?_eq_some_iff.mp hx).1
  have lim : us.length < 1000000 := by rw [DpAll.length du]; exact hl1
  have ix : ixN us.length (k : Int) = some k := by
    unfold ixN
    rw [if_pos (by omega), if_pos (by omega)]
    simp
  refine ⟨b0, us, k, k, x, rfl, rfl, hG, (by omega), (by omega), (ixN_seq ix).1, hx, ?_⟩
  refine ⟨a0, ws, x, rfl, rfl, by rw [upd_ne ne]; exact hH, Nat.lt_of_lt_of_le (by rw [DpAll.length da]; exact hl2) (by decide), ?_⟩
  have E2 := E1.write (y := .oL (ds.eraseIdx k)) (o := .lst (us.eraseIdx k)) hu h1 rfl ⟨b0, _, rfl, upd_same, hBy, hFy, DpAll.eraseIdx k du⟩ fun b hb => hb
  have C2 := cur_write (o := .lst (us.eraseIdx k)) C1 hBy hFy.1 (lst_ne hG).1 (lst_ne hG).2
  have h2' : (Γ1.set j (.oL (ds.eraseIdx k)))[i]? = some (.oL es) := by rw [List.getElem?_set_ne (Ne.symm hij)]; exact h2
  have hH2 : (upd H1 b0 (.lst (us.eraseIdx k))) a0 = some (.lst ws) := by rw [upd_ne ne]; exact hH
  exact n σ B1 _ _ (cur_write C2 hB hF.1 (lst_ne hH2).1 (lst_ne hH2).2) b1 (E2.write (y := .oL (es ++ [d])) hv h2' rfl ⟨a0, _, rfl, upd_same, hB, hF, DpAll.append da (.cons dx .nil)⟩ fun b hb => hb) p
/-- xs[k] = e, xs an own list -/
theorem ss_setItem {te tk : TE} {i : Nat}
    (h : EE c te Γ fun x Γ1 => ∃ d ds, x = .val d ∧ Γ1[i]? = some (.oL ds) ∧ EE c tk Γ1 fun y Γ2 => ∃ k : Nat, y = dI (k : Nat) ∧ k < ds.length ∧ P.nx (Γ2.set i (.oL (ds.set k d)))) : SS c (tAsg te (gSub (tVar i) tk rSetL)) Γ P := fun σ B H D C E n r b k => by
  refine h σ B H C E _ fun v B1 H1 x Γ1 s1 d1 ⟨d, ds, e, h1, h2⟩ => ?_
  subst e
  obtain ⟨a, ws, hv, hH, hB, hF, da⟩ := env_oL s1.env h1
  refine ⟨.ref a, hv, ?_⟩
  refine h2 σ B1 H1 s1.cur s1.env _ fun u B2 H2 y Γ2 s2 d2 ⟨k, e2, hk, p⟩ => ?_
  subst e2
  cases d2
  have h1' := rl_oL s2.rl h1
  obtain ⟨a', ws', hv', hH', hB', hF', da'⟩ := env_oL s2.env h1'
  have ea : a = a' := V.ref.inj (same_ref hv hv')
  subst ea
  have hkl : k < ws'.length := by rw [DpAll.length da']; exact hk
  have ix : ixN ws'.length (k : Int) = some k := by
    unfold ixN
    rw [if_pos (by omega), if_pos (by omega)]
    simp
  refine ⟨a, ws', k, k, rfl, rfl, hH', ix, ?_⟩
  exact n σ B2 _ _ (cur_write s2.cur hB' hF'.1 (lst_ne hH').1 (lst_ne hH').2) (s1.b.trans s2.b) (s2.env.write (y := .oL (ds.set k d)) hv' h1' rfl ⟨a, _, rfl, upd_same, hB', hF', DpAll.set k da' (DatOk.mono (x := .val d) s2.b d1)⟩ fun b hb => hb) p
/-- fewer draws are told -/
theorem ss_reelLe {t : TS} {j m m' : Nat} (h0 : Γ[j]? = some (.reel m)) (hm : m' ≤ m) (h : SS c t (Γ.set j (.reel m')) P) : SS c t Γ P := fun σ B H D C E n r b k =>
  h σ B H D C (E.weak h0 (fun v hv q => by
    cases v with
    | none => exact q
    | some v =>
      obtain ⟨r, g, e1, e2, e3, e4, e5, e6, e7⟩ := q
      exact ⟨r, g, e1, e2, e3, e4, e5, e6, e7.le hm⟩) fun v b o => o) n r b k
theorem ss_cut {t u : TS} (M : Env' → Prop) (h : SS c t Γ { P with nx := M }) (k : ∀ Γ1, M Γ1 → SS c u Γ1 P) : SS c (tSeq t u) Γ P :=
  ss_seq (h.imp k (fun _ _ h => h) (fun _ h => h) (fun _ h => h))
/-- holds whatever stands -/
def Flat (K : PySem.W.Frag) (x : Dat) : Prop := ∀ (B B' : Hp) (v : V), DatOk K B v x → DatOk K B' v x
theorem flat_str {K : PySem.W.Frag} {s : Str} : Flat K (dS s) := fun B B' v h => by
  cases h
  exact Dp.str s
theorem flat_int {K : PySem.W.Frag} {s : Int} : Flat K (dI s) := fun B B' v h => by
  cases h
  exact Dp.int s
theorem ee_callRO {K : PySem.W.Frag} {T : List (Addr × Str)} {ι : Type} {args : ι → List Dat} {pre : ι → Prop} {cost : ι → Nat} {post : ι → Dat → Prop} {P : Dat → Env' → Prop} {E' : XK} {j l m k : Nat} {ds : List PyData} (i : ι) (hT : c.T = T) (hK : c.K = K) (h0 : Γ[j]? = some (.reel m)) (h1 : Γ[l]? = some (.oL ds))
    (ha : args i = [dL ds]) (hp : pre i) (hk : k + cost i ≤ m) (h : ∀ x, post i x → Flat K x ∧ P x (Γ.set j (.reel k))) :
    EE c (tCall (SpR K T args pre cost post) [] E' (tCons (tVar j) (tCons (tVar l) tNil))) Γ P := fun σ B H C E Q q => by
  subst hT hK
  obtain ⟨r, g, hrg, hv, hr, hg, h0r, h0g, ra⟩ := reel_get E h0
  obtain ⟨a, ws, hva, hH, hB, hF, da⟩ := env_oL E h1
  refine ⟨_, hv, _, hva, ?_⟩
  show SpR c.K c.T args pre cost post ([V.ref r, V.ref a] ++ []) H Q E'
  rw [List.append_nil]
  have mem : ∀ {a : Addr}, a ∉ c.rs ↔ a ≠ r ∧ a ≠ g := fun {a} => by unfold Ctx.rs; rw [hrg]; simp
  have nr := mem.mp hF.2
  have ex : Ex B (withB B a (.lst ws)) := Ex.new hB
  have C' := cur_withB C hB hH hF.1 hF.2
  have hsm : B c.sm ≠ none := by
    obtain ⟨n, gs, ss, q1, q2, q3, q4, _⟩ := ra
    rw [q4]
    exact fun z => by cases z
  refine ⟨withB B a (.lst ws), i, r, g, c.sm, k, [.ref a], rfl, C'.sub, C'.tab, (upd_ne (Ne.symm nr.1)).trans hr, (upd_ne (Ne.symm nr.2)).trans hg, (ra.mono ex (Ex.refl _)).le hk, ?_, hp, fun v H2 x ex2 tab ra2 d2 po => ?_⟩
  · rw [ha]
    exact .cons (Dp.lst (SqL.of upd_same) (DpAll.mono ex da)) .nil
  · obtain ⟨fl, fin⟩ := h x po
    have ra3 : ReelAt (ext B H H2) H2 r g c.sm k := by
      obtain ⟨n, gs, ss, q1, q2, q3, q4, q5⟩ := ra2
      refine ⟨n, gs, ss, q1, q2, q3, ?_, q5⟩
      rw [ext_old hsm]
      rw [ext_old (ex.live _ hsm)] at q4
      exact q4
    exact q v _ H2 x _ (reel_after C E h0 hrg ex2 tab ra3) (fl _ _ v d2) fin
end
end My
end DL31_
section DL32_
set_option maxHeartbeats 1000000
namespace My
open PySem PySem.Spec PyProof.Rows L2 LamX
/-- names joined by dots -/
def jn (ns : List Str) : Str := Str.join dot ns
theorem dot_ls : ls dot = [46] := rfl
theorem letters_ls : ls letters = (List.range 26).map (· + 97) := by decide +kernel
theorem name_nodot {n : Str} (h : nameOk n) : 46 ∉ ls n := fun z => by
  have := h.2.2 46 z
  rw [show letters.cps.toList = ls letters from rfl, letters_ls] at this
  revert this
  decide +kernel
/-- a path of at most so many names -/
def NP (k : Nat) (p : Str) : Prop := ∃ ns, p = jn ns ∧ ns ≠ [] ∧ ns.length ≤ k ∧ ∀ n ∈ ns, nameOk n
theorem jn_snoc {ns : List Str} {n : Str} (h : ns ≠ []) : jn (ns ++ [n]) = jn ns ++ dot ++ n := by
  show Str.join dot (ns ++ [n]) = _
  rw [FinIter.join_snoc, if_neg h]
  rfl
theorem jn_split {ns : List Str} (h : ns ≠ []) (hn : ∀ n ∈ ns, nameOk n) : Txt.split (jn ns) dot = ns := by
  have e : jn ns = Txt.join dot ns := (TL.join_eq dot ns).symm
  rw [e]
  exact TL.split_join (s := 46) (S := []) rfl (by decide +kernel) h fun p hp => name_nodot (hn p hp)
theorem jn_len : ∀ {ns : List Str}, (∀ n ∈ ns, nameOk n) → (jn ns).length ≤ 9 * ns.length
  | [], _ => Nat.le_refl _
  | [x], h => by
    have := (h x (by simp)).2.1
    show x.length ≤ _
    simp
    omega
  | x :: y :: r, h => by
    have h1 := (h x (by simp)).2.1
    have ih := jn_len (ns := y :: r) fun n hn => h n (List.mem_cons_of_mem _ hn)
    show (x ++ dot ++ Str.join dot (y :: r)).length ≤ _
    have : (Str.join dot (y :: r)).length ≤ 9 * (y :: r).length := ih
    have d1 : dot.length = 1 := rfl
    rw [Str.length_append, Str.length_append, d1]
    simp only [List.length_cons] at this ⊢
    omega
theorem NP.path {p : Str} (h : NP 6 p) : pathOk p := by
  obtain ⟨ns, rfl, ne, hl, hn⟩ := h
  have := jn_len hn
  refine ⟨by omega, ?_, ?_⟩
  · rw [jn_split ne hn]; exact hl
  · rw [jn_split ne hn]; exact hn
theorem jn_cnt : ∀ {ns : List Str}, (∀ n ∈ ns, nameOk n) → cnt 46 (ls (jn ns)) = ((ns.length - 1 : Nat) : Int)
  | [], _ => rfl
  | [x], h => cnt_none 46 _ (name_nodot (h x (by simp)))
  | x :: y :: r, h => by
    have ih := jn_cnt (ns := y :: r) fun n hn => h n (List.mem_cons_of_mem _ hn)
    show cnt 46 (ls (x ++ dot ++ Str.join dot (y :: r))) = _
    have ih : cnt 46 (ls (Str.join dot (y :: r))) = (((y :: r).length - 1 : Nat) : Int) := ih
    rw [ls_app, ls_app, cnt_append, cnt_append, cnt_none 46 _ (name_nodot (h x (by simp))), ih, dot_ls]
    have : cnt 46 [46] = 1 := by decide +kernel
    rw [this]
    simp only [List.length_cons]
    omega
theorem count_ls (p : Str) : Txt.count p dot = cnt 46 (ls p) := count_is p 46
theorem NP.rule {p : Str} (h : NP 4 p) : rulePathOk p := by
  refine ⟨NP.path (let ⟨ns, e, ne, hl, hn⟩ := h; ⟨ns, e, ne, by omega, hn⟩), ?_⟩
  obtain ⟨ns, rfl, ne, hl, hn⟩ := h
  rw [count_ls, jn_cnt hn]
  have := List.length_pos_iff.mpr ne
  omega
theorem NP.mono {k m : Nat} {p : Str} (h : NP k p) (q : k ≤ m) : NP m p := let ⟨ns, e, ne, hl, hn⟩ := h; ⟨ns, e, ne, by omega, hn⟩
theorem NP.snoc {k : Nat} {p n : Str} (h : NP k p) (hn : nameOk n) : NP (k + 1) (p ++ dot ++ n) := by
  obtain ⟨ns, rfl, ne, hl, h⟩ := h
  refine ⟨ns ++ [n], (jn_snoc ne).symm, by simp, by simp; omega, fun x hx => ?_⟩
  rcases List.mem_append.mp hx with q | q
  · exact h x q
  · simp only [List.mem_singleton] at q
    rw [q]; exact hn
theorem NP.one {n : Str} (h : nameOk n) : NP 1 n := ⟨[n], rfl, by simp, by simp, fun x hx => by simp at hx; rw [hx]; exact h⟩
theorem NP.low {k : Nat} {p : Str} (h : NP k p) (hc : Txt.count p dot < 4) : NP 4 p := by
  obtain ⟨ns, rfl, ne, hl, hn⟩ := h
  rw [count_ls, jn_cnt hn] at hc
  exact ⟨ns, rfl, ne, by omega, hn⟩
theorem NP.short {k : Nat} {p : Str} (h : NP k p) (q : k ≤ 100) : ShortS p := by
  obtain ⟨ns, rfl, ne, hl, hn⟩ := h
  have := jn_len hn
  show _ ≤ 1000
  omega
theorem cnt_nn (l : List Nat) : 0 ≤ cnt 46 l := countIn_nonneg _ _
/-- what covers another path has fewer dots -/
theorem cov_cnt {p m : Str} (h : cov p m = true) : m = p ∨ cnt 46 (ls p) < cnt 46 (ls m) := by
  rcases cov_iff.mp h with e | ⟨t, e⟩
  · exact .inl e
  · refine .inr ?_
    rw [← e, cnt_append, cnt_append, dot_ls]
    have h1 : cnt 46 [46] = 1 := by decide +kernel
    have := cnt_nn t
    omega
theorem ovl_cnt {p m : Str} (e : cnt 46 (ls p) = cnt 46 (ls m)) (ne : p ≠ m) : ovl p m = false := by
  rw [Bool.eq_false_iff]
  intro h
  rcases (Bool.or_eq_true _ _).mp h with h | h
  · rcases cov_cnt h with q | q
    · exact ne q.symm
    · omega
  · rcases cov_cnt h with q | q
    · exact ne q
    · omega
theorem cnt_name {n : Str} (h : nameOk n) : cnt 46 (ls n) = 0 := cnt_none 46 _ (name_nodot h)
/-- names that differ do not meet -/
theorem ovl_names {a b : Str} (ha : nameOk a) (hb : nameOk b) (ne : a ≠ b) : ovl a b = false := ovl_cnt (by rw [cnt_name ha, cnt_name hb]) ne
theorem cnt_two {a b : Str} (ha : nameOk a) (hb : nameOk b) : cnt 46 (ls (a ++ dot ++ b)) = 1 := by
  rw [ls_app, ls_app, cnt_append, cnt_append, cnt_name ha, cnt_name hb, dot_ls]
  decide +kernel
theorem prefix_dot {x y t : List Nat} (hx : 46 ∉ x) (hy : 46 ∉ y) (h : x ++ [46] <+: y ++ 46 :: t) : x = y := by
  induction x generalizing y with
  | nil =>
    cases y with
    | nil => rfl
    | cons b y =>
      obtain ⟨s, e⟩ := h
      have e2 : (46 : Nat) = b := by have := congrArg List.head? e; simpa using this
      exact absurd (by rw [e2]; simp) hy
  | cons a x ih =>
    cases y with
    | nil =>
      obtain ⟨s, e⟩ := h
      have e2 : a = 46 := by have := congrArg List.head? e; simpa using this
      exact absurd (by rw [← e2]; simp) hx
    | cons b y =>
      have h2 : a = b ∧ x ++ [46] <+: y ++ 46 :: t := by simpa [List.cons_prefix_cons] using h
      rw [h2.1, ih (fun z => hx (List.mem_cons_of_mem _ z)) (fun z => hy (List.mem_cons_of_mem _ z)) h2.2]
/-- a name covers a path of two names by its first one -/
theorem cov_two {n a b : Str} (hn : nameOk n) (ha : nameOk a) (h : cov n (a ++ dot ++ b) = true) : n = a := by
  rcases cov_iff.mp h with e | h
  · have := cnt_name hn
    rw [← e, ls_app, ls_app, cnt_append, cnt_append, cnt_name ha, dot_ls] at this
    have h1 : cnt 46 [46] = 1 := by decide +kernel
    have := cnt_nn (ls b)
    omega
  · rw [ls_app, ls_app, dot_ls, List.append_assoc] at h
    exact ls_inj (prefix_dot (name_nodot hn) (name_nodot ha) h)
theorem ovl_two {n a b : Str} (hn : nameOk n) (ha : nameOk a) (hb : nameOk b) (ne : n ≠ a) : ovl n (a ++ dot ++ b) = false := by
  rw [Bool.eq_false_iff]
  intro h
  rcases (Bool.or_eq_true _ _).mp h with h | h
  · exact ne (cov_two hn ha h)
  · rcases cov_cnt h with q | q
    · have := cnt_two ha hb
      rw [← q, cnt_name hn] at this
      omega
    · rw [cnt_two ha hb, cnt_name hn] at q
      omega
end My
end DL32_
section P17_
set_option maxHeartbeats 1000000
namespace My
open PySem PySem.Spec PyProof.Rows L2 LamX
def pkD : List PyData ⊕ Str → PyData
  | .inl ds => .list ds
  | .inr s => .str s
def pkPre : List PyData ⊕ Str → Prop
  | .inl ds => 1 ≤ ds.length ∧ ds.length ≤ 1000
  | .inr s => 1 ≤ s.length ∧ s.length ≤ 1000
def pkPost : List PyData ⊕ Str → Dat → Prop
  | .inl ds, x => ∃ d ∈ ds, x = .val d
  | .inr s, x => ∃ ch ∈ s.cps.toList, x = dS ⟨#[ch]⟩
abbrev spPick (K : PySem.W.Frag) (T : List (Addr × Str)) : Sp := SpR K T (fun i : List PyData ⊕ Str => [.val (pkD i)]) pkPre (fun _ => 1) pkPost
abbrev spMixed (K : PySem.W.Frag) (T : List (Addr × Str)) : Sp := SpR K T (fun i : List PyData => [dL i]) (fun i => i.length ≤ 1000) (fun i => i.length) (fun i x => ∃ es : List PyData, es.Perm i ∧ x = dL es)
theorem perm_eraseIdx {α : Type} : ∀ {l : List α} {k : Nat} {x : α}, l[k]? = some x → l.Perm (x :: l.eraseIdx k)
  | [], _, _, h => by simp at h
  | a :: l, 0, x, h => by
    simp at h
    subst h
    exact List.Perm.refl _
  | a :: l, k + 1, x, h => by
    have h : l[k]? = some x := by simpa using h
    exact (List.Perm.cons a (perm_eraseIdx h)).trans (List.Perm.swap x a _)
section
variable {P : Program} {w : World} {K : PySem.W.Frag} {mg : Str → Option Value} {base : Heap} {T : List (Addr × Str)}
theorem sc__law_pick : FnScope ["_law_reel_here", "_law_some"] ["_law_reel_here", "_law_some"] (defScope sLawPick) := ⟨rfl, rfl, rfl, by decide +kernel, rfl, by decide +kernel, by decide +kernel⟩
theorem ok__law_pick (W : Wd K mg) : DefOk P w K mg base "_law_pick" ["_law_reel_here", "_law_some"] 2 (spPick K T) := by
  obtain ⟨f, fd, hm, F⟩ := W.f__law_pick
  have D__law_pull := ok__law_pull (P := P) (w := w) (base := base) (T := T) W
  refine ⟨f, fd, hm, F.kp, F.bindsN fun _ _ _ _ _ _ us hl => match us, hl with | [_, _], _ => rfl, F.ok sc__law_pick (spr_len fun _ => rfl) fun cdv A outer s H vs Q E hr h => ?_⟩
  have nd := sc__law_pick.nd
  have hu64 := hr.units
  have hu1 := hu_of hr
  refine ⟨_, PSs.nox ((pss_one (ps_ret (pe_ix (ix_seqK (K := K) rfl) (pv 1) (pe_callD D__law_pull (hr.mono (by decide)) rfl (pa_cons (pv 0) (pa_cons (pe_callB (cr_lenK (K := K) rfl) rfl W.b_len boot_len (pa_cons (pv 1) pa_nil)) pa_nil))) (fun _ _ => rfl))))), sp_goR (fun H0 B0 rg sm i k hp => ?_) h⟩
  cases i with
  | inl ds =>
    obtain ⟨h1, h2⟩ := hp
    refine ss_ret <| ee_op <| ee_var rfl <| ee_callR rfl rfl (j := 0) rfl <| ea_cons <| ee_CB <| ea_cons <| ee_var rfl <| ea_nil <| RL1.rl <| rl_lenL <| ea_nil ⟨ds.length, k, rfl, ⟨h1, by omega⟩, ⟨_, rfl, Nat.le_refl _⟩, fun x ⟨v, hv, ex⟩ => ?_⟩
    subst ex
    have g : ds[v]? = some ds[v] := List.getElem?_eq_getElem hv
    exact ro_ixL (atI_nat g) ⟨rfl, _, List.getElem_mem hv, rfl⟩
  | inr s =>
    obtain ⟨h1, h2⟩ := hp
    refine ss_ret <| ee_op <| ee_var rfl <| ee_callR rfl rfl (j := 0) rfl <| ea_cons <| ee_CB <| ea_cons <| ee_var rfl <| ea_nil <| rl_lenS (by omega) <| ea_nil ⟨s.length, k, rfl, ⟨h1, by omega⟩, ⟨_, rfl, Nat.le_refl _⟩, fun x ⟨v, hv, ex⟩ => ?_⟩
    subst ex
    have hv' : v < s.cps.toList.length := by rw [cps_len]; exact hv
    have g : s.cps.toList[v]? = some s.cps.toList[v] := List.getElem?_eq_getElem hv'
    exact ro_ixS (by omega) (atI_nat g) ⟨rfl, _, List.getElem_mem hv', rfl⟩
theorem sc__law_mixed : FnScope ["_law_reel_here", "_law_some", "_law_rest", "_law_found", "_law_turn"] ["_law_reel_here", "_law_some"] (defScope sLawMixed) := ⟨rfl, rfl, rfl, by decide +kernel, rfl, by decide +kernel, by decide +kernel⟩
theorem ok__law_mixed (W : Wd K mg) : DefOk P w K mg base "_law_mixed" ["_law_reel_here", "_law_some"] 2 (spMixed K T) := by
  obtain ⟨f, fd, hm, F⟩ := W.f__law_mixed
  have D__law_pull := ok__law_pull (P := P) (w := w) (base := base) (T := T) W
  refine ⟨f, fd, hm, F.kp, F.bindsN fun _ _ _ _ _ _ us hl => match us, hl with | [_, _], _ => rfl, F.ok sc__law_mixed (spr_len fun _ => rfl) fun cdv A outer s H vs Q E hr h => ?_⟩
  have nd := sc__law_mixed.nd
  have hu64 := hr.units
  have hu1 := hu_of hr
  refine ⟨_, PSs.nox ((pss_cons (ps_par (i := 2) (j := 3) (by rfl) nd rfl rfl (by decide) rfl rfl (pa_cons (pe_callTy (cr_lstK (K := K) rfl) rfl W.b_list boot_list (pa_cons (pv 1) pa_nil)) (pa_cons (pe_lst pa_nil) pa_nil)) (by rfl))
    (pss_cons (ps_for PassesOwn.never rfl (pi_range1 rfl W.b_range (pa_cons (pe_callB (cr_lenK (K := K) rfl) rfl W.b_len boot_len (pa_cons (pv 1) pa_nil)) pa_nil)) (pg_name (i := 4) nd rfl (by first | exact Or.inl rfl | exact Or.inr rfl))
    (pss_one (ps_expr (pe_bm PySem.F.plainAttrs_list PySem.F.slot_list_append PySem.F.type_list_append mt_append (pv 3) (pa_cons (pe_bm PySem.F.plainAttrs_list PySem.F.slot_list_pop PySem.F.type_list_pop mt_popAt (pv 2) (pa_cons (pe_callD D__law_pull (hr.mono (by decide)) rfl (pa_cons (pv 0) (pa_cons (pe_callB (cr_lenK (K := K) rfl) rfl W.b_len boot_len (pa_cons (pv 2) pa_nil)) pa_nil))) pa_nil)) pa_nil)))))
    (pss_one (ps_ret (pv 3)))))), sp_goR (fun H0 B0 rg sm i k hp => ?_) h⟩
  have hp : i.length ≤ 1000 := hp
  refine ss_seq <| ss_parN (by decide) (by show 2 < 5; decide) (by show 3 < 5; decide) <| en_list rfl <| ee_var rfl ⟨i, .inl rfl, ?_⟩
  refine ss_seq <| ss_for (vs := [4]) <| wi_rng1 <| ea_cons <| ee_CB <| ea_cons <| ee_var rfl <| ea_nil <| RL1.rl <| rl_lenL <| ea_nil ⟨i.length, by omega, rfl, fun j Γ1 => ∃ ds es z, Γ1 = [.reel (k + (i.length - j)), cV (dL i), .oL ds, .oL es, z] ∧ U z ∧ ds.length + j = i.length ∧ es.length = j ∧ (es ++ ds).Perm i,
    ⟨i, [], _, rfl, .inl rfl, rfl, rfl, List.Perm.refl _⟩, fun j d Γ1 hd hI => ?_, fun Γ1 hI => ?_⟩
  · obtain ⟨ds, es, z, rfl, hz, h1, h2, h3⟩ := hI
    obtain ⟨j', hj', rfl⟩ := map_get hd
    obtain ⟨hjl, e⟩ := List.getElem?_eq_some_iff.mp hj'
    rw [List.getElem_range] at e
    subst e
    rw [List.length_range] at hjl
    refine sg_name (ss_appPop (by decide) (ds0 := ds) (es0 := es) rfl rfl <| ee_callR rfl rfl (j := 0) rfl <| ea_cons <| ee_CBO (ds := ds) rfl <| rl_lenL <| ea_nil ⟨ds.length, k + (i.length - (j + 1)), rfl, ⟨by omega, by omega⟩, ⟨_, rfl, by omega⟩, fun x ⟨v, hv, ex⟩ => ?_⟩) (by simp)
    have g : ds[v]? = some ds[v] := List.getElem?_eq_getElem hv
    refine ⟨v, ds[v], ds, es, ex, rfl, rfl, g, by omega, by omega, ds.eraseIdx v, es ++ [ds[v]], _, rfl, .inr ⟨_, rfl⟩, ?_, by simp [h2], ?_⟩
    · rw [List.length_eraseIdx_of_lt hv]; omega
    · refine List.Perm.trans ?_ h3
      rw [List.append_assoc]
      exact List.Perm.append_left es (perm_eraseIdx g).symm
  · obtain ⟨ds, es, z, rfl, hz, h1, h2, h3⟩ := hI
    rw [List.length_map, List.length_range] at h1 h2
    have e : ds = [] := List.eq_nil_of_length_eq_zero (by omega)
    subst e
    rw [List.append_nil] at h3
    refine ss_freeze (i := 3) (.l es) rfl (ss_ret <| ee_var rfl ⟨?_, es, h3, rfl⟩)
    rw [List.length_map, List.length_range, Nat.sub_self]
    rfl
end
end My
end P17_
section P18_
set_option maxHeartbeats 1000000
namespace My
open PySem PySem.Spec PyProof.Rows L2 LamX
theorem perm_map {α β : Type} {f : α → β} {l : List α} {m : List β} (h : m.Perm (l.map f)) : ∃ l' : List α, l'.Perm l ∧ m = l'.map f := perm_of_map h rfl
/-- some of the paths, no two of which overlap -/
structure Alone (ps : List Str) (lim : Nat) (qs : List Str) : Prop where
  sub : ∀ q ∈ qs, q ∈ ps
  nov : NoOv qs
  len : qs.length ≤ lim
  all : qs.length < lim → ∀ p ∈ ps, ∃ q ∈ qs, ovl q p = true
abbrev lsE : List Str → PyData := lE .str
abbrev spAlone (K : PySem.W.Frag) (T : List (Addr × Str)) : Sp := SpR K T (fun i : List Str × Nat => [.val (lsE i.1), dI (i.2 : Nat)]) (fun i => (∀ p ∈ i.1, ShortS p) ∧ i.1.length ≤ 1000) (fun i => i.1.length) (fun i x => ∃ qs, x = .val (lsE qs) ∧ Alone i.1 i.2 qs)
section
variable {P : Program} {w : World} {K : PySem.W.Frag} {mg : Str → Option Value} {base : Heap} {T : List (Addr × Str)}
theorem sc__law_alone : FnScope ["_law_reel_here", "_law_paths", "_law_limit", "_law_found", "_law_path", "_law_one"] ["_law_reel_here", "_law_paths", "_law_limit"] (defScope sLawAlone) := ⟨rfl, rfl, rfl, by decide +kernel, rfl, by decide +kernel, by decide +kernel⟩
theorem ok__law_alone (W : Wd K mg) : DefOk P w K mg base "_law_alone" ["_law_reel_here", "_law_paths", "_law_limit"] 3 (spAlone K T) := by
  obtain ⟨f, fd, hm, F⟩ := W.f__law_alone
  have D__law_mixed := ok__law_mixed (P := P) (w := w) (base := base) (T := T) W
  have D__law_meet := ok__law_meet (P := P) (w := w) (base := base) (T := T) W
  refine ⟨f, fd, hm, F.kp, F.bindsN fun _ _ _ _ _ _ us hl => match us, hl with | [_, _, _], _ => rfl, F.ok sc__law_alone (spr_len fun _ => rfl) fun cdv A outer s H vs Q E hr h => ?_⟩
  have nd := sc__law_alone.nd
  have hu64 := hr.units
  have hu1 := hu_of hr
  refine ⟨_, PSs.nox ((pss_cons (ps_set (i := 3) nd rfl (by first | exact Or.inl rfl | exact Or.inr rfl) (pe_lst pa_nil))
    (pss_cons (ps_for PassesOwn.never rfl (pi_listK (K := K) rfl (pe_callD D__law_mixed (hr.mono (by decide)) rfl (pa_cons (pv 0) (pa_cons (pv 1) pa_nil)))) (pg_name (i := 4) nd rfl (by first | exact Or.inl rfl | exact Or.inr rfl))
    (pss_one (ps_if (PW.pt (pw_and (pt_cmpR op_lt (pe_callB (cr_lenK (K := K) rfl) rfl W.b_len boot_len (pa_cons (pv 3) pa_nil)) (pv 2) (nomark _)) (pw_and1 (pt_cmpR (op_eqK (K := K) rfl hu64) (pe_lc (own := [("_law_one", 5)]) rfl nd (pi_listK (K := K) rfl (pv 3)) (blkOk_by (own := [("_law_one", 5)]) (N := ["_law_reel_here", "_law_paths", "_law_limit", "_law_found", "_law_path", "_law_one"]) (sc := defScope sLawAlone) (by decide +kernel)) (fun _ _ _ _ _ => (pg_name (i := 5) nd rfl (by first | exact Or.inl rfl | exact Or.inr rfl))) (fun _ _ _ _ _ => (pts_one (pt_val (pe_callD D__law_meet (hr.mono (by decide)) rfl (pa_cons (pv 5) (pa_cons (pv 4) pa_nil)))))) (fun _ _ _ _ _ => (pv 5))) (pe_lst pa_nil) (nomark _)))))
    (pss_one (ps_expr (pe_bm PySem.F.plainAttrs_list PySem.F.slot_list_append PySem.F.type_list_append mt_append (pv 3) (pa_cons (pv 4) pa_nil))))
    pss_nil)))
    (pss_one (ps_ret (pv 3)))))), sp_goR (fun H0 B0 rg sm i k hp => ?_) h⟩
  obtain ⟨ps, lim⟩ := i
  obtain ⟨h1, h2⟩ := hp
  dsimp only at h1 h2
  refine ss_seq <| ss_newL (by show 3 < 6; decide) ?_
  refine ss_seq <| ss_for (vs := [4]) <| wi_list <| ee_callR rfl rfl (j := 0) rfl <| ea_cons <| ee_var rfl <| ea_nil ⟨ps.map .str, k, rfl, by rw [List.length_map]; exact h2, ⟨_, rfl, by rw [List.length_map]; exact Nat.le_refl _⟩, fun x ⟨es, hes, ex⟩ => ?_⟩
  obtain ⟨ms, hms, rfl⟩ := perm_map hes
  have hml := hms.length_eq
  refine ⟨_, ex, fun j Γ1 => ∃ qs z y, Γ1 = [.reel k, cV (.val (lsE ps)), cV (dI (lim : Nat)), .oL (qs.map .str), z, y] ∧ U z ∧ U y ∧ (∀ q ∈ qs, q ∈ ps) ∧ NoOv qs ∧ qs.length ≤ lim ∧ qs.length ≤ j ∧ (qs.length < lim → ∀ p ∈ ms.take j, ∃ q ∈ qs, ovl q p = true),
    ⟨[], _, _, rfl, .inl rfl, .inl rfl, (fun _ h => by cases h), .nil, Nat.zero_le _, Nat.zero_le _, fun _ _ h => by cases h⟩, fun j d Γ1 hd hI => ?_, fun Γ1 hI => ?_⟩
  · obtain ⟨qs, z, y, rfl, hz, hy, i1, i2, i3, i5, i4⟩ := hI
    obtain ⟨p, hp, rfl⟩ := map_get hd
    have hpm := List.mem_of_getElem? hp
    have hjl := (List.getElem?_eq_some_iff.mp hp).1
    have hpp : p ∈ ps := hms.mem_iff.mp hpm
    have skip : (qs.length < lim → ∃ q ∈ qs, ovl q p = true) → (qs.length < lim → ∀ p ∈ ms.take (j + 1), ∃ q ∈ qs, ovl q p = true) := fun h hl r hr => by
      rw [take_snoc hp] at hr
      rcases List.mem_append.mp hr with q | q
      · exact i4 hl r q
      · simp only [List.mem_singleton] at q
        rw [q]; exact h hl
    refine sg_name (ss_if <| et_and <| et_test <| ee_op <| ee_CBO (ds := qs.map .str) rfl <| rl_lenL <| ee_var rfl <| ro_lt ⟨_, rfl, fun e => ?_, fun e => ⟨(fun z => by cases z), fun _ => ss_next ⟨qs, _, _, rfl, .inr ⟨_, rfl⟩, hy, i1, i2, i3, by omega, skip fun hl => ?_⟩⟩⟩) (by simp)
    · refine et_test <| ee_op <| ee_lcO (ds := qs.map .str) rfl <| lc1f PyData.str PyData.str id (fun q => ovl q p) (by omega) (fun x hx => by cases hx; exact hy) (fun q hq => ?_) ?_
      · exact et_B <| ee_call rfl rfl <| ea_cons <| ee_var rfl <| ea_cons <| ee_var rfl <| ea_nil ⟨(q, p), rfl, ⟨h1 q (i1 q hq), h1 p hpp⟩, fun x ex => ⟨_, ex, rfl, rfl, fun _ => ee_var rfl ⟨rfl, rfl⟩⟩⟩
      · rw [List.map_id]
        refine ee_lst <| ea_nil ⟨[], rfl, (by decide), RO1.ro <| ro1_eqNil ⟨_, rfl, fun e2 => ?_, fun e2 => ss_next ⟨qs, _, _, rfl, .inr ⟨_, rfl⟩, hy, i1, i2, i3, by omega, skip fun hl => ?_⟩⟩⟩
        · rw [List.isEmpty_map, List.isEmpty_iff, List.filter_eq_nil_iff] at e2
          rw [List.length_map] at e
          have e := of_decide_eq_true e
          refine ss_append (ds0 := qs.map .str) (ee_var rfl ⟨.str p, qs.map .str, rfl, rfl, by rw [List.length_map]; omega, qs ++ [p], _, _, by rw [List.map_append]; rfl, .inr ⟨_, rfl⟩, hy, fun q hq => ?_, ?_, ?_, ?_, fun hl r hr => ?_⟩) rfl
          · rcases List.mem_append.mp hq with q1 | q1
            · exact i1 q q1
            · simp only [List.mem_singleton] at q1
              rw [q1]; exact hpp
          · refine List.pairwise_append.mpr ⟨i2, by simp, fun a ha b hb => ?_⟩
            simp only [List.mem_singleton] at hb
            subst hb
            rw [ovl_comm]
            exact Bool.eq_false_iff.mpr (e2 a ha)
          · rw [List.length_append, List.length_singleton]; omega
          · rw [List.length_append, List.length_singleton]; omega
          · rw [take_snoc hp] at hr
            rcases List.mem_append.mp hr with q | q
            · obtain ⟨x, hx, hxo⟩ := i4 (by omega) r q
              exact ⟨x, List.mem_append_left _ hx, hxo⟩
            · simp only [List.mem_singleton] at q
              rw [q]
              exact ⟨p, by simp, ovl_self p⟩
        · rw [List.isEmpty_map] at e2
          cases e3 : qs.filter fun q => ovl q p with
          | nil => rw [e3] at e2; cases e2
          | cons q l =>
            have hq : q ∈ qs.filter fun q => ovl q p := by rw [e3]; simp
            exact ⟨q, (List.mem_filter.mp hq).1, (List.mem_filter.mp hq).2⟩
    · rw [List.length_map] at e
      have e := of_decide_eq_false e
      omega
  · obtain ⟨qs, z, y, rfl, hz, hy, i1, i2, i3, i5, i4⟩ := hI
    rw [List.length_map, List.take_length] at i4
    exact ss_freeze (i := 3) (.l (qs.map .str)) rfl (ss_ret <| ee_var rfl ⟨rfl, qs, rfl, i1, i2, i3, fun hl p hp => i4 hl p (hms.mem_iff.mpr hp)⟩)
end
end My
end P18_
section P19_
set_option maxHeartbeats 1000000
namespace My
open PySem PySem.Spec PyProof.Rows L2 LamX
def chS (ch : Nat) : Str := ⟨#[ch]⟩
def cE (ch : Nat) : PyData := .str (chS ch)
theorem joinL_nil : ∀ l : List (List Nat), TL.joinL [] l = l.flatten
  | [] => rfl
  | [p] => by simp [TL.joinL]
  | p :: q :: r => by
    have ih := joinL_nil (q :: r)
    show p ++ ([] ++ TL.joinL [] (q :: r)) = _
    rw [ih]
    simp
theorem join_row (row : List Nat) : ls (Txt.join (Str.ofString "") (row.map chS)) = row := by
  rw [TL.join_eq]
  show TL.tl _ = _
  rw [TL.tl_join, show TL.tl (Str.ofString "") = [] from rfl, joinL_nil, List.map_map]
  induction row with
  | nil => rfl
  | cons a r ih =>
    rw [List.map_cons, List.flatten_cons, ih]
    rfl
theorem set_same {α : Type} {l : List α} {i : Nat} {x : α} (h : l[i]? = some x) : l.set i x = l := by
  apply List.ext_getElem?
  intro j
  by_cases e : i = j
  · subst e
    rw [List.getElem?_set_self (List.getElem?_eq_some_iff.mp h).1, h]
  · rw [List.getElem?_set_ne e]
theorem set_set {α : Type} {l : List α} {i : Nat} {x y : α} : (l.set i x).set i y = l.set i y := List.set_set ..
/-- letters, drawn one by one -/
theorem lc_letters {K : PySem.W.Frag} {T : List (Addr × Str)} {c : Ctx} {Γ : Env'} {n m size : Nat} {z : Cell} {R : List PyData → Env' → Prop} (hT : c.T = T) (hK : c.K = K) (h0 : Γ[0]? = some (.reel n)) (hn : n = m + size) (h2 : Γ[2]? = some (cV (dS letters))) (h9 : Γ[9]? = some z) (hz : U z) (hs : size ≤ 1000)
    (fin : ∀ row : List Nat, row.length = size → (∀ ch ∈ row, ch ∈ ls letters) → R (row.map cE) (Γ.set 0 (.reel m))) :
    ((List.range size).map fun i : Nat => PyData.int (i : Int)).length ≤ 900000 ∧ ∃ I : Nat → List PyData → Env' → Prop, I 0 [] Γ ∧ (∀ i d acc Γ1, ((List.range size).map fun i : Nat => PyData.int (i : Int))[i]? = some d → I i acc Γ1 → LT c (gName 9) tYes (tCall (spPick K T) [] E0 (tCons (tVar 0) (tCons (tVar 2) tNil))) [9] I i d acc Γ1) ∧
      ∀ acc Γ1, I ((List.range size).map fun i : Nat => PyData.int (i : Int)).length acc Γ1 → R acc Γ1 := by
  subst hn
  have hl0 : 0 < Γ.length := (List.getElem?_eq_some_iff.mp h0).1
  have hl9 : 9 < Γ.length := (List.getElem?_eq_some_iff.mp h9).1
  refine ⟨by rw [List.length_map, List.length_range]; omega, fun i acc Γ1 => ∃ row : List Nat, acc = row.map cE ∧ row.length = i ∧ (∀ ch ∈ row, ch ∈ ls letters) ∧ Γ1 = Γ.set 0 (.reel (m + (size - i))),
    ⟨[], rfl, rfl, (fun _ h => by cases h), (set_same h0).symm⟩, fun i d acc Γ1 hd hI => ?_, fun acc Γ1 hI => ?_⟩
  · obtain ⟨row, rfl, hr, hc, rfl⟩ := hI
    have hil : i < size := by
      have := (List.getElem?_eq_some_iff.mp hd).1
      rw [List.length_map, List.length_range] at this
      exact this
    have g9 : (Γ.set 0 (.reel (m + (size - i))))[9]? = some z := by rw [List.getElem?_set_ne (by decide)]; exact h9
    have g0 : (Γ.set 0 (.reel (m + (size - i))))[0]? = some (.reel (m + (size - i))) := List.getElem?_set_self hl0
    have g2 : (Γ.set 0 (.reel (m + (size - i))))[2]? = some (cV (dS letters)) := by rw [List.getElem?_set_ne (by decide)]; exact h2
    refine ⟨fun j hj x hx => ?_, sg_name (et_yes ⟨fun _ => ?_, fun z => by cases z⟩) (by simp)⟩
    · simp at hj
      subst hj
      rw [g9] at hx
      cases hx
      exact hz
    · refine ee_callR hT hK (j := 0) (by rw [List.getElem?_set_ne (by decide), wipeG_out (by decide)]; exact g0) <| ea_cons <| ee_var (by rw [List.getElem?_set_ne (by decide), wipeG_out (by decide)]; exact g2) <| ea_nil ⟨.inr letters, m + (size - (i + 1)), rfl, ⟨by decide +kernel, by decide +kernel⟩, ⟨_, by rw [List.getElem?_set_ne (by decide), wipeG_out (by decide)]; exact g0, by omega⟩, fun x ⟨ch, hch, ex⟩ => ⟨cE ch, Γ.set 0 (.reel (m + (size - (i + 1)))), ex, ⟨by simp, fun j hj => ?_, fun j hj => ?_⟩, row ++ [ch], by rw [List.map_append]; rfl, by simp [hr], fun c' hc' => ?_, rfl⟩⟩
      · simp at hj
        subst hj
        rw [g9, List.getElem?_set_ne (by decide)]
        exact h9
      · by_cases e : j = 0
        · subst e
          rw [List.getElem?_set_self hl0, List.getElem?_set_self (by rw [List.length_set, wipeG_length, List.length_set]; exact hl0)]
        · have e9 : 9 ≠ j := fun z => hj (by simp [z])
          rw [List.getElem?_set_ne (Ne.symm e), List.getElem?_set_ne (Ne.symm e), List.getElem?_set_ne e9, wipeG_out hj, List.getElem?_set_ne (Ne.symm e)]
      · rcases List.mem_append.mp hc' with q | q
        · exact hc c' q
        · simp only [List.mem_singleton] at q
          rw [q]; exact hch
  · obtain ⟨row, rfl, hr, hc, rfl⟩ := hI
    rw [List.length_map, List.length_range] at hr ⊢
    rw [Nat.sub_self]
    exact fin row hr hc
abbrev spNames (K : PySem.W.Frag) (T : List (Addr × Str)) : Sp := SpR K T (fun n : Nat => [dI (n : Nat)]) (fun n => n ≤ 26) (fun n => 12 + 8 * n) (fun n x => ∃ xs, x = .val (lsE xs) ∧ xs.length = n ∧ (∀ x ∈ xs, nameOk x) ∧ xs.Nodup)
theorem len_one {s : Nat} : (chS s).length = 1 := rfl
theorem sum_ones : ∀ row : List Nat, ((row.map chS).map (·.length)).sum = row.length
  | [] => rfl
  | a :: r => by rw [List.map_cons, List.map_cons, List.sum_cons, sum_ones r, len_one, List.length_cons]; omega
theorem letters_get {i : Nat} (h : i < 26) : (ls letters)[i]? = some (i + 97) := by
  rw [letters_ls, List.getElem?_map, List.getElem?_range h]
  rfl
section
variable {P : Program} {w : World} {K : PySem.W.Frag} {mg : Str → Option Value} {base : Heap} {T : List (Addr × Str)}
theorem sc__law_names : FnScope ["_law_reel_here", "_law_many", "_law_letters", "_law_size", "_law_same", "_law_place", "_law_first", "_law_base", "_law_found", "_law_k", "_law_turn", "_law_row"] ["_law_reel_here", "_law_many"] (defScope sLawNames) := ⟨rfl, rfl, rfl, by decide +kernel, rfl, by decide +kernel, by decide +kernel⟩
theorem ok__law_names (W : Wd K mg) : DefOk P w K mg base "_law_names" ["_law_reel_here", "_law_many"] 3 (spNames K T) := by
  obtain ⟨f, fd, hm, F⟩ := W.f__law_names
  have D__law_pick := ok__law_pick (P := P) (w := w) (base := base) (T := T) W
  have D__law_pull := ok__law_pull (P := P) (w := w) (base := base) (T := T) W
  refine ⟨f, fd, hm, F.kp, F.bindsN fun _ _ _ _ _ _ us hl => match us, hl with | [_, _], _ => rfl, F.ok sc__law_names (spr_len fun _ => rfl) fun cdv A outer s H vs Q E hr h => ?_⟩
  have nd := sc__law_names.nd
  have hu64 := hr.units
  have hu1 := hu_of hr
  refine ⟨_, PSs.nox ((pss_cons (ps_set (i := 2) nd rfl (by first | exact Or.inl rfl | exact Or.inr rfl) pe_str)
    (pss_cons (ps_par (i := 3) (j := 4) (by rfl) nd rfl rfl (by decide) rfl rfl (pa_cons (pe_op (op_addK (K := K) rfl) pe_int (pe_callD D__law_pull (hr.mono (by decide)) rfl (pa_cons (pv 0) (pa_cons pe_int pa_nil)))) (pa_cons (pe_cmpR (op_eqK (K := K) rfl hu64) (pe_callD D__law_pull (hr.mono (by decide)) rfl (pa_cons (pv 0) (pa_cons pe_int pa_nil))) pe_int (nomark _)) pa_nil)) (by rfl))
    (pss_cons (ps_par (i := 5) (j := 6) (by rfl) nd rfl rfl (by decide) rfl rfl (pa_cons (pe_callD D__law_pull (hr.mono (by decide)) rfl (pa_cons (pv 0) (pa_cons (pv 3) pa_nil))) (pa_cons (pe_callD D__law_pull (hr.mono (by decide)) rfl (pa_cons (pv 0) (pa_cons pe_int pa_nil))) pa_nil)) (by rfl))
    (pss_cons (ps_par (i := 7) (j := 8) (by rfl) nd rfl rfl (by decide) rfl rfl (pa_cons (pe_lc (own := [("_law_k", 9)]) rfl nd (pi_range1 rfl W.b_range (pa_cons (pv 3) pa_nil)) (blkOk_by (own := [("_law_k", 9)]) (N := ["_law_reel_here", "_law_many", "_law_letters", "_law_size", "_law_same", "_law_place", "_law_first", "_law_base", "_law_found", "_law_k", "_law_turn", "_law_row"]) (sc := defScope sLawNames) (by decide +kernel)) (fun _ _ _ _ _ => (pg_name (i := 9) nd rfl (by first | exact Or.inl rfl | exact Or.inr rfl))) (fun _ _ _ _ _ => pts_nil) (fun _ _ _ _ _ => (pe_callD D__law_pick (hr.mono (by decide)) rfl (pa_cons (pv 0) (pa_cons (pv 2) pa_nil))))) (pa_cons (pe_lst pa_nil) pa_nil)) (by rfl))
    (pss_cons (ps_for PassesOwn.never rfl (pi_range1 rfl W.b_range (pa_cons (pv 1) pa_nil)) (pg_name (i := 10) nd rfl (by first | exact Or.inl rfl | exact Or.inr rfl))
    (pss_cons (ps_set (i := 11) nd rfl (by first | exact Or.inl rfl | exact Or.inr rfl) (pe_callTy ((cr_lstK (K := K) rfl)) rfl W.b_list boot_list (pa_cons (pv 7) pa_nil)))
    (pss_cons (ps_if (pt_not (pt_val (pv 4)))
    (pss_one (ps_setLc (i := 11) (own := [("_law_k", 9)]) rfl nd rfl rfl (sw_true rfl rfl rfl (by decide +kernel)) (pi_range1 rfl W.b_range (pa_cons (pv 3) pa_nil)) (blkOk_by (own := [("_law_k", 9)]) (N := ["_law_reel_here", "_law_many", "_law_letters", "_law_size", "_law_same", "_law_place", "_law_first", "_law_base", "_law_found", "_law_k", "_law_turn", "_law_row"]) (sc := defScope sLawNames) (by decide +kernel)) (fun _ _ _ _ _ => (pg_name (i := 9) nd rfl (by first | exact Or.inl rfl | exact Or.inr rfl))) (fun _ _ _ _ _ => pts_nil) (fun _ _ _ _ _ => (pe_callD D__law_pick (hr.mono (by decide)) rfl (pa_cons (pv 0) (pa_cons (pv 2) pa_nil))))))
    pss_nil)
    (pss_cons (ps_asg (pe_ix (ix_seqK (K := K) rfl) (pv 2) (pe_op op_mod (pe_callTy (call_int1) rfl W.b_int boot_int (pa_cons (pe_op (op_addK (K := K) rfl) (pv 6) (pv 10)) pa_nil)) pe_int) (fun _ _ => rfl)) (pg_sub (pv 11) (pv 5) set_list))
    (pss_one (ps_expr (pe_bm PySem.F.plainAttrs_list PySem.F.slot_list_append PySem.F.type_list_append mt_append (pv 8) (pa_cons (pe_join pe_str (pv 11)) pa_nil))))))))
    (pss_one (ps_ret (pv 8))))))))), sp_goR (fun H0 B0 rg sm i k hp => ?_) h⟩
  have hp : i ≤ 26 := hp
  refine ss_seq <| ss_set <| ee_str <| ss_seq <| ss_par (i := 3) (j := 4) <| ea_cons <| ee_op <| ee_int <| ee_callR rfl rfl (j := 0) rfl <| ea_cons <| ee_int <| ea_nil ⟨8, k + (11 + 8 * i), rfl, ⟨by decide, by decide⟩, ⟨_, rfl, by omega⟩, fun x ⟨sz, hsz, ex⟩ => ?_⟩
  subst ex
  refine ro_addI <| ea_cons <| ee_op <| ee_callR rfl rfl (j := 0) rfl <| ea_cons <| ee_int <| ea_nil ⟨2, k + (10 + 8 * i), rfl, ⟨by decide, by decide⟩, ⟨_, rfl, by omega⟩, fun x ⟨sm0, hsm, ex⟩ => ?_⟩
  subst ex
  refine ee_int <| ro_eqI <| ea_nil ⟨_, _, rfl, ss_seq <| ss_par (i := 5) (j := 6) <| ea_cons <| ee_callR rfl rfl (j := 0) rfl <| ea_cons <| ee_var rfl <| ea_nil ⟨1 + sz, k + (9 + 8 * i), rfl, ⟨by omega, by omega⟩, ⟨_, rfl, by omega⟩, fun x ⟨pl, hpl, ex⟩ => ?_⟩⟩
  subst ex
  refine ea_cons <| ee_callR rfl rfl (j := 0) rfl <| ea_cons <| ee_int <| ea_nil ⟨26, k + 8 * i + (1 + sz), rfl, ⟨by decide, by decide⟩, ⟨_, rfl, by omega⟩, fun x ⟨fi, hfi, ex⟩ => ?_⟩
  subst ex
  refine ea_nil ⟨_, _, rfl, ss_seq <| ss_parD (by show 8 < 12; decide) <| ee_lc <| wi_rng1 <| ea_cons <| ee_var rfl <| ea_nil ⟨1 + sz, by omega, rfl, lc_letters rfl rfl rfl rfl rfl rfl (.inl rfl) (by omega) fun base hb1 hb2 => ?_⟩⟩
  refine ss_seq <| ss_for (vs := [10]) <| wi_rng1 <| ea_cons <| ee_var rfl <| ea_nil ⟨i, by omega, rfl, fun j Γ1 => ∃ xs z9 z10 z11, Γ1 = [.reel (k + 8 * (i - j)), cV (dI (i : Nat)), cV (dS letters), cV (dI ((1 + sz : Nat) : Int)), cV (dB (decide ((sm0 : Int) = 0))), cV (dI (pl : Nat)), cV (dI (fi : Nat)), cV (dL (base.map cE)), .oL (xs.map .str), z9, z10, z11] ∧ U z9 ∧ U z10 ∧
      xs.length = j ∧ (∀ x ∈ xs, nameOk x) ∧ (∀ t x, xs[t]? = some x → (ls x)[pl]? = some ((fi + t) % 26 + 97)),
    ⟨[], _, _, _, rfl, .inl rfl, .inl rfl, rfl, (fun _ h => by cases h), fun t x h => by simp at h⟩, fun j d Γ1 hd hI => ?_, fun Γ1 hI => ?_⟩
  · obtain ⟨xs, z9, z10, z11, rfl, u9, u10, h1, h2, h3⟩ := hI
    obtain ⟨j', hj', rfl⟩ := map_get hd
    obtain ⟨hjl, e⟩ := List.getElem?_eq_some_iff.mp hj'
    rw [List.getElem_range] at e
    subst e
    rw [List.length_range] at hjl
    refine sg_name (ss_seq <| ss_setN (by show 11 < 12; decide) <| en_list rfl <| ee_var rfl ⟨base.map cE, .inl rfl, ?_⟩) (by simp)
    refine ss_cut (fun Γ1 => ∃ (m : Nat) (z9 : Cell) (row : List Nat), Γ1 = [.reel m, cV (dI (i : Nat)), cV (dS letters), cV (dI ((1 + sz : Nat) : Int)), cV (dB (decide ((sm0 : Int) = 0))), cV (dI (pl : Nat)), cV (dI (fi : Nat)), cV (dL (base.map cE)), .oL (xs.map .str), z9, cV (dI (j : Nat)), .oL (row.map cE)] ∧ U z9 ∧ k + 8 * (i - (j + 1)) ≤ m ∧ row.length = 1 + sz ∧ ∀ ch ∈ row, ch ∈ ls letters) ?_ ?_
    · refine ss_if <| et_not <| et_B <| ee_var rfl ⟨_, rfl, fun _ => ?_, fun _ => ss_next ⟨_, _, base, rfl, u9, by omega, hb1, hb2⟩⟩
      refine ss_setN (by show 11 < 12; decide) <| en_lc <| wi_rng1 <| ea_cons <| ee_var rfl <| ea_nil ⟨1 + sz, by omega, rfl, lc_letters (m := k + 8 * (i - j) - (1 + sz)) rfl rfl rfl (by omega) rfl rfl u9 (by omega) fun row hr hc => ⟨_, _, row, rfl, u9, by omega, hr, hc⟩⟩
    · rintro Γ1 ⟨m, z9, row, rfl, u9, hm, hr, hc⟩
      have hx : (ls letters)[(fi + j) % 26]? = some ((fi + j) % 26 + 97) := letters_get (Nat.mod_lt _ (by decide))
      have hxm : (fi + j) % 26 + 97 ∈ ls letters := List.mem_of_getElem? hx
      have hpl2 : pl < row.length := by omega
      have e1 : (row.map cE).set pl (cE ((fi + j) % 26 + 97)) = ((row.set pl ((fi + j) % 26 + 97)).map chS).map PyData.str := by
        rw [← List.map_set, List.map_map]
        rfl
      refine ss_reelLe (j := 0) rfl hm <| ss_seq <| ss_setItem <| ee_op <| ee_var rfl <| ee_op <| ee_CB <| ea_cons <| ee_op <| ee_var rfl <| ee_var rfl <| ro_addI <| ea_nil <| rl_int <| ee_int <| ro_intC (C := fun _ j => 0 < j) (z := dI (((fi + j) % 26 : Nat) : Int)) (by decide) (fun B => ?_) <| ro_ixS (by decide +kernel) (atI_nat hx) ⟨cE ((fi + j) % 26 + 97), row.map cE, rfl, rfl, ee_var rfl ⟨pl, rfl, by rw [List.length_map]; exact hpl2, ?_⟩⟩
      · have e : ((fi : Int) + (j : Int)) % 26 = (((fi + j) % 26 : Nat) : Int) := by omega
        show Dp _ _ (V.int (((fi : Int) + (j : Int)) % 26)) _
        rw [e]
        exact Dp.int _
      · rw [e1]
        have hl : (row.set pl ((fi + j) % 26 + 97)).length = 1 + sz := by rw [List.length_set, hr]
        have jl := join_row (row.set pl ((fi + j) % 26 + 97))
        refine ss_freeze (i := 11) (.l _) rfl <| ss_append (ds0 := xs.map .str) (ee_M1 <| ee_str ⟨⟨_, rfl⟩, ee_var rfl <| rm_join ?_ ⟨.str _, xs.map .str, rfl, rfl, by rw [List.length_map]; omega, xs ++ [_], z9, _, _, by rw [List.map_append]; rfl, u9, .inr ⟨_, rfl⟩, by rw [List.length_append, h1]; rfl, fun x hx => ?_, fun t x hx => ?_⟩⟩) rfl
        · rw [sum_ones, hl, show (Str.ofString "").length = 0 from rfl]
          omega
        · rcases List.mem_append.mp hx with q | q
          · exact h2 x q
          · simp only [List.mem_singleton] at q
            subst q
            refine ⟨?_, ?_, fun ch hch => ?_⟩
            · rw [← ls_len, jl, hl]; omega
            · rw [← ls_len, jl, hl]; omega
            · have hch : ch ∈ ls (Txt.join (Str.ofString "") ((row.set pl ((fi + j) % 26 + 97)).map chS)) := hch
              rw [jl] at hch
              rcases List.mem_or_eq_of_mem_set hch with q | q
              · exact hc ch q
              · rw [q]; exact hxm
        · by_cases ht : t < xs.length
          · rw [List.getElem?_append_left ht] at hx
            exact h3 t x hx
          · have htl := (List.getElem?_eq_some_iff.mp hx).1
            rw [List.length_append, List.length_singleton] at htl
            have et : t = xs.length := by omega
            subst et
            rw [List.getElem?_append_right (Nat.le_refl _), Nat.sub_self] at hx
            cases hx
            rw [jl, List.getElem?_set_self hpl2, h1]
  · obtain ⟨xs, z9, z10, z11, rfl, u9, u10, h1, h2, h3⟩ := hI
    rw [List.length_map, List.length_range] at h1 ⊢
    rw [Nat.sub_self]
    refine ss_freeze (i := 8) (.l (xs.map .str)) rfl (ss_ret <| ee_var rfl ⟨rfl, xs, rfl, h1, h2, ?_⟩)
    refine List.pairwise_iff_getElem.mpr fun a b ha hb hab e => ?_
    have q1 := h3 a xs[a] (List.getElem?_eq_getElem ha)
    have q2 := h3 b xs[b] (List.getElem?_eq_getElem hb)
    rw [e, q2] at q1
    have q1 := Option.some.inj q1
    omega
end
end My
end P19_
section P20_
set_option maxHeartbeats 1000000
namespace My
open PySem PySem.Spec PyProof.Rows L2 LamX
/-- spots: rule paths, two of which are different names -/
structure SpotsOk (sp : List Str) : Prop where
  np : ∀ p ∈ sp, NP 4 p
  len : sp.length ≤ 10
  two : ∃ a b, nameOk a ∧ nameOk b ∧ a ≠ b ∧ a ∈ sp ∧ b ∈ sp
abbrev spSpots (K : PySem.W.Frag) (T : List (Addr × Str)) : Sp := SpR K T (fun i : List Str => [.val (lsE i)]) (fun i => 4 ≤ i.length ∧ i.length ≤ 100 ∧ (∀ n ∈ i, nameOk n) ∧ i.Nodup) (fun _ => 25) (fun i x => ∃ sp, x = .val (lsE sp) ∧ SpotsOk sp)
theorem four_of {α : Type} : ∀ {l : List α}, 4 ≤ l.length → ∃ a b c d r, l = a :: b :: c :: d :: r
  | [], h => by simp at h
  | [_], h => by simp at h
  | [_, _], h => by simp at h
  | [_, _, _], h => by simp at h
  | a :: b :: c :: d :: r, _ => ⟨a, b, c, d, r, rfl⟩
section
variable {P : Program} {w : World} {K : PySem.W.Frag} {mg : Str → Option Value} {base : Heap} {T : List (Addr × Str)}
theorem sc__law_spots : FnScope ["_law_reel_here", "_law_names_here", "_law_found", "_law_turn", "_law_path"] ["_law_reel_here", "_law_names_here"] (defScope sLawSpots) := ⟨rfl, rfl, rfl, by decide +kernel, rfl, by decide +kernel, by decide +kernel⟩
theorem ok__law_spots (W : Wd K mg) : DefOk P w K mg base "_law_spots" ["_law_reel_here", "_law_names_here"] 3 (spSpots K T) := by
  obtain ⟨f, fd, hm, F⟩ := W.f__law_spots
  have D__law_pull := ok__law_pull (P := P) (w := w) (base := base) (T := T) W
  have D__law_pick := ok__law_pick (P := P) (w := w) (base := base) (T := T) W
  refine ⟨f, fd, hm, F.kp, F.bindsN fun _ _ _ _ _ _ us hl => match us, hl with | [_, _], _ => rfl, F.ok sc__law_spots (spr_len fun _ => rfl) fun cdv A outer s H vs Q E hr h => ?_⟩
  have nd := sc__law_spots.nd
  have hu64 := hr.units
  have hu1 := hu_of hr
  refine ⟨_, PSs.nox ((pss_cons (ps_set (i := 2) nd rfl (by first | exact Or.inl rfl | exact Or.inr rfl) (pe_lst (pa_cons (pe_ix (ix_seqK (K := K) rfl) (pv 1) pe_int (fun _ _ => rfl)) (pa_cons (pe_ix (ix_seqK (K := K) rfl) (pv 1) pe_int (fun _ _ => rfl)) pa_nil))))
    (pss_cons (ps_for PassesOwn.never rfl (pi_range1 rfl W.b_range (pa_cons (pe_op (op_addK (K := K) rfl) pe_int (pe_callD D__law_pull (hr.mono (by decide)) rfl (pa_cons (pv 0) (pa_cons pe_int pa_nil)))) pa_nil)) (pg_name (i := 3) nd rfl (by first | exact Or.inl rfl | exact Or.inr rfl))
    (pss_cons (ps_set (i := 4) nd rfl (by first | exact Or.inl rfl | exact Or.inr rfl) (pe_op (op_addK (K := K) rfl) (pe_op (op_addK (K := K) rfl) (pe_callD D__law_pick (hr.mono (by decide)) rfl (pa_cons (pv 0) (pa_cons (pv 2) pa_nil))) pe_str) (pe_callD D__law_pick (hr.mono (by decide)) rfl (pa_cons (pv 0) (pa_cons (pe_slice (sl_listK (K := K) rfl) (pv 1) po_none (po_some pe_int)) pa_nil)))))
    (pss_cons (ps_if (pt_cmpR (op_eqK (K := K) rfl hu64) (pe_callD D__law_pull (hr.mono (by decide)) rfl (pa_cons (pv 0) (pa_cons pe_int pa_nil))) pe_int (nomark _))
    (pss_one (ps_set (i := 4) nd rfl (by first | exact Or.inl rfl | exact Or.inr rfl) (pe_ix (ix_seqK (K := K) rfl) (pv 1) pe_int (fun _ _ => rfl))))
    pss_nil)
    (pss_one (ps_if (PW.pt (pw_and (pt_cmpR (op_notInK (K := K) rfl hu64) (pv 4) (pv 2) (by rfl)) (pw_and1 (pt_cmpR op_lt (pe_m1 PySem.F.slot_str_count PySem.F.type_str_count mt_count (pv 4) pe_str) pe_int (nomark _)))))
    (pss_one (ps_expr (pe_bm PySem.F.plainAttrs_list PySem.F.slot_list_append PySem.F.type_list_append mt_append (pv 2) (pa_cons (pv 4) pa_nil))))
    pss_nil)))))
    (pss_one (ps_ret (pv 2)))))), sp_goR (fun H0 B0 rg sm i k hp => ?_) h⟩
  obtain ⟨h4, h100, hn, hd⟩ := hp
  obtain ⟨n0, n1, n2, n3, r, rfl⟩ := four_of h4
  have o0 := hn n0 (by simp)
  have o1 := hn n1 (by simp)
  have o2 := hn n2 (by simp)
  have ne : n0 ≠ n1 := fun e => by
    rw [e] at hd
    simp at hd
  have g0 : atI ((n0 :: n1 :: n2 :: n3 :: r).map PyData.str) 0 = some (.str n0) := atI_nat (j := 0) rfl
  have g1 : atI ((n0 :: n1 :: n2 :: n3 :: r).map PyData.str) 1 = some (.str n1) := atI_nat (j := 1) rfl
  have g2 : atI ((n0 :: n1 :: n2 :: n3 :: r).map PyData.str) 2 = some (.str n2) := atI_nat (j := 2) rfl
  refine ss_seq <| ss_newLs (by show 2 < 5; decide) <| ea_cons <| ee_op <| ee_var rfl <| ee_int <| ro_ixL g0 <| ea_cons <| ee_op <| ee_var rfl <| ee_int <| ro_ixL g1 <| ea_nil ⟨[.str n0, .str n1], rfl, (by show 2 ≤ 1000000; decide), ?_⟩
  refine ss_seq <| ss_for (vs := [3]) <| wi_rng1 <| ea_cons <| ee_op <| ee_int <| ee_callR rfl rfl (j := 0) rfl <| ea_cons <| ee_int <| ea_nil ⟨7, k + 24, rfl, ⟨by decide, by decide⟩, ⟨_, rfl, by omega⟩, fun x ⟨v, hv, ex⟩ => ?_⟩
  subst ex
  refine ro_addI <| ea_nil ⟨2 + v, by omega, rfl, fun j Γ1 => ∃ (xs : List Str) (z3 z4 : Cell), Γ1 = [.reel (k + (24 - 3 * j)), cV (.val (lsE (n0 :: n1 :: n2 :: n3 :: r))), .oL (xs.map .str), z3, z4] ∧ (∀ p ∈ xs, NP 4 p) ∧ 1 ≤ xs.length ∧ xs.length ≤ 2 + j ∧ n0 ∈ xs ∧ n1 ∈ xs,
    ⟨[n0, n1], _, _, rfl, fun p hp => ?_, (by show 1 ≤ 2; decide), Nat.le_refl _, by simp, by simp⟩, fun j d Γ1 hd hI => ?_, fun Γ1 hI => ?_⟩
  · simp only [List.mem_cons, List.not_mem_nil, or_false] at hp
    rcases hp with e | e
    · rw [e]; exact (NP.one o0).mono (by decide)
    · rw [e]; exact (NP.one o1).mono (by decide)
  · obtain ⟨xs, z3, z4, rfl, i1, i0, i2, i3, i4⟩ := hI
    obtain ⟨j', hj', rfl⟩ := map_get hd
    obtain ⟨hjl, e⟩ := List.getElem?_eq_some_iff.mp hj'
    rw [List.getElem_range] at e
    subst e
    rw [List.length_range] at hjl
    refine sg_name (ss_seq <| ss_set <| ee_op <| ee_op <| ee_callRO (.inl (xs.map .str)) (j := 0) (l := 2) (k := k + (24 - 3 * j - 1)) rfl rfl rfl rfl rfl (by show 1 ≤ _ ∧ _ ≤ 1000; rw [List.length_map]; omega) (by omega) fun x ⟨d, hd, ex⟩ => ?_) (by simp)
    obtain ⟨p, hp, rfl⟩ := List.mem_map.mp hd
    subst ex
    have np := i1 p hp
    have shp := np.short (by decide)
    unfold ShortS at shp
    refine ⟨flat_str, ee_str <| ro_addT (by show p.length + 1 ≤ _; omega) <| ee_callR rfl rfl (j := 0) rfl <| ea_cons <| ee_sl <| ee_var rfl <| eo_none <| eo_some <| ee_int ⟨_, rfl, RU1.ru <| ru1_sl <| ea_nil ⟨.inl ([n0, n1, n2, n3].map .str), k + (24 - 3 * j - 2), ?_, ⟨(by show 1 ≤ 4; decide), (by show 4 ≤ 1000; decide)⟩, ⟨_, rfl, by omega⟩, fun x ⟨d, hd, ex⟩ => ?_⟩⟩⟩
    · rw [show (4 : Int) = ((4 : Nat) : Int) from rfl, cutD_to]
      rfl
    obtain ⟨n, hnm, rfl⟩ := List.mem_map.mp hd
    subst ex
    have no : nameOk n := hn n (by
      simp only [List.mem_cons, List.not_mem_nil, or_false] at hnm ⊢
      rcases hnm with e | e | e | e <;> simp [e])
    have nq := np.snoc no
    have hnl := no.2.1
    refine ro_addT (by rw [Str.length_append]; show p.length + 1 + n.length ≤ _; omega) ?_
    refine ss_cut (fun Γ1 => ∃ q, Γ1 = [.reel (k + (24 - 3 * (j + 1))), cV (.val (lsE (n0 :: n1 :: n2 :: n3 :: r))), .oL (xs.map .str), cV (dI (j : Nat)), cV (dS q)] ∧ NP 5 q) ?_ ?_
    · refine ss_if <| et_test <| ee_op <| ee_callR rfl rfl (j := 0) rfl <| ea_cons <| ee_int <| ea_nil ⟨6, k + (24 - 3 * (j + 1)), rfl, ⟨by decide, by decide⟩, ⟨_, rfl, by omega⟩, fun x ⟨v2, hv2, ex⟩ => ?_⟩
      subst ex
      refine ee_int <| ro_eqI ⟨_, rfl, fun _ => ss_set <| ee_op <| ee_var rfl <| ee_int <| ro_ixL g2 ⟨n2, rfl, (NP.one o2).mono (by decide)⟩, fun _ => ss_next ⟨_, rfl, nq⟩⟩
    · rintro Γ1 ⟨q, rfl, nq⟩
      have skip : ∃ (xs' : List Str) (z3 z4 : Cell), [Cell.reel (k + (24 - 3 * (j + 1))), cV (.val (lsE (n0 :: n1 :: n2 :: n3 :: r))), .oL (xs.map .str), cV (dI (j : Nat)), cV (dS q)] = [.reel (k + (24 - 3 * (j + 1))), cV (.val (lsE (n0 :: n1 :: n2 :: n3 :: r))), .oL (xs'.map .str), z3, z4] ∧ (∀ p ∈ xs', NP 4 p) ∧ 1 ≤ xs'.length ∧ xs'.length ≤ 2 + (j + 1) ∧ n0 ∈ xs' ∧ n1 ∈ xs' := ⟨xs, _, _, rfl, i1, i0, by omega, i3, i4⟩
      refine ss_if <| et_and <| et_test <| ee_opO2 (i := 2) (ds := xs.map .str) rfl <| ee_var rfl <| ro2_ninE eqe_str (shal_str _) ⟨_, rfl, fun e => ?_, fun e => ⟨(fun z => by cases z), fun _ => ss_next skip⟩⟩
      refine et_test <| ee_op <| ee_M1 <| ee_var rfl ⟨⟨_, rfl⟩, ee_str <| rm_count <| ee_int <| ro_lt ⟨_, rfl, fun e2 => ?_, fun e2 => ss_next skip⟩⟩
      have lo := nq.low (of_decide_eq_true e2)
      refine ss_append (ds0 := xs.map .str) (ee_var rfl ⟨.str q, xs.map .str, rfl, rfl, by rw [List.length_map]; omega, xs ++ [q], _, _, by rw [List.map_append]; rfl, fun p hp => ?_, by rw [List.length_append]; omega, by rw [List.length_append, List.length_singleton]; omega, List.mem_append_left _ i3, List.mem_append_left _ i4⟩) rfl
      rcases List.mem_append.mp hp with q1 | q1
      · exact i1 p q1
      · simp only [List.mem_singleton] at q1
        rw [q1]; exact lo
  · obtain ⟨xs, z3, z4, rfl, i1, i0, i2, i3, i4⟩ := hI
    rw [List.length_map, List.length_range] at i2
    refine ss_reelLe (j := 0) (m' := k) rfl (by omega) <| ss_freeze (i := 2) (.l (xs.map .str)) rfl (ss_ret <| ee_var rfl ⟨rfl, xs, rfl, i1, by omega, n0, n1, o0, o1, ne, i3, i4⟩)
end
end My
end P20_
section DL33_
set_option maxHeartbeats 1000000
namespace My
open PySem PySem.Spec PyProof.Rows L2 LamX
theorem set_same' {α : Type} {l : List α} {i : Nat} {x : α} (h : l[i]? = some x) : l.set i x = l := by
  apply List.ext_getElem?
  intro j
  by_cases e : i = j
  · subst e
    rw [List.getElem?_set_self (List.getElem?_eq_some_iff.mp h).1, h]
  · rw [List.getElem?_set_ne e]
section
variable {c : Ctx} {Γ : Env'} {P : Post} {B H : Hp} {σ : List (Option V)}
theorem env_rep {B' H' : Hp} {i : Nat} {v0 : Option V} {x y : Cell} {w : V} (E : EnvOk c B H σ Γ) (hv : σ[i]? = some v0) (hx : Γ[i]? = some x)
    (tr : ∀ (j : Nat) (v : Option V) (z : Cell), j ≠ i → σ[j]? = some v → Γ[j]? = some z → CellOk c B H v z → (∀ a, Owns c v0 x a → ¬ Owns c v z a) → (∀ a, H a = none → ¬ Owns c v z a) → CellOk c B' H' v z)
    (hy : CellOk c B' H' (some w) y) (how : ∀ a, Owns c (some w) y a → Owns c v0 x a ∨ H a = none) : EnvOk c B' H' (σ.set i (some w)) (Γ.set i y) := by
  have hiσ : i < σ.length := (List.getElem?_eq_some_iff.mp hv).1
  have hiΓ : i < Γ.length := (List.getElem?_eq_some_iff.mp hx).1
  have n1 : ∀ (j : Nat) (v : Option V) (z : Cell), j ≠ i → σ[j]? = some v → Γ[j]? = some z → ∀ a, Owns c v0 x a → ¬ Owns c v z a := fun j v z hj h1 h2 a o1 o2 => E.sep j i v v0 z x a hj h1 h2 hv hx o2 o1
  have n2 : ∀ (j : Nat) (v : Option V) (z : Cell), σ[j]? = some v → Γ[j]? = some z → ∀ a, H a = none → ¬ Owns c v z a := fun j v z h1 h2 a ha o => owns_live (E.at_ j v z h1 h2) o ha
  refine ⟨by rw [List.length_set, List.length_set]; exact E.len, fun j v z h1 h2 => ?_, fun j k v u z t b hjk h1 h2 h3 h4 o1 o2 => ?_⟩
  · by_cases hj : j = i
    · subst hj
      rw [List.getElem?_set_self hiσ] at h1
      rw [List.getElem?_set_self hiΓ] at h2
      cases h1; cases h2
      exact hy
    · rw [List.getElem?_set_ne (Ne.symm hj)] at h1 h2
      exact tr j v z hj h1 h2 (E.at_ j v z h1 h2) (n1 j v z hj h1 h2) (n2 j v z h1 h2)
  · by_cases hj : j = i
    · subst hj
      rw [List.getElem?_set_self hiσ] at h1
      rw [List.getElem?_set_self hiΓ] at h2
      rw [List.getElem?_set_ne hjk] at h3 h4
      cases h1; cases h2
      rcases how b o1 with q | q
      · exact n1 k u t (Ne.symm hjk) h3 h4 b q o2
      · exact n2 k u t h3 h4 b q o2
    · rw [List.getElem?_set_ne (Ne.symm hj)] at h1 h2
      by_cases hk : k = i
      · subst hk
        rw [List.getElem?_set_self hiσ] at h3
        rw [List.getElem?_set_self hiΓ] at h4
        cases h3; cases h4
        rcases how b o2 with q | q
        · exact n1 j v z hj h1 h2 b q o1
        · exact n2 j v z h1 h2 b q o1
      · rw [List.getElem?_set_ne (Ne.symm hk)] at h3 h4
        exact E.sep j k v u z t b hjk h1 h2 h3 h4 o1 o2
theorem env_LL (E : EnvOk c B H σ Γ) {i : Nat} {b : Addr} {rows : List (List PyData)} {last : List PyData} (h : Γ[i]? = some (.oLL b rows last)) :
    ∃ a ws vs, σ[i]? = some (some (.ref a)) ∧ H a = some (.lst (ws ++ [.ref b])) ∧ H b = some (.lst vs) ∧ a ≠ b ∧ B a = none ∧ B b = none ∧ Free c a ∧ Free c b ∧ DpAll c.K B ws (rows.map .list) ∧ DpAll c.K B vs last := by
  have hi : i < σ.length := by rw [E.len]; exact (List.getElem?_eq_some_iff.mp h).1
  obtain ⟨v, hv⟩ : ∃ v, σ[i]? = some v := ⟨_, List.getElem?_eq_getElem hi⟩
  have q := E.at_ i v _ hv h
  cases v with
  | none => exact q.elim
  | some v =>
    obtain ⟨a, ws, vs, e, r⟩ := q
    subst e
    exact ⟨a, ws, vs, hv, r⟩
/-- xs = [[e]] -/
theorem ss_newLL {te : TE} {i : Nat} (hi : i < Γ.length) (h : EE c te Γ fun x Γ1 => Γ1.length = Γ.length ∧ ∃ d, x = .val d ∧ ∀ b, P.nx (Γ1.set i (.oLL b [] [d]))) : SS c (tAsg (tLst (tCons (tLst (tCons te tNil)) tNil)) (gName i)) Γ P := fun σ B H D C E n r b k =>
  h σ B H C E _ fun v B1 H1 x Γ1 s1 d1 ⟨hl, d, e, p⟩ => by
    subst e
    refine ⟨len_lit (n := 1) (by decide), fun b hb => ⟨len_lit (n := 1) (by decide), fun a ha => ?_⟩⟩
    have hbB := s1.cur.sub.none hb
    have c2 := cur_new (o := .lst [v]) s1.cur hb
    have haB := c2.sub.none ha
    have fb := new_free s1.cur hb
    have fa := new_free c2 ha
    have hbl : (upd H1 b (.lst [v])) b = some (.lst [v]) := upd_same
    have ne : a ≠ b := fun z => by rw [z, upd_same] at ha; cases ha
    have ha1 : H1 a = none := by rw [upd_ne ne] at ha; exact ha
    have hi2 : i < σ.length := by rw [s1.env.len, hl]; exact hi
    obtain ⟨v0, hv0⟩ : ∃ v, σ[i]? = some v := ⟨_, List.getElem?_eq_getElem hi2⟩
    obtain ⟨x0, hx0⟩ : ∃ x, Γ1[i]? = some x := ⟨_, List.getElem?_eq_getElem (by rw [hl]; exact hi)⟩
    refine n _ B1 _ _ (cur_new c2 ha) s1.b (env_rep (y := .oLL b [] [d]) s1.env hv0 hx0 (fun j v z hj h1 h2 q n1 n2 => (q.other (n2 b hb)).other (n2 a ha1)) ⟨a, [], [v], rfl, upd_same, by rw [upd_ne ne.symm, upd_same], ne, haB, hbB, fa, fb, .nil, .cons d1 .nil⟩ fun x o => ?_) (p b)
    rcases (show some (V.ref a) = some (.ref x) ∨ x = b from o) with o | o
    · rw [ref_inj o]; exact .inr ha1
    · rw [o]; exact .inr hb
abbrev tNeg1 : TE := tUn (L2.rU fun i => .int (-i)) (tC (.int 1))
theorem atI_lastL {α : Type} {ws : List α} {b : α} : atI (ws ++ [b]) (-1) = some b := by
  unfold atI ixN
  rw [if_neg (by decide), if_pos (by rw [List.length_append, List.length_singleton]; omega)]
  show (ws ++ [b])[(-1 + ((ws ++ [b]).length : Int)).toNat]? = some b
  have e : (-1 + ((ws ++ [b]).length : Int)).toNat = ws.length := by rw [List.length_append, List.length_singleton]; omega
  rw [e]
  simp
theorem ee_lenLast {K : PySem.W.Frag} {i : Nat} {b : Addr} {rows : List (List PyData)} {last : List PyData} {P : Dat → Env' → Prop} (hK : c.K = K) (hi : Γ[i]? = some (.oLL b rows last)) (h : P (dI last.length) Γ) : EE c (tCB (rLen K) (tCons (tOp (rIx K) (tVar i) tNeg1) tNil)) Γ P := fun σ B H C E Q q => by
  subst hK
  obtain ⟨a, ws, vs, hv, hH, hG, ne, hB, hBb, fa, fb, da, db⟩ := env_LL E hi
  refine ⟨_, hv, 1, rfl, .inl ⟨a, _, -1, _, rfl, rfl, SqL.of hH, atI_lastL, ?_⟩⟩
  refine ⟨_, vs.length, rfl, .inl ⟨vs, SqL.of hG, rfl⟩, ?_⟩
  rw [DpAll.length db]
  exact q _ B H (dI _) Γ (St1.refl C E) (Dp.int _) h
theorem ee_lenRows {K : PySem.W.Frag} {i : Nat} {b : Addr} {rows : List (List PyData)} {last : List PyData} {P : Dat → Env' → Prop} (hK : c.K = K) (hi : Γ[i]? = some (.oLL b rows last)) (h : P (dI ((rows.length + 1 : Nat) : Int)) Γ) : EE c (tCB (rLen K) (tCons (tVar i) tNil)) Γ P := fun σ B H C E Q q => by
  subst hK
  obtain ⟨a, ws, vs, hv, hH, hG, ne, hB, hBb, fa, fb, da, db⟩ := env_LL E hi
  refine ⟨_, hv, _, (ws ++ [V.ref b]).length, rfl, .inl ⟨_, SqL.of hH, rfl⟩, ?_⟩
  rw [List.length_append, List.length_singleton, DpAll.length da, List.length_map]
  exact q _ B H (dI _) Γ (St1.refl C E) (Dp.int _) h
/-- xs.append([e]) -/
theorem ss_rowNew {te : TE} {i : Nat} {b : Addr} {rows : List (List PyData)} {last : List PyData} (hi : Γ[i]? = some (.oLL b rows last)) (hl : rows.length < 1000000)
    (h : EE c te Γ fun x Γ1 => Γ1[i]? = some (.oLL b rows last) ∧ ∃ d, x = .val d ∧ ∀ b', P.nx (Γ1.set i (.oLL b' (rows ++ [last]) [d]))) : SS c (tDrop (tBM c.K "list" rAppend (tVar i) (tCons (tLst (tCons te tNil)) tNil))) Γ P := fun σ B H D C E n r k1 k2 => by
  obtain ⟨a0, ws0, vs0, hv0, hH0, _⟩ := env_LL E hi
  refine ⟨_, hv0, .inl ⟨rfl, _, SqL.of hH0⟩, ?_⟩
  refine h σ B H C E _ fun v B1 H1 x Γ1 s1 d1 ⟨h1, d, e, p⟩ => ?_
  subst e
  obtain ⟨a, ws, vs, hv, hH, hG, ne, hB, hBb, fa, fb, da, db⟩ := env_LL s1.env h1
  have ea : a0 = a := V.ref.inj (same_ref hv0 hv)
  subst ea
  refine ⟨len_lit (n := 1) (by decide), fun l hl2 => ?_⟩
  have na : a0 ≠ l := fun z => by rw [z, hl2] at hH; cases hH
  have nb : b ≠ l := fun z => by rw [z, hl2] at hG; cases hG
  have hlB := s1.cur.sub.none hl2
  have c2 := cur_new (o := .lst [v]) s1.cur hl2
  have hH2 : (upd H1 l (.lst [v])) a0 = some (.lst (ws ++ [.ref b])) := by rw [upd_ne na]; exact hH
  refine ⟨a0, ws ++ [.ref b], .ref l, rfl, rfl, hH2, ?_, ?_⟩
  · rw [List.length_append, List.length_singleton, DpAll.length da, List.length_map]
    exact Nat.lt_of_lt_of_le (by omega : rows.length + 1 < 1000001) (by decide)
  · have c3 := cur_write (o := .lst (ws ++ [.ref b] ++ [.ref l])) c2 hB fa.1 (lst_ne hH2).1 (lst_ne hH2).2
    have hG3 : (upd (upd H1 l (.lst [v])) a0 (.lst (ws ++ [.ref b] ++ [.ref l]))) b = some (.lst vs) := by rw [upd_ne ne.symm, upd_ne nb]; exact hG
    have c4 := cur_withB c3 hBb hG3 fb.1 fb.2
    have ex : Ex B1 (withB B1 b (.lst vs)) := Ex.new hBb
    have E4 := env_rep (B' := withB B1 b (.lst vs)) (H' := upd (upd H1 l (.lst [v])) a0 (.lst (ws ++ [.ref b] ++ [.ref l]))) (w := .ref a0) (y := .oLL l (rows ++ [last]) [d]) s1.env hv h1 (fun j v z hj h1 h2 q n1 n2 => ((q.other (n2 l hl2)).other (n1 a0 (.inl rfl))).withB hBb (n1 b (.inr rfl)))
      ⟨a0, ws ++ [.ref b], [v], rfl, upd_same, by rw [upd_ne na.symm, upd_same], na, (upd_ne ne).trans hB, (upd_ne nb.symm).trans hlB, fa, new_free s1.cur hl2, by
        rw [List.map_append]
        exact DpAll.append (DpAll.mono ex da) (.cons (Dp.lst (SqL.of upd_same) (DpAll.mono ex db)) .nil), .cons (Dp.mono ex d1) .nil⟩ fun x o => by
        rcases (show some (V.ref a0) = some (.ref x) ∨ x = l from o) with o | o
        · rw [ref_inj o]; exact .inl (.inl rfl)
        · rw [o]; exact .inr hl2
    rw [set_same' hv] at E4
    exact n σ _ _ _ c4 (s1.b.trans ex) E4 (p l)
/-- xs[-1].append(e) -/
theorem ss_rowAdd {K : PySem.W.Frag} {te : TE} {i : Nat} {b : Addr} {rows : List (List PyData)} {last : List PyData} (hK : c.K = K) (hi : Γ[i]? = some (.oLL b rows last)) (hl : last.length < 1000000)
    (h : EE c te Γ fun x Γ1 => Γ1[i]? = some (.oLL b rows last) ∧ ∃ d, x = .val d ∧ P.nx (Γ1.set i (.oLL b rows (last ++ [d])))) : SS c (tDrop (tBM c.K "list" rAppend (tOp (rIx K) (tVar i) tNeg1) (tCons te tNil))) Γ P := fun σ B H D C E n r k1 k2 => by
  subst hK
  obtain ⟨a0, ws0, vs0, hv0, hH0, hG0, _⟩ := env_LL E hi
  refine ⟨_, hv0, 1, rfl, .inl ⟨a0, _, -1, _, rfl, rfl, SqL.of hH0, atI_lastL, .inl ⟨rfl, _, SqL.of hG0⟩, ?_⟩⟩
  refine h σ B H C E _ fun v B1 H1 x Γ1 s1 d1 ⟨h1, d, e, p⟩ => ?_
  subst e
  obtain ⟨a, ws, vs, hv, hH, hG, ne, hB, hBb, fa, fb, da, db⟩ := env_LL s1.env h1
  have ea : a0 = a := V.ref.inj (same_ref hv0 hv)
  subst ea
  refine ⟨b, vs, v, rfl, rfl, hG, Nat.lt_of_lt_of_le (by rw [DpAll.length db]; exact hl) (by decide), ?_⟩
  have c2 := cur_write (o := .lst (vs ++ [v])) s1.cur hBb fb.1 (lst_ne hG).1 (lst_ne hG).2
  have E4 := env_rep (B' := B1) (H' := upd H1 b (.lst (vs ++ [v]))) (w := .ref a0) (y := .oLL b rows (last ++ [d])) s1.env hv h1 (fun j v z hj h1 h2 q n1 n2 => q.other (n1 b (.inr rfl)))
    ⟨a0, ws, vs ++ [v], rfl, by rw [upd_ne ne]; exact hH, upd_same, ne, hB, hBb, fa, fb, da, DpAll.append db (.cons d1 .nil)⟩ fun x o => .inl o
  rw [set_same' hv] at E4
  exact n σ _ _ _ c2 s1.b E4 p
/-- the rows may be read from now on -/
theorem ss_freezeLL {t : TS} {i : Nat} {b : Addr} {rows : List (List PyData)} {last : List PyData} (hi : Γ[i]? = some (.oLL b rows last)) (h : SS c t (Γ.set i (cV (dL ((rows ++ [last]).map .list)))) P) : SS c t Γ P := fun σ B H D C E n r k1 k2 => by
  obtain ⟨a, ws, vs, hv, hH, hG, ne, hB, hBb, fa, fb, da, db⟩ := env_LL E hi
  have c2 := cur_withB C hBb hG fb.1 fb.2
  have hB2 : (withB B b (.lst vs)) a = none := (upd_ne ne).trans hB
  have c3 := cur_withB c2 hB2 hH fa.1 fa.2
  have e1 : Ex B (withB B b (.lst vs)) := Ex.new hBb
  have e2 : Ex (withB B b (.lst vs)) (withB (withB B b (.lst vs)) a (.lst (ws ++ [.ref b]))) := Ex.new hB2
  have E4 := env_rep (B' := withB (withB B b (.lst vs)) a (.lst (ws ++ [.ref b]))) (H' := H) (w := .ref a) (y := cV (dL ((rows ++ [last]).map .list))) E hv hi (fun j v z hj h1 h2 q n1 n2 => (q.withB hBb (n1 b (.inr rfl))).withB hB2 (n1 a (.inl rfl)))
    (Dp.lst (SqL.of upd_same) (by
      rw [List.map_append]
      exact DpAll.append (DpAll.mono (e1.trans e2) da) (.cons (Dp.lst (SqL.of ((upd_ne ne.symm).trans upd_same)) (DpAll.mono (e1.trans e2) db)) .nil))) fun x o => o.elim
  rw [set_same' hv] at E4
  have ex := e1.trans e2
  exact h σ _ H D c3 E4 (fun σ2 B2 H2 Γ2 C2 b2 E2 p => n σ2 B2 H2 Γ2 C2 (ex.trans b2) E2 p) (fun v σ2 B2 H2 x Γ2 C2 b2 E2 d p => r v σ2 B2 H2 x Γ2 C2 (ex.trans b2) E2 d p)
    (fun σ2 B2 H2 Γ2 C2 b2 E2 p => k1 σ2 B2 H2 Γ2 C2 (ex.trans b2) E2 p) (fun σ2 B2 H2 Γ2 C2 b2 E2 p => k2 σ2 B2 H2 Γ2 C2 (ex.trans b2) E2 p)
end
end My
end DL33_
section P21_
set_option maxHeartbeats 1000000
namespace My
open PySem PySem.Spec PyProof.Rows L2 LamX
/-- rows of some paths -/
structure LRows (ps : List Str) (rs : List (List Str)) : Prop where
  flat : rs.flatten = ps
  lo : 2 ≤ rs.length
  hi : rs.length ≤ 5
  row : ∀ r ∈ rs, 1 ≤ r.length ∧ r.length ≤ 4
abbrev spLRows (K : PySem.W.Frag) (T : List (Addr × Str)) : Sp := SpR K T (fun i : List Str => [.val (lsE i)]) (fun i => 2 ≤ i.length ∧ i.length ≤ 6 ∧ i.Nodup) (fun _ => 6) (fun i x => ∃ rs, x = .val (rowsE rs) ∧ LRows i rs)
theorem flat_len {α : Type} : ∀ {rs : List (List α)}, (∀ r ∈ rs, 1 ≤ r.length) → rs.length ≤ rs.flatten.length
  | [], _ => Nat.le_refl _
  | a :: l, h => by
    have h1 := h a (by simp)
    have ih := flat_len (rs := l) fun r hr => h r (List.mem_cons_of_mem _ hr)
    rw [List.flatten_cons, List.length_append, List.length_cons]
    omega
section
variable {P : Program} {w : World} {K : PySem.W.Frag} {mg : Str → Option Value} {base : Heap} {T : List (Addr × Str)}
theorem sc__law_rows : FnScope ["_law_reel_here", "_law_paths", "_law_rows_here", "_law_path", "_law_again", "_law_row"] ["_law_reel_here", "_law_paths"] (defScope sLawRows) := ⟨rfl, rfl, rfl, by decide +kernel, rfl, by decide +kernel, by decide +kernel⟩
theorem ok__law_rows (W : Wd K mg) : DefOk P w K mg base "_law_rows" ["_law_reel_here", "_law_paths"] 2 (spLRows K T) := by
  obtain ⟨f, fd, hm, F⟩ := W.f__law_rows
  have D__law_pull := ok__law_pull (P := P) (w := w) (base := base) (T := T) W
  refine ⟨f, fd, hm, F.kp, F.bindsN fun _ _ _ _ _ _ us hl => match us, hl with | [_, _], _ => rfl, F.ok sc__law_rows (spr_len fun _ => rfl) fun cdv A outer s H vs Q E hr h => ?_⟩
  have nd := sc__law_rows.nd
  have hu64 := hr.units
  have hu1 := hu_of hr
  refine ⟨_, PSs.nox ((pss_cons (ps_set (i := 2) nd rfl (by first | exact Or.inl rfl | exact Or.inr rfl) (pe_lst (pa_cons (pe_lst (pa_cons (pe_ix (ix_seqK (K := K) rfl) (pv 1) pe_int (fun _ _ => rfl)) pa_nil)) pa_nil)))
    (pss_cons (ps_for PassesOwn.never rfl (pi_listK (K := K) rfl (pe_slice (sl_listK (K := K) rfl) (pv 1) (po_some pe_int) po_none)) (pg_name (i := 3) nd rfl (by first | exact Or.inl rfl | exact Or.inr rfl))
    (pss_cons (ps_set (i := 4) nd rfl (by first | exact Or.inl rfl | exact Or.inr rfl) (pe_or (pe_cmpR (op_eqK (K := K) rfl hu64) (pe_callD D__law_pull (hr.mono (by decide)) rfl (pa_cons (pv 0) (pa_cons pe_int pa_nil))) pe_int (nomark _)) (pe_or (pe_cmpR (op_eqK (K := K) rfl hu64) (pe_callB (cr_lenK (K := K) rfl) rfl W.b_len boot_len (pa_cons (pe_ix (ix_seqK (K := K) rfl) (pv 2) (pe_un un_neg pe_int) (fun _ _ => rfl)) pa_nil)) pe_int (nomark _)) (pe_one (pe_and (pe_cmpR (op_eqK (K := K) rfl hu64) (pe_callB (cr_lenK (K := K) rfl) rfl W.b_len boot_len (pa_cons (pv 2) pa_nil)) pe_int (nomark _)) (pe_one (pe_cmpR (op_eqK (K := K) rfl hu64) (pv 3) (pe_ix (ix_seqK (K := K) rfl) (pv 1) (pe_un un_neg pe_int) (fun _ _ => rfl)) (nomark _))))))))
    (pss_one (ps_if (PW.pt (pw_and (pt_val (pv 4)) (pw_and1 (pt_cmpR op_lt (pe_callB (cr_lenK (K := K) rfl) rfl W.b_len boot_len (pa_cons (pv 2) pa_nil)) pe_int (nomark _)))))
    (pss_one (ps_expr (pe_bm PySem.F.plainAttrs_list PySem.F.slot_list_append PySem.F.type_list_append mt_append (pv 2) (pa_cons (pe_lst (pa_cons (pv 3) pa_nil)) pa_nil))))
    (pss_one (ps_expr (pe_bm PySem.F.plainAttrs_list PySem.F.slot_list_append PySem.F.type_list_append mt_append (pe_ix (ix_seqK (K := K) rfl) (pv 2) (pe_un un_neg pe_int) (fun _ _ => rfl)) (pa_cons (pv 3) pa_nil))))))))
    (pss_one (ps_ret (pe_callTy (cr_tupK (K := K) rfl) rfl W.b_tuple boot_tuple (pa_cons (pe_lc (own := [("_law_row", 5)]) rfl nd (pi_listK (K := K) rfl (pv 2)) (blkOk_by (own := [("_law_row", 5)]) (N := ["_law_reel_here", "_law_paths", "_law_rows_here", "_law_path", "_law_again", "_law_row"]) (sc := defScope sLawRows) (by decide +kernel)) (fun _ _ _ _ _ => (pg_name (i := 5) nd rfl (by first | exact Or.inl rfl | exact Or.inr rfl))) (fun _ _ _ _ _ => pts_nil) (fun _ _ _ _ _ => (pe_callTy (cr_tupK (K := K) rfl) rfl W.b_tuple boot_tuple (pa_cons (pv 5) pa_nil)))) pa_nil))))))), sp_goR (fun H0 B0 rg sm i k hp => ?_) h⟩
  obtain ⟨h2, h6, hd⟩ := hp
  obtain ⟨p0, r, rfl⟩ : ∃ p0 r, i = p0 :: r := by
    cases i with
    | nil => simp at h2
    | cons a l => exact ⟨a, l, rfl⟩
  have hrl : r.length ≤ 5 := by simpa using h6
  have hr1 : 1 ≤ r.length := by simpa using h2
  have g0 : atI ((p0 :: r).map PyData.str) 0 = some (.str p0) := atI_nat (j := 0) rfl
  refine ss_seq <| ss_newLL (by show 2 < 6; decide) <| ee_op <| ee_var rfl <| ee_int <| ro_ixL g0 ⟨rfl, _, rfl, fun b0 => ?_⟩
  refine ss_seq <| ss_for (vs := [3]) <| wi_list <| ee_sl <| ee_var rfl <| eo_some <| ee_int ⟨_, rfl, eo_none <| RU1.ru <| ru1_sl ⟨r.map .str, ?_, fun j Γ1 => ∃ (b : Addr) (rows : List (List Str)) (last : List Str) (z3 z4 : Cell), Γ1 = [.reel (k + (6 - j)), cV (.val (lsE (p0 :: r))), .oLL b (rows.map (List.map .str)) (last.map .str), z3, z4, .unk] ∧
      rows.flatten ++ last = p0 :: r.take j ∧ rows.length ≤ 4 ∧ (∀ x ∈ rows, 1 ≤ x.length ∧ x.length ≤ 4) ∧ 1 ≤ last.length ∧ last.length ≤ 4 ∧ (j = r.length → 1 ≤ rows.length),
    ⟨b0, [], [p0], _, _, rfl, rfl, (by decide), (fun _ h => by cases h), (by show 1 ≤ 1; decide), (by show 1 ≤ 4; decide), fun e => by omega⟩, fun j d Γ1 hd2 hI => ?_, fun Γ1 hI => ?_⟩⟩
  · rw [show (1 : Int) = ((1 : Nat) : Int) from rfl, cutD_from]
    rfl
  · obtain ⟨b, rows, last, z3, z4, rfl, i1, i2, i3, i4, i5, i6⟩ := hI
    obtain ⟨p, hp, rfl⟩ := map_get hd2
    have hjl := (List.getElem?_eq_some_iff.mp hp).1
    have hlen : rows.flatten.length + last.length = j + 1 := by
      have := congrArg List.length i1
      rw [List.length_append, List.length_cons, List.length_take] at this
      omega
    have hfl := flat_len (rs := rows) fun x hx => (i3 x hx).1
    have gl : atI ((p0 :: r).map PyData.str) (-1) = some (.str ((p0 :: r).getLast (by simp))) := by
      have e : (p0 :: r).map PyData.str = ((p0 :: r).dropLast).map .str ++ [.str ((p0 :: r).getLast (by simp))] := by
        have := congrArg (List.map PyData.str) (List.dropLast_concat_getLast (l := p0 :: r) (by simp)).symm
        rwa [List.map_append] at this
      rw [e]
      exact atI_lastL
    refine sg_name ?_ (by simp)
    refine ss_cut (fun Γ1 => ∃ (a : Bool), Γ1 = [.reel (k + (6 - (j + 1))), cV (.val (lsE (p0 :: r))), .oLL b (rows.map (List.map .str)) (last.map .str), cV (dS p), cV (dB a), .unk] ∧ (a = false → last.length ≠ 4 ∧ (rows.length = 0 → p ≠ (p0 :: r).getLast (by simp)))) ?_ ?_
    · refine ss_set <| ee_orV <| ee_op <| ee_callR rfl rfl (j := 0) rfl <| ea_cons <| ee_int <| ea_nil ⟨2, k + (6 - (j + 1)), rfl, ⟨by decide, by decide⟩, ⟨_, rfl, by omega⟩, fun x ⟨v, hv, ex⟩ => ?_⟩
      subst ex
      refine ee_int <| ro_eqI ⟨_, rfl, fun _ => ⟨true, rfl, fun z => by cases z⟩, fun _ => ee_orV <| ee_op <| ee_lenLast rfl (i := 2) rfl <| ee_int <| ro_eqI ⟨_, rfl, fun _ => ⟨true, rfl, fun z => by cases z⟩, fun e2 => ee_andV <| ee_op <| ee_lenRows rfl (i := 2) rfl <| ee_int <| ro_eqI ⟨_, rfl, fun e3 => ?_, fun e3 => ⟨false, rfl, fun _ => ⟨fun e => ?_, fun e => ?_⟩⟩⟩⟩⟩
      · refine ee_op <| ee_var rfl <| ee_op <| ee_var rfl <| ee_un <| ee_int <| ru_neg <| ro_ixL gl <| ro_eqS ⟨_, rfl, fun e4 => ⟨fun e => ?_, fun _ => of_decide_eq_false e4⟩⟩
        have := of_decide_eq_false e2
        rw [List.length_map] at this
        omega
      · have := of_decide_eq_false e2
        rw [List.length_map] at this
        omega
      · have := of_decide_eq_false e3
        rw [List.length_map] at this
        omega
    · rintro Γ1 ⟨a, rfl, ha⟩
      have add : (a = false ∨ ¬ rows.length < 4) → ∀ Q : Post, (∀ Γ1, (∃ (b : Addr) (rows : List (List Str)) (last : List Str) (z3 z4 : Cell), Γ1 = [.reel (k + (6 - (j + 1))), cV (.val (lsE (p0 :: r))), .oLL b (rows.map (List.map .str)) (last.map .str), z3, z4, .unk] ∧
              rows.flatten ++ last = p0 :: r.take (j + 1) ∧ rows.length ≤ 4 ∧ (∀ x ∈ rows, 1 ≤ x.length ∧ x.length ≤ 4) ∧ 1 ≤ last.length ∧ last.length ≤ 4 ∧ (j + 1 = r.length → 1 ≤ rows.length)) → Q.nx Γ1) → SS { K := K, T := T, H0 := H0, B0 := B0, rg := rg, sm := sm } (tDrop (tBM K "list" rAppend (tOp (rIx K) (tVar 2) tNeg1) (tCons (tVar 3) tNil))) [.reel (k + (6 - (j + 1))), cV (.val (lsE (p0 :: r))), .oLL b (rows.map (List.map .str)) (last.map .str), cV (dS p), cV (dB a), .unk]
          Q := fun hor Q hQ => by
        refine ss_rowAdd rfl (i := 2) rfl (by rw [List.length_map]; omega) <| ee_var rfl ⟨rfl, _, rfl, hQ _ ⟨b, rows, last ++ [p], _, _, by rw [List.map_append]; rfl, ?_, i2, i3, by rw [List.length_append]; omega, ?_, fun e => ?_⟩⟩
        · rw [take_snoc hp, ← List.append_assoc, i1]
          rfl
        · rw [List.length_append, List.length_singleton]
          rcases hor with q | q
          · have := (ha q).1
            omega
          · omega
        · rcases hor with q | q
          · have q2 := (ha q).2
            apply Nat.pos_of_ne_zero
            intro z
            refine q2 z ?_
            have e1 : (p0 :: r).getLast? = some p := by
              rw [List.getLast?_eq_getElem?, List.length_cons, Nat.add_sub_cancel, ← e]
              exact hp
            rw [List.getLast?_eq_getLast (by simp)] at e1
            exact (Option.some.inj e1).symm
          · omega
      refine ss_if <| et_and <| et_B <| ee_var rfl ⟨a, rfl, fun e => ?_, fun e => ⟨(fun z => by cases z), fun _ => add (.inl e) _ fun _ h => h⟩⟩
      refine et_test <| ee_op <| ee_lenRows rfl (i := 2) rfl <| ee_int <| ro_lt ⟨_, rfl, fun e2 => ?_, fun e2 => ?_⟩
      · have hlt := of_decide_eq_true e2
        rw [List.length_map] at hlt
        refine ss_rowNew (i := 2) rfl (by rw [List.length_map]; omega) <| ee_var rfl ⟨rfl, _, rfl, fun b' => ⟨b', rows ++ [last], [p], _, _, by rw [List.map_append]; rfl, ?_, by rw [List.length_append, List.length_singleton]; omega, fun x hx => ?_, (by show 1 ≤ 1; decide), (by show 1 ≤ 4; decide), fun _ => by rw [List.length_append, List.length_singleton]; omega⟩⟩
        · rw [take_snoc hp, List.flatten_append, List.flatten_cons, List.flatten_nil, List.append_nil, i1]
          rfl
        · rcases List.mem_append.mp hx with q | q
          · exact i3 x q
          · simp only [List.mem_singleton] at q
            rw [q]; exact ⟨i4, i5⟩
      · have hlt := of_decide_eq_false e2
        rw [List.length_map] at hlt
        exact add (.inr (by omega)) _ fun _ h => h
  · obtain ⟨b, rows, last, z3, z4, rfl, i1, i2, i3, i4, i5, i6⟩ := hI
    rw [List.length_map] at i1 i6
    rw [List.take_length] at i1
    refine ss_reelLe (j := 0) (m' := k) rfl (by omega) <| ss_freezeLL (i := 2) rfl ?_
    have e : ((rows.map (List.map PyData.str)) ++ [last.map PyData.str]).map PyData.list = (rows ++ [last]).map lsE := by
      rw [List.map_append, List.map_append, List.map_map]
      rfl
    rw [e]
    refine ss_ret <| ee_CB <| ea_cons <| ee_lc <| wi_list <| ee_var rfl ⟨(rows ++ [last]).map lsE, rfl, lc1 lsE sE id (by rw [List.length_append, List.length_singleton]; omega) (hno_unk rfl) (fun x hx => ?_) <| ea_nil <| RL1.rl <| rl_tupL ⟨rfl, rows ++ [last], by rw [List.map_id], ?_, ?_, ?_, fun x hx => ?_⟩⟩
    · exact ee_CB <| ea_cons <| ee_var rfl <| ea_nil <| RL1.rl <| rl_tupL ⟨rfl, rfl⟩
    · rw [List.flatten_append, List.flatten_cons, List.flatten_nil, List.append_nil, i1]
    · have := i6 rfl
      rw [List.length_append, List.length_singleton]; omega
    · rw [List.length_append, List.length_singleton]; omega
    · rcases List.mem_append.mp hx with q | q
      · exact i3 x q
      · simp only [List.mem_singleton] at q
        rw [q]; exact ⟨i4, i5⟩
end
end My
end P21_
section P22_
set_option maxHeartbeats 1000000
namespace My
open PySem PySem.Spec PyProof.Rows L2 LamX
inductive Kd where
  | forbid | layers | stairs | apart | only | face | noring
  deriving DecidableEq
def kdS : Kd → Str
  | .forbid => Str.ofString "forbid"
  | .layers => Str.ofString "layers"
  | .stairs => Str.ofString "stairs"
  | .apart => Str.ofString "apart"
  | .only => Str.ofString "only"
  | .face => Str.ofString "face"
  | .noring => Str.ofString "noring"
theorem kdS_inj : ∀ a b : Kd, kdS a = kdS b → a = b := by
  intro a b
  cases a <;> cases b <;> first | exact fun _ => rfl | (intro h; revert h; decide +kernel)
/-- what is drawn of the spots: two paths at least -/
theorem Alone.two {sp : List Str} {lim : Nat} {qs : List Str} (h : Alone sp lim qs) (s : SpotsOk sp) (hl : 2 ≤ lim) : 2 ≤ qs.length := by
  apply Classical.byContradiction
  intro hn
  obtain ⟨a, b, ha, hb, ne, ma, mb⟩ := s.two
  have far := h.all (by omega)
  obtain ⟨x, hx, ox⟩ := far a ma
  obtain ⟨y, hy, oy⟩ := far b mb
  have e : x = y := by
    cases qs with
    | nil => cases hx
    | cons q l =>
      cases l with
      | nil =>
        simp only [List.mem_singleton] at hx hy
        rw [hx, hy]
      | cons z l => simp at hn
  subst e
  have cv : ∀ {n : Str}, nameOk n → ovl x n = true → cov n x = true := fun {n} hn o => by
    rcases (Bool.or_eq_true _ _).mp o with q | q
    · rcases cov_cnt q with e | e
      · rw [e]; unfold cov; simp
      · rw [cnt_name hn] at e
        have := cnt_nn (ls x)
        omega
    · exact q
  have := cov_meet (cv ha ox) (cv hb oy)
  rw [ovl_names ha hb ne] at this
  cases this
theorem Alone.rule {sp : List Str} {lim : Nat} {qs : List Str} (h : Alone sp lim qs) (s : ∀ p ∈ sp, NP 4 p) : ∀ q ∈ qs, rulePathOk q := fun q hq => (s q (h.sub q hq)).rule
theorem NoOv.sub {l m : List Str} (h : NoOv l) (s : m.Sublist l) : NoOv m := List.Pairwise.sublist s h
abbrev spRuleOf (K : PySem.W.Frag) (T : List (Addr × Str)) : Sp := SpR K T (fun i : Kd × List Str => [dS (kdS i.1), .val (lsE i.2)]) (fun i => SpotsOk i.2) (fun _ => 30) (fun i x => ∃ r, x = .val (rE r) ∧ RuleOk r)
abbrev spRule (K : PySem.W.Frag) (T : List (Addr × Str)) : Sp := SpR K T (fun i : List Str => [.val (lsE i)]) (fun i => SpotsOk i) (fun _ => 31) (fun i x => ∃ r, x = .val (rE r) ∧ RuleOk r)
theorem dep_str (x : Str) : (PyData.str x).depth ≤ 1 := by rw [PyData.depth]; omega
theorem dep_rE (r : Rule) : (rE r).depth ≤ 5 := by
  have h1 : ∀ l : List Str, (sE l).depth ≤ 2 := dep_tE dep_str
  have h2 : ∀ l : List (List Str), (rowsE l).depth ≤ 3 := dep_tE h1
  have all : ∀ ds : List PyData, (∀ d ∈ ds, d.depth ≤ 3) → (PyData.tuple ds).depth ≤ 5 := fun ds h => by
    rw [PyData.depth]
    have := depthAll_le h
    omega
  refine all _ fun d hd => ?_
  cases r with
  | forbid s t c =>
    simp only [rD, List.mem_cons, List.not_mem_nil, or_false] at hd
    rcases hd with e | e | e | e <;> subst e
    · exact Nat.le_trans (dep_str _) (by decide)
    · exact Nat.le_trans (h1 _) (by decide)
    · exact Nat.le_trans (h1 _) (by decide)
    · exact Nat.le_trans (dep_str _) (by decide)
  | layers s c =>
    simp only [rD, List.mem_cons, List.not_mem_nil, or_false] at hd
    rcases hd with e | e | e <;> subst e
    · exact Nat.le_trans (dep_str _) (by decide)
    · exact h2 _
    · exact Nat.le_trans (dep_str _) (by decide)
  | stairs s =>
    simp only [rD, List.mem_cons, List.not_mem_nil, or_false] at hd
    rcases hd with e | e <;> subst e
    · exact Nat.le_trans (dep_str _) (by decide)
    · exact h2 _
  | apart p c =>
    simp only [rD, List.mem_cons, List.not_mem_nil, or_false] at hd
    rcases hd with e | e | e <;> subst e
    · exact Nat.le_trans (dep_str _) (by decide)
    · exact Nat.le_trans (h1 _) (by decide)
    · exact Nat.le_trans (dep_str _) (by decide)
  | only t u =>
    simp only [rD, List.mem_cons, List.not_mem_nil, or_false] at hd
    rcases hd with e | e | e <;> subst e
    · exact Nat.le_trans (dep_str _) (by decide)
    · exact Nat.le_trans (h1 _) (by decide)
    · exact Nat.le_trans (h1 _) (by decide)
  | face h x =>
    simp only [rD, List.mem_cons, List.not_mem_nil, or_false] at hd
    rcases hd with e | e | e <;> subst e
    · exact Nat.le_trans (dep_str _) (by decide)
    · exact Nat.le_trans (dep_str _) (by decide)
    · exact Nat.le_trans (h1 _) (by decide)
  | noring p =>
    simp only [rD, List.mem_cons, List.not_mem_nil, or_false] at hd
    rcases hd with e | e <;> subst e
    · exact Nat.le_trans (dep_str _) (by decide)
    · exact Nat.le_trans (h1 _) (by decide)
theorem shal_rE (r : Rule) : Shal (rE r) := Nat.le_trans (dep_rE r) (by decide)
section
variable {P : Program} {w : World} {K : PySem.W.Frag} {mg : Str → Option Value} {base : Heap} {T : List (Addr × Str)}
theorem sc__law_rule_of : FnScope ["_law_reel_here", "_law_kind", "_law_spots_here", "_law_how", "_law_paths", "_law_cut", "_law_head", "_law_below", "_law_path"] ["_law_reel_here", "_law_kind", "_law_spots_here"] (defScope sLawRuleOf) := ⟨rfl, rfl, rfl, by decide +kernel, rfl, by decide +kernel, by decide +kernel⟩
theorem ok__law_rule_of (W : Wd K mg) : DefOk P w K mg base "_law_rule_of" ["_law_reel_here", "_law_kind", "_law_spots_here"] 4 (spRuleOf K T) := by
  obtain ⟨f, fd, hm, F⟩ := W.f__law_rule_of
  have D__law_alone := ok__law_alone (P := P) (w := w) (base := base) (T := T) W
  have D__law_pull := ok__law_pull (P := P) (w := w) (base := base) (T := T) W
  have D__law_under := ok__law_under (P := P) (w := w) (base := base) (T := T) W
  have D__law_pick := ok__law_pick (P := P) (w := w) (base := base) (T := T) W
  have D__law_rows := ok__law_rows (P := P) (w := w) (base := base) (T := T) W
  refine ⟨f, fd, hm, F.kp, F.bindsN fun _ _ _ _ _ _ us hl => match us, hl with | [_, _, _], _ => rfl, F.ok sc__law_rule_of (spr_len fun _ => rfl) fun cdv A outer s H vs Q E hr h => ?_⟩
  have nd := sc__law_rule_of.nd
  have hu64 := hr.units
  have hu1 := hu_of hr
  refine ⟨_, PSs.nox ((pss_cons (ps_par (i := 3) (j := 4) (by rfl) nd rfl rfl (by decide) rfl rfl (pa_cons (pe_callD D__law_pick (hr.mono (by decide)) rfl (pa_cons (pv 0) (pa_cons (pe_lst (pa_cons pe_str (pa_cons pe_str pa_nil))) pa_nil))) (pa_cons (pe_callD D__law_alone (hr.mono (by decide)) rfl (pa_cons (pv 0) (pa_cons (pv 2) (pa_cons (pe_op (op_addK (K := K) rfl) pe_int (pe_callD D__law_pull (hr.mono (by decide)) rfl (pa_cons (pv 0) (pa_cons pe_int pa_nil)))) pa_nil)))) pa_nil)) (by rfl))
    (pss_cons (ps_set (i := 5) nd rfl (by first | exact Or.inl rfl | exact Or.inr rfl) (pe_op (op_addK (K := K) rfl) pe_int (pe_callD D__law_pull (hr.mono (by decide)) rfl (pa_cons (pv 0) (pa_cons (pe_op op_sub (pe_callB (cr_lenK (K := K) rfl) rfl W.b_len boot_len (pa_cons (pv 4) pa_nil)) pe_int) pa_nil)))))
    (pss_cons (ps_if (pt_cmpR (op_eqK (K := K) rfl hu64) (pv 1) pe_str (nomark _))
    (pss_one (ps_ret (pe_tup (pa_cons (pv 1) (pa_cons (pe_callTy (cr_tupK (K := K) rfl) rfl W.b_tuple boot_tuple (pa_cons (pe_slice (sl_listK (K := K) rfl) (pv 4) po_none (po_some (pv 5))) pa_nil)) (pa_cons (pe_callTy (cr_tupK (K := K) rfl) rfl W.b_tuple boot_tuple (pa_cons (pe_slice (sl_listK (K := K) rfl) (pv 4) (po_some (pv 5)) po_none) pa_nil)) (pa_cons (pv 3) pa_nil)))))))
    pss_nil)
    (pss_cons (ps_if (pt_cmpR (op_eqK (K := K) rfl hu64) (pv 1) pe_str (nomark _))
    (pss_one (ps_ret (pe_tup (pa_cons (pv 1) (pa_cons (pe_callD D__law_rows (hr.mono (by decide)) rfl (pa_cons (pv 0) (pa_cons (pv 4) pa_nil))) (pa_cons (pv 3) pa_nil))))))
    pss_nil)
    (pss_cons (ps_if (pt_cmpR (op_eqK (K := K) rfl hu64) (pv 1) pe_str (nomark _))
    (pss_one (ps_ret (pe_tup (pa_cons (pv 1) (pa_cons (pe_callD D__law_rows (hr.mono (by decide)) rfl (pa_cons (pv 0) (pa_cons (pv 4) pa_nil))) pa_nil)))))
    pss_nil)
    (pss_cons (ps_if (pt_cmpR (op_eqK (K := K) rfl hu64) (pv 1) pe_str (nomark _))
    (pss_one (ps_ret (pe_tup (pa_cons (pv 1) (pa_cons (pe_callTy ((cr_tupK (K := K) rfl)) rfl W.b_tuple boot_tuple (pa_cons (pv 4) pa_nil)) (pa_cons (pv 3) pa_nil))))))
    pss_nil)
    (pss_cons (ps_if (pt_cmpR (op_eqK (K := K) rfl hu64) (pv 1) pe_str (nomark _))
    (pss_one (ps_ret (pe_tup (pa_cons (pv 1) (pa_cons (pe_callTy (cr_tupK (K := K) rfl) rfl W.b_tuple boot_tuple (pa_cons (pe_slice (sl_listK (K := K) rfl) (pv 4) po_none (po_some (pv 5))) pa_nil)) (pa_cons (pe_callTy (cr_tupK (K := K) rfl) rfl W.b_tuple boot_tuple (pa_cons (pe_slice (sl_listK (K := K) rfl) (pv 4) (po_some (pv 5)) (po_some (pe_op (op_addK (K := K) rfl) (pv 5) (pe_callD D__law_pull (hr.mono (by decide)) rfl (pa_cons (pv 0) (pa_cons pe_int pa_nil)))))) pa_nil)) pa_nil))))))
    pss_nil)
    (pss_cons (ps_if (pt_cmpR (op_eqK (K := K) rfl hu64) (pv 1) pe_str (nomark _))
    (pss_one (ps_ret (pe_tup (pa_cons (pv 1) (pa_cons (pe_callTy ((cr_tupK (K := K) rfl)) rfl W.b_tuple boot_tuple (pa_cons (pv 4) pa_nil)) pa_nil)))))
    pss_nil)
    (pss_cons (ps_set (i := 6) nd rfl (by first | exact Or.inl rfl | exact Or.inr rfl) (pe_callD D__law_pick (hr.mono (by decide)) rfl (pa_cons (pv 0) (pa_cons (pv 2) pa_nil))))
    (pss_cons (ps_setLc (i := 7) (own := [("_law_path", 8)]) rfl nd rfl rfl (sw_true rfl rfl rfl (by decide +kernel)) (pi_listK (K := K) rfl (pv 2)) (blkOk_by (own := [("_law_path", 8)]) (N := ["_law_reel_here", "_law_kind", "_law_spots_here", "_law_how", "_law_paths", "_law_cut", "_law_head", "_law_below", "_law_path"]) (sc := defScope sLawRuleOf) (by decide +kernel)) (fun _ _ _ _ _ => (pg_name (i := 8) nd rfl (by first | exact Or.inl rfl | exact Or.inr rfl))) (fun _ _ _ _ _ => (pts_one (PW.pt (pw_and (pt_cmpR (op_neK (K := K) rfl hu64) (pv 8) (pv 6) (nomark _)) (pw_and1 (pt_val (pe_callD D__law_under (hr.mono (by decide)) rfl (pa_cons (pv 6) (pa_cons (pv 8) pa_nil))))))))) (fun _ _ _ _ _ => (pv 8)))
    (pss_one (ps_ret (pe_tup (pa_cons pe_str (pa_cons (pv 6) (pa_cons (pe_callTy (cr_tupK (K := K) rfl) rfl W.b_tuple boot_tuple (pa_cons (pe_callD D__law_alone (hr.mono (by decide)) rfl (pa_cons (pv 0) (pa_cons (pv 7) (pa_cons (pe_callD D__law_pull (hr.mono (by decide)) rfl (pa_cons (pv 0) (pa_cons pe_int pa_nil))) pa_nil)))) pa_nil)) pa_nil))))))))))))))))), sp_goR (fun H0 B0 rg sm i k hp => ?_) h⟩
  obtain ⟨kd, sp⟩ := i
  have hp : SpotsOk sp := hp
  have spl := hp.len
  have shs : ∀ p ∈ sp, ShortS p := fun p h => (hp.np p h).short (by decide)
  refine ss_seq <| ss_par (i := 3) (j := 4) <| ea_cons <| ee_callR rfl rfl (j := 0) rfl <| ea_cons <| ee_lst <| ea_cons <| ee_str <| ea_cons <| ee_str <| ea_nil ⟨[.str (howS false), .str (howS true)], rfl, (by show 2 ≤ 1000000; decide), ea_nil ⟨.inl [.str (howS false), .str (howS true)], k + 29, rfl, ⟨(by show 1 ≤ 2; decide), (by show 2 ≤ 1000; decide)⟩, ⟨_, rfl, by omega⟩, fun x ⟨d, hd, ex⟩ => ?_⟩⟩
  obtain ⟨c, rfl⟩ : ∃ c, d = .str (howS c) := by
    simp only [List.mem_cons, List.not_mem_nil, or_false] at hd
    rcases hd with e | e
    · exact ⟨false, e⟩
    · exact ⟨true, e⟩
  subst ex
  refine ea_cons <| ee_callR rfl rfl (j := 0) rfl <| ea_cons <| ee_var rfl <| ea_cons <| ee_op <| ee_int <| ee_callR rfl rfl (j := 0) rfl <| ea_cons <| ee_int <| ea_nil ⟨5, k + 28, rfl, ⟨by decide, by decide⟩, ⟨_, rfl, by omega⟩, fun x ⟨v, hv, ex⟩ => ?_⟩
  subst ex
  refine ro_addI <| ea_nil ⟨(sp, 2 + v), k + 18, rfl, ⟨shs, by show sp.length ≤ 1000; omega⟩, ⟨_, rfl, by show k + 18 + sp.length ≤ k + 28; omega⟩, fun x ⟨qs, ex, al⟩ => ?_⟩
  subst ex
  have l2 := al.two hp (by show 2 ≤ 2 + v; omega)
  have l6 : qs.length ≤ 6 := Nat.le_trans al.len (by show 2 + v ≤ 6; omega)
  have rp := al.rule hp.np
  have nov := al.nov
  have nd2 := nov.nodup
  refine ea_nil ⟨_, _, rfl, ss_seq <| ss_set <| ee_op <| ee_int <| ee_callR rfl rfl (j := 0) rfl <| ea_cons <| ee_op <| ee_CB <| ea_cons <| ee_var rfl <| ea_nil <| RL1.rl <| rl_lenL <| ee_int <| ro_sub <| ea_nil ⟨qs.length - 1, k + 17, ?_, ⟨by omega, by omega⟩, ⟨_, rfl, by omega⟩, fun x ⟨cv, hcv, ex⟩ => ?_⟩⟩
  · rw [List.length_map, show ((qs.length : Nat) : Int) - 1 = ((qs.length - 1 : Nat) : Int) by omega]
  subst ex
  refine ro_addI ?_
  obtain ⟨cut, hcut⟩ : ∃ cut : Nat, (1 + (cv : Int)) = (cut : Int) := ⟨1 + cv, by omega⟩
  rw [hcut]
  have c1 : 1 ≤ cut := by omega
  have c2 : cut < qs.length := by omega
  have tk : cutD (qs.map PyData.str) none (some (cut : Int)) = (qs.take cut).map .str := by rw [cutD_map, cutD_to]
  have dr : cutD (qs.map PyData.str) (some (cut : Int)) none = (qs.drop cut).map .str := by rw [cutD_map, cutD_from]
  have hok : ∀ n l, (n ≤ l.length) → (l.length ≤ 6) → (∀ p ∈ l, p ∈ qs) → lstOk n 6 l := fun n l h1 h2 h3 => ⟨h1, h2, fun p hp => rp p (h3 p hp)⟩
  have weak : ∀ {x : Dat} {Γ1 : Env'}, (∃ r, x = .val (rE r) ∧ RuleOk r) → Γ1[0]? = some (.reel k) → Γ1[0]? = some (.reel k) ∧ ∃ r, x = .val (rE r) ∧ RuleOk r := fun h1 h2 => ⟨h2, h1⟩
  refine ss_reelLe (j := 0) (m' := k + 12) rfl (by omega) <| ss_seq <| ss_if <| et_test <| ee_op <| ee_var rfl <| ee_str <| ro_eqS ⟨_, rfl, fun e => ?_, fun e => ss_next ?_⟩
  · obtain rfl := kdS_inj kd .forbid (of_decide_eq_true e)
    refine ss_reelLe (j := 0) (m' := k) rfl (by omega) <| ss_ret <| ee_tup <| ea_cons <| ee_var rfl <| ea_cons <| ee_CB <| ea_cons <| ee_sl <| ee_var rfl <| eo_none <| eo_some <| ee_var rfl ⟨_, rfl, RU1.ru <| ru1_sl <| ea_nil <| RL1.rl <| rl_tupL <| ea_cons <| ee_CB <| ea_cons <| ee_sl <| ee_var rfl <| eo_some <| ee_var rfl ⟨_, rfl, eo_none <| RU1.ru <| ru1_sl <| ea_nil <| RL1.rl <| rl_tupL <| ea_cons <| ee_var rfl <| ea_nil ⟨rD (.forbid (qs.take cut) (qs.drop cut) c), ?_, (by show 4 ≤ 1000000; decide), rfl, _, rfl, ?_, hok 1 _ ?_ ?_ fun p hp => List.mem_of_mem_take hp, hok 1 _ ?_ ?_ fun p hp => List.mem_of_mem_drop hp⟩⟩⟩
    · rw [tk, dr]; rfl
    · show NoOv (qs.take cut ++ qs.drop cut)
      rw [List.take_append_drop]; exact nov
    · rw [List.length_take]; omega
    · rw [List.length_take]; omega
    · rw [List.length_drop]; omega
    · rw [List.length_drop]; omega
  have n1 : kd ≠ .forbid := fun z => by subst z; exact ntf e
  clear e
  refine ss_seq <| ss_if <| et_test <| ee_op <| ee_var rfl <| ee_str <| ro_eqS ⟨_, rfl, fun e => ?_, fun e => ss_next ?_⟩
  · obtain rfl := kdS_inj kd .layers (of_decide_eq_true e)
    refine ss_ret <| ee_tup <| ea_cons <| ee_var rfl <| ea_cons <| ee_callR rfl rfl (j := 0) rfl <| ea_cons <| ee_var rfl <| ea_nil ⟨qs, k, rfl, ⟨l2, l6, nd2⟩, ⟨_, rfl, by omega⟩, fun x ⟨rs, ex, lr⟩ => ?_⟩
    subst ex
    refine ea_cons <| ee_var rfl <| ea_nil ⟨rD (.layers rs c), rfl, (by show 3 ≤ 1000000; decide), rfl, _, rfl, ?_, lr.lo, lr.hi, fun x hx => ⟨(lr.row x hx).1, (lr.row x hx).2, fun p hp => rp p (lr.flat ▸ List.mem_flatten.mpr ⟨x, hx, hp⟩)⟩⟩
    show NoOv rs.flatten
    rw [lr.flat]; exact nov
  have n2 : kd ≠ .layers := fun z => by subst z; exact ntf e
  clear e
  refine ss_seq <| ss_if <| et_test <| ee_op <| ee_var rfl <| ee_str <| ro_eqS ⟨_, rfl, fun e => ?_, fun e => ss_next ?_⟩
  · obtain rfl := kdS_inj kd .stairs (of_decide_eq_true e)
    refine ss_ret <| ee_tup <| ea_cons <| ee_var rfl <| ea_cons <| ee_callR rfl rfl (j := 0) rfl <| ea_cons <| ee_var rfl <| ea_nil ⟨qs, k, rfl, ⟨l2, l6, nd2⟩, ⟨_, rfl, by omega⟩, fun x ⟨rs, ex, lr⟩ => ?_⟩
    subst ex
    refine ea_nil ⟨rD (.stairs rs), rfl, (by show 2 ≤ 1000000; decide), rfl, _, rfl, ?_, lr.lo, lr.hi, fun x hx => ⟨(lr.row x hx).1, (lr.row x hx).2, fun p hp => rp p (lr.flat ▸ List.mem_flatten.mpr ⟨x, hx, hp⟩)⟩⟩
    show NoOv rs.flatten
    rw [lr.flat]; exact nov
  have n3 : kd ≠ .stairs := fun z => by subst z; exact ntf e
  clear e
  refine ss_seq <| ss_if <| et_test <| ee_op <| ee_var rfl <| ee_str <| ro_eqS ⟨_, rfl, fun e => ?_, fun e => ss_next ?_⟩
  · obtain rfl := kdS_inj kd .apart (of_decide_eq_true e)
    refine ss_reelLe (j := 0) (m' := k) rfl (by omega) <| ss_ret <| ee_tup <| ea_cons <| ee_var rfl <| ea_cons <| ee_CB <| ea_cons <| ee_var rfl <| ea_nil <| RL1.rl <| rl_tupL <| ea_cons <| ee_var rfl <| ea_nil ⟨rD (.apart qs c), rfl, (by show 3 ≤ 1000000; decide), rfl, _, rfl, nov, hok 2 _ l2 l6 fun p h => h⟩
  have n4 : kd ≠ .apart := fun z => by subst z; exact ntf e
  clear e
  refine ss_seq <| ss_if <| et_test <| ee_op <| ee_var rfl <| ee_str <| ro_eqS ⟨_, rfl, fun e => ?_, fun e => ss_next ?_⟩
  · obtain rfl := kdS_inj kd .only (of_decide_eq_true e)
    refine ss_reelLe (j := 0) (m' := k + 1) rfl (by omega) <| ss_ret <| ee_tup <| ea_cons <| ee_var rfl <| ea_cons <| ee_CB <| ea_cons <| ee_sl <| ee_var rfl <| eo_none <| eo_some <| ee_var rfl ⟨_, rfl, RU1.ru <| ru1_sl <| ea_nil <| RL1.rl <| rl_tupL <| ea_cons <| ee_CB <| ea_cons <| ee_sl <| ee_var rfl <| eo_some <| ee_var rfl ⟨_, rfl, eo_some <| ee_op <| ee_var rfl <| ee_callR rfl rfl (j := 0) rfl <| ea_cons <| ee_int <| ea_nil ⟨5, k, rfl, ⟨by decide, by decide⟩, ⟨_, rfl, by omega⟩, fun x ⟨v5, hv5, ex⟩ => ?_⟩⟩⟩
    subst ex
    have md : cutD (qs.map PyData.str) (some (cut : Int)) (some ((cut : Int) + (v5 : Int))) = ((qs.drop cut).take v5).map .str := by
      rw [show ((cut : Int) + (v5 : Int)) = ((cut + v5 : Nat) : Int) by omega, cutD_map, cutD_mid, Nat.add_sub_cancel_left]
    refine ro_addI ⟨_, rfl, RU1.ru <| ru1_sl <| ea_nil <| RL1.rl <| rl_tupL <| ea_nil ⟨rD (.only (qs.take cut) ((qs.drop cut).take v5)), ?_, (by show 3 ≤ 1000000; decide), rfl, _, rfl, ?_, hok 1 _ ?_ ?_ fun p hp => List.mem_of_mem_take hp, hok 0 _ (Nat.zero_le _) ?_ fun p hp => List.mem_of_mem_drop (List.mem_of_mem_take hp)⟩⟩
    · rw [tk, md]; rfl
    · refine nov.sub ?_
      have := List.Sublist.append_left (List.take_sublist v5 (qs.drop cut)) (qs.take cut)
      rwa [List.take_append_drop] at this
    · rw [List.length_take]; omega
    · rw [List.length_take]; omega
    · rw [List.length_take, List.length_drop]; omega
  have n5 : kd ≠ .only := fun z => by subst z; exact ntf e
  clear e
  refine ss_seq <| ss_if <| et_test <| ee_op <| ee_var rfl <| ee_str <| ro_eqS ⟨_, rfl, fun e => ?_, fun e => ss_next ?_⟩
  · obtain rfl := kdS_inj kd .noring (of_decide_eq_true e)
    refine ss_reelLe (j := 0) (m' := k) rfl (by omega) <| ss_ret <| ee_tup <| ea_cons <| ee_var rfl <| ea_cons <| ee_CB <| ea_cons <| ee_var rfl <| ea_nil <| RL1.rl <| rl_tupL <| ea_nil ⟨rD (.noring qs), rfl, (by show 2 ≤ 1000000; decide), rfl, _, rfl, nov, hok 2 _ l2 l6 fun p h => h⟩
  clear e n1 n2 n3 n4 n5 tk dr hok
  have sp1 : 1 ≤ sp.length := by
    obtain ⟨a, b, _, _, _, h, _⟩ := hp.two
    exact List.length_pos_of_mem h
  refine ss_seq <| ss_set <| ee_callR rfl rfl (j := 0) rfl <| ea_cons <| ee_var rfl <| ea_nil ⟨.inl (sp.map .str), k + 11, rfl, (by show 1 ≤ _ ∧ _ ≤ 1000; rw [List.length_map]; omega), ⟨_, rfl, by omega⟩, fun x ⟨d, hd, ex⟩ => ?_⟩
  obtain ⟨h, hh, rfl⟩ := List.mem_map.mp hd
  subst ex
  refine ss_seq <| ss_set <| ee_lc <| wi_list <| ee_var rfl ⟨sp.map .str, rfl, lc1f PyData.str PyData.str id (fun p => !decide (p = h) && cov h p) (by omega) (hno_unk rfl) (fun p hp2 => ?_) ?_⟩
  · refine et_and <| et_test <| ee_op <| ee_var rfl <| ee_var rfl <| ro_neS ⟨_, rfl, fun e => ?_, fun e => ⟨rfl, by rw [e]; rfl, fun z => by rw [e] at z; cases z⟩⟩
    exact et_B <| ee_call rfl rfl <| ea_cons <| ee_var rfl <| ea_cons <| ee_var rfl <| ea_nil ⟨(h, p), rfl, ⟨shs h hh, shs p hp2⟩, fun x ex => ⟨_, ex, rfl, by rw [e]; rfl, fun _ => ee_var rfl ⟨rfl, rfl⟩⟩⟩
  rw [List.map_id]
  have bl : (sp.filter fun p => !decide (p = h) && cov h p).length ≤ 10 := Nat.le_trans (List.length_filter_le _ _) spl
  have bm : ∀ p ∈ sp.filter (fun p => !decide (p = h) && cov h p), p ∈ sp ∧ p ≠ h ∧ cov h p = true := fun p hp2 => by
    obtain ⟨h1, h2⟩ := List.mem_filter.mp hp2
    rw [Bool.and_eq_true, Bool.not_eq_true', decide_eq_false_iff_not] at h2
    exact ⟨h1, h2.1, h2.2⟩
  refine ss_ret <| ee_tup <| ea_cons <| ee_str <| ea_cons <| ee_var rfl <| ea_cons <| ee_CB <| ea_cons <| ee_callR rfl rfl (j := 0) rfl <| ea_cons <| ee_var rfl <| ea_cons <| ee_callR rfl rfl (j := 0) rfl <| ea_cons <| ee_int <| ea_nil ⟨4, k + 10, rfl, ⟨by decide, by decide⟩, ⟨_, rfl, by omega⟩, fun x ⟨v4, hv4, ex⟩ => ?_⟩
  subst ex
  refine ea_nil ⟨(sp.filter fun p => !decide (p = h) && cov h p, v4), k, rfl, ⟨fun p hp2 => shs p (bm p hp2).1, Nat.le_trans bl (by decide)⟩, ⟨_, rfl, Nat.add_le_add_left bl k⟩, fun x ⟨es, ex, ae⟩ => ?_⟩
  subst ex
  have ael : es.length ≤ v4 := ae.len
  exact ea_nil <| RL1.rl <| rl_tupL <| ea_nil ⟨rD (.face h es), rfl, (by show 3 ≤ 1000000; decide), rfl, _, rfl, ae.nov, (hp.np h hh).rule, ⟨Nat.zero_le _, by omega, fun p hp2 => (hp.np p (bm p (ae.sub p hp2)).1).rule⟩, fun p hp2 => ⟨(bm p (ae.sub p hp2)).2.2, (bm p (ae.sub p hp2)).2.1⟩⟩
end
end My
end P22_
section P23_
set_option maxHeartbeats 1000000
namespace My
open PySem PySem.Spec PyProof.Rows L2 LamX
/-- no rule comes again -/
def NoRep (rs : List Rule) : Prop := rs.Pairwise fun a b => PyData.eqv (rE a) (rE b) = false
structure DrawnBook (rs : List Rule) : Prop where
  ok : ∀ r ∈ rs, RuleOk r
  n : rs.length ≤ 3
  norep : NoRep rs
def kds : List Kd := [.forbid, .layers, .stairs, .apart, .only, .face, .noring]
abbrev spSomeRules (K : PySem.W.Frag) (T : List (Addr × Str)) : Sp := SpR K T (fun i : List Str × Nat => [.val (lsE i.1), dI (i.2 : Nat)]) (fun i => SpotsOk i.1 ∧ i.2 = 3) (fun _ => 95) (fun i x => ∃ rs, x = .val (rulesE rs) ∧ DrawnBook rs)
section
variable {P : Program} {w : World} {K : PySem.W.Frag} {mg : Str → Option Value} {base : Heap} {T : List (Addr × Str)}
theorem sc__law_rule : FnScope ["_law_reel_here", "_law_spots_here", "_law_kinds"] ["_law_reel_here", "_law_spots_here"] (defScope sLawRule) := ⟨rfl, rfl, rfl, by decide +kernel, rfl, by decide +kernel, by decide +kernel⟩
theorem ok__law_rule (W : Wd K mg) : DefOk P w K mg base "_law_rule" ["_law_reel_here", "_law_spots_here"] 5 (spRule K T) := by
  obtain ⟨f, fd, hm, F⟩ := W.f__law_rule
  have D__law_rule_of := ok__law_rule_of (P := P) (w := w) (base := base) (T := T) W
  have D__law_pick := ok__law_pick (P := P) (w := w) (base := base) (T := T) W
  refine ⟨f, fd, hm, F.kp, F.bindsN fun _ _ _ _ _ _ us hl => match us, hl with | [_, _], _ => rfl, F.ok sc__law_rule (spr_len fun _ => rfl) fun cdv A outer s H vs Q E hr h => ?_⟩
  have nd := sc__law_rule.nd
  have hu64 := hr.units
  have hu1 := hu_of hr
  refine ⟨_, PSs.nox ((pss_cons (ps_set (i := 2) nd rfl (by first | exact Or.inl rfl | exact Or.inr rfl) (pe_lst (pa_cons pe_str (pa_cons pe_str (pa_cons pe_str (pa_cons pe_str (pa_cons pe_str (pa_cons pe_str (pa_cons pe_str pa_nil)))))))))
    (pss_one (ps_ret (pe_callD D__law_rule_of (hr.mono (by decide)) rfl (pa_cons (pv 0) (pa_cons (pe_callD D__law_pick (hr.mono (by decide)) rfl (pa_cons (pv 0) (pa_cons (pv 2) pa_nil))) (pa_cons (pv 1) pa_nil)))))))), sp_goR (fun H0 B0 rg sm i k hp => ?_) h⟩
  have hp : SpotsOk i := hp
  refine ss_seq <| ss_set <| ee_lst <| ea_cons <| ee_str <| ea_cons <| ee_str <| ea_cons <| ee_str <| ea_cons <| ee_str <| ea_cons <| ee_str <| ea_cons <| ee_str <| ea_cons <| ee_str <| ea_nil ⟨kds.map fun a => .str (kdS a), rfl, (by show 7 ≤ 1000000; decide), ?_⟩
  refine ss_ret <| ee_callR rfl rfl (j := 0) rfl <| ea_cons <| ee_callR rfl rfl (j := 0) rfl <| ea_cons <| ee_var rfl <| ea_nil ⟨.inl (kds.map fun a => .str (kdS a)), k + 30, rfl, ⟨(by show 1 ≤ 7; decide), (by show 7 ≤ 1000; decide)⟩, ⟨_, rfl, by omega⟩, fun x ⟨d, hd, ex⟩ => ?_⟩
  obtain ⟨a, ha, rfl⟩ := List.mem_map.mp hd
  subst ex
  exact ea_cons <| ee_var rfl <| ea_nil ⟨(a, i), k, rfl, hp, ⟨_, rfl, Nat.le_refl _⟩, fun x h => ⟨rfl, h⟩⟩
theorem sc__law_some_rules : FnScope ["_law_reel_here", "_law_spots_here", "_law_limit", "_law_found", "_law_turn", "_law_rule_here"] ["_law_reel_here", "_law_spots_here", "_law_limit"] (defScope sLawSomeRules) := ⟨rfl, rfl, rfl, by decide +kernel, rfl, by decide +kernel, by decide +kernel⟩
theorem ok__law_some_rules (W : Wd K mg) : DefOk P w K mg base "_law_some_rules" ["_law_reel_here", "_law_spots_here", "_law_limit"] 6 (spSomeRules K T) := by
  obtain ⟨f, fd, hm, F⟩ := W.f__law_some_rules
  have D__law_pick := ok__law_pick (P := P) (w := w) (base := base) (T := T) W
  have D__law_pull := ok__law_pull (P := P) (w := w) (base := base) (T := T) W
  have D__law_rule := ok__law_rule (P := P) (w := w) (base := base) (T := T) W
  refine ⟨f, fd, hm, F.kp, F.bindsN fun _ _ _ _ _ _ us hl => match us, hl with | [_, _, _], _ => rfl, F.ok sc__law_some_rules (spr_len fun _ => rfl) fun cdv A outer s H vs Q E hr h => ?_⟩
  have nd := sc__law_some_rules.nd
  have hu64 := hr.units
  have hu1 := hu_of hr
  refine ⟨_, PSs.nox ((pss_cons (ps_set (i := 3) nd rfl (by first | exact Or.inl rfl | exact Or.inr rfl) (pe_lst pa_nil))
    (pss_cons (ps_for PassesOwn.never rfl (pi_range1 rfl W.b_range (pa_cons (pe_callD D__law_pick (hr.mono (by decide)) rfl (pa_cons (pv 0) (pa_cons (pe_lst (pa_cons (pv 2) (pa_cons (pe_callD D__law_pull (hr.mono (by decide)) rfl (pa_cons (pv 0) (pa_cons (pe_op (op_addK (K := K) rfl) (pv 2) pe_int) pa_nil))) pa_nil))) pa_nil))) pa_nil)) (pg_name (i := 4) nd rfl (by first | exact Or.inl rfl | exact Or.inr rfl))
    (pss_cons (ps_set (i := 5) nd rfl (by first | exact Or.inl rfl | exact Or.inr rfl) (pe_callD D__law_rule (hr.mono (by decide)) rfl (pa_cons (pv 0) (pa_cons (pv 1) pa_nil))))
    (pss_one (ps_if (pt_cmpR (op_notInK (K := K) rfl hu64) (pv 5) (pv 3) (by rfl))
    (pss_one (ps_expr (pe_bm PySem.F.plainAttrs_list PySem.F.slot_list_append PySem.F.type_list_append mt_append (pv 3) (pa_cons (pv 5) pa_nil))))
    pss_nil))))
    (pss_one (ps_ret (pe_callTy (cr_tupK (K := K) rfl) rfl W.b_tuple boot_tuple (pa_cons (pv 3) pa_nil))))))), sp_goR (fun H0 B0 rg sm i k hp => ?_) h⟩
  obtain ⟨sp, lim⟩ := i
  obtain ⟨hp, hl⟩ := hp
  dsimp only at hp hl
  subst hl
  refine ss_seq <| ss_newL (by show 3 < 6; decide) ?_
  refine ss_seq <| ss_for (vs := [4]) <| wi_rng1 <| ea_cons <| ee_callR rfl rfl (j := 0) rfl <| ea_cons <| ee_lst <| ea_cons <| ee_var rfl <| ea_cons <| ee_callR rfl rfl (j := 0) rfl <| ea_cons <| ee_op <| ee_var rfl <| ee_int <| ro_addI <| ea_nil ⟨4, k + 94, rfl, ⟨by decide, by decide⟩, ⟨_, rfl, by omega⟩, fun x ⟨v, hv, ex⟩ => ?_⟩
  subst ex
  refine ea_nil ⟨[.int ((3 : Nat) : Int), .int (v : Nat)], rfl, (by show 2 ≤ 1000000; decide), ea_nil ⟨.inl [.int ((3 : Nat) : Int), .int (v : Nat)], k + 93, rfl, ⟨(by show 1 ≤ 2; decide), (by show 2 ≤ 1000; decide)⟩, ⟨_, rfl, by omega⟩, fun x ⟨d, hd, ex⟩ => ?_⟩⟩
  obtain ⟨n, hn, rfl⟩ : ∃ n : Nat, n ≤ 3 ∧ d = .int (n : Int) := by
    simp only [List.mem_cons, List.not_mem_nil, or_false] at hd
    rcases hd with e | e
    · exact ⟨3, Nat.le_refl _, e⟩
    · exact ⟨v, by omega, e⟩
  subst ex
  refine ea_nil ⟨n, by omega, rfl, fun j Γ1 => ∃ (rs : List Rule) (z4 z5 : Cell), Γ1 = [.reel (k + (93 - 31 * j)), cV (.val (lsE sp)), cV (dI ((3 : Nat) : Int)), .oL (rs.map rE), z4, z5] ∧ (∀ r ∈ rs, RuleOk r) ∧ rs.length ≤ j ∧ NoRep rs,
    ⟨[], _, _, rfl, (fun _ h => by cases h), Nat.le_refl _, .nil⟩, fun j d Γ1 hd hI => ?_, fun Γ1 hI => ?_⟩
  · obtain ⟨rs, z4, z5, rfl, i1, i2, i3⟩ := hI
    obtain ⟨j', hj', rfl⟩ := map_get hd
    obtain ⟨hjl, e⟩ := List.getElem?_eq_some_iff.mp hj'
    rw [List.getElem_range] at e
    subst e
    rw [List.length_range] at hjl
    refine sg_name (ss_seq <| ss_set <| ee_callR rfl rfl (j := 0) rfl <| ea_cons <| ee_var rfl <| ea_nil ⟨sp, k + (93 - 31 * (j + 1)), rfl, hp, ⟨_, rfl, by omega⟩, fun x ⟨r, ex, rok⟩ => ?_⟩) (by simp)
    subst ex
    refine ss_if <| et_test <| ee_opO2 (i := 3) (ds := rs.map rE) rfl <| ee_var rfl <| ro2_in (neg := true) (shal_rE r) ⟨_, rfl, fun e => ?_, fun e => ss_next ⟨rs, _, _, rfl, i1, by omega, i3⟩⟩
    rw [if_pos rfl, Bool.not_eq_true'] at e
    refine ss_append (ds0 := rs.map rE) (ee_var rfl ⟨rE r, rs.map rE, rfl, rfl, by rw [List.length_map]; omega, rs ++ [r], _, _, by rw [List.map_append]; rfl, fun s hs => ?_, by rw [List.length_append, List.length_singleton]; omega, ?_⟩) rfl
    · rcases List.mem_append.mp hs with q | q
      · exact i1 s q
      · simp only [List.mem_singleton] at q
        rw [q]; exact rok
    · refine List.pairwise_append.mpr ⟨i3, by simp, fun a ha b hb => ?_⟩
      simp only [List.mem_singleton] at hb
      subst hb
      rw [List.any_eq_false] at e
      exact Bool.eq_false_iff.mpr (e (rE a) (List.mem_map.mpr ⟨a, ha, rfl⟩))
  · obtain ⟨rs, z4, z5, rfl, i1, i2, i3⟩ := hI
    rw [List.length_map, List.length_range] at i2
    exact ss_reelLe (j := 0) (m' := k) rfl (by omega) <| ss_freeze (i := 3) (.l (rs.map rE)) rfl (ss_ret <| ee_CB <| ea_cons <| ee_var rfl <| ea_nil <| RL1.rl <| rl_tupL ⟨rfl, rs, rfl, i1, by omega, i3⟩)
end
end My
end P23_
section P24_
set_option maxHeartbeats 1000000
namespace My
open PySem PySem.Spec PyProof.Rows L2 LamX
structure DrawnMods (k : Nat) (ms : List Str) : Prop where
  np : ∀ m ∈ ms, NP 5 m
  nov : NoOv ms
  len : ms.length ≤ k
structure DrawnUses (ms : List Str) (k : Nat) (us : List Use) : Prop where
  nd : us.Nodup
  mem : ∀ u ∈ us, u.1 ∈ ms ∧ u.2 ∈ ms ∧ u.1 ≠ u.2
  len : us.length ≤ k
abbrev spMods (K : PySem.W.Frag) (T : List (Addr × Str)) : Sp := SpR K T (fun i : List Str × List Str => [.val (lsE i.1), .val (lsE i.2)]) (fun i => SpotsOk i.1 ∧ i.2.length ≤ 100 ∧ ∀ n ∈ i.2, nameOk n) (fun i => 2 * i.2.length) (fun i x => ∃ ms, x = .val (lsE ms) ∧ DrawnMods i.2.length ms)
abbrev spUses (K : PySem.W.Frag) (T : List (Addr × Str)) : Sp := SpR K T (fun i : List Str × Nat => [.val (lsE i.1), dI (i.2 : Nat)]) (fun i => i.1.length ≤ 100 ∧ i.2 ≤ 14) (fun _ => 30) (fun i x => ∃ us, x = .val (luE us) ∧ DrawnUses i.1 i.2 us)
section
variable {P : Program} {w : World} {K : PySem.W.Frag} {mg : Str → Option Value} {base : Heap} {T : List (Addr × Str)}
theorem sc__law_modules : FnScope ["_law_reel_here", "_law_spots_here", "_law_leaves", "_law_found", "_law_leaf", "_law_head", "_law_path", "_law_one"] ["_law_reel_here", "_law_spots_here", "_law_leaves"] (defScope sLawModules) := ⟨rfl, rfl, rfl, by decide +kernel, rfl, by decide +kernel, by decide +kernel⟩
theorem ok__law_modules (W : Wd K mg) : DefOk P w K mg base "_law_modules" ["_law_reel_here", "_law_spots_here", "_law_leaves"] 3 (spMods K T) := by
  obtain ⟨f, fd, hm, F⟩ := W.f__law_modules
  have D__law_meet := ok__law_meet (P := P) (w := w) (base := base) (T := T) W
  have D__law_pick := ok__law_pick (P := P) (w := w) (base := base) (T := T) W
  refine ⟨f, fd, hm, F.kp, F.bindsN fun _ _ _ _ _ _ us hl => match us, hl with | [_, _, _], _ => rfl, F.ok sc__law_modules (spr_len fun _ => rfl) fun cdv A outer s H vs Q E hr h => ?_⟩
  have nd := sc__law_modules.nd
  have hu64 := hr.units
  have hu1 := hu_of hr
  refine ⟨_, PSs.nox ((pss_cons (ps_set (i := 3) nd rfl (by first | exact Or.inl rfl | exact Or.inr rfl) (pe_lst pa_nil))
    (pss_cons (ps_for PassesOwn.never rfl (pi_listK (K := K) rfl (pv 2)) (pg_name (i := 4) nd rfl (by first | exact Or.inl rfl | exact Or.inr rfl))
    (pss_cons (ps_set (i := 5) nd rfl (by first | exact Or.inl rfl | exact Or.inr rfl) (pe_callD D__law_pick (hr.mono (by decide)) rfl (pa_cons (pv 0) (pa_cons (pv 1) pa_nil))))
    (pss_cons (ps_set (i := 6) nd rfl (by first | exact Or.inl rfl | exact Or.inr rfl) (pe_callD D__law_pick (hr.mono (by decide)) rfl (pa_cons (pv 0) (pa_cons (pe_lst (pa_cons (pe_op (op_addK (K := K) rfl) (pe_op (op_addK (K := K) rfl) (pv 5) pe_str) (pv 4)) (pa_cons (pe_op (op_addK (K := K) rfl) (pe_op (op_addK (K := K) rfl) (pv 5) pe_str) (pv 4)) (pa_cons (pv 5) (pa_cons (pv 4) pa_nil))))) pa_nil))))
    (pss_cons (ps_if (pt_cmpR (op_neK (K := K) rfl hu64) (pe_lc (own := [("_law_one", 7)]) rfl nd (pi_listK (K := K) rfl (pv 3)) (blkOk_by (own := [("_law_one", 7)]) (N := ["_law_reel_here", "_law_spots_here", "_law_leaves", "_law_found", "_law_leaf", "_law_head", "_law_path", "_law_one"]) (sc := defScope sLawModules) (by decide +kernel)) (fun _ _ _ _ _ => (pg_name (i := 7) nd rfl (by first | exact Or.inl rfl | exact Or.inr rfl))) (fun _ _ _ _ _ => (pts_one (pt_val (pe_callD D__law_meet (hr.mono (by decide)) rfl (pa_cons (pv 7) (pa_cons (pv 6) pa_nil)))))) (fun _ _ _ _ _ => (pv 7))) (pe_lst pa_nil) (nomark _))
    (pss_one (ps_set (i := 6) nd rfl (by first | exact Or.inl rfl | exact Or.inr rfl) (pe_op (op_addK (K := K) rfl) (pe_op (op_addK (K := K) rfl) (pv 5) pe_str) (pv 4))))
    pss_nil)
    (pss_one (ps_if (pt_cmpR (op_eqK (K := K) rfl hu64) (pe_lc (own := [("_law_one", 7)]) rfl nd (pi_listK (K := K) rfl (pv 3)) (blkOk_by (own := [("_law_one", 7)]) (N := ["_law_reel_here", "_law_spots_here", "_law_leaves", "_law_found", "_law_leaf", "_law_head", "_law_path", "_law_one"]) (sc := defScope sLawModules) (by decide +kernel)) (fun _ _ _ _ _ => (pg_name (i := 7) nd rfl (by first | exact Or.inl rfl | exact Or.inr rfl))) (fun _ _ _ _ _ => (pts_one (pt_val (pe_callD D__law_meet (hr.mono (by decide)) rfl (pa_cons (pv 7) (pa_cons (pv 6) pa_nil)))))) (fun _ _ _ _ _ => (pv 7))) (pe_lst pa_nil) (nomark _))
    (pss_one (ps_expr (pe_bm PySem.F.plainAttrs_list PySem.F.slot_list_append PySem.F.type_list_append mt_append (pv 3) (pa_cons (pv 6) pa_nil))))
    pss_nil))))))
    (pss_one (ps_ret (pv 3)))))), sp_goR (fun H0 B0 rg sm i k hp => ?_) h⟩
  obtain ⟨sp, lv⟩ := i
  obtain ⟨hp, hl, hn⟩ := hp
  dsimp only at hp hl hn
  have spl := hp.len
  have sp1 : 1 ≤ sp.length := by
    obtain ⟨a, b, _, _, _, h, _⟩ := hp.two
    exact List.length_pos_of_mem h
  refine ss_seq <| ss_newL (by show 3 < 8; decide) ?_
  refine ss_seq <| ss_for (vs := [4]) <| wi_list <| ee_var rfl ⟨lv.map .str, rfl, fun j Γ1 => ∃ (ms : List Str) (z4 z5 z6 z7 : Cell), Γ1 = [.reel (k + 2 * (lv.length - j)), cV (.val (lsE sp)), cV (.val (lsE lv)), .oL (ms.map .str), z4, z5, z6, z7] ∧ U z7 ∧ (∀ m ∈ ms, NP 5 m) ∧ NoOv ms ∧ ms.length ≤ j,
    ⟨[], _, _, _, _, rfl, .inl rfl, (fun _ h => by cases h), .nil, Nat.le_refl _⟩, fun j d Γ1 hd hI => ?_, fun Γ1 hI => ?_⟩
  · obtain ⟨ms, z4, z5, z6, z7, rfl, u7, i1, i2, i3⟩ := hI
    obtain ⟨lf, hlf, rfl⟩ := map_get hd
    have hjl := (List.getElem?_eq_some_iff.mp hlf).1
    have no := hn lf (List.mem_of_getElem? hlf)
    have hlfl := no.2.1
    refine sg_name (ss_seq <| ss_set <| ee_callR rfl rfl (j := 0) rfl <| ea_cons <| ee_var rfl <| ea_nil ⟨.inl (sp.map .str), k + 2 * (lv.length - (j + 1)) + 1, rfl, (by show 1 ≤ _ ∧ _ ≤ 1000; rw [List.length_map]; omega), ⟨_, rfl, by omega⟩, fun x ⟨d, hd2, ex⟩ => ?_⟩) (by simp)
    obtain ⟨h, hh, rfl⟩ := List.mem_map.mp hd2
    subst ex
    have nh := hp.np h hh
    have shh := nh.short (by decide)
    have nq := nh.snoc no
    unfold ShortS at shh
    have add : ∀ {Γ : Env'} {Q : Dat → Env' → Prop}, Γ[5]? = some (cV (dS h)) → Γ[4]? = some (cV (dS lf)) → Q (dS (h ++ dot ++ lf)) Γ → EE { K := K, T := T, H0 := H0, B0 := B0, rg := rg, sm := sm } (tOp (rAddX K) (tOp (rAddX K) (tVar 5) (tC (.str (Str.ofString ".")))) (tVar 4)) Γ Q := fun {Γ Q} e5 e4 q =>
      ee_op <| ee_op <| ee_var e5 <| ee_str <| ro_addT (by show h.length + 1 ≤ _; omega) <| ee_var e4 <| ro_addT (by rw [Str.length_append]; show h.length + 1 + lf.length ≤ _; omega) q
    refine ss_seq <| ss_set <| ee_callR rfl rfl (j := 0) rfl <| ea_cons <| ee_lst <| ea_cons <| add rfl rfl <| ea_cons <| add rfl rfl <| ea_cons <| ee_var rfl <| ea_cons <| ee_var rfl <| ea_nil ⟨[.str (h ++ dot ++ lf), .str (h ++ dot ++ lf), .str h, .str lf], rfl, (by show 4 ≤ 1000000; decide), ea_nil ⟨.inl [.str (h ++ dot ++ lf), .str (h ++ dot ++ lf), .str h, .str lf], k + 2 * (lv.length - (j + 1)), rfl, ⟨(by show 1 ≤ 4; decide), (by show 4 ≤ 1000; decide)⟩, ⟨_, rfl, by omega⟩, fun x ⟨d, hd3, ex⟩ => ?_⟩⟩
    obtain ⟨q, rfl, nqq⟩ : ∃ q, d = .str q ∧ NP 5 q := by
      simp only [List.mem_cons, List.not_mem_nil, or_false] at hd3
      rcases hd3 with e | e | e | e
      · exact ⟨_, e, nq⟩
      · exact ⟨_, e, nq⟩
      · exact ⟨_, e, nh.mono (by decide)⟩
      · exact ⟨_, e, (NP.one no).mono (by decide)⟩
    subst ex
    have lc : ∀ {q : Str} {z7 : Cell} {Q : Dat → Env' → Prop}, NP 5 q → U z7 → Q (dL ((ms.filter fun m => ovl m q).map .str)) [.reel (k + 2 * (lv.length - (j + 1))), cV (.val (lsE sp)), cV (.val (lsE lv)), .oL (ms.map .str), cV (dS lf), cV (dS h), cV (dS q), z7] →
        EE { K := K, T := T, H0 := H0, B0 := B0, rg := rg, sm := sm } (tLc (iList K (tVar 3)) (gName 7) (tB (tCall (spOvl K T) [] E0 (tCons (tVar 7) (tCons (tVar 6) tNil)))) (tVar 7) [7]) [.reel (k + 2 * (lv.length - (j + 1))), cV (.val (lsE sp)), cV (.val (lsE lv)), .oL (ms.map .str), cV (dS lf), cV (dS h), cV (dS q), z7] Q := fun {q z7 Q} nq u7 hq => by
      refine ee_lcO (ds := ms.map .str) rfl <| lc1f PyData.str PyData.str id (fun m => ovl m q) (by omega) (fun x hx => by cases hx; exact u7) (fun m hm => ?_) (by rw [List.map_id]; exact hq)
      exact et_B <| ee_call rfl rfl <| ea_cons <| ee_var rfl <| ea_cons <| ee_var rfl <| ea_nil ⟨(m, q), rfl, ⟨(i1 m hm).short (by decide), nq.short (by decide)⟩, fun x ex => ⟨_, ex, rfl, rfl, fun _ => ee_var rfl ⟨rfl, rfl⟩⟩⟩
    refine ss_cut (fun Γ1 => ∃ (q : Str), Γ1 = [.reel (k + 2 * (lv.length - (j + 1))), cV (.val (lsE sp)), cV (.val (lsE lv)), .oL (ms.map .str), cV (dS lf), cV (dS h), cV (dS q), z7] ∧ NP 5 q) ?_ ?_
    · refine ss_if <| et_test <| ee_op <| lc nqq u7 <| ee_lst <| ea_nil ⟨[], rfl, (by decide), RO1.ro <| ro1_neNil ⟨_, rfl, fun _ => ss_set <| add rfl rfl ⟨_, rfl, nq⟩, fun _ => ss_next ⟨q, rfl, nqq⟩⟩⟩
    · rintro Γ1 ⟨q, rfl, nqq⟩
      refine ss_if <| et_test <| ee_op <| lc nqq u7 <| ee_lst <| ea_nil ⟨[], rfl, (by decide), RO1.ro <| ro1_eqNil ⟨_, rfl, fun e => ?_, fun _ => ss_next ⟨ms, _, _, _, _, rfl, u7, i1, i2, by omega⟩⟩⟩
      rw [List.isEmpty_map, List.isEmpty_iff, List.filter_eq_nil_iff] at e
      refine ss_append (ds0 := ms.map .str) (ee_var rfl ⟨.str q, ms.map .str, rfl, rfl, by rw [List.length_map]; omega, ms ++ [q], _, _, _, _, by rw [List.map_append]; rfl, u7, fun m hm => ?_, ?_, by rw [List.length_append, List.length_singleton]; omega⟩) rfl
      · rcases List.mem_append.mp hm with z | z
        · exact i1 m z
        · simp only [List.mem_singleton] at z
          rw [z]; exact nqq
      · refine List.pairwise_append.mpr ⟨i2, by simp, fun a ha b hb => ?_⟩
        simp only [List.mem_singleton] at hb
        subst hb
        rw [ovl_comm]
        exact Bool.eq_false_iff.mpr (e a ha)
  · obtain ⟨ms, z4, z5, z6, z7, rfl, u7, i1, i2, i3⟩ := hI
    rw [List.length_map] at i3 ⊢
    rw [Nat.sub_self]
    exact ss_freeze (i := 3) (.l (ms.map .str)) rfl (ss_ret <| ee_var rfl ⟨rfl, ms, rfl, i1, i2, i3⟩)
theorem sc__law_uses : FnScope ["_law_reel_here", "_law_modules_here", "_law_limit", "_law_found", "_law_tries", "_law_turn", "_law_one", "_law_other"] ["_law_reel_here", "_law_modules_here", "_law_limit"] (defScope sLawUses) := ⟨rfl, rfl, rfl, by decide +kernel, rfl, by decide +kernel, by decide +kernel⟩
theorem ok__law_uses (W : Wd K mg) : DefOk P w K mg base "_law_uses" ["_law_reel_here", "_law_modules_here", "_law_limit"] 3 (spUses K T) := by
  obtain ⟨f, fd, hm, F⟩ := W.f__law_uses
  have D__law_pick := ok__law_pick (P := P) (w := w) (base := base) (T := T) W
  have D__law_pull := ok__law_pull (P := P) (w := w) (base := base) (T := T) W
  refine ⟨f, fd, hm, F.kp, F.bindsN fun _ _ _ _ _ _ us hl => match us, hl with | [_, _, _], _ => rfl, F.ok sc__law_uses (spr_len fun _ => rfl) fun cdv A outer s H vs Q E hr h => ?_⟩
  have nd := sc__law_uses.nd
  have hu64 := hr.units
  have hu1 := hu_of hr
  refine ⟨_, PSs.nox ((pss_cons (ps_set (i := 3) nd rfl (by first | exact Or.inl rfl | exact Or.inr rfl) (pe_lst pa_nil))
    (pss_cons (ps_set (i := 4) nd rfl (by first | exact Or.inl rfl | exact Or.inr rfl) (pe_callD D__law_pick (hr.mono (by decide)) rfl (pa_cons (pv 0) (pa_cons (pe_lst (pa_cons (pv 2) (pa_cons (pe_callD D__law_pull (hr.mono (by decide)) rfl (pa_cons (pv 0) (pa_cons (pe_op (op_addK (K := K) rfl) (pv 2) pe_int) pa_nil))) pa_nil))) pa_nil))))
    (pss_cons (ps_for PassesOwn.never rfl (pi_range1 rfl W.b_range (pa_cons (pe_op op_mul (pv 4) (pe_callTy (call_int1) rfl W.b_int boot_int (pa_cons (pe_cmpR op_gt (pe_callB (cr_lenK (K := K) rfl) rfl W.b_len boot_len (pa_cons (pv 1) pa_nil)) pe_int (nomark _)) pa_nil))) pa_nil)) (pg_name (i := 5) nd rfl (by first | exact Or.inl rfl | exact Or.inr rfl))
    (pss_cons (ps_par (i := 6) (j := 7) (by rfl) nd rfl rfl (by decide) rfl rfl (pa_cons (pe_callD D__law_pick (hr.mono (by decide)) rfl (pa_cons (pv 0) (pa_cons (pv 1) pa_nil))) (pa_cons (pe_callD D__law_pick (hr.mono (by decide)) rfl (pa_cons (pv 0) (pa_cons (pv 1) pa_nil))) pa_nil)) (by rfl))
    (pss_one (ps_if (PW.pt (pw_and (pt_cmpR (op_neK (K := K) rfl hu64) (pv 6) (pv 7) (nomark _)) (pw_and1 (pt_cmpR (op_notInK (K := K) rfl hu64) (pe_tup (pa_cons (pv 6) (pa_cons (pv 7) pa_nil))) (pv 3) (by rfl)))))
    (pss_one (ps_expr (pe_bm PySem.F.plainAttrs_list PySem.F.slot_list_append PySem.F.type_list_append mt_append (pv 3) (pa_cons (pe_tup (pa_cons (pv 6) (pa_cons (pv 7) pa_nil))) pa_nil))))
    pss_nil))))
    (pss_one (ps_ret (pv 3))))))), sp_goR (fun H0 B0 rg sm i k hp => ?_) h⟩
  obtain ⟨ms, lim⟩ := i
  obtain ⟨hm, hl⟩ := hp
  dsimp only at hm hl
  refine ss_seq <| ss_newL (by show 3 < 8; decide) ?_
  refine ss_seq <| ss_set <| ee_callR rfl rfl (j := 0) rfl <| ea_cons <| ee_lst <| ea_cons <| ee_var rfl <| ea_cons <| ee_callR rfl rfl (j := 0) rfl <| ea_cons <| ee_op <| ee_var rfl <| ee_int <| ro_addI <| ea_nil ⟨lim + 1, k + 29, rfl, ⟨by omega, by omega⟩, ⟨_, rfl, by omega⟩, fun x ⟨v, hv, ex⟩ => ?_⟩
  subst ex
  refine ea_nil ⟨[.int (lim : Nat), .int (v : Nat)], rfl, (by show 2 ≤ 1000000; decide), ea_nil ⟨.inl [.int (lim : Nat), .int (v : Nat)], k + 28, rfl, ⟨(by show 1 ≤ 2; decide), (by show 2 ≤ 1000; decide)⟩, ⟨_, rfl, by omega⟩, fun x ⟨d, hd, ex⟩ => ?_⟩⟩
  obtain ⟨n, hn, rfl⟩ : ∃ n : Nat, n ≤ lim ∧ d = .int (n : Int) := by
    simp only [List.mem_cons, List.not_mem_nil, or_false] at hd
    rcases hd with e | e
    · exact ⟨lim, Nat.le_refl _, e⟩
    · exact ⟨v, by omega, e⟩
  subst ex
  obtain ⟨t, ht, ht2⟩ : ∃ t : Nat, (t : Int) = (n : Int) * (if decide ((1 : Int) < ((ms.map PyData.str).length : Int)) = true then 1 else 0) ∧ (t ≤ n ∧ (0 < t → 1 < ms.length)) := by
    by_cases h : 1 < ms.length
    · refine ⟨n, ?_, Nat.le_refl _, fun _ => h⟩
      rw [List.length_map, decide_eq_true (by omega), if_pos rfl]
      omega
    · refine ⟨0, ?_, Nat.zero_le _, fun z => by omega⟩
      rw [List.length_map, decide_eq_false (by omega), if_neg (by decide)]
      omega
  refine ss_seq <| ss_for (vs := [5]) <| wi_rng1 <| ea_cons <| ee_op <| ee_var rfl <| ee_CB <| ea_cons <| ee_op <| ee_CB <| ea_cons <| ee_var rfl <| ea_nil <| RL1.rl <| rl_lenL <| ee_int <| ro_gt <| ea_nil <| rl_intB <| ro_intC (C := CMul) (z := dI (t : Nat)) (.inl ⟨by omega, by omega⟩) (fun B => ?_) <| ea_nil ⟨t, by omega, rfl, fun j Γ1 => ∃ (us : List Use) (z5 z6 z7 : Cell), Γ1 = [.reel (k + (28 - 2 * j)), cV (.val (lsE ms)), cV (dI (lim : Nat)), .oL (us.map uE), cV (dI (n : Nat)), z5, z6, z7] ∧ us.Nodup ∧ (∀ u ∈ us, u.1 ∈ ms ∧ u.2 ∈ ms ∧ u.1 ≠ u.2) ∧ us.length ≤ j,
    ⟨[], _, _, _, rfl, .nil, (fun _ h => by cases h), Nat.le_refl _⟩, fun j d Γ1 hd hI => ?_, fun Γ1 hI => ?_⟩
  · show Dp _ _ (V.int ((n : Int) * _)) _
    rw [← ht]
    exact Dp.int _
  · obtain ⟨us, z5, z6, z7, rfl, i1, i2, i3⟩ := hI
    obtain ⟨j', hj', rfl⟩ := map_get hd
    obtain ⟨hjl, e⟩ := List.getElem?_eq_some_iff.mp hj'
    rw [List.getElem_range] at e
    subst e
    rw [List.length_range] at hjl
    have m1 := ht2.2 (by omega)
    refine sg_name (ss_seq <| ss_par (i := 6) (j := 7) <| ea_cons <| ee_callR rfl rfl (j := 0) rfl <| ea_cons <| ee_var rfl <| ea_nil ⟨.inl (ms.map .str), k + (28 - 2 * j - 1), rfl, (by show 1 ≤ _ ∧ _ ≤ 1000; rw [List.length_map]; omega), ⟨_, rfl, by omega⟩, fun x ⟨d, hd2, ex⟩ => ?_⟩) (by simp)
    obtain ⟨a, ha, rfl⟩ := List.mem_map.mp hd2
    subst ex
    refine ea_cons <| ee_callR rfl rfl (j := 0) rfl <| ea_cons <| ee_var rfl <| ea_nil ⟨.inl (ms.map .str), k + (28 - 2 * (j + 1)), rfl, (by show 1 ≤ _ ∧ _ ≤ 1000; rw [List.length_map]; omega), ⟨_, rfl, by omega⟩, fun x ⟨d, hd2, ex⟩ => ?_⟩
    obtain ⟨b, hb, rfl⟩ := List.mem_map.mp hd2
    subst ex
    have skip : ∃ (us' : List Use) (z5 z6 z7 : Cell), [.reel (k + (28 - 2 * (j + 1))), cV (.val (lsE ms)), cV (dI (lim : Nat)), .oL (us.map uE), cV (dI (n : Nat)), cV (dI (j : Nat)), cV (dS a), cV (dS b)] = [.reel (k + (28 - 2 * (j + 1))), cV (.val (lsE ms)), cV (dI (lim : Nat)), .oL (us'.map uE), cV (dI (n : Nat)), z5, z6, z7] ∧ us'.Nodup ∧ (∀ u ∈ us', u.1 ∈ ms ∧ u.2 ∈ ms ∧ u.1 ≠ u.2) ∧ us'.length ≤ j + 1 := ⟨us, _, _, _, rfl, i1, i2, by omega⟩
    refine ea_nil ⟨_, _, rfl, ss_if <| et_and <| et_test <| ee_op <| ee_var rfl <| ee_var rfl <| ro_neS ⟨_, rfl, fun e => ?_, fun e => ⟨(fun z => by cases z), fun _ => ss_next skip⟩⟩⟩
    refine et_test <| ee_opO2 (i := 3) (ds := us.map uE) rfl <| ee_tup <| ea_cons <| ee_var rfl <| ea_cons <| ee_var rfl <| ea_nil ⟨[.str a, .str b], rfl, (by show 2 ≤ 1000000; decide), ro2_ninE (x := ((a, b) : Use)) eqe_u (shal_u _) ⟨_, rfl, fun e2 => ?_, fun e2 => ss_next skip⟩⟩
    rw [Bool.not_eq_true', decide_eq_false_iff_not] at e e2
    refine ss_append (ds0 := us.map uE) (ee_tup <| ea_cons <| ee_var rfl <| ea_cons <| ee_var rfl <| ea_nil ⟨[.str a, .str b], rfl, (by show 2 ≤ 1000000; decide), uE (a, b), us.map uE, rfl, rfl, by rw [List.length_map]; omega, us ++ [(a, b)], _, _, _, by rw [List.map_append]; rfl, ?_, fun u hu => ?_, by rw [List.length_append, List.length_singleton]; omega⟩) rfl
    · refine List.nodup_append.mpr ⟨i1, by simp, fun x hx y hy z => ?_⟩
      simp only [List.mem_singleton] at hy
      subst hy
      subst z
      exact e2 hx
    · rcases List.mem_append.mp hu with q | q
      · exact i2 u q
      · simp only [List.mem_singleton] at q
        rw [q]; exact ⟨ha, hb, e⟩
  · obtain ⟨us, z5, z6, z7, rfl, i1, i2, i3⟩ := hI
    rw [List.length_map, List.length_range] at i3
    exact ss_reelLe (j := 0) (m' := k) rfl (by omega) <| ss_freeze (i := 3) (.l (us.map uE)) rfl (ss_ret <| ee_var rfl ⟨rfl, us, rfl, i1, i2, by show us.length ≤ lim; omega⟩)
end
end My
end P24_
section P25_
set_option maxHeartbeats 1000000
namespace My
open PySem PySem.Spec PyProof.Rows L2 LamX
/-- how many parts there may be -/
def partsN (ms : List Str) : Nat := (ms.map fun m => (Txt.split m dot).length).sum
theorem partsN_le {k : Nat} : ∀ {ms : List Str}, (∀ m ∈ ms, NP k m) → partsN ms ≤ k * ms.length
  | [], _ => Nat.zero_le _
  | m :: ms, h => by
    have ih := partsN_le (k := k) (ms := ms) fun x hx => h x (List.mem_cons_of_mem _ hx)
    obtain ⟨ns, e, ne, nl, no⟩ := h m (by simp)
    unfold partsN at ih ⊢
    rw [List.map_cons, List.sum_cons, e, jn_split ne no, List.length_cons, Nat.mul_succ]
    omega
/-- a drawn case: modules, uses, a book -/
structure CaseD (ms : List Str) (us : List Use) (rs : List Rule) : Prop where
  np : ∀ m ∈ ms, NP 5 m
  nov : NoOv ms
  mlen : ms.length ≤ 24
  und : us.Nodup
  umem : ∀ u ∈ us, u.1 ∈ ms ∧ u.2 ∈ ms ∧ u.1 ≠ u.2
  ulen : us.length ≤ 25
  rok : ∀ r ∈ rs, RuleOk r
  rlen : rs.length ≤ 8
  rno : NoRep rs
  parts : partsN ms < 64
def caseE (i : List Str × List Use × List Rule) : PyData := .tuple [lsE i.1, luE i.2.1, rulesE i.2.2]
abbrev spSmall (K : PySem.W.Frag) (T : List (Addr × Str)) : Sp := SpR K T (fun i : Nat => [dI (i : Nat)]) (fun i => i = 10) (fun _ => 300) (fun i x => ∃ ms us rs, x = .val (caseE (ms, us, rs)) ∧ CaseD ms us rs)
section
variable {c : Ctx} {Γ : Env'}
/-- [e] * k -/
theorem ee_repL {ta tb : TE} {P : Dat → Env' → Prop} (h : EE c ta Γ fun x Γ1 => ∃ d, x = .val d ∧ EE c tb Γ1 fun y Γ2 => ∃ k : Nat, y = dI (k : Nat) ∧ k ≤ 1000 ∧ P (dL (List.replicate k d)) Γ2) : EE c (tOp rRep (tLst (tCons ta tNil)) tb) Γ P := fun σ B H C E Q q =>
  h σ B H C E _ fun v B1 H1 x Γ1 s1 d1 ⟨d, e, h2⟩ => by
    subst e
    refine ⟨len_lit (n := 1) (by decide), fun p hp => ?_⟩
    have st := step_new (o := .lst [v]) s1.cur hp
    have hpr : p ∉ c.rs := fun z => (s1.cur.reel p z).1 hp
    have s1' := s1.step st
    refine h2 σ _ _ s1'.cur s1'.env _ fun u B2 H2 y Γ2 s2 d2 ⟨k, e2, hk, fin⟩ => ?_
    subst e2
    cases d2
    have hp2 := s2.stp.h p _ (upd_same (H := H1) (o := .lst [v])) (fun ps z => by cases z) hpr
    have hz : (1000 : Nat) ≤ sizeLine := len_lit (by decide)
    refine ⟨p, k, [v], rfl, rfl, hp2, by omega, by omega, by rw [Int.toNat_natCast, List.length_singleton]; omega, fun l hl => ?_⟩
    have st2 := step_new (o := .lst (List.replicate (k : Int).toNat [v]).flatten) s2.cur hl
    refine q _ _ _ (dL (List.replicate k d)) _ ((s1'.trans s2).step st2) (Dp.lst (SqL.of upd_same) ?_) fin
    rw [Int.toNat_natCast]
    have dv : Dp c.K (upd B2 l (.lst (List.replicate k [v]).flatten)) v d := by
      have := Dp.mono (st2.b) (Dp.mono s2.b (Dp.mono st.b d1))
      rw [Int.toNat_natCast] at this
      exact this
    have all : ∀ n : Nat, DpAll c.K (upd B2 l (.lst (List.replicate k [v]).flatten)) (List.replicate n [v]).flatten (List.replicate n d) := fun n => by
      induction n with
      | zero => exact .nil
      | succ n ih =>
        rw [List.replicate_succ, List.replicate_succ, List.flatten_cons]
        exact .cons dv ih
    exact all k
end
section
variable {P : Program} {w : World} {K : PySem.W.Frag} {mg : Str → Option Value} {base : Heap} {T : List (Addr × Str)}
theorem sc__law_small_case : FnScope ["_law_reel_here", "_law_limit", "_law_names_here", "_law_spots_here", "_law_many", "_law_modules_here", "_law_uses_here"] ["_law_reel_here", "_law_limit"] (defScope sLawSmallCase) := ⟨rfl, rfl, rfl, by decide +kernel, rfl, by decide +kernel, by decide +kernel⟩
theorem ok__law_small_case (W : Wd K mg) : DefOk P w K mg base "_law_small_case" ["_law_reel_here", "_law_limit"] 7 (spSmall K T) := by
  obtain ⟨f, fd, hm, F⟩ := W.f__law_small_case
  have D__law_some_rules := ok__law_some_rules (P := P) (w := w) (base := base) (T := T) W
  have D__law_uses := ok__law_uses (P := P) (w := w) (base := base) (T := T) W
  have D__law_modules := ok__law_modules (P := P) (w := w) (base := base) (T := T) W
  have D__law_pick := ok__law_pick (P := P) (w := w) (base := base) (T := T) W
  have D__law_pull := ok__law_pull (P := P) (w := w) (base := base) (T := T) W
  have D__law_spots := ok__law_spots (P := P) (w := w) (base := base) (T := T) W
  have D__law_names := ok__law_names (P := P) (w := w) (base := base) (T := T) W
  refine ⟨f, fd, hm, F.kp, F.bindsN fun _ _ _ _ _ _ us hl => match us, hl with | [_, _], _ => rfl, F.ok sc__law_small_case (spr_len fun _ => rfl) fun cdv A outer s H vs Q E hr h => ?_⟩
  have nd := sc__law_small_case.nd
  have hu64 := hr.units
  have hu1 := hu_of hr
  refine ⟨_, PSs.nox ((pss_cons (ps_set (i := 2) nd rfl (by first | exact Or.inl rfl | exact Or.inr rfl) (pe_callD D__law_names (hr.mono (by decide)) rfl (pa_cons (pv 0) (pa_cons pe_int pa_nil))))
    (pss_cons (ps_set (i := 3) nd rfl (by first | exact Or.inl rfl | exact Or.inr rfl) (pe_callD D__law_spots (hr.mono (by decide)) rfl (pa_cons (pv 0) (pa_cons (pv 2) pa_nil))))
    (pss_cons (ps_set (i := 4) nd rfl (by first | exact Or.inl rfl | exact Or.inr rfl) (pe_callD D__law_pick (hr.mono (by decide)) rfl (pa_cons (pv 0) (pa_cons (pe_lst (pa_cons pe_int (pa_cons pe_int (pa_cons (pe_op (op_addK (K := K) rfl) pe_int (pe_callD D__law_pull (hr.mono (by decide)) rfl (pa_cons (pv 0) (pa_cons pe_int pa_nil)))) pa_nil)))) pa_nil))))
    (pss_cons (ps_set (i := 5) nd rfl (by first | exact Or.inl rfl | exact Or.inr rfl) (pe_callD D__law_modules (hr.mono (by decide)) rfl (pa_cons (pv 0) (pa_cons (pv 3) (pa_cons (pe_slice (sl_listK (K := K) rfl) (pv 2) (po_some pe_int) (po_some (pe_op (op_addK (K := K) rfl) pe_int (pv 4)))) pa_nil)))))
    (pss_cons (ps_set (i := 6) nd rfl (by first | exact Or.inl rfl | exact Or.inr rfl) (pe_slice (sl_listK (K := K) rfl) (pe_callD D__law_uses (hr.mono (by decide)) rfl (pa_cons (pv 0) (pa_cons (pv 5) (pa_cons (pe_op (op_addK (K := K) rfl) (pv 1) pe_int) pa_nil)))) po_none (po_some (pv 1))))
    (pss_one (ps_ret (pe_tup (pa_cons (pv 5) (pa_cons (pv 6) (pa_cons (pe_callD D__law_some_rules (hr.mono (by decide)) rfl (pa_cons (pv 0) (pa_cons (pv 3) (pa_cons pe_int pa_nil)))) pa_nil)))))))))))), sp_goR (fun H0 B0 rg sm i k hp => ?_) h⟩
  have hp : i = 10 := hp
  subst hp
  refine ss_seq <| ss_set <| ee_callR rfl rfl (j := 0) rfl <| ea_cons <| ee_int <| ea_nil ⟨11, k + 200, rfl, (by decide), ⟨_, rfl, by omega⟩, fun x ⟨ns, ex, n1, n2, n3⟩ => ?_⟩
  subst ex
  refine ss_seq <| ss_set <| ee_callR rfl rfl (j := 0) rfl <| ea_cons <| ee_var rfl <| ea_nil ⟨ns, k + 175, rfl, ⟨by omega, by omega, n2, n3⟩, ⟨_, rfl, by omega⟩, fun x ⟨sp, ex, so⟩ => ?_⟩
  subst ex
  refine ss_seq <| ss_set <| ee_callR rfl rfl (j := 0) rfl <| ea_cons <| ee_lst <| ea_cons <| ee_int <| ea_cons <| ee_int <| ea_cons <| ee_op <| ee_int <| ee_callR rfl rfl (j := 0) rfl <| ea_cons <| ee_int <| ea_nil ⟨5, k + 174, rfl, ⟨by decide, by decide⟩, ⟨_, rfl, by omega⟩, fun x ⟨v, hv, ex⟩ => ?_⟩
  subst ex
  refine ro_addI <| ea_nil ⟨[.int ((4 : Nat) : Int), .int ((6 : Nat) : Int), .int ((2 + v : Nat) : Int)], rfl, (by show 3 ≤ 1000000; decide), ea_nil ⟨.inl [.int ((4 : Nat) : Int), .int ((6 : Nat) : Int), .int ((2 + v : Nat) : Int)], k + 173, rfl, ⟨(by show 1 ≤ 3; decide), (by show 3 ≤ 1000; decide)⟩, ⟨_, rfl, by omega⟩, fun x ⟨d, hd, ex⟩ => ?_⟩⟩
  obtain ⟨n, hn, rfl⟩ : ∃ n : Nat, n ≤ 6 ∧ d = .int (n : Int) := by
    simp only [List.mem_cons, List.not_mem_nil, or_false] at hd
    rcases hd with e | e | e
    · exact ⟨4, by decide, e⟩
    · exact ⟨6, by decide, e⟩
    · exact ⟨2 + v, by omega, e⟩
  subst ex
  have cut : cutD (ns.map PyData.str) (some 5) (some ((5 : Int) + (n : Int))) = ((ns.drop 5).take n).map .str := by
    rw [show ((5 : Int) + (n : Int)) = ((5 + n : Nat) : Int) by omega, show (5 : Int) = ((5 : Nat) : Int) from rfl, cutD_map, cutD_mid, Nat.add_sub_cancel_left]
  have lvl : ((ns.drop 5).take n).length ≤ 6 := by rw [List.length_take]; omega
  refine ss_seq <| ss_set <| ee_callR rfl rfl (j := 0) rfl <| ea_cons <| ee_var rfl <| ea_cons <| ee_sl <| ee_var rfl <| eo_some <| ee_int ⟨_, rfl, eo_some <| ee_op <| ee_int <| ee_var rfl <| ro_addI ⟨_, rfl, RU1.ru <| ru1_sl <| ea_nil ⟨(sp, (ns.drop 5).take n), k + 161, by rw [cut], ⟨so, Nat.le_trans lvl (by decide), fun m hm => n2 m (List.mem_of_mem_drop (List.mem_of_mem_take hm))⟩, ⟨_, rfl, by show k + 161 + 2 * ((ns.drop 5).take n).length ≤ _; omega⟩, fun x ⟨ms, ex, dm⟩ => ?_⟩⟩⟩
  subst ex
  have dml : ms.length ≤ 6 := Nat.le_trans dm.len lvl
  refine ss_seq <| ss_set <| ee_sl <| ee_callR rfl rfl (j := 0) rfl <| ea_cons <| ee_var rfl <| ea_cons <| ee_op <| ee_var rfl <| ee_int <| ro_addI <| ea_nil ⟨(ms, 14), k + 131, rfl, ⟨by show ms.length ≤ 100; omega, Nat.le_refl 14⟩, ⟨_, rfl, by omega⟩, fun x ⟨us, ex, du⟩ => ?_⟩
  subst ex
  have cut2 : cutD (us.map uE) none (some ((10 : Nat) : Int)) = (us.take 10).map uE := by rw [cutD_map, cutD_to]
  refine eo_none <| eo_some <| ee_var rfl ⟨_, rfl, RU1.ru <| ru1_sl ?_⟩
  rw [cut2]
  refine ss_ret <| ee_tup <| ea_cons <| ee_var rfl <| ea_cons <| ee_var rfl <| ea_cons <| ee_callR rfl rfl (j := 0) rfl <| ea_cons <| ee_var rfl <| ea_cons <| ee_int <| ea_nil ⟨(sp, 3), k, rfl, ⟨so, rfl⟩, ⟨_, rfl, by omega⟩, fun x ⟨rs, ex, db⟩ => ?_⟩
  subst ex
  have dbn := db.n
  exact ea_nil ⟨[lsE ms, luE (us.take 10), rulesE rs], rfl, (by show 3 ≤ 1000000; decide), rfl, ms, us.take 10, rs, rfl, dm.np, dm.nov, by omega, List.Nodup.sublist (List.take_sublist _ _) du.nd, fun u hu => du.mem u (List.mem_of_mem_take hu), by rw [List.length_take]; omega, db.ok, by omega, db.norep, by have := partsN_le dm.np; omega⟩
end
end My
end P25_
section DL34_
set_option maxHeartbeats 1000000
namespace My
open PySem PySem.Spec PyProof.Rows L2 LamX
/-- a name that is no head, or a path of two names below a head -/
inductive TW (hs : List Str) : Str → Prop
  | nm {n : Str} : nameOk n → n ∉ hs → TW hs n
  | two {a b : Str} : nameOk a → nameOk b → a ∈ hs → TW hs (a ++ dot ++ b)
theorem TW.apart {hs : List Str} {x y : Str} (h1 : TW hs x) (h2 : TW hs y) (ne : x ≠ y) : ovl x y = false := by
  cases h1 with
  | nm n1 o1 => cases h2 with
    | nm n2 o2 => exact ovl_names n1 n2 ne
    | two a2 b2 m2 => exact ovl_two n1 a2 b2 fun z => o1 (z ▸ m2)
  | two a1 b1 m1 => cases h2 with
    | nm n2 o2 => rw [ovl_comm]; exact ovl_two n2 a1 b1 fun z => o2 (z ▸ m1)
    | two a2 b2 m2 => exact ovl_cnt (by rw [cnt_two a1 b1, cnt_two a2 b2]) ne
theorem TW.np {hs : List Str} {x : Str} (h : TW hs x) : NP 5 x := by
  cases h with
  | nm n o => exact (NP.one n).mono (by decide)
  | two a b m => exact ((NP.one a).snoc b).mono (by decide)
theorem TW.np2 {hs : List Str} {x : Str} (h : TW hs x) : NP 2 x := by
  cases h with
  | nm n o => exact (NP.one n).mono (by decide)
  | two a b m => exact (NP.one a).snoc b
theorem noOv_of {hs : List Str} {l : List Str} (h : ∀ x ∈ l, TW hs x) (nd : l.Nodup) : NoOv l := by
  unfold NoOv
  induction nd with
  | nil => exact .nil
  | @cons a l hd _ ih =>
    refine .cons (fun b hb => ?_) (ih fun x hx => h x (List.mem_cons_of_mem _ hx))
    rw [ovl_comm]
    exact (h a (by simp)).apart (h b (List.mem_cons_of_mem _ hb)) (hd b hb)
theorem two_inj {a b c d : Str} (ha : nameOk a) (hc : nameOk c) (e : a ++ dot ++ b = c ++ dot ++ d) : a = c ∧ b = d := by
  have h : ls (a ++ dot ++ b) = ls (c ++ dot ++ d) := by rw [e]
  rw [ls_app, ls_app, ls_app, ls_app, dot_ls, List.append_assoc, List.append_assoc] at h
  have p : ls a ++ [46] <+: ls c ++ 46 :: ls d := ⟨ls b, by rw [List.append_assoc]; exact h⟩
  have e1 : a = c := ls_inj (prefix_dot (name_nodot ha) (name_nodot hc) p)
  subst e1
  have h2 := List.append_cancel_left h
  exact ⟨rfl, ls_inj (List.append_cancel_left h2)⟩
theorem two_ne {a b n : Str} (ha : nameOk a) (hb : nameOk b) (hn : nameOk n) : a ++ dot ++ b ≠ n := fun e => by
  have := cnt_two ha hb
  rw [e, cnt_name hn] at this
  omega
/-- the pairs of neighbours -/
theorem zip_tail_fst {α : Type} : ∀ l : List α, (l.zip l.tail).map (·.1) = l.dropLast
  | [] => rfl
  | [_] => rfl
  | a :: b :: l => by
    have ih := zip_tail_fst (b :: l)
    show a :: (((b :: l).zip l).map (·.1)) = a :: (b :: l).dropLast
    rw [show (b :: l).zip l = (b :: l).zip (b :: l).tail from rfl, ih]
theorem zip_tail_ne {α : Type} : ∀ {l : List α}, l.Nodup → ∀ u ∈ l.zip l.tail, u.1 ∈ l ∧ u.2 ∈ l ∧ u.1 ≠ u.2
  | [], _, u, h => by cases h
  | [_], _, u, h => by cases h
  | a :: b :: l, nd, u, h => by
    have h : u ∈ (a, b) :: (b :: l).zip (b :: l).tail := h
    rcases List.mem_cons.mp h with e | e
    · subst e
      exact ⟨by simp, by simp, fun z => (List.nodup_cons.mp nd).1 (by rw [show a = b from z]; simp)⟩
    · obtain ⟨q1, q2, q3⟩ := zip_tail_ne (List.nodup_cons.mp nd).2 u e
      exact ⟨List.mem_cons_of_mem _ q1, List.mem_cons_of_mem _ q2, q3⟩
theorem nodup_of_map {α β : Type} {f : α → β} {l : List α} (h : (l.map f).Nodup) : l.Nodup := by
  unfold List.Nodup at h ⊢
  rw [List.pairwise_map] at h
  exact h.imp fun {a b} q e => q (by rw [e])
theorem zip_map' {α β : Type} (f : α → β) (l m : List α) : (l.map f).zip (m.map f) = (l.zip m).map fun p => (f p.1, f p.2) := List.zip_map
/-- first, second, modules, uses -/
def wFirst (n0 n2 n4 : Str) (A : List Str) : List Str := (n0 ++ dot ++ n2) :: A ++ [n4]
def wMods (n0 n1 n2 n3 n4 n5 : Str) (A B : List Str) : List Str := wFirst n0 n2 n4 A ++ ((n0 ++ dot ++ n3) :: B) ++ [n1 ++ dot ++ n5]
def wUses (n0 n1 n2 n3 n4 n5 : Str) (A B : List Str) : List Use := (wFirst n0 n2 n4 A).zip (wFirst n0 n2 n4 A).tail ++ (wFirst n0 n3 n4 B).zip (wFirst n0 n3 n4 B).tail ++ [(n4, n1 ++ dot ++ n5)]
theorem w_all {n0 n1 n2 n3 n4 n5 : Str} {A B : List Str} (nd : (n0 :: n1 :: n2 :: n3 :: n4 :: n5 :: (A ++ B)).Nodup) (ok : ∀ n ∈ n0 :: n1 :: n2 :: n3 :: n4 :: n5 :: (A ++ B), nameOk n) :
    (∀ m ∈ wMods n0 n1 n2 n3 n4 n5 A B, TW [n0, n1] m) ∧ (wMods n0 n1 n2 n3 n4 n5 A B).Nodup ∧ (wUses n0 n1 n2 n3 n4 n5 A B).Nodup ∧ ∀ u ∈ wUses n0 n1 n2 n3 n4 n5 A B, u.1 ∈ wMods n0 n1 n2 n3 n4 n5 A B ∧ u.2 ∈ wMods n0 n1 n2 n3 n4 n5 A B ∧ u.1 ≠ u.2 := by
  have o0 := ok n0 (by simp)
  have o1 := ok n1 (by simp)
  have o2 := ok n2 (by simp)
  have o3 := ok n3 (by simp)
  have o4 := ok n4 (by simp)
  have o5 := ok n5 (by simp)
  have oA : ∀ a ∈ A, nameOk a := fun a h => ok a (by simp [h])
  have oB : ∀ a ∈ B, nameOk a := fun a h => ok a (by simp [h])
  simp only [List.nodup_cons, List.mem_cons, List.mem_append, not_or] at nd
  obtain ⟨⟨d01, d02, d03, d04, d05, d0A, d0B⟩, ⟨d12, d13, d14, d15, d1A, d1B⟩, ⟨d23, d24, d25, d2A, d2B⟩, ⟨d34, d35, d3A, d3B⟩, ⟨d45, d4A, d4B⟩, ⟨d5A, d5B⟩, dAB⟩ := nd
  obtain ⟨ndA, ndB, dis⟩ := List.nodup_append.mp dAB
  have mem : ∀ m, m ∈ wMods n0 n1 n2 n3 n4 n5 A B ↔ m = n0 ++ dot ++ n2 ∨ m ∈ A ∨ m = n4 ∨ m = n0 ++ dot ++ n3 ∨ m ∈ B ∨ m = n1 ++ dot ++ n5 := fun m => by
    simp only [wMods, wFirst, List.mem_append, List.mem_cons, List.not_mem_nil, or_false]
    constructor
    · rintro ((((h | h) | h) | h | h) | h) <;> simp [h]
    · rintro (h | h | h | h | h | h) <;> simp [h]
  have tw : ∀ m ∈ wMods n0 n1 n2 n3 n4 n5 A B, TW [n0, n1] m := fun m hm => by
    have out : ∀ n, n ≠ n0 → n ≠ n1 → n ∉ [n0, n1] := fun n h1 h2 => by simp [h1, h2]
    rcases (mem m).mp hm with h | h | h | h | h | h
    · rw [h]; exact .two o0 o2 (by simp)
    · exact .nm (oA m h) (out m (fun z => d0A (z ▸ h)) (fun z => d1A (z ▸ h)))
    · rw [h]; exact .nm o4 (out n4 (fun z => d04 z.symm) (fun z => d14 z.symm))
    · rw [h]; exact .two o0 o3 (by simp)
    · exact .nm (oB m h) (out m (fun z => d0B (z ▸ h)) (fun z => d1B (z ▸ h)))
    · rw [h]; exact .two o1 o5 (by simp)
  have e23 : n0 ++ dot ++ n2 ≠ n0 ++ dot ++ n3 := fun e => d23 (two_inj o0 o0 e).2
  have e25 : n0 ++ dot ++ n2 ≠ n1 ++ dot ++ n5 := fun e => d01 (two_inj o0 o1 e).1
  have e35 : n0 ++ dot ++ n3 ≠ n1 ++ dot ++ n5 := fun e => d01 (two_inj o0 o1 e).1
  have ndm : (wMods n0 n1 n2 n3 n4 n5 A B).Nodup := by
    unfold wMods wFirst
    simp only [List.cons_append, List.append_assoc, List.nil_append]
    simp only [List.nodup_cons, List.mem_append, List.mem_cons, List.not_mem_nil, or_false, not_or, List.nodup_append]
    refine ⟨⟨fun h => two_ne o0 o2 (oA _ h) rfl, two_ne o0 o2 o4, e23, fun h => two_ne o0 o2 (oB _ h) rfl, e25⟩, ndA, ⟨⟨fun z => two_ne o0 o3 o4 z.symm, d4B, fun z => two_ne o1 o5 o4 z.symm⟩, ⟨fun h => two_ne o0 o3 (oB _ h) rfl, e35⟩, ndB, ⟨by simp, List.nodup_nil⟩, fun a ha b hb => ?_⟩, fun a ha b hb => ?_⟩
    · rw [hb]
      exact fun z => two_ne o1 o5 (oB a ha) z.symm
    · rcases hb with h | h | h | h
      · rw [h]; exact fun z => d4A (z ▸ ha)
      · rw [h]; exact fun z => two_ne o0 o3 (oA a ha) z.symm
      · exact dis a ha b h
      · rw [h]; exact fun z => two_ne o1 o5 (oA a ha) z.symm
  have f1 : (wFirst n0 n2 n4 A).Nodup := by
    have := (List.nodup_append.mp ndm).1
    exact (List.nodup_append.mp this).1
  have sub2 : ∀ m ∈ wFirst n0 n3 n4 B, m ∈ wMods n0 n1 n2 n3 n4 n5 A B := fun m hm => by
    rw [mem]
    simp only [wFirst, List.mem_append, List.mem_cons, List.not_mem_nil, or_false] at hm
    rcases hm with (h | h) | h <;> simp [h]
  have sub1 : ∀ m ∈ wFirst n0 n2 n4 A, m ∈ wMods n0 n1 n2 n3 n4 n5 A B := fun m hm => by
    rw [mem]
    simp only [wFirst, List.mem_append, List.mem_cons, List.not_mem_nil, or_false] at hm
    rcases hm with (h | h) | h <;> simp [h]
  have f2 : (wFirst n0 n3 n4 B).Nodup := by
    unfold wFirst
    simp only [List.cons_append, List.nodup_cons, List.mem_append, List.mem_cons, List.not_mem_nil, or_false, not_or, List.nodup_append]
    refine ⟨⟨fun h => two_ne o0 o3 (oB _ h) rfl, two_ne o0 o3 o4⟩, ndB, ⟨by simp, List.nodup_nil⟩, fun a ha b hb => ?_⟩
    rw [hb]
    exact fun z => d4B (z ▸ ha)
  have dl : ∀ (x : Str) (L : List Str), (wFirst n0 x n4 L).dropLast = (n0 ++ dot ++ x) :: L := fun x L => by
    unfold wFirst
    rw [List.dropLast_concat]
  refine ⟨tw, ndm, nodup_of_map (f := (·.1)) ?_, fun u hu => ?_⟩
  · unfold wUses
    rw [List.map_append, List.map_append, zip_tail_fst, zip_tail_fst, dl, dl]
    show ((n0 ++ dot ++ n2) :: A ++ (n0 ++ dot ++ n3) :: B ++ [n4]).Nodup
    simp only [List.cons_append, List.append_assoc]
    simp only [List.nodup_cons, List.mem_append, List.mem_cons, List.not_mem_nil, or_false, not_or, List.nodup_append]
    refine ⟨⟨fun h => two_ne o0 o2 (oA _ h) rfl, e23, fun h => two_ne o0 o2 (oB _ h) rfl, two_ne o0 o2 o4⟩, ndA, ⟨⟨fun h => two_ne o0 o3 (oB _ h) rfl, two_ne o0 o3 o4⟩, ndB, ⟨by simp, List.nodup_nil⟩, fun a ha b hb => ?_⟩, fun a ha b hb => ?_⟩
    · rw [hb]; exact fun z => d4B (z ▸ ha)
    · rcases hb with h | h | h
      · rw [h]; exact fun z => two_ne o0 o3 (oA a ha) z.symm
      · exact dis a ha b h
      · rw [h]; exact fun z => d4A (z ▸ ha)
  · unfold wUses at hu
    rcases List.mem_append.mp hu with h | h
    · rcases List.mem_append.mp h with h | h
      · obtain ⟨q1, q2, q3⟩ := zip_tail_ne f1 u h
        exact ⟨sub1 _ q1, sub1 _ q2, q3⟩
      · obtain ⟨q1, q2, q3⟩ := zip_tail_ne f2 u h
        exact ⟨sub2 _ q1, sub2 _ q2, q3⟩
    · simp only [List.mem_singleton] at h
      subst h
      exact ⟨(mem n4).mpr (by simp), (mem _).mpr (by simp), fun z => two_ne o1 o5 o4 z.symm⟩
end My
end DL34_
section P26_
set_option maxHeartbeats 1000000
namespace My
open PySem PySem.Spec PyProof.Rows L2 LamX
abbrev spTwo (K : PySem.W.Frag) (T : List (Addr × Str)) : Sp := SpR K T (fun i : Unit => []) (fun i => True) (fun _ => 300) (fun i x => ∃ ms us rs, x = .val (caseE (ms, us, rs)) ∧ CaseD ms us rs)
theorem twenty {α : Type} {l : List α} (h : l.length = 20) : ∃ n0 n1 n2 n3 n4 n5 a b, l = n0 :: n1 :: n2 :: n3 :: n4 :: n5 :: (a ++ b) ∧ a.length = 7 ∧ b.length = 7 := by
  match l, h with
  | n0 :: n1 :: n2 :: n3 :: n4 :: n5 :: r, h =>
    have hr : r.length = 14 := by simpa using h
    exact ⟨n0, n1, n2, n3, n4, n5, r.take 7, r.drop 7, by rw [List.take_append_drop], by rw [List.length_take]; omega, by rw [List.length_drop]; omega⟩
theorem cutD_init {α : Type} (xs : List α) : cutD xs none (some (-1)) = xs.dropLast := by
  unfold cutD
  show (xs.drop 0).take ((-1 + (xs.length : Int)).toNat - 0) = _
  rw [List.drop_zero, List.dropLast_eq_take]
  congr 1
  omega
theorem cutD_one {α : Type} (x y : α) : cutD [x, y] none (some 1) = [x] := rfl
theorem cutD_one' {α : Type} (x y : α) : cutD [x, y] (some 1) none = [y] := rfl
section
variable {P : Program} {w : World} {K : PySem.W.Frag} {mg : Str → Option Value} {base : Heap} {T : List (Addr × Str)}
theorem sc__law_two_ways : FnScope ["_law_reel_here", "_law_names_here", "_law_begin", "_law_middle", "_law_first", "_law_second", "_law_modules_here", "_law_uses_here", "_law_use"] ["_law_reel_here"] (defScope sLawTwoWays) := ⟨rfl, rfl, rfl, by decide +kernel, rfl, by decide +kernel, by decide +kernel⟩
theorem ok__law_two_ways (W : Wd K mg) : DefOk P w K mg base "_law_two_ways" ["_law_reel_here"] 4 (spTwo K T) := by
  obtain ⟨f, fd, hm, F⟩ := W.f__law_two_ways
  have D__law_uses := ok__law_uses (P := P) (w := w) (base := base) (T := T) W
  have D__law_pull := ok__law_pull (P := P) (w := w) (base := base) (T := T) W
  have D__law_names := ok__law_names (P := P) (w := w) (base := base) (T := T) W
  refine ⟨f, fd, hm, F.kp, F.bindsN fun _ _ _ _ _ _ us hl => match us, hl with | [_], _ => rfl, F.ok sc__law_two_ways (spr_len fun _ => rfl) fun cdv A outer s H vs Q E hr h => ?_⟩
  have nd := sc__law_two_ways.nd
  have hu64 := hr.units
  have hu1 := hu_of hr
  refine ⟨_, PSs.nox ((pss_cons (ps_set (i := 1) nd rfl (by first | exact Or.inl rfl | exact Or.inr rfl) (pe_callD D__law_names (hr.mono (by decide)) rfl (pa_cons (pv 0) (pa_cons pe_int pa_nil))))
    (pss_cons (ps_par (i := 2) (j := 3) (by rfl) nd rfl rfl (by decide) rfl rfl (pa_cons (pe_lst (pa_cons (pe_op (op_addK (K := K) rfl) (pe_op (op_addK (K := K) rfl) (pe_ix (ix_seqK (K := K) rfl) (pv 1) pe_int (fun _ _ => rfl)) pe_str) (pe_ix (ix_seqK (K := K) rfl) (pv 1) pe_int (fun _ _ => rfl))) (pa_cons (pe_op (op_addK (K := K) rfl) (pe_op (op_addK (K := K) rfl) (pe_ix (ix_seqK (K := K) rfl) (pv 1) pe_int (fun _ _ => rfl)) pe_str) (pe_ix (ix_seqK (K := K) rfl) (pv 1) pe_int (fun _ _ => rfl))) pa_nil))) (pa_cons (pe_ix (ix_seqK (K := K) rfl) (pv 1) pe_int (fun _ _ => rfl)) pa_nil)) (by rfl))
    (pss_cons (ps_set (i := 4) nd rfl (by first | exact Or.inl rfl | exact Or.inr rfl) (pe_op (op_addK (K := K) rfl) (pe_op (op_addK (K := K) rfl) (pe_slice (sl_listK (K := K) rfl) (pv 2) po_none (po_some pe_int)) (pe_slice (sl_listK (K := K) rfl) (pv 1) (po_some pe_int) (po_some (pe_op (op_addK (K := K) rfl) pe_int (pe_callD D__law_pull (hr.mono (by decide)) rfl (pa_cons (pv 0) (pa_cons pe_int pa_nil))))))) (pe_lst (pa_cons (pv 3) pa_nil))))
    (pss_cons (ps_set (i := 5) nd rfl (by first | exact Or.inl rfl | exact Or.inr rfl) (pe_op (op_addK (K := K) rfl) (pe_op (op_addK (K := K) rfl) (pe_slice (sl_listK (K := K) rfl) (pv 2) (po_some pe_int) po_none) (pe_slice (sl_listK (K := K) rfl) (pv 1) (po_some pe_int) (po_some (pe_op (op_addK (K := K) rfl) pe_int (pe_callD D__law_pull (hr.mono (by decide)) rfl (pa_cons (pv 0) (pa_cons pe_int pa_nil))))))) (pe_lst (pa_cons (pv 3) pa_nil))))
    (pss_cons (ps_set (i := 6) nd rfl (by first | exact Or.inl rfl | exact Or.inr rfl) (pe_op (op_addK (K := K) rfl) (pe_op (op_addK (K := K) rfl) (pv 4) (pe_slice (sl_listK (K := K) rfl) (pv 5) po_none (po_some (pe_un un_neg pe_int)))) (pe_lst (pa_cons (pe_op (op_addK (K := K) rfl) (pe_op (op_addK (K := K) rfl) (pe_ix (ix_seqK (K := K) rfl) (pv 1) pe_int (fun _ _ => rfl)) pe_str) (pe_ix (ix_seqK (K := K) rfl) (pv 1) pe_int (fun _ _ => rfl))) pa_nil))))
    (pss_cons (ps_set (i := 7) nd rfl (by first | exact Or.inl rfl | exact Or.inr rfl) (pe_op (op_addK (K := K) rfl) (pe_op (op_addK (K := K) rfl) (pe_lstZip rfl W.b_list rfl W.b_zip rfl (pa_cons (pv 4) (pa_cons (pe_slice (sl_listK (K := K) rfl) (pv 4) (po_some pe_int) po_none) pa_nil))) (pe_lstZip rfl W.b_list rfl W.b_zip rfl (pa_cons (pv 5) (pa_cons (pe_slice (sl_listK (K := K) rfl) (pv 5) (po_some pe_int) po_none) pa_nil)))) (pe_lst (pa_cons (pe_tup (pa_cons (pv 3) (pa_cons (pe_ix (ix_seqK (K := K) rfl) (pv 6) (pe_un un_neg pe_int) (fun _ _ => rfl)) pa_nil))) pa_nil))))
    (pss_cons (ps_for PassesOwn.never rfl (pi_listK (K := K) rfl (pe_callD D__law_uses (hr.mono (by decide)) rfl (pa_cons (pv 0) (pa_cons (pv 6) (pa_cons pe_int pa_nil))))) (pg_name (i := 8) nd rfl (by first | exact Or.inl rfl | exact Or.inr rfl))
    (pss_one (ps_set (i := 7) nd rfl (by first | exact Or.inl rfl | exact Or.inr rfl) (pe_op (op_addK (K := K) rfl) (pv 7) (pe_op op_rep (pe_lst (pa_cons (pv 8) pa_nil)) (pe_callTy (call_int1) rfl W.b_int boot_int (pa_cons (pe_cmpR (op_notInK (K := K) rfl hu64) (pv 8) (pv 7) (by rfl)) pa_nil)))))))
    (pss_one (ps_ret (pe_tup (pa_cons (pv 6) (pa_cons (pv 7) (pa_cons (pe_tup (pa_cons (pe_tup (pa_cons pe_str (pa_cons (pe_tup (pa_cons (pe_ix (ix_seqK (K := K) rfl) (pv 1) pe_int (fun _ _ => rfl)) pa_nil)) (pa_cons (pe_tup (pa_cons (pe_ix (ix_seqK (K := K) rfl) (pv 1) pe_int (fun _ _ => rfl)) pa_nil)) (pa_cons pe_str pa_nil))))) pa_nil)) pa_nil)))))))))))))), sp_goR (fun H0 B0 rg sm i k hp => ?_) h⟩
  refine ss_seq <| ss_set <| ee_callR rfl rfl (j := 0) rfl <| ea_cons <| ee_int <| ea_nil ⟨20, k + 100, rfl, (by decide), ⟨_, rfl, by show k + 100 + (12 + 8 * 20) ≤ k + 300; omega⟩, fun x ⟨ns, ex, e1, e2, e3⟩ => ?_⟩
  subst ex
  obtain ⟨n0, n1, n2, n3, n4, n5, a, b, rfl, la, lb⟩ := twenty e1
  have g0 : atI ((n0 :: n1 :: n2 :: n3 :: n4 :: n5 :: (a ++ b)).map PyData.str) 0 = some (.str n0) := atI_nat (j := 0) rfl
  have g1 : atI ((n0 :: n1 :: n2 :: n3 :: n4 :: n5 :: (a ++ b)).map PyData.str) 1 = some (.str n1) := atI_nat (j := 1) rfl
  have g2 : atI ((n0 :: n1 :: n2 :: n3 :: n4 :: n5 :: (a ++ b)).map PyData.str) 2 = some (.str n2) := atI_nat (j := 2) rfl
  have g3 : atI ((n0 :: n1 :: n2 :: n3 :: n4 :: n5 :: (a ++ b)).map PyData.str) 3 = some (.str n3) := atI_nat (j := 3) rfl
  have g4 : atI ((n0 :: n1 :: n2 :: n3 :: n4 :: n5 :: (a ++ b)).map PyData.str) 4 = some (.str n4) := atI_nat (j := 4) rfl
  have g5 : atI ((n0 :: n1 :: n2 :: n3 :: n4 :: n5 :: (a ++ b)).map PyData.str) 5 = some (.str n5) := atI_nat (j := 5) rfl
  have s0 := (e2 n0 (by simp)).2.1
  have s1 := (e2 n1 (by simp)).2.1
  have s2 := (e2 n2 (by simp)).2.1
  have s3 := (e2 n3 (by simp)).2.1
  have s5 := (e2 n5 (by simp)).2.1
  have sixA : ∀ v : Nat, v < 5 → cutD ((n0 :: n1 :: n2 :: n3 :: n4 :: n5 :: (a ++ b)).map PyData.str) (some 6) (some ((9 : Int) + (v : Int))) = (a.take (3 + v)).map .str := fun v hv => by
    rw [show ((9 : Int) + (v : Int)) = ((6 + (3 + v) : Nat) : Int) by omega, show (6 : Int) = ((6 : Nat) : Int) from rfl, cutD_map, cutD_mid, Nat.add_sub_cancel_left]
    show ((a ++ b).take (3 + v)).map _ = _
    rw [List.take_append_of_le_length (by omega)]
  have sixB : ∀ v : Nat, v < 5 → cutD ((n0 :: n1 :: n2 :: n3 :: n4 :: n5 :: (a ++ b)).map PyData.str) (some 13) (some ((16 : Int) + (v : Int))) = (b.take (3 + v)).map .str := fun v hv => by
    rw [show ((16 : Int) + (v : Int)) = ((13 + (3 + v) : Nat) : Int) by omega, show (13 : Int) = ((13 : Nat) : Int) from rfl, cutD_map, cutD_mid, Nat.add_sub_cancel_left]
    show (((a ++ b).drop 7).take (3 + v)).map _ = _
    rw [show (a ++ b).drop 7 = b by rw [← la]; exact List.drop_left]
  refine ss_seq <| ss_par (i := 2) (j := 3) <| ea_cons <| ee_lst <| ea_cons <| ee_op <| ee_op <| ee_op <| ee_var rfl <| ee_int <| ro_ixL g0 <| ee_str <| ro_addT (by show n0.length + 1 ≤ _; omega) <| ee_op <| ee_var rfl <| ee_int <| ro_ixL g2 <| ro_addT (by rw [Str.length_append]; show n0.length + 1 + n2.length ≤ _; omega) <| ea_cons <| ee_op <| ee_op <| ee_op <| ee_var rfl <| ee_int <| ro_ixL g0 <| ee_str <| ro_addT (by show n0.length + 1 ≤ _; omega) <| ee_op <| ee_var rfl <| ee_int <| ro_ixL g3 <| ro_addT (by rw [Str.length_append]; show n0.length + 1 + n3.length ≤ _; omega) <| ea_nil ⟨[.str (n0 ++ dot ++ n2), .str (n0 ++ dot ++ n3)], rfl, (by show 2 ≤ 1000000; decide), ea_cons <| ee_op <| ee_var rfl <| ee_int <| ro_ixL g4 <| ea_nil ⟨_, _, rfl, ?_⟩⟩
  refine ss_seq <| ss_set <| ee_op <| ee_op <| ee_sl <| ee_var rfl <| eo_none <| eo_some <| ee_int ⟨_, rfl, RU1.ru <| ru1_sl ?_⟩
  rw [cutD_one]
  refine ee_sl <| ee_var rfl <| eo_some <| ee_int ⟨_, rfl, eo_some <| ee_op <| ee_int <| ee_callR rfl rfl (j := 0) rfl <| ea_cons <| ee_int <| ea_nil ⟨5, k + 99, rfl, ⟨by decide, by decide⟩, ⟨_, rfl, by omega⟩, fun x ⟨v, hv, ex⟩ => ?_⟩⟩
  subst ex
  refine ro_addI ⟨_, rfl, RU1.ru <| ru1_sl ?_⟩
  rw [sixA v hv]
  generalize hA : a.take (3 + v) = A
  have lA : A.length ≤ 7 := by rw [← hA, List.length_take]; omega
  refine ro_catL (by rw [List.length_map, List.length_singleton]; omega) <| ee_lst <| ea_cons <| ee_var rfl <| ea_nil ⟨[.str n4], rfl, (by show 1 ≤ 1000000; decide), ro_catL (by simp; omega) ?_⟩
  refine ss_seq <| ss_set <| ee_op <| ee_op <| ee_sl <| ee_var rfl <| eo_some <| ee_int ⟨_, rfl, eo_none <| RU1.ru <| ru1_sl ?_⟩
  rw [cutD_one']
  refine ee_sl <| ee_var rfl <| eo_some <| ee_int ⟨_, rfl, eo_some <| ee_op <| ee_int <| ee_callR rfl rfl (j := 0) rfl <| ea_cons <| ee_int <| ea_nil ⟨5, k + 98, rfl, ⟨by decide, by decide⟩, ⟨_, rfl, by omega⟩, fun x ⟨u, hu, ex⟩ => ?_⟩⟩
  subst ex
  refine ro_addI ⟨_, rfl, RU1.ru <| ru1_sl ?_⟩
  rw [sixB u hu]
  generalize hB : b.take (3 + u) = B
  have lB : B.length ≤ 7 := by rw [← hB, List.length_take]; omega
  refine ro_catL (by rw [List.length_map, List.length_singleton]; omega) <| ee_lst <| ea_cons <| ee_var rfl <| ea_nil ⟨[.str n4], rfl, (by show 1 ≤ 1000000; decide), ro_catL (by simp; omega) ?_⟩
  have eF : ∀ (x : Str) (L : List Str), [PyData.str (n0 ++ dot ++ x)] ++ L.map .str ++ [.str n4] = (wFirst n0 x n4 L).map .str := fun x L => by
    unfold wFirst
    simp
  rw [eF, eF]
  have fl : ∀ (x : Str) (L : List Str), (wFirst n0 x n4 L).length = L.length + 2 := fun x L => by
    unfold wFirst
    simp
  have fdl : ∀ (x : Str) (L : List Str), (wFirst n0 x n4 L).dropLast = (n0 ++ dot ++ x) :: L := fun x L => by
    unfold wFirst
    rw [List.dropLast_concat]
  refine ss_seq <| ss_set <| ee_op <| ee_op <| ee_var rfl <| ee_sl <| ee_var rfl <| eo_none <| eo_some <| ee_un <| ee_int <| ru_neg ⟨_, rfl, RU1.ru <| ru1_sl ?_⟩
  rw [cutD_init, ← List.map_dropLast, fdl]
  refine ro_catL (by simp [fl]; omega) <| ee_lst <| ea_cons <| ee_op <| ee_op <| ee_op <| ee_var rfl <| ee_int <| ro_ixL g1 <| ee_str <| ro_addT (by show n1.length + 1 ≤ _; omega) <| ee_op <| ee_var rfl <| ee_int <| ro_ixL g5 <| ro_addT (by rw [Str.length_append]; show n1.length + 1 + n5.length ≤ _; omega) <| ea_nil ⟨[.str (n1 ++ dot ++ n5)], rfl, (by show 1 ≤ 1000000; decide), ro_catL (by simp [fl]; omega) ?_⟩
  have eM : (wFirst n0 n2 n4 A).map PyData.str ++ ((n0 ++ dot ++ n3) :: B).map .str ++ [.str (n1 ++ dot ++ n5)] = (wMods n0 n1 n2 n3 n4 n5 A B).map .str := by
    unfold wMods
    simp
  rw [eM]
  have lM : (wMods n0 n1 n2 n3 n4 n5 A B).length ≤ 20 := by
    unfold wMods
    simp [fl]
    omega
  have gM : atI ((wMods n0 n1 n2 n3 n4 n5 A B).map PyData.str) (-1) = some (.str (n1 ++ dot ++ n5)) := by
    rw [← eM]
    exact atI_lastL
  have eT : ∀ l : List Str, cutD (l.map PyData.str) (some 1) none = l.tail.map .str := fun l => by
    rw [show (1 : Int) = ((1 : Nat) : Int) from rfl, cutD_map, cutD_from, List.drop_one]
  have eZ : ∀ l : List Str, ((l.map PyData.str).zip (l.tail.map PyData.str)).map (fun p => PyData.tuple [p.1, p.2]) = (l.zip l.tail).map uE := fun l => by
    rw [zip_map', List.map_map]
    rfl
  have zl : ∀ l : List Str, (l.zip l.tail).length ≤ l.length := fun l => by
    rw [List.length_zip]
    exact Nat.min_le_left _ _
  have lU : (wUses n0 n1 n2 n3 n4 n5 A B).length ≤ 20 := by
    unfold wUses
    have z1 := zl (wFirst n0 n2 n4 A)
    have z2 := zl (wFirst n0 n3 n4 B)
    rw [fl] at z1 z2
    rw [List.length_append, List.length_append, List.length_singleton]
    omega
  refine ss_seq <| ss_set <| ee_op <| ee_op <| ee_zipL <| ea_cons <| ee_var rfl <| ea_cons <| ee_sl <| ee_var rfl <| eo_some <| ee_int ⟨_, rfl, eo_none <| RU1.ru <| ru1_sl ?_⟩
  rw [eT]
  refine ea_nil ⟨_, _, rfl, ?_⟩
  rw [eZ]
  refine ee_zipL <| ea_cons <| ee_var rfl <| ea_cons <| ee_sl <| ee_var rfl <| eo_some <| ee_int ⟨_, rfl, eo_none <| RU1.ru <| ru1_sl ?_⟩
  rw [eT]
  refine ea_nil ⟨_, _, rfl, ?_⟩
  rw [eZ]
  have z1 := zl (wFirst n0 n2 n4 A)
  have z2 := zl (wFirst n0 n3 n4 B)
  rw [fl] at z1 z2
  refine ro_catL (by rw [List.length_map, List.length_map]; omega) <| ee_lst <| ea_cons <| ee_tup <| ea_cons <| ee_var rfl <| ea_cons <| ee_op <| ee_var rfl <| ee_un <| ee_int <| ru_neg <| ro_ixL gM <| ea_nil ⟨[.str n4, .str (n1 ++ dot ++ n5)], rfl, (by show 2 ≤ 1000000; decide), ea_nil ⟨[uE (n4, n1 ++ dot ++ n5)], rfl, (by show 1 ≤ 1000000; decide), ro_catL (by rw [List.length_append, List.length_map, List.length_map, List.length_singleton]; omega) ?_⟩⟩
  have eU : ((wFirst n0 n2 n4 A).zip (wFirst n0 n2 n4 A).tail).map uE ++ ((wFirst n0 n3 n4 B).zip (wFirst n0 n3 n4 B).tail).map uE ++ [uE (n4, n1 ++ dot ++ n5)] = (wUses n0 n1 n2 n3 n4 n5 A B).map uE := by
    unfold wUses
    rw [List.map_append, List.map_append]
    rfl
  rw [eU]
  have sub : (n0 :: n1 :: n2 :: n3 :: n4 :: n5 :: (A ++ B)).Sublist (n0 :: n1 :: n2 :: n3 :: n4 :: n5 :: (a ++ b)) := by
    rw [← hA, ← hB]
    exact .cons₂ _ (.cons₂ _ (.cons₂ _ (.cons₂ _ (.cons₂ _ (.cons₂ _ ((List.take_sublist _ _).append (List.take_sublist _ _)))))))
  obtain ⟨w1, w2, w3, w4⟩ := w_all (List.Nodup.sublist sub e3) fun n hn => e2 n (sub.subset hn)
  have d01 : n0 ≠ n1 := fun z => by
    rw [z] at e3
    simp at e3
  generalize wMods n0 n1 n2 n3 n4 n5 A B = ms at w1 w2 w4 lM gM
  generalize wUses n0 n1 n2 n3 n4 n5 A B = us0 at w3 w4 lU
  refine ss_seq <| ss_for (vs := [8]) <| wi_list <| ee_callR rfl rfl (j := 0) rfl <| ea_cons <| ee_var rfl <| ea_cons <| ee_int <| ea_nil ⟨(ms, 2), k, rfl, ⟨by show ms.length ≤ 100; omega, by show 2 ≤ 14; decide⟩, ⟨_, rfl, by show k + 30 ≤ k + 98; omega⟩, fun x ⟨vs, ex, du⟩ => ?_⟩
  have dul : vs.length ≤ 2 := du.len
  refine ⟨vs.map uE, ex, fun j Γ1 => ∃ (us : List Use) (z8 : Cell), Γ1 = [.reel k, cV (.val (lsE (n0 :: n1 :: n2 :: n3 :: n4 :: n5 :: (a ++ b)))), cV (dL [PyData.str (n0 ++ dot ++ n2), PyData.str (n0 ++ dot ++ n3)]), cV (dS n4), cV (dL ((wFirst n0 n2 n4 A).map .str)), cV (dL ((wFirst n0 n3 n4 B).map .str)), cV (.val (lsE ms)), cV (.val (luE us)), z8] ∧ us.Nodup ∧ (∀ u ∈ us, u.1 ∈ ms ∧ u.2 ∈ ms ∧ u.1 ≠ u.2) ∧ us.length ≤ 20 + j,
    ⟨us0, _, rfl, w3, w4, lU⟩, fun j d Γ1 hd hI => ?_, fun Γ1 hI => ?_⟩
  · obtain ⟨us, z8, rfl, i1, i2, i3⟩ := hI
    obtain ⟨u, hu2, rfl⟩ := map_get hd
    have hjl := (List.getElem?_eq_some_iff.mp hu2).1
    have hum := du.mem u (List.mem_of_getElem? hu2)
    refine sg_name (ss_set <| ee_op <| ee_var rfl <| ee_repL <| ee_var rfl ⟨uE u, rfl, ee_CB <| ea_cons <| ee_op <| ee_var rfl <| ee_var rfl <| RO2.ro <| ro2_ninE eqe_u (shal_u _) <| ea_nil <| rl_intB ?_⟩) (by simp)
    by_cases hin : u ∈ us
    · refine ⟨0, by simp [hin], by decide, ro_catL (by rw [List.length_map]; show us.length + 0 ≤ _; omega) ⟨us, cV (.val (uE u)), ?_, i1, i2, by omega⟩⟩
      rw [show List.replicate 0 (uE u) = [] from rfl, List.append_nil]
      rfl
    · refine ⟨1, by simp [hin], by decide, ro_catL (by rw [List.length_map]; show us.length + 1 ≤ _; omega) ⟨us ++ [u], cV (.val (uE u)), ?_, ?_, fun v hv => ?_, by rw [List.length_append, List.length_singleton]; omega⟩⟩
      · rw [show luE (us ++ [u]) = .list (us.map uE ++ List.replicate 1 (uE u)) by show PyData.list _ = _; rw [List.map_append]; rfl]
        rfl
      · refine List.nodup_append.mpr ⟨i1, by simp, fun x hx y hy z => ?_⟩
        simp only [List.mem_singleton] at hy
        subst hy
        subst z
        exact hin hx
      · rcases List.mem_append.mp hv with q | q
        · exact i2 v q
        · simp only [List.mem_singleton] at q
          rw [q]; exact hum
  · obtain ⟨us, z8, rfl, i1, i2, i3⟩ := hI
    rw [List.length_map] at i3
    have o0 := e2 n0 (by simp)
    have o1 := e2 n1 (by simp)
    have rl : ∀ n, nameOk n → lstOk 1 6 [n] := fun n hn => ⟨(by show 1 ≤ 1; decide), (by show 1 ≤ 6; decide), fun p hp => by
      simp only [List.mem_singleton] at hp
      rw [hp]; exact ((NP.one hn).mono (by decide)).rule⟩
    refine ss_ret <| ee_tup <| ea_cons <| ee_var rfl <| ea_cons <| ee_var rfl <| ea_cons <| ee_tup <| ea_cons <| ee_tup <| ea_cons <| ee_str <| ea_cons <| ee_tup <| ea_cons <| ee_op <| ee_var rfl <| ee_int <| ro_ixL g0 <| ea_nil ⟨[.str n0], rfl, (by show 1 ≤ 1000000; decide), ea_cons <| ee_tup <| ea_cons <| ee_op <| ee_var rfl <| ee_int <| ro_ixL g1 <| ea_nil ⟨[.str n1], rfl, (by show 1 ≤ 1000000; decide), ea_cons <| ee_str <| ea_nil ⟨rD (.forbid [n0] [n1] true), rfl, (by show 4 ≤ 1000000; decide), ea_nil ⟨[rE (.forbid [n0] [n1] true)], rfl, (by show 1 ≤ 1000000; decide), ea_nil ⟨[lsE ms, luE us, rulesE [.forbid [n0] [n1] true]], rfl, (by show 3 ≤ 1000000; decide), rfl, ms, us, [.forbid [n0] [n1] true], rfl, fun m hm => (w1 m hm).np, noOv_of w1 w2, by omega, i1, i2, by omega, fun r hr => ?_, (by show 1 ≤ 8; decide), ?_, by have := partsN_le (k := 2) fun m hm => (w1 m hm).np2; omega⟩⟩⟩⟩⟩
    · simp only [List.mem_singleton] at hr
      subst hr
      refine ⟨?_, rl n0 o0, rl n1 o1⟩
      show NoOv [n0, n1]
      exact .cons (fun x hx => by
        simp only [List.mem_singleton] at hx
        rw [hx]; exact ovl_names o1 o0 (Ne.symm d01)) (.cons (fun x hx => by cases hx) .nil)
    · exact .cons (fun x hx => by cases hx) .nil
end
end My
end P26_
section P27_
set_option maxHeartbeats 1000000
namespace My
open PySem PySem.Spec PyProof.Rows L2 LamX
theorem brk_nil {ms : List Str} {r : Rule} : ¬ brk ms [] r := by
  unfold brk
  split
  · rintro ⟨S, ne, _, h⟩
    cases S with
    | nil => exact ne rfl
    | cons p l =>
      obtain ⟨q, _, u, hu, _⟩ := h p (by simp)
      cases hu
  · split
    · rintro ⟨a, _, b, _, ne, ⟨ch, w⟩, _⟩
      cases w with
      | one => exact ne rfl
      | step _ hu => cases hu
    · rintro ⟨u, hu, _⟩
      cases hu
theorem wo_self (us : List Use) : wo us us = [] := by
  unfold wo
  rw [List.filter_eq_nil_iff]
  intro a ha
  simp [ha]
theorem LawOk.wo {ms : List Str} {us cs : List Use} (h : LawOk ms us) : LawOk ms (wo us cs) := ⟨h.m, Nat.le_trans (wo_len us cs) h.u, h.s, List.Nodup.sublist List.filter_sublist h.nd, fun u hu => h.mem u (mem_wo.mp hu).1⟩
theorem CaseD.law {ms : List Str} {us : List Use} {rs : List Rule} (h : CaseD ms us rs) : LawOk ms us :=
  ⟨Nat.le_trans h.mlen (by decide), Nat.le_trans h.ulen (by decide), fun m hm => (h.np m hm).short (by decide), h.und, fun u hu => ⟨(h.umem u hu).1, (h.umem u hu).2.1⟩⟩
theorem CaseD.book {ms : List Str} {us : List Use} {rs : List Rule} (h : CaseD ms us rs) : BookOk rs := ⟨Nat.le_trans h.rlen (by decide), h.rok⟩
/-- a set of cuts, as a sorted tuple -/
structure CutsOk (rs : List Rule) (ms : List Str) (us S : List Use) : Prop where
  nd : S.Nodup
  sub : ∀ u ∈ S, u ∈ us
  srt : Srt S
  kept : ¬ brkAny rs ms (wo us S)
abbrev spDown (K : PySem.W.Frag) (T : List (Addr × Str)) : Sp := SpR K T (fun i : List Str × List Use × List Rule => [.val (luE i.2.1), .val (slE i.1), .val (rulesE i.2.2)]) (fun i => CaseD i.1 i.2.1 i.2.2) (fun _ => 25) (fun i x => ∃ S, x = .val (usE S) ∧ CutsOk i.2.2 i.1 i.2.1 S)
structure RightOk (rs : List Rule) (ms : List Str) (us S : List Use) : Prop where
  c : CutsOk rs ms us S
  need : ∀ j, j < S.length → brkAny rs ms (wo us (S.take j ++ S.drop (j + 1)))
abbrev spRight (K : PySem.W.Frag) (T : List (Addr × Str)) : Sp := SpI K T (fun i : List Str × List Use × List Rule × List Use => [.val (slE i.1), .val (luE i.2.1), .val (rulesE i.2.2.1), .val (usE i.2.2.2)]) (fun i => CaseD i.1 i.2.1 i.2.2.1 ∧ RightOk i.2.2.1 i.1 i.2.1 i.2.2.2) (fun i x => x = dB true)
theorem filter_no {α : Type} (l : List α) : l.filter (fun _ => false) = [] := List.filter_eq_nil_iff.mpr fun _ _ h => Bool.noConfusion h
theorem take_drop_perm {α : Type} {l : List α} {j : Nat} : (l.take j ++ l.drop (j + 1)).Sublist l := by
  have := (List.Sublist.refl (l.take j)).append (show (l.drop (j + 1)).Sublist (l.drop j) by rw [← List.drop_drop]; exact List.drop_sublist _ _)
  rwa [List.take_append_drop] at this
section
variable {P : Program} {w : World} {K : PySem.W.Frag} {mg : Str → Option Value} {base : Heap} {T : List (Addr × Str)}
theorem sc__law_cut_down : FnScope ["_law_reel_here", "_law_uses_here", "_law_modules_here", "_law_some", "_law_cuts", "_law_use", "_law_less", "_law_other"] ["_law_reel_here", "_law_uses_here", "_law_modules_here", "_law_some"] (defScope sLawCutDown) := ⟨rfl, rfl, rfl, by decide +kernel, rfl, by decide +kernel, by decide +kernel⟩
theorem ok__law_cut_down (W : Wd K mg) : DefOk P w K mg base "_law_cut_down" ["_law_reel_here", "_law_uses_here", "_law_modules_here", "_law_some"] 6 (spDown K T) := by
  obtain ⟨f, fd, hm, F⟩ := W.f__law_cut_down
  have D__law_mixed := ok__law_mixed (P := P) (w := w) (base := base) (T := T) W
  have D__law_kept := ok__law_kept (P := P) (w := w) (base := base) (T := T) W
  have D__law_left := ok__law_left (P := P) (w := w) (base := base) (T := T) W
  refine ⟨f, fd, hm, F.kp, F.bindsN fun _ _ _ _ _ _ us hl => match us, hl with | [_, _, _, _], _ => rfl, F.ok sc__law_cut_down (spr_len fun _ => rfl) fun cdv A outer s H vs Q E hr h => ?_⟩
  have nd := sc__law_cut_down.nd
  have hu64 := hr.units
  have hu1 := hu_of hr
  refine ⟨_, PSs.nox ((pss_cons (ps_set (i := 4) nd rfl (by first | exact Or.inl rfl | exact Or.inr rfl) (pe_callTy ((cr_lstK (K := K) rfl)) rfl W.b_list boot_list (pa_cons (pv 1) pa_nil)))
    (pss_cons (ps_for PassesOwn.never rfl (pi_listK (K := K) rfl (pe_callD D__law_mixed (hr.mono (by decide)) rfl (pa_cons (pv 0) (pa_cons (pv 1) pa_nil)))) (pg_name (i := 5) nd rfl (by first | exact Or.inl rfl | exact Or.inr rfl))
    (pss_cons (ps_setLc (i := 6) (own := [("_law_other", 7)]) rfl nd rfl rfl (sw_true rfl rfl rfl (by decide +kernel)) (pi_listK (K := K) rfl (pv 4)) (blkOk_by (own := [("_law_other", 7)]) (N := ["_law_reel_here", "_law_uses_here", "_law_modules_here", "_law_some", "_law_cuts", "_law_use", "_law_less", "_law_other"]) (sc := defScope sLawCutDown) (by decide +kernel)) (fun _ _ _ _ _ => (pg_name (i := 7) nd rfl (by first | exact Or.inl rfl | exact Or.inr rfl))) (fun _ _ _ _ _ => (pts_one (pt_cmpR (op_neK (K := K) rfl hu64) (pv 7) (pv 5) (nomark _)))) (fun _ _ _ _ _ => (pv 7)))
    (pss_one (ps_if (pt_val (pe_callD D__law_kept (hr.mono (by decide)) rfl (pa_cons (pv 2) (pa_cons (pe_callD D__law_left (hr.mono (by decide)) rfl (pa_cons (pv 1) (pa_cons (pv 6) pa_nil))) (pa_cons (pv 3) pa_nil)))))
    (pss_one (ps_set (i := 4) nd rfl (by first | exact Or.inl rfl | exact Or.inr rfl) (pv 6)))
    pss_nil))))
    (pss_one (ps_ret (pe_callTy (cr_tupK (K := K) rfl) rfl W.b_tuple boot_tuple (pa_cons (pe_callB (cr_sortK (K := K) rfl hu64) rfl W.b_sorted boot_sorted (pa_cons (pv 4) pa_nil)) pa_nil))))))), sp_goR (fun H0 B0 rg sm i k hp => ?_) h⟩
  obtain ⟨ms, us, rs⟩ := i
  have hp : CaseD ms us rs := hp
  have ul := hp.ulen
  refine ss_seq <| ss_set <| ee_CB <| ea_cons <| ee_var rfl <| ea_nil <| RL1.rl <| rl_list ?_
  refine ss_seq <| ss_for (vs := [5]) <| wi_list <| ee_callR rfl rfl (j := 0) rfl <| ea_cons <| ee_var rfl <| ea_nil ⟨us.map uE, k, rfl, by rw [List.length_map]; omega, ⟨_, rfl, by rw [List.length_map]; show k + us.length ≤ k + 25; omega⟩, fun x ⟨es, hes, ex⟩ => ?_⟩
  obtain ⟨vs, hvs, rfl⟩ := perm_map hes
  refine ⟨vs.map uE, ex, fun j Γ1 => ∃ (cs : List Use) (z5 z6 z7 : Cell), Γ1 = [.reel k, cV (.val (luE us)), cV (.val (slE ms)), cV (.val (rulesE rs)), cV (.val (luE cs)), z5, z6, z7] ∧ U z7 ∧ cs.Nodup ∧ (∀ u ∈ cs, u ∈ us) ∧ cs.length ≤ us.length ∧ ¬ brkAny rs ms (wo us cs),
    ⟨us, _, _, _, rfl, .inl rfl, hp.und, fun u h => h, Nat.le_refl _, fun ⟨r, _, hb⟩ => by rw [wo_self] at hb; exact brk_nil hb⟩, fun j d Γ1 hd hI => ?_, fun Γ1 hI => ?_⟩
  · obtain ⟨cs, z5, z6, z7, rfl, u7, i1, i2, i4, i3⟩ := hI
    obtain ⟨u, hu, rfl⟩ := map_get hd
    refine sg_name (ss_seq <| ss_set <| ee_lc <| wi_list <| ee_var rfl ⟨cs.map uE, rfl, lc1f uE uE id (fun v => !decide (v = u)) (by omega) (fun x hx => by cases hx; exact u7) (fun v hv => ?_) ?_⟩) (by simp)
    · exact et_test <| ee_op <| ee_var rfl <| ee_var rfl <| ro_neE eqe_u (shal_u _) ⟨_, rfl, rfl, congrArg not (decide_eq_decide.mpr Iff.rfl), fun _ => ee_var rfl ⟨rfl, rfl⟩⟩
    · rw [List.map_id]
      refine ss_if <| et_B <| ee_call rfl rfl <| ea_cons <| ee_var rfl <| ea_cons <| ee_call rfl rfl <| ea_cons <| ee_var rfl <| ea_cons <| ee_var rfl <| ea_nil ⟨(us, false, cs.filter fun v => !decide (v = u)), rfl, by show us.length ≤ 1000; omega, fun x ex => ea_cons <| ee_var rfl <| ea_nil ⟨(ms, wo us (cs.filter fun v => !decide (v = u)), rs), by rw [ex], ⟨hp.law.wo, hp.book⟩, fun y ⟨b, ey, hb⟩ => ⟨b, ey, fun e => ?_, fun e => ss_next ⟨cs, _, _, _, rfl, u7, i1, i2, i4, i3⟩⟩⟩⟩
      refine ss_set <| ee_var rfl ⟨cs.filter fun v => !decide (v = u), _, _, _, rfl, u7, List.Nodup.sublist List.filter_sublist i1, fun v hv => i2 v (List.mem_filter.mp hv).1, Nat.le_trans (List.length_filter_le _ _) i4, hb.mp e⟩
  · obtain ⟨cs, z5, z6, z7, rfl, u7, i1, i2, i4, i3⟩ := hI
    have pm := sortU_perm cs
    refine ss_ret <| ee_CB <| ea_cons <| ee_CB <| ea_cons <| ee_var rfl <| ea_nil <| RL1.rl <| rl_sort (allAlike_map alike_u _) (.inl fun d hd => ?_) (fun d hd => ?_) ?_
    · obtain ⟨x, _, rfl⟩ := List.mem_map.mp hd
      exact ⟨_, _, rfl⟩
    · obtain ⟨x, _, rfl⟩ := List.mem_map.mp hd
      exact shal_u x
    · rw [sort_map]
      refine ea_nil <| RL1.rl <| rl_tupL ⟨rfl, sortU cs, rfl, pm.nodup_iff.mpr i1, fun u hu => i2 u (pm.mem_iff.mp hu), sortU_srt cs, fun hb => i3 ?_⟩
      refine brkAny_mono (fun u hu => ?_) hb
      obtain ⟨h1, h2⟩ := mem_wo.mp hu
      exact mem_wo.mpr ⟨h1, fun z => h2 (pm.mem_iff.mpr z)⟩
theorem sc__law_right : FnScope ["_law_modules_here", "_law_uses_here", "_law_some", "_law_told_here", "_law_use", "_law_parts", "_law_at", "_law_part"] ["_law_modules_here", "_law_uses_here", "_law_some", "_law_told_here"] (defScope sLawRight) := ⟨rfl, rfl, rfl, by decide +kernel, rfl, by decide +kernel, by decide +kernel⟩
theorem ok__law_right (W : Wd K mg) : DefOk P w K mg base "_law_right" ["_law_modules_here", "_law_uses_here", "_law_some", "_law_told_here"] 6 (spRight K T) := by
  obtain ⟨f, fd, hm, F⟩ := W.f__law_right
  have D__law_kept := ok__law_kept (P := P) (w := w) (base := base) (T := T) W
  have D__law_left := ok__law_left (P := P) (w := w) (base := base) (T := T) W
  refine ⟨f, fd, hm, F.kp, F.bindsN fun _ _ _ _ _ _ us hl => match us, hl with | [_, _, _, _], _ => rfl, F.ok sc__law_right (sp_len fun _ => rfl) fun cdv A outer s H vs Q E hr h => ?_⟩
  have nd := sc__law_right.nd
  have hu64 := hr.units
  have hu1 := hu_of hr
  refine ⟨_, PSs.nox ((pss_cons (ps_if (PW.pt (pw_or (pt_not (pt_val (pe_callB (cr_isiK (K := K) rfl) rfl W.b_isinstance boot_isinstance (pa_cons (pv 3) (pa_cons (pe_bltn (v := .ty "tuple") rfl W.b_tuple boot_tuple rfl) pa_nil))))) (pw_or1 (pt_cmpR (op_neK (K := K) rfl hu64) (pe_callTy (cr_lstK (K := K) rfl) rfl W.b_list boot_list (pa_cons (pv 3) pa_nil)) (pe_callB (cr_sortK (K := K) rfl hu64) rfl W.b_sorted boot_sorted (pa_cons (pv 3) pa_nil)) (nomark _)))))
    (pss_one (ps_ret pe_bl))
    pss_nil)
    (pss_cons (ps_if (pt_cmpR (op_neK (K := K) rfl hu64) (pe_lc (own := [("_law_use", 4)]) rfl nd (pi_tupK (K := K) rfl (pv 3)) (blkOk_by (own := [("_law_use", 4)]) (N := ["_law_modules_here", "_law_uses_here", "_law_some", "_law_told_here", "_law_use", "_law_parts", "_law_at", "_law_part"]) (sc := defScope sLawRight) (by decide +kernel)) (fun _ _ _ _ _ => (pg_name (i := 4) nd rfl (by first | exact Or.inl rfl | exact Or.inr rfl))) (fun _ _ _ _ _ => (pts_one (pt_cmpR (op_notInK (K := K) rfl hu64) (pv 4) (pv 1) (by rfl)))) (fun _ _ _ _ _ => (pv 4))) (pe_lst pa_nil) (nomark _))
    (pss_one (ps_ret pe_bl))
    pss_nil)
    (pss_cons (ps_if (pt_not (pt_val (pe_callD D__law_kept (hr.mono (by decide)) rfl (pa_cons (pv 0) (pa_cons (pe_callD D__law_left (hr.mono (by decide)) rfl (pa_cons (pv 1) (pa_cons (pv 3) pa_nil))) (pa_cons (pv 2) pa_nil))))))
    (pss_one (ps_ret pe_bl))
    pss_nil)
    (pss_cons (ps_setLc (i := 5) (own := [("_law_at", 6)]) rfl nd rfl rfl (sw_true rfl rfl rfl (by decide +kernel)) (pi_range1 rfl W.b_range (pa_cons (pe_callB (cr_lenK (K := K) rfl) rfl W.b_len boot_len (pa_cons (pv 3) pa_nil)) pa_nil)) (blkOk_by (own := [("_law_at", 6)]) (N := ["_law_modules_here", "_law_uses_here", "_law_some", "_law_told_here", "_law_use", "_law_parts", "_law_at", "_law_part"]) (sc := defScope sLawRight) (by decide +kernel)) (fun _ _ _ _ _ => (pg_name (i := 6) nd rfl (by first | exact Or.inl rfl | exact Or.inr rfl))) (fun _ _ _ _ _ => pts_nil) (fun _ _ _ _ _ => (pe_op (op_addK (K := K) rfl) (pe_slice (sl_tupK (K := K) rfl) (pv 3) po_none (po_some (pv 6))) (pe_slice (sl_tupK (K := K) rfl) (pv 3) (po_some (pe_op (op_addK (K := K) rfl) (pv 6) pe_int)) po_none))))
    (pss_one (ps_ret (pe_cmpR (op_eqK (K := K) rfl hu64) (pe_lc (own := [("_law_part", 7)]) rfl nd (pi_listK (K := K) rfl (pv 5)) (blkOk_by (own := [("_law_part", 7)]) (N := ["_law_modules_here", "_law_uses_here", "_law_some", "_law_told_here", "_law_use", "_law_parts", "_law_at", "_law_part"]) (sc := defScope sLawRight) (by decide +kernel)) (fun _ _ _ _ _ => (pg_name (i := 7) nd rfl (by first | exact Or.inl rfl | exact Or.inr rfl))) (fun _ _ _ _ _ => (pts_one (pt_val (pe_callD D__law_kept (hr.mono (by decide)) rfl (pa_cons (pv 0) (pa_cons (pe_callD D__law_left (hr.mono (by decide)) rfl (pa_cons (pv 1) (pa_cons (pv 7) pa_nil))) (pa_cons (pv 2) pa_nil))))))) (fun _ _ _ _ _ => (pv 7))) (pe_lst pa_nil) (nomark _))))))))), sp_go (fun H0 B0 i hp => ?_) h⟩
  obtain ⟨ms, us, rs, S⟩ := i
  obtain ⟨hp, c, need⟩ := hp
  dsimp only at hp c need
  have ul := hp.ulen
  have sl : S.length ≤ us.length := nodup_len c.nd c.sub
  refine ss_seq <| ss_if <| et_or <| et_not <| et_test <| ee_CB <| ea_cons <| ee_var rfl <| ea_cons <| ee_ref <| ea_nil <| rl_isT ⟨_, rfl, ⟨(fun z => by cases z), fun _ => ?_⟩⟩
  refine et_test <| ee_op <| ee_CB <| ea_cons <| ee_var rfl <| ea_nil <| rl_listT <| ee_CB <| ea_cons <| ee_var rfl <| ea_nil <| rl_sortT (allAlike_map alike_u _) (.inl fun d hd => ?_) (fun d hd => ?_) ?_
  · obtain ⟨x, _, rfl⟩ := List.mem_map.mp hd
    exact ⟨_, _, rfl⟩
  · obtain ⟨x, _, rfl⟩ := List.mem_map.mp hd
    exact shal_u x
  show RO _ _ (dL (S.map uE)) (dL ((S.map uE).mergeSort (PySem.W.dataLe false id))) _
  rw [sort_map, show S.mergeSort (PySem.W.dataLe false uE) = S from srt_sort c.srt]
  refine ro_neE (f := luE) (x := S) (y := S) (eqe_lE eqe_u) (by unfold Shal; have := dep_lE dep_u S; show (lE uE S).depth ≤ 16; omega) ⟨_, rfl, fun e => ?_, fun _ => ss_next ?_⟩
  · simp at e
  refine ss_seq <| ss_if <| et_test <| ee_op <| ee_lc <| wi_tup <| ee_var rfl ⟨S.map uE, rfl, lc1f uE uE id (fun _ => false) (by omega) (hno_unk rfl) (fun u hu => ?_) ?_⟩
  · exact et_test <| ee_op <| ee_var rfl <| ee_var rfl <| RO2.ro <| ro2_ninE eqe_u (shal_u _) ⟨_, rfl, rfl, by simp [c.sub u hu], fun z => by cases z⟩
  rw [filter_no]
  refine ee_lst <| ea_nil ⟨[], rfl, (by decide), RO1.ro <| ro1_neNil ⟨_, rfl, (fun z => by cases z), fun _ => ss_next ?_⟩⟩
  refine ss_seq <| ss_if <| et_not <| et_B <| ee_call rfl rfl <| ea_cons <| ee_var rfl <| ea_cons <| ee_call rfl rfl <| ea_cons <| ee_var rfl <| ea_cons <| ee_var rfl <| ea_nil ⟨(us, true, S), rfl, by show us.length ≤ 1000; omega, fun x ex => ea_cons <| ee_var rfl <| ea_nil ⟨(ms, wo us S, rs), by rw [ex], ⟨hp.law.wo, hp.book⟩, fun y ⟨b, ey, hb⟩ => ⟨b, ey, fun e => ?_, fun _ => ss_next ?_⟩⟩⟩
  · rw [hb.mpr c.kept] at e
    cases e
  refine ss_seq <| ss_set <| ee_lc <| wi_rng1 <| ea_cons <| ee_CB <| ea_cons <| ee_var rfl <| ea_nil <| rl_lenT <| ea_nil ⟨S.length, by omega, by rw [List.length_map], lc1 natE usE (fun j => S.take j ++ S.drop (j + 1)) (by rw [List.length_range]; omega) (hno_unk rfl) (fun j hj => ?_) ?_⟩
  · have hj : j < S.length := List.mem_range.mp hj
    have w1 : ¬ (HT.sIx (S.map uE).length 0 none = 0 ∧ HT.sIx (S.map uE).length (S.map uE).length (some (j : Int)) = (S.map uE).length) := by
      rw [HT.sIx_nat, List.length_map]
      omega
    have w2 : ¬ (HT.sIx (S.map uE).length 0 (some ((j + 1 : Nat) : Int)) = 0 ∧ HT.sIx (S.map uE).length (S.map uE).length none = (S.map uE).length) := by
      rw [HT.sIx_nat, List.length_map]
      omega
    have c1 : cutD (S.map uE) none (some (j : Int)) = (S.take j).map uE := by rw [cutD_map, cutD_to]
    have c2 : cutD (S.map uE) (some ((j : Int) + 1)) none = (S.drop (j + 1)).map uE := by rw [show ((j : Int) + 1) = ((j + 1 : Nat) : Int) from rfl, cutD_map, cutD_from]
    refine ee_op <| ee_sl <| ee_var rfl <| eo_none <| eo_some <| ee_var rfl ⟨_, rfl, ru_slT w1 <| ee_sl <| ee_var rfl <| eo_some <| ee_op <| ee_var rfl <| ee_int <| ro_addI ⟨_, rfl, eo_none <| ru_slT w2 <| ro_catT ?_ ⟨rfl, ?_⟩⟩⟩
    · show (cutD (S.map uE) none (some (j : Int))).length + (cutD (S.map uE) (some ((j : Int) + 1)) none).length ≤ 1000000
      rw [c1, c2, List.length_map, List.length_map, List.length_take, List.length_drop]
      omega
    · show dT (cutD (S.map uE) none (some (j : Int)) ++ cutD (S.map uE) (some ((j : Int) + 1)) none) = Dat.val (.tuple ((S.take j ++ S.drop (j + 1)).map uE))
      rw [c1, c2, List.map_append]
  refine ss_ret <| ee_op <| ee_lc <| wi_list <| ee_var rfl ⟨((List.range S.length).map fun j => S.take j ++ S.drop (j + 1)).map usE, rfl, lc1f usE usE id (fun _ => false) (by rw [List.length_map, List.length_range]; omega) (hno_unk rfl) (fun p hp2 => ?_) ?_⟩
  · obtain ⟨j, hj, rfl⟩ := List.mem_map.mp hp2
    have hj : j < S.length := List.mem_range.mp hj
    refine et_B <| ee_call rfl rfl <| ea_cons <| ee_var rfl <| ea_cons <| ee_call rfl rfl <| ea_cons <| ee_var rfl <| ea_cons <| ee_var rfl <| ea_nil ⟨(us, true, S.take j ++ S.drop (j + 1)), rfl, by show us.length ≤ 1000; omega, fun x ex => ea_cons <| ee_var rfl <| ea_nil ⟨(ms, wo us (S.take j ++ S.drop (j + 1)), rs), by rw [ex], ⟨hp.law.wo, hp.book⟩, fun y ⟨b, ey, hb⟩ => ⟨b, ey, rfl, ?_, fun z => by cases z⟩⟩⟩
    cases b with
    | false => rfl
    | true => exact absurd (need j hj) (hb.mp rfl)
  · rw [filter_no]
    exact ee_lst <| ea_nil ⟨[], rfl, (by decide), RO1.ro <| ro1_eqNil rfl⟩
end
end My
end P27_
section P28_
set_option maxHeartbeats 1000000
namespace My
open PySem PySem.Spec PyProof.Rows L2 LamX
structure ModsOk (ms : List Str) : Prop where
  ok : ∀ m ∈ ms, pathOk m
  nov : NoOv ms
  len : ms.length ≤ 24
structure UsesOk (ms : List Str) (us : List Use) : Prop where
  nd : us.Nodup
  mem : ∀ u ∈ us, u.1 ∈ ms ∧ u.2 ∈ ms ∧ u.1 ≠ u.2
  len : us.length ≤ 200
abbrev spIsPair (K : PySem.W.Frag) (T : List (Addr × Str)) : Sp := SpI K T (fun i : Use => [.val (uE i)]) (fun i => i.1 ≠ i.2) (fun i x => x = dB true)
abbrev spME (K : PySem.W.Frag) (T : List (Addr × Str)) : Sp := SpI K T (fun i : List Str => [.val (sE i)]) (fun i => ModsOk i) (fun i x => x = dN)
abbrev spUE (K : PySem.W.Frag) (T : List (Addr × Str)) : Sp := SpI K T (fun i : List Str × List Use => [.val (sE i.1), .val (usE i.2)]) (fun i => UsesOk i.1 i.2) (fun i x => x = dN)
abbrev spPE (K : PySem.W.Frag) (T : List (Addr × Str)) : Sp := SpI K T (fun i : List Str × List Use => [.val (sE i.1), .val (usE i.2)]) (fun i => ModsOk i.1 ∧ UsesOk i.1 i.2) (fun i x => x = dN)
theorem enum_get {α : Type} {f : α → PyData} {l : List α} {j : Nat} {d : PyData} (h : (enumD (l.map f))[j]? = some d) : ∃ x, l[j]? = some x ∧ d = .tuple [.int (j : Nat), f x] := by
  cases e : l[j]? with
  | none =>
    have : (enumD (l.map f))[j]? = none := List.getElem?_eq_none (by rw [enumD_length, List.length_map]; exact List.getElem?_eq_none_iff.mp e)
    rw [this] at h
    cases h
  | some x =>
    rw [enumD_get (d := f x) (by rw [List.getElem?_map, e]; rfl)] at h
    exact ⟨x, rfl, (Option.some.inj h).symm⟩
/-- xs[:j], j within a tuple -/
theorem slT_to {c : Ctx} {α : Type} {f : α → PyData} {l : List α} {j : Nat} {P : Dat → Prop} (hj : j < l.length) (k : P (dT ((l.take j).map f))) : RU' c (fun v => rSlT c.K v none (some (j : Int))) (dT (l.map f)) P := by
  refine ru_slT ?_ ?_
  · rw [HT.sIx_nat, List.length_map]
    omega
  · rw [cutD_map, cutD_to]
    exact k
theorem nodup_take {α : Type} {l : List α} {j : Nat} {x : α} (h : l.Nodup) (e : l[j]? = some x) : x ∉ l.take j := fun hx => by
  obtain ⟨hj, e2⟩ := List.getElem?_eq_some_iff.mp e
  obtain ⟨k, hk, e3⟩ := List.getElem_of_mem hx
  rw [List.length_take] at hk
  rw [List.getElem_take] at e3
  have := (List.pairwise_iff_getElem.mp h) k j (by omega) hj (by omega)
  exact this (e3.trans e2.symm)
theorem nov_take {l : List Str} {j : Nat} {x y : Str} (h : NoOv l) (e : l[j]? = some x) (hy : y ∈ l.take j) : ovl x y = false := by
  obtain ⟨hj, e2⟩ := List.getElem?_eq_some_iff.mp e
  obtain ⟨k, hk, e3⟩ := List.getElem_of_mem hy
  rw [List.length_take] at hk
  rw [List.getElem_take] at e3
  have := (List.pairwise_iff_getElem.mp h) k j (by omega) hj (by omega)
  rw [e3, e2] at this
  exact this
section
variable {P : Program} {w : World} {K : PySem.W.Frag} {mg : Str → Option Value} {base : Heap} {T : List (Addr × Str)}
theorem sc_is_pair : FnScope ["value"] ["value"] (defScope sIsPair) := ⟨rfl, rfl, rfl, by decide +kernel, rfl, by decide +kernel, by decide +kernel⟩
theorem ok_is_pair (W : Wd K mg) : DefOk P w K mg base "is_pair" ["value"] 1 (spIsPair K T) := by
  obtain ⟨f, fd, hm, F⟩ := W.f_is_pair
  refine ⟨f, fd, hm, F.kp, F.bindsN fun _ _ _ _ _ _ us hl => match us, hl with | [_], _ => rfl, F.ok sc_is_pair (sp_len fun _ => rfl) fun cdv A outer s H vs Q E hr h => ?_⟩
  have nd := sc_is_pair.nd
  have hu64 := hr.units
  have hu1 := hu_of hr
  refine ⟨_, PSs.nox ((pss_cons (ps_if (PW.pt (pw_or (pt_not (pt_val (pe_callB (cr_isiK (K := K) rfl) rfl W.b_isinstance boot_isinstance (pa_cons (pv 0) (pa_cons (pe_bltn (v := .ty "tuple") rfl W.b_tuple boot_tuple rfl) pa_nil))))) (pw_or1 (pt_cmpR (op_neK (K := K) rfl hu64) (pe_callB (cr_lenK (K := K) rfl) rfl W.b_len boot_len (pa_cons (pv 0) pa_nil)) pe_int (nomark _)))))
    (pss_one (ps_ret pe_bl))
    pss_nil)
    (pss_one (ps_ret (pe_and (pe_callB (cr_isiK (K := K) rfl) rfl W.b_isinstance boot_isinstance (pa_cons (pe_ix (ix_seqK (K := K) rfl) (pv 0) pe_int (fun _ _ => rfl)) (pa_cons (pe_bltn (v := .ty "str") rfl W.b_str boot_str rfl) pa_nil))) (pe_and (pe_callB (cr_isiK (K := K) rfl) rfl W.b_isinstance boot_isinstance (pa_cons (pe_ix (ix_seqK (K := K) rfl) (pv 0) pe_int (fun _ _ => rfl)) (pa_cons (pe_bltn (v := .ty "str") rfl W.b_str boot_str rfl) pa_nil))) (pe_one (pe_cmpR (op_neK (K := K) rfl hu64) (pe_ix (ix_seqK (K := K) rfl) (pv 0) pe_int (fun _ _ => rfl)) (pe_ix (ix_seqK (K := K) rfl) (pv 0) pe_int (fun _ _ => rfl)) (nomark _))))))))), sp_go (fun H0 B0 i hp => ?_) h⟩
  obtain ⟨a, b⟩ := i
  have hp : a ≠ b := hp
  have g0 : atI [PyData.str a, .str b] 0 = some (.str a) := atI_nat (j := 0) rfl
  have g1 : atI [PyData.str a, .str b] 1 = some (.str b) := atI_nat (j := 1) rfl
  refine ss_seq <| ss_if <| et_or <| et_not <| et_test <| ee_CB <| ea_cons <| ee_var rfl <| ea_cons <| ee_ref <| ea_nil <| rl_isT ⟨_, rfl, ⟨(fun z => by cases z), fun _ => ?_⟩⟩
  refine et_test <| ee_op <| ee_CB <| ea_cons <| ee_var rfl <| ea_nil <| rl_lenT <| ee_int <| ro_neI ⟨_, rfl, fun e => ?_, fun _ => ss_next ?_⟩
  · cases e
  · refine ss_ret <| ee_andV <| ee_CB <| ea_cons <| ee_op <| ee_var rfl <| ee_int <| ro_ixT g0 <| ea_cons <| ee_ref <| ea_nil <| rl_isS ⟨true, rfl, fun _ => ?_, fun z => by cases z⟩
    refine ee_andV <| ee_CB <| ea_cons <| ee_op <| ee_var rfl <| ee_int <| ro_ixT g1 <| ea_cons <| ee_ref <| ea_nil <| rl_isS ⟨true, rfl, fun _ => ?_, fun z => by cases z⟩
    refine ee_op <| ee_op <| ee_var rfl <| ee_int <| ro_ixT g0 <| ee_op <| ee_var rfl <| ee_int <| ro_ixT g1 <| ro_neS ?_
    simp [hp]
theorem sc_modules_error : FnScope ["modules", "index", "path"] ["modules"] (defScope sModulesError) := ⟨rfl, rfl, rfl, by decide +kernel, rfl, by decide +kernel, by decide +kernel⟩
theorem ok_modules_error (W : Wd K mg) : DefOk P w K mg base "modules_error" ["modules"] 4 (spME K T) := by
  obtain ⟨f, fd, hm, F⟩ := W.f_modules_error
  have D_first_overlap := ok_first_overlap (P := P) (w := w) (base := base) (T := T) W
  have D_is_path := ok_is_path (P := P) (w := w) (base := base) (T := T) W
  refine ⟨f, fd, hm, F.kp, F.bindsN fun _ _ _ _ _ _ us hl => match us, hl with | [_], _ => rfl, F.ok sc_modules_error (sp_len fun _ => rfl) fun cdv A outer s H vs Q E hr h => ?_⟩
  have nd := sc_modules_error.nd
  have hu64 := hr.units
  have hu1 := hu_of hr
  refine ⟨_, PSs.nox ((pss_cons (ps_if (PW.pt (pw_or (pt_not (pt_val (pe_callB (cr_isiK (K := K) rfl) rfl W.b_isinstance boot_isinstance (pa_cons (pv 0) (pa_cons (pe_bltn (v := .ty "tuple") rfl W.b_tuple boot_tuple rfl) pa_nil))))) (pw_or1 (pt_cmpR op_gt (pe_callB (cr_lenK (K := K) rfl) rfl W.b_len boot_len (pa_cons (pv 0) pa_nil)) (pe_glob (v := .int 24) rfl W.c_MAX_MODULES.choose_spec ⟨_, rfl⟩) (nomark _)))))
    (pss_one (ps_ret (pe_tup (pa_cons pe_non (pa_cons pe_str pa_nil)))))
    pss_nil)
    (pss_cons (ps_for PassesOwn.never rfl (pi_enumTK (K := K) rfl (by rfl) W.b_enumerate (pa_cons (pv 0) pa_nil)) (pg_tupK (K := K) rfl (pg_tup (n := 2) rfl (pgs_cons (pg_name (i := 1) nd rfl (by first | exact Or.inl rfl | exact Or.inr rfl)) (pgs_cons (pg_name (i := 2) nd rfl (by first | exact Or.inl rfl | exact Or.inr rfl)) pgs_nil))))
    (pss_cons (ps_if (pt_not (pt_val (pe_callD D_is_path (hr.mono (by decide)) rfl (pa_cons (pv 2) pa_nil))))
    (pss_one (ps_ret (pe_tup (pa_cons (pv 1) (pa_cons pe_str pa_nil)))))
    pss_nil)
    (pss_one (ps_if (pt_cmp (pc_notN (pe_callD D_first_overlap (hr.mono (by decide)) rfl (pa_cons (pe_tup (pa_cons (pv 2) pa_nil)) (pa_cons (pe_slice (sl_tupK (K := K) rfl) (pv 0) po_none (po_some (pv 1))) pa_nil)))))
    (pss_one (ps_ret (pe_tup (pa_cons (pv 1) (pa_cons pe_str pa_nil)))))
    pss_nil))))
    (pss_one (ps_ret pe_non))))), sp_go (fun H0 B0 i hp => ?_) h⟩
  obtain ⟨ok, nov, len⟩ := hp
  refine ss_seq <| ss_if <| et_or <| et_not <| et_test <| ee_CB <| ea_cons <| ee_var rfl <| ea_cons <| ee_ref <| ea_nil <| rl_isT ⟨_, rfl, ⟨(fun z => by cases z), fun _ => ?_⟩⟩
  refine et_test <| ee_op <| ee_CB <| ea_cons <| ee_var rfl <| ea_nil <| rl_lenT <| ee_int <| ro_gt ⟨_, rfl, fun e => ?_, fun _ => ss_next ?_⟩
  · have := of_decide_eq_true e
    rw [List.length_map] at this
    omega
  refine ss_seq <| ss_for (vs := [1, 2]) <| wi_enumT <| ea_cons <| ee_var rfl <| ea_nil ⟨i.map .str, rfl, fun j Γ1 => ∃ a b, Γ1 = [cV (.val (sE i)), a, b], ⟨_, _, rfl⟩, fun j d Γ1 hd hI => ?_, fun Γ1 hI => ?_⟩
  · obtain ⟨a, b, rfl⟩ := hI
    obtain ⟨m, hm, rfl⟩ := enum_get hd
    have hmm := List.mem_of_getElem? hm
    have hjl := (List.getElem?_eq_some_iff.mp hm).1
    refine sg_pair (ss_seq <| ss_if <| et_not <| et_B <| ee_call rfl rfl <| ea_cons <| ee_var rfl <| ea_nil ⟨m, rfl, ok m hmm, fun x ex => ⟨_, ex, (fun z => by cases z), fun _ => ss_next ?_⟩⟩) (by simp) (by simp)
    refine ss_if <| et_B <| ee_notN <| ee_call rfl rfl <| ea_cons <| ee_tup <| ea_cons <| ee_var rfl <| ea_nil ⟨[.str m], rfl, (by show 1 ≤ 1000000; decide), ea_cons <| ee_sl <| ee_var rfl <| eo_none <| eo_some <| ee_var rfl ⟨_, rfl, slT_to hjl <| ea_nil ⟨([m], i.take j), rfl, ⟨fun p hp => ?_, fun p hp => (ok p (List.mem_of_mem_take hp)).short, fun p hp q hq => ?_, ?_⟩, fun x ex => ⟨_, ex, _, rfl, (fun z => by cases z), fun _ => ss_next ⟨_, _, rfl⟩⟩⟩⟩⟩
    · simp only [List.mem_singleton] at hp
      rw [hp]; exact (ok m hmm).short
    · simp only [List.mem_singleton] at hp
      rw [hp]; exact nov_take nov hm hq
    · show (i.take j).length ≤ 1000
      rw [List.length_take]; omega
  · obtain ⟨a, b, rfl⟩ := hI
    exact ss_ret <| ee_non rfl
theorem sc_uses_error : FnScope ["modules", "uses", "index", "use"] ["modules", "uses"] (defScope sUsesError) := ⟨rfl, rfl, rfl, by decide +kernel, rfl, by decide +kernel, by decide +kernel⟩
theorem ok_uses_error (W : Wd K mg) : DefOk P w K mg base "uses_error" ["modules", "uses"] 2 (spUE K T) := by
  obtain ⟨f, fd, hm, F⟩ := W.f_uses_error
  have D_is_pair := ok_is_pair (P := P) (w := w) (base := base) (T := T) W
  refine ⟨f, fd, hm, F.kp, F.bindsN fun _ _ _ _ _ _ us hl => match us, hl with | [_, _], _ => rfl, F.ok sc_uses_error (sp_len fun _ => rfl) fun cdv A outer s H vs Q E hr h => ?_⟩
  have nd := sc_uses_error.nd
  have hu64 := hr.units
  have hu1 := hu_of hr
  refine ⟨_, PSs.nox ((pss_cons (ps_if (PW.pt (pw_or (pt_not (pt_val (pe_callB (cr_isiK (K := K) rfl) rfl W.b_isinstance boot_isinstance (pa_cons (pv 1) (pa_cons (pe_bltn (v := .ty "tuple") rfl W.b_tuple boot_tuple rfl) pa_nil))))) (pw_or1 (pt_cmpR op_gt (pe_callB (cr_lenK (K := K) rfl) rfl W.b_len boot_len (pa_cons (pv 1) pa_nil)) (pe_glob (v := .int 200) rfl W.c_MAX_USES.choose_spec ⟨_, rfl⟩) (nomark _)))))
    (pss_one (ps_ret (pe_tup (pa_cons pe_non (pa_cons pe_str pa_nil)))))
    pss_nil)
    (pss_cons (ps_for PassesOwn.never rfl (pi_enumTK (K := K) rfl (by rfl) W.b_enumerate (pa_cons (pv 1) pa_nil)) (pg_tupK (K := K) rfl (pg_tup (n := 2) rfl (pgs_cons (pg_name (i := 2) nd rfl (by first | exact Or.inl rfl | exact Or.inr rfl)) (pgs_cons (pg_name (i := 3) nd rfl (by first | exact Or.inl rfl | exact Or.inr rfl)) pgs_nil))))
    (pss_cons (ps_if (PW.pt (pw_or (pt_not (pt_val (pe_callD D_is_pair (hr.mono (by decide)) rfl (pa_cons (pv 3) pa_nil)))) (pw_or (pt_cmpR (op_notInK (K := K) rfl hu64) (pe_ix (ix_seqK (K := K) rfl) (pv 3) pe_int (fun _ _ => rfl)) (pv 0) (by rfl)) (pw_or1 (pt_cmpR (op_notInK (K := K) rfl hu64) (pe_ix (ix_seqK (K := K) rfl) (pv 3) pe_int (fun _ _ => rfl)) (pv 0) (by rfl))))))
    (pss_one (ps_ret (pe_tup (pa_cons (pv 2) (pa_cons pe_str pa_nil)))))
    pss_nil)
    (pss_one (ps_if (pt_cmpR (op_inK (K := K) rfl hu64) (pv 3) (pe_slice (sl_tupK (K := K) rfl) (pv 1) po_none (po_some (pv 2))) (by rfl))
    (pss_one (ps_ret (pe_tup (pa_cons (pv 2) (pa_cons pe_str pa_nil)))))
    pss_nil))))
    (pss_one (ps_ret pe_non))))), sp_go (fun H0 B0 i hp => ?_) h⟩
  obtain ⟨ms, us⟩ := i
  obtain ⟨nd2, mem, len⟩ := hp
  dsimp only at nd2 mem len
  refine ss_seq <| ss_if <| et_or <| et_not <| et_test <| ee_CB <| ea_cons <| ee_var rfl <| ea_cons <| ee_ref <| ea_nil <| rl_isT ⟨_, rfl, ⟨(fun z => by cases z), fun _ => ?_⟩⟩
  refine et_test <| ee_op <| ee_CB <| ea_cons <| ee_var rfl <| ea_nil <| rl_lenT <| ee_int <| ro_gt ⟨_, rfl, fun e => ?_, fun _ => ss_next ?_⟩
  · have := of_decide_eq_true e
    rw [List.length_map] at this
    dsimp only at this
    omega
  refine ss_seq <| ss_for (vs := [2, 3]) <| wi_enumT <| ea_cons <| ee_var rfl <| ea_nil ⟨us.map uE, rfl, fun j Γ1 => ∃ a b, Γ1 = [cV (.val (sE ms)), cV (.val (usE us)), a, b], ⟨_, _, rfl⟩, fun j d Γ1 hd hI => ?_, fun Γ1 hI => ?_⟩
  · obtain ⟨a, b, rfl⟩ := hI
    obtain ⟨u, hu, rfl⟩ := enum_get hd
    obtain ⟨m1, m2, ne⟩ := mem u (List.mem_of_getElem? hu)
    have hjl := (List.getElem?_eq_some_iff.mp hu).1
    have g0 : atI [PyData.str u.1, .str u.2] 0 = some (.str u.1) := atI_nat (j := 0) rfl
    have g1 : atI [PyData.str u.1, .str u.2] 1 = some (.str u.2) := atI_nat (j := 1) rfl
    refine sg_pair (ss_seq <| ss_if <| et_or <| et_not <| et_B <| ee_call rfl rfl <| ea_cons <| ee_var rfl <| ea_nil ⟨u, rfl, ne, fun x ex => ⟨_, ex, (fun z => by cases z), fun _ => ?_⟩⟩) (by simp) (by simp)
    refine et_or <| et_test <| ee_op <| ee_op <| ee_var rfl <| ee_int <| ro_ixT g0 <| ee_var rfl <| ro_ninE eqe_str (shal_str _) ⟨_, rfl, fun e => ?_, fun _ => ?_⟩
    · simp [m1] at e
    refine et_test <| ee_op <| ee_op <| ee_var rfl <| ee_int <| ro_ixT g1 <| ee_var rfl <| ro_ninE eqe_str (shal_str _) ⟨_, rfl, fun e => ?_, fun _ => ss_next ?_⟩
    · simp [m2] at e
    refine ss_if <| et_test <| ee_op <| ee_var rfl <| ee_sl <| ee_var rfl <| eo_none <| eo_some <| ee_var rfl ⟨_, rfl, slT_to hjl <| ro_inE eqe_u (shal_u _) ⟨_, rfl, fun e => ?_, fun _ => ss_next ⟨_, _, rfl⟩⟩⟩
    exact absurd (by simpa using e) (nodup_take nd2 hu)
  · obtain ⟨a, b, rfl⟩ := hI
    exact ss_ret <| ee_non rfl
theorem sc_program_error : FnScope ["modules", "uses", "error"] ["modules", "uses"] (defScope sProgramError) := ⟨rfl, rfl, rfl, by decide +kernel, rfl, by decide +kernel, by decide +kernel⟩
theorem ok_program_error (W : Wd K mg) : DefOk P w K mg base "program_error" ["modules", "uses"] 5 (spPE K T) := by
  obtain ⟨f, fd, hm, F⟩ := W.f_program_error
  have D_uses_error := ok_uses_error (P := P) (w := w) (base := base) (T := T) W
  have D_modules_error := ok_modules_error (P := P) (w := w) (base := base) (T := T) W
  refine ⟨f, fd, hm, F.kp, F.bindsN fun _ _ _ _ _ _ us hl => match us, hl with | [_, _], _ => rfl, F.ok sc_program_error (sp_len fun _ => rfl) fun cdv A outer s H vs Q E hr h => ?_⟩
  have nd := sc_program_error.nd
  have hu64 := hr.units
  have hu1 := hu_of hr
  refine ⟨_, PSs.nox ((pss_cons (ps_set (i := 2) nd rfl (by first | exact Or.inl rfl | exact Or.inr rfl) (pe_callD D_modules_error (hr.mono (by decide)) rfl (pa_cons (pv 0) pa_nil)))
    (pss_cons (ps_if (pt_cmp (pc_isN (pv 2)))
    (pss_one (ps_set (i := 2) nd rfl (by first | exact Or.inl rfl | exact Or.inr rfl) (pe_callD D_uses_error (hr.mono (by decide)) rfl (pa_cons (pv 0) (pa_cons (pv 1) pa_nil)))))
    pss_nil)
    (pss_one (ps_ret (pv 2)))))), sp_go (fun H0 B0 i hp => ?_) h⟩
  obtain ⟨ms, us⟩ := i
  obtain ⟨mo, uo⟩ := hp
  refine ss_seq <| ss_set <| ee_call rfl rfl <| ea_cons <| ee_var rfl <| ea_nil ⟨ms, rfl, mo, fun x ex => ?_⟩
  rw [ex]
  refine ss_seq <| ss_if <| et_B <| ee_isN <| ee_var rfl ⟨_, rfl, _, rfl, fun _ => ?_, fun z => by cases z⟩
  exact ss_set <| ee_call rfl rfl <| ea_cons <| ee_var rfl <| ea_cons <| ee_var rfl <| ea_nil ⟨(ms, us), rfl, uo, fun x ex => ss_ret <| ee_var rfl ex⟩
end
end My
end P28_
section P29_
set_option maxHeartbeats 1000000
namespace My
open PySem PySem.Spec PyProof.Rows L2 LamX
abbrev spParts (K : PySem.W.Frag) (T : List (Addr × Str)) : Sp := SpI K T (fun i : List Str => [.val (sE i)]) (fun i => (∀ m ∈ i, NP 6 m) ∧ partsN i < 64) (fun i x => ∃ ps, x = .val (sE ps))
theorem join_take_len {ns : List Str} {t : Nat} (h : ∀ n ∈ ns, nameOk n) (hl : ns.length ≤ 6) : ((ns.take t).map (·.length)).sum + (ns.take t).length * dot.length ≤ 16777216 := by
  have s : ∀ l : List Str, (∀ n ∈ l, nameOk n) → (l.map (·.length)).sum ≤ 8 * l.length := fun l => by
    induction l with
    | nil => exact fun _ => Nat.le_refl _
    | cons a r ih =>
      intro h
      have h1 := (h a (by simp)).2.1
      have := ih fun n hn => h n (List.mem_cons_of_mem _ hn)
      rw [List.map_cons, List.sum_cons, List.length_cons]
      omega
  have h1 := s (ns.take t) fun n hn => h n (List.mem_of_mem_take hn)
  have h2 : (ns.take t).length ≤ 6 := by rw [List.length_take]; omega
  have d1 : dot.length = 1 := rfl
  rw [d1]
  omega
theorem put_keys {kvs : List (Key × PyData)} {ks : List Str} {x : Str} {d : PyData} (h : kvs.map (·.1) = ks.map Sum.inr) : ∃ ks' : List Str, (putD' kvs (.inr x) d).map (·.1) = ks'.map Sum.inr ∧ ks'.length ≤ ks.length + 1 := by
  unfold putD'
  split
  · refine ⟨ks, ?_, by omega⟩
    rw [← h, List.map_map]
    apply List.map_congr_left
    intro p _
    dsimp only [Function.comp]
    split <;> rfl
  · refine ⟨ks ++ [x], ?_, by simp⟩
    rw [List.map_append, List.map_append, h]
    rfl
section
variable {P : Program} {w : World} {K : PySem.W.Frag} {mg : Str → Option Value} {base : Heap} {T : List (Addr × Str)}
theorem sc_parts_of : FnScope ["modules", "found", "module", "names", "many"] ["modules"] (defScope sPartsOf) := ⟨rfl, rfl, rfl, by decide +kernel, rfl, by decide +kernel, by decide +kernel⟩
theorem ok_parts_of (W : Wd K mg) : DefOk P w K mg base "parts_of" ["modules"] 1 (spParts K T) := by
  obtain ⟨f, fd, hm, F⟩ := W.f_parts_of
  refine ⟨f, fd, hm, F.kp, F.bindsN fun _ _ _ _ _ _ us hl => match us, hl with | [_], _ => rfl, F.ok sc_parts_of (sp_len fun _ => rfl) fun cdv A outer s H vs Q E hr h => ?_⟩
  have nd := sc_parts_of.nd
  have hu64 := hr.units
  have hu1 := hu_of hr
  refine ⟨_, PSs.nox ((pss_cons (ps_set (i := 1) nd rfl (by first | exact Or.inl rfl | exact Or.inr rfl) pe_dnewK)
    (pss_cons (ps_for PassesOwn.never rfl (pi_tupK (K := K) rfl (pv 0)) (pg_name (i := 2) nd rfl (by first | exact Or.inl rfl | exact Or.inr rfl))
    (pss_cons (ps_set (i := 3) nd rfl (by first | exact Or.inl rfl | exact Or.inr rfl) (pe_split (pv 2) pe_str))
    (pss_one (ps_for PassesOwn.never rfl (pi_range2 rfl W.b_range (pa_cons pe_int (pa_cons (pe_op (op_addK (K := K) rfl) (pe_callB (cr_lenK (K := K) rfl) rfl W.b_len boot_len (pa_cons (pv 3) pa_nil)) pe_int) pa_nil))) (pg_name (i := 4) nd rfl (by first | exact Or.inl rfl | exact Or.inr rfl))
    (pss_one (ps_dput hu1 (pv 1) (pe_join pe_str (pe_slice (sl_listK (K := K) rfl) (pv 3) po_none (po_some (pv 4)))) pe_bl rfl))))))
    (pss_one (ps_ret (pe_callTy (cr_tupK (K := K) rfl) rfl W.b_tuple boot_tuple (pa_cons (pe_callB (call_sortedD rfl) rfl W.b_sorted boot_sorted (pa_cons (pv 1) pa_nil)) pa_nil))))))), sp_go (fun H0 B0 i hp => ?_) h⟩
  obtain ⟨ok, hn⟩ := hp
  refine ss_seq <| ss_newK (by show 1 < 5; decide) ?_
  refine ss_seq <| ss_for (vs := [2]) <| wi_tup <| ee_var rfl ⟨i.map .str, rfl, fun j Γ1 => ∃ (kvs : List (Key × PyData)) (ks : List Str) (z2 z3 z4 : Cell), Γ1 = [cV (.val (sE i)), .oK kvs, z2, z3, z4] ∧ kvs.map (·.1) = ks.map Sum.inr ∧ ks.length ≤ partsN (i.take j),
    ⟨[], [], _, _, _, rfl, rfl, Nat.zero_le _⟩, fun j d Γ1 hd hI => ?_, fun Γ1 hI => ?_⟩
  · obtain ⟨kvs, ks, z2, z3, z4, rfl, h1, h2⟩ := hI
    obtain ⟨m, hm, rfl⟩ := map_get hd
    obtain ⟨ns, rfl, ne, nl, no⟩ := ok m (List.mem_of_getElem? hm)
    have spl := jn_split ne no
    have jl := jn_len no
    have step : partsN (i.take (j + 1)) = partsN (i.take j) + ns.length := by
      unfold partsN
      rw [take_snoc hm, List.map_append, List.sum_append, List.map_cons, List.map_nil, List.sum_cons, List.sum_nil, spl]
      omega
    refine sg_name (ss_seq <| ss_set <| ee_M1 <| ee_var rfl ⟨⟨_, rfl⟩, ee_str <| rm_split rfl (by omega) ?_⟩) (by simp)
    rw [show Txt.split (jn ns) (Str.ofString ".") = ns from spl]
    refine ss_for (vs := [4]) <| wi_rng2 <| ea_cons <| ee_int <| ea_cons <| ee_op <| ee_CB <| ea_cons <| ee_var rfl <| ea_nil <| RL1.rl <| rl_lenL <| ee_int <| ro_addI <| ea_nil ⟨1, ns.length + 1, by decide, by omega, by rw [List.length_map]; rfl, fun t Γ1 => ∃ (kvs : List (Key × PyData)) (ks : List Str) (z4 : Cell), Γ1 = [cV (.val (sE i)), .oK kvs, cV (dS (jn ns)), cV (.val (lE .str ns)), z4] ∧ kvs.map (·.1) = ks.map Sum.inr ∧ ks.length ≤ partsN (i.take j) + t,
      ⟨kvs, ks, _, rfl, h1, h2⟩, fun t d Γ1 hd hI => ?_, fun Γ1 hI => ?_⟩
    · obtain ⟨kvs, ks, z4, rfl, h1, h2⟩ := hI
      obtain ⟨t', ht', rfl⟩ := map_get hd
      obtain ⟨htl, e⟩ := List.getElem?_eq_some_iff.mp ht'
      rw [List.getElem_range] at e
      subst e
      rw [List.length_range] at htl
      have kl : kvs.length = ks.length := by
        have := congrArg List.length h1
        rwa [List.length_map, List.length_map] at this
      have htot : partsN (i.take j) + ns.length ≤ 64 := by
        rw [← step]
        have : partsN i = partsN (i.take (j + 1)) + partsN (i.drop (j + 1)) := by
          unfold partsN
          rw [← List.sum_append, ← List.map_append, List.take_append_drop]
        omega
      have cut : cutD (ns.map PyData.str) none (some ((1 + t : Nat) : Int)) = (ns.take (1 + t)).map .str := by rw [cutD_map, cutD_to]
      refine sg_name (ss_dput <| ee_bl ⟨.bool true, .k kvs, rfl, rfl, ee_M1 <| ee_str ⟨⟨_, rfl⟩, ee_sl <| ee_var rfl <| eo_none <| eo_some <| ee_var rfl ⟨_, rfl, RU1.ru <| ru1_sl ?_⟩⟩⟩) (by simp)
      rw [show cutD (List.map PyData.str ns) none (some ((1 + t : Nat) : Int)) = (ns.take (1 + t)).map .str from cut]
      refine rm_join (join_take_len no nl) ⟨.k (.inr _), key_s, trivial, (by show kvs.length < _; omega), ?_⟩
      obtain ⟨ks', q1, q2⟩ := put_keys (x := Txt.join (Str.ofString ".") (ns.take (1 + t))) (d := .bool true) h1
      exact ⟨_, ks', _, rfl, q1, by omega⟩
    · obtain ⟨kvs, ks, z4, rfl, h1, h2⟩ := hI
      rw [List.length_map, List.length_range] at h2
      exact ⟨kvs, ks, _, _, _, rfl, h1, by rw [step]; omega⟩
  · obtain ⟨kvs, ks, z2, z3, z4, rfl, h1, h2⟩ := hI
    rw [List.length_map, List.take_length] at h2
    refine ss_ret <| ee_CB <| ea_cons <| ee_sortS (i := 1) rfl h1 (by omega) fun ys _ => ea_nil <| RL1.rl <| rl_tupL ⟨ys, rfl⟩
end
end My
end P29_
section DL35_
set_option maxHeartbeats 1000000
namespace My
open PySem PySem.Spec PyProof.Rows L2 LamX
/-- a written dict with text keys, and what stands in it -/
def Tb (w : World) (K : PySem.W.Frag) (mg : Str → Option Value) (x : Str) (kvs : List (Str × PyData)) : Prop :=
  ∃ d es n, mg x = some (.ref d) ∧ KDict K w d es n ∧ ∀ q ∈ kvs, ∃ v u, PySem.W.nsIn K d q.1 = some (some u) ∧ RelV v u ∧ ∀ B : Hp, Dp K B v q.2
def sT (l : List String) : PyData := .tuple (l.map fun x => .str (Str.ofString x))
def itemsT : List (Str × PyData) := [(Str.ofString "forbid", sT ["sources", "targets", "how"]), (Str.ofString "layers", sT ["rows", "how"]), (Str.ofString "stairs", sT ["rows"]), (Str.ofString "apart", sT ["paths", "how"]), (Str.ofString "only", sT ["targets", "users"]), (Str.ofString "face", sT ["path", "exposed"]), (Str.ofString "noring", sT ["paths"])]
def leastT : List (Str × PyData) := [(Str.ofString "sources", .int 1), (Str.ofString "targets", .int 1), (Str.ofString "paths", .int 2), (Str.ofString "users", .int 0), (Str.ofString "exposed", .int 0)]
structure WdA (w : World) (K : PySem.W.Frag) (mg : Str → Option Value) (base : Heap) (T : List (Addr × Str)) : Prop extends WdL K mg base T where
  t_ITEMS : Tb w K mg "ITEMS" itemsT
  t_LEAST : Tb w K mg "LEAST" leastT
section
variable {c : Ctx} {Γ : Env'} {K : PySem.W.Frag} {w : World} {d : Addr} {es : Array DictEntry} {n : Nat} {kvs : List (Str × PyData)}
theorem ee_tab {ty : TE} {P : Dat → Env' → Prop} (hK : c.K = K) (D : KDict K w d es n) (hv : ∀ q ∈ kvs, ∃ v u, PySem.W.nsIn K d q.1 = some (some u) ∧ RelV v u ∧ ∀ B : Hp, Dp K B v q.2)
    (h : EE c ty Γ fun y Γ1 => ∃ q ∈ kvs, y = dS q.1 ∧ P (.val q.2) Γ1) : EE c (tOp (rIxD K w) (tC (.ref d)) ty) Γ P := fun σ B H C E Q k => by
  subst hK
  refine h σ B H C E _ fun v B1 H1 y Γ1 s1 d1 ⟨q, hq, e, p⟩ => ?_
  subst e
  cases d1
  obtain ⟨v, u, h1, h2, h3⟩ := hv q hq
  exact ⟨d, q.1, v, rfl, rfl, ⟨es, n, u, D.at_, D.lit, h1, h2⟩, k v B1 H1 (.val q.2) Γ1 s1 (h3 B1) p⟩
theorem ee_notInTab {ty : TE} {P : Dat → Env' → Prop} (hK : c.K = K) (hv : ∀ q ∈ kvs, ∃ v u, PySem.W.nsIn K d q.1 = some (some u) ∧ RelV v u ∧ ∀ B : Hp, Dp K B v q.2)
    (h : EE c ty Γ fun y Γ1 => ∃ q ∈ kvs, y = dS q.1 ∧ P (dB false) Γ1) : EE c (tOp (fun x y H Q => ∃ (z : Str) (r : Option Value), x = .str z ∧ y = .ref d ∧ PySem.W.nsIn K d z = some r ∧ Q (.bl (!r.isSome)) H) ty (tC (.ref d))) Γ P := fun σ B H C E Q k => by
  subst hK
  refine h σ B H C E _ fun v B1 H1 y Γ1 s1 d1 ⟨q, hq, e, p⟩ => ?_
  subst e
  cases d1
  obtain ⟨v, u, h1, h2, h3⟩ := hv q hq
  exact ⟨q.1, some u, rfl, rfl, h1, k (.bl false) B1 H1 (dB false) Γ1 s1 (Dp.bl false) p⟩
theorem ss_nmNo {t u : TS} {P : Post} {s a : Str} {i : Nat} (hK : c.K = K) (h0 : Γ[i]? = some (cV (dS s))) (hne : decide (s = a) = false) (h : SS c u Γ P) : SS c (tIfS (tTest (tOp (rEqX K false) (tVar i) (tC (.str a)))) t u) Γ P := by
  subst hK
  exact ss_if <| et_test <| ee_op <| ee_var h0 <| ee_str <| ro_eqS ⟨_, rfl, fun e => absurd (hne.symm.trans e) Bool.false_ne_true, fun _ => h⟩
theorem ss_nmYes {t u : TS} {P : Post} {s a : Str} {i : Nat} (hK : c.K = K) (h0 : Γ[i]? = some (cV (dS s))) (he : decide (s = a) = true) (h : SS c t Γ P) : SS c (tIfS (tTest (tOp (rEqX K false) (tVar i) (tC (.str a)))) t u) Γ P := by
  subst hK
  exact ss_if <| et_test <| ee_op <| ee_var h0 <| ee_str <| ro_eqS ⟨_, rfl, fun _ => h, fun e => absurd (e.symm.trans he) Bool.false_ne_true⟩
end
end My
end DL35_
section P30_
set_option maxHeartbeats 1000000
namespace My
open PySem PySem.Spec PyProof.Rows L2 LamX
inductive LName where
  | sources | targets | paths | users
def LName.s : LName → Str
  | .sources => Str.ofString "sources"
  | .targets => Str.ofString "targets"
  | .paths => Str.ofString "paths"
  | .users => Str.ofString "users"
def LName.n : LName → Nat
  | .sources => 1
  | .targets => 1
  | .paths => 2
  | .users => 0
/-- an item of a rule is as described; the item before it -/
inductive ItemOk : Str → PyData → PyData → Prop
  | how (c : Bool) (p : PyData) : ItemOk (Str.ofString "how") (.str (howS c)) p
  | rows (r : List (List Str)) (p : PyData) : rowsOk r → ItemOk (Str.ofString "rows") (rowsE r) p
  | path (h : Str) (p : PyData) : rulePathOk h → ItemOk (Str.ofString "path") (.str h) p
  | lst (a : LName) (l : List Str) (p : PyData) : lstOk a.n 6 l → ItemOk a.s (sE l) p
  | exposed (h : Str) (e : List Str) : rulePathOk h → lstOk 0 6 e → (∀ p ∈ e, cov h p = true ∧ p ≠ h) → ItemOk (Str.ofString "exposed") (sE e) (.str h)
abbrev spItem (K : PySem.W.Frag) (T : List (Addr × Str)) : Sp := SpI K T (fun i : Str × PyData × PyData => [dS i.1, .val i.2.1, .val i.2.2]) (fun i => ItemOk i.1 i.2.1 i.2.2) (fun i x => x = dB true)
abbrev spRErr (K : PySem.W.Frag) (T : List (Addr × Str)) : Sp := SpI K T (fun i : Rule => [.val (rE i)]) (fun i => RuleOk i) (fun i x => x = dN)
abbrev spBErr (K : PySem.W.Frag) (T : List (Addr × Str)) : Sp := SpI K T (fun i : List Rule => [.val (rulesE i)]) (fun i => (∀ r ∈ i, RuleOk r) ∧ i.length ≤ 8 ∧ NoRep i) (fun i x => x = dN)
def nmsOf : Rule → List String
  | .forbid _ _ _ => ["sources", "targets", "how"]
  | .layers _ _ => ["rows", "how"]
  | .stairs _ => ["rows"]
  | .apart _ _ => ["paths", "how"]
  | .only _ _ => ["targets", "users"]
  | .face _ _ => ["path", "exposed"]
  | .noring _ => ["paths"]
theorem kind_mem (r : Rule) : (kindS r, sT (nmsOf r)) ∈ itemsT := by
  cases r <;> simp [itemsT, kindS, nmsOf]
theorem nms_len (r : Rule) : (rD r).length = (nmsOf r).length + 1 := by cases r <;> rfl
theorem nms_le (r : Rule) : (nmsOf r).length ≤ 3 := by cases r <;> simp [nmsOf]
/-- the items, one by one -/
theorem items_ok {r : Rule} (h : RuleOk r) : ∀ j nm, (nmsOf r)[j]? = some nm → ∃ d e, (rD r)[j + 1]? = some d ∧ (rD r)[j]? = some e ∧ ItemOk (Str.ofString nm) d e := by
  intro j nm e
  obtain ⟨_, h⟩ := h
  cases r with
  | forbid s t c =>
    match j, e with
    | 0, e => cases e; exact ⟨_, _, rfl, rfl, .lst .sources s _ h.1⟩
    | 1, e => cases e; exact ⟨_, _, rfl, rfl, .lst .targets t _ h.2⟩
    | 2, e => cases e; exact ⟨_, _, rfl, rfl, .how c _⟩
  | layers s c =>
    match j, e with
    | 0, e => cases e; exact ⟨_, _, rfl, rfl, .rows s _ h⟩
    | 1, e => cases e; exact ⟨_, _, rfl, rfl, .how c _⟩
  | stairs s =>
    match j, e with
    | 0, e => cases e; exact ⟨_, _, rfl, rfl, .rows s _ h⟩
  | apart p c =>
    match j, e with
    | 0, e => cases e; exact ⟨_, _, rfl, rfl, .lst .paths p _ h⟩
    | 1, e => cases e; exact ⟨_, _, rfl, rfl, .how c _⟩
  | only t u =>
    match j, e with
    | 0, e => cases e; exact ⟨_, _, rfl, rfl, .lst .targets t _ h.1⟩
    | 1, e => cases e; exact ⟨_, _, rfl, rfl, .lst .users u _ h.2⟩
  | face a x =>
    match j, e with
    | 0, e => cases e; exact ⟨_, _, rfl, rfl, .path a _ h.1⟩
    | 1, e => cases e; exact ⟨_, _, rfl, rfl, .exposed a x h.1 h.2.1 h.2.2⟩
  | noring p =>
    match j, e with
    | 0, e => cases e; exact ⟨_, _, rfl, rfl, .lst .paths p _ h⟩
theorem par_len {r : Rule} (h : RuleOk r) : (par r).length ≤ 1000 := by
  obtain ⟨_, h⟩ := h
  have fl : ∀ rs : List (List Str), rowsOk rs → rs.flatten.length ≤ 1000 := fun rs ⟨_, h2, h3⟩ => by
    have : ∀ l : List (List Str), (∀ x ∈ l, x.length ≤ 4) → l.flatten.length ≤ 4 * l.length := fun l => by
      induction l with
      | nil => exact fun _ => Nat.le_refl _
      | cons a l ih =>
        intro h
        have h1 := h a (by simp)
        have := ih fun x hx => h x (List.mem_cons_of_mem _ hx)
        rw [List.flatten_cons, List.length_append, List.length_cons]
        omega
    have := this rs fun x hx => (h3 x hx).2.1
    omega
  cases r with
  | forbid s t c => have := h.1.2.1; have := h.2.2.1; show (s ++ t).length ≤ 1000; rw [List.length_append]; omega
  | layers s c => exact fl s h
  | stairs s => exact fl s h
  | apart p c => have := h.2.1; show p.length ≤ 1000; omega
  | only t u => have := h.1.2.1; have := h.2.2.1; show (t ++ u).length ≤ 1000; rw [List.length_append]; omega
  | face a x => have := h.2.1.2.1; show x.length ≤ 1000; omega
  | noring p => have := h.2.1; show p.length ≤ 1000; omega
section
variable {P : Program} {w : World} {K : PySem.W.Frag} {mg : Str → Option Value} {base : Heap} {T : List (Addr × Str)}
theorem sc_item_holds : FnScope ["name", "item", "path", "one"] ["name", "item", "path"] (defScope sItemHolds) := ⟨rfl, rfl, rfl, by decide +kernel, rfl, by decide +kernel, by decide +kernel⟩
theorem ok_item_holds (W : WdA w K mg base T) : DefOk P w K mg base "item_holds" ["name", "item", "path"] 6 (spItem K T) := by
  obtain ⟨f, fd, hm, F⟩ := W.f_item_holds
  have D_covers := ok_covers (P := P) (w := w) (base := base) (T := T) W.toWdL.toWd
  have D_are_rule_paths := ok_are_rule_paths (P := P) (w := w) (base := base) (T := T) W.toWdL.toWd
  have D_is_rule_path := ok_is_rule_path (P := P) (w := w) (base := base) (T := T) W.toWdL.toWd
  have D_are_rows := ok_are_rows (P := P) (w := w) (base := base) (T := T) W.toWdL.toWd
  obtain ⟨dLEAST, esLEAST, nLEAST, mLEAST, kLEAST, vLEAST⟩ := W.t_LEAST
  refine ⟨f, fd, hm, F.kp, F.bindsN fun _ _ _ _ _ _ us hl => match us, hl with | [_, _, _], _ => rfl, F.ok sc_item_holds (sp_len fun _ => rfl) fun cdv A outer s H vs Q E hr h => ?_⟩
  have nd := sc_item_holds.nd
  have hu64 := hr.units
  have hu1 := hu_of hr
  refine ⟨_, PSs.nox ((pss_cons (ps_if (pt_cmpR (op_eqK (K := K) rfl hu64) (pv 0) pe_str (nomark _))
    (pss_one (ps_ret (pe_cmpR (op_inK (K := K) rfl hu64) (pv 1) (pe_tup (pa_cons pe_str (pa_cons pe_str pa_nil))) (by rfl))))
    pss_nil)
    (pss_cons (ps_if (pt_cmpR (op_eqK (K := K) rfl hu64) (pv 0) pe_str (nomark _))
    (pss_one (ps_ret (pe_callD D_are_rows (hr.mono (by decide)) rfl (pa_cons (pv 1) pa_nil))))
    pss_nil)
    (pss_cons (ps_if (pt_cmpR (op_eqK (K := K) rfl hu64) (pv 0) pe_str (nomark _))
    (pss_one (ps_ret (pe_callD D_is_rule_path (hr.mono (by decide)) rfl (pa_cons (pv 1) pa_nil))))
    pss_nil)
    (pss_cons (ps_if (pt_not (pt_val (pe_callD D_are_rule_paths (hr.mono (by decide)) rfl (pa_cons (pv 1) (pa_cons (pe_ix ix_kdict (pe_glob (v := .ref dLEAST) rfl mLEAST rfl) (pv 0) (fun _ _ => rfl)) (pa_cons (pe_glob (v := .int 6) rfl W.c_MOST_PATHS.choose_spec ⟨_, rfl⟩) pa_nil))))))
    (pss_one (ps_ret pe_bl))
    pss_nil)
    (pss_one (ps_ret (pe_or (pe_cmpR (op_neK (K := K) rfl hu64) (pv 0) pe_str (nomark _)) (pe_one (pe_callB (cr_allK (K := K) rfl rfl) rfl W.b_all boot_all (pa_cons (pe_lc (own := [("one", 3)]) rfl nd (pi_tupK (K := K) rfl (pv 1)) (blkOk_by (own := [("one", 3)]) (N := ["name", "item", "path", "one"]) (sc := defScope sItemHolds) (by decide +kernel)) (fun _ _ _ _ _ => (pg_name (i := 3) nd rfl (by first | exact Or.inl rfl | exact Or.inr rfl))) (fun _ _ _ _ _ => pts_nil) (fun _ _ _ _ _ => (pe_and (pe_callD D_covers (hr.mono (by decide)) rfl (pa_cons (pv 2) (pa_cons (pv 3) pa_nil))) (pe_one (pe_cmpR (op_neK (K := K) rfl hu64) (pv 3) (pv 2) (nomark _)))))) pa_nil))))))))))), sp_go (fun H0 B0 i hp => ?_) h⟩
  obtain ⟨nm, d, e⟩ := i
  have hp : ItemOk nm d e := hp
  cases hp with
  | how b p =>
    refine ss_seq <| ss_nmYes (s := Str.ofString "how") (i := 0) rfl rfl rfl <| ss_ret <| ee_op <| ee_var rfl <| ee_tup <| ea_cons <| ee_str <| ea_cons <| ee_str <| ea_nil ⟨[howS false, howS true].map .str, rfl, (by show 2 ≤ 1000000; decide), ro_inE (l := [howS false, howS true]) eqe_str (shal_str _) ?_⟩
    cases b <;> rfl
  | rows r p hr =>
    refine ss_seq <| ss_nmNo (s := Str.ofString "rows") (i := 0) rfl rfl rfl <| ss_next <| ss_seq <| ss_nmYes (s := Str.ofString "rows") (i := 0) rfl rfl rfl <| ss_ret <| ee_call rfl rfl <| ea_cons <| ee_var rfl <| ea_nil ⟨r, rfl, hr, fun x ex => ex⟩
  | path h p hh =>
    refine ss_seq <| ss_nmNo (s := Str.ofString "path") (i := 0) rfl rfl rfl <| ss_next <| ss_seq <| ss_nmNo (s := Str.ofString "path") (i := 0) rfl rfl rfl <| ss_next <| ss_seq <| ss_nmYes (s := Str.ofString "path") (i := 0) rfl rfl rfl <| ss_ret <| ee_call rfl rfl <| ea_cons <| ee_var rfl <| ea_nil ⟨h, rfl, hh, fun x ex => ex⟩
  | lst a l p hl =>
    have q1 : decide (a.s = Str.ofString "how") = false := by cases a <;> rfl
    have q2 : decide (a.s = Str.ofString "rows") = false := by cases a <;> rfl
    have q3 : decide (a.s = Str.ofString "path") = false := by cases a <;> rfl
    have q4 : decide (a.s = Str.ofString "exposed") = false := by cases a <;> rfl
    have q5 : (a.s, PyData.int (a.n : Nat)) ∈ leastT := by cases a <;> simp [leastT, LName.s, LName.n]
    refine ss_seq <| ss_nmNo (s := a.s) (i := 0) rfl rfl q1 <| ss_next <| ss_seq <| ss_nmNo (s := a.s) (i := 0) rfl rfl q2 <| ss_next <| ss_seq <| ss_nmNo (s := a.s) (i := 0) rfl rfl q3 <| ss_next <| ss_seq <| ss_if <| et_not <| et_B <| ee_call rfl rfl <| ea_cons <| ee_var rfl <| ea_cons <| ee_tab rfl kLEAST vLEAST <| ee_var rfl ⟨_, q5, rfl, ea_cons <| ee_int <| ea_nil ⟨(l, a.n, 6), rfl, ⟨hl, (by show 6 ≤ 1000; decide)⟩, fun x ex => ⟨_, ex, (fun z => by cases z), fun _ => ss_next ?_⟩⟩⟩
    refine ss_ret <| ee_orV <| ee_op <| ee_var rfl <| ee_str <| ro_neS ⟨_, rfl, fun _ => rfl, fun z => ?_⟩
    rw [show decide ((a.s, sE l, e).fst = Str.ofString "exposed") = false from q4] at z
    cases z
  | exposed h x hh hl hx =>
    have q5 : (Str.ofString "exposed", PyData.int ((0 : Nat) : Int)) ∈ leastT := by simp [leastT]
    have xl := hl.2.1
    refine ss_seq <| ss_nmNo (s := Str.ofString "exposed") (i := 0) rfl rfl rfl <| ss_next <| ss_seq <| ss_nmNo (s := Str.ofString "exposed") (i := 0) rfl rfl rfl <| ss_next <| ss_seq <| ss_nmNo (s := Str.ofString "exposed") (i := 0) rfl rfl rfl <| ss_next <| ss_seq <| ss_if <| et_not <| et_B <| ee_call rfl rfl <| ea_cons <| ee_var rfl <| ea_cons <| ee_tab rfl kLEAST vLEAST <| ee_var rfl ⟨_, q5, rfl, ea_cons <| ee_int <| ea_nil ⟨(x, 0, 6), rfl, ⟨hl, (by show 6 ≤ 1000; decide)⟩, fun y0 ex => ⟨_, ex, (fun z => by cases z), fun _ => ss_next ?_⟩⟩⟩
    refine ss_ret <| ee_orV <| ee_op <| ee_var rfl <| ee_str <| ro_neS ⟨_, rfl, (fun z => by cases z), fun _ => ee_CB <| ea_cons <| ee_lc <| wi_tup <| ee_var rfl ⟨x.map .str, rfl, lc1 PyData.str .bool (fun _ => true) (by omega) (hno_unk rfl) (fun p hp => ?_) (ea_nil ?_)⟩⟩
    · refine ee_andV <| ee_call rfl rfl <| ea_cons <| ee_var rfl <| ea_cons <| ee_var rfl <| ea_nil ⟨(h, p), rfl, ⟨hh.short, (hl.2.2 p hp).short⟩, fun y ey => ⟨true, by rw [ey]; rw [(hx p hp).1], fun _ => ee_op <| ee_var rfl <| ee_var rfl <| ro_neS ⟨rfl, ?_⟩, fun z => by cases z⟩⟩
      simp [(hx p hp).2]
    · refine (rl_allM ?_).rl
      simp
theorem sc_rule_error : FnScope ["value", "names", "index"] ["value"] (defScope sRuleError) := ⟨rfl, rfl, rfl, by decide +kernel, rfl, by decide +kernel, by decide +kernel⟩
theorem ok_rule_error (W : WdA w K mg base T) : DefOk P w K mg base "rule_error" ["value"] 7 (spRErr K T) := by
  obtain ⟨f, fd, hm, F⟩ := W.f_rule_error
  have D_any_overlap := ok_any_overlap (P := P) (w := w) (base := base) (T := T) W.toWdL.toWd
  have D_parallel_paths := ok_parallel_paths (P := P) (w := w) (base := base) (T := T) W.toWdL.toWd
  have D_item_holds := ok_item_holds (P := P) (w := w) (base := base) (T := T) W
  obtain ⟨dITEMS, esITEMS, nITEMS, mITEMS, kITEMS, vITEMS⟩ := W.t_ITEMS
  refine ⟨f, fd, hm, F.kp, F.bindsN fun _ _ _ _ _ _ us hl => match us, hl with | [_], _ => rfl, F.ok sc_rule_error (sp_len fun _ => rfl) fun cdv A outer s H vs Q E hr h => ?_⟩
  have nd := sc_rule_error.nd
  have hu64 := hr.units
  have hu1 := hu_of hr
  refine ⟨_, PSs.nox ((pss_cons (ps_if (PW.pt (pw_or (pt_not (pt_val (pe_callB (cr_isiK (K := K) rfl) rfl W.b_isinstance boot_isinstance (pa_cons (pv 0) (pa_cons (pe_bltn (v := .ty "tuple") rfl W.b_tuple boot_tuple rfl) pa_nil))))) (pw_or (pt_cmpR (op_eqK (K := K) rfl hu64) (pe_callB (cr_lenK (K := K) rfl) rfl W.b_len boot_len (pa_cons (pv 0) pa_nil)) pe_int (nomark _)) (pw_or (pt_not (pt_val (pe_callB (cr_isiK (K := K) rfl) rfl W.b_isinstance boot_isinstance (pa_cons (pe_ix (ix_seqK (K := K) rfl) (pv 0) pe_int (fun _ _ => rfl)) (pa_cons (pe_bltn (v := .ty "str") rfl W.b_str boot_str rfl) pa_nil))))) (pw_or1 (pt_cmpR (op_notIn_kd kITEMS) (pe_ix (ix_seqK (K := K) rfl) (pv 0) pe_int (fun _ _ => rfl)) (pe_glob (v := .ref dITEMS) rfl mITEMS rfl) (by rfl)))))))
    (pss_one (ps_ret pe_str))
    pss_nil)
    (pss_cons (ps_set (i := 1) nd rfl (by first | exact Or.inl rfl | exact Or.inr rfl) (pe_ix ix_kdict (pe_glob (v := .ref dITEMS) rfl mITEMS rfl) (pe_ix (ix_seqK (K := K) rfl) (pv 0) pe_int (fun _ _ => rfl)) (fun _ _ => rfl)))
    (pss_cons (ps_if (pt_cmpR (op_neK (K := K) rfl hu64) (pe_callB (cr_lenK (K := K) rfl) rfl W.b_len boot_len (pa_cons (pv 0) pa_nil)) (pe_op (op_addK (K := K) rfl) (pe_callB (cr_lenK (K := K) rfl) rfl W.b_len boot_len (pa_cons (pv 1) pa_nil)) pe_int) (nomark _))
    (pss_one (ps_ret pe_str))
    pss_nil)
    (pss_cons (ps_for PassesOwn.never rfl (pi_range1 rfl W.b_range (pa_cons (pe_callB (cr_lenK (K := K) rfl) rfl W.b_len boot_len (pa_cons (pv 1) pa_nil)) pa_nil)) (pg_name (i := 2) nd rfl (by first | exact Or.inl rfl | exact Or.inr rfl))
    (pss_one (ps_if (pt_not (pt_val (pe_callD D_item_holds (hr.mono (by decide)) rfl (pa_cons (pe_ix (ix_seqK (K := K) rfl) (pv 1) (pv 2) (fun _ _ => rfl)) (pa_cons (pe_ix (ix_seqK (K := K) rfl) (pv 0) (pe_op (op_addK (K := K) rfl) (pv 2) pe_int) (fun _ _ => rfl)) (pa_cons (pe_ix (ix_seqK (K := K) rfl) (pv 0) (pv 2) (fun _ _ => rfl)) pa_nil))))))
    (pss_one (ps_ret (pe_ix (ix_seqK (K := K) rfl) (pv 1) (pv 2) (fun _ _ => rfl))))
    pss_nil)))
    (pss_one (ps_ret (pe_ifExp (pt_val (pe_callD D_any_overlap (hr.mono (by decide)) rfl (pa_cons (pe_callD D_parallel_paths (hr.mono (by decide)) rfl (pa_cons (pv 0) pa_nil)) pa_nil))) pe_str pe_non)))))))), sp_go (fun H0 B0 i hp => ?_) h⟩
  have hp : RuleOk i := hp
  have nl := nms_len i
  have n3 := nms_le i
  refine ss_seq <| ss_if <| et_or <| et_not <| et_test <| ee_CB <| ea_cons <| ee_var rfl <| ea_cons <| ee_ref <| ea_nil <| rl_isT ⟨_, rfl, ⟨(fun z => by cases z), fun _ => ?_⟩⟩
  refine et_or <| et_test <| ee_op <| ee_CB <| ea_cons <| ee_var rfl <| ea_nil <| rl_lenT <| ee_int <| ro_eqI ⟨_, rfl, fun z => ?_, fun _ => ?_⟩
  · have := of_decide_eq_true z
    omega
  refine et_or <| et_not <| et_test <| ee_CB <| ea_cons <| ee_kind (r := i) rfl <| ea_cons <| ee_ref <| ea_nil <| rl_isS ⟨_, rfl, ⟨(fun z => by cases z), fun _ => ?_⟩⟩
  refine et_test <| ee_notInTab rfl vITEMS <| ee_kind (r := i) rfl ⟨_, kind_mem i, rfl, _, rfl, (fun z => by cases z), fun _ => ss_next ?_⟩
  refine ss_seq <| ss_set <| ee_tab rfl kITEMS vITEMS <| ee_kind (r := i) rfl ⟨_, kind_mem i, rfl, ?_⟩
  refine ss_seq <| ss_if <| et_test <| ee_op <| ee_CB <| ea_cons <| ee_var rfl <| ea_nil <| rl_lenT <| ee_op <| ee_CB <| ea_cons <| ee_var rfl <| ea_nil <| rl_lenT <| ee_int <| ro_addI <| ro_neI ⟨_, rfl, fun z => ?_, fun _ => ss_next ?_⟩
  · rw [List.length_map, nl] at z
    simp at z
  refine ss_seq <| ss_for (vs := [2]) <| wi_rng1 <| ea_cons <| ee_CB <| ea_cons <| ee_var rfl <| ea_nil <| rl_lenT <| ea_nil ⟨(nmsOf i).length, by omega, by rw [List.length_map], fun j Γ1 => ∃ z, Γ1 = [cV (.val (rE i)), cV (.val (sT (nmsOf i))), z], ⟨_, rfl⟩, fun j d Γ1 hd hI => ?_, fun Γ1 hI => ?_⟩
  · obtain ⟨z, rfl⟩ := hI
    obtain ⟨j', hj', rfl⟩ := map_get hd
    obtain ⟨hjl, e⟩ := List.getElem?_eq_some_iff.mp hj'
    rw [List.getElem_range] at e
    subst e
    rw [List.length_range] at hjl
    have hnm : (nmsOf i)[j]? = some (nmsOf i)[j] := List.getElem?_eq_getElem hjl
    obtain ⟨d, e, hd1, he1, iok⟩ := items_ok hp j _ hnm
    have hnm2 : ((nmsOf i).map fun x => PyData.str (Str.ofString x))[j]? = some (.str (Str.ofString (nmsOf i)[j])) := by rw [List.getElem?_map, hnm]; rfl
    refine sg_name (ss_if <| et_not <| et_B <| ee_call rfl rfl <| ea_cons <| ee_op <| ee_var rfl <| ee_var rfl <| ro_ixT (atI_nat hnm2) <| ea_cons <| ee_op <| ee_var rfl <| ee_op <| ee_var rfl <| ee_int <| ro_addI <| ro_ixT (atI_nat (j := j + 1) hd1) <| ea_cons <| ee_op <| ee_var rfl <| ee_var rfl <| ro_ixT (atI_nat he1) <| ea_nil ⟨(Str.ofString (nmsOf i)[j], d, e), rfl, iok, fun x ex => ⟨_, ex, (fun z => by cases z), fun _ => ss_next ⟨_, rfl⟩⟩⟩) (by simp)
  · obtain ⟨z, rfl⟩ := hI
    refine ss_ret <| ee_if <| et_B <| ee_call rfl rfl <| ea_cons <| ee_call rfl rfl <| ea_cons <| ee_var rfl <| ea_nil ⟨i, rfl, hp, fun x ex => ea_nil ⟨par i, by rw [ex], ⟨hp.1, hp.par_short, par_len hp⟩, fun y ey => ⟨_, ey, (fun z => by cases z), fun _ => ee_non rfl⟩⟩⟩
theorem sc_book_error : FnScope ["rules", "index", "rule", "word"] ["rules"] (defScope sBookError) := ⟨rfl, rfl, rfl, by decide +kernel, rfl, by decide +kernel, by decide +kernel⟩
theorem ok_book_error (W : WdA w K mg base T) : DefOk P w K mg base "book_error" ["rules"] 8 (spBErr K T) := by
  obtain ⟨f, fd, hm, F⟩ := W.f_book_error
  have D_rule_error := ok_rule_error (P := P) (w := w) (base := base) (T := T) W
  refine ⟨f, fd, hm, F.kp, F.bindsN fun _ _ _ _ _ _ us hl => match us, hl with | [_], _ => rfl, F.ok sc_book_error (sp_len fun _ => rfl) fun cdv A outer s H vs Q E hr h => ?_⟩
  have nd := sc_book_error.nd
  have hu64 := hr.units
  have hu1 := hu_of hr
  refine ⟨_, PSs.nox ((pss_cons (ps_if (PW.pt (pw_or (pt_not (pt_val (pe_callB (cr_isiK (K := K) rfl) rfl W.b_isinstance boot_isinstance (pa_cons (pv 0) (pa_cons (pe_bltn (v := .ty "tuple") rfl W.b_tuple boot_tuple rfl) pa_nil))))) (pw_or1 (pt_cmpR op_gt (pe_callB (cr_lenK (K := K) rfl) rfl W.b_len boot_len (pa_cons (pv 0) pa_nil)) (pe_glob (v := .int 8) rfl W.c_MAX_RULES.choose_spec ⟨_, rfl⟩) (nomark _)))))
    (pss_one (ps_ret (pe_tup (pa_cons pe_non (pa_cons pe_str pa_nil)))))
    pss_nil)
    (pss_cons (ps_for PassesOwn.never rfl (pi_enumTK (K := K) rfl (by rfl) W.b_enumerate (pa_cons (pv 0) pa_nil)) (pg_tupK (K := K) rfl (pg_tup (n := 2) rfl (pgs_cons (pg_name (i := 1) nd rfl (by first | exact Or.inl rfl | exact Or.inr rfl)) (pgs_cons (pg_name (i := 2) nd rfl (by first | exact Or.inl rfl | exact Or.inr rfl)) pgs_nil))))
    (pss_cons (ps_set (i := 3) nd rfl (by first | exact Or.inl rfl | exact Or.inr rfl) (pe_callD D_rule_error (hr.mono (by decide)) rfl (pa_cons (pv 2) pa_nil)))
    (pss_cons (ps_if (pt_cmp (pc_notN (pv 3)))
    (pss_one (ps_ret (pe_tup (pa_cons (pv 1) (pa_cons (pv 3) pa_nil)))))
    pss_nil)
    (pss_one (ps_if (pt_cmpR (op_inK (K := K) rfl hu64) (pv 2) (pe_slice (sl_tupK (K := K) rfl) (pv 0) po_none (po_some (pv 1))) (by rfl))
    (pss_one (ps_ret (pe_tup (pa_cons (pv 1) (pa_cons pe_str pa_nil)))))
    pss_nil)))))
    (pss_one (ps_ret pe_non))))), sp_go (fun H0 B0 i hp => ?_) h⟩
  obtain ⟨ok, len, nr⟩ := hp
  refine ss_seq <| ss_if <| et_or <| et_not <| et_test <| ee_CB <| ea_cons <| ee_var rfl <| ea_cons <| ee_ref <| ea_nil <| rl_isT ⟨_, rfl, ⟨(fun z => by cases z), fun _ => ?_⟩⟩
  refine et_test <| ee_op <| ee_CB <| ea_cons <| ee_var rfl <| ea_nil <| rl_lenT <| ee_int <| ro_gt ⟨_, rfl, fun e => ?_, fun _ => ss_next ?_⟩
  · have := of_decide_eq_true e
    rw [List.length_map] at this
    omega
  refine ss_seq <| ss_for (vs := [1, 2]) <| wi_enumT <| ea_cons <| ee_var rfl <| ea_nil ⟨i.map rE, rfl, fun j Γ1 => ∃ a b c, Γ1 = [cV (.val (rulesE i)), a, b, c], ⟨_, _, _, rfl⟩, fun j d Γ1 hd hI => ?_, fun Γ1 hI => ?_⟩
  · obtain ⟨a, b, c, rfl⟩ := hI
    obtain ⟨r, hr, rfl⟩ := enum_get hd
    have hjl := (List.getElem?_eq_some_iff.mp hr).1
    refine sg_pair (ss_seq <| ss_set <| ee_call rfl rfl <| ea_cons <| ee_var rfl <| ea_nil ⟨r, rfl, ok r (List.mem_of_getElem? hr), fun x ex => ?_⟩) (by simp) (by simp)
    rw [ex]
    refine ss_seq <| ss_if <| et_B <| ee_notN <| ee_var rfl ⟨_, rfl, _, rfl, (fun z => by cases z), fun _ => ss_next ?_⟩
    refine ss_if <| et_test <| ee_op <| ee_var rfl <| ee_sl <| ee_var rfl <| eo_none <| eo_some <| ee_var rfl ⟨_, rfl, slT_to hjl <| ro_inT (neg := false) (shal_rE r) ⟨_, rfl, fun e => ?_, fun _ => ss_next ⟨_, _, _, rfl⟩⟩⟩
    rw [if_neg (by decide), List.any_eq_true] at e
    obtain ⟨z, hz, ez⟩ := e
    obtain ⟨y, hy, rfl⟩ := List.mem_map.mp hz
    obtain ⟨hj, e2⟩ := List.getElem?_eq_some_iff.mp hr
    obtain ⟨k, hk, e3⟩ := List.getElem_of_mem hy
    rw [List.length_take] at hk
    rw [List.getElem_take] at e3
    have := (List.pairwise_iff_getElem.mp nr) k j (by omega) hj (by omega)
    rw [e3, e2] at this
    rw [this] at ez
    cases ez
  · obtain ⟨a, b, c, rfl⟩ := hI
    exact ss_ret <| ee_non rfl
end
end My
end P30_
section DL36_
set_option maxHeartbeats 1000000
namespace My
open PySem PySem.Spec PyProof.Rows L2 LamX
/-- where a class of two or three attributes stands, its __init__ and its properties -/
structure ClsOk (K : PySem.W.Frag) (mg : Str → Option Value) (x q : Str) (init : Stmt) (fs : List Str) (C : Addr) : Prop where
  at_ : mg x = some (.ref C)
  cl : Cls K C
  ini : ∃ fI fd, Mk K C fI ∧ FunD K "__init__" q (defArgs init) (defBody init) (defScope init) [] [] fI fd
  no : ∀ f ∈ fs, NoAttr K C f
def PrAt (K : PySem.W.Frag) (f q : Str) (st : Stmt) (C : Addr) : Prop := ∃ p g fd, PropOf K C f p g ∧ FunD K f q (defArgs st) (defBody st) (defScope st) [] [] g fd
def FewAt (K : PySem.W.Frag) (mg : Str → Option Value) : Prop := ∃ f fd, mg "fewest_cuts" = some (.ref f) ∧ FunD K "fewest_cuts" "fewest_cuts" (defArgs sFewestCuts) (defBody sFewestCuts) (defScope sFewestCuts) [] [("most", .int 4)] f fd
/-- all that the top leaves -/
structure WdC (w : World) (K : PySem.W.Frag) (mg : Str → Option Value) (base : Heap) (T : List (Addr × Str)) (CP CB CT fI : Addr) : Prop extends WdA w K mg base T where
  prog : ClsOk K mg "Program" "Program.__init__" sProgramInit ["places", "links", "heads"] CP
  pmod : PrAt K "modules" "Program.modules" sProgramModules CP
  puse : PrAt K "uses" "Program.uses" sProgramUses CP
  book : ClsOk K mg "Book" "Book.__init__" sBookInit ["held"] CB
  brul : PrAt K "rules" "Book.rules" sBookRules CB
  tm : PySem.TmX.TmTxt K mg CT fI
  few : FewAt K mg
def dObj (K : PySem.W.Frag) (C : Addr) (fs : List (Str × PyData)) : Dat := .mon fun B v => ∃ x dx ws, v = .ref x ∧ B x = some (.ins C dx ws) ∧ KvOk K B ws fs
def oI (K : PySem.W.Frag) (C x dx : Addr) (fs : List (Str × PyData)) : Cell := .own fun a B o => a = x ∧ ∃ ws, o = .ins C dx ws ∧ KvOk K B ws fs
theorem ins_ne {H : Hp} {a C dx : Addr} {ws : List (Str × V)} (h : H a = some (.ins C dx ws)) : (∀ ps, H a ≠ some (.tbl ps)) ∧ ∀ q, H a ≠ some (CodeO a q) := ⟨fun ps z => (by rw [h] at z; cases z), fun q z => (by rw [h] at z; cases z)⟩
theorem kv_lookup {K : PySem.W.Frag} {B : Hp} {ws : List (Str × V)} {fs : List (Str × PyData)} (h : KvOk K B ws fs) {f : Str} {d : PyData} (e : fs.lookup f = some d) : ∃ v, ws.lookup f = some v ∧ Dp K B v d := by
  induction h with
  | nil => simp at e
  | @cons k v d' r s hd ht ih =>
    rw [List.lookup_cons] at e ⊢
    cases q : (f == k) with
    | true =>
      rw [q] at e
      cases e
      exact ⟨v, rfl, hd⟩
    | false =>
      rw [q] at e
      exact ih e
theorem kv_putF {K : PySem.W.Frag} {B : Hp} {ws : List (Str × V)} {fs : List (Str × PyData)} (h : KvOk K B ws fs) {f : Str} {v : V} {d : PyData} (hd : Dp K B v d) (no : f ∉ fs.map (·.1)) : KvOk K B (putF f v ws) (fs ++ [(f, d)]) := by
  induction h with
  | nil => exact .cons hd .nil
  | @cons k v' d' r s h1 ht ih =>
    have ne : k ≠ f := fun z => no (by rw [← z]; simp)
    show KvOk K B (if k = f then _ else _) _
    rw [if_neg ne]
    exact .cons h1 (ih fun z => no (by simp [z]))
section
variable {c : Ctx} {Γ : Env'} {K : PySem.W.Frag} {P : Post}
theorem ee_prop {C : Addr} {f : Str} {ta : TE} {E : XK} {P : Dat → Env' → Prop} (hK : c.K = K) (h : EE c ta Γ fun x Γ1 => ∃ fs d, x = dObj K C fs ∧ fs.lookup f = some d ∧ P (.val d) Γ1) : EE c (tProp C (getSp C f) [] E ta) Γ P := fun σ B H C0 E0 Q q => by
  subst hK
  refine h σ B H C0 E0 _ fun v B1 H1 x Γ1 s1 d1 ⟨fs, d, e, hl, p⟩ => ?_
  subst e
  obtain ⟨⟨a, dx, ws, ev, hB, kv⟩, _⟩ := d1
  obtain ⟨u, hu, du⟩ := kv_lookup kv hl
  have hH := s1.cur.sub _ _ hB
  exact ⟨a, dx, ws, ev, hH, a, dx, ws, u, rfl, hH, hu, q u B1 H1 (.val d) Γ1 s1 du p⟩
/-- self.f = e -/
theorem ss_fld {C x0 dx : Addr} {f : Str} {tv : TE} {i : Nat} {fs : List (Str × PyData)} (hK : c.K = K) (cl : Cls K C) (na : NoAttr K C f) (nf : f ∉ fs.map (·.1)) (hl : fs.length < 100)
    (h : EE c tv Γ fun y Γ1 => ∃ d, y = .val d ∧ Γ1[i]? = some (oI K C x0 dx fs) ∧ P.nx (Γ1.set i (oI K C x0 dx (fs ++ [(f, d)])))) : SS c (sFld K (tVar i) tv f) Γ P := fun σ B H D C0 E0 n r b k => by
  subst hK
  refine h σ B H C0 E0 _ fun v B1 H1 x Γ1 s1 d1 ⟨d, e, h1, p⟩ => ?_
  subst e
  have hi : i < σ.length := by rw [s1.env.len]; exact (List.getElem?_eq_some_iff.mp h1).1
  obtain ⟨v0, hv⟩ : ∃ v, σ[i]? = some v := ⟨_, List.getElem?_eq_getElem hi⟩
  have q := s1.env.at_ i v0 _ hv h1
  cases v0 with
  | none => exact q.elim
  | some v0 =>
    obtain ⟨a, o, ev, hH, hne, hB, hF, ⟨ea, ws, eo, kv⟩, mono⟩ := q
    subst ev eo
    have kl := kv.length
    refine ⟨.ref a, hv, a, C, dx, ws, rfl, hH, cl, na, by omega, ?_⟩
    have kv2 := kv_putF (v := v) kv d1 nf
    exact n σ B1 _ _ (cur_write s1.cur hB hF.1 (ins_ne hH).1 (ins_ne hH).2) s1.b (s1.env.write (y := oI c.K C x0 dx (fs ++ [(f, d)])) hv h1 rfl ⟨a, _, rfl, upd_same, fun ps z => (by cases z), hB, hF, ⟨ea, _, rfl, kv2⟩, fun B' b' => ⟨ea, _, rfl, kv2.mono b'⟩⟩ fun b hb => hb) p
end
/-- the promise of an __init__: the fields of the fresh instance -/
def SpInit (K : PySem.W.Frag) (T : List (Addr × Str)) (C : Addr) {ι : Type} (args : ι → List Dat) (pre : ι → Prop) (post : ι → List (Str × PyData) → Prop) : Sp := fun vs H Q _ =>
  ∃ (B : Hp) (i : ι) (x dx : Addr) (ws : List V), vs = .ref x :: ws ∧ Sub B H ∧ Tabs T H ∧ B x = none ∧ H x = some (.ins C dx []) ∧ DatAll K B ws (args i) ∧ pre i ∧
    ∀ H1 fs us, Ex (hm H x x) H1 → Tabs T H1 → H1 x = some (.ins C dx us) → KvOk K (ext B H H1) us fs → post i fs → Q .non H1
theorem spi_len {K : PySem.W.Frag} {T : List (Addr × Str)} {C : Addr} {ι : Type} {args : ι → List Dat} {pre : ι → Prop} {post : ι → List (Str × PyData) → Prop} {n : Nat} (hn : ∀ i, (args i).length = n) : ∀ vs H Q E, SpInit K T C args pre post vs H Q E → vs.length = n + 1 := fun vs H Q E ⟨B, i, x, dx, ws, e, _, _, _, _, da, _⟩ => by
  rw [e, List.length_cons, da.length, hn i]
section
variable {K : PySem.W.Frag} {T : List (Addr × Str)} {C : Addr} {ι : Type} {args : ι → List Dat} {pre : ι → Prop} {post : ι → List (Str × PyData) → Prop}
theorem own_get {c : Ctx} {B H : Hp} {σ : List (Option V)} {Γ : Env'} (E : EnvOk c B H σ Γ) {i : Nat} {x dx : Addr} {fs : List (Str × PyData)} (h : Γ[i]? = some (oI K C x dx fs)) : ∃ ws, H x = some (.ins C dx ws) ∧ B x = none ∧ KvOk K B ws fs := by
  have hi : i < σ.length := by rw [E.len]; exact (List.getElem?_eq_some_iff.mp h).1
  obtain ⟨v, hv⟩ : ∃ v, σ[i]? = some v := ⟨_, List.getElem?_eq_getElem hi⟩
  have q := E.at_ i v _ hv h
  cases v with
  | none => exact q.elim
  | some v =>
    obtain ⟨a, o, ev, hH, hne, hB, hF, ⟨ea, ws, eo, kv⟩, mono⟩ := q
    subst ev eo ea
    exact ⟨ws, hH, hB, kv⟩
/-- the body; the instance stays in slot 0 -/
theorem sp_goI {n0 : Str} {N : List Str} {t : TS} {vs : List V} {H : Hp} {Q : L2.VK} {E : XK}
    (body : ∀ (H0 B0 : Hp) (x dx : Addr) i, pre i → SS { K := K, T := T, H0 := H0, B0 := B0 } t (oI K C x dx [] :: start' N (args i)) { nx := fun Γ1 => ∃ fs, Γ1[0]? = some (oI K C x dx fs) ∧ post i fs }) (h : SpInit K T C args pre post vs H Q E) :
    t { nx := fun _ H' => Q .non H', rt := Q } (L2.start (n0 :: N) vs) H := by
  obtain ⟨B, i, x, dx, ws, e, sub, tab, hx, hH, da, p, q⟩ := h
  subst e
  let c : Ctx := { K := K, T := T, H0 := hm H x x, B0 := B }
  have C0 : Cur c B H := ⟨sub, ex_hm H x x, Ex.refl _, fun a h _ => h, tab, fun a ha => by cases ha⟩
  have E0 : EnvOk c B H (L2.start (n0 :: N) (.ref x :: ws)) (oI K C x dx [] :: start' N (args i)) := by
    rw [start_cons]
    exact env_cons (env_start da) (fun i y w a h o => start_no h o) ⟨x, _, rfl, hH, fun ps z => (by cases z), hx, ⟨hm_r, fun z => (by cases z)⟩, ⟨rfl, [], rfl, .nil⟩, fun B' b' => ⟨rfl, [], rfl, .nil⟩⟩
  refine body _ _ x dx i p (L2.start (n0 :: N) (.ref x :: ws)) B H _ C0 E0 (fun σ1 B1 H1 Γ1 C1 b1 E1 ⟨fs, h1, h2⟩ => ?_) (fun _ _ _ _ _ _ _ _ _ _ z => z.elim) (fun _ _ _ _ _ _ _ z => z.elim) (fun _ _ _ _ _ _ _ z => z.elim)
  obtain ⟨us, u1, u2, u3⟩ := own_get E1 h1
  have to_ext : Ex B1 (ext B H H1) := (show Sub B1 (ext B H H1) from fun b o e => by
    by_cases hb : H b = none
    · rw [ext_new hb]; exact C1.sub b o e
    · have n1 : b ≠ x := fun z => by rw [z, u2] at e; cases e
      rw [ext_old (C1.out b (by rw [e]; exact fun z => by cases z) (by show hm H x x b ≠ none; rw [hm_ne n1 n1]; exact hb))]; exact C1.sub b o e).ex
  exact q H1 fs us C1.ex0 C1.tab u1 (u3.mono to_ext) h2
/-- C(..): the fresh instance, frozen -/
theorem ee_make {c : Ctx} {Γ : Env'} {P : Dat → Env' → Prop} {E' : XK} {ta : TA} (hT : c.T = T) (hK : c.K = K) (h : EA c ta Γ fun xs Γ1 => ∃ i, xs = args i ∧ pre i ∧ ∀ fs, post i fs → P (dObj K C fs) Γ1) :
    EE c (tMake C (SpInit K T C args pre post) [] E' ta) Γ P := fun σ B H C0 E Q q => by
  subst hT hK
  refine h σ B H C0 E _ fun vs B1 H1 xs Γ1 s1 d1 ⟨i, e, p, fin⟩ x dx hx hdx hne => ?_
  rw [List.append_nil]
  have c1 := s1.cur
  have hd2 : (upd H1 dx (.own x)) x = none := by rw [upd_ne (Ne.symm hne)]; exact hx
  have c2 := cur_new (o := .own x) c1 hdx
  have c3 := cur_new (o := .ins C dx []) c2 hd2
  have exH : Ex H1 (upd (upd H1 dx (.own x)) x (.ins C dx [])) := (Ex.new hdx).trans (Ex.new hd2)
  refine ⟨B1, i, x, dx, vs, rfl, c3.sub, c3.tab, c1.sub.none hx, upd_same, by rw [← e]; exact d1, p, fun H2 fs us ex tab hx2 kv po => ⟨rfl, ?_⟩⟩
  have ex2 : Ex H1 H2 := by
    refine Ex.trans ⟨fun b o h n => ?_, fun b h => ?_⟩ ex
    · have nb : b ≠ x := ne_of_none h hx
      have nd : b ≠ dx := ne_of_none h hdx
      rw [hm_ne nb nb, upd_ne nb, upd_ne nd]
      exact h
    · have nb : b ≠ x := fun z => h (by rw [z]; exact hx)
      have nd : b ≠ dx := fun z => h (by rw [z]; exact hdx)
      rw [hm_ne nb nb, upd_ne nb, upd_ne nd]
      exact h
  -- what is new since H1 may be told
  have st := step_call c1 ex2 tab
  have es : Ex (ext B1 (upd (upd H1 dx (.own x)) x (.ins C dx [])) H2) (ext B1 H1 H2) := (show Sub _ _ from fun b o e => by
    have hH2 := ext_sub b o e
    by_cases hb : B1 b = none
    · by_cases h1 : H1 b = none
      · rw [ext_new h1]; exact hH2
      · have : (upd (upd H1 dx (.own x)) x (.ins C dx [])) b ≠ none := exH.live b h1
        rw [ext_out this hb] at e
        cases e
    · rw [ext_old hb]; exact hH2).ex
  have kv2 := kv.mono es
  have hxe : (ext B1 H1 H2) x = some (.ins C dx us) := by rw [ext_new hx]; exact hx2
  exact q (.ref x) _ H2 (dObj c.K C fs) Γ1 (s1.step st) ⟨⟨x, dx, us, rfl, hxe, kv2⟩, fun B' b' => ⟨x, dx, us, rfl, b'.keep _ _ hxe (fun ps z => by cases z), kv2.mono b'⟩⟩ (fin fs po)
end
end My
end DL36_
section P31_
set_option maxHeartbeats 1000000
namespace My
open PySem PySem.Spec PyProof.Rows L2 LamX
theorem PS.nox' {X : Cx} {st : Stmt} {t : TS} (h : PS X.nox st t) : PS X st t := ⟨fun pins s σ H D I hw =>
  wpAny_mono (h.run pins s σ H D (I.wish _) hw) (fun _ _ q => q.unwish) fun _ _ z => False.elim z⟩
abbrev sortS (l : List Str) : List Str := l.mergeSort (PySem.W.dataLe false PyData.str)
def progF (ms : List Str) (us : List Use) (ps : List Str) : List (Str × PyData) := [(Str.ofString "places", sE ms), (Str.ofString "links", usE us), (Str.ofString "heads", sE ps)]
def bookF (rs : List Rule) : List (Str × PyData) := [(Str.ofString "held", rulesE rs)]
structure ProgOk (ms : List Str) (us : List Use) : Prop where
  m : ModsOk ms
  u : UsesOk ms us
  np : ∀ m ∈ ms, NP 6 m
  n : partsN ms < 64
abbrev spPInit (K : PySem.W.Frag) (T : List (Addr × Str)) (CP : Addr) : Sp := SpInit K T CP (fun i : List Str × List Use => [.val (sE i.1), .val (usE i.2)]) (fun i => ProgOk i.1 i.2) (fun i fs => ∃ ps, fs = progF (sortS i.1) (sortU i.2) ps)
abbrev spBInit (K : PySem.W.Frag) (T : List (Addr × Str)) (CB : Addr) : Sp := SpInit K T CB (fun i : List Rule => [.val (rulesE i)]) (fun i => (∀ r ∈ i, RuleOk r) ∧ i.length ≤ 8 ∧ NoRep i) (fun i fs => fs = bookF i)
section
variable {P : Program} {w : World} {K : PySem.W.Frag} {mg : Str → Option Value} {base : Heap} {T : List (Addr × Str)} {CP CB CT fI : Addr}
theorem sc_Program___init__ : FnScope ["self", "modules", "uses", "error"] ["self", "modules", "uses"] (defScope sProgramInit) := ⟨rfl, rfl, rfl, by decide +kernel, rfl, by decide +kernel, by decide +kernel⟩
theorem sc_Book___init__ : FnScope ["self", "rules", "error"] ["self", "rules"] (defScope sBookInit) := ⟨rfl, rfl, rfl, by decide +kernel, rfl, by decide +kernel, by decide +kernel⟩
theorem ok_PInit (W : WdC w K mg base T CP CB CT fI) : ∃ fP fd, Mk K CP fP ∧ Binds K fd ["self", "modules", "uses"] [] ∧ FnOk P w K mg base CX0 12 fP fd ["self", "modules", "uses"] (spPInit K T CP) := by
  obtain ⟨hat, cl, ⟨fP, fd, M, F⟩, no⟩ := W.prog
  have no1 : NoAttr K CP "places" := no _ (by simp)
  have no2 : NoAttr K CP "links" := no _ (by simp)
  have no3 : NoAttr K CP "heads" := no _ (by simp)
  have D_parts_of := ok_parts_of (P := P) (w := w) (base := base) (T := T) W.toWdA.toWdL.toWd
  have D_program_error := ok_program_error (P := P) (w := w) (base := base) (T := T) W.toWdA.toWdL.toWd
  refine ⟨fP, fd, M, F.bindsN fun _ _ _ _ _ _ us hl => match us, hl with | [_, _, _], _ => rfl, F.ok sc_Program___init__ (spi_len fun _ => rfl) fun cdv A outer s H vs Q E hr h => ?_⟩
  have nd := sc_Program___init__.nd
  have hu64 := hr.units
  have hu1 := hu_of hr
  have W := W.toWdA.toWdL.toWd
  refine ⟨_, PSs.nox ((pss_cons (ps_set (i := 3) nd rfl (by first | exact Or.inl rfl | exact Or.inr rfl) (pe_callD D_program_error (hr.mono (by decide)) rfl (pa_cons (pv 1) (pa_cons (pv 2) pa_nil))))
    (pss_cons (ps_if (pt_cmp (pc_notN (pv 3)))
    (pss_one ps_never)
    pss_nil)
    (pss_cons (ps_fld (pv 0) (pe_callTy ((cr_tupK (K := K) rfl)) rfl W.b_tuple boot_tuple (pa_cons (pe_callB (cr_sortK (K := K) rfl hu64) rfl W.b_sorted boot_sorted (pa_cons (pv 1) pa_nil)) pa_nil)) rfl)
    (pss_cons (ps_fld (pv 0) (pe_callTy (cr_tupK (K := K) rfl) rfl W.b_tuple boot_tuple (pa_cons (pe_callB (cr_sortK (K := K) rfl hu64) rfl W.b_sorted boot_sorted (pa_cons (pv 2) pa_nil)) pa_nil)) rfl)
    (pss_one (ps_fld (pv 0) (pe_callD D_parts_of (hr.mono (by decide)) rfl (pa_cons (pv 1) pa_nil)) rfl))))))), sp_goI (fun H0 B0 x dx i hp => ?_) h⟩
  obtain ⟨ms, us⟩ := i
  have hp : ProgOk ms us := hp
  have kn2 : Str.ofString "links" ∉ [Str.ofString "places"] := by decide +kernel
  have kn3 : Str.ofString "heads" ∉ [Str.ofString "places", Str.ofString "links"] := by decide +kernel
  refine ss_seq <| ss_set <| ee_call rfl rfl <| ea_cons <| ee_var rfl <| ea_cons <| ee_var rfl <| ea_nil ⟨(ms, us), rfl, ⟨hp.m, hp.u⟩, fun y ey => ?_⟩
  rw [ey]
  refine ss_seq <| ss_if <| et_B <| ee_notN <| ee_var rfl ⟨_, rfl, _, rfl, (fun z => by cases z), fun _ => ss_next ?_⟩
  refine ss_seq <| ss_fld (x0 := x) (dx := dx) (fs := []) rfl cl no1 (by simp) (by decide) <| ee_CB <| ea_cons <| ee_CB <| ea_cons <| ee_var rfl <| ea_nil <| rl_sortT (allAlike_map alike_str _) (.inr fun d hd => ?_) (fun d hd => ?_) ?_
  · obtain ⟨z, _, rfl⟩ := List.mem_map.mp hd
    exact ⟨(fun q => by cases q), (fun xs q => by cases q)⟩
  · obtain ⟨z, _, rfl⟩ := List.mem_map.mp hd
    exact shal_str z
  rw [sort_map]
  refine ea_nil <| RL1.rl <| rl_tupL ⟨sE (sortS ms), rfl, rfl, ?_⟩
  refine ss_seq <| ss_fld (x0 := x) (dx := dx) (fs := [] ++ [(Str.ofString "places", sE (sortS ms))]) rfl cl no2 (by show Str.ofString "links" ∉ [Str.ofString "places"]; exact kn2) (by show 1 < 100; decide) <| ee_CB <| ea_cons <| ee_CB <| ea_cons <| ee_var rfl <| ea_nil <| rl_sortT (allAlike_map alike_u _) (.inl fun d hd => ?_) (fun d hd => ?_) ?_
  · obtain ⟨z, _, rfl⟩ := List.mem_map.mp hd
    exact ⟨_, _, rfl⟩
  · obtain ⟨z, _, rfl⟩ := List.mem_map.mp hd
    exact shal_u z
  rw [sort_map]
  refine ea_nil <| RL1.rl <| rl_tupL ⟨usE (sortU us), rfl, rfl, ?_⟩
  refine ss_fld (x0 := x) (dx := dx) (fs := [] ++ [(Str.ofString "places", sE (sortS ms))] ++ [(Str.ofString "links", usE (sortU us))]) rfl cl no3 (by show Str.ofString "heads" ∉ [Str.ofString "places", Str.ofString "links"]; exact kn3) (by show 2 < 100; decide) <| ee_call rfl rfl <| ea_cons <| ee_var rfl <| ea_nil ⟨ms, rfl, ⟨hp.np, hp.n⟩, fun y ⟨ps, ey⟩ => ⟨sE ps, ey, rfl, _, rfl, ps, rfl⟩⟩
theorem ok_BInit (W : WdC w K mg base T CP CB CT fI) : ∃ fP fd, Mk K CB fP ∧ Binds K fd ["self", "rules"] [] ∧ FnOk P w K mg base CX0 12 fP fd ["self", "rules"] (spBInit K T CB) := by
  obtain ⟨hat, cl, ⟨fP, fd, M, F⟩, no⟩ := W.book
  have no1 : NoAttr K CB "held" := no _ (by simp)
  have D_book_error := ok_book_error (P := P) (w := w) (base := base) (T := T) W.toWdA
  refine ⟨fP, fd, M, F.bindsN fun _ _ _ _ _ _ us hl => match us, hl with | [_, _], _ => rfl, F.ok sc_Book___init__ (spi_len fun _ => rfl) fun cdv A outer s H vs Q E hr h => ?_⟩
  have nd := sc_Book___init__.nd
  have hu64 := hr.units
  have hu1 := hu_of hr
  have W := W.toWdA.toWdL.toWd
  refine ⟨_, PSs.nox ((pss_cons (ps_set (i := 2) nd rfl (by first | exact Or.inl rfl | exact Or.inr rfl) (pe_callD D_book_error (hr.mono (by decide)) rfl (pa_cons (pv 1) pa_nil)))
    (pss_cons (ps_if (pt_cmp (pc_notN (pv 2)))
    (pss_one ps_never)
    pss_nil)
    (pss_one (ps_fld (pv 0) (pv 1) rfl))))), sp_goI (fun H0 B0 x dx i hp => ?_) h⟩
  refine ss_seq <| ss_set <| ee_call rfl rfl <| ea_cons <| ee_var rfl <| ea_nil ⟨i, rfl, hp, fun y ey => ?_⟩
  rw [ey]
  refine ss_seq <| ss_if <| et_B <| ee_notN <| ee_var rfl ⟨_, rfl, _, rfl, (fun z => by cases z), fun _ => ss_next ?_⟩
  exact ss_fld (x0 := x) (dx := dx) (fs := []) rfl cl no1 (by simp) (by decide) <| ee_var rfl ⟨rulesE i, rfl, rfl, _, rfl, rfl⟩
end
end My
end P31_
section P32_
set_option maxHeartbeats 1000000
namespace My
open PySem PySem.Spec PyProof.Rows L2 LamX
/-- what fewest_cuts tells -/
structure ToldOk (rs : List Rule) (ms : List Str) (us S : List Use) : Prop where
  n4 : S.length ≤ 4
  row : RowOk us S.length S
  min : Min rs ms us S.length
  kept : ¬ brkAny rs ms (wo us S)
  first : ∀ S', Good rs ms us S.length S' → Srt S' → PySem.W.dataLe false usE S S' = true
theorem wo_mem {us S S' : List Use} (h : ∀ u, u ∈ S ↔ u ∈ S') : wo us S = wo us S' := by
  unfold wo
  apply List.filter_congr
  intro u _
  rw [decide_eq_decide.mpr (h u)]
theorem dle_refl (S : List Use) : PySem.W.dataLe false usE S S = true := by
  have := (le_tot usE).total S S
  simpa using this
theorem keptB_iff {rs : List Rule} {ms : List Str} {us c : List Use} : keptB rs ms us c = true ↔ ¬ brkAny rs ms (wo us c) := by
  unfold keptB
  simp
/-- a good set is among the rows -/
theorem RowsI.hit {rs : List Rule} {ms : List Str} {us : List Use} {n : Nat} {rows : List (List Use)} (h : RowsI rs ms us n n rows) (m : Min rs ms us n) {S : List Use} (g : Good rs ms us n S) : ∃ c ∈ rows, c.Perm S ∧ keptB rs ms us c = true := by
  obtain ⟨c, hc, hs⟩ := h.all m S g
  have r := h.ok c hc
  have p : c.Perm S := by
    refine (List.perm_ext_iff_of_nodup r.nd g.nd).mpr fun u => ⟨hs u, fun hu => ?_⟩
    apply Classical.byContradiction
    intro hn
    have := nodup_len (l := u :: c) (m := S) (List.nodup_cons.mpr ⟨hn, r.nd⟩) fun v hv => by
      rcases List.mem_cons.mp hv with q | q
      · rw [q]; exact hu
      · exact hs v q
    rw [List.length_cons, r.len, g.len] at this
    omega
  refine ⟨c, hc, p, keptB_iff.mpr ?_⟩
  rw [wo_mem fun u => p.mem_iff]
  exact g.kept
theorem RowsI.next {rs : List Rule} {ms : List Str} {us : List Use} {n : Nat} {rows : List (List Use)} (h : RowsI rs ms us n n rows) (m : Min rs ms us n) (e : rows.filter (keptB rs ms us) = []) : Min rs ms us (n + 1) := fun S hl hs hn => by
  by_cases q : S.length < n
  · exact m S q hs hn
  · apply Classical.byContradiction
    intro nb
    obtain ⟨c, hc, _, hk⟩ := h.hit m ⟨hn, by omega, hs, nb⟩
    have : c ∈ rows.filter (keptB rs ms us) := List.mem_filter.mpr ⟨hc, hk⟩
    rw [e] at this
    cases this
theorem RowsI.told {rs : List Rule} {ms : List Str} {us : List Use} {n : Nat} {rows r : List (List Use)} {S : List Use} (h : RowsI rs ms us n n rows) (m : Min rs ms us n) (hn : n ≤ 4) (e : rows.filter (keptB rs ms us) = S :: r) : ToldOk rs ms us S := by
  have hS : S ∈ rows.filter (keptB rs ms us) := by rw [e]; simp
  obtain ⟨h1, h2⟩ := List.mem_filter.mp hS
  have ro := h.ok S h1
  have hl := ro.len
  refine ⟨by omega, by rw [hl]; exact ro, by rw [hl]; exact m, keptB_iff.mp h2, fun S' g s => ?_⟩
  rw [hl] at g
  obtain ⟨c, hc, p, hk⟩ := h.hit m g
  have ec : c = S' := srt_eq (h.ok c hc).srt s p
  subst ec
  have hc2 : c ∈ rows.filter (keptB rs ms us) := List.mem_filter.mpr ⟨hc, hk⟩
  have pw : (rows.filter (keptB rs ms us)).Pairwise fun a b => PySem.W.dataLe false usE a b = true := List.Pairwise.sublist List.filter_sublist h.srt
  rw [e] at hc2 pw
  rcases List.mem_cons.mp hc2 with q | q
  · rw [q]; exact dle_refl S
  · exact (List.pairwise_cons.mp pw).1 c q
abbrev spFew (K : PySem.W.Frag) (T : List (Addr × Str)) (CP CB CT : Addr) : Sp := SpX K T CT (fun i : List Rule × List Str × List Use × List Str => [dObj K CP (progF i.2.1 i.2.2.1 i.2.2.2), dObj K CB (bookF i.1), dI 4]) (fun i => SmallOk i.2.1 i.2.2.1 ∧ BookOk i.1)
  (fun i x => ∃ S, x = .val (usE S) ∧ ToldOk i.1 i.2.1 i.2.2.1 S) (fun i => Min i.1 i.2.1 i.2.2.1 5)
section
variable {P : Program} {w : World} {K : PySem.W.Frag} {mg : Str → Option Value} {base : Heap} {T : List (Addr × Str)} {CP CB CT fI : Addr}
theorem sc_Program_modules : FnScope ["self"] ["self"] (defScope sProgramModules) := ⟨rfl, rfl, rfl, by decide +kernel, rfl, by decide +kernel, by decide +kernel⟩
theorem sc_Program_uses : FnScope ["self"] ["self"] (defScope sProgramUses) := ⟨rfl, rfl, rfl, by decide +kernel, rfl, by decide +kernel, by decide +kernel⟩
theorem sc_Book_rules : FnScope ["self"] ["self"] (defScope sBookRules) := ⟨rfl, rfl, rfl, by decide +kernel, rfl, by decide +kernel, by decide +kernel⟩
theorem sc_fewest_cuts : FnScope ["program", "book", "most", "number", "found"] ["program", "book", "most"] (defScope sFewestCuts) := ⟨rfl, rfl, rfl, by decide +kernel, rfl, by decide +kernel, by decide +kernel⟩
theorem get_raw {f : Str} {C : Addr} {vs : List V} {H : Hp} {Q : L2.VK} {E : XK} (cl : Cls K C) (no : NoAttr K C f) (h : getSp C f vs H Q E) : (tRet (tFld K (tVar 0) f)) { nx := fun _ H' => Q .non H', rt := Q } (L2.start ["self"] vs) H := by
  obtain ⟨a, dx, fs, v, e, ea, l, q⟩ := h
  subst e
  exact ⟨.ref a, rfl, a, C, dx, fs, v, rfl, ea, cl, no, l, q⟩
theorem get_len {f : Str} {C : Addr} : ∀ vs H Q E, getSp C f vs H Q E → vs.length = 1 := fun vs H Q E ⟨a, dx, fs, v, e, _⟩ => by rw [e]; rfl
theorem ok_gmod (W : WdC w K mg base T CP CB CT fI) : ∃ p g fd, PropOf K CP "modules" p g ∧ Binds K fd ["self"] [] ∧ FnOk P w K mg base CX0 1 g fd ["self"] (getSp CP "places") := by
  obtain ⟨p, g, fd, hp, F⟩ := W.pmod
  refine ⟨p, g, fd, hp, F.bindsN fun _ _ _ _ _ _ us hl => match us, hl with | [_], _ => rfl, F.ok sc_Program_modules get_len fun cdv A outer s H vs Q E hr h => ?_⟩
  exact ⟨_, PSs.nox ((pss_one (ps_ret (pe_fld (pv 0) rfl)))), get_raw W.prog.cl (W.prog.no _ (by simp)) h⟩
theorem ok_guse (W : WdC w K mg base T CP CB CT fI) : ∃ p g fd, PropOf K CP "uses" p g ∧ Binds K fd ["self"] [] ∧ FnOk P w K mg base CX0 1 g fd ["self"] (getSp CP "links") := by
  obtain ⟨p, g, fd, hp, F⟩ := W.puse
  refine ⟨p, g, fd, hp, F.bindsN fun _ _ _ _ _ _ us hl => match us, hl with | [_], _ => rfl, F.ok sc_Program_uses get_len fun cdv A outer s H vs Q E hr h => ?_⟩
  exact ⟨_, PSs.nox ((pss_one (ps_ret (pe_fld (pv 0) rfl)))), get_raw W.prog.cl (W.prog.no _ (by simp)) h⟩
theorem ok_grul (W : WdC w K mg base T CP CB CT fI) : ∃ p g fd, PropOf K CB "rules" p g ∧ Binds K fd ["self"] [] ∧ FnOk P w K mg base CX0 1 g fd ["self"] (getSp CB "held") := by
  obtain ⟨p, g, fd, hp, F⟩ := W.brul
  refine ⟨p, g, fd, hp, F.bindsN fun _ _ _ _ _ _ us hl => match us, hl with | [_], _ => rfl, F.ok sc_Book_rules get_len fun cdv A outer s H vs Q E hr h => ?_⟩
  exact ⟨_, PSs.nox ((pss_one (ps_ret (pe_fld (pv 0) rfl)))), get_raw W.book.cl (W.book.no _ (by simp)) h⟩
theorem ok_fewest_cuts (W : WdC w K mg base T CP CB CT fI) : ∃ f fd ds, mg "fewest_cuts" = some (.ref f) ∧ PySem.W.keepIn K (.ref f) = true ∧ Vals [.int 4] ds ∧ Binds K fd ["program", "book", "most"] ds ∧ FnOk P w K mg base (L2.CX P w) 13 f fd ["program", "book", "most"] (spFew K T CP CB CT) := by
  obtain ⟨f, fd, hm, F⟩ := W.few
  obtain ⟨pM, gM, fdM, hpM, bM, FM⟩ := ok_gmod (P := P) W
  obtain ⟨pU, gU, fdU, hpU, bU, FU⟩ := ok_guse (P := P) W
  obtain ⟨pR, gR, fdR, hpR, bR, FR⟩ := ok_grul (P := P) W
  have D_cut_sets := ok_cut_sets (P := P) (w := w) (base := base) (T := T) W.toWdA.toWdL
  obtain ⟨ds, hd, hb⟩ := F.binds0 (ps := ["program", "book", "most"]) 2 (by simp) rfl fun D doc pm an cdv ct us ks h1 h2 => by
    match us, ks, h1, h2 with
    | [a, b], [k], _, _ => exact ⟨_, _, _, _, _, _, rfl, rfl, rfl⟩
  refine ⟨f, fd, ds, hm, F.kp, hd, hb, F.ok sc_fewest_cuts (spx_len fun _ => rfl) fun cdv A outer s H vs Q E hr h => ?_⟩
  have nd := sc_fewest_cuts.nd
  have hu64 := hr.units
  have hu1 := hu_of hr
  have b_range := W.b_range
  refine ⟨_, (pss_cons (PS.nox' (ps_for PassesOwn.never rfl (pi_range1 rfl W.b_range (pa_cons (pe_op (op_addK (K := K) rfl) (pv 2) pe_int) pa_nil)) (pg_name (i := 3) nd rfl (by first | exact Or.inl rfl | exact Or.inr rfl))
    (pss_cons (ps_set (i := 4) nd rfl (by first | exact Or.inl rfl | exact Or.inr rfl) (pe_callD D_cut_sets (hr.mono (by decide)) rfl (pa_cons (pe_prop (pv 1) W.book.cl hpR FR (hr.mono (by decide)) bR .nil pass0 rfl) (pa_cons (pe_prop (pv 0) W.prog.cl hpM FM (hr.mono (by decide)) bM .nil pass0 rfl) (pa_cons (pe_prop (pv 0) W.prog.cl hpU FU (hr.mono (by decide)) bU .nil pass0 rfl) (pa_cons (pv 3) pa_nil))))))
    (pss_one (ps_if (pt_cmpR (op_neK (K := K) rfl hu64) (pv 4) (pe_lst pa_nil) (nomark _))
    (pss_one (ps_ret (pe_ix (ix_seqK (K := K) rfl) (pv 4) pe_int (fun _ _ => rfl))))
    pss_nil)))))
    (pss_one (ps_raiseTm rfl W.tm hr (takes_of rfl rfl rfl rfl) (pa_cons (pv 2) pa_nil)))), sp_goX (fun B0 i hp hE => ?_) h⟩
  obtain ⟨rs, ms, us, ps⟩ := i
  obtain ⟨so, bo⟩ := hp
  dsimp only at so bo hE
  refine ss_seq <| ss_for (vs := [3]) <| wi_rng1 <| ea_cons <| ee_op <| ee_var rfl <| ee_int <| ro_addI <| ea_nil ⟨5, by decide, rfl, fun j Γ1 => (∃ z3 z4, Γ1 = [cV (dObj K CP (progF ms us ps)), cV (dObj K CB (bookF rs)), cV (dI 4), z3, z4]) ∧ Min rs ms us j,
    ⟨⟨_, _, rfl⟩, fun S hl _ _ => by omega⟩, fun j d Γ1 hd hI => ?_, fun Γ1 hI => ?_⟩
  · obtain ⟨⟨z3, z4, rfl⟩, mn⟩ := hI
    obtain ⟨j', hj', rfl⟩ := map_get hd
    obtain ⟨hjl, e⟩ := List.getElem?_eq_some_iff.mp hj'
    rw [List.getElem_range] at e
    subst e
    rw [List.length_range] at hjl
    refine sg_name (ss_seq <| ss_set <| ee_call rfl rfl <| ea_cons <| ee_prop rfl <| ee_var rfl ⟨bookF rs, rulesE rs, rfl, rfl, ea_cons <| ee_prop rfl <| ee_var rfl ⟨progF ms us ps, sE ms, rfl, rfl, ea_cons <| ee_prop rfl <| ee_var rfl ⟨progF ms us ps, usE us, rfl, rfl, ea_cons <| ee_var rfl <| ea_nil ⟨(rs, ms, us, j), rfl, ⟨so, bo, by show j ≤ 4; omega⟩, fun x ⟨rows, ex, R⟩ => ?_⟩⟩⟩⟩) (by simp)
    subst ex
    refine ss_if <| et_test <| ee_op <| ee_var rfl <| ee_lst <| ea_nil ⟨[], rfl, (by decide), RO1.ro <| ro1_neNil ⟨_, rfl, fun e => ?_, fun e => ss_next ⟨⟨_, _, rfl⟩, R.next mn ?_⟩⟩⟩
    · rw [List.isEmpty_map] at e
      cases e2 : rows.filter (keptB rs ms us) with
      | nil => dsimp only at e; rw [e2] at e; cases e
      | cons S r =>
        have g0 : atI ((S :: r).map usE) 0 = some (usE S) := atI_nat (j := 0) rfl
        exact ss_ret <| ee_op <| ee_var rfl <| ee_int <| ro_ixL g0 ⟨S, rfl, R.told mn (by show j ≤ 4; omega) e2⟩
    · rw [List.isEmpty_map] at e
      dsimp only at e
      cases e2 : rows.filter (keptB rs ms us) with
      | nil => rfl
      | cons S r => rw [e2] at e; cases e
  · obtain ⟨⟨z3, z4, rfl⟩, mn⟩ := hI
    exact ss_raiseTm (hE mn) <| ea_cons <| ee_var rfl <| ea_nil ⟨_, rfl⟩
end
end My
end P32_
section P33_
set_option maxHeartbeats 1000000
namespace My
open PySem PySem.Spec PyProof.Rows L2 LamX
theorem brkAny_ms {rs : List Rule} {ms ms' : List Str} {us : List Use} (h : ∀ m ∈ ms, m ∈ ms') (b : brkAny rs ms us) : brkAny rs ms' us := by
  obtain ⟨r, hr, b⟩ := b
  refine ⟨r, hr, ?_⟩
  unfold brk at b ⊢
  split at b
  · rename_i e
    rw [if_pos e]; exact b
  · rename_i e
    rw [if_neg e]
    split at b
    · rename_i e2
      rw [if_pos e2]
      obtain ⟨a, ha, c, hc, r⟩ := b
      exact ⟨a, h a ha, c, h c hc, r⟩
    · rename_i e2
      rw [if_neg e2]; exact b
theorem brk_both {rs : List Rule} {ms ms' : List Str} {us us' : List Use} (pm : ms'.Perm ms) (pu : us'.Perm us) {S : List Use} : brkAny rs ms' (wo us' S) ↔ brkAny rs ms (wo us S) :=
  ⟨fun b => brkAny_ms (fun m hm => pm.mem_iff.mp hm) (brkAny_mono (fun u hu => mem_wo.mpr ⟨pu.mem_iff.mp (mem_wo.mp hu).1, (mem_wo.mp hu).2⟩) b),
    fun b => brkAny_ms (fun m hm => pm.mem_iff.mpr hm) (brkAny_mono (fun u hu => mem_wo.mpr ⟨pu.mem_iff.mpr (mem_wo.mp hu).1, (mem_wo.mp hu).2⟩) b)⟩
theorem told_right {rs : List Rule} {ms ms' : List Str} {us us' S : List Use} (pm : ms'.Perm ms) (pu : us'.Perm us) (t : ToldOk rs ms' us' S) : RightOk rs ms us S := by
  refine ⟨⟨t.row.nd, fun u hu => pu.mem_iff.mp (t.row.sub u hu), t.row.srt, fun b => t.kept ((brk_both pm pu).mpr b)⟩, fun j hj => ?_⟩
  have sb := take_drop_perm (l := S) (j := j)
  refine (brk_both pm pu).mp (t.min _ ?_ (fun u hu => t.row.sub u (sb.subset hu)) (List.Nodup.sublist sb t.row.nd))
  rw [List.length_append, List.length_take, List.length_drop]
  omega
theorem cuts_many {rs : List Rule} {ms ms' : List Str} {us us' S : List Use} (pm : ms'.Perm ms) (pu : us'.Perm us) {n : Nat} (m : Min rs ms' us' n) (c : CutsOk rs ms us S) : n ≤ S.length := by
  apply Classical.byContradiction
  intro h
  exact c.kept ((brk_both pm pu).mp (m S (by omega) (fun u hu => pu.mem_iff.mpr (c.sub u hu)) c.nd))
def lenE (S : List Use) : PyData := .tuple [.int (S.length : Nat), usE S]
theorem len_alike (S S' : List Use) : PySem.W.alike (lenE S) (lenE S') = true :=
  alike_pE (f := fun n : Nat => PyData.int (n : Int)) (g := usE) (fun a b => by simp [PySem.W.alike]) alike_us (S.length, S) (S'.length, S')
theorem len_lt {S S' : List Use} (h : S.length < S'.length ∨ (S.length = S'.length ∧ PySem.W.dataLe false usE S S' = true)) : PySem.W.dataLt (lenE S') (lenE S) = false := by
  show PySem.W.dataLt (.tuple [.int _, usE S']) (.tuple [.int _, usE S]) = false
  rw [PySem.W.dataLt_tuple]
  rcases h with h | ⟨h, h2⟩
  · have e : PyData.eqv (.int (S'.length : Nat)) (.int (S.length : Nat)) = false := by rw [eqe_int]; exact decide_eq_false (by omega)
    rw [PySem.W.dataLt_all_no (by simp [PySem.W.alike]) e, PySem.W.dataLt_int]
    exact decide_eq_false (by omega)
  · have e : PyData.eqv (.int (S'.length : Nat)) (.int (S.length : Nat)) = true := by rw [eqe_int]; exact decide_eq_true (by omega)
    rw [PySem.W.dataLt_all_yes (by simp [PySem.W.alike]) e]
    by_cases q : S' = S
    · rw [q]; exact lex_irrefl _
    · have e2 : PyData.eqv (usE S') (usE S) = false := by rw [eqe_us]; exact decide_eq_false q
      rw [PySem.W.dataLt_all_no (alike_us _ _) e2]
      have h2 : (!PySem.W.dataLt (usE S') (usE S)) = true := h2
      rwa [Bool.not_eq_true'] at h2
theorem told_least {rs : List Rule} {ms ms' : List Str} {us us' S S' : List Use} (pm : ms'.Perm ms) (pu : us'.Perm us) (t : ToldOk rs ms' us' S) (c : CutsOk rs ms us S') : PySem.W.dataLt (lenE S') (lenE S) = false := by
  have h := cuts_many pm pu t.min c
  refine len_lt ?_
  by_cases q : S.length < S'.length
  · exact .inl q
  · refine .inr ⟨by omega, t.first S' ⟨c.nd, by omega, fun u hu => pu.mem_iff.mpr (c.sub u hu), fun b => c.kept ((brk_both pm pu).mp b)⟩ c.srt⟩
theorem sortS_perm (l : List Str) : (sortS l).Perm l := List.mergeSort_perm _ _
theorem CaseD.prog {ms : List Str} {us : List Use} {rs : List Rule} (h : CaseD ms us rs) : ProgOk ms us :=
  ⟨⟨fun m hm => ((h.np m hm).mono (by decide)).path, h.nov, h.mlen⟩, ⟨h.und, h.umem, Nat.le_trans h.ulen (by decide)⟩, fun m hm => (h.np m hm).mono (by decide), h.parts⟩
theorem CaseD.small {ms : List Str} {us : List Use} {rs : List Rule} (h : CaseD ms us rs) : SmallOk (sortS ms) (sortU us) := by
  have p1 := sortS_perm ms
  have p2 := sortU_perm us
  have h1 := h.mlen
  have h2 := h.ulen
  refine ⟨⟨by rw [p1.length_eq]; omega, by rw [p2.length_eq]; omega, fun m hm => (h.np m (p1.mem_iff.mp hm)).short (by decide), fun u hu => ?_⟩, by rw [p2.length_eq]; exact h2⟩
  obtain ⟨q1, q2, _⟩ := h.umem u (p2.mem_iff.mp hu)
  exact ⟨p1.mem_iff.mpr q1, p1.mem_iff.mpr q2⟩
abbrev spTold (K : PySem.W.Frag) (T : List (Addr × Str)) (CP CB : Addr) : Sp := SpI K T (fun i : List Rule × List Str × List Use × List Str => [dObj K CP (progF i.2.1 i.2.2.1 i.2.2.2), dObj K CB (bookF i.1)]) (fun i => SmallOk i.2.1 i.2.2.1 ∧ BookOk i.1)
  (fun i x => (∃ S, x = .val (usE S) ∧ ToldOk i.1 i.2.1 i.2.2.1 S) ∨ (x = dN ∧ Min i.1 i.2.1 i.2.2.1 5))
abbrev spAll (K : PySem.W.Frag) (T : List (Addr × Str)) : Sp := SpR K T (fun i : List Str × List Use × List Rule => [.val (lsE i.1), .val (luE i.2.1), .val (rulesE i.2.2)]) (fun i => CaseD i.1 i.2.1 i.2.2) (fun _ => 100) (fun i x => x = dB true)
section
variable {P : Program} {w : World} {K : PySem.W.Frag} {mg : Str → Option Value} {base : Heap} {T : List (Addr × Str)} {CP CB CT fI : Addr}
def tToldBody (K : PySem.W.Frag) (T : List (Addr × Str)) (CP CB CT : Addr) : WX → TS := fun W => tAsg (tCallSD (spFew K T CP CB CT) [.int 4] (WE W) (tCons (tVar 0) (tCons (tVar 1) tNil))) (gName 2)
theorem ss_told {c : Ctx} {Γ : Env'} {Q : Post} (hK : c.K = K) (hT : c.T = T) (te : PySem.W.exmOne K (.ref CT) (.ref CT) = some true) {rs : List Rule} {ms : List Str} {us : List Use} {ps : List Str} (h0 : Γ[0]? = some (cV (dObj K CP (progF ms us ps)))) (h1 : Γ[1]? = some (cV (dObj K CB (bookF rs)))) (so : SmallOk ms us) (bo : BookOk rs)
    (good : ∀ S, ToldOk rs ms us S → Q.nx (Γ.set 2 (cV (.val (usE S))))) (bad : Min rs ms us 5 → Q.nx (Γ.set 2 (cV dN))) :
    SS c (fun D σ H => tToldBody K T CP CB CT (wOnly K (.ref CT) (fun a cls d => tAsg (tC .non) (gName 2)) (fun _ _ _ _ => False) D) D σ H) Γ Q := fun σ B H D C E n r b k => by
  subst hK hT
  obtain ⟨v0, hv0, d0⟩ := env_dat E h0
  obtain ⟨v1, hv1, d1⟩ := env_dat E h1
  refine ⟨v0, hv0, v1, hv1, B, (rs, ms, us, ps), C.sub, C.tab, .cons d0 (.cons d1 (.cons (Dp.int 4) .nil)), ⟨so, bo⟩, fun v H1 x ex tab d ⟨S, exx, t⟩ => ?_, fun hm d H1 ex tab => ?_⟩
  · subst exx
    have st := step_call C ex tab
    exact n _ _ _ _ st.cur st.b ((E.step st).set (x := .val (usE S)) d) (good S t)
  · refine ⟨true, te, fun _ a _ => ?_, fun z => by cases z⟩
    have st := step_call C ex tab
    exact n _ _ _ _ st.cur st.b ((E.step st).set (x := dN) Dp.non) (bad hm)
theorem sc__law_told : FnScope ["_law_program", "_law_book", "_law_found"] ["_law_program", "_law_book"] (defScope sLawTold) := ⟨rfl, rfl, rfl, by decide +kernel, rfl, by decide +kernel, by decide +kernel⟩
theorem ok__law_told (W : WdC w K mg base T CP CB CT fI) : DefOk P w K mg base "_law_told" ["_law_program", "_law_book"] 14 (spTold K T CP CB) := by
  obtain ⟨f, fd, hm, F⟩ := W.f__law_told
  obtain ⟨fF, fdF, ds, hmF, kF, dF, bF, FF⟩ := ok_fewest_cuts (P := P) W
  have gC := W.tm.gC
  refine ⟨f, fd, hm, F.kp, F.bindsN fun _ _ _ _ _ _ us hl => match us, hl with | [_, _], _ => rfl, F.ok sc__law_told (sp_len fun _ => rfl) fun cdv A outer s H vs Q E hr h => ?_⟩
  have nd := sc__law_told.nd
  refine ⟨_, (pss_cons (PS.nox' (ps_set (i := 2) nd rfl (by first | exact Or.inl rfl | exact Or.inr rfl) pe_non)) (pss_cons (ps_try_only (tb := tToldBody K T CP CB CT) (ts := fun a cls d => tAsg (tC .non) (gName 2)) (Wout := fun _ _ _ _ => False) rfl rfl ⟨rfl, by decide, .inl gC⟩ L2.takes0
      (fun W pn xe tk _ => pss_one (ps_set (i := 2) nd rfl (by first | exact Or.inl rfl | exact Or.inr rfl) (by exact (pe_callSD FF (hr.mono (by decide)) rfl hmF kF bF dF (fun σ => passAt tk σ) (by exact (pa_cons (pv 0) (pa_cons (pv 1) pa_nil)))))))
      (fun a oe cls d pn _ _ => pss_one (ps_set (i := 2) nd rfl (by first | exact Or.inl rfl | exact Or.inr rfl) pe_non))) (pss_one (ps_ret (pv 2))))), sp_go (fun H0 B0 i hp => ?_) h⟩
  obtain ⟨rs, ms, us, ps⟩ := i
  obtain ⟨so, bo⟩ := hp
  exact ss_seq <| ss_set <| ee_non <| ss_seq <| ss_told rfl rfl W.tm.te (rs := rs) (ms := ms) (us := us) (ps := ps) rfl rfl so bo (fun S t => ss_ret <| ee_var rfl <| .inl ⟨S, rfl, t⟩) (fun m => ss_ret <| ee_var rfl <| .inr ⟨rfl, m⟩)
end
end My
end P33_
section P34_
set_option maxHeartbeats 1000000
namespace My
open PySem PySem.Spec PyProof.Rows L2 LamX
section
variable {P : Program} {w : World} {K : PySem.W.Frag} {mg : Str → Option Value} {base : Heap} {T : List (Addr × Str)} {CP CB CT fI : Addr}
theorem sc__law_all_right : FnScope ["_law_reel_here", "_law_modules_here", "_law_uses_here", "_law_some", "_law_told_here", "_law_again", "_law_cuts"] ["_law_reel_here", "_law_modules_here", "_law_uses_here", "_law_some"] (defScope sLawAllRight) := ⟨rfl, rfl, rfl, by decide +kernel, rfl, by decide +kernel, by decide +kernel⟩
theorem ok__law_all_right (W : WdC w K mg base T CP CB CT fI) : DefOk P w K mg base "_law_all_right" ["_law_reel_here", "_law_modules_here", "_law_uses_here", "_law_some"] 15 (spAll K T) := by
  obtain ⟨f, fd, hm, F⟩ := W.f__law_all_right
  have D__law_cut_down := ok__law_cut_down (P := P) (w := w) (base := base) (T := T) W.toWdA.toWdL.toWd
  have D__law_right := ok__law_right (P := P) (w := w) (base := base) (T := T) W.toWdA.toWdL.toWd
  have D__law_told := ok__law_told (P := P) (w := w) (base := base) (T := T) W
  obtain ⟨fP, fdP, MkP, bP, FP⟩ := ok_PInit (P := P) W
  obtain ⟨fB, fdB, MkB, bB, FB⟩ := ok_BInit (P := P) W
  have hmP := W.prog.at_
  have hmB := W.book.at_
  refine ⟨f, fd, hm, F.kp, F.bindsN fun _ _ _ _ _ _ us hl => match us, hl with | [_, _, _, _], _ => rfl, F.ok sc__law_all_right (spr_len fun _ => rfl) fun cdv A outer s H vs Q E hr h => ?_⟩
  have nd := sc__law_all_right.nd
  have hu64 := hr.units
  have hu1 := hu_of hr
  refine ⟨_, PSs.nox ((pss_cons (ps_set (i := 4) nd rfl (by first | exact Or.inl rfl | exact Or.inr rfl) (pe_callD D__law_told (hr.mono (by decide)) rfl (pa_cons (pe_make MkP FP (hr.mono (by decide)) rfl hmP bP .nil pass0 (pa_cons (pe_callTy (cr_tupK (K := K) rfl) rfl W.b_tuple boot_tuple (pa_cons (pv 1) pa_nil)) (pa_cons (pe_callTy (cr_tupK (K := K) rfl) rfl W.b_tuple boot_tuple (pa_cons (pv 2) pa_nil)) pa_nil))) (pa_cons (pe_make MkB FB (hr.mono (by decide)) rfl hmB bB .nil pass0 (pa_cons (pv 3) pa_nil)) pa_nil))))
    (pss_cons (ps_if (PW.pt (pw_and (pt_cmp (pc_notN (pv 4))) (pw_and1 (pt_not (pt_val (pe_callD D__law_right (hr.mono (by decide)) rfl (pa_cons (pv 1) (pa_cons (pv 2) (pa_cons (pv 3) (pa_cons (pv 4) pa_nil))))))))))
    (pss_one (ps_ret pe_bl))
    pss_nil)
    (pss_cons (ps_for PassesOwn.never rfl (pi_range1 rfl W.b_range (pa_cons pe_int pa_nil)) (pg_name (i := 5) nd rfl (by first | exact Or.inl rfl | exact Or.inr rfl))
    (pss_cons (ps_set (i := 6) nd rfl (by first | exact Or.inl rfl | exact Or.inr rfl) (pe_callD D__law_cut_down (hr.mono (by decide)) rfl (pa_cons (pv 0) (pa_cons (pv 2) (pa_cons (pv 1) (pa_cons (pv 3) pa_nil))))))
    (pss_cons (ps_if (PW.pt (pw_and (pt_cmp (pc_isN (pv 4))) (pw_and1 (pt_cmpR op_lt (pe_callB (cr_lenK (K := K) rfl) rfl W.b_len boot_len (pa_cons (pv 6) pa_nil)) pe_int (nomark _)))))
    (pss_one (ps_ret pe_bl))
    pss_nil)
    (pss_one (ps_if (PW.pt (pw_and (pt_cmp (pc_notN (pv 4))) (pw_and1 (pt_cmpR (op_ltK (K := K) rfl hu64) (pe_tup (pa_cons (pe_callB (cr_lenK (K := K) rfl) rfl W.b_len boot_len (pa_cons (pv 6) pa_nil)) (pa_cons (pv 6) pa_nil))) (pe_tup (pa_cons (pe_callB (cr_lenK (K := K) rfl) rfl W.b_len boot_len (pa_cons (pv 4) pa_nil)) (pa_cons (pv 4) pa_nil))) (nomark _)))))
    (pss_one (ps_ret pe_bl))
    pss_nil)))))
    (pss_one (ps_ret pe_bl)))))), sp_goR (fun H0 B0 rg sm i k hp => ?_) h⟩
  obtain ⟨ms, us, rs⟩ := i
  have hp : CaseD ms us rs := hp
  have p1 := sortS_perm ms
  have p2 := sortU_perm us
  refine ss_seq <| ss_set <| ee_call rfl rfl <| ea_cons <| ee_make rfl rfl <| ea_cons <| ee_CB <| ea_cons <| ee_var rfl <| ea_nil <| RL1.rl <| rl_tupL <| ea_cons <| ee_CB <| ea_cons <| ee_var rfl <| ea_nil <| RL1.rl <| rl_tupL <| ea_nil ⟨(ms, us), rfl, hp.prog, fun fs ⟨ps, efs⟩ => ?_⟩
  subst efs
  refine ea_cons <| ee_make rfl rfl <| ea_cons <| ee_var rfl <| ea_nil ⟨rs, rfl, ⟨hp.rok, hp.rlen, hp.rno⟩, fun fs efs => ?_⟩
  subst efs
  refine ea_nil ⟨(rs, sortS ms, sortU us, ps), rfl, ⟨hp.small, hp.book⟩, fun x ex => ?_⟩
  rcases ex with ⟨S, ex, t⟩ | ⟨ex, m⟩
  · subst ex
    dsimp only at t
    refine ss_seq <| ss_if <| et_and <| et_B <| ee_notN <| ee_var rfl ⟨_, rfl, _, rfl, (fun _ => et_not <| et_B <| ee_call rfl rfl <| ea_cons <| ee_var rfl <| ea_cons <| ee_var rfl <| ea_cons <| ee_var rfl <| ea_cons <| ee_var rfl <| ea_nil ⟨(ms, us, rs, S), rfl, ⟨hp, told_right p1 p2 t⟩, fun x ex => ⟨_, ex, (fun z => by cases z), fun _ => ss_next ?_⟩⟩), (fun z => by cases z)⟩
    refine ss_seq <| ss_for (vs := [5]) <| wi_rng1 <| ea_cons <| ee_int <| ea_nil ⟨4, by decide, rfl, fun j Γ1 => ∃ z5 z6, Γ1 = [.reel (k + 25 * (4 - j)), cV (.val (lsE ms)), cV (.val (luE us)), cV (.val (rulesE rs)), cV (.val (usE S)), z5, z6], ⟨_, _, rfl⟩, fun j d Γ1 hd hI => ?_, fun Γ1 hI => ?_⟩
    · obtain ⟨z5, z6, rfl⟩ := hI
      obtain ⟨j', hj', rfl⟩ := map_get hd
      obtain ⟨hjl, e⟩ := List.getElem?_eq_some_iff.mp hj'
      rw [List.getElem_range] at e
      subst e
      rw [List.length_range] at hjl
      refine sg_name (ss_seq <| ss_set <| ee_callR rfl rfl (j := 0) rfl <| ea_cons <| ee_var rfl <| ea_cons <| ee_var rfl <| ea_cons <| ee_var rfl <| ea_nil ⟨(ms, us, rs), k + 25 * (4 - (j + 1)), rfl, hp, ⟨_, rfl, by omega⟩, fun x ⟨S', ex, c⟩ => ?_⟩) (by simp)
      subst ex
      dsimp only at c
      refine ss_seq <| ss_if <| et_and <| et_B <| ee_isN <| ee_var rfl ⟨_, rfl, _, rfl, (fun z => by cases z), (fun _ => ⟨(fun z => by cases z), fun _ => ss_next ?_⟩)⟩
      refine ss_if <| et_and <| et_B <| ee_notN <| ee_var rfl ⟨_, rfl, _, rfl, (fun _ => ?_), (fun z => by cases z)⟩
      refine et_test <| ee_op <| ee_tup <| ea_cons <| ee_CB <| ea_cons <| ee_var rfl <| ea_nil <| rl_lenT <| ea_cons <| ee_var rfl <| ea_nil ⟨[.int ((S'.map uE).length : Nat), usE S'], rfl, (by show 2 ≤ 1000000; decide), ee_tup <| ea_cons <| ee_CB <| ea_cons <| ee_var rfl <| ea_nil <| rl_lenT <| ea_cons <| ee_var rfl <| ea_nil ⟨[.int ((S.map uE).length : Nat), usE S], rfl, (by show 2 ≤ 1000000; decide), ?_⟩⟩
      rw [List.length_map, List.length_map]
      refine ro_ltX (d := lenE S') (e := lenE S) (Nat.le_trans (dep_pE (f := fun n : Nat => PyData.int (n : Int)) (g := usE) (n := 3) (fun n => by show PyData.depth (.int _) ≤ _; rw [PyData.depth]; omega) dep_us (S'.length, S')) (by decide)) (len_alike S' S) (fun z => by cases z) ⟨_, rfl, fun e => ?_, fun _ => ss_next ⟨_, _, rfl⟩⟩
      rw [told_least p1 p2 t c] at e
      cases e
    · obtain ⟨z5, z6, rfl⟩ := hI
      exact ss_ret <| ee_bl ⟨rfl, rfl⟩
  · subst ex
    dsimp only at m
    refine ss_seq <| ss_if <| et_and <| et_B <| ee_notN <| ee_var rfl ⟨_, rfl, _, rfl, (fun z => by cases z), (fun _ => ⟨(fun z => by cases z), fun _ => ss_next ?_⟩)⟩
    refine ss_seq <| ss_for (vs := [5]) <| wi_rng1 <| ea_cons <| ee_int <| ea_nil ⟨4, by decide, rfl, fun j Γ1 => ∃ z5 z6, Γ1 = [.reel (k + 25 * (4 - j)), cV (.val (lsE ms)), cV (.val (luE us)), cV (.val (rulesE rs)), cV dN, z5, z6], ⟨_, _, rfl⟩, fun j d Γ1 hd hI => ?_, fun Γ1 hI => ?_⟩
    · obtain ⟨z5, z6, rfl⟩ := hI
      obtain ⟨j', hj', rfl⟩ := map_get hd
      obtain ⟨hjl, e⟩ := List.getElem?_eq_some_iff.mp hj'
      rw [List.getElem_range] at e
      subst e
      rw [List.length_range] at hjl
      refine sg_name (ss_seq <| ss_set <| ee_callR rfl rfl (j := 0) rfl <| ea_cons <| ee_var rfl <| ea_cons <| ee_var rfl <| ea_cons <| ee_var rfl <| ea_nil ⟨(ms, us, rs), k + 25 * (4 - (j + 1)), rfl, hp, ⟨_, rfl, by omega⟩, fun x ⟨S', ex, c⟩ => ?_⟩) (by simp)
      subst ex
      dsimp only at c
      refine ss_seq <| ss_if <| et_and <| et_B <| ee_isN <| ee_var rfl ⟨_, rfl, _, rfl, (fun _ => et_test <| ee_op <| ee_CB <| ea_cons <| ee_var rfl <| ea_nil <| rl_lenT <| ee_int <| ro_lt ⟨_, rfl, fun e => ?_, fun _ => ss_next ?_⟩), (fun z => by cases z)⟩
      · have q := of_decide_eq_true e
        rw [List.length_map] at q
        have := cuts_many p1 p2 m c
        omega
      · exact ss_if <| et_and <| et_B <| ee_notN <| ee_var rfl ⟨_, rfl, _, rfl, (fun z => by cases z), (fun _ => ⟨(fun z => by cases z), fun _ => ss_next ⟨_, _, rfl⟩⟩)⟩
    · obtain ⟨z5, z6, rfl⟩ := hI
      exact ss_ret <| ee_bl ⟨rfl, rfl⟩
end
end My
end P34_
section P35_
set_option maxHeartbeats 1000000
namespace My
open PySem PySem.Spec PyProof.Rows L2 LamX
def SpReel (K : PySem.W.Frag) (T : List (Addr × Str)) : Sp := fun vs H Q _ => ∃ (B : Hp) (ns : List Int), Sub B H ∧ Tabs T H ∧ DatAll K B vs [.val (lE .int ns)] ∧ ns.length ≤ 63 ∧ ∀ (r g sm : Addr) (H1 : Hp) (gs ss : List Int),
  Tabs T H1 → r ≠ g → sm ≠ r → sm ≠ g → H1 r = some (.lst [.ref g, .ref sm, .int ((0 : Nat) : Int)]) → H1 g = some (.lst (gs.map V.int)) → H1 sm = some (.lst (ss.map V.int)) → gs.length ≤ 100 → (∀ i ∈ gs, 0 ≤ i) → ss ≠ [] → ss.length ≤ 100 → (∀ i ∈ ss, 0 ≤ i) → Q (.ref r) H1
def SpLaw (K : PySem.W.Frag) (T : List (Addr × Str)) : Sp := fun vs H Q _ => ∃ (a : Addr) (ns : List Int), vs = [.ref a] ∧ SqL K H a (ns.map V.int) ∧ ns.length ≤ 63 ∧ Tabs T H ∧ ∀ H', Q (.bl true) H'
section
variable {c : Ctx} {Γ : Env'} {P : Dat → Prop}
theorem rl_abs {i : Int} (k : P (dI (if i < 0 then -i else i))) : RL c (fun xs H Q => ∃ i, xs = [.int i] ∧ Q (.int (if i < 0 then -i else i)) H) [dI i] P := fun B H vs C l Q q => by
  cases l with
  | cons d t =>
    cases t
    cases d
    exact ⟨i, rfl, q _ B H (dI _) (Step.refl C) (Dp.int _) k⟩
theorem en_lc' {wi : TI} {g : TG} {tt : TT} {te : TE} {vs : List Nat} {P : List PyData → Env' → Prop} (h : WI c wi Γ fun ds Γ0 => LcD c g tt te vs (fun x Γ1 => ∃ acc, x = dL acc ∧ P acc Γ1) ds Γ0) : EN c (tLc wi g tt te vs) Γ P := by
  refine en_lc fun σ B H C E R0 q => h σ B H C E R0 fun J B1 H1 Γ1 ds s1 w ⟨hz, I, i0, turn, fin⟩ => q J B1 H1 Γ1 ds s1 w ⟨hz, I, i0, turn, fun acc Γ2 hI => ?_⟩
  obtain ⟨acc', e, p⟩ := fin acc Γ2 hI
  cases e
  exact p
theorem sg_triple {i j k : Nat} {d1 d2 d3 : PyData} {vs : List Nat} {N : Env' → Prop} (h : N (((Γ.set i (cV (.val d1))).set j (cV (.val d2))).set k (cV (.val d3)))) (hi : i ∈ vs) (hj : j ∈ vs) (hk : k ∈ vs) : SG c (gTup c.K 3 (gCons (gName i) (gCons (gName j) (gCons (gName k) gNil)))) vs (dT [d1, d2, d3]) Γ N := fun σ B H v C E d Q q => by
  cases d with
  | tup s a => cases a with
    | cons a1 a => cases a with
      | cons a2 a => cases a with
        | cons a3 a =>
          cases a
          refine ⟨_, _, rfl, sqT_mono C.sub.ex s, rfl, _, _, rfl, _, _, rfl, _, _, rfl, rfl, q _ _ (((E.set (x := .val d1) a1).set (x := .val d2) a2).set (x := .val d3) a3) ⟨by rw [List.length_set, List.length_set, List.length_set], fun l hl => ?_⟩ h⟩
          have z1 : i ≠ l := fun e => hl (by rw [← e]; exact hi)
          have z2 : j ≠ l := fun e => hl (by rw [← e]; exact hj)
          have z3 : k ≠ l := fun e => hl (by rw [← e]; exact hk)
          rw [List.getElem?_set_ne z3, List.getElem?_set_ne z2, List.getElem?_set_ne z1, List.getElem?_set_ne z3, List.getElem?_set_ne z2, List.getElem?_set_ne z1]
          exact ⟨rfl, rfl⟩
end
theorem seq_raw {c : Ctx} {Γ : Env'} {t u : TS} {D : Ends} {σ : List (Option V)} {B H : Hp} {M : Env' → Prop} (h : SS c t Γ { nx := M }) (C : Cur c B H) (E : EnvOk c B H σ Γ)
    (k : ∀ σ1 B1 H1 Γ1, Cur c B1 H1 → Ex B B1 → EnvOk c B1 H1 σ1 Γ1 → M Γ1 → u D σ1 H1) : tSeq t u D σ H :=
  h σ B H _ C E k (fun _ _ _ _ _ _ _ _ _ _ z => z.elim) (fun _ _ _ _ _ _ _ z => z.elim) (fun _ _ _ _ _ _ _ z => z.elim)
def absI (i : Int) : Int := if i < 0 then -i else i
theorem absI_nn (i : Int) : 0 ≤ absI i := by unfold absI; split <;> omega
abbrev iE : Int → PyData := PyData.int
theorem dp_ints' {K : PySem.W.Frag} {B : Hp} : ∀ {ws : List V} {l : List Int}, DpAll K B ws (l.map PyData.int) → ws = l.map V.int
  | [], [], _ => rfl
  | _ :: _, [], h => by cases h
  | [], _ :: _, h => by cases h
  | _ :: _, i :: l, .cons h t => by
    cases h
    rw [dp_ints' t]
    rfl
section
variable {P : Program} {w : World} {K : PySem.W.Frag} {mg : Str → Option Value} {base : Heap} {T : List (Addr × Str)} {CP CB CT fI : Addr}
theorem sc__law_reel : FnScope ["_law_script", "_law_great", "_law_number", "_law_small"] ["_law_script"] (defScope sLawReel) := ⟨rfl, rfl, rfl, by decide +kernel, rfl, by decide +kernel, by decide +kernel⟩
theorem ok__law_reel (W : Wd K mg) : DefOk P w K mg base "_law_reel" ["_law_script"] 1 (SpReel K T) := by
  obtain ⟨f, fd, hm, F⟩ := W.f__law_reel
  refine ⟨f, fd, hm, F.kp, F.bindsN fun _ _ _ _ _ _ us hl => match us, hl with | [_], _ => rfl, F.ok sc__law_reel (fun vs H Q E ⟨B, ns, _, _, da, _⟩ => da.length) fun cdv A outer s H vs Q E hr h => ?_⟩
  have nd := sc__law_reel.nd
  have hu64 := hr.units
  have hu1 := hu_of hr
  refine ⟨_, PSs.nox ((pss_cons (ps_setLc (i := 1) (own := [("_law_number", 2)]) rfl nd rfl rfl (sw_true rfl rfl rfl (by decide +kernel)) (pi_listK (K := K) rfl (pe_slice (sl_listK (K := K) rfl) (pv 0) po_none (po_some pe_int))) (blkOk_by (own := [("_law_number", 2)]) (N := ["_law_script", "_law_great", "_law_number", "_law_small"]) (sc := defScope sLawReel) (by decide +kernel)) (fun _ _ _ _ _ => (pg_name (i := 2) nd rfl (by first | exact Or.inl rfl | exact Or.inr rfl))) (fun _ _ _ _ _ => (pts_one (pt_cmpR op_ge (pe_callB (call_abs) rfl W.b_abs boot_abs (pa_cons (pv 2) pa_nil)) (pe_op op_pow pe_int pe_int) (nomark _)))) (fun _ _ _ _ _ => (pe_callB (call_abs) rfl W.b_abs boot_abs (pa_cons (pv 2) pa_nil))))
    (pss_cons (ps_setLc (i := 3) (own := [("_law_number", 2)]) rfl nd rfl rfl (sw_true rfl rfl rfl (by decide +kernel)) (pi_listK (K := K) rfl (pe_slice (sl_listK (K := K) rfl) (pv 0) po_none (po_some pe_int))) (blkOk_by (own := [("_law_number", 2)]) (N := ["_law_script", "_law_great", "_law_number", "_law_small"]) (sc := defScope sLawReel) (by decide +kernel)) (fun _ _ _ _ _ => (pg_name (i := 2) nd rfl (by first | exact Or.inl rfl | exact Or.inr rfl))) (fun _ _ _ _ _ => (pts_one (pt_cmpR op_lt (pe_callB (call_abs) rfl W.b_abs boot_abs (pa_cons (pv 2) pa_nil)) (pe_op op_pow pe_int pe_int) (nomark _)))) (fun _ _ _ _ _ => (pe_op (op_addK (K := K) rfl) (pe_op op_mul pe_int (pe_callB (call_abs) rfl W.b_abs boot_abs (pa_cons (pv 2) pa_nil))) (pe_callTy (call_int1) rfl W.b_int boot_int (pa_cons (pe_cmpR op_lt (pv 2) pe_int (nomark _)) pa_nil)))))
    (pss_one (ps_ret (pe_lst (pa_cons (pv 1) (pa_cons (pe_op (op_addK (K := K) rfl) (pv 3) (pe_lst (pa_cons (pe_op (op_addK (K := K) rfl) (pe_callB (cr_lenK (K := K) rfl) rfl W.b_len boot_len (pa_cons (pv 0) pa_nil)) pe_int) pa_nil))) (pa_cons pe_int pa_nil))))))))), ?_⟩
  obtain ⟨B, ns, sub, tab, da, hns, fin⟩ := h
  let c : Ctx := { K := K, T := T, H0 := H, B0 := B }
  have C : Cur c B H := ⟨sub, Ex.refl _, Ex.refl _, fun a h _ => h, tab, fun a ha => by cases ha⟩
  have E0 := env_start (c := c) (N := ["_law_script", "_law_great", "_law_number", "_law_small"]) (H := H) da
  have bp : ∀ {Q : Dat → Prop}, Q (dI (10 ^ 18)) → RO c (rI CPow fun i j => .int (i ^ j.toNat)) (dI 10) (dI 18) Q := fun {Q} q => ro_intC (C := CPow) (z := dI (10 ^ 18)) ⟨by decide, by decide, by decide⟩ (fun B => Dp.int _) q
  have cut : cutD (ns.map PyData.int) none (some ((63 : Nat) : Int)) = ns.map PyData.int := by
    rw [cutD_map, cutD_to, List.take_of_length_le hns]
  have gl : ∀ (p : Int → Bool) (h : Int → Int), ((ns.filter p).map h).length ≤ 63 := fun p h => by
    rw [List.length_map]
    exact Nat.le_trans (List.length_filter_le _ _) hns
  have gn : ∀ (p : Int → Bool) (h : Int → Int), (∀ j, 0 ≤ h j) → ∀ i ∈ (ns.filter p).map h, 0 ≤ i := fun p h nn i hi => by
    obtain ⟨j, _, rfl⟩ := List.mem_map.mp hi
    exact nn j
  have n2 : ∀ i : Int, 0 ≤ 2 * absI i + (if decide (i < 0) = true then 1 else 0) := fun i => by
    have := absI_nn i
    split <;> omega
  refine seq_raw (M := fun Γ1 => ∃ gs : List Int, Γ1 = [cV (.val (lE .int ns)), .oL (gs.map PyData.int), .unk, .unk] ∧ gs.length ≤ 63 ∧ ∀ i ∈ gs, 0 ≤ i) (ss_setN (by show 1 < 4; decide) <| en_lc' <| wi_list <| ee_sl <| ee_var rfl <| eo_none <| eo_some <| ee_int ⟨_, rfl, RU1.ru <| ru1_sl ⟨ns.map PyData.int, congrArg (fun z => Dat.val (.list z)) cut, lc1f PyData.int PyData.int absI (fun i => decide ((10 ^ 18 : Int) ≤ absI i)) (by omega) (hno_unk rfl) (fun i hi => ?_) ⟨_, rfl, _, rfl, gl _ _, gn _ _ absI_nn⟩⟩⟩) C E0 fun σ1 B1 H1 Γ1 C1 b1 E1 ⟨gs, eΓ, g1, g2⟩ => ?_
  · exact et_test <| ee_op <| ee_CB <| ea_cons <| ee_var rfl <| ea_nil <| rl_abs <| ee_op <| ee_int <| ee_int <| bp <| ro_ge ⟨_, rfl, rfl, rfl, fun _ => ee_CB <| ea_cons <| ee_var rfl <| ea_nil <| rl_abs ⟨rfl, rfl⟩⟩
  subst eΓ
  refine seq_raw (M := fun Γ1 => ∃ ss : List Int, Γ1 = [cV (.val (lE .int ns)), .oL (gs.map PyData.int), .unk, cV (.val (lE .int ss))] ∧ ss.length ≤ 63 ∧ ∀ i ∈ ss, 0 ≤ i) (ss_set <| ee_lc <| wi_list <| ee_sl <| ee_var rfl <| eo_none <| eo_some <| ee_int ⟨_, rfl, RU1.ru <| ru1_sl ⟨ns.map PyData.int, congrArg (fun z => Dat.val (.list z)) cut, lc1f PyData.int PyData.int (fun i => 2 * absI i + (if decide (i < 0) = true then 1 else 0)) (fun i => decide (absI i < (10 ^ 18 : Int))) (by omega) (hno_unk rfl) (fun i hi => ?_) ⟨_, rfl, gl _ _, gn _ _ n2⟩⟩⟩) C1 E1 fun σ2 B2 H2 Γ2 C2 b2 E2 ⟨ss, eΓ, s1, s2⟩ => ?_
  · exact et_test <| ee_op <| ee_CB <| ea_cons <| ee_var rfl <| ea_nil <| rl_abs <| ee_op <| ee_int <| ee_int <| bp <| ro_lt ⟨_, rfl, rfl, rfl, fun _ => ee_op <| ee_op <| ee_int <| ee_CB <| ea_cons <| ee_var rfl <| ea_nil <| rl_abs <| ro_intC (C := CMul) (z := dI (2 * absI i)) (.inl ⟨by decide, by decide⟩) (fun B => Dp.int _) <| ee_CB <| ea_cons <| ee_op <| ee_var rfl <| ee_int <| ro_lt <| ea_nil <| rl_intB <| ro_addI ⟨rfl, rfl⟩⟩
  subst eΓ
  obtain ⟨v0, hv0, d0⟩ := env_dat E2 (i := 0) rfl
  obtain ⟨g, gws, hvg, hHg, hBg, hFg, dg⟩ := env_oL E2 (i := 1) rfl
  obtain ⟨v3, hv3, d3⟩ := env_dat E2 (i := 3) rfl
  have eg := dp_ints' dg
  subst eg
  cases d0 with
  | @lst a0 w0 _ q0 e0 =>
  cases d3 with
  | @lst a3 w3 _ q3 e3 =>
  have ew := dp_ints' e0
  subst ew
  have ew3 := dp_ints' e3
  subst ew3
  have q0' := sqL_mono C2.sub.ex q0
  have q3' := sqL_mono C2.sub.ex q3
  have z1 : (1 : Nat) ≤ sizeLine := len_lit (by decide)
  have z3 : (3 : Nat) ≤ sizeLine := len_lit (by decide)
  have z65 : (65 : Nat) ≤ sizeLine := len_lit (by decide)
  refine ⟨_, hvg, _, hv3, _, hv0, _, _, rfl, .inl ⟨_, q0', rfl⟩, .inl ⟨_, 37, rfl, rfl, z1, fun l hl => ?_⟩⟩
  have exl : Ex H2 (upd H2 l (.lst [.int (((ns.map V.int).length : Nat) + 37)])) := Ex.new hl
  refine .inr (.inr (.inr ⟨a3, l, ss.map V.int, _, rfl, rfl, sqL_mono exl q3', SqL.of upd_same, by rw [List.length_map, List.length_singleton]; omega, fun sm hsm => ?_⟩))
  refine ⟨z3, fun r hr2 => ?_⟩
  have hHl : (upd H2 l (.lst [.int (((ns.map V.int).length : Nat) + 37)])) g = some (.lst (gs.map V.int)) := by rw [upd_ne (ne_of_none hHg hl)]; exact hHg
  have ngs : g ≠ sm := ne_of_none hHl hsm
  have hHs : (upd (upd H2 l (.lst [.int (((ns.map V.int).length : Nat) + 37)])) sm (.lst ((ss ++ [((ns.map V.int).length : Int) + 37]).map V.int))) g = some (.lst (gs.map V.int)) := by rw [upd_ne ngs]; exact hHl
  have e1 : (ss ++ [((ns.map V.int).length : Int) + 37]).map V.int = ss.map V.int ++ [.int (((ns.map V.int).length : Nat) + 37)] := by rw [List.map_append]; rfl
  have hr3 : (upd (upd H2 l (.lst [.int (((ns.map V.int).length : Nat) + 37)])) sm (.lst ((ss ++ [((ns.map V.int).length : Int) + 37]).map V.int))) r = none := by rw [e1]; exact hr2
  have ngr : g ≠ r := ne_of_none hHs hr3
  have nsr : sm ≠ r := ne_of_none (upd_same (H := upd H2 l (.lst [.int (((ns.map V.int).length : Nat) + 37)]))) hr3
  have t3 : Tabs T _ := Tabs.new (o := .lst [.ref g, .ref sm, .int 0]) (Tabs.new (Tabs.new C2.tab hl) hsm) hr2
  refine fin r g sm _ gs (ss ++ [((ns.map V.int).length : Int) + 37]) t3 ngr.symm nsr ngs.symm upd_same ?_ ?_ (by omega) g2 (by simp) (by rw [List.length_append, List.length_singleton]; omega) fun i hi => ?_
  · show (upd _ r _) g = _
    rw [upd_ne ngr, upd_ne ngs]
    exact hHl
  · show (upd _ r _) sm = _
    rw [upd_ne nsr, upd_same, e1]
  · rcases List.mem_append.mp hi with q | q
    · exact s2 i q
    · simp only [List.mem_singleton] at q
      rw [q]
      omega
end
end My
end P35_
section P36_
set_option maxHeartbeats 1000000
namespace My
open PySem PySem.Spec PyProof.Rows L2 LamX
theorem ex_hm_sub {H : Hp} {r g b : Addr} {o : HO} (h : hm H r g b = some o) : H b = some o := by
  have q := hm_of (H := H) (r := r) (g := g) (a := b) (by rw [h]; exact fun z => by cases z)
  rw [hm_ne q.1 q.2] at h
  exact h
theorem seq_asg_raw {te : TE} {u : TS} {i : Nat} {D : Ends} {σ : List (Option V)} {H : Hp} (h : te σ H fun x H1 => u D (σ.set i (some x)) H1) : tSeq (tAsg te (gName i)) u D σ H := h
theorem run_raw {c : Ctx} {Γ : Env'} {t : TS} {D : Ends} {σ : List (Option V)} {B H : Hp} (h : SS c t Γ { rt := fun x _ => x = dB true }) (C : Cur c B H) (E : EnvOk c B H σ Γ) (k : ∀ H', D.rt (.bl true) H') : t D σ H :=
  h σ B H D C E (fun _ _ _ _ _ _ _ z => z.elim) (fun v σ1 B1 H1 x Γ1 _ _ _ d e => by
    subst e
    cases d
    exact k H1) (fun _ _ _ _ _ _ _ z => z.elim) (fun _ _ _ _ _ _ _ z => z.elim)
section
variable {P : Program} {w : World} {K : PySem.W.Frag} {mg : Str → Option Value} {base : Heap} {T : List (Addr × Str)} {CP CB CT fI : Addr}
theorem sc_law : FnScope ["_law_script", "_law_reel_here", "_law_modules_here", "_law_uses_here", "_law_some"] ["_law_script"] (defScope sLaw) := ⟨rfl, rfl, rfl, by decide +kernel, rfl, by decide +kernel, by decide +kernel⟩
theorem ok_law_fn (W : WdC w K mg base T CP CB CT fI) {f : Addr} {fd : FuncData} (F : FnP K "law" sLaw f fd) : FnOk P w K mg base CX0 16 f fd ["_law_script"] (SpLaw K T) := by
  have D__law_all_right := ok__law_all_right (P := P) (w := w) (base := base) (T := T) W
  have D__law_two_ways := ok__law_two_ways (P := P) (w := w) (base := base) (T := T) W.toWdA.toWdL.toWd
  have D__law_pull := ok__law_pull (P := P) (w := w) (base := base) (T := T) W.toWdA.toWdL.toWd
  have D__law_small_case := ok__law_small_case (P := P) (w := w) (base := base) (T := T) W.toWdA.toWdL.toWd
  have D__law_reel := ok__law_reel (P := P) (w := w) (base := base) (T := T) W.toWdA.toWdL.toWd
  refine F.ok sc_law (fun vs H Q E ⟨a, ns, e, _⟩ => by rw [e]; rfl) fun cdv A outer s H vs Q E hr h => ?_
  have nd := sc_law.nd
  have hu64 := hr.units
  have hu1 := hu_of hr
  refine ⟨_, PSs.nox ((pss_cons (ps_set (i := 1) nd rfl (by first | exact Or.inl rfl | exact Or.inr rfl) (pe_callD D__law_reel (hr.mono (by decide)) rfl (pa_cons (pv 0) pa_nil)))
    (pss_cons (ps_asg (pe_callD D__law_small_case (hr.mono (by decide)) rfl (pa_cons (pv 1) (pa_cons pe_int pa_nil))) (pg_tupK (K := K) rfl (pg_tup (n := 3) rfl (pgs_cons (pg_name (i := 2) nd rfl (by first | exact Or.inl rfl | exact Or.inr rfl)) (pgs_cons (pg_name (i := 3) nd rfl (by first | exact Or.inl rfl | exact Or.inr rfl)) (pgs_cons (pg_name (i := 4) nd rfl (by first | exact Or.inl rfl | exact Or.inr rfl)) pgs_nil))))))
    (pss_cons (ps_if (pt_not (pt_val (pe_callD D__law_all_right (hr.mono (by decide)) rfl (pa_cons (pv 1) (pa_cons (pv 2) (pa_cons (pv 3) (pa_cons (pv 4) pa_nil)))))))
    (pss_one (ps_ret pe_bl))
    pss_nil)
    (pss_cons (ps_if (pt_cmpR op_gt (pe_callD D__law_pull (hr.mono (by decide)) rfl (pa_cons (pv 1) (pa_cons pe_int pa_nil))) pe_int (nomark _))
    (pss_one (ps_ret pe_bl))
    pss_nil)
    (pss_cons (ps_asg (pe_callD D__law_two_ways (hr.mono (by decide)) rfl (pa_cons (pv 1) pa_nil)) (pg_tupK (K := K) rfl (pg_tup (n := 3) rfl (pgs_cons (pg_name (i := 2) nd rfl (by first | exact Or.inl rfl | exact Or.inr rfl)) (pgs_cons (pg_name (i := 3) nd rfl (by first | exact Or.inl rfl | exact Or.inr rfl)) (pgs_cons (pg_name (i := 4) nd rfl (by first | exact Or.inl rfl | exact Or.inr rfl)) pgs_nil))))))
    (pss_one (ps_ret (pe_callD D__law_all_right (hr.mono (by decide)) rfl (pa_cons (pv 1) (pa_cons (pv 2) (pa_cons (pv 3) (pa_cons (pv 4) pa_nil))))))))))))), ?_⟩
  obtain ⟨a, ns, e, sq, hns, tab, fin⟩ := h
  subst e
  refine seq_asg_raw ⟨.ref a, rfl, H, ns, (fun b o h => h), tab, .cons (Dp.lst sq (dp_ints ns)) .nil, hns, fun r g sm H1 gs ss t1 n1 n2 n3 hr1 hg1 hs1 g1 g2 s0 s1 s2 => ?_⟩
  let c : Ctx := { K := K, T := T, H0 := My.hm H1 r g, B0 := My.hm H1 r g, rg := some (r, g), sm := sm }
  have C : Cur c (My.hm H1 r g) H1 := ⟨fun b o h => (ex_hm_sub h), ex_hm H1 r g, Ex.refl _, fun a h _ => h, t1, fun b hb => by
    have hb : b = r ∨ b = g := by
      have : b ∈ [r, g] := hb
      simpa using this
    rcases hb with z | z
    · subst z; exact ⟨by rw [hr1]; exact (fun z => by cases z), hm_r, hm_r⟩
    · subst z; exact ⟨by rw [hg1]; exact (fun z => by cases z), hm_g, hm_g⟩⟩
  have E0 : EnvOk c (My.hm H1 r g) H1 [some (.ref a), some (.ref r), none, none, none] [.unk, .reel 30000, .unk, .unk, .unk] := by
    refine ⟨rfl, fun i v x h1 h2 => ?_, fun i j v u x y b hij h1 h2 h3 h4 o1 o2 => ?_⟩
    · match i, h1, h2 with
      | 0, h1, h2 => cases h2; cases v <;> trivial
      | 1, h1, h2 =>
        cases h1; cases h2
        exact ⟨r, g, rfl, rfl, hm_r, hm_g, hm_r, hm_g, 0, gs, ss, hr1, hg1, n1, by show My.hm H1 r g sm = _; rw [hm_ne n2 n3]; exact hs1, by omega, g1, g2, s0, s1, s2⟩
      | 2, h1, h2 => cases h2; cases v <;> trivial
      | 3, h1, h2 => cases h2; cases v <;> trivial
      | 4, h1, h2 => cases h2; cases v <;> trivial
    · have one : ∀ {i : Nat} {v : Option V} {x : Cell}, [Cell.unk, .reel 30000, .unk, .unk, .unk][i]? = some x → Owns c v x b → i = 1 := fun {i v x} h o => by
        match i, h with
        | 0, h => cases h; exact o.elim
        | 1, h => rfl
        | 2, h => cases h; exact o.elim
        | 3, h => cases h; exact o.elim
        | 4, h => cases h; exact o.elim
      exact hij ((one h2 o1).trans (one h4 o2).symm)
  dsimp only
  refine run_raw ?_ C E0 fin
  refine ss_seq <| ss_asg (vs := [2, 3, 4]) <| ee_callR rfl rfl (j := 1) rfl <| ea_cons <| ee_int <| ea_nil ⟨10, 29700, rfl, rfl, ⟨_, rfl, by decide⟩, fun x ⟨ms, us, rs, ex, hc⟩ => ?_⟩
  subst ex
  refine sg_triple ?_ (by simp) (by simp) (by simp)
  refine ss_seq <| ss_if <| et_not <| et_B <| ee_callR rfl rfl (j := 1) rfl <| ea_cons <| ee_var rfl <| ea_cons <| ee_var rfl <| ea_cons <| ee_var rfl <| ea_nil ⟨(ms, us, rs), 29600, rfl, hc, ⟨_, rfl, by decide⟩, fun x ex => ⟨_, ex, (fun z => by cases z), fun _ => ss_next ?_⟩⟩
  refine ss_seq <| ss_if <| et_test <| ee_op <| ee_callR rfl rfl (j := 1) rfl <| ea_cons <| ee_int <| ea_nil ⟨3, 29599, rfl, ⟨by decide, by decide⟩, ⟨_, rfl, by decide⟩, fun x ⟨v, hv, ex⟩ => ?_⟩
  subst ex
  refine ee_int <| ro_gt ⟨_, rfl, fun _ => ss_ret <| ee_bl rfl, fun _ => ss_next ?_⟩
  refine ss_seq <| ss_asg (vs := [2, 3, 4]) <| ee_callR rfl rfl (j := 1) rfl <| ea_nil ⟨(), 29299, rfl, trivial, ⟨_, rfl, by decide⟩, fun x ⟨ms, us, rs, ex, hc⟩ => ?_⟩
  subst ex
  refine sg_triple ?_ (by simp) (by simp) (by simp)
  exact ss_ret <| ee_callR rfl rfl (j := 1) rfl <| ea_cons <| ee_var rfl <| ea_cons <| ee_var rfl <| ea_cons <| ee_var rfl <| ea_nil ⟨(ms, us, rs), 29199, rfl, hc, ⟨_, rfl, by decide⟩, fun x ex => ex⟩
end
end My
end P36_
section H3_
set_option maxHeartbeats 1000000
namespace My
open PySem PySem.Spec PyProof.Rows L2 LamX
open PySem.W (Frag findIn nsIn keepIn codeIn)
def lookN (l : List (Option Str × Tg)) (x : Option Str) : Option Tg := (l.find? fun p => decide (p.1 = x)).map (·.2)
theorem find_tag (x : Str) : ∀ es : List DictEntry, lookN (es.map fun e => (tagK e.key, tagV e.val)) (some x) = (es.find? (·.key.isStr x)).map fun e => tagV e.val
  | [] => rfl
  | e :: r => by
    have h : decide (tagK e.key = some x) = e.key.isStr x := by
      cases hk : e.key with
      | str s t =>
        show decide (some s = some x) = (s == x)
        by_cases q : s = x
        · subst q
          simp
        · simp [q]
      | _ => simp [tagK, Value.isStr]
    have ih := find_tag x r
    unfold lookN at ih ⊢
    have e1 : ((e :: r).map fun e : DictEntry => (tagK e.key, tagV e.val)).find? (fun p => decide (p.1 = some x)) = match e.key.isStr x with
        | true => some (tagK e.key, tagV e.val)
        | false => (r.map fun e : DictEntry => (tagK e.key, tagV e.val)).find? fun p => decide (p.1 = some x) := by
      rw [List.map_cons, List.find?_cons]
      show (match decide (tagK e.key = some x) with
        | true => some (tagK e.key, tagV e.val)
        | false => (r.map fun e : DictEntry => (tagK e.key, tagV e.val)).find? fun p => decide (p.1 = some x)) = _
      rw [h]
    rw [e1, List.find?_cons]
    cases e.key.isStr x with
    | true => rfl
    | false => exact ih
theorem no_refKey : ∀ es : List DictEntry, ((es.map fun e => (tagK e.key, tagV e.val)).all fun p => p.1.isSome) = true → es.any (·.refKey) = false
  | [], _ => rfl
  | e :: r, h => by
    rw [List.map_cons, List.all_cons] at h
    obtain ⟨h1, h2⟩ := He.ba h
    rw [List.any_cons, no_refKey r h2, Bool.or_false]
    unfold DictEntry.refKey
    cases hk : e.key with
    | ref a => rw [hk] at h1; cases h1
    | _ => rfl
theorem dict_of {K : Frag} {l : List (Option Str × Tg)} (h : nmsK K = l) (hl : l ≠ []) : ∃ oc od es n sl, K.lookup mainGlobals = some ⟨oc, od, .dict es n, sl⟩ ∧ (es.toList.map fun e => (tagK e.key, tagV e.val)) = l := by
  unfold nmsK at h
  cases q : K.lookup mainGlobals with
  | none => rw [q] at h; exact absurd h.symm hl
  | some o =>
    obtain ⟨oc, od, dt, sl⟩ := o
    rw [q] at h
    cases dt with
    | dict es n => exact ⟨oc, od, es, n, sl, rfl, h⟩
    | _ => exact absurd h.symm hl
theorem nm_at {K : Frag} {l : List (Option Str × Tg)} (h : nmsK K = l) (hl : l ≠ []) {x : Str} {t : Tg} (e : lookN l (some x) = some t) : ∃ v, nsIn K mainGlobals x = some (some v) ∧ tagV v = t := by
  obtain ⟨oc, od, es, n, sl, lk, em⟩ := dict_of h hl
  rw [← em, find_tag] at e
  obtain ⟨en, h1, h2⟩ := Option.map_eq_some_iff.mp e
  refine ⟨en.val, ?_, h2⟩
  unfold PySem.W.nsIn
  rw [lk]
  show (match es.toList.find? (·.key.isStr x) with | some e => some (some e.val) | none => _) = _
  rw [h1]
theorem nm_no {K : Frag} {l : List (Option Str × Tg)} (h : nmsK K = l) (hl : l ≠ []) (ha : (l.all fun p => p.1.isSome) = true) {x : Str} (e : lookN l (some x) = none) : nsIn K mainGlobals x = some none := by
  obtain ⟨oc, od, es, n, sl, lk, em⟩ := dict_of h hl
  rw [← em] at ha
  have hr := no_refKey _ ha
  rw [← em, find_tag] at e
  have h1 := Option.map_eq_none_iff.mp e
  unfold PySem.W.nsIn
  rw [lk]
  show (match es.toList.find? (·.key.isStr x) with | some e => some (some e.val) | none => if es.toList.any (·.refKey) = true then none else some none) = _
  rw [h1, hr]
  rfl
theorem tag_r {v : Value} {a : Addr} (h : tagV v = .r a) : v = .ref a := by
  cases v <;> first | (cases h; rfl) | cases h
theorem tag_i {v : Value} {z : Int} (h : tagV v = .i z) : ∃ t, v = .int z t := by
  cases v <;> first | (cases h; exact ⟨_, rfl⟩) | cases h
/-- all names at once -/
theorem looks_all : (lnm.map fun p => lookN lnm p.1) = lnm.map fun p => some p.2 := by kernel_rfl
def frees : List Str := ["len", "all", "any", "isinstance", "sorted", "min", "abs", "range", "enumerate", "tuple", "list", "int", "str", "zip"]
theorem frees_all : (frees.map fun x => lookN lnm (some x)) = frees.map fun _ => none := by kernel_rfl
theorem keys_some : (lnm.all fun p => p.1.isSome) = true := by kernel_rfl
theorem lnm_ne : lnm ≠ [] := fun h => by
  have z := congrArg List.length h
  exact absurd z (by decide +kernel)
theorem look_at (i : Nat) {x : Str} {t : Tg} (h : lnm[i]? = some (some x, t)) : lookN lnm (some x) = some t := by
  have e := congrArg (fun l => l[i]?) looks_all
  simp only [List.getElem?_map, h, Option.map_some] at e
  exact Option.some.inj e
theorem free_at (i : Nat) {x : Str} (h : frees[i]? = some x) : lookN lnm (some x) = none := by
  have e := congrArg (fun l => l[i]?) frees_all
  simp only [List.getElem?_map, h, Option.map_some] at e
  exact Option.some.inj e
theorem nonV {v : Value} (h : isNon v = true) : v = .none := by
  cases v <;> first | rfl | cases h
/-- a def by its address -/
theorem funL {K : Frag} {a : Addr} {nm qu : Str} {ps : Arguments} {bd : List Stmt} {sc : Scope} {kw : List (Str × He.Dv)} (e : fnL K a = some (.stmts bd, ps, sc, nm, qu, mainGlobals, builtinsNs, [])) (c : fnC K a qu kw = true) :
    ∃ fd, FunD K nm qu ps bd sc [] (kw.map fun q => (q.1, q.2.v K)) a fd := by
  unfold fnL at e
  unfold fnC at c
  obtain ⟨kp, c2⟩ := He.ba c
  cases q : K.lookup a with
  | none => rw [q] at e; cases e
  | some o =>
    obtain ⟨oc, od, dt, osl⟩ := o
    rw [q] at e c2
    cases dt with
    | func fd =>
      obtain ⟨n1, n2, n3, n4, n5, n6, n7, n8, n9, n10, n11, n12, n13, n14, n15⟩ := fd
      simp only [Option.some.injEq, Prod.mk.injEq] at e
      obtain ⟨h1, h2, h3, h4, h5, h6, h7, h8⟩ := e
      dsimp only at h1 h2 h3 h4 h5 h6 h7 h8 c2
      subst h1 h2 h3 h4 h5 h6 h7 h8
      obtain ⟨c3, c4⟩ := He.ba c2
      obtain ⟨c5, c6⟩ := He.ba c4
      exact ⟨_, ⟨oc, od, _, _, _, _, _, _, _, osl, rfl, q, c3, .inl ⟨rfl, nonV c5⟩, He.kwdB_ok c6⟩, kp⟩
    | _ => cases e
section
variable {w : World} {K : Frag} {h : Heap} {mg : Str → Option Value}
theorem SaysK.ex1 (S : SaysK w K) (i : Nat) {b : Bool} (e : (exL K)[i]? = some b) : b = true := List.all_eq_true.mp (He.ba S.ex).1 b (List.mem_of_getElem? e)
theorem SaysK.fun_ (S : SaysK w K) (i : Nat) {d : Fd} (e : fds[i]? = some d) : ∃ fd, FunD K d.x d.q (defArgs d.st) (defBody d.st) (defScope d.st) [] (d.kw.map fun q => (q.1, q.2.v K)) d.a fd := by
  have e1 := congrArg (fun l => l[i]?) S.fn
  simp only [List.getElem?_map, e, Option.map_some] at e1
  exact funL (Option.some.inj e1) (List.all_eq_true.mp (He.ba S.ex).2 d (List.mem_of_getElem? e))
theorem SaysK.tab (S : SaysK w K) (i : Nat) {a : Addr} {ks : List Str} (e : tbls[i]? = some (fun _ => a, ks)) : ∃ es n, KDict K w a es n := by
  have e1 := congrArg (fun l => l[i]?) S.tb
  simp only [List.getElem?_map, e, Option.map_some] at e1
  exact He.dicW_ok (Option.some.inj e1)
theorem SaysK.glo (S : SaysK w K) (X : K.In h) (G : h.Ns mainGlobals mg) (i : Nat) {x : Str} {a : Addr} (e : lnm[i]? = some (some x, Tg.r a)) : mg x = some (.ref a) := by
  obtain ⟨v, h1, h2⟩ := nm_at S.nm lnm_ne (look_at i e)
  rw [tag_r h2] at h1
  exact PySem.W.mg_of X G h1
theorem SaysK.int (S : SaysK w K) (X : K.In h) (G : h.Ns mainGlobals mg) (i : Nat) {x : Str} {z : Int} (e : lnm[i]? = some (some x, Tg.i z)) : ∃ t, mg x = some (.int z t) := by
  obtain ⟨v, h1, h2⟩ := nm_at S.nm lnm_ne (look_at i e)
  obtain ⟨t, ht⟩ := tag_i h2
  rw [ht] at h1
  exact ⟨t, PySem.W.mg_of X G h1⟩
theorem SaysK.no (S : SaysK w K) (X : K.In h) (G : h.Ns mainGlobals mg) (i : Nat) {x : Str} (e : frees[i]? = some x) : mg x = none :=
  PySem.W.mg_none_of X G (nm_no S.nm lnm_ne keys_some (free_at i e))
theorem SaysK.st (S : SaysK w K) (X : K.In h) (G : h.Ns mainGlobals mg) (i j : Nat) {x : Str} {a : Addr} {st : Stmt} (e : lnm[i]? = some (some x, Tg.r a)) (e2 : fds[j]? = some ⟨a, x, x, st, []⟩) : Stands K mg x st := by
  obtain ⟨fd, F⟩ := S.fun_ j e2
  exact ⟨a, fd, S.glo X G i e, F⟩
end
theorem clsB_ok {K : Frag} {C : Addr} (h : clsB K C = true) : Cls K C := by
  obtain ⟨h1, h2⟩ := He.ba h
  obtain ⟨h3, h4⟩ := He.ba h1
  obtain ⟨h5, h6⟩ := He.ba h2
  exact ⟨h3, h4, h5, He.eqO_ok h6⟩
theorem mkB_ok {K : Frag} {C f : Addr} (h : mkB K C f = true) : Mk K C f := by
  obtain ⟨h1, h2⟩ := He.ba h
  obtain ⟨h3, h4⟩ := He.ba h1
  obtain ⟨h5, h6⟩ := He.ba h2
  exact ⟨h3, He.eqO_ok h4, h5, h6⟩
theorem prB_ok {K : Frag} {C p g : Addr} {x : Str} (h : prB K C x p g = true) : PropOf K C x p g := by
  obtain ⟨h1, h2⟩ := He.ba h
  obtain ⟨h3, h4⟩ := He.ba h1
  obtain ⟨h5, h6⟩ := He.ba h2
  refine ⟨He.eqO_ok h3, He.eqO_ok h4, of_decide_eq_true h5, ?_⟩
  cases q : PySem.W.recIn K p "property" with
  | none => rw [q] at h6; cases h6
  | some l =>
    rw [q] at h6
    cases l with
    | nil => cases h6
    | cons v r => exact ⟨r, by rw [of_decide_eq_true h6]⟩
theorem tupL_ok {K : Frag} {a : Addr} {xs : List Str} (h : tupL K a xs = true) (H : Hp) : SqT K H a (xs.map V.str) := by
  unfold tupL at h
  split at h
  · rename_i c od its n sl q
    obtain ⟨h1, h2⟩ := He.ba h
    obtain ⟨h3, h4⟩ := He.ba h2
    exact .inr ⟨_, its, n, q, congrArg Value.type (of_decide_eq_true h1), rfl, of_decide_eq_true h3, He.relAll_ok h4⟩
  · cases h
theorem dp_strsH {K : Frag} {B : Hp} {a : Addr} {xs : List Str} (h : SqT K B a (xs.map V.str)) : Dp K B (.ref a) (.tuple (xs.map PyData.str)) :=
  .tup h (dp_strs xs)
theorem tmB_ok {K : Frag} {C : Addr} (h : tmB K C = true) : ∃ nm q N bs bm sn sub ab col dd k0 k1 k2 k3 k5, K.lookup C = some (excClassObj nm q C N bs bm true sn sub ab col dd k0 k1 k2 k3 k5 "ValueError.__new__") ∧ PySem.HandSPX.refsVE bm = true := by
  unfold tmB at h
  split at h
  · rename_i t od cd sl q
    obtain ⟨h1, h2⟩ := He.ba h
    obtain ⟨h3, h4⟩ := He.ba h2
    obtain ⟨h5, h6⟩ := He.ba h3
    obtain ⟨h7, h8⟩ := He.ba h4
    obtain ⟨c1, c2, c3, c4, c5, c6, c7, c8, c9, c10, c11⟩ := cd
    dsimp only at h5 h6 h7
    have e1 : t = "type" := of_decide_eq_true h1
    have e6 : c11 = false := by
      cases c11 with
      | false => rfl
      | true => cases h6
    subst e1 h5 e6
    split at h7
    · rename_i v bm
      obtain ⟨h9, h10⟩ := He.ba h7
      have e9 : v = .ref C := of_decide_eq_true h9
      subst e9
      split at h8
      · rename_i k0 k1 k2 k3 n k5 hs
        have e8 : n = "ValueError.__new__" := of_decide_eq_true h8
        subst e8
        obtain ⟨l⟩ := sl
        dsimp only at hs
        subst hs
        exact ⟨_, _, _, _, _, _, _, _, _, _, _, _, _, _, _, q, h10⟩
      · cases h8
    · cases h7
  · cases h
theorem kwNo_ok {K : Frag} {a : Addr} (h : kwNo K a = true) {oc : Value} {od : Option Addr} {fd : FuncData} {sl : Array (Option Value)} (lk : K.lookup a = some ⟨oc, od, .func fd, sl⟩) : fd.kwdefaults = .none := by
  unfold kwNo at h
  rw [lk] at h
  exact nonV h
theorem codeRf_ok {K : Frag} {a c : Addr} (h : codeRf K a c = true) {oc : Value} {od : Option Addr} {fd : FuncData} {sl : Array (Option Value)} (lk : K.lookup a = some ⟨oc, od, .func fd, sl⟩) : fd.code = .ref c := by
  unfold codeRf at h
  rw [lk] at h
  exact of_decide_eq_true h
end My
end H3_
section H4_
set_option maxHeartbeats 1000000
namespace My
open PySem PySem.Spec PyProof.Rows L2 LamX
open PySem.W (Frag findIn nsIn keepIn codeIn typeIn subIn exmOne hasDictIn codeHdIn)
section
variable {w : World} {K : Frag} {h base : Heap} {mg : Str → Option Value}
theorem wd_of (X : K.In h) (G : h.Ns mainGlobals mg) (S : SaysK w K) : Wd K mg where
  b_len := S.no X G 0 rfl
  b_all := S.no X G 1 rfl
  b_any := S.no X G 2 rfl
  b_isinstance := S.no X G 3 rfl
  b_sorted := S.no X G 4 rfl
  b_min := S.no X G 5 rfl
  b_abs := S.no X G 6 rfl
  b_range := S.no X G 7 rfl
  b_enumerate := S.no X G 8 rfl
  b_tuple := S.no X G 9 rfl
  b_list := S.no X G 10 rfl
  b_int := S.no X G 11 rfl
  b_str := S.no X G 12 rfl
  b_zip := S.no X G 13 rfl
  f_is_name := S.st X G 18 0 rfl rfl
  f_is_path := S.st X G 19 1 rfl rfl
  f_covers := S.st X G 20 2 rfl rfl
  f_overlap := S.st X G 21 3 rfl rfl
  f_covered := S.st X G 22 4 rfl rfl
  f_first_overlap := S.st X G 23 5 rfl rfl
  f_is_rule_path := S.st X G 27 6 rfl rfl
  f_are_rule_paths := S.st X G 28 7 rfl rfl
  f_are_rows := S.st X G 29 8 rfl rfl
  f_item_holds := S.st X G 30 9 rfl rfl
  f_parallel_paths := S.st X G 31 10 rfl rfl
  f_is_chained := S.st X G 32 11 rfl rfl
  f_any_overlap := S.st X G 33 12 rfl rfl
  f_rule_error := S.st X G 34 13 rfl rfl
  f_place_of := S.st X G 35 14 rfl rfl
  f_is_barred := S.st X G 36 15 rfl rfl
  f_links_of := S.st X G 37 16 rfl rfl
  f_chains_from := S.st X G 38 17 rfl rfl
  f_uses_of := S.st X G 39 18 rfl rfl
  f_chain_breaks := S.st X G 40 19 rfl rfl
  f_steps_between := S.st X G 41 20 rfl rfl
  f_ring_from := S.st X G 42 21 rfl rfl
  f_ring_breaks := S.st X G 43 22 rfl rfl
  f_all_breaks := S.st X G 44 23 rfl rfl
  f_first_of := S.st X G 45 24 rfl rfl
  f_first_break := S.st X G 46 25 rfl rfl
  f_findings_of := S.st X G 47 26 rfl rfl
  f_without := S.st X G 54 27 rfl rfl
  f_short_break := S.st X G 55 28 rfl rfl
  f_breaks_apart := S.st X G 56 29 rfl rfl
  f_cut_sets := S.st X G 57 30 rfl rfl
  f_is_pair := S.st X G 59 32 rfl rfl
  f_modules_error := S.st X G 60 33 rfl rfl
  f_uses_error := S.st X G 61 34 rfl rfl
  f_program_error := S.st X G 62 35 rfl rfl
  f_parts_of := S.st X G 63 36 rfl rfl
  f_book_error := S.st X G 65 37 rfl rfl
  f__law_reel := S.st X G 67 38 rfl rfl
  f__law_pull := S.st X G 68 39 rfl rfl
  f__law_pick := S.st X G 69 40 rfl rfl
  f__law_mixed := S.st X G 70 41 rfl rfl
  f__law_names := S.st X G 71 42 rfl rfl
  f__law_under := S.st X G 72 43 rfl rfl
  f__law_meet := S.st X G 73 44 rfl rfl
  f__law_home := S.st X G 74 45 rfl rfl
  f__law_spots := S.st X G 75 46 rfl rfl
  f__law_alone := S.st X G 76 47 rfl rfl
  f__law_rows := S.st X G 77 48 rfl rfl
  f__law_rule_of := S.st X G 78 49 rfl rfl
  f__law_rule := S.st X G 79 50 rfl rfl
  f__law_some_rules := S.st X G 80 51 rfl rfl
  f__law_modules := S.st X G 81 52 rfl rfl
  f__law_uses := S.st X G 82 53 rfl rfl
  f__law_bars := S.st X G 83 54 rfl rfl
  f__law_is_long := S.st X G 84 55 rfl rfl
  f__law_far := S.st X G 85 56 rfl rfl
  f__law_pairs := S.st X G 86 57 rfl rfl
  f__law_ringed := S.st X G 87 58 rfl rfl
  f__law_broken := S.st X G 88 59 rfl rfl
  f__law_kept := S.st X G 89 60 rfl rfl
  f__law_small_case := S.st X G 90 61 rfl rfl
  f__law_left := S.st X G 91 62 rfl rfl
  f__law_told := S.st X G 92 63 rfl rfl
  f__law_cut_down := S.st X G 93 64 rfl rfl
  f__law_right := S.st X G 94 65 rfl rfl
  f__law_two_ways := S.st X G 95 66 rfl rfl
  f__law_all_right := S.st X G 96 67 rfl rfl
  f_law := S.st X G 97 68 rfl rfl
  c_MAX_CUTS := S.int X G 10 rfl
  c_MAX_MODULES := S.int X G 11 rfl
  c_MAX_NAMES := S.int X G 12 rfl
  c_MAX_RULE_NAMES := S.int X G 13 rfl
  c_MAX_RULES := S.int X G 14 rfl
  c_MAX_USES := S.int X G 15 rfl
  c_LETTERS := He.str_ok X G (S.ex1 24 (b := (He.Fa.str "LETTERS" "abcdefghijklmnopqrstuvwxyz").ok K) rfl)
  c_MAX_LETTERS := S.int X G 17 rfl
  c_MOST_PATHS := S.int X G 26 rfl
def tabCs : List (Addr × Addr) := [(180, 176), (312, 308)]
def tabT : List (Addr × Str) := [(176, lamQ "first_of"), (308, lamQ "short_break")]
theorem wdl_of (X : K.In h) (G : h.Ns mainGlobals mg) (S : SaysK w K) (TB : ∀ p ∈ tabCs, TabB base mg p.1 p.2) : WdL K mg base tabT where
  toWd := wd_of X G S
  l_first_of := by
    obtain ⟨fd, F⟩ := S.fun_ 24 (d := ⟨181, "first_of", "first_of", sFirstOf, []⟩) rfl
    obtain ⟨oc, od, dV, kV, doc, pm, an, cdv, ct, osl, _, lk, _⟩ := F.ex
    refine ⟨181, fd, 180, 176, S.glo X G 45 rfl, F, codeRf_ok (S.ex1 38 (b := codeRf K 181 180) rfl) lk, TB (180, 176) List.mem_cons_self, List.mem_cons_self, fun p hp e => ?_⟩
    rcases List.mem_cons.mp hp with q | hp
    · subst q
      rfl
    · have q := List.mem_singleton.mp hp
      subst q
      exact absurd e (by decide)
  l_short_break := by
    obtain ⟨fd, F⟩ := S.fun_ 28 (d := ⟨313, "short_break", "short_break", sShortBreak, []⟩) rfl
    obtain ⟨oc, od, dV, kV, doc, pm, an, cdv, ct, osl, _, lk, _⟩ := F.ex
    refine ⟨313, fd, 312, 308, S.glo X G 55 rfl, F, codeRf_ok (S.ex1 39 (b := codeRf K 313 312) rfl) lk, TB (312, 308) (List.mem_cons_of_mem _ List.mem_cons_self), (List.mem_cons_of_mem _ List.mem_cons_self), fun p hp e => ?_⟩
    rcases List.mem_cons.mp hp with q | hp
    · subst q
      exact absurd e (by decide)
    · have q := List.mem_singleton.mp hp
      subst q
      rfl
theorem wda_of (X : K.In h) (G : h.Ns mainGlobals mg) (S : SaysK w K) (TB : ∀ p ∈ tabCs, TabB base mg p.1 p.2) : WdA w K mg base tabT where
  toWdL := wdl_of X G S TB
  t_ITEMS := by
    obtain ⟨es, n, D⟩ := S.tab 0 (a := 58) rfl
    have hv := fun (q : Str × He.Dv) hq => He.valsB_ok (S.ex1 25 (b := He.valsB K 58 [("forbid", .adr fun _ => 59), ("layers", .adr fun _ => 60), ("stairs", .adr fun _ => 61), ("apart", .adr fun _ => 62), ("only", .adr fun _ => 63), ("face", .adr fun _ => 64), ("noring", .adr fun _ => 65)]) rfl) (q := q) hq
    refine ⟨58, es, n, S.glo X G 24 rfl, D, fun q hq => ?_⟩
    simp only [itemsT, List.mem_cons, List.not_mem_nil, or_false] at hq
    rcases hq with e | e | e | e | e | e | e
    · subst e
      obtain ⟨u, h1, h2⟩ := hv ("forbid", .adr fun _ => 59) (by simp)
      exact ⟨.ref 59, u, h1, h2, fun B => dp_strsH (tupL_ok (S.ex1 27 (b := tupL K 59 ["sources", "targets", "how"]) rfl) B)⟩
    · subst e
      obtain ⟨u, h1, h2⟩ := hv ("layers", .adr fun _ => 60) (by simp)
      exact ⟨.ref 60, u, h1, h2, fun B => dp_strsH (tupL_ok (S.ex1 28 (b := tupL K 60 ["rows", "how"]) rfl) B)⟩
    · subst e
      obtain ⟨u, h1, h2⟩ := hv ("stairs", .adr fun _ => 61) (by simp)
      exact ⟨.ref 61, u, h1, h2, fun B => dp_strsH (tupL_ok (S.ex1 29 (b := tupL K 61 ["rows"]) rfl) B)⟩
    · subst e
      obtain ⟨u, h1, h2⟩ := hv ("apart", .adr fun _ => 62) (by simp)
      exact ⟨.ref 62, u, h1, h2, fun B => dp_strsH (tupL_ok (S.ex1 30 (b := tupL K 62 ["paths", "how"]) rfl) B)⟩
    · subst e
      obtain ⟨u, h1, h2⟩ := hv ("only", .adr fun _ => 63) (by simp)
      exact ⟨.ref 63, u, h1, h2, fun B => dp_strsH (tupL_ok (S.ex1 31 (b := tupL K 63 ["targets", "users"]) rfl) B)⟩
    · subst e
      obtain ⟨u, h1, h2⟩ := hv ("face", .adr fun _ => 64) (by simp)
      exact ⟨.ref 64, u, h1, h2, fun B => dp_strsH (tupL_ok (S.ex1 32 (b := tupL K 64 ["path", "exposed"]) rfl) B)⟩
    · subst e
      obtain ⟨u, h1, h2⟩ := hv ("noring", .adr fun _ => 65) (by simp)
      exact ⟨.ref 65, u, h1, h2, fun B => dp_strsH (tupL_ok (S.ex1 33 (b := tupL K 65 ["paths"]) rfl) B)⟩
  t_LEAST := by
    obtain ⟨es, n, D⟩ := S.tab 1 (a := 66) rfl
    have hv := fun (q : Str × He.Dv) hq => He.valsB_ok (S.ex1 26 (b := He.valsB K 66 [("sources", .int 1), ("targets", .int 1), ("paths", .int 2), ("users", .int 0), ("exposed", .int 0)]) rfl) (q := q) hq
    refine ⟨66, es, n, S.glo X G 25 rfl, D, fun q hq => ?_⟩
    simp only [leastT, List.mem_cons, List.not_mem_nil, or_false] at hq
    rcases hq with e | e | e | e | e
    · subst e
      obtain ⟨u, h1, h2⟩ := hv ("sources", .int 1) (by simp)
      exact ⟨.int 1, u, h1, h2, fun B => .int _⟩
    · subst e
      obtain ⟨u, h1, h2⟩ := hv ("targets", .int 1) (by simp)
      exact ⟨.int 1, u, h1, h2, fun B => .int _⟩
    · subst e
      obtain ⟨u, h1, h2⟩ := hv ("paths", .int 2) (by simp)
      exact ⟨.int 2, u, h1, h2, fun B => .int _⟩
    · subst e
      obtain ⟨u, h1, h2⟩ := hv ("users", .int 0) (by simp)
      exact ⟨.int 0, u, h1, h2, fun B => .int _⟩
    · subst e
      obtain ⟨u, h1, h2⟩ := hv ("exposed", .int 0) (by simp)
      exact ⟨.int 0, u, h1, h2, fun B => .int _⟩
theorem tm_of (X : K.In h) (G : h.Ns mainGlobals mg) (S : SaysK w K) : PySem.TmX.TmTxt K mg 299 296 where
  gC := S.glo X G 53 rfl
  cls := tmB_ok (S.ex1 11 (b := tmB K 299) rfl)
  sa := He.eqO_ok (S.ex1 12 (b := He.eqO (findIn K (.ref 299) "__setattr__") (some (some (.builtin "object.__setattr__")))) rfl)
  ga := He.eqO_ok (S.ex1 13 (b := He.eqO (findIn K (.ref 299) "__getattribute__") (some (some (.builtin "BaseException.__getattribute__")))) rfl)
  gg := He.eqO_ok (S.ex1 14 (b := He.eqO (findIn K (.ref 299) "__getattr__") (some none)) rfl)
  noN := He.eqO_ok (S.ex1 15 (b := He.eqO (findIn K (.ref 299) "limit") (some none)) rfl)
  iC := He.eqO_ok (S.ex1 16 (b := He.eqO (findIn K (.ref 299) "__init__") (some (some (.ref 296)))) rfl)
  tC := of_decide_eq_true (S.ex1 17 (b := decide (typeIn K (.ref 296) = some (.type "function"))) rfl)
  kC := (S.ex1 18 (b := keepIn K (.ref 299)) rfl)
  exC := of_decide_eq_true (S.ex1 19 (b := decide (subIn K (.ref 299) (.type "BaseException") = some true)) rfl)
  tyC := of_decide_eq_true (S.ex1 20 (b := decide (typeIn K (.ref 299) = some (.type "type"))) rfl)
  hdC := (S.ex1 21 (b := hasDictIn K 299) rfl)
  te := of_decide_eq_true (S.ex1 22 (b := decide (exmOne K (.ref 299) (.ref 299) = some true)) rfl)
  fn := by
    obtain ⟨fd, F⟩ := S.fun_ 69 (d := ⟨296, "__init__", "TooMany.__init__", sTooManyInit, []⟩) rfl
    obtain ⟨oc, od, dV, kV, doc, pm, an, cdv, ct, osl, e, lk, hc, hd, _⟩ := F.ex
    have hk := kwNo_ok (S.ex1 23 (b := kwNo K 296) rfl) lk
    subst e
    have e2 : kV = .none := hk
    have e3 : dV = .none := by
      rcases hd with ⟨_, z⟩ | ⟨z, _⟩
      · exact z
      · exact absurd rfl z
    subst e2 e3
    exact ⟨oc, od, doc, pm, an, cdv, ct, osl, _, _, _, _, _, _, lk, hc⟩
theorem wdc_of (X : K.In h) (G : h.Ns mainGlobals mg) (S : SaysK w K) (TB : ∀ p ∈ tabCs, TabB base mg p.1 p.2) : WdC w K mg base tabT 476 564 299 296 where
  toWdA := wda_of X G S TB
  prog := by
    obtain ⟨fd, F⟩ := S.fun_ 70 (d := ⟨382, "__init__", "Program.__init__", sProgramInit, []⟩) rfl
    refine ⟨S.glo X G 64 rfl, clsB_ok (S.ex1 0 (b := clsB K 476) rfl), ⟨382, fd, mkB_ok (S.ex1 1 (b := mkB K 476 382) rfl), F⟩, fun f hf => ?_⟩
    simp only [List.mem_cons, List.not_mem_nil, or_false] at hf
    rcases hf with e | e | e <;> subst e
    · exact He.eqO_ok (S.ex1 2 (b := He.eqO (findIn K (.ref 476) "places") (some none)) rfl)
    · exact He.eqO_ok (S.ex1 3 (b := He.eqO (findIn K (.ref 476) "links") (some none)) rfl)
    · exact He.eqO_ok (S.ex1 4 (b := He.eqO (findIn K (.ref 476) "heads") (some none)) rfl)
  pmod := by
    obtain ⟨fd, F⟩ := S.fun_ 71 (d := ⟨389, "modules", "Program.modules", sProgramModules, []⟩) rfl
    exact ⟨390, 389, fd, prB_ok (S.ex1 8 (b := prB K 476 "modules" 390 389) rfl), F⟩
  puse := by
    obtain ⟨fd, F⟩ := S.fun_ 72 (d := ⟨397, "uses", "Program.uses", sProgramUses, []⟩) rfl
    exact ⟨398, 397, fd, prB_ok (S.ex1 9 (b := prB K 476 "uses" 398 397) rfl), F⟩
  book := by
    obtain ⟨fd, F⟩ := S.fun_ 73 (d := ⟨501, "__init__", "Book.__init__", sBookInit, []⟩) rfl
    refine ⟨S.glo X G 66 rfl, clsB_ok (S.ex1 5 (b := clsB K 564) rfl), ⟨501, fd, mkB_ok (S.ex1 6 (b := mkB K 564 501) rfl), F⟩, fun f hf => ?_⟩
    simp only [List.mem_cons, List.not_mem_nil, or_false] at hf
    subst hf
    · exact He.eqO_ok (S.ex1 7 (b := He.eqO (findIn K (.ref 564) "held") (some none)) rfl)
  brul := by
    obtain ⟨fd, F⟩ := S.fun_ 74 (d := ⟨508, "rules", "Book.rules", sBookRules, []⟩) rfl
    exact ⟨509, 508, fd, prB_ok (S.ex1 10 (b := prB K 564 "rules" 509 508) rfl), F⟩
  tm := tm_of X G S
  few := by
    obtain ⟨fd, F⟩ := S.fun_ 31 (d := ⟨333, "fewest_cuts", "fewest_cuts", sFewestCuts, [("most", .int 4)]⟩) rfl
    exact ⟨333, fd, S.glo X G 58 rfl, F⟩
theorem law_at {l : PySem.W.OpenLaw} {fa : Addr} (X : K.In h) (G : h.Ns mainGlobals mg) (hmg : mg "law" = some (.ref fa)) (S : SaysK w K) (t1 : h.get? 176 = some { cls := .none, data := .fields #[] }) (t2 : h.get? 308 = some { cls := .none, data := .fields #[] }) :
    LawAtS l w K CX0 16 63 "_law_script" mg fa h := by
  have e := hmg.symm.trans (S.glo X G 97 rfl (a := 755))
  cases e
  obtain ⟨fd, F⟩ := S.fun_ 68 (d := ⟨755, "law", "law", sLaw, []⟩) rfl
  have b := FunD.bindsA (ps := ["_law_script"]) F fun _ _ _ _ _ _ us hl => match us, hl with | [_], _ => rfl
  refine ⟨fd, tabCs, SpLaw K tabT, ?_, ?_, ?_, fun s u => b s [u] rfl, fun H a ns hl _ hT hS => ⟨a, ns, rfl, hS, hl, ?_, fun H2 => rfl⟩, fun base X2 G2 TB => ?_⟩
  · intro p hp
    rcases List.mem_cons.mp hp with q | hp
    · subst q; exact t1
    · have q := List.mem_singleton.mp hp
      subst q; exact t2
  · intro p hp
    have n1 : (K.lookup 176).isNone = true := (S.ex1 34 (b := (K.lookup 176).isNone) rfl)
    have n2 : (K.lookup 308).isNone = true := (S.ex1 35 (b := (K.lookup 308).isNone) rfl)
    rcases List.mem_cons.mp hp with q | hp
    · subst q; exact Option.isNone_iff_eq_none.mp n1
    · have q := List.mem_singleton.mp hp
      subst q; exact Option.isNone_iff_eq_none.mp n2
  · intro p hp
    rcases List.mem_cons.mp hp with q | hp
    · subst q; exact PySem.W.codeHd_of_K X (S.ex1 36 (b := codeHdIn K 180 176) rfl)
    · have q := List.mem_singleton.mp hp
      subst q; exact PySem.W.codeHd_of_K X (S.ex1 37 (b := codeHdIn K 312 308) rfl)
  · intro p hp
    rcases List.mem_cons.mp hp with q | hp
    · subst q; exact TabS.nil (hT (180, 176) List.mem_cons_self)
    · have q := List.mem_singleton.mp hp
      subst q; exact TabS.nil (hT (312, 308) (List.mem_cons_of_mem _ List.mem_cons_self))
  · exact ok_law_fn (P := l.prog) (wdc_of X G S TB) F
end
end My
end H4_
section H5_
set_option maxHeartbeats 0
namespace My
open PySem PySem.Spec PyProof.Rows L2
theorem run (w : World) : HandSHeadRun.RunEq R (PySem.W.view R.prog [96]) hkM ob 6000 nms w :=
  PySem.W.byRow2 "special-get-raises" (P := fun w => HandSHeadRun.RunEq R (PySem.W.view R.prog [96]) hkM ob 6000 nms w) runF runT w
end My
open PySem PySem.W PySem.Calls PyProof.Rows
theorem PySem.Challenge.cw_mayrest_k56_whole_no_fewer_cuts_holds : PySem.Challenge.rw_mayrest_k56_whole_no_fewer_cuts.Holds := by
  w_on; o_law
  refine HandSHeadRun.head_any (r := My.R) (q := view My.R.prog [96]) (H := My.hkM) (ob := My.ob) (M := 6000) (loose := My.nms) (d := HandSHeadRun.topDef My.R.prog 96) (kwd := []) My.ob_eq
    (by kernel_rfl) (fun s => by kernel_rfl) My.run (by kernel_rfl) (by kernel_rfl) (by kernel_rfl) (by rfl) (by first | assumption | decide +kernel) (by decide +kernel) ⟨rfl, rfl, rfl, rfl, rfl, by decide +kernel⟩ ?hw ?hc
  case hw => w_witness2
  case hc =>
    refine LamX.walk_ofTsE (l := PySem.Challenge.rw_mayrest_k56_whole_no_fewer_cuts) (n := 63) (k := 16) (x := "_law_script") (CX := fun _ => L2.CX0) rfl (by decide) (by kernel_rfl) ⟨rfl, by decide, by decide⟩ ?F (fun _ _ _ _ _ z => z)
    intro w mg fa h Y G hmg0
    obtain ⟨K, KX, c, t1, t2⟩ := Y
    have hmg : mg ("law" : PySem.Str) = some (.ref fa) := by
      have e : (HandSHeadRun.topDef My.R.prog 96).name = ("law" : PySem.Str) := by kernel_rfl
      rw [← e]
      exact hmg0
    exact ⟨K, KX, My.law_at KX G hmg c t1 t2⟩
end H5_
