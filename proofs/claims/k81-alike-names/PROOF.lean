import PyProof.Rows.All
import Wide.All
import OpenK.AllK
import Wide.FinOn
import HandS.Defaults
import HandS.Words
import HandS.HeadHook2
import HandS.Codes
import KE.KStateDown
import HandS.Head0
import HandS.Head1
import HandS.Head2
import HandS.HeadEnd
import HandS.ForMost
import HandS.Strs
import HandS.SetKeys
import HandS.Deep
import HandS.Walk
import HandS.TupAny
import HandS.TupMul
import HandS.Style
import HandS.Conv
import HandS.IsInst
import PyProof.P3In
import KE.SortData
import PyProof.StrBlock2
import KE.DataMinMax
import HandS.More
import HandS.Zip
import KE.GoesEnum
import HandS.SetBool
import HandS.SetFor
import HandS.TupSets
import KE.KSetDisp
import KE.KUnpackStar
import HandS.DictComp
import PySem.Challenge.RW_joinreach_k81_whole_alike_names_more
set_option Elab.async false
set_option linter.all false
set_option maxRecDepth 100000
set_option maxHeartbeats 200000
/-! JText: the program's defs by their places. -/
namespace JR
open PySem PySem.Spec PyProof.Rows L2
def tp (i : Nat) : Stmt := PySem.Challenge.pw_joinreach_k81_whole_alike_names_more.main.body.getD i (.Pass ⟨0, 0, 0, 0⟩)
abbrev s_is_whole : Stmt := tp 14
abbrev s_is_within : Stmt := tp 15
abbrev s_is_tree : Stmt := tp 16
abbrev s_downward : Stmt := tp 17
abbrev s_steps_between : Stmt := tp 18
abbrev s_gaps : Stmt := tp 19
abbrev s_hangs_together : Stmt := tp 21
abbrev s_branch_around : Stmt := tp 22
abbrev s_least_gap : Stmt := tp 23
abbrev s_World_init : Stmt := inClass (tp 25) 0
abbrev s_check_world : Stmt := tp 26
abbrev s_makes_part : Stmt := tp 28
abbrev s_is_part : Stmt := tp 29
abbrev s_part_in : Stmt := tp 30
abbrev s_part_far : Stmt := tp 31
abbrev s_part_hull : Stmt := tp 32
abbrev s_is_name : Stmt := tp 36
abbrev s_first_wrong : Stmt := tp 37
abbrev s_check_book : Stmt := tp 38
abbrev s_part_of : Stmt := tp 39
abbrev s_check_reach : Stmt := tp 41
abbrev s_closed : Stmt := tp 42
abbrev s_lots_of : Stmt := tp 43
abbrev s_stand : Stmt := tp 44
abbrev s_lots : Stmt := tp 45
abbrev s_together : Stmt := tp 46
abbrev s_rungs : Stmt := tp 48
abbrev s_meeting : Stmt := tp 49
abbrev s_ladder : Stmt := tp 50
abbrev s_together_by : Stmt := tp 52
abbrev s_check_both : Stmt := tp 53
abbrev s_needed : Stmt := tp 54
abbrev s_law_cell : Stmt := tp 56
abbrev s_law_purse : Stmt := tp 57
abbrev s_law_pick : Stmt := tp 58
abbrev s_law_wood : Stmt := tp 59
abbrev s_law_grove : Stmt := tp 60
abbrev s_law_gaps : Stmt := tp 61
abbrev s_law_between_two : Stmt := tp 62
abbrev s_law_limb : Stmt := tp 63
abbrev s_law_piece : Stmt := tp 64
abbrev s_law_point : Stmt := tp 65
abbrev s_law_alone : Stmt := tp 66
abbrev s_law_words : Stmt := tp 67
abbrev s_law_strange : Stmt := tp 68
abbrev s_law_some_piece : Stmt := tp 69
abbrev s_law_along : Stmt := tp 70
abbrev s_law_scene : Stmt := tp 71
abbrev s_law_inner : Stmt := tp 72
abbrev s_law_more : Stmt := tp 73
abbrev s_law_spare : Stmt := tp 74
abbrev s_law_twins_right : Stmt := tp 75
abbrev s_law_right : Stmt := tp 76
abbrev s_law : Stmt := tp 77
def d_is_whole : He.DefD := ⟨("is_whole", none), "is_whole", "is_whole", defArgs s_is_whole, defBody s_is_whole, defScope s_is_whole, [], []⟩
def d_is_within : He.DefD := ⟨("is_within", none), "is_within", "is_within", defArgs s_is_within, defBody s_is_within, defScope s_is_within, [], []⟩
def d_is_tree : He.DefD := ⟨("is_tree", none), "is_tree", "is_tree", defArgs s_is_tree, defBody s_is_tree, defScope s_is_tree, [], []⟩
def d_downward : He.DefD := ⟨("downward", none), "downward", "downward", defArgs s_downward, defBody s_downward, defScope s_downward, [], []⟩
def d_steps_between : He.DefD := ⟨("steps_between", none), "steps_between", "steps_between", defArgs s_steps_between, defBody s_steps_between, defScope s_steps_between, [], []⟩
def d_gaps : He.DefD := ⟨("gaps", none), "gaps", "gaps", defArgs s_gaps, defBody s_gaps, defScope s_gaps, [], []⟩
def d_hangs_together : He.DefD := ⟨("hangs_together", none), "hangs_together", "hangs_together", defArgs s_hangs_together, defBody s_hangs_together, defScope s_hangs_together, [], []⟩
def d_branch_around : He.DefD := ⟨("branch_around", none), "branch_around", "branch_around", defArgs s_branch_around, defBody s_branch_around, defScope s_branch_around, [], []⟩
def d_least_gap : He.DefD := ⟨("least_gap", none), "least_gap", "least_gap", defArgs s_least_gap, defBody s_least_gap, defScope s_least_gap, [], []⟩
def d_World_init : He.DefD := ⟨("World", some "__init__"), "__init__", "World.__init__", defArgs s_World_init, defBody s_World_init, defScope s_World_init, [], []⟩
def d_check_world : He.DefD := ⟨("check_world", none), "check_world", "check_world", defArgs s_check_world, defBody s_check_world, defScope s_check_world, [], []⟩
def d_makes_part : He.DefD := ⟨("makes_part", none), "makes_part", "makes_part", defArgs s_makes_part, defBody s_makes_part, defScope s_makes_part, [], []⟩
def d_is_part : He.DefD := ⟨("is_part", none), "is_part", "is_part", defArgs s_is_part, defBody s_is_part, defScope s_is_part, [], []⟩
def d_part_in : He.DefD := ⟨("part_in", none), "part_in", "part_in", defArgs s_part_in, defBody s_part_in, defScope s_part_in, [], []⟩
def d_part_far : He.DefD := ⟨("part_far", none), "part_far", "part_far", defArgs s_part_far, defBody s_part_far, defScope s_part_far, [], []⟩
def d_part_hull : He.DefD := ⟨("part_hull", none), "part_hull", "part_hull", defArgs s_part_hull, defBody s_part_hull, defScope s_part_hull, [], []⟩
def d_is_name : He.DefD := ⟨("is_name", none), "is_name", "is_name", defArgs s_is_name, defBody s_is_name, defScope s_is_name, [], []⟩
def d_first_wrong : He.DefD := ⟨("first_wrong", none), "first_wrong", "first_wrong", defArgs s_first_wrong, defBody s_first_wrong, defScope s_first_wrong, [], []⟩
def d_check_book : He.DefD := ⟨("check_book", none), "check_book", "check_book", defArgs s_check_book, defBody s_check_book, defScope s_check_book, [], []⟩
def d_part_of : He.DefD := ⟨("part_of", none), "part_of", "part_of", defArgs s_part_of, defBody s_part_of, defScope s_part_of, [], []⟩
def d_check_reach : He.DefD := ⟨("check_reach", none), "check_reach", "check_reach", defArgs s_check_reach, defBody s_check_reach, defScope s_check_reach, [], []⟩
def d_closed : He.DefD := ⟨("closed", none), "closed", "closed", defArgs s_closed, defBody s_closed, defScope s_closed, [], []⟩
def d_lots_of : He.DefD := ⟨("lots_of", none), "lots_of", "lots_of", defArgs s_lots_of, defBody s_lots_of, defScope s_lots_of, [], []⟩
def d_stand : He.DefD := ⟨("stand", none), "stand", "stand", defArgs s_stand, defBody s_stand, defScope s_stand, [], [("reach", .int 1)]⟩
def d_lots : He.DefD := ⟨("lots", none), "lots", "lots", defArgs s_lots, defBody s_lots, defScope s_lots, [], [("reach", .int 1)]⟩
def d_together : He.DefD := ⟨("together", none), "together", "together", defArgs s_together, defBody s_together, defScope s_together, [], [("reach", .int 1)]⟩
def d_rungs : He.DefD := ⟨("rungs", none), "rungs", "rungs", defArgs s_rungs, defBody s_rungs, defScope s_rungs, [], []⟩
def d_meeting : He.DefD := ⟨("meeting", none), "meeting", "meeting", defArgs s_meeting, defBody s_meeting, defScope s_meeting, [], []⟩
def d_ladder : He.DefD := ⟨("ladder", none), "ladder", "ladder", defArgs s_ladder, defBody s_ladder, defScope s_ladder, [], []⟩
def d_together_by : He.DefD := ⟨("together_by", none), "together_by", "together_by", defArgs s_together_by, defBody s_together_by, defScope s_together_by, [], []⟩
def d_check_both : He.DefD := ⟨("check_both", none), "check_both", "check_both", defArgs s_check_both, defBody s_check_both, defScope s_check_both, [], []⟩
def d_needed : He.DefD := ⟨("needed", none), "needed", "needed", defArgs s_needed, defBody s_needed, defScope s_needed, [], [("reach", .int 1)]⟩
def d_law_cell : He.DefD := ⟨("_law_cell", none), "_law_cell", "_law_cell", defArgs s_law_cell, defBody s_law_cell, defScope s_law_cell, [], []⟩
def d_law_purse : He.DefD := ⟨("_law_purse", none), "_law_purse", "_law_purse", defArgs s_law_purse, defBody s_law_purse, defScope s_law_purse, [], []⟩
def d_law_pick : He.DefD := ⟨("_law_pick", none), "_law_pick", "_law_pick", defArgs s_law_pick, defBody s_law_pick, defScope s_law_pick, [], []⟩
def d_law_wood : He.DefD := ⟨("_law_wood", none), "_law_wood", "_law_wood", defArgs s_law_wood, defBody s_law_wood, defScope s_law_wood, [], []⟩
def d_law_grove : He.DefD := ⟨("_law_grove", none), "_law_grove", "_law_grove", defArgs s_law_grove, defBody s_law_grove, defScope s_law_grove, [], []⟩
def d_law_gaps : He.DefD := ⟨("_law_gaps", none), "_law_gaps", "_law_gaps", defArgs s_law_gaps, defBody s_law_gaps, defScope s_law_gaps, [], []⟩
def d_law_between_two : He.DefD := ⟨("_law_between_two", none), "_law_between_two", "_law_between_two", defArgs s_law_between_two, defBody s_law_between_two, defScope s_law_between_two, [], []⟩
def d_law_limb : He.DefD := ⟨("_law_limb", none), "_law_limb", "_law_limb", defArgs s_law_limb, defBody s_law_limb, defScope s_law_limb, [], []⟩
def d_law_piece : He.DefD := ⟨("_law_piece", none), "_law_piece", "_law_piece", defArgs s_law_piece, defBody s_law_piece, defScope s_law_piece, [], []⟩
def d_law_point : He.DefD := ⟨("_law_point", none), "_law_point", "_law_point", defArgs s_law_point, defBody s_law_point, defScope s_law_point, [], []⟩
def d_law_alone : He.DefD := ⟨("_law_alone", none), "_law_alone", "_law_alone", defArgs s_law_alone, defBody s_law_alone, defScope s_law_alone, [], []⟩
def d_law_words : He.DefD := ⟨("_law_words", none), "_law_words", "_law_words", defArgs s_law_words, defBody s_law_words, defScope s_law_words, [], []⟩
def d_law_strange : He.DefD := ⟨("_law_strange", none), "_law_strange", "_law_strange", defArgs s_law_strange, defBody s_law_strange, defScope s_law_strange, [], []⟩
def d_law_some_piece : He.DefD := ⟨("_law_some_piece", none), "_law_some_piece", "_law_some_piece", defArgs s_law_some_piece, defBody s_law_some_piece, defScope s_law_some_piece, [], []⟩
def d_law_along : He.DefD := ⟨("_law_along", none), "_law_along", "_law_along", defArgs s_law_along, defBody s_law_along, defScope s_law_along, [], []⟩
def d_law_scene : He.DefD := ⟨("_law_scene", none), "_law_scene", "_law_scene", defArgs s_law_scene, defBody s_law_scene, defScope s_law_scene, [], []⟩
def d_law_inner : He.DefD := ⟨("_law_inner", none), "_law_inner", "_law_inner", defArgs s_law_inner, defBody s_law_inner, defScope s_law_inner, [], []⟩
def d_law_more : He.DefD := ⟨("_law_more", none), "_law_more", "_law_more", defArgs s_law_more, defBody s_law_more, defScope s_law_more, [], []⟩
def d_law_spare : He.DefD := ⟨("_law_spare", none), "_law_spare", "_law_spare", defArgs s_law_spare, defBody s_law_spare, defScope s_law_spare, [], []⟩
def d_law_twins_right : He.DefD := ⟨("_law_twins_right", none), "_law_twins_right", "_law_twins_right", defArgs s_law_twins_right, defBody s_law_twins_right, defScope s_law_twins_right, [], []⟩
def d_law_right : He.DefD := ⟨("_law_right", none), "_law_right", "_law_right", defArgs s_law_right, defBody s_law_right, defScope s_law_right, [], []⟩
def d_law : He.DefD := ⟨("law", none), "law", "law", defArgs s_law, defBody s_law, defScope s_law, [], []⟩
def fn : List He.DefD := [d_is_whole, d_is_within, d_is_tree, d_downward, d_steps_between, d_gaps, d_hangs_together, d_branch_around, d_least_gap, d_World_init, d_check_world, d_makes_part, d_is_part, d_part_in, d_part_far, d_part_hull, d_is_name, d_first_wrong, d_check_book, d_part_of, d_check_reach, d_closed, d_lots_of, d_stand, d_lots, d_together, d_rungs, d_meeting, d_ladder, d_together_by, d_check_both, d_needed, d_law_cell, d_law_purse, d_law_pick, d_law_wood, d_law_grove, d_law_gaps, d_law_between_two, d_law_limb, d_law_piece, d_law_point, d_law_alone, d_law_words, d_law_strange, d_law_some_piece, d_law_along, d_law_scene, d_law_inner, d_law_more, d_law_spare, d_law_twins_right, d_law_right, d_law]
def fa : List He.Fa := [.glo "is_whole",
  .glo "is_within",
  .glo "is_tree",
  .glo "downward",
  .glo "steps_between",
  .glo "gaps",
  .glo "hangs_together",
  .glo "branch_around",
  .glo "least_gap",
  .glo "check_world",
  .glo "makes_part",
  .glo "is_part",
  .glo "part_in",
  .glo "part_far",
  .glo "part_hull",
  .glo "is_name",
  .glo "first_wrong",
  .glo "check_book",
  .glo "part_of",
  .glo "check_reach",
  .glo "closed",
  .glo "lots_of",
  .glo "stand",
  .glo "lots",
  .glo "together",
  .glo "rungs",
  .glo "meeting",
  .glo "ladder",
  .glo "together_by",
  .glo "check_both",
  .glo "needed",
  .glo "_law_cell",
  .glo "_law_purse",
  .glo "_law_pick",
  .glo "_law_wood",
  .glo "_law_grove",
  .glo "_law_gaps",
  .glo "_law_between_two",
  .glo "_law_limb",
  .glo "_law_piece",
  .glo "_law_point",
  .glo "_law_alone",
  .glo "_law_words",
  .glo "_law_strange",
  .glo "_law_some_piece",
  .glo "_law_along",
  .glo "_law_scene",
  .glo "_law_inner",
  .glo "_law_more",
  .glo "_law_spare",
  .glo "_law_twins_right",
  .glo "_law_right",
  .glo "law",
  .glo "World",
  .cls "World",
  .mkr "World",
  .noat "World" "trees",
  .noat "World" "tables",
  .keep "World",
  .free "isinstance",
  .free "int",
  .free "bool",
  .free "tuple",
  .free "str",
  .free "len",
  .free "all",
  .free "any",
  .free "enumerate",
  .free "range",
  .free "list",
  .free "sorted",
  .free "set",
  .free "zip",
  .free "min",
  .free "max",
  .int "REACH" 1,
  .int "MOST_REACH" 48,
  .int "MOST_PLACES" 12,
  .int "MOST_TREES" 4,
  .int "MOST_NAMES" 24,
  .int "MOST_SIGNS" 8,
  .str "SIGNS" "abcdefghijklmnopqrstuvwxyz"]
/-- no list lies behind the top -/
def noL (o : Obj) : Bool := match o.cls with
  | .type c => !decide (c = "list")
  | _ => true
/-- what isinstance asks of the class World; no list -/
def exB (K : PySem.W.Frag) : Bool := He.eqO (PySem.W.findIn K (.ref (He.ga K "World")) "__class__") (some (some (.builtin "object.__class__"))) &&
  (He.eqO (PySem.W.specialIn K (.builtin "object.__class__") "__get__") (some (some (.builtin "getset_descriptor.__get__"))) &&
  (decide (PySem.W.takesIn K (.builtin "object.__class__") = some true) && (decide (PySem.W.mroIn K (He.ga K "World") (.type "object") = some true) && (decide (PySem.W.kitOne K (.ref (He.ga K "World")) (.ref (He.ga K "World")) = some true) && K.all fun p => noL p.2))))
abbrev AlJ : Type := He.AlD × Bool
def obsG (n : Nat) (fa : List He.Fa) (fn : List He.DefD) (ex : PySem.W.Frag → Bool) (g : Addr → Option Obj) : AlJ := (He.obsD fa fn (He.frG g (He.asD g n)), ex (He.frG g (He.asD g n)))
def hookG (n : Nat) (fa : List He.Fa) (fn : List He.DefD) (ex : PySem.W.Frag → Bool) : PySem.W.Hook where
  α := AlJ
  obs := fun s => obsG n fa fn ex s.heap.get?
  val := fun _ => (He.valD fn, true)
  says := fun _ h => ∃ K : PySem.W.Frag, K.In h ∧ He.SaysD fa fn K ∧ ex K = true
  of := fun _ _ e => ⟨_, He.frG_in, congrArg (fun z : AlJ => z.1) e, congrArg (fun z : AlJ => z.2) e⟩
  keeps := fun _ _ _ ⟨K, hK, c⟩ k => ⟨K, PySem.W.Frag.In.keeps hK k, c⟩
theorem obsG_eq {n : Nat} {fa : List He.Fa} {fn : List He.DefD} {ex : PySem.W.Frag → Bool} {g : Addr → Option Obj} {s : Shared} (h : ∀ a, g a = s.heap.get? a) : obsG n fa fn ex g = (hookG n fa fn ex).obs s := by
  have e : g = s.heap.get? := funext h
  rw [e] <;> rfl
abbrev hookJ : PySem.W.Hook := hookG 5 fa fn exB
def obsJ (g : Addr → Option Obj) : AlJ := obsG 5 fa fn exB g
def loose0 : List PySem.Str := [("REACH" : PySem.Str), ("MOST_REACH" : PySem.Str), ("MOST_PLACES" : PySem.Str), ("MOST_TREES" : PySem.Str), ("MOST_NAMES" : PySem.Str), ("__name__" : PySem.Str), ("ReachError" : PySem.Str), ("LostError" : PySem.Str), ("NoWorld" : PySem.Str), ("NoBook" : PySem.Str), ("NoReach" : PySem.Str), ("NoName" : PySem.Str), ("Apart" : PySem.Str), ("is_whole" : PySem.Str), ("is_within" : PySem.Str)]
def loose1 : List PySem.Str := [("is_tree" : PySem.Str), ("downward" : PySem.Str), ("steps_between" : PySem.Str), ("gaps" : PySem.Str), ("hangs_together" : PySem.Str), ("branch_around" : PySem.Str), ("least_gap" : PySem.Str), ("World" : PySem.Str), ("check_world" : PySem.Str), ("makes_part" : PySem.Str), ("is_part" : PySem.Str), ("part_in" : PySem.Str), ("part_far" : PySem.Str), ("part_hull" : PySem.Str), ("SIGNS" : PySem.Str)]
def loose2 : List PySem.Str := [("MOST_SIGNS" : PySem.Str), ("is_name" : PySem.Str), ("first_wrong" : PySem.Str), ("check_book" : PySem.Str), ("part_of" : PySem.Str), ("check_reach" : PySem.Str), ("closed" : PySem.Str), ("lots_of" : PySem.Str), ("stand" : PySem.Str), ("lots" : PySem.Str), ("together" : PySem.Str), ("rungs" : PySem.Str), ("meeting" : PySem.Str), ("ladder" : PySem.Str), ("together_by" : PySem.Str)]
def loose3 : List PySem.Str := [("check_both" : PySem.Str), ("needed" : PySem.Str), ("_law_cell" : PySem.Str), ("_law_purse" : PySem.Str), ("_law_pick" : PySem.Str), ("_law_wood" : PySem.Str), ("_law_grove" : PySem.Str), ("_law_gaps" : PySem.Str), ("_law_between_two" : PySem.Str), ("_law_limb" : PySem.Str), ("_law_piece" : PySem.Str), ("_law_point" : PySem.Str), ("_law_alone" : PySem.Str), ("_law_words" : PySem.Str), ("_law_strange" : PySem.Str)]
def loose4 : List PySem.Str := [("_law_some_piece" : PySem.Str), ("_law_along" : PySem.Str), ("_law_scene" : PySem.Str), ("_law_inner" : PySem.Str), ("_law_more" : PySem.Str), ("_law_spare" : PySem.Str), ("_law_twins_right" : PySem.Str), ("_law_right" : PySem.Str)]
def loose : List PySem.Str := loose0 ++ loose1 ++ loose2 ++ loose3 ++ loose4
end JR
set_option maxHeartbeats 0
namespace JR
open PySem PySem.W PySem.Calls PyProof.Rows
abbrev R : OpenRow := OpenLaw.row PySem.Challenge.rw_joinreach_k81_whole_alike_names_more
def ob (s : SharedT) : AlJ := obsJ (HandSHeadRun.getT s)
theorem ob_eq (s : SharedT) : ob s = hookJ.obs s.abs := obsG_eq (HandSHeadRun.getT_eq s)
theorem run (w : World) : HandSHeadRun.RunEq R (view R.prog [77]) hookJ ob 20000 loose w := by
  intro os
  kernel_rfl
end JR
set_option maxHeartbeats 1000000
/-! JD1: a def's state as data: frozen values, cells that are changed; what a step keeps; readings over data. -/
namespace JR
open PySem PySem.Spec PyProof.Rows L2

/-! ### values as data -/
inductive DV where
  | d (x : PyData)
  | w (t tb : PyData)
  | c (k : Nat)
  | s (xs : List Int)
  | kd (kvs : List (Str × PyData))
inductive Cell where
  | l (ds : List PyData)
  | p
  | k (ns : List Str)
  | i (fs : List (Str × PyData))
  | x
abbrev Env := List (Option DV)
abbrev Sto := List Cell
/-- no written part: data are tracked -/
abbrev KZ : PySem.W.Frag := []
structure Cf where
  P : Program
  w : World
  C : Addr

theorem same_t {K : PySem.W.Frag} {H H' : Hp} {a : Addr} {xs : List V} (e : Same H H') (h : SqT K H a xs) : SqT K H' a xs := by
  rcases h with (h | ⟨o, h⟩) | h
  · exact .inl (.inl (e _ _ h))
  · exact .inl (.inr ⟨o, e _ _ h⟩)
  · exact .inr h
mutual
theorem dp_same {K : PySem.W.Frag} {H H' : Hp} (e : Same H H') : ∀ (d : PyData) (v : V), Dp K H v d → Dp K H' v d
  | .none, _, .non => .non
  | .bool b, _, .bl _ => .bl b
  | .int i, _, .int _ => .int i
  | .str x, _, .str _ => .str x
  | .list ds, _, .lst hs ha => .lst (e.seq hs) (dps_same e ds _ ha)
  | .tuple ds, _, .tup hs ha => .tup (same_t e hs) (dps_same e ds _ ha)
theorem dps_same {K : PySem.W.Frag} {H H' : Hp} (e : Same H H') : ∀ (ds : List PyData) (vs : List V), DpAll K H vs ds → DpAll K H' vs ds
  | [], _, .nil => .nil
  | d :: ds, _, .cons h t => .cons (dp_same e d _ h) (dps_same e ds _ t)
end
theorem sql_k {K : PySem.W.Frag} {H : Hp} {a : Addr} {xs : List V} (h : SqL KZ H a xs) : SqL K H a xs := by
  rcases h with h | ⟨o, its, n, e, _⟩
  · exact .inl h
  · cases e
theorem sqt_k {K : PySem.W.Frag} {H : Hp} {a : Addr} {xs : List V} (h : SqT KZ H a xs) : SqT K H a xs := by
  rcases h with h | ⟨o, its, n, e, _⟩
  · exact .inl h
  · cases e
theorem sql_rd {H : Hp} {a : Addr} {xs : List V} (h : SqL KZ H a xs) : Rd H a (.lst xs) := by
  rcases h with h | ⟨o, its, n, e, _⟩
  · exact h
  · cases e
theorem sqt_rd {H : Hp} {a : Addr} {xs : List V} (h : SqT KZ H a xs) : Rd H a (.tup xs) := by
  rcases h with h | ⟨o, its, n, e, _⟩
  · exact h
  · cases e
mutual
theorem dp_k {K : PySem.W.Frag} {H : Hp} : ∀ (d : PyData) (v : V), Dp KZ H v d → Dp K H v d
  | .none, _, .non => .non
  | .bool b, _, .bl _ => .bl b
  | .int i, _, .int _ => .int i
  | .str x, _, .str _ => .str x
  | .list ds, _, .lst hs ha => .lst (sql_k hs) (dps_k ds _ ha)
  | .tuple ds, _, .tup hs ha => .tup (sqt_k hs) (dps_k ds _ ha)
theorem dps_k {K : PySem.W.Frag} {H : Hp} : ∀ (ds : List PyData) (vs : List V), DpAll KZ H vs ds → DpAll K H vs ds
  | [], _, .nil => .nil
  | d :: ds, _, .cons h t => .cons (dp_k d _ h) (dps_k ds _ t)
end
theorem dps_len {K : PySem.W.Frag} {H : Hp} : ∀ {vs : List V} {ds : List PyData}, DpAll K H vs ds → vs.length = ds.length
  | _, _, .nil => rfl
  | _, _, .cons _ t => congrArg Nat.succ (dps_len t)
theorem dps_get {K : PySem.W.Frag} {H : Hp} : ∀ {vs : List V} {ds : List PyData} {i : Nat} {d : PyData}, DpAll K H vs ds → ds[i]? = some d → ∃ v, vs[i]? = some v ∧ Dp K H v d
  | _, _, _, _, .nil, e => by simp at e
  | _, _, 0, _, .cons h _, e => by simp at e; subst e; exact ⟨_, rfl, h⟩
  | _, _, i + 1, _, .cons _ t, e => by
    obtain ⟨v, h1, h2⟩ := dps_get (i := i) t (by simpa using e)
    exact ⟨v, by simpa using h1, h2⟩
theorem dps_getV {K : PySem.W.Frag} {H : Hp} {vs : List V} {ds : List PyData} {i : Nat} {v : V} (h : DpAll K H vs ds) (e : vs[i]? = some v) : ∃ d, ds[i]? = some d ∧ Dp K H v d := by
  have hl := dps_len h
  have hi : i < ds.length := by rw [← hl]; exact (List.getElem?_eq_some_iff.mp e).1
  obtain ⟨v', e', hd⟩ := dps_get h (List.getElem?_eq_getElem hi)
  rw [e] at e'
  cases e'
  exact ⟨_, List.getElem?_eq_getElem hi, hd⟩
theorem dps_app {K : PySem.W.Frag} {H : Hp} : ∀ {vs : List V} {ds : List PyData} {us : List V} {es : List PyData}, DpAll K H vs ds → DpAll K H us es → DpAll K H (vs ++ us) (ds ++ es)
  | _, _, _, _, .nil, h => h
  | _, _, _, _, .cons a t, h => .cons a (dps_app t h)
theorem dps_snoc {K : PySem.W.Frag} {H : Hp} {vs : List V} {ds : List PyData} {v : V} {d : PyData} (h : DpAll K H vs ds) (a : Dp K H v d) : DpAll K H (vs ++ [v]) (ds ++ [d]) := dps_app h (.cons a .nil)
theorem dps_take {K : PySem.W.Frag} {H : Hp} : ∀ (n : Nat) {vs : List V} {ds : List PyData}, DpAll K H vs ds → DpAll K H (vs.take n) (ds.take n)
  | 0, _, _, _ => .nil
  | _ + 1, _, _, .nil => .nil
  | n + 1, _, _, .cons a t => .cons a (dps_take n t)
theorem dps_drop {K : PySem.W.Frag} {H : Hp} : ∀ (n : Nat) {vs : List V} {ds : List PyData}, DpAll K H vs ds → DpAll K H (vs.drop n) (ds.drop n)
  | 0, _, _, h => h
  | _ + 1, _, _, .nil => .nil
  | n + 1, _, _, .cons _ t => dps_drop n t
theorem dps_rev {K : PySem.W.Frag} {H : Hp} : ∀ {vs : List V} {ds : List PyData}, DpAll K H vs ds → DpAll K H vs.reverse ds.reverse
  | _, _, .nil => .nil
  | _, _, .cons a t => by
    rw [List.reverse_cons, List.reverse_cons]
    exact dps_snoc (dps_rev t) a
theorem dps_ins {K : PySem.W.Frag} {H : Hp} {v : V} {d : PyData} (n : Nat) {vs : List V} {ds : List PyData} (h : DpAll K H vs ds) (a : Dp K H v d) : DpAll K H (vs.take n ++ v :: vs.drop n) (ds.take n ++ d :: ds.drop n) :=
  dps_app (dps_take n h) (.cons a (dps_drop n h))
theorem dps_erase {K : PySem.W.Frag} {H : Hp} : ∀ (n : Nat) {vs : List V} {ds : List PyData}, DpAll K H vs ds → DpAll K H (vs.eraseIdx n) (ds.eraseIdx n)
  | _, _, _, .nil => by simp; exact .nil
  | 0, _, _, .cons _ t => t
  | n + 1, _, _, .cons a t => .cons a (dps_erase n t)
theorem dps_of {K : PySem.W.Frag} {H : Hp} {α : Type} {f : α → V} {g : α → PyData} (h : ∀ a, Dp K H (f a) (g a)) : ∀ l : List α, DpAll K H (l.map f) (l.map g)
  | [] => .nil
  | a :: l => .cons (h a) (dps_of h l)
theorem dps_ints {K : PySem.W.Frag} {H : Hp} : ∀ {vs : List V} {ns : List Int}, DpAll K H vs (ns.map .int) → vs = ns.map V.int
  | _, [], .nil => rfl
  | _, n :: ns, .cons (.int _) t => by rw [dps_ints t]; rfl
theorem dps_bools {K : PySem.W.Frag} {H : Hp} : ∀ {vs : List V} {bs : List Bool}, DpAll K H vs (bs.map .bool) → vs = bs.map V.bl
  | _, [], .nil => rfl
  | _, n :: ns, .cons (.bl _) t => by rw [dps_bools t]; rfl
theorem dps_strs {K : PySem.W.Frag} {H : Hp} : ∀ {vs : List V} {bs : List Str}, DpAll K H vs (bs.map .str) → vs = bs.map V.str
  | _, [], .nil => rfl
  | _, n :: ns, .cons (.str _) t => by rw [dps_strs t]; rfl

/-- how a value stands for data -/
def DvR (g : Cf) (α : List Addr) (H0 : Hp) : V → DV → Prop
  | v, .d x => Dp KZ H0 v x
  | v, .w t tb => ∃ a dx tv tbv, v = .ref a ∧ H0 a = some (.ins g.C dx [("trees", tv), ("tables", tbv)]) ∧ Dp KZ H0 tv t ∧ Dp KZ H0 tbv tb
  | v, .c k => ∃ a, v = .ref a ∧ α[k]? = some a
  | v, .s xs => ∃ a S n, v = .ref a ∧ H0 a = some (SetO g.w a S n) ∧ (∀ k, S k = true ↔ k ∈ xs) ∧ n ≤ xs.length
  | v, .kd kvs => ∃ a vs, v = .ref a ∧ H0 a = some (.dK vs) ∧ Paired (fun (p : Key × V) (q : Str × PyData) => p.1 = Sum.inr q.1 ∧ Dp KZ H0 p.2 q.2) vs kvs
def CellR (g : Cf) (H0 H : Hp) (a : Addr) : Cell → Prop
  | .l ds => H0 a = none ∧ ∃ vs, H a = some (.lst vs) ∧ DpAll KZ H0 vs ds
  | .p => H0 a = none ∧ ∃ x y z : Int, H a = some (.lst [.int x, .int y, .int z])
  | .k ns => H0 a = none ∧ ∃ S n, H a = some (SetK g.P g.w a S n) ∧ (∀ k, S k = true ↔ ∃ x ∈ ns, k = Sum.inr x) ∧ n ≤ ns.length
  | .i fs => H0 a = none ∧ ∃ dx vs, H a = some (.ins g.C dx vs) ∧ Paired (fun (p : Str × V) (q : Str × PyData) => p.1 = q.1 ∧ Dp KZ H0 p.2 q.2) vs fs
  | .x => True

/-- a state: frozen part H0, cells at α -/
structure SS (g : Cf) (α : List Addr) (H0 : Hp) (ρ : Env) (μ : Sto) (σ : L2.St) (H : Hp) : Prop where
  ext : Same H0 H
  nd : α.Nodup
  len : α.length = μ.length
  cel : ∀ (k : Nat) (a : Addr) (c : Cell), α[k]? = some a → μ[k]? = some c → CellR g H0 H a c
  liv : ∀ a ∈ α, H a ≠ none
  sl : ρ.length = σ.length
  slot : ∀ (i : Nat) (dv : DV), ρ[i]? = some (some dv) → ∃ v, σ[i]? = some (some v) ∧ DvR g α H0 v dv
/-- what a step keeps -/
structure Stp (α : List Addr) (H0 H : Hp) (α' : List Addr) (H0' H' : Hp) : Prop where
  pre : ∃ l, α' = α ++ l
  ex : Same H0 H0'
  fr : ∀ b o, H b = some o → b ∉ α → H' b = some o
  al : ∀ b, H b ≠ none → H' b ≠ none
  nf : ∀ b, H0' b ≠ none → H0 b ≠ none ∨ H b = none ∨ b ∈ α
  nc : ∀ a ∈ α', a ∈ α ∨ H a = none

section
variable {g : Cf} {α α' α1 α2 : List Addr} {H0 H0' H01 H02 H H' H1 H2 : Hp} {ρ : Env} {μ : Sto} {σ : L2.St}
theorem Stp.refl (α : List Addr) (H0 H : Hp) : Stp α H0 H α H0 H := ⟨⟨[], by simp⟩, Same.refl _, fun _ _ h _ => h, fun _ h => h, fun _ h => .inl h, fun _ h => .inl h⟩
theorem Stp.trans (a : Stp α H0 H α1 H01 H1) (b : Stp α1 H01 H1 α2 H02 H2) : Stp α H0 H α2 H02 H2 where
  pre := by
    obtain ⟨l, e⟩ := a.pre
    obtain ⟨m, e'⟩ := b.pre
    exact ⟨l ++ m, by rw [e', e, List.append_assoc]⟩
  ex := a.ex.trans b.ex
  fr := fun c o h hn => by
    refine b.fr c o (a.fr c o h hn) fun hc => ?_
    rcases a.nc c hc with z | z
    · exact hn z
    · rw [h] at z; cases z
  al := fun c h => b.al c (a.al c h)
  nf := fun c h => by
    rcases b.nf c h with z | z | z
    · exact a.nf c z
    · refine .inr (.inl ?_)
      by_cases q : H c = none
      · exact q
      · exact absurd z (a.al c q)
    · rcases a.nc c z with q | q
      · exact .inr (.inr q)
      · exact .inr (.inl q)
  nc := fun c h => by
    rcases b.nc c h with z | z
    · exact a.nc c z
    · refine .inr ?_
      by_cases q : H c = none
      · exact q
      · exact absurd z (a.al c q)
theorem Stp.get (a : Stp α H0 H α1 H01 H1) {k : Nat} {x : Addr} (h : α[k]? = some x) : α1[k]? = some x := by
  obtain ⟨l, e⟩ := a.pre
  rw [e, List.getElem?_append_left (List.getElem?_eq_some_iff.mp h).1]
  exact h
theorem DvR.same {v : V} (hp : ∀ (k : Nat) (a : Addr), α[k]? = some a → α1[k]? = some a) (e : Same H0 H01) : ∀ {dv : DV}, DvR g α H0 v dv → DvR g α1 H01 v dv
  | .d x, h => dp_same e x v h
  | .w t tb, h => by
    obtain ⟨a, dx, tv, tbv, h1, h2, h3, h4⟩ := h
    exact ⟨a, dx, tv, tbv, h1, e _ _ h2, dp_same e _ _ h3, dp_same e _ _ h4⟩
  | .c k, h => by
    obtain ⟨a, h1, h2⟩ := h
    exact ⟨a, h1, hp _ _ h2⟩
  | .s xs, h => by
    obtain ⟨a, S, n, h1, h2, h3, h4⟩ := h
    exact ⟨a, S, n, h1, e _ _ h2, h3, h4⟩
  | .kd kvs, h => by
    obtain ⟨a, vs, h1, h2, h3⟩ := h
    exact ⟨a, vs, h1, e _ _ h2, Paired.mapP h3 fun p q z => ⟨z.1, dp_same e _ _ z.2⟩⟩
theorem DvR.mono {v : V} {dv : DV} (s : Stp α H0 H α1 H01 H1) (h : DvR g α H0 v dv) : DvR g α1 H01 v dv := DvR.same (fun _ _ q => s.get q) s.ex h
theorem SS.free (S : SS g α H0 ρ μ σ H) {p : Addr} (h : H p = none) : H0 p = none := by
  cases q : H0 p with
  | none => rfl
  | some o =>
    rw [S.ext p o q] at h
    cases h
theorem SS.nin (S : SS g α H0 ρ μ σ H) {p : Addr} (h : H p = none) : p ∉ α := fun z => S.liv p z h
theorem SS.lt (S : SS g α H0 ρ μ σ H) {k : Nat} {c : Cell} (h : μ[k]? = some c) : ∃ a, α[k]? = some a := by
  have hk : k < μ.length := (List.getElem?_eq_some_iff.mp h).1
  have hk' : k < α.length := by rw [S.len]; exact hk
  exact ⟨_, List.getElem?_eq_getElem hk'⟩
/-- cells under a larger frozen part and a heap that agrees at the cells -/
theorem CellR.mono {a : Addr} (e : Same H0 H01) (hn : H0 a = none → H01 a = none) (hh : H1 a = H a) : ∀ {c : Cell}, CellR g H0 H a c → CellR g H01 H1 a c
  | .l ds, h => by
    obtain ⟨h1, vs, h2, h3⟩ := h
    exact ⟨hn h1, vs, hh.trans h2, dps_same e _ _ h3⟩
  | .p, h => by
    obtain ⟨h1, x, y, z, h2⟩ := h
    exact ⟨hn h1, x, y, z, hh.trans h2⟩
  | .k ns, h => by
    obtain ⟨h1, S, n, h2, h3⟩ := h
    exact ⟨hn h1, S, n, hh.trans h2, h3⟩
  | .i fs, h => by
    obtain ⟨h1, dx, vs, h2, h3⟩ := h
    exact ⟨hn h1, dx, vs, hh.trans h2, Paired.mapP h3 fun p q z => ⟨z.1, dp_same e _ _ z.2⟩⟩
  | .x, _ => trivial
/-- a new object, frozen at once -/
theorem SS.new (S : SS g α H0 ρ μ σ H) {p : Addr} {o : HO} (h : H p = none) : SS g α (upd H0 p o) ρ μ σ (upd H p o) := by
  have h0 := S.free h
  have e0 : Same H0 (upd H0 p o) := fun b u q => by rw [upd_ne (ne_of_none q h0)]; exact q
  refine ⟨fun b u q => ?_, S.nd, S.len, fun k a c h1 h2 => ?_, fun a ha => ?_, S.sl, fun i dv q => ?_⟩
  · by_cases hb : b = p
    · subst hb
      rw [upd_same] at q ⊢
      exact q
    · rw [upd_ne hb] at q ⊢
      exact S.ext b u q
  · have ne : a ≠ p := fun z => S.nin h (z ▸ List.mem_of_getElem? h1)
    exact CellR.mono e0 (fun z => by rw [upd_ne ne]; exact z) (upd_ne ne) (S.cel k a c h1 h2)
  · by_cases hb : a = p
    · rw [hb, upd_same]; simp
    · rw [upd_ne hb]; exact S.liv a ha
  · obtain ⟨v, h1, h2⟩ := S.slot i dv q
    exact ⟨v, h1, DvR.same (fun _ _ z => z) e0 h2⟩
theorem Stp.new {p : Addr} {o : HO} (S : SS g α H0 ρ μ σ H) (h : H p = none) : Stp α H0 H α (upd H0 p o) (upd H p o) := by
  have h0 := S.free h
  refine ⟨⟨[], by simp⟩, fun b u q => by rw [upd_ne (ne_of_none q h0)]; exact q, fun b u q _ => by rw [upd_ne (ne_of_none q h)]; exact q, fun b q => ?_, fun b q => ?_, fun _ q => .inl q⟩
  · by_cases hb : b = p
    · rw [hb, upd_same]; simp
    · rw [upd_ne hb]; exact q
  · by_cases hb : b = p
    · rw [hb]; exact .inr (.inl h)
    · rw [upd_ne hb] at q; exact .inl q
/-- a new object that is only known to H (a list under way) -/
theorem SS.side (S : SS g α H0 ρ μ σ H) {p : Addr} {o : HO} (h : H0 p = none) (hp : p ∉ α) : SS g α H0 ρ μ σ (upd H p o) := by
  refine ⟨fun b u q => by rw [upd_ne (ne_of_none q h)]; exact S.ext b u q, S.nd, S.len, fun k a c h1 h2 => ?_, fun a ha => ?_, S.sl, S.slot⟩
  · have ne : a ≠ p := fun z => hp (z ▸ List.mem_of_getElem? h1)
    exact CellR.mono (Same.refl _) (fun z => z) (upd_ne ne) (S.cel k a c h1 h2)
  · by_cases hb : a = p
    · rw [hb, upd_same]; simp
    · rw [upd_ne hb]; exact S.liv a ha
/-- what lay aside is frozen -/
theorem SS.freeze (S : SS g α H0 ρ μ σ H) {p : Addr} {o : HO} (h0 : H0 p = none) (hp : p ∉ α) (h : H p = some o) : SS g α (upd H0 p o) ρ μ σ H := by
  have e0 : Same H0 (upd H0 p o) := fun b u q => by rw [upd_ne (ne_of_none q h0)]; exact q
  refine ⟨fun b u q => ?_, S.nd, S.len, fun k a c h1 h2 => ?_, S.liv, S.sl, fun i dv q => ?_⟩
  · by_cases hb : b = p
    · subst hb
      rw [upd_same] at q
      cases q
      exact h
    · rw [upd_ne hb] at q
      exact S.ext b u q
  · have ne : a ≠ p := fun z => hp (z ▸ List.mem_of_getElem? h1)
    exact CellR.mono e0 (fun z => by rw [upd_ne ne]; exact z) rfl (S.cel k a c h1 h2)
  · obtain ⟨v, h1, h2⟩ := S.slot i dv q
    exact ⟨v, h1, DvR.same (fun _ _ z => z) e0 h2⟩
/-- what lay aside becomes a cell -/
theorem SS.cell (S : SS g α H0 ρ μ σ H) {p : Addr} {c : Cell} (hp : p ∉ α) (h : CellR g H0 H p c) (hl : H p ≠ none) : SS g (α ++ [p]) H0 ρ (μ ++ [c]) σ H := by
  refine ⟨S.ext, ?_, by simp [S.len], fun k a c' h1 h2 => ?_, fun a ha => ?_, S.sl, fun i dv q => ?_⟩
  · rw [List.nodup_append]
    refine ⟨S.nd, by simp, fun a ha b hb => ?_⟩
    have e : b = p := by simpa using hb
    subst e
    exact fun z => hp (z ▸ ha)
  · by_cases hk : k < α.length
    · rw [List.getElem?_append_left hk] at h1
      rw [List.getElem?_append_left (by rw [← S.len]; exact hk)] at h2
      exact S.cel k a c' h1 h2
    · have hk2 : k = α.length := by
        have := (List.getElem?_eq_some_iff.mp h1).1
        simp at this
        omega
      subst hk2
      have e1 : a = p := by simpa using h1.symm
      rw [S.len] at h2
      have e2 : c' = c := by simpa using h2.symm
      rw [e1, e2]
      exact h
  · rcases List.mem_append.mp ha with z | z
    · exact S.liv a z
    · have e : a = p := by simpa using z
      rw [e]; exact hl
  · obtain ⟨v, h1, h2⟩ := S.slot i dv q
    refine ⟨v, h1, DvR.same (fun k a z => ?_) (Same.refl _) h2⟩
    rw [List.getElem?_append_left (List.getElem?_eq_some_iff.mp z).1]
    exact z
/-- a cell is changed -/
theorem SS.put (S : SS g α H0 ρ μ σ H) {k : Nat} {p : Addr} {c : Cell} {o : HO} (hk : α[k]? = some p) (h0 : H0 p = none) (h : CellR g H0 (upd H p o) p c) : SS g α H0 ρ (μ.set k c) σ (upd H p o) := by
  refine ⟨fun b u q => by rw [upd_ne (ne_of_none q h0)]; exact S.ext b u q, S.nd, by simp [S.len], fun j a c' h1 h2 => ?_, fun a ha => ?_, S.sl, S.slot⟩
  · by_cases hj : j = k
    · subst hj
      rw [hk] at h1
      cases h1
      have hlt : j < μ.length := by rw [← S.len]; exact (List.getElem?_eq_some_iff.mp hk).1
      rw [List.getElem?_set_self hlt] at h2
      cases h2
      exact h
    · rw [List.getElem?_set_ne (Ne.symm hj)] at h2
      have ne : a ≠ p := fun z => by
        subst z
        obtain ⟨l1, e1⟩ := List.getElem?_eq_some_iff.mp h1
        obtain ⟨l2, e2⟩ := List.getElem?_eq_some_iff.mp hk
        exact hj ((List.getElem_inj S.nd).mp (e1.trans e2.symm))
      exact CellR.mono (Same.refl _) (fun z => z) (upd_ne ne) (S.cel j a c' h1 h2)
  · by_cases hb : a = p
    · rw [hb, upd_same]; simp
    · rw [upd_ne hb]; exact S.liv a ha
theorem Stp.put {k : Nat} {p : Addr} {o : HO} (hk : α[k]? = some p) : Stp α H0 H α H0 (upd H p o) := by
  refine ⟨⟨[], by simp⟩, Same.refl _, fun b u q hn => ?_, fun b q => ?_, fun _ q => .inl q, fun _ q => .inl q⟩
  · rw [upd_ne fun (z : b = p) => hn (by rw [z]; exact List.mem_of_getElem? hk)]; exact q
  · by_cases hb : b = p
    · rw [hb, upd_same]; simp
    · rw [upd_ne hb]; exact q
/-- a cell is frozen for good -/
theorem SS.frz (S : SS g α H0 ρ μ σ H) {k : Nat} {p : Addr} {o : HO} (hk : α[k]? = some p) (h0 : H0 p = none) (h : H p = some o) : SS g α (upd H0 p o) ρ (μ.set k .x) σ H := by
  have e0 : Same H0 (upd H0 p o) := fun b u q => by rw [upd_ne (ne_of_none q h0)]; exact q
  refine ⟨fun b u q => ?_, S.nd, by simp [S.len], fun j a c' h1 h2 => ?_, S.liv, S.sl, fun i dv q => ?_⟩
  · by_cases hb : b = p
    · subst hb
      rw [upd_same] at q
      cases q
      exact h
    · rw [upd_ne hb] at q
      exact S.ext b u q
  · by_cases hj : j = k
    · subst hj
      have hlt : j < μ.length := by rw [← S.len]; exact (List.getElem?_eq_some_iff.mp hk).1
      rw [List.getElem?_set_self hlt] at h2
      cases h2
      trivial
    · rw [List.getElem?_set_ne (Ne.symm hj)] at h2
      have ne : a ≠ p := fun z => by
        subst z
        obtain ⟨l1, e1⟩ := List.getElem?_eq_some_iff.mp h1
        obtain ⟨l2, e2⟩ := List.getElem?_eq_some_iff.mp hk
        exact hj ((List.getElem_inj S.nd).mp (e1.trans e2.symm))
      exact CellR.mono e0 (fun z => by rw [upd_ne ne]; exact z) rfl (S.cel j a c' h1 h2)
  · obtain ⟨v, h1, h2⟩ := S.slot i dv q
    exact ⟨v, h1, DvR.same (fun _ _ z => z) e0 h2⟩
theorem Stp.frz {k : Nat} {p : Addr} {o : HO} (hk : α[k]? = some p) (h0 : H0 p = none) : Stp α H0 H α (upd H0 p o) H := by
  refine ⟨⟨[], by simp⟩, fun b u q => by rw [upd_ne (ne_of_none q h0)]; exact q, fun _ _ q _ => q, fun _ q => q, fun b q => ?_, fun _ q => .inl q⟩
  by_cases hb : b = p
  · rw [hb]; exact .inr (.inr (List.mem_of_getElem? hk))
  · rw [upd_ne hb] at q; exact .inl q
/-- a slot is stored -/
theorem SS.store (S : SS g α H0 ρ μ σ H) {i : Nat} {v : V} {dv : DV} (h : DvR g α H0 v dv) : SS g α H0 (ρ.set i (some dv)) μ (σ.set i (some v)) H := by
  refine ⟨S.ext, S.nd, S.len, S.cel, S.liv, by simp [S.sl], fun j dv' q => ?_⟩
  by_cases hj : i = j
  · subst hj
    by_cases hi : i < ρ.length
    · rw [List.getElem?_set_self hi] at q
      cases q
      exact ⟨v, by rw [List.getElem?_set_self (by rw [← S.sl]; exact hi)], h⟩
    · rw [List.getElem?_eq_none (by simpa using hi)] at q
      cases q
  · rw [List.getElem?_set_ne hj] at q
    obtain ⟨w, h1, h2⟩ := S.slot j dv' q
    exact ⟨w, by rw [List.getElem?_set_ne hj]; exact h1, h2⟩
def wipeD (ρ : Env) : List Nat → Env
  | [] => ρ
  | v :: vs => (wipeD ρ vs).set v none
theorem wipeD_some {i : Nat} {x : DV} : ∀ {vs : List Nat}, (wipeD ρ vs)[i]? = some (some x) → ρ[i]? = some (some x) ∧ i ∉ vs
  | [], h => ⟨h, by simp⟩
  | v :: vs, h => by
    unfold wipeD at h
    by_cases hi : v = i
    · subst hi
      by_cases hv : v < (wipeD ρ vs).length
      · rw [List.getElem?_set_self hv] at h; cases h
      · rw [List.getElem?_eq_none (by simpa using hv)] at h; cases h
    · rw [List.getElem?_set_ne hi] at h
      obtain ⟨h1, h2⟩ := wipeD_some h
      exact ⟨h1, by simp only [List.mem_cons, not_or]; exact ⟨fun e => hi e.symm, h2⟩⟩
theorem wipeD_len (ρ : Env) : ∀ vs : List Nat, (wipeD ρ vs).length = ρ.length
  | [] => rfl
  | v :: vs => by unfold wipeD; rw [List.length_set, wipeD_len ρ vs]
theorem wipe_at {σ : L2.St} {i : Nat} : ∀ {vs : List Nat}, i ∉ vs → (wipe σ vs)[i]? = σ[i]?
  | [], _ => rfl
  | v :: vs, h => by
    unfold wipe
    have h1 : v ≠ i := fun e => h (by simp [e])
    rw [List.getElem?_set_ne h1]
    exact wipe_at fun z => h (List.mem_cons_of_mem _ z)
theorem SS.wipe (S : SS g α H0 ρ μ σ H) (vs : List Nat) : SS g α H0 (wipeD ρ vs) μ (L2.wipe σ vs) H := by
  refine ⟨S.ext, S.nd, S.len, S.cel, S.liv, by rw [wipeD_len, wipe_length, S.sl], fun j dv' q => ?_⟩
  obtain ⟨h1, h2⟩ := wipeD_some q
  obtain ⟨v, h3, h4⟩ := S.slot j dv' h1
  exact ⟨v, by rw [wipe_at h2]; exact h3, h4⟩
/-- other slots: what is known of the heap goes over -/
theorem SS.slots {ρ' : Env} {σ' : L2.St} {α0 : List Addr} {H00 : Hp} {μ0 : Sto} {Hh : Hp} (S : SS g α H0 ρ μ σ H) (T : SS g α0 H00 ρ' μ0 σ' Hh) (t : Stp α0 H00 Hh α H0 H) : SS g α H0 ρ' μ σ' H :=
  ⟨S.ext, S.nd, S.len, S.cel, S.liv, T.sl, fun i dv q => by
    obtain ⟨v, h1, h2⟩ := T.slot i dv q
    exact ⟨v, h1, DvR.mono t h2⟩⟩
end
end JR
set_option maxHeartbeats 1000000
/-! JD2: readings over data: expressions, tests, arguments, new lists, statements, loops, comprehensions. -/
namespace JR
open PySem PySem.Spec PyProof.Rows L2

abbrev TD := Env → Sto → (DV → Sto → Prop) → Prop
abbrev TTd := Env → Sto → (Bool → Sto → Prop) → Prop
abbrev TAd := Env → Sto → (List DV → Sto → Prop) → Prop
abbrev TLd := Env → Sto → (List PyData → Sto → Prop) → Prop
abbrev TId := Env → Sto → (List PyData → (Sto → Prop) → Sto → Prop) → Prop
structure EndsD where
  nx : Env → Sto → Prop
  rt : DV → Sto → Prop
  bk : Env → Sto → Prop := fun _ _ => False
  ct : Env → Sto → Prop := fun _ _ => False
abbrev TSd := EndsD → Env → Sto → Prop

section
variable (g : Cf)
def uTE (td : TD) : TE := fun σ H Q => ∃ α H0 ρ μ R, SS g α H0 ρ μ σ H ∧ td ρ μ R ∧ ∀ α' H0' μ' H' v dv, SS g α' H0' ρ μ' σ H' → Stp α H0 H α' H0' H' → DvR g α' H0' v dv → R dv μ' → Q v H'
def uTT (td : TTd) : TT := fun σ H Q => ∃ α H0 ρ μ R, SS g α H0 ρ μ σ H ∧ td ρ μ R ∧ ∀ α' H0' μ' H' b, SS g α' H0' ρ μ' σ H' → Stp α H0 H α' H0' H' → R b μ' → Q b H'
def uTA (td : TAd) : TA := fun σ H Q => ∃ α H0 ρ μ R, SS g α H0 ρ μ σ H ∧ td ρ μ R ∧ ∀ α' H0' μ' H' vs dvs, SS g α' H0' ρ μ' σ H' → Stp α H0 H α' H0' H' → Paired (DvR g α' H0') vs dvs → R dvs μ' → Q vs H'
/-- a list just made, that nothing else knows -/
def uTL (td : TLd) : TE := fun σ H Q => ∃ α H0 ρ μ R, SS g α H0 ρ μ σ H ∧ td ρ μ R ∧ ∀ α' H0' μ' H' p vs ds, SS g α' H0' ρ μ' σ H' → Stp α H0 H α' H0' H' → H' p = some (.lst vs) → H0' p = none → p ∉ α' → H p = none → DpAll KZ H0' vs ds → R ds μ' → Q (.ref p) H'
structure ED (α : List Addr) (H0 H : Hp) (DD : EndsD) (D : Ends) : Prop where
  nx : ∀ α' H0' ρ' μ' σ' H', SS g α' H0' ρ' μ' σ' H' → Stp α H0 H α' H0' H' → DD.nx ρ' μ' → D.nx σ' H'
  rt : ∀ α' H0' ρ' μ' σ' H' v dv, SS g α' H0' ρ' μ' σ' H' → Stp α H0 H α' H0' H' → DvR g α' H0' v dv → DD.rt dv μ' → D.rt v H'
  bk : ∀ α' H0' ρ' μ' σ' H', SS g α' H0' ρ' μ' σ' H' → Stp α H0 H α' H0' H' → DD.bk ρ' μ' → D.bk σ' H'
  ct : ∀ α' H0' ρ' μ' σ' H', SS g α' H0' ρ' μ' σ' H' → Stp α H0 H α' H0' H' → DD.ct ρ' μ' → D.ct σ' H'
def uTS (td : TSd) : TS := fun D σ H => ∃ α H0 ρ μ DD, SS g α H0 ρ μ σ H ∧ td DD ρ μ ∧ ED g α H0 H DD D
/-- more is frozen, more cells -/
structure Grw (α : List Addr) (H0 : Hp) (α' : List Addr) (H0' : Hp) : Prop where
  pre : ∃ l, α' = α ++ l
  ex : Same H0 H0'
/-- what is walked: items that stand while stay holds of the cells -/
structure WalkD (α : List Addr) (H0 H : Hp) (J : It) (items : List PyData) (stay : Sto → Prop) : Prop where
  goes : ∀ i α' H0' ρ μ σ H', i < items.length → SS g α' H0' ρ μ σ H' → Grw α H0 α' H0' → stay μ → J.go i H' ∧ ∀ x H'', J.yld i H' x H'' → ∃ H0'' d, SS g α' H0'' ρ μ σ H'' ∧ Stp α' H0' H' α' H0'' H'' ∧ items[i]? = some d ∧ Dp KZ H0'' x d
  stops : ∀ α' H0' ρ μ σ H', SS g α' H0' ρ μ σ H' → Grw α H0 α' H0' → stay μ → J.stop items.length H'
def uTI (wd : TId) : TI := fun σ H R => ∃ α H0 ρ μ RR, SS g α H0 ρ μ σ H ∧ wd ρ μ RR ∧ ∀ α' H0' μ' H' J items stay, SS g α' H0' ρ μ' σ H' → Stp α H0 H α' H0' H' → WalkD g α' H0' H' J items stay → RR items stay μ' → R J H'
end

section
variable {g : Cf} {α α1 : List Addr} {H0 H H01 H1 : Hp} {DD : EndsD} {D : Ends}
theorem ED.step (E : ED g α H0 H DD D) (s : Stp α H0 H α1 H01 H1) : ED g α1 H01 H1 DD D :=
  ⟨fun α' H0' ρ' μ' σ' H' S t h => E.nx α' H0' ρ' μ' σ' H' S (s.trans t) h, fun α' H0' ρ' μ' σ' H' v dv S t r h => E.rt α' H0' ρ' μ' σ' H' v dv S (s.trans t) r h,
    fun α' H0' ρ' μ' σ' H' S t h => E.bk α' H0' ρ' μ' σ' H' S (s.trans t) h, fun α' H0' ρ' μ' σ' H' S t h => E.ct α' H0' ρ' μ' σ' H' S (s.trans t) h⟩
theorem Stp.grw (s : Stp α H0 H α1 H01 H1) : Grw α H0 α1 H01 := ⟨s.pre, s.ex⟩
theorem Grw.refl (α : List Addr) (H0 : Hp) : Grw α H0 α H0 := ⟨⟨[], by simp⟩, Same.refl _⟩
theorem Grw.trans {α2 : List Addr} {H02 : Hp} (a : Grw α H0 α1 H01) (b : Grw α1 H01 α2 H02) : Grw α H0 α2 H02 := ⟨by
  obtain ⟨l, e⟩ := a.pre
  obtain ⟨m, e'⟩ := b.pre
  exact ⟨l ++ m, by rw [e', e, List.append_assoc]⟩, a.ex.trans b.ex⟩
theorem DvR.grow {v : V} {dv : DV} (t : Grw α H0 α1 H01) (h : DvR g α H0 v dv) : DvR g α1 H01 v dv := DvR.same (fun k x q => by
  obtain ⟨l, e⟩ := t.pre
  rw [e, List.getElem?_append_left (List.getElem?_eq_some_iff.mp q).1]
  exact q) t.ex h
theorem SS.slotsG {ρ ρ' : Env} {μ μ0 : Sto} {σ σ' : L2.St} {α0 : List Addr} {H00 : Hp} {Hh : Hp} (S : SS g α H0 ρ μ σ H) (T : SS g α0 H00 ρ' μ0 σ' Hh) (t : Grw α0 H00 α H0) : SS g α H0 ρ' μ σ' H :=
  ⟨S.ext, S.nd, S.len, S.cel, S.liv, T.sl, fun i dv q => by
    obtain ⟨v, h1, h2⟩ := T.slot i dv q
    exact ⟨v, h1, DvR.grow t h2⟩⟩
theorem WalkD.step {J : It} {items : List PyData} {stay : Sto → Prop} (W : WalkD g α H0 H J items stay) (s : Stp α H0 H α1 H01 H1) : WalkD g α1 H01 H1 J items stay :=
  ⟨fun i α' H0' ρ μ σ H' hi S t k => W.goes i α' H0' ρ μ σ H' hi S (s.grw.trans t) k, fun α' H0' ρ μ σ H' S t k => W.stops α' H0' ρ μ σ H' S (s.grw.trans t) k⟩
end

section
variable {X : Cx} {e a b : Expr} {st : Stmt} {sts : List Stmt}
theorem _root_.L2.PE.imp {t t' : TE} (h : PE X e t) (i : ∀ σ H Q, t' σ H Q → t σ H Q) : PE X e t' := ⟨fun pins s σ H Q I q => h.run pins s σ H Q I (i σ H Q q)⟩
theorem _root_.L2.PT.imp {t t' : TT} (h : PT X e t) (i : ∀ σ H Q, t' σ H Q → t σ H Q) : PT X e t' := ⟨fun pins s σ H Q I q => h.run pins s σ H Q I (i σ H Q q)⟩
theorem _root_.L2.PW.imp {t t' : TT} (h : PW X e t) (i : ∀ σ H Q, t' σ H Q → t σ H Q) : PW X e t' := ⟨fun wh pins s σ H Q I q => h.run wh pins s σ H Q I (i σ H Q q)⟩
theorem _root_.L2.PA.imp {es : List Expr} {t t' : TA} (h : PA X es t) (i : ∀ σ H Q, t' σ H Q → t σ H Q) : PA X es t' := ⟨fun pos pins s σ H Q I q => h.run pos pins s σ H Q I (i σ H Q q)⟩
theorem _root_.L2.PI.imp {tg : Expr} {t t' : TI} (h : PI X tg e t) (i : ∀ σ H R, t' σ H R → t σ H R) : PI X tg e t' := ⟨fun pins s σ H Q I q => h.run pins s σ H Q I (i σ H Q q)⟩
theorem _root_.L2.PS.imp {t t' : TS} (h : PS X st t) (i : ∀ D σ H, t' D σ H → t D σ H) : PS X st t' := ⟨fun pins s σ H D I q => h.run pins s σ H D I (i D σ H q)⟩
theorem _root_.L2.PSs.imp {t t' : TS} (h : PSs X sts t) (i : ∀ D σ H, t' D σ H → t D σ H) : PSs X sts t' := ⟨fun pins s σ H D I q => h.run pins s σ H D I (i D σ H q)⟩
theorem _root_.L2.PTs.imp {ifs : List Expr} {t t' : TT} (h : PTs X ifs t) (i : ∀ σ H Q, t' σ H Q → t σ H Q) : PTs X ifs t' := ⟨fun pins s σ H Q I q => h.run pins s σ H Q I (i σ H Q q)⟩
theorem _root_.L2.PO.imp {o : Option Expr} {t t' : TO} (h : PO X o t) (i : ∀ σ H Q, t' σ H Q → t σ H Q) : PO X o t' := ⟨fun pins s σ H Q I q => h.run pins s σ H Q I (i σ H Q q)⟩
end

/-! ### names, constants -/
def tdVar (i : Nat) : TD := fun ρ μ R => ∃ dv, ρ[i]? = some (some dv) ∧ R dv μ
def tdC (x : PyData) : TD := fun _ μ R => R (.d x) μ
section
variable {X : Cx} {g : Cf} {e a b : Expr} {pos : Pos}
theorem jd_var {i : Nat} (h : PE X e (tVar i)) : PE X e (uTE g (tdVar i)) := h.imp fun σ H Q ⟨α, H0, ρ, μ, R, S, ⟨dv, e1, r⟩, k⟩ => by
  obtain ⟨v, h1, h2⟩ := S.slot i dv e1
  exact ⟨v, h1, k α H0 μ H v dv S (Stp.refl _ _ _) h2 r⟩
theorem jd_c {v : V} {x : PyData} (h : PE X e (tC v)) (hx : ∀ H, Dp KZ H v x) : PE X e (uTE g (tdC x)) := h.imp fun σ H Q ⟨α, H0, ρ, μ, R, S, r, k⟩ => k α H0 μ H v (.d x) S (Stp.refl _ _ _) (hx H0) r
theorem jd_int {i : Int} {j} : PE X (.Constant (.int i) j pos) (uTE g (tdC (.int i))) := jd_c pe_int fun _ => .int i
theorem jd_bl {i : Bool} {j} : PE X (.Constant (.bool i) j pos) (uTE g (tdC (.bool i))) := jd_c pe_bl fun _ => .bl i
theorem jd_non {j} : PE X (.Constant .none j pos) (uTE g (tdC .none)) := jd_c pe_non fun _ => .non
theorem jd_str {x : Str} {j} : PE X (.Constant (.str x) j pos) (uTE g (tdC (.str x))) := jd_c pe_str fun _ => .str x
theorem jd_gint {x : Str} {i : Int} (hm : ∃ t, X.mg x = some (.int i t)) (hg : Gl X x) (hd : (x == ("__debug__" : Str)) = false := by decide) : PE X (.Name x pos) (uTE g (tdC (.int i))) := by
  obtain ⟨t, e⟩ := hm
  exact jd_c (pe_glob (v := .int i) hg e ⟨t, rfl⟩ hd) fun _ => .int i
theorem jd_gstr {x z : Str} (hm : ∃ t, X.mg x = some (.str z t)) (hg : Gl X x) (hd : (x == ("__debug__" : Str)) = false := by decide) : PE X (.Name x pos) (uTE g (tdC (.str z))) := by
  obtain ⟨t, e⟩ := hm
  exact jd_c (pe_glob (v := .str z) hg e ⟨t, rfl⟩ hd) fun _ => .str z
end

/-! ### two-place operations -/
abbrev OpFn := DV → DV → Sto → (DV → Sto → Prop) → Prop
def OpD (g : Cf) (r : R2) (f : OpFn) : Prop := ∀ α H0 ρ μ σ H x y dx dy R Q, SS g α H0 ρ μ σ H → DvR g α H0 x dx → DvR g α H0 y dy → f dx dy μ R →
  (∀ α' H0' μ' H' v dv, SS g α' H0' ρ μ' σ H' → Stp α H0 H α' H0' H' → DvR g α' H0' v dv → R dv μ' → Q v H') → r x y H Q
def tdOp (f : OpFn) (ta tb : TD) : TD := fun ρ μ R => ta ρ μ fun x μ1 => tb ρ μ1 fun y μ2 => f x y μ2 R
/-- a two-place operation that makes nothing -/
def fS (f : DV → DV → Option PyData) : OpFn := fun x y μ R => ∃ z, f x y = some z ∧ R (.d z) μ
section
variable {X : Cx} {g : Cf} {e a b : Expr} {pos : Pos} {ta tb : TD}
theorem tdOp_imp {r : R2} {f : OpFn} (hd : OpD g r f) : ∀ σ H Q, uTE g (tdOp f ta tb) σ H Q → tOp r (uTE g ta) (uTE g tb) σ H Q := fun σ H Q ⟨α, H0, ρ, μ, R, S, h, k⟩ =>
  ⟨α, H0, ρ, μ, _, S, h, fun α1 H01 μ1 H1 x dx S1 p1 rx h1 => ⟨α1, H01, ρ, μ1, _, S1, h1, fun α2 H02 μ2 H2 y dy S2 p2 ry h2 =>
    hd α2 H02 ρ μ2 σ H2 x y dx dy R Q S2 (rx.mono p2) ry h2 fun α3 H03 μ3 H3 v dv S3 p3 rv q => k α3 H03 μ3 H3 v dv S3 (p1.trans (p2.trans p3)) rv q⟩⟩
theorem jd_op {op : Operator} {r : R2} {f : OpFn} (ho : OpR X (binaryOp op) r) (hd : OpD g r f) (ha : PE X a (uTE g ta)) (hb : PE X b (uTE g tb)) : PE X (.BinOp a op b pos) (uTE g (tdOp f ta tb)) := (pe_op ho ha hb).imp (tdOp_imp hd)
theorem jd_cmp {op : CmpOp} {r : R2} {f : OpFn} (ho : OpR X (compareOp op) r) (hd : OpD g r f) (ha : PE X a (uTE g ta)) (hb : PE X b (uTE g tb)) (hm : behindInMarks op b = false) : PE X (.Compare a [op] [b] pos) (uTE g (tdOp f ta tb)) := (pe_cmpR ho ha hb hm).imp (tdOp_imp hd)
/-- an expression whose value is a truth, as a test -/
def tdB (t : TD) : TTd := fun ρ μ R => t ρ μ fun x μ1 => ∃ c, x = .d (.bool c) ∧ R c μ1
theorem jt_val {t : TD} (h : PE X e (uTE g t)) (he : ∀ whole, isTrue e X.env whole = (do let v ← whole; standAt e.pos; holding [v] (truthy v)) := by intro _; rfl) : PT X e (uTT g (tdB t)) := (pt_val h he).imp fun σ H Q ⟨α, H0, ρ, μ, R, S, q, k⟩ =>
  ⟨α, H0, ρ, μ, _, S, q, fun α1 H01 μ1 H1 v dv S1 p1 rv ⟨c, e, q1⟩ => by
    subst e
    cases (show Dp KZ H01 v (.bool c) from rv)
    exact ⟨c, rfl, k α1 H01 μ1 H1 c S1 p1 q1⟩⟩
theorem jt_cmp {op : CmpOp} {r : R2} {f : OpFn} (ho : OpR X (compareOp op) r) (hd : OpD g r f) (ha : PE X a (uTE g ta)) (hb : PE X b (uTE g tb)) (hm : behindInMarks op b = false) : PT X (.Compare a [op] [b] pos) (uTT g (tdB (tdOp f ta tb))) := (pt_cmpR ho ha hb hm).imp fun σ H Q ⟨α, H0, ρ, μ, R, S, q, k⟩ => by
  refine tdOp_imp hd σ H _ ⟨α, H0, ρ, μ, _, S, q, fun α1 H01 μ1 H1 v dv S1 p1 rv ⟨c, e, q1⟩ => ?_⟩
  subst e
  cases (show Dp KZ H01 v (.bool c) from rv)
  exact ⟨c, rfl, k α1 H01 μ1 H1 c S1 p1 q1⟩
/-! ### and, or, not -/
def tdAnd (t u : TTd) : TTd := fun ρ μ R => t ρ μ fun c μ1 => if c = true then u ρ μ1 R else R false μ1
def tdOr (t u : TTd) : TTd := fun ρ μ R => t ρ μ fun c μ1 => if c = true then R true μ1 else u ρ μ1 R
def tdNot (t : TTd) : TTd := fun ρ μ R => t ρ μ fun c μ1 => R (!c) μ1
theorem tdAnd_imp {tA tB : TTd} : ∀ σ H Q, uTT g (tdAnd tA tB) σ H Q → tAnd (uTT g tA) (uTT g tB) σ H Q := fun σ H Q ⟨α, H0, ρ, μ, R, S, q, k⟩ =>
  ⟨α, H0, ρ, μ, _, S, q, fun α1 H01 μ1 H1 c S1 p1 q1 => by
    cases c with
    | true =>
      rw [if_pos rfl] at q1 ⊢
      exact ⟨α1, H01, ρ, μ1, R, S1, q1, fun α2 H02 μ2 H2 b S2 p2 q2 => k α2 H02 μ2 H2 b S2 (p1.trans p2) q2⟩
    | false =>
      rw [if_neg Bool.false_ne_true] at q1 ⊢
      exact k α1 H01 μ1 H1 false S1 p1 q1⟩
theorem tdOr_imp {tA tB : TTd} : ∀ σ H Q, uTT g (tdOr tA tB) σ H Q → tOr (uTT g tA) (uTT g tB) σ H Q := fun σ H Q ⟨α, H0, ρ, μ, R, S, q, k⟩ =>
  ⟨α, H0, ρ, μ, _, S, q, fun α1 H01 μ1 H1 c S1 p1 q1 => by
    cases c with
    | true =>
      rw [if_pos rfl] at q1 ⊢
      exact k α1 H01 μ1 H1 true S1 p1 q1
    | false =>
      rw [if_neg Bool.false_ne_true] at q1 ⊢
      exact ⟨α1, H01, ρ, μ1, R, S1, q1, fun α2 H02 μ2 H2 b S2 p2 q2 => k α2 H02 μ2 H2 b S2 (p1.trans p2) q2⟩⟩
variable {tA tB : TTd} {rest : List Expr}
theorem jw_and1 (ha : PT X a (uTT g tA)) : PW X (.BoolOp .And [a] pos) (uTT g tA) := pw_and1 ha
theorem jw_or1 (ha : PT X a (uTT g tA)) : PW X (.BoolOp .Or [a] pos) (uTT g tA) := pw_or1 ha
theorem jw_and (ha : PT X a (uTT g tA)) (hb : PW X (.BoolOp .And (b :: rest) pos) (uTT g tB)) : PW X (.BoolOp .And (a :: b :: rest) pos) (uTT g (tdAnd tA tB)) := (pw_and ha hb).imp tdAnd_imp
theorem jw_or (ha : PT X a (uTT g tA)) (hb : PW X (.BoolOp .Or (b :: rest) pos) (uTT g tB)) : PW X (.BoolOp .Or (a :: b :: rest) pos) (uTT g (tdOr tA tB)) := (pw_or ha hb).imp tdOr_imp
theorem jt_not (ha : PT X a (uTT g tA)) : PT X (.UnaryOp .Not a pos) (uTT g (tdNot tA)) := (pt_not ha).imp fun σ H Q ⟨α, H0, ρ, μ, R, S, q, k⟩ =>
  ⟨α, H0, ρ, μ, _, S, q, fun α1 H01 μ1 H1 c S1 p1 q1 => k α1 H01 μ1 H1 (!c) S1 p1 q1⟩
/-- and, or, not as values of truths -/
def tdAndV (t u : TD) : TD := fun ρ μ R => t ρ μ fun x μ1 => ∃ c, x = .d (.bool c) ∧ if c = true then u ρ μ1 R else R (.d (.bool false)) μ1
def tdOrV (t u : TD) : TD := fun ρ μ R => t ρ μ fun x μ1 => ∃ c, x = .d (.bool c) ∧ if c = true then R (.d (.bool true)) μ1 else u ρ μ1 R
def tdNotV (t : TD) : TD := fun ρ μ R => t ρ μ fun x μ1 => ∃ c, x = .d (.bool c) ∧ R (.d (.bool (!c))) μ1
theorem jd_one {op : BoolOp} (ha : PE X a (uTE g ta)) : PE X (.BoolOp op [a] pos) (uTE g ta) := pe_one ha
theorem jd_and (ha : PE X a (uTE g ta)) (hb : PE X (.BoolOp .And (b :: rest) pos) (uTE g tb)) : PE X (.BoolOp .And (a :: b :: rest) pos) (uTE g (tdAndV ta tb)) := (pe_and ha hb).imp fun σ H Q ⟨α, H0, ρ, μ, R, S, q, k⟩ =>
  ⟨α, H0, ρ, μ, _, S, q, fun α1 H01 μ1 H1 v dv S1 p1 rv ⟨c, e, q1⟩ => by
    subst e
    cases (show Dp KZ H01 v (.bool c) from rv)
    refine ⟨c, rfl, ?_⟩
    cases c with
    | true =>
      rw [if_pos rfl] at q1 ⊢
      exact ⟨α1, H01, ρ, μ1, R, S1, q1, fun α2 H02 μ2 H2 v dv S2 p2 rv q2 => k α2 H02 μ2 H2 v dv S2 (p1.trans p2) rv q2⟩
    | false =>
      rw [if_neg Bool.false_ne_true] at q1 ⊢
      exact k α1 H01 μ1 H1 (.bl false) (.d (.bool false)) S1 p1 (.bl false) q1⟩
theorem jd_or (ha : PE X a (uTE g ta)) (hb : PE X (.BoolOp .Or (b :: rest) pos) (uTE g tb)) : PE X (.BoolOp .Or (a :: b :: rest) pos) (uTE g (tdOrV ta tb)) := (pe_or ha hb).imp fun σ H Q ⟨α, H0, ρ, μ, R, S, q, k⟩ =>
  ⟨α, H0, ρ, μ, _, S, q, fun α1 H01 μ1 H1 v dv S1 p1 rv ⟨c, e, q1⟩ => by
    subst e
    cases (show Dp KZ H01 v (.bool c) from rv)
    refine ⟨c, rfl, ?_⟩
    cases c with
    | true =>
      rw [if_pos rfl] at q1 ⊢
      exact k α1 H01 μ1 H1 (.bl true) (.d (.bool true)) S1 p1 (.bl true) q1
    | false =>
      rw [if_neg Bool.false_ne_true] at q1 ⊢
      exact ⟨α1, H01, ρ, μ1, R, S1, q1, fun α2 H02 μ2 H2 v dv S2 p2 rv q2 => k α2 H02 μ2 H2 v dv S2 (p1.trans p2) rv q2⟩⟩
theorem jd_not (ha : PE X a (uTE g ta)) : PE X (.UnaryOp .Not a pos) (uTE g (tdNotV ta)) := (pe_not ha).imp fun σ H Q ⟨α, H0, ρ, μ, R, S, q, k⟩ =>
  ⟨α, H0, ρ, μ, _, S, q, fun α1 H01 μ1 H1 v dv S1 p1 rv ⟨c, e, q1⟩ => by
    subst e
    cases (show Dp KZ H01 v (.bool c) from rv)
    exact ⟨c, rfl, k α1 H01 μ1 H1 (.bl (!c)) (.d (.bool (!c))) S1 p1 (.bl _) q1⟩⟩
/-- two comparisons in a row -/
def tdChain (f f' : OpFn) (ta tb tc : TD) : TD := fun ρ μ R => ta ρ μ fun x μ1 => tb ρ μ1 fun y μ2 => f x y μ2 fun z μ3 => ∃ k, z = .d (.bool k) ∧ if k = true then tc ρ μ3 fun w μ4 => f' y w μ4 R else R (.d (.bool false)) μ3
theorem jd_chain {c : Expr} {tc : TD} {op op' : CmpOp} {r r' : R2} {f f' : OpFn} (ho : OpR X (compareOp op) r) (hd : OpD g r f) (ho' : OpR X (compareOp op') r') (hd' : OpD g r' f') (ha : PE X a (uTE g ta)) (hb : PE X b (uTE g tb)) (hc : PE X c (uTE g tc)) (hm : lastMarks [op, op'] [b, c] = false := by rfl) :
    PE X (.Compare a [op, op'] [b, c] pos) (uTE g (tdChain f f' ta tb tc)) := (pe_chain ho ho' ha hb hc hm).imp fun σ H Q ⟨α, H0, ρ, μ, R, S, h, k⟩ =>
  ⟨α, H0, ρ, μ, _, S, h, fun α1 H01 μ1 H1 x dx S1 p1 rx h1 => ⟨α1, H01, ρ, μ1, _, S1, h1, fun α2 H02 μ2 H2 y dy S2 p2 ry h2 =>
    hd α2 H02 ρ μ2 σ H2 x y dx dy _ _ S2 (rx.mono p2) ry h2 fun α3 H03 μ3 H3 v dv S3 p3 rv ⟨c, e, q⟩ => by
      subst e
      cases (show Dp KZ H03 v (.bool c) from rv)
      refine ⟨c, rfl, ?_⟩
      cases c with
      | true =>
        rw [if_pos rfl] at q ⊢
        exact ⟨α3, H03, ρ, μ3, _, S3, q, fun α4 H04 μ4 H4 w dw S4 p4 rw' h4 => hd' α4 H04 ρ μ4 σ H4 y w dy dw R Q S4 (ry.mono (p3.trans p4)) rw' h4 fun α5 H05 μ5 H5 v dv S5 p5 rv q5 =>
          k α5 H05 μ5 H5 v dv S5 (p1.trans (p2.trans (p3.trans (p4.trans p5)))) rv q5⟩
      | false =>
        rw [if_neg Bool.false_ne_true] at q ⊢
        exact k α3 H03 μ3 H3 (.bl false) (.d (.bool false)) S3 (p1.trans (p2.trans p3)) (.bl false) q⟩⟩
end

/-! ### arguments -/
def tdNil : TAd := fun _ μ R => R [] μ
def tdCons (t : TD) (u : TAd) : TAd := fun ρ μ R => t ρ μ fun x μ1 => u ρ μ1 fun xs μ2 => R (x :: xs) μ2
section
variable {X : Cx} {g : Cf} {e : Expr} {es : List Expr} {t : TD} {u : TAd}
theorem ja_nil : PA X [] (uTA g tdNil) := pa_nil.imp fun σ H Q ⟨α, H0, ρ, μ, R, S, q, k⟩ => k α H0 μ H [] [] S (Stp.refl _ _ _) .nil q
theorem paired_mono {α α1 : List Addr} {H0 H H01 H1 : Hp} (p : Stp α H0 H α1 H01 H1) {vs : List V} {dvs : List DV} (h : Paired (DvR g α H0) vs dvs) : Paired (DvR g α1 H01) vs dvs := Paired.mapP h fun _ _ z => DvR.mono p z
theorem ja_cons (h : PE X e (uTE g t)) (hr : PA X es (uTA g u)) (hs : starEach (e :: es) X.env = (false, eval e X.env) :: starEach es X.env := by rfl) : PA X (e :: es) (uTA g (tdCons t u)) := (pa_cons h hr hs).imp fun σ H Q ⟨α, H0, ρ, μ, R, S, q, k⟩ =>
  ⟨α, H0, ρ, μ, _, S, q, fun α1 H01 μ1 H1 v dv S1 p1 rv q1 => ⟨α1, H01, ρ, μ1, _, S1, q1, fun α2 H02 μ2 H2 vs dvs S2 p2 rvs q2 => k α2 H02 μ2 H2 (v :: vs) (dv :: dvs) S2 (p1.trans p2) (.cons (rv.mono p2) rvs) q2⟩⟩
end

/-! ### new lists: frozen, or a cell of the frame -/
def tdFz (t : TLd) : TD := fun ρ μ R => t ρ μ fun ds μ1 => R (.d (.list ds)) μ1
def tdOwn (t : TLd) : TD := fun ρ μ R => t ρ μ fun ds μ1 => R (.c μ1.length) (μ1 ++ [.l ds])
theorem Stp.aside {α α1 : List Addr} {H0 H H01 H1 : Hp} {p : Addr} {o : HO} (s : Stp α H0 H α1 H01 H1) (h : H p = none) (h0 : H01 p = none) : Stp α H0 H α1 (upd H01 p o) H1 := by
  refine ⟨s.pre, fun b u q => ?_, s.fr, s.al, fun b q => ?_, s.nc⟩
  · rw [upd_ne (ne_of_none (s.ex b u q) h0)]
    exact s.ex b u q
  · by_cases hb : b = p
    · rw [hb]; exact .inr (.inl h)
    · rw [upd_ne hb] at q; exact s.nf b q
theorem Stp.cell {α α1 : List Addr} {H0 H H01 H1 : Hp} {p : Addr} (s : Stp α H0 H α1 H01 H1) (h : H p = none) : Stp α H0 H (α1 ++ [p]) H01 H1 := by
  refine ⟨?_, s.ex, s.fr, s.al, s.nf, fun a ha => ?_⟩
  · obtain ⟨l, e⟩ := s.pre
    exact ⟨l ++ [p], by rw [e, List.append_assoc]⟩
  · rcases List.mem_append.mp ha with z | z
    · exact s.nc a z
    · have e : a = p := by simpa using z
      rw [e]; exact .inr h
theorem upd_grow {H0 : Hp} {p : Addr} {o : HO} (h0 : H0 p = none) : Same H0 (upd H0 p o) := fun b u q => by rw [upd_ne (ne_of_none q h0)]; exact q
theorem tdFz_imp {g : Cf} {t : TLd} : ∀ σ H Q, uTE g (tdFz t) σ H Q → uTL g t σ H Q := fun σ H Q ⟨α, H0, ρ, μ, R, S, q, k⟩ =>
  ⟨α, H0, ρ, μ, _, S, q, fun α1 H01 μ1 H1 p vs ds S1 p1 hp h0 hn hH hd q1 =>
    k α1 _ μ1 H1 (.ref p) (.d (.list ds)) (S1.freeze h0 hn hp) (p1.aside hH h0) (.lst (.of upd_same) (dps_same (upd_grow h0) _ _ hd)) q1⟩
theorem tdOwn_imp {g : Cf} {t : TLd} : ∀ σ H Q, uTE g (tdOwn t) σ H Q → uTL g t σ H Q := fun σ H Q ⟨α, H0, ρ, μ, R, S, q, k⟩ =>
  ⟨α, H0, ρ, μ, _, S, q, fun α1 H01 μ1 H1 p vs ds S1 p1 hp h0 hn hH hd q1 =>
    k (α1 ++ [p]) H01 (μ1 ++ [.l ds]) H1 (.ref p) (.c μ1.length) (S1.cell (c := .l ds) hn ⟨h0, vs, hp, hd⟩ (by rw [hp]; simp)) (p1.cell hH) ⟨p, rfl, by rw [← S1.len]; simp⟩ q1⟩
section
variable {X : Cx} {g : Cf} {e : Expr} {t : TLd}
theorem jd_fz (h : PE X e (uTL g t)) : PE X e (uTE g (tdFz t)) := h.imp tdFz_imp
theorem jd_own (h : PE X e (uTL g t)) : PE X e (uTE g (tdOwn t)) := h.imp tdOwn_imp
/-- a cell's list, handed back: frozen for good -/
def tdThaw (t : TD) : TD := fun ρ μ R => t ρ μ fun x μ1 => ∃ k ds, x = .c k ∧ μ1[k]? = some (.l ds) ∧ R (.d (.list ds)) (μ1.set k .x)
theorem jd_thaw {t : TD} (h : PE X e (uTE g t)) : PE X e (uTE g (tdThaw t)) := h.imp fun σ H Q ⟨α, H0, ρ, μ, R, S, q, k⟩ =>
  ⟨α, H0, ρ, μ, _, S, q, fun α1 H01 μ1 H1 v dv S1 p1 rv ⟨j, ds, e, hj, q1⟩ => by
    subst e
    obtain ⟨a, e, ha⟩ := rv
    subst e
    obtain ⟨h0, vs, hp, hd⟩ := S1.cel j a _ ha hj
    exact k α1 _ _ H1 (.ref a) (.d (.list ds)) (S1.frz ha h0 hp) (p1.trans (Stp.frz ha h0)) (.lst (.of upd_same) (dps_same (upd_grow h0) _ _ hd)) q1⟩
end
end JR
set_option maxHeartbeats 1000000
/-! JD3: targets, statements, loops, comprehensions over data. -/
namespace JR
open PySem PySem.Spec PyProof.Rows L2

/-! ### statements -/
def tdNext : TSd := fun D ρ μ => D.nx ρ μ
def tdSeq (t u : TSd) : TSd := fun D ρ μ => t { D with nx := u D } ρ μ
def tdCont : TSd := fun D ρ μ => D.ct ρ μ
def tdRet (t : TD) : TSd := fun D ρ μ => t ρ μ D.rt
def tdDrop (t : TD) : TSd := fun D ρ μ => t ρ μ fun _ μ1 => D.nx ρ μ1
def tdSet (i : Nat) (t : TD) : TSd := fun D ρ μ => t ρ μ fun x μ1 => D.nx (ρ.set i (some x)) μ1
def tdIf (c : TTd) (t u : TSd) : TSd := fun D ρ μ => c ρ μ fun b μ1 => if b = true then t D ρ μ1 else u D ρ μ1
def tdNever : TSd := fun _ _ _ => False
/-- a, b = e1, e2 -/
def tdPar (i j : Nat) (t u : TD) : TSd := fun D ρ μ => t ρ μ fun x μ1 => u ρ μ1 fun y μ2 => D.nx ((ρ.set i (some x)).set j (some y)) μ2
def tdAug (i : Nat) (f : Int → Int → Int) (t : TD) : TSd := fun D ρ μ => t ρ μ fun y μ1 => ∃ n m, ρ[i]? = some (some (.d (.int n))) ∧ y = .d (.int m) ∧ D.nx (ρ.set i (some (.d (.int (f n m))))) μ1
section
variable {X : Cx} {g : Cf} {e : Expr} {st : Stmt} {rest : List Stmt} {t u : TSd} {te : TD} {pos : Pos}
theorem js_nil : PSs X [] (uTS g tdNext) := pss_nil.imp fun D σ H ⟨α, H0, ρ, μ, DD, S, h, E⟩ => E.nx α H0 ρ μ σ H S (Stp.refl _ _ _) h
theorem tdSeq_imp : ∀ D σ H, uTS g (tdSeq t u) D σ H → tSeq (uTS g t) (uTS g u) D σ H := fun D σ H ⟨α, H0, ρ, μ, DD, S, h, E⟩ =>
  ⟨α, H0, ρ, μ, { DD with nx := u DD }, S, h, ⟨fun α1 H01 ρ1 μ1 σ1 H1 S1 p1 h1 => ⟨α1, H01, ρ1, μ1, DD, S1, h1, E.step p1⟩, E.rt, E.bk, E.ct⟩⟩
theorem js_cons (h1 : PS X st (uTS g t)) (h2 : PSs X rest (uTS g u)) : PSs X (st :: rest) (uTS g (tdSeq t u)) := (pss_cons h1 h2).imp tdSeq_imp
theorem js_one (h1 : PS X st (uTS g t)) : PSs X [st] (uTS g t) := pss_one h1
theorem js_cont : PS X (.Continue pos) (uTS g tdCont) := ps_continue.imp fun D σ H ⟨α, H0, ρ, μ, DD, S, h, E⟩ => E.ct α H0 ρ μ σ H S (Stp.refl _ _ _) h
theorem js_never : PS X st (uTS g tdNever) := ps_never.imp fun D σ H ⟨α, H0, ρ, μ, DD, S, h, E⟩ => h.elim
theorem js_ret (h : PE X e (uTE g te)) : PS X (.Return (some e) pos) (uTS g (tdRet te)) := (ps_ret h).imp fun D σ H ⟨α, H0, ρ, μ, DD, S, h, E⟩ =>
  ⟨α, H0, ρ, μ, _, S, h, fun α1 H01 μ1 H1 v dv S1 p1 rv q => E.rt α1 H01 ρ μ1 σ H1 v dv S1 p1 rv q⟩
theorem js_expr (h : PE X e (uTE g te)) (hs : swapsWith e none pos.line X.env = pure false := by rfl) : PS X (.Expr e pos) (uTS g (tdDrop te)) := (ps_expr h hs).imp fun D σ H ⟨α, H0, ρ, μ, DD, S, h, E⟩ =>
  ⟨α, H0, ρ, μ, _, S, h, fun α1 H01 μ1 H1 v dv S1 p1 rv q => E.nx α1 H01 ρ μ1 σ H1 S1 p1 q⟩
theorem tdSet_imp {i : Nat} : ∀ D σ H, uTS g (tdSet i te) D σ H → tAsg (uTE g te) (gName i) D σ H := fun D σ H ⟨α, H0, ρ, μ, DD, S, h, E⟩ =>
  ⟨α, H0, ρ, μ, _, S, h, fun α1 H01 μ1 H1 v dv S1 p1 rv q => E.nx α1 H01 _ μ1 _ H1 (S1.store rv) p1 q⟩
theorem js_set {i : Nat} {x : Str} {pos' : Pos} (hN : X.N.Nodup) (hi : X.N[i]? = some x) (hx : Loc X.env.scope x) (he : PE X e (uTE g te)) (hs : swapsWith e (some (.Name x pos')) pos.line X.env = pure false := by rfl)
    (hf : X.fn x = true ∨ X.env.scope.names.lookup x = some .local := by first | exact .inl rfl | exact .inr rfl | assumption) : PS X (.Assign [.Name x pos'] e pos) (uTS g (tdSet i te)) := (ps_set hN hi hx he hs hf).imp tdSet_imp
theorem js_if {c : Expr} {a b : List Stmt} {tc : TTd} (hc : PT X c (uTT g tc)) (ha : PSs X a (uTS g t)) (hb : PSs X b (uTS g u)) : PS X (.If c a b pos) (uTS g (tdIf tc t u)) := (ps_if hc ha hb).imp fun D σ H ⟨α, H0, ρ, μ, DD, S, h, E⟩ =>
  ⟨α, H0, ρ, μ, _, S, h, fun α1 H01 μ1 H1 b S1 p1 q => by
    cases b with
    | true =>
      rw [if_pos rfl] at q ⊢
      exact ⟨α1, H01, ρ, μ1, DD, S1, q, E.step p1⟩
    | false =>
      rw [if_neg Bool.false_ne_true] at q ⊢
      exact ⟨α1, H01, ρ, μ1, DD, S1, q, E.step p1⟩⟩
theorem js_par {i j : Nat} {x y : Str} {a b : Expr} {ta tb : TD} {px py pt : Pos} {kt k2 pt2} (hc : X.calm = true) (hN : X.N.Nodup) (hi : X.N[i]? = some x) (hj : X.N[j]? = some y) (hij : i ≠ j)
    (hx : X.env.scope.names.lookup x = some .local) (hy : X.env.scope.names.lookup y = some .local) (ha : PE X a (uTE g ta)) (hb : PE X b (uTE g tb))
    (hw : swappedStores [.Tuple [.Name x px, .Name y py] kt pt] (.Tuple [a, b] k2 pt2) X.env = pure (some [x, y]))
    (hs : swapsWithSole [.Tuple [.Name x px, .Name y py] kt pt] (.Tuple [a, b] k2 pt2) pos.line X.env = pure false := by rfl)
    (h1 : starEach [a, b] X.env = (false, eval a X.env) :: starEach [b] X.env := by rfl) (h2 : starEach [b] X.env = (false, eval b X.env) :: starEach [] X.env := by rfl) :
    PS X (.Assign [.Tuple [.Name x px, .Name y py] kt pt] (.Tuple [a, b] k2 pt2) pos) (uTS g (tdPar i j ta tb)) :=
  (ps_par hc hN hi hj hij hx hy (pa_cons ha (pa_cons hb pa_nil h2) h1) hw hs).imp fun D σ H ⟨α, H0, ρ, μ, DD, S, h, E⟩ =>
    ⟨α, H0, ρ, μ, _, S, h, fun α1 H01 μ1 H1 v dv S1 p1 rv q => ⟨α1, H01, ρ, μ1, _, S1, q, fun α2 H02 μ2 H2 w dw S2 p2 rw' q2 =>
      ⟨v, w, rfl, E.nx α2 H02 _ μ2 _ H2 ((S2.store (rv.mono p2)).store rw') (p1.trans p2) q2⟩⟩⟩
theorem js_aug {i : Nat} {x : Str} {op : Operator} {f : Int → Int → Int} {pos' : Pos} (hN : X.N.Nodup) (hi : X.N[i]? = some x) (hx : Loc X.env.scope x) (he : PE X e (uTE g te)) (ho : PIp X op (ipI f))
    (hf : X.fn x = true ∨ X.env.scope.names.lookup x = some .local := by first | exact .inl rfl | exact .inr rfl | assumption) : PS X (.AugAssign (.Name x pos') op e pos) (uTS g (fun D ρ μ => (∃ n, ρ[i]? = some (some (.d (.int n)))) ∧ tdAug i f te D ρ μ)) :=
  (ps_aug hN hi hx he ho hf).imp fun D σ H ⟨α, H0, ρ, μ, DD, S, ⟨⟨n0, h0⟩, h⟩, E⟩ => by
    obtain ⟨v, h1, h2⟩ := S.slot i _ h0
    cases (show Dp KZ H0 v (.int n0) from h2)
    refine ⟨.int n0, h1, α, H0, ρ, μ, _, S, h, fun α1 H01 μ1 H1 w dw S1 p1 rw' ⟨n, m, e1, e2, q⟩ => ?_⟩
    rw [h0] at e1
    cases e1
    subst e2
    cases (show Dp KZ H01 w (.int m) from rw')
    exact ⟨n0, m, rfl, rfl, E.nx α1 H01 _ μ1 _ H1 (S1.store (show DvR g α1 H01 (.int (f n0 m)) (.d (.int (f n0 m))) from .int _)) p1 q⟩
end

/-! ### targets: a name, or several -/
inductive Tg where
  | n (i : Nat)
  | t (is : List Nat)
def Tg.ix : Tg → List Nat
  | .n i => [i]
  | .t is => is
def gNames : List Nat → TGs
  | [] => gNil
  | i :: is => gCons (gName i) (gNames is)
def tgG (K : PySem.W.Frag) : Tg → TG
  | .n i => gName i
  | .t is => gTup K is.length (gNames is)
def setAll (ρ : Env) : List Nat → List PyData → Env
  | i :: is, d :: ds => setAll (ρ.set i (some (.d d))) is ds
  | _, _ => ρ
def tgD : Tg → PyData → Env → (Env → Prop) → Prop
  | .n i, d, ρ, R => R (ρ.set i (some (.d d)))
  | .t is, d, ρ, R => ∃ ds, d = .tuple ds ∧ ds.length = is.length ∧ R (setAll ρ is ds)
theorem wipe_in {σ : L2.St} {i : Nat} {o : Option V} : ∀ {vs : List Nat}, i ∈ vs → L2.wipe (σ.set i o) vs = L2.wipe σ vs
  | v :: vs, h => by
    unfold L2.wipe
    by_cases e : i ∈ vs
    · rw [wipe_in e]
    · have e2 : i = v := by
        rcases List.mem_cons.mp h with z | z
        · exact z
        · exact absurd z e
      subst e2
      have key : ∀ (vs : List Nat), i ∉ vs → L2.wipe (σ.set i o) vs = (L2.wipe σ vs).set i o := by
        intro vs
        induction vs with
        | nil => intro _; rfl
        | cons v vs ih =>
          intro hn
          unfold L2.wipe
          rw [ih fun z => hn (List.mem_cons_of_mem _ z)]
          exact List.set_comm _ _ (fun z => hn (by simp [z]))
      rw [key vs e, List.set_set]
section
variable {g : Cf} {α : List Addr} {H0 H : Hp} {μ : Sto}
theorem names_ok {vw : List Nat} : ∀ {is : List Nat} {xs : List V} {ds : List PyData} {ρ : Env} {σ : L2.St} {Q : L2.St → Hp → Prop}, SS g α H0 ρ μ σ H → DpAll KZ H0 xs ds → ds.length = is.length → (∀ i ∈ is, i ∈ vw) →
    (∀ σ', SS g α H0 (setAll ρ is ds) μ σ' H → L2.wipe σ' vw = L2.wipe σ vw → Q σ' H) → gNames is xs σ H Q
  | [], _, [], ρ, σ, Q, S, .nil, _, _, k => ⟨rfl, k σ S rfl⟩
  | i :: is, _, d :: ds, ρ, σ, Q, S, .cons (v := v) (vs := vs) h t, hl, hv, k => by
    refine ⟨v, vs, rfl, ?_⟩
    have S1 : SS g α H0 (ρ.set i (some (.d d))) μ (σ.set i (some v)) H := S.store (dv := .d d) h
    exact names_ok (vw := vw) S1 t (by simpa using hl) (fun j hj => hv j (List.mem_cons_of_mem _ hj)) fun σ' S' w => k σ' S' (w.trans (wipe_in (hv i (List.mem_cons_self ..))))
theorem tg_ok {K : PySem.W.Frag} {t : Tg} {v : V} {d : PyData} {ρ : Env} {σ : L2.St} {R : Env → Prop} {Q : L2.St → Hp → Prop} {vw : List Nat} (S : SS g α H0 ρ μ σ H) (hd : Dp KZ H0 v d) (h : tgD t d ρ R) (hv : ∀ i ∈ t.ix, i ∈ vw)
    (k : ∀ σ' ρ', SS g α H0 ρ' μ σ' H → L2.wipe σ' vw = L2.wipe σ vw → R ρ' → Q σ' H) : tgG K t v σ H Q := by
  cases t with
  | n i => exact k _ _ (S.store (dv := .d d) hd) (wipe_in (hv i (by simp [Tg.ix]))) h
  | t is =>
    obtain ⟨ds, rfl, hl, q⟩ := h
    cases hd with
    | tup hs ha =>
      rename_i a xs
      refine ⟨a, xs, rfl, ?_, by rw [dps_len ha, hl], names_ok (vw := vw) S ha hl hv fun σ' S' w => k σ' _ S' w q⟩
      exact sqt_k (same_t S.ext hs)
end
/-- target = value, the value data -/
def tdAsg (t : Tg) (te : TD) : TSd := fun D ρ μ => te ρ μ fun x μ1 => ∃ d, x = .d d ∧ tgD t d ρ fun ρ' => D.nx ρ' μ1
section
variable {X : Cx} {g : Cf} {e tg : Expr} {te : TD} {pos : Pos} {t : Tg}
theorem js_asg (he : PE X e (uTE g te)) (hg : PG X tg (tgG X.K t)) (hs : swapsWithSole [tg] e pos.line X.env = pure false := by rfl) (hw : swappedStores [tg] e X.env = pure none := by rfl)
    (h1 : (assignEach [tg] X.env).map (·.2) = [assign tg X.env] := by rfl) : PS X (.Assign [tg] e pos) (uTS g (tdAsg t te)) := (ps_asg he hg hs hw h1).imp fun D σ H ⟨α, H0, ρ, μ, DD, S, h, E⟩ =>
  ⟨α, H0, ρ, μ, _, S, h, fun α1 H01 μ1 H1 v dv S1 p1 rv ⟨d, e, q⟩ => by
    subst e
    exact tg_ok (vw := t.ix) S1 rv q (fun _ z => z) fun σ' ρ' S2 _ q2 => E.nx α1 H01 ρ' μ1 σ' H1 S2 p1 q2⟩
end

/-! ### for -/
section
variable (t : Tg) (tb : TSd) (stay : Sto → Prop) (D : EndsD)
def forGo : List PyData → Env → Sto → Prop
  | [], ρ, μ => stay μ ∧ D.nx ρ μ
  | x :: xs, ρ, μ => stay μ ∧ tgD t x ρ fun ρ1 => tb { nx := forGo xs, ct := forGo xs, bk := D.nx, rt := D.rt } ρ1 μ
end
def tdFor (wd : TId) (t : Tg) (tb : TSd) : TSd := fun D ρ μ => wd ρ μ fun items stay μ1 => forGo t tb stay D items ρ μ1
section
variable {X : Cx} {g : Cf} {e tg iter : Expr} {pos : Pos} {t : Tg} {wd : TId} {tb : TSd} {body : List Stmt}
theorem js_for (hp : PassesOwn (model X.prog X.w) X.A X.env X.xe) (hc : X.calm = true) (hi : PI X tg iter (uTI g wd)) (hg : PG X tg (tgG X.K t)) (hb : PSs X body (uTS g tb))
    (hs : ∀ x, foldedSetIterable iter X.env x = pure x := by intro _; rfl) : PS X (.For tg iter body [] pos) (uTS g (tdFor wd t tb)) := (ps_for hp hc hi hg hb hs).imp fun D σ H ⟨α, H0, ρ, μ, DD, S, h, E⟩ =>
  ⟨α, H0, ρ, μ, _, S, h, fun α1 H01 μ1 H1 J items stay S1 p1 W q => by
    refine ⟨fun i m σ' H' => ∃ α2 H02 ρ2 μ2, m = items.length - i ∧ i ≤ items.length ∧ SS g α2 H02 ρ2 μ2 σ' H' ∧ Stp α1 H01 H1 α2 H02 H' ∧ forGo t tb stay DD (items.drop i) ρ2 μ2, ⟨items.length, α1, H01, ρ, μ1, by simp, Nat.zero_le _, S1, Stp.refl _ _ _, by simpa using q⟩, ?_⟩
    rintro i m σ2 H2 ⟨α2, H02, ρ2, μ2, rfl, hi, S2, p2, q2⟩
    by_cases hlt : i < items.length
    · have hdr : items.drop i = items[i] :: items.drop (i + 1) := (List.drop_eq_getElem_cons hlt)
      rw [hdr] at q2
      obtain ⟨hst, q2⟩ := q2
      obtain ⟨hgo, hy⟩ := W.goes i α2 H02 ρ2 μ2 σ2 H2 hlt S2 p2.grw hst
      refine .inr ⟨hgo, fun σ' H' => ∃ α3 H03 ρ3 μ3, SS g α3 H03 ρ3 μ3 σ' H' ∧ Stp α1 H01 H1 α3 H03 H' ∧ forGo t tb stay DD (items.drop (i + 1)) ρ3 μ3, fun σ' H' ⟨α3, H03, ρ3, μ3, S3, p3, q3⟩ => ⟨items.length - (i + 1), by omega, α3, H03, ρ3, μ3, rfl, hlt, S3, p3, q3⟩, fun x H' y => ?_⟩
      obtain ⟨H0x, d, Sx, px, ed, hd⟩ := hy x H' y
      rw [List.getElem?_eq_getElem hlt] at ed
      cases ed
      refine tg_ok (vw := t.ix) Sx hd q2 (fun _ z => z) fun σ' ρ' S3 _ q3 => ?_
      have p3 := p2.trans px
      exact ⟨α2, H0x, ρ', μ2, _, S3, q3, ⟨fun α4 H04 ρ4 μ4 σ4 H4 S4 p4 q4 => ⟨α4, H04, ρ4, μ4, S4, p3.trans p4, q4⟩, fun α4 H04 ρ4 μ4 σ4 H4 v dv S4 p4 rv q4 => E.rt α4 H04 ρ4 μ4 σ4 H4 v dv S4 (p1.trans (p3.trans p4)) rv q4,
        fun α4 H04 ρ4 μ4 σ4 H4 S4 p4 q4 => E.nx α4 H04 ρ4 μ4 σ4 H4 S4 (p1.trans (p3.trans p4)) q4, fun α4 H04 ρ4 μ4 σ4 H4 S4 p4 q4 => ⟨α4, H04, ρ4, μ4, S4, p3.trans p4, q4⟩⟩⟩
    · have ei : i = items.length := by omega
      subst ei
      rw [List.drop_length] at q2
      exact .inl ⟨W.stops α2 H02 ρ2 μ2 σ2 H2 S2 p2.grw q2.1, E.nx α2 H02 ρ2 μ2 σ2 H2 S2 (p1.trans p2) q2.2⟩⟩
end

/-! ### while -/
def tdWhile (c : TTd) (tb : TSd) : TSd := fun D ρ μ => ∃ W : Nat → Env → Sto → Prop, (∃ m, W m ρ μ) ∧ ∀ m ρ μ, W m ρ μ →
  c ρ μ fun b μ1 => if b = true then tb { nx := fun ρ' μ' => ∃ m', m' < m ∧ W m' ρ' μ', ct := fun ρ' μ' => ∃ m', m' < m ∧ W m' ρ' μ', bk := D.nx, rt := D.rt } ρ μ1 else D.nx ρ μ1
section
variable {X : Cx} {g : Cf} {c : Expr} {pos : Pos} {tc : TTd} {tb : TSd} {body : List Stmt}
theorem js_while (hp : PassesOwn (model X.prog X.w) X.A X.env X.xe) (hc : PT X c (uTT g tc)) (hb : PSs X body (uTS g tb)) : PS X (.While c body [] pos) (uTS g (tdWhile tc tb)) := (ps_while hp hc hb).imp fun D σ H ⟨α, H0, ρ, μ, DD, S, ⟨W, ⟨m0, w0⟩, turn⟩, E⟩ =>
  ⟨fun m σ' H' => ∃ α' H0' ρ' μ', SS g α' H0' ρ' μ' σ' H' ∧ Stp α H0 H α' H0' H' ∧ W m ρ' μ', ⟨m0, α, H0, ρ, μ, S, Stp.refl _ _ _, w0⟩, fun m σ1 H1 ⟨α1, H01, ρ1, μ1, S1, p1, w1⟩ =>
    ⟨α1, H01, ρ1, μ1, _, S1, turn m ρ1 μ1 w1, fun α2 H02 μ2 H2 b S2 p2 q => by
      cases b with
      | true =>
        rw [if_pos rfl] at q ⊢
        have p := p1.trans p2
        exact ⟨fun σ' H' => ∃ m', m' < m ∧ ∃ α' H0' ρ' μ', SS g α' H0' ρ' μ' σ' H' ∧ Stp α H0 H α' H0' H' ∧ W m' ρ' μ', fun σ' H' ⟨m', hm, z⟩ => ⟨m', hm, z⟩, α2, H02, ρ1, μ2, _, S2, q,
          ⟨fun α4 H04 ρ4 μ4 σ4 H4 S4 p4 ⟨m', hm, z⟩ => ⟨m', hm, α4, H04, ρ4, μ4, S4, p.trans p4, z⟩, fun α4 H04 ρ4 μ4 σ4 H4 v dv S4 p4 rv q4 => E.rt α4 H04 ρ4 μ4 σ4 H4 v dv S4 (p.trans p4) rv q4,
            fun α4 H04 ρ4 μ4 σ4 H4 S4 p4 q4 => E.nx α4 H04 ρ4 μ4 σ4 H4 S4 (p.trans p4) q4, fun α4 H04 ρ4 μ4 σ4 H4 S4 p4 ⟨m', hm, z⟩ => ⟨m', hm, α4, H04, ρ4, μ4, S4, p.trans p4, z⟩⟩⟩
      | false =>
        rw [if_neg Bool.false_ne_true] at q ⊢
        exact E.nx α2 H02 ρ1 μ2 σ1 H2 S2 (p1.trans p2) q⟩⟩
end
end JR
set_option maxHeartbeats 1000000
/-! JD4: comprehensions, calls of defs, a def's promise over data. -/
namespace JR
open PySem PySem.Spec PyProof.Rows L2

section
variable {g : Cf} {α α1 : List Addr} {H0 H H01 H1 : Hp} {D : Addr} {o : HO}
theorem Stp.hold (s : Stp α H0 H α1 H01 H1) (h : H D = some o) (h0 : H0 D = none) (hn : D ∉ α) : H1 D = some o ∧ H01 D = none ∧ D ∉ α1 := by
  refine ⟨s.fr D o h hn, ?_, fun z => ?_⟩
  · cases q : H01 D with
    | none => rfl
    | some u =>
      rcases s.nf D (by rw [q]; simp) with z | z | z
      · exact absurd h0 z
      · rw [h] at z; cases z
      · exact absurd z hn
  · rcases s.nc D z with y | y
    · exact hn y
    · rw [h] at y; cases y
theorem Stp.sideW (s : Stp α H0 H α1 H01 H1) (h : H D = none) : Stp α H0 H α1 H01 (upd H1 D o) := by
  refine ⟨s.pre, s.ex, fun b u q hb => ?_, fun b q => ?_, s.nf, s.nc⟩
  · rw [upd_ne (ne_of_none q h)]; exact s.fr b u q hb
  · by_cases hb : b = D
    · rw [hb, upd_same]; simp
    · rw [upd_ne hb]; exact s.al b q
end

theorem wipe_wipe (σ : L2.St) : ∀ vs : List Nat, L2.wipe (L2.wipe σ vs) vs = L2.wipe σ vs
  | [] => rfl
  | v :: vs => by
    show (L2.wipe ((L2.wipe σ vs).set v none) vs).set v none = (L2.wipe σ vs).set v none
    by_cases e : v ∈ vs
    · rw [wipe_in e, wipe_wipe σ vs]
    · have key : ∀ (σ : L2.St) (us : List Nat), v ∉ us → L2.wipe (σ.set v none) us = (L2.wipe σ us).set v none := by
        intro σ us
        induction us with
        | nil => intro _; rfl
        | cons u us ih =>
          intro hn
          show (L2.wipe (σ.set v none) us).set u none = ((L2.wipe σ us).set u none).set v none
          rw [ih fun z => hn (List.mem_cons_of_mem _ z)]
          exact List.set_comm _ _ (fun z => hn (by simp [z]))
      rw [key _ vs e, wipe_wipe σ vs, List.set_set]
theorem tgD_mono {t : Tg} {d : PyData} {ρ : Env} {R R' : Env → Prop} (h : ∀ ρ', R ρ' → R' ρ') (q : tgD t d ρ R) : tgD t d ρ R' := by
  cases t with
  | n i => exact h _ q
  | t is =>
    obtain ⟨ds, e, hl, z⟩ := q
    exact ⟨ds, e, hl, h _ z⟩
/-! ### list comprehensions -/
section
variable (t : Tg) (tt : TTd) (te : TD) (ρw : Env) (stay : Sto → Prop) (R : List PyData → Sto → Prop)
def lcGo : List PyData → List PyData → Sto → Prop
  | [], acc, μ => stay μ ∧ R acc μ
  | x :: xs, acc, μ => stay μ ∧ tgD t x ρw fun ρ1 => tt ρ1 μ fun b μ2 => if b = true then te ρ1 μ2 fun dv μ3 => ∃ d, dv = .d d ∧ acc.length < 100000 ∧ lcGo xs (acc ++ [d]) μ3 else lcGo xs acc μ2
end
def tdLc (wd : TId) (t : Tg) (tt : TTd) (te : TD) (vs : List Nat) : TLd := fun ρ μ R => wd ρ μ fun items stay μ1 => lcGo t tt te (wipeD ρ vs) stay R items [] μ1
def tdYes : TTd := fun _ μ R => R true μ
section
variable {g : Cf} {t : Tg} {wd : TId} {tt : TTd} {te : TD} {vs : List Nat}
theorem small5 {n : Nat} (h : n < 100000) : n < sizeLine := by rw [sizeLine_eq]; omega
theorem tdLc_imp {K : PySem.W.Frag} (hv : ∀ i ∈ t.ix, i ∈ vs) : ∀ σ H Q, uTL g (tdLc wd t tt te vs) σ H Q → tLc (uTI g wd) (tgG K t) (uTT g tt) (uTE g te) vs σ H Q := fun σ H Q ⟨α, H0, ρ, μ, R, S, q, k⟩ =>
  ⟨α, H0, ρ, μ, _, S, q, fun α1 H01 μ1 H1 J items stay S1 p1 W q1 D hD => by
    have hDα := S1.nin hD
    have hD0 := S1.free hD
    have Sw : SS g α1 H01 (wipeD ρ vs) μ1 (L2.wipe σ vs) (upd H1 D (.lst [])) := (S1.side hD0 hDα).wipe vs
    have hDs : H D = none := by
      cases z : H D with
      | none => rfl
      | some o => exact absurd hD (p1.al D (by rw [z]; simp))
    refine ⟨fun i m H2 => ∃ α2 H02 μ2 accv acc, m = items.length - i ∧ i ≤ items.length ∧ SS g α2 H02 (wipeD ρ vs) μ2 (L2.wipe σ vs) H2 ∧ Stp α1 H01 H1 α2 H02 H2 ∧ H2 D = some (.lst accv) ∧ H02 D = none ∧ D ∉ α2 ∧ DpAll KZ H02 accv acc ∧ lcGo t tt te (wipeD ρ vs) stay R (items.drop i) acc μ2,
      ⟨items.length, α1, H01, μ1, [], [], by simp, Nat.zero_le _, Sw, (Stp.refl _ _ _).sideW hD, upd_same, hD0, hDα, .nil, by simpa using q1⟩, ?_⟩
    rintro i m H2 ⟨α2, H02, μ2, accv, acc, rfl, hi, S2, p2, hDl, hDz, hDn, hA, q2⟩
    by_cases hlt : i < items.length
    · have hdr : items.drop i = items[i] :: items.drop (i + 1) := (List.drop_eq_getElem_cons hlt)
      rw [hdr] at q2
      obtain ⟨hst, q2⟩ := q2
      obtain ⟨hgo, hy⟩ := W.goes i α2 H02 _ μ2 _ H2 hlt S2 p2.grw hst
      refine .inr ⟨hgo, fun H' => ∃ α3 H03 μ3 accv acc, SS g α3 H03 (wipeD ρ vs) μ3 (L2.wipe σ vs) H' ∧ Stp α1 H01 H1 α3 H03 H' ∧ H' D = some (.lst accv) ∧ H03 D = none ∧ D ∉ α3 ∧ DpAll KZ H03 accv acc ∧ lcGo t tt te (wipeD ρ vs) stay R (items.drop (i + 1)) acc μ3,
        fun H' ⟨α3, H03, μ3, accv, acc, S3, p3, z⟩ => ⟨items.length - (i + 1), by omega, α3, H03, μ3, accv, acc, rfl, hlt, S3, p3, z⟩, fun x H' y => ?_⟩
      obtain ⟨H0x, d, Sx, px, ed, hd⟩ := hy x H' y
      rw [List.getElem?_eq_getElem hlt] at ed
      cases ed
      refine tg_ok (vw := vs) Sx hd q2 hv fun σ' ρ' S3 hw q3 => ⟨by rw [hw]; exact wipe_wipe σ vs, ?_⟩
      have p3 := p2.trans px
      refine ⟨α2, H0x, ρ', μ2, _, S3, q3, fun α4 H04 μ4 H4 b S4 p4 q4 => ?_⟩
      have p24 := px.trans p4
      have S4w : SS g α4 H04 (wipeD ρ vs) μ4 (L2.wipe σ vs) H4 := S4.slots S2 p24
      cases b with
      | false =>
        rw [if_neg Bool.false_ne_true] at q4
        obtain ⟨a1, a2, a3⟩ := p24.hold hDl hDz hDn
        refine iteF ?_
        exact ⟨α4, H04, μ4, accv, acc, S4w, p2.trans p24, a1, a2, a3, dps_same p24.ex _ _ hA, q4⟩
      | true =>
        rw [if_pos rfl] at q4
        refine iteT ?_
        refine ⟨α4, H04, ρ', μ4, _, S4, q4, fun α5 H05 μ5 H5 v dv S5 p5 rv ⟨d', e, hl, q5⟩ => ?_⟩
        subst e
        have p25 := p24.trans p5
        obtain ⟨a1, a2, a3⟩ := p25.hold hDl hDz hDn
        have hA5 := dps_same p25.ex _ _ hA
        refine ⟨accv, a1, small5 (by rw [dps_len hA]; exact hl), α5, H05, μ5, accv ++ [v], acc ++ [d'], (S5.slots S2 p25).side a2 a3, (p2.trans p25).sideW hD, upd_same, a2, a3, dps_snoc hA5 rv, q5⟩
    · have ei : i = items.length := by omega
      subst ei
      rw [List.drop_length] at q2
      refine .inl ⟨W.stops α2 H02 _ μ2 _ H2 S2 p2.grw q2.1, ?_⟩
      have S2' : SS g α2 H02 ρ μ2 σ H2 := S2.slots S1 p2
      exact k α2 H02 μ2 H2 D accv acc S2' (p1.trans p2) hDl hDz hDn hDs hA q2.2⟩
end
section
variable {X : Cx} {g : Cf} {elt tg iter : Expr} {ifs : List Expr} {scope : Scope} {own : List (Str × Nat)} {pos : Pos} {t : Tg} {wd : TId} {tt : TTd} {te : TD}
theorem jl_lc (hc : X.calm = true) (hN : X.N.Nodup) (hi : PI X tg iter (uTI g wd)) (ok : BlkOk X.N X.env.scope scope own) (hv : ∀ i ∈ t.ix, i ∈ own.map (·.2))
    (hg : ∀ (s : Shared) (H : Hp) (C : Addr) (cl : List (Str × Addr)) (fp : List Addr), PG (X.blk s H scope (compEnvC scope cl C X.env) fp) tg (tgG X.K t)) (ht : ∀ (s : Shared) (H : Hp) (C : Addr) (cl : List (Str × Addr)) (fp : List Addr), PTs (X.blk s H scope (compEnvC scope cl C X.env) fp) ifs (uTT g tt))
    (he : ∀ (s : Shared) (H : Hp) (C : Addr) (cl : List (Str × Addr)) (fp : List Addr), PE (X.blk s H scope (compEnvC scope cl C X.env) fp) elt (uTE g te)) (hs : ∀ x, foldedSetIterable iter X.env x = pure x := by intro _; rfl) :
    PE X (.ListComp elt [⟨tg, iter, ifs, 0⟩] scope pos) (uTL g (tdLc wd t tt te (own.map (·.2)))) := (pe_lc hc hN hi ok hg ht he hs).imp (tdLc_imp hv)
/-- y = [..]: frozen, or y's own -/
theorem js_setLcF {i : Nat} {y : Str} {py spos : Pos} (hc : X.calm = true) (hN : X.N.Nodup) (hy : X.N[i]? = some y) (hyl : X.env.scope.names.lookup y = some .local) (hsw : swapsWith (.ListComp elt [⟨tg, iter, ifs, 0⟩] scope pos) (some (.Name y py)) spos.line X.env = pure true)
    (hi : PI X tg iter (uTI g wd)) (ok : BlkOk X.N X.env.scope scope own) (hv : ∀ i ∈ t.ix, i ∈ own.map (·.2))
    (hg : ∀ (s : Shared) (H : Hp) (C : Addr) (cl : List (Str × Addr)) (fp : List Addr), PG (X.blk s H scope (compEnvC scope cl C X.env) fp) tg (tgG X.K t)) (ht : ∀ (s : Shared) (H : Hp) (C : Addr) (cl : List (Str × Addr)) (fp : List Addr), PTs (X.blk s H scope (compEnvC scope cl C X.env) fp) ifs (uTT g tt))
    (he : ∀ (s : Shared) (H : Hp) (C : Addr) (cl : List (Str × Addr)) (fp : List Addr), PE (X.blk s H scope (compEnvC scope cl C X.env) fp) elt (uTE g te)) (hs : ∀ x, foldedSetIterable iter X.env x = pure x := by intro _; rfl) :
    PS X (.Assign [.Name y py] (.ListComp elt [⟨tg, iter, ifs, 0⟩] scope pos) spos) (uTS g (tdSet i (tdFz (tdLc wd t tt te (own.map (·.2)))))) := (ps_setLc hc hN hy hyl hsw hi ok hg ht he hs).imp fun D σ H h =>
      tdLc_imp hv σ H _ (tdFz_imp σ H _ (tdSet_imp D σ H h))
theorem js_setLcO {i : Nat} {y : Str} {py spos : Pos} (hc : X.calm = true) (hN : X.N.Nodup) (hy : X.N[i]? = some y) (hyl : X.env.scope.names.lookup y = some .local) (hsw : swapsWith (.ListComp elt [⟨tg, iter, ifs, 0⟩] scope pos) (some (.Name y py)) spos.line X.env = pure true)
    (hi : PI X tg iter (uTI g wd)) (ok : BlkOk X.N X.env.scope scope own) (hv : ∀ i ∈ t.ix, i ∈ own.map (·.2))
    (hg : ∀ (s : Shared) (H : Hp) (C : Addr) (cl : List (Str × Addr)) (fp : List Addr), PG (X.blk s H scope (compEnvC scope cl C X.env) fp) tg (tgG X.K t)) (ht : ∀ (s : Shared) (H : Hp) (C : Addr) (cl : List (Str × Addr)) (fp : List Addr), PTs (X.blk s H scope (compEnvC scope cl C X.env) fp) ifs (uTT g tt))
    (he : ∀ (s : Shared) (H : Hp) (C : Addr) (cl : List (Str × Addr)) (fp : List Addr), PE (X.blk s H scope (compEnvC scope cl C X.env) fp) elt (uTE g te)) (hs : ∀ x, foldedSetIterable iter X.env x = pure x := by intro _; rfl) :
    PS X (.Assign [.Name y py] (.ListComp elt [⟨tg, iter, ifs, 0⟩] scope pos) spos) (uTS g (tdSet i (tdOwn (tdLc wd t tt te (own.map (·.2)))))) := (ps_setLc hc hN hy hyl hsw hi ok hg ht he hs).imp fun D σ H h =>
      tdLc_imp hv σ H _ (tdOwn_imp σ H _ (tdSet_imp D σ H h))
theorem jts_nil {X : Cx} : PTs X [] (uTT g tdYes) := pts_nil.imp fun σ H Q ⟨α, H0, ρ, μ, R, S, q, k⟩ => k α H0 μ H true S (Stp.refl _ _ _) q
theorem jts_one {X : Cx} {c : Expr} {tc : TTd} (h : PT X c (uTT g tc)) : PTs X [c] (uTT g tc) := pts_one h
end
/-- the pure forms: what the turns give, whatever is wanted -/
theorem lcGo_fm {α : Type} {t : Tg} {tt : TTd} {te : TD} {ρw : Env} {stay : Sto → Prop} {R : List PyData → Sto → Prop} {μ : Sto} (en : α → PyData) (p : α → Bool) (f : α → PyData) (hst : stay μ) : ∀ (xs : List α) (acc : List PyData), acc.length + xs.length ≤ 100000 →
    (∀ x ∈ xs, ∀ (R1 : DV → Sto → Prop) (R2 : Sto → Prop), (if p x = true then R1 (.d (f x)) μ else R2 μ) → tgD t (en x) ρw fun ρ1 => tt ρ1 μ fun b μ2 => if b = true then te ρ1 μ2 R1 else R2 μ2) →
    R (acc ++ (xs.filter p).map f) μ → lcGo t tt te ρw stay R (xs.map en) acc μ
  | [], acc, _, _, h => ⟨hst, by simpa using h⟩
  | x :: xs, acc, hl, hx, h => by
    refine ⟨hst, ?_⟩
    have ih := fun acc' hl' h' => lcGo_fm (t := t) (tt := tt) (te := te) (ρw := ρw) (R := R) en p f hst xs acc' hl' (fun y hy => hx y (List.mem_cons_of_mem _ hy)) h'
    have hl2 : acc.length + (xs.length + 1) ≤ 100000 := by simpa using hl
    refine hx x (List.mem_cons_self ..) _ _ ?_
    by_cases hp : p x = true
    · rw [if_pos hp]
      refine ⟨f x, rfl, by omega, ih _ (by simp; omega) ?_⟩
      rw [List.filter_cons, if_pos hp, List.map_cons] at h
      rw [List.append_assoc]
      exact h
    · rw [if_neg hp]
      refine ih _ (by omega) ?_
      rw [List.filter_cons, if_neg hp] at h
      exact h
theorem lcGo_map {α : Type} {t : Tg} {te : TD} {ρw : Env} {stay : Sto → Prop} {R : List PyData → Sto → Prop} {μ : Sto} (en : α → PyData) (f : α → PyData) (hst : stay μ) (xs : List α) (hl : xs.length ≤ 100000)
    (hx : ∀ x ∈ xs, ∀ (R1 : DV → Sto → Prop), R1 (.d (f x)) μ → tgD t (en x) ρw fun ρ1 => te ρ1 μ R1) (h : R (xs.map f) μ) : lcGo t tdYes te ρw stay R (xs.map en) [] μ := by
  refine lcGo_fm en (fun _ => true) f hst xs [] (by simpa using hl) (fun x hm R1 R2 q => ?_) (by rw [List.nil_append, List.filter_eq_self.mpr (fun _ _ => rfl)]; exact h)
  rw [if_pos rfl] at q
  refine tgD_mono (fun ρ1 z => ?_) (hx x hm R1 q)
  show if true = true then te ρ1 μ R1 else R2 μ
  rw [if_pos rfl]
  exact z
/-- the turns give anything that F allows -/
theorem lcGo_rel {α : Type} {t : Tg} {te : TD} {ρw : Env} {stay : Sto → Prop} {R : List PyData → Sto → Prop} {μ : Sto} (en : α → PyData) (F : α → PyData → Prop) (hst : stay μ) : ∀ (xs : List α) (acc : List PyData), acc.length + xs.length ≤ 100000 →
    (∀ x ∈ xs, ∀ (R1 : DV → Sto → Prop), (∀ d, F x d → R1 (.d d) μ) → tgD t (en x) ρw fun ρ1 => te ρ1 μ R1) →
    (∀ ds, Paired F xs ds → R (acc ++ ds) μ) → lcGo t tdYes te ρw stay R (xs.map en) acc μ
  | [], acc, _, _, h => ⟨hst, by simpa using h [] .nil⟩
  | x :: xs, acc, hl, hx, h => by
    have hl2 : acc.length + (xs.length + 1) ≤ 100000 := by simpa using hl
    refine ⟨hst, tgD_mono (fun ρ1 z => ?_) (hx x (List.mem_cons_self ..) (fun dv μ3 => ∃ d, dv = .d d ∧ acc.length < 100000 ∧ lcGo t tdYes te ρw stay R (xs.map en) (acc ++ [d]) μ3) fun d hd => ?_)⟩
    · refine iteT (B := lcGo t tdYes te ρw stay R (xs.map en) acc μ) ?_
      exact z
    · refine ⟨d, rfl, by omega, lcGo_rel en F hst xs _ (by simp; omega) (fun y hy => hx y (List.mem_cons_of_mem _ hy)) fun ds hds => ?_⟩
      rw [List.append_assoc]
      exact h (d :: ds) (.cons hd hds)
end JR
set_option maxHeartbeats 1000000
/-! JD5: a def's promise over data, its body, its calls. -/
namespace JR
open PySem PySem.Spec PyProof.Rows L2

abbrev Sc := List DV → (PyData → Prop) → Prop
/-- n purses (none or one) ahead; what is asked of the arguments, what is told -/
def spD (g : Cf) (n : Nat) (sc : Sc) : Sp := fun vs H Q _ => ∃ α H0 dvs R, SS g α H0 [] (List.replicate n Cell.p) [] H ∧ Paired (DvR g α H0) vs dvs ∧ sc dvs R ∧
  ∀ α' H0' μ' H' v x, SS g α' H0' [] μ' [] H' → Stp α H0 H α' H0' H' → (∀ k : Nat, k < n → μ'[k]? = some Cell.p) → Dp KZ H0' v x → R x → Q v H'
def noC : DV → Bool
  | .c _ => false
  | _ => true
theorem noC_ok {g : Cf} {α α1 : List Addr} {H0 : Hp} {v : V} : ∀ {dv : DV}, noC dv = true → DvR g α H0 v dv → DvR g α1 H0 v dv
  | .d _, _, h => h
  | .w _ _, _, h => h
  | .c _, h, _ => nomatch h
  | .s _, _, h => h
  | .kd _, _, h => h
theorem noC_all {g : Cf} {α α1 : List Addr} {H0 : Hp} : ∀ {vs : List V} {dvs : List DV}, dvs.all noC = true → Paired (DvR g α H0) vs dvs → Paired (DvR g α1 H0) vs dvs
  | _, _, _, .nil => .nil
  | _, _, h, .cons r t => by
    rw [List.all_cons, Bool.and_eq_true] at h
    exact .cons (noC_ok h.1 r) (noC_all h.2 t)
theorem paired_len {g : Cf} {α : List Addr} {H0 : Hp} : ∀ {vs : List V} {dvs : List DV}, Paired (DvR g α H0) vs dvs → vs.length = dvs.length
  | _, _, .nil => rfl
  | _, _, .cons _ t => congrArg Nat.succ (paired_len t)
section
variable {g : Cf} {α α' α1 : List Addr} {H0 H0' H H' : Hp} {ρ : Env} {μ μ' : Sto} {σ : L2.St}
/-- the caller's state behind a call that changed the cells at αc alone (each of them a purse, before and behind) -/
theorem SS.called (S : SS g α H0 ρ μ σ H) (hc : ∀ a ∈ α1, ∃ k : Nat, α[k]? = some a ∧ μ[k]? = some Cell.p) (p : Stp α1 H0 H α' H0' H') (T : Same H0' H') (hp : ∀ a ∈ α1, CellR g H0' H' a .p) : SS g α H0' ρ μ σ H' := by
  refine ⟨T, S.nd, S.len, fun k a c h1 h2 => ?_, fun a ha => p.al a (S.liv a ha), S.sl, fun i dv q => ?_⟩
  · by_cases ha : a ∈ α1
    · obtain ⟨j, h3, h4⟩ := hc a ha
      obtain ⟨l1, e1⟩ := List.getElem?_eq_some_iff.mp h1
      obtain ⟨l2, e2⟩ := List.getElem?_eq_some_iff.mp h3
      have e : k = j := (List.getElem_inj S.nd).mp (e1.trans e2.symm)
      subst e
      rw [h4] at h2
      cases h2
      exact hp a ha
    · have hl : H a ≠ none := S.liv a (List.mem_of_getElem? h1)
      obtain ⟨o, ho⟩ : ∃ o, H a = some o := by
        cases z : H a with
        | none => exact absurd z hl
        | some o => exact ⟨o, rfl⟩
      refine CellR.mono p.ex (fun z => ?_) ((p.fr a o ho ha).trans ho.symm) (S.cel k a c h1 h2)
      cases q : H0' a with
      | none => rfl
      | some u =>
        rcases p.nf a (by rw [q]; simp) with y | y | y
        · exact absurd z y
        · rw [ho] at y; cases y
        · exact absurd y ha
  · obtain ⟨v, h1, h2⟩ := S.slot i dv q
    exact ⟨v, h1, DvR.same (fun _ _ z => z) p.ex h2⟩
theorem Stp.called (S : SS g α H0 ρ μ σ H) (hc : ∀ a ∈ α1, a ∈ α) (p : Stp α1 H0 H α' H0' H') : Stp α H0 H α H0' H' :=
  ⟨⟨[], by simp⟩, p.ex, fun b o h hn => p.fr b o h fun z => hn (hc b z), p.al, fun b h => (p.nf b h).imp id fun z => z.imp id (hc b), fun a h => .inl h⟩
end
/-- a call, no purse handed over -/
def tdCall0 (sc : Sc) (t : TAd) : TD := fun ρ μ R => t ρ μ fun dvs μ1 => dvs.all noC = true ∧ sc dvs fun x => R (.d x) μ1
/-- a call with the purse first -/
def tdCall1 (sc : Sc) (t : TAd) : TD := fun ρ μ R => t ρ μ fun dvs μ1 => ∃ (k : Nat) (r : List DV), dvs = .c k :: r ∧ μ1[k]? = some Cell.p ∧ r.all noC = true ∧ sc (.c 0 :: r) fun x => R (.d x) μ1
section
variable {g : Cf} {sc : Sc} {t : TAd}
theorem sp0_use {α : List Addr} {H0 H : Hp} {ρ : Env} {μ : Sto} {σ : L2.St} {vs : List V} {dvs : List DV} {R : PyData → Prop} {Q : VK} {E : XK} (S : SS g α H0 ρ μ σ H) (hp : Paired (DvR g α H0) vs dvs) (hn : dvs.all noC = true) (h : sc dvs R)
    (k : ∀ H0' H' v x, SS g α H0' ρ μ σ H' → Stp α H0 H α H0' H' → Dp KZ H0' v x → R x → Q v H') : spD g 0 sc vs H Q E :=
  ⟨[], H0, dvs, R, ⟨S.ext, List.nodup_nil, rfl, fun k a c h => by simp at h, fun a h => by simp at h, rfl, fun i dv h => by simp at h⟩, noC_all hn hp, h, fun α' H0' μ' H' v x S' p' _ hv hR =>
    k H0' H' v x (S.called (α1 := []) (fun a h => by simp at h) p' S'.ext (fun a h => by simp at h)) (p'.called S fun a h => by simp at h) hv hR⟩
theorem sp1_use {α : List Addr} {H0 H : Hp} {ρ : Env} {μ : Sto} {σ : L2.St} {v0 : V} {vs : List V} {j : Nat} {dvs : List DV} {R : PyData → Prop} {Q : VK} {E : XK} (S : SS g α H0 ρ μ σ H) (h0 : DvR g α H0 v0 (.c j)) (hj : μ[j]? = some Cell.p) (hp : Paired (DvR g α H0) vs dvs) (hn : dvs.all noC = true) (h : sc (.c 0 :: dvs) R)
    (k : ∀ H0' H' v x, SS g α H0' ρ μ σ H' → Stp α H0 H α H0' H' → Dp KZ H0' v x → R x → Q v H') : spD g 1 sc (v0 :: vs) H Q E := by
  obtain ⟨a, e, ha⟩ := h0
  subst e
  have hc := S.cel j a _ ha hj
  refine ⟨[a], H0, .c 0 :: dvs, R, ⟨S.ext, by simp, rfl, fun k b c h1 h2 => ?_, fun b h => ?_, rfl, fun i dv h => by simp at h⟩, .cons ⟨a, rfl, rfl⟩ (noC_all hn hp), h, fun α' H0' μ' H' v x S' p' hm hv hR => ?_⟩
  · cases k with
    | zero =>
      have e1 : b = a := by simpa using h1.symm
      have e2 : c = .p := by simpa using h2.symm
      rw [e1, e2]
      exact hc
    | succ k => simp at h1
  · have e1 : b = a := by simpa using h
    rw [e1]
    exact S.liv a (List.mem_of_getElem? ha)
  · have hpu : CellR g H0' H' a .p := by
      have z := hm 0 (by decide)
      obtain ⟨l, e⟩ := p'.pre
      exact S'.cel 0 a .p (by rw [e]; rfl) z
    exact k H0' H' v x (S.called (α1 := [a]) (fun b h => by
      have e1 : b = a := by simpa using h
      rw [e1]; exact ⟨j, ha, hj⟩) p' S'.ext (fun b h => by
      have e1 : b = a := by simpa using h
      rw [e1]; exact hpu)) (p'.called S fun b h => by
      have e1 : b = a := by simpa using h
      rw [e1]; exact List.mem_of_getElem? ha) hv hR
theorem tdCall0_imp {E : XK} : ∀ σ H Q, uTE g (tdCall0 sc t) σ H Q → tCall (spD g 0 sc) [] E (uTA g t) σ H Q := fun σ H Q ⟨α, H0, ρ, μ, R, S, q, k⟩ =>
  ⟨α, H0, ρ, μ, _, S, q, fun α1 H01 μ1 H1 vs dvs S1 p1 rv ⟨hn, q1⟩ => by
    show spD g 0 sc (vs ++ []) H1 Q E
    rw [List.append_nil]
    exact sp0_use S1 rv hn q1 fun H0' H' v x S2 p2 hv hR => k α1 H0' μ1 H' v (.d x) S2 (p1.trans p2) hv hR⟩
theorem tdCall1_imp {E : XK} : ∀ σ H Q, uTE g (tdCall1 sc t) σ H Q → tCall (spD g 1 sc) [] E (uTA g t) σ H Q := fun σ H Q ⟨α, H0, ρ, μ, R, S, q, k⟩ =>
  ⟨α, H0, ρ, μ, _, S, q, fun α1 H01 μ1 H1 vs dvs S1 p1 rv ⟨j, r, e, hj, hn, q1⟩ => by
    subst e
    show spD g 1 sc (vs ++ []) H1 Q E
    rw [List.append_nil]
    cases rv with
    | cons r0 rr => exact sp1_use S1 r0 hj rr hn q1 fun H0' H' v x S2 p2 hv hR => k α1 H0' μ1 H' v (.d x) S2 (p1.trans p2) hv hR⟩
end
/-- a def of the program, its promise, as a caller needs it -/
structure Has (P : Program) (w : World) (K : PySem.W.Frag) (mg : Str → Option Value) (base : Heap) (C : Addr) (x : Str) (ps : List Str) (k n : Nat) (sc : Sc) : Prop where
  ex : ∃ f fd, mg x = some (.ref f) ∧ PySem.W.keepIn K (.ref f) = true ∧ Binds K fd ps [] ∧ FnOk P w K mg base CX0 k f fd ps (spD ⟨P, w, C⟩ n sc)
section
variable {X : Cx} {C : Addr} {x : Str} {ps : List Str} {k j : Nat} {sc : Sc} {p pos : Pos} {e : Expr} {es : List Expr} {t : TAd}
theorem jd_call0 (h : Has X.prog X.w X.K X.mg X.base C x ps k 0 sc) (hr : Room j X.A) (hk : k ≤ j) (hg : Gl X x) (ha : PA X (e :: es) (uTA ⟨X.prog, X.w, C⟩ t)) (hdb : (x == ("__debug__" : Str)) = false := by decide)
    (he : starEach (e :: es) X.env = (false, eval e X.env) :: starEach es X.env := by rfl) (hpl : (backTo pos (starEach es X.env)).any (·.1) = false := by rfl) : PE X (.Call (.Name x p) (e :: es) [] pos) (uTE ⟨X.prog, X.w, C⟩ (tdCall0 sc t)) := by
  obtain ⟨f, fd, h1, h2, h3, h4⟩ := h.ex
  exact (pe_call (E := E0) h4 (hr.mono hk) hg h1 h2 h3 .nil pass0 ha hdb he hpl).imp tdCall0_imp
theorem jd_call1 (h : Has X.prog X.w X.K X.mg X.base C x ps k 1 sc) (hr : Room j X.A) (hk : k ≤ j) (hg : Gl X x) (ha : PA X (e :: es) (uTA ⟨X.prog, X.w, C⟩ t)) (hdb : (x == ("__debug__" : Str)) = false := by decide)
    (he : starEach (e :: es) X.env = (false, eval e X.env) :: starEach es X.env := by rfl) (hpl : (backTo pos (starEach es X.env)).any (·.1) = false := by rfl) : PE X (.Call (.Name x p) (e :: es) [] pos) (uTE ⟨X.prog, X.w, C⟩ (tdCall1 sc t)) := by
  obtain ⟨f, fd, h1, h2, h3, h4⟩ := h.ex
  exact (pe_call (E := E0) h4 (hr.mono hk) hg h1 h2 h3 .nil pass0 ha hdb he hpl).imp tdCall1_imp
end
/-- THE RULE for a def over data -/
def endsOf (n : Nat) (R : PyData → Prop) : EndsD := { nx := fun _ μ => R .none ∧ ∀ k : Nat, k < n → μ[k]? = some Cell.p, rt := fun dv μ => (∃ x, dv = .d x ∧ R x) ∧ ∀ k : Nat, k < n → μ[k]? = some Cell.p }
def startD (m : Nat) (dvs : List DV) : Env := dvs.map some ++ List.replicate (m - dvs.length) none
section
variable {P : Program} {w : World} {K : PySem.W.Frag} {mg : Str → Option Value} {base : Heap} {C : Addr} {x qual : Str} {params : Arguments} {body : List Stmt} {scope : Scope} {kws : List (Str × V)} {f : Addr} {fd : FuncData} {N ps : List Str} {k n : Nat} {sc : Sc}
theorem start_ok {g : Cf} {α : List Addr} {H0 H : Hp} {μ : Sto} {vs : List V} {dvs : List DV} (S : SS g α H0 [] μ [] H) (hp : Paired (DvR g α H0) vs dvs) : SS g α H0 (startD N.length dvs) μ (L2.start N vs) H := by
  have hl := paired_len hp
  refine ⟨S.ext, S.nd, S.len, S.cel, S.liv, by unfold startD L2.start; simp [hl], fun i dv h => ?_⟩
  unfold startD at h
  by_cases hi : i < dvs.length
  · rw [List.getElem?_append_left (by simpa using hi), List.getElem?_map, List.getElem?_eq_getElem hi] at h
    have e : dvs[i] = dv := by simpa using h
    have key : ∀ {vs : List V} {dvs : List DV} {i : Nat} {dv : DV}, Paired (DvR g α H0) vs dvs → dvs[i]? = some dv → ∃ v, vs[i]? = some v ∧ DvR g α H0 v dv := by
      intro vs dvs i dv hp
      induction hp generalizing i with
      | nil => intro e; simp at e
      | @cons a b l1 l2 r t ih =>
        intro e
        cases i with
        | zero =>
          have e1 : b = dv := by simpa using e
          subst e1
          exact ⟨_, rfl, r⟩
        | succ i =>
          obtain ⟨v, h1, h2⟩ := ih (i := i) (by simpa using e)
          exact ⟨v, by simpa using h1, h2⟩
    obtain ⟨v, h1, h2⟩ := key hp (by rw [List.getElem?_eq_getElem hi, e])
    refine ⟨v, ?_, h2⟩
    unfold L2.start
    rw [List.getElem?_append_left (by rw [List.length_map, hl]; exact hi), List.getElem?_map, h1]
    rfl
  · rw [List.getElem?_append_right (by simpa using hi)] at h
    rw [List.getElem?_replicate] at h
    split at h <;> cases h
theorem okD (F : FunD K x qual params body scope [] kws f fd) (S : FnScope N ps scope) (hlen : ∀ dvs R, sc dvs R → dvs.length = ps.length) (td : TSd)
    (hbody : ∀ (cdv : Value) (A : Around) (outer : List PySem.Env) (s : Shared) (H : Hp) (E : XK), Room k (A.deeper (envOfC qual scope s.heap.objs.size f cdv)) → PSs (cxOf CX0 P w K mg base N qual scope f cdv A outer s H E).nox body (uTS ⟨P, w, C⟩ td))
    (hsem : ∀ dvs R, sc dvs R → td (endsOf n R) (startD N.length dvs) (List.replicate n Cell.p)) : FnOk P w K mg base CX0 (k + 1) f fd ps (spD ⟨P, w, C⟩ n sc) := by
  refine F.ok S (fun vs H Q E h => ?_) (fun cdv A outer s H vs Q E hr h => ?_)
  · obtain ⟨α, H0, dvs, R, S0, hp, hsc, _⟩ := h
    rw [paired_len hp]
    exact hlen dvs R hsc
  · refine ⟨_, (hbody cdv A outer s H E hr).nox, ?_⟩
    obtain ⟨α, H0, dvs, R, S0, hp, hsc, kk⟩ := h
    refine ⟨α, H0, _, _, _, start_ok S0 hp, hsem dvs R hsc, ⟨fun α' H0' ρ' μ' σ' H' S1 p1 h1 => ?_, fun α' H0' ρ' μ' σ' H' v dv S1 p1 rv ⟨⟨x, e, h1⟩, h2⟩ => ?_, fun _ _ _ _ _ _ _ _ h => h.elim, fun _ _ _ _ _ _ _ _ h => h.elim⟩⟩
    · exact kk α' H0' μ' H' .non .none ⟨S1.ext, S1.nd, S1.len, S1.cel, S1.liv, rfl, fun i dv h => by simp at h⟩ p1 h1.2 .non h1.1
    · subst e
      exact kk α' H0' μ' H' v x ⟨S1.ext, S1.nd, S1.len, S1.cel, S1.liv, rfl, fun i dv h => by simp at h⟩ p1 h2 rv h1
end
end JR
set_option maxHeartbeats 1000000
/-! JD6: operators, subscripts, displays, built-in calls over data. -/
namespace JR
open PySem PySem.Spec PyProof.Rows L2

/-! ### what can be read as a row of items -/
def lOf : DV → Sto → Option (List PyData)
  | .d (.list ds), _ => some ds
  | .c k, μ => match μ[k]? with
    | some (.l ds) => some ds
    | _ => none
  | _, _ => none
def tOf : DV → Option (List PyData)
  | .d (.tuple ds) => some ds
  | _ => none
def seqOf (x : DV) (μ : Sto) : Option (List PyData) := match lOf x μ with
  | some ds => some ds
  | none => tOf x
section
variable {g : Cf} {α : List Addr} {H0 H : Hp} {ρ : Env} {μ : Sto} {σ : L2.St} {v : V} {dv : DV} {ds : List PyData}
theorem sq_up {K : PySem.W.Frag} {a : Addr} {xs : List V} (e : Same H0 H) (h : SqL K H0 a xs) : SqL K H a xs := e.seq h
theorem lOf_ok (S : SS g α H0 ρ μ σ H) (h : DvR g α H0 v dv) (e : lOf dv μ = some ds) : ∃ a vs, v = .ref a ∧ SqL KZ H a vs ∧ DpAll KZ H0 vs ds := by
  unfold lOf at e
  split at e
  · cases e
    cases (show Dp KZ H0 v (.list ds) from h) with
    | lst hs ha => exact ⟨_, _, rfl, S.ext.seq hs, ha⟩
  · split at e
    · rename_i k μ ds' hk
      cases e
      obtain ⟨a, e, ha⟩ := h
      obtain ⟨_, vs, h1, h2⟩ := S.cel _ a _ ha hk
      exact ⟨a, vs, e, .of h1, h2⟩
    · cases e
  · cases e
theorem tOf_ok (S : SS g α H0 ρ μ σ H) (h : DvR g α H0 v dv) (e : tOf dv = some ds) : ∃ a vs, v = .ref a ∧ SqT KZ H a vs ∧ DpAll KZ H0 vs ds := by
  unfold tOf at e
  split at e
  · cases e
    cases (show Dp KZ H0 v (.tuple ds) from h) with
    | tup hs ha => exact ⟨_, _, rfl, same_t S.ext hs, ha⟩
  · cases e
theorem seqOf_ok (S : SS g α H0 ρ μ σ H) (h : DvR g α H0 v dv) (e : seqOf dv μ = some ds) : ∃ a vs, v = .ref a ∧ (SqL KZ H a vs ∨ SqT KZ H a vs) ∧ DpAll KZ H0 vs ds := by
  unfold seqOf at e
  split at e
  · rename_i ds' h1
    cases e
    obtain ⟨a, vs, e, q, r⟩ := lOf_ok S h h1
    exact ⟨a, vs, e, .inl q, r⟩
  · obtain ⟨a, vs, e, q, r⟩ := tOf_ok S h e
    exact ⟨a, vs, e, .inr q, r⟩
theorem seq_dp {a : Addr} {vs : List V} (S : SS g α H0 ρ μ σ H) (h : SqL KZ H a vs ∨ SqT KZ H a vs) (r : DpAll KZ H0 vs ds) : Dp KZ H (.ref a) (.list ds) ∨ Dp KZ H (.ref a) (.tuple ds) :=
  h.imp (fun z => .lst z (dps_same S.ext _ _ r)) (fun z => .tup z (dps_same S.ext _ _ r))
end

/-! ### numbers -/
def fI (p : Int → Int → PyData) : OpFn := fun x y μ R => ∃ i j, x = .d (.int i) ∧ y = .d (.int j) ∧ R (.d (p i j)) μ
def fIC (C : Int → Int → Prop) (p : Int → Int → PyData) : OpFn := fun x y μ R => ∃ i j, x = .d (.int i) ∧ y = .d (.int j) ∧ C i j ∧ R (.d (p i j)) μ
section
variable {g : Cf}
theorem opd_I {v : Int → Int → V} {p : Int → Int → PyData} (h : ∀ i j H, Dp KZ H (v i j) (p i j)) : OpD g (rI0 v) (fI p) := fun α H0 ρ μ σ H x y dx dy R Q S rx ry ⟨i, j, e1, e2, q⟩ k => by
  subst e1 e2
  cases (show Dp KZ H0 x (.int i) from rx)
  cases (show Dp KZ H0 y (.int j) from ry)
  exact ⟨i, j, rfl, rfl, k α H0 μ H _ (.d (p i j)) S (Stp.refl _ _ _) (h i j H0) q⟩
theorem opd_IC {C : Int → Int → Prop} {v : Int → Int → V} {p : Int → Int → PyData} (h : ∀ i j H, Dp KZ H (v i j) (p i j)) : OpD g (rI C v) (fIC C p) := fun α H0 ρ μ σ H x y dx dy R Q S rx ry ⟨i, j, e1, e2, hc, q⟩ k => by
  subst e1 e2
  cases (show Dp KZ H0 x (.int i) from rx)
  cases (show Dp KZ H0 y (.int j) from ry)
  exact ⟨i, j, rfl, rfl, hc, k α H0 μ H _ (.d (p i j)) S (Stp.refl _ _ _) (h i j H0) q⟩
abbrev fAdd : OpFn := fI fun i j => .int (i + j)
abbrev fSub : OpFn := fI fun i j => .int (i - j)
abbrev fMul : OpFn := fIC CMul fun i j => .int (i * j)
abbrev fDiv : OpFn := fIC CDiv fun i j => .int (i / j)
abbrev fMod : OpFn := fIC (fun _ j => 0 < j) fun i j => .int (i % j)
abbrev fPow : OpFn := fIC CPow fun i j => .int (i ^ j.toNat)
abbrev fLt : OpFn := fI fun i j => .bool (decide (i < j))
abbrev fLe : OpFn := fI fun i j => .bool (decide (i ≤ j))
abbrev fGt : OpFn := fI fun i j => .bool (decide (j < i))
abbrev fGe : OpFn := fI fun i j => .bool (decide (j ≤ i))
variable {X : Cx} {a b : Expr} {ta tb : TD} {pos : Pos}
theorem jd_add (ha : PE X a (uTE g ta)) (hb : PE X b (uTE g tb)) : PE X (.BinOp a .Add b pos) (uTE g (tdOp fAdd ta tb)) := jd_op op_add (opd_I fun _ _ _ => .int _) ha hb
theorem jd_sub (ha : PE X a (uTE g ta)) (hb : PE X b (uTE g tb)) : PE X (.BinOp a .Sub b pos) (uTE g (tdOp fSub ta tb)) := jd_op op_sub (opd_I fun _ _ _ => .int _) ha hb
theorem jd_mul (ha : PE X a (uTE g ta)) (hb : PE X b (uTE g tb)) : PE X (.BinOp a .Mult b pos) (uTE g (tdOp fMul ta tb)) := jd_op op_mul (opd_IC fun _ _ _ => .int _) ha hb
theorem jd_div (ha : PE X a (uTE g ta)) (hb : PE X b (uTE g tb)) : PE X (.BinOp a .FloorDiv b pos) (uTE g (tdOp fDiv ta tb)) := jd_op op_fdiv (opd_IC fun _ _ _ => .int _) ha hb
theorem jd_mod (ha : PE X a (uTE g ta)) (hb : PE X b (uTE g tb)) : PE X (.BinOp a .Mod b pos) (uTE g (tdOp fMod ta tb)) := jd_op op_mod (opd_IC fun _ _ _ => .int _) ha hb
theorem jd_pow (ha : PE X a (uTE g ta)) (hb : PE X b (uTE g tb)) : PE X (.BinOp a .Pow b pos) (uTE g (tdOp fPow ta tb)) := jd_op op_pow (opd_IC fun _ _ _ => .int _) ha hb
theorem od_lt : OpD g (rI0 fun i j => .bl (decide (i < j))) fLt := opd_I fun _ _ _ => .bl _
theorem od_le : OpD g (rI0 fun i j => .bl (decide (i ≤ j))) fLe := opd_I fun _ _ _ => .bl _
theorem od_gt : OpD g (rI0 fun i j => .bl (decide (j < i))) fGt := opd_I fun _ _ _ => .bl _
theorem od_ge : OpD g (rI0 fun i j => .bl (decide (j ≤ i))) fGe := opd_I fun _ _ _ => .bl _
end

/-! ### ==, !=, in, not in, is not None -/
def fEq : OpFn := fun x y μ R => ∃ d e, x = .d d ∧ y = .d e ∧ SeqAt.shaped d = true ∧ SeqAt.shaped e = true ∧ R (.d (.bool (PyData.eqv d e))) μ
def fNe : OpFn := fun x y μ R => ∃ d e, x = .d d ∧ y = .d e ∧ SeqAt.shaped d = true ∧ SeqAt.shaped e = true ∧ R (.d (.bool (!PyData.eqv d e))) μ
def fIn (neg : Bool) : OpFn := fun x y μ R => ∃ d ds, x = .d d ∧ seqOf y μ = some ds ∧ SeqAt.shaped d = true ∧ SeqAt.shaped (.list ds) = true ∧ R (.d (.bool (neg ^^ ds.any fun z => PyData.eqv z d))) μ
def notN : PyData → Bool
  | .none => false
  | _ => true
def fNotN : OpFn := fun x y μ R => ∃ d, x = .d d ∧ y = .d .none ∧ R (.d (.bool (notN d))) μ
def rInA (K : PySem.W.Frag) (neg : Bool) : R2 := fun x y H Q => ∃ d ds, Dp K H x d ∧ (Dp K H y (.list ds) ∨ Dp K H y (.tuple ds)) ∧ SeqAt.shaped d = true ∧ SeqAt.shaped (.list ds) = true ∧ Q (.bl (neg ^^ ds.any fun z => PyData.eqv z d)) H
section
variable {X : Cx}
theorem op_inA (hu : X.A.units + 65 < cLine) : OpR X (compareOp .In) (rInA X.K false) := by
  intro pins s σ H x y v u Q I rx ry h
  obtain ⟨d, ds, hd, he, sd, se, q⟩ := h
  rw [Bool.false_xor] at q
  obtain ⟨as, r1⟩ := Dp.reads I d x v hd rx
  rcases he with he | he
  · obtain ⟨bs, r2⟩ := Dp.reads I (.list ds) y u he ry
    exact SeqAt.in_list_reads r2 r1 (SeqAt.canLay_of_shaped se) (SeqAt.canLay_of_shaped sd) (room_in_shaped sd hu) ⟨.bl _, H, I, rfl, q⟩
  · obtain ⟨bs, r2⟩ := Dp.reads I (.tuple ds) y u he ry
    exact SeqAt.in_tuple_reads r2 r1 (SeqAt.canLay_of_shaped se) (SeqAt.canLay_of_shaped sd) (room_in_shaped sd hu) ⟨.bl _, H, I, rfl, q⟩
theorem op_notInA (hu : X.A.units + 65 < cLine) : OpR X (compareOp .NotIn) (rInA X.K true) := by
  intro pins s σ H x y v u Q I rx ry h
  obtain ⟨d, ds, hd, he, sd, se, q⟩ := h
  rw [Bool.true_xor] at q
  obtain ⟨as, r1⟩ := Dp.reads I d x v hd rx
  rcases he with he | he
  · obtain ⟨bs, r2⟩ := Dp.reads I (.list ds) y u he ry
    exact SeqAt.notIn_list_reads r2 r1 (SeqAt.canLay_of_shaped se) (SeqAt.canLay_of_shaped sd) (room_in_shaped sd hu) ⟨.bl _, H, I, rfl, q⟩
  · obtain ⟨bs, r2⟩ := Dp.reads I (.tuple ds) y u he ry
    exact SeqAt.notIn_tuple_reads r2 r1 (SeqAt.canLay_of_shaped se) (SeqAt.canLay_of_shaped sd) (room_in_shaped sd hu) ⟨.bl _, H, I, rfl, q⟩
end
section
variable {g : Cf}
theorem od_eq {K : PySem.W.Frag} : OpD g (rEqD K) fEq := fun α H0 ρ μ σ H x y dx dy R Q S rx ry ⟨d, e, e1, e2, h1, h2, q⟩ k => by
  subst e1 e2
  exact ⟨d, e, dp_k _ _ (dp_same S.ext _ _ rx), dp_k _ _ (dp_same S.ext _ _ ry), h1, h2, k α H0 μ H _ (.d (.bool (PyData.eqv d e))) S (Stp.refl _ _ _) (.bl _) q⟩
theorem od_ne {K : PySem.W.Frag} : OpD g (rNeD K) fNe := fun α H0 ρ μ σ H x y dx dy R Q S rx ry ⟨d, e, e1, e2, h1, h2, q⟩ k => by
  subst e1 e2
  exact ⟨d, e, dp_k _ _ (dp_same S.ext _ _ rx), dp_k _ _ (dp_same S.ext _ _ ry), h1, h2, k α H0 μ H _ (.d (.bool (!PyData.eqv d e))) S (Stp.refl _ _ _) (.bl _) q⟩
theorem od_in {K : PySem.W.Frag} {neg : Bool} : OpD g (rInA K neg) (fIn neg) := fun α H0 ρ μ σ H x y dx dy R Q S rx ry ⟨d, ds, e1, e2, h1, h2, q⟩ k => by
  subst e1
  obtain ⟨a, vs, e, hs, ha⟩ := seqOf_ok S ry e2
  subst e
  exact ⟨d, ds, dp_k _ _ (dp_same S.ext _ _ rx), (seq_dp S hs ha).imp (dp_k _ _) (dp_k _ _), h1, h2, k α H0 μ H _ (.d (.bool (neg ^^ ds.any fun z => PyData.eqv z d))) S (Stp.refl _ _ _) (.bl _) q⟩
theorem od_notN : OpD g (fun x y H Q => y = .non ∧ Q (.bl (!decide (x = .non))) H) fNotN := fun α H0 ρ μ σ H x y dx dy R Q S rx ry ⟨d, e1, e2, q⟩ k => by
  subst e1 e2
  cases (show Dp KZ H0 y .none from ry)
  have e : (!decide (x = V.non)) = notN d := by
    cases (show Dp KZ H0 x d from rx) <;> rfl
  rw [e]
  exact ⟨rfl, k α H0 μ H _ (.d (.bool _)) S (Stp.refl _ _ _) (.bl _) q⟩
end

/-! ### subscripts -/
def fIx : OpFn := fun x y μ R => ∃ ds i d, seqOf x μ = some ds ∧ y = .d (.int i) ∧ atI ds i = some d ∧ R (.d d) μ
theorem atI_dps {K : PySem.W.Frag} {H : Hp} {vs : List V} {ds : List PyData} {i : Int} {d : PyData} (h : DpAll K H vs ds) (e : atI ds i = some d) : ∃ v, atI vs i = some v ∧ Dp K H v d := by
  unfold atI at e ⊢
  rw [dps_len h]
  cases hi : ixN ds.length i with
  | none => rw [hi] at e; cases e
  | some j =>
    rw [hi] at e
    exact dps_get h (show ds[j]? = some d from e)
def rIxA (K : PySem.W.Frag) : R2 := fun x y H Q => rIxL K x y H Q ∨ rIxT K x y H Q
section
variable {g : Cf} {X : Cx} {a b : Expr} {ta tb : TD} {pos : Pos}
theorem od_ix {K : PySem.W.Frag} : OpD g (rIxA K) fIx := fun α H0 ρ μ σ H x y dx dy R Q S rx ry ⟨ds, i, d, e1, e2, h1, q⟩ k => by
  subst e2
  cases (show Dp KZ H0 y (.int i) from ry)
  obtain ⟨a, vs, e, hs, ha⟩ := seqOf_ok S rx e1
  subst e
  obtain ⟨v, hv, hd⟩ := atI_dps ha h1
  rcases hs with hs | hs
  · exact .inl ⟨a, vs, i, v, rfl, rfl, sql_k hs, hv, k α H0 μ H v (.d d) S (Stp.refl _ _ _) hd q⟩
  · exact .inr ⟨a, vs, i, v, rfl, rfl, sqt_k hs, hv, k α H0 μ H v (.d d) S (Stp.refl _ _ _) hd q⟩
theorem jd_ix (ha : PE X a (uTE ⟨X.prog, X.w, C⟩ ta)) (hb : PE X b (uTE ⟨X.prog, X.w, C⟩ tb)) (hs : PlainIx b := by exact fun _ _ => rfl) : PE X (.Subscript a b pos) (uTE ⟨X.prog, X.w, C⟩ (tdOp fIx ta tb)) :=
  (pe_ix (IxR.or ix_list ix_tup) ha hb hs).imp (tdOp_imp od_ix)
/-- a sign of a text -/
def fIxS : OpFn := fun x y μ R => ∃ z i c, x = .d (.str z) ∧ y = .d (.int i) ∧ z.length ≤ sizeLine ∧ atI z.cps.toList i = some c ∧ R (.d (.str ⟨#[c]⟩)) μ
theorem od_ixS : OpD g rIxS fIxS := fun α H0 ρ μ σ H x y dx dy R Q S rx ry ⟨z, i, c, e1, e2, h1, h2, q⟩ k => by
  subst e1 e2
  cases (show Dp KZ H0 x (.str z) from rx)
  cases (show Dp KZ H0 y (.int i) from ry)
  exact ⟨z, i, c, rfl, rfl, h1, h2, k α H0 μ H _ (.d (.str ⟨#[c]⟩)) S (Stp.refl _ _ _) (.str _) q⟩
theorem jd_ixS (ha : PE X a (uTE g ta)) (hb : PE X b (uTE g tb)) (hs : PlainIx b := by exact fun _ _ => rfl) : PE X (.Subscript a b pos) (uTE g (tdOp fIxS ta tb)) := (pe_ix ix_str ha hb hs).imp (tdOp_imp od_ixS)
end

/-! ### displays -/
def allD : List DV → Option (List PyData)
  | [] => some []
  | .d x :: r => (allD r).map (x :: ·)
  | _ :: _ => none
theorem allD_ok {g : Cf} {α : List Addr} {H0 : Hp} : ∀ {vs : List V} {dvs : List DV} {ds : List PyData}, Paired (DvR g α H0) vs dvs → allD dvs = some ds → DpAll KZ H0 vs ds
  | _, _, _, .nil, e => by cases e; exact .nil
  | _, .d x :: r, ds, .cons h t, e => by
    unfold allD at e
    cases q : allD r with
    | none => rw [q] at e; cases e
    | some zs =>
      rw [q] at e
      have e2 : x :: zs = ds := Option.some.inj e
      subst e2
      exact .cons h (allD_ok t q)
  | _, .w _ _ :: _, _, .cons _ _, e => by cases e
  | _, .c _ :: _, _, .cons _ _, e => by cases e
  | _, .s _ :: _, _, .cons _ _, e => by cases e
  | _, .kd _ :: _, _, .cons _ _, e => by cases e
def tdTup (t : TAd) : TD := fun ρ μ R => t ρ μ fun dvs μ1 => ∃ ds, allD dvs = some ds ∧ ds.length ≤ 100000 ∧ R (.d (.tuple ds)) μ1
def tdLst (t : TAd) : TLd := fun ρ μ R => t ρ μ fun dvs μ1 => ∃ ds, allD dvs = some ds ∧ ds.length ≤ 100000 ∧ R ds μ1
theorem small6 {n : Nat} (h : n ≤ 100000) : n ≤ sizeLine := by rw [sizeLine_eq]; omega
section
variable {g : Cf} {X : Cx} {es : List Expr} {t : TAd} {pos : Pos}
theorem SS.newD {α : List Addr} {H0 H : Hp} {ρ : Env} {μ : Sto} {σ : L2.St} {p : Addr} {vs : List V} {ds : List PyData} (S : SS g α H0 ρ μ σ H) (h : H p = none) (hd : DpAll KZ H0 vs ds) :
    SS g α (upd H0 p (.tup vs)) ρ μ σ (upd H p (.tup vs)) ∧ Stp α H0 H α (upd H0 p (.tup vs)) (upd H p (.tup vs)) ∧ Dp KZ (upd H0 p (.tup vs)) (.ref p) (.tuple ds) :=
  ⟨S.new h, Stp.new S h, .tup (.of upd_same) (dps_same (upd_grow (S.free h)) _ _ hd)⟩
theorem jd_tup {x1} (h : PA X es (uTA g t)) : PE X (.Tuple es x1 pos) (uTE g (tdTup t)) := (pe_tup h).imp fun σ H Q ⟨α, H0, ρ, μ, R, S, q, k⟩ =>
  ⟨α, H0, ρ, μ, _, S, q, fun α1 H01 μ1 H1 vs dvs S1 p1 rv ⟨ds, e, hl, q1⟩ => by
    have hd := allD_ok rv e
    refine ⟨by rw [dps_len hd]; exact small6 hl, fun p hp => ?_⟩
    obtain ⟨a1, a2, a3⟩ := S1.newD hp hd
    exact k α1 _ μ1 _ (.ref p) (.d (.tuple ds)) a1 (p1.trans a2) a3 q1⟩
/-- the end of a rule that makes a list -/
theorem mkL {α α1 : List Addr} {H0 H H01 H1 : Hp} {ρ : Env} {μ1 : Sto} {σ : L2.St} {R : List PyData → Sto → Prop} {Q : VK} {vs : List V} {ds : List PyData} (S1 : SS g α1 H01 ρ μ1 σ H1) (p1 : Stp α H0 H α1 H01 H1) (hd : DpAll KZ H01 vs ds) (q : R ds μ1)
    (k : ∀ α' H0' μ' H' p vs ds, SS g α' H0' ρ μ' σ H' → Stp α H0 H α' H0' H' → H' p = some (.lst vs) → H0' p = none → p ∉ α' → H p = none → DpAll KZ H0' vs ds → R ds μ' → Q (.ref p) H') : ∀ p, H1 p = none → Q (.ref p) (upd H1 p (.lst vs)) := fun p hp => by
  refine k α1 H01 μ1 _ p vs ds (S1.side (S1.free hp) (S1.nin hp)) (p1.sideW ?_) upd_same (S1.free hp) (S1.nin hp) ?_ hd q
  all_goals
    cases z : H p with
    | none => rfl
    | some o => exact absurd hp (p1.al p (by rw [z]; simp))
theorem jl_lst (h : PA X es (uTA g t)) : PE X (.List es pos) (uTL g (tdLst t)) := (pe_lst h).imp fun σ H Q ⟨α, H0, ρ, μ, R, S, q, k⟩ =>
  ⟨α, H0, ρ, μ, _, S, q, fun α1 H01 μ1 H1 vs dvs S1 p1 rv ⟨ds, e, hl, q1⟩ => ⟨by rw [dps_len (allD_ok rv e)]; exact small6 hl, mkL S1 p1 (allD_ok rv e) q1 k⟩⟩
end
end JR
set_option maxHeartbeats 1000000
/-! JD7: list and tuple operators, slices, built-in calls of one argument. -/
namespace JR
open PySem PySem.Spec PyProof.Rows L2

/-! ### lists -/
section
variable {g : Cf} {X : Cx} {a b e : Expr} {ta tb te : TD} {pos : Pos}
theorem rd_obj {P : Program} {w : World} {H : Hp} {h : Heap} {l : Addr} {xs : List V} (ok : HOk P w H h) (r : Rd H l (.lst xs)) : xs.length ≤ sizeLine ∧ ∃ (its : List Value) (n : Nat), Vals xs its ∧ xs.length = its.length ∧ h.get? l = some { cls := .type "list", data := .seq its.toArray n } := by
  obtain ⟨z, its, n, q, e⟩ := r.ok ok
  exact ⟨z, its, n, q, q.length, e⟩
def rCatR : R2 := fun x y H Q => ∃ l b xs zs, x = .ref l ∧ y = .ref b ∧ Rd H l (.lst xs) ∧ Rd H b (.lst zs) ∧ xs.length + zs.length ≤ sizeLine ∧ ∀ p, H p = none → Q (.ref p) (upd H p (.lst (xs ++ zs)))
theorem op_catR : OpR X (binaryOp .Add) rCatR := by
  intro pins s σ H x y v u Q I rx ry h
  obtain ⟨l, b, xs, zs, rfl, rfl, hH, hB, hz, q⟩ := h
  cases rx
  cases ry
  obtain ⟨z, its, n, r, hl, e⟩ := rd_obj I.hok hH
  obtain ⟨z2, its2, n2, r2, hl2, e2⟩ := rd_obj I.hok hB
  refine PySem.P.add_list e e2 ?_ (by rw [List.size_toArray, List.size_toArray]; omega)
  have ea : its.toArray ++ its2.toArray = (its ++ its2).toArray := by simp
  rw [ea]
  exact ⟨.ref _, _, I.lnew (t' := s.toks) (r.append r2) (by rw [List.length_append]; omega), rfl, q _ I.fresh⟩
/-- xs + ys -/
def tdCat (ta tb : TD) : TLd := fun ρ μ R => ta ρ μ fun x μ1 => tb ρ μ1 fun y μ2 => ∃ ds es, lOf x μ2 = some ds ∧ lOf y μ2 = some es ∧ ds.length + es.length ≤ 100000 ∧ R (ds ++ es) μ2
theorem jl_cat (ha : PE X a (uTE g ta)) (hb : PE X b (uTE g tb)) : PE X (.BinOp a .Add b pos) (uTL g (tdCat ta tb)) := (pe_op op_catR ha hb).imp fun σ H Q ⟨α, H0, ρ, μ, R, S, h, k⟩ =>
  ⟨α, H0, ρ, μ, _, S, h, fun α1 H01 μ1 H1 x dx S1 p1 rx h1 => ⟨α1, H01, ρ, μ1, _, S1, h1, fun α2 H02 μ2 H2 y dy S2 p2 ry ⟨ds, es, e1, e2, hz, q⟩ => by
    obtain ⟨l, vs, ex, hs, ha⟩ := lOf_ok S2 (DvR.mono p2 rx) e1
    obtain ⟨b, us, ey, hs2, hb⟩ := lOf_ok S2 ry e2
    subst ex ey
    exact ⟨l, b, vs, us, rfl, rfl, sql_rd hs, sql_rd hs2, by rw [dps_len ha, dps_len hb]; exact small6 hz, mkL S2 (p1.trans p2) (dps_app ha hb) q k⟩⟩⟩
/-- slices -/
abbrev TOd := Env → Sto → (Option Int → Sto → Prop) → Prop
def uTO (g : Cf) (td : TOd) : TO := fun σ H Q => ∃ α H0 ρ μ R, SS g α H0 ρ μ σ H ∧ td ρ μ R ∧ ∀ α' H0' μ' H' o, SS g α' H0' ρ μ' σ H' → Stp α H0 H α' H0' H' → R o μ' → Q o H'
def tdNoPart : TOd := fun _ μ R => R none μ
def tdPart (t : TD) : TOd := fun ρ μ R => t ρ μ fun x μ1 => ∃ i, x = .d (.int i) ∧ R (some i) μ1
theorem jo_none : PO X none (uTO g tdNoPart) := po_none.imp fun σ H Q ⟨α, H0, ρ, μ, R, S, q, k⟩ => k α H0 μ H none S (Stp.refl _ _ _) q
theorem jo_some (h : PE X e (uTE g te)) : PO X (some e) (uTO g (tdPart te)) := (po_some h).imp fun σ H Q ⟨α, H0, ρ, μ, R, S, q, k⟩ =>
  ⟨α, H0, ρ, μ, _, S, q, fun α1 H01 μ1 H1 v dv S1 p1 rv ⟨i, e, q1⟩ => by
    subst e
    cases (show Dp KZ H01 v (.int i) from rv)
    exact ⟨i, rfl, k α1 H01 μ1 H1 (some i) S1 p1 q1⟩⟩
def cutD {β : Type} (xs : List β) (lo hi : Option Int) : List β := (xs.drop (HT.sIx xs.length 0 lo)).take (HT.sIx xs.length xs.length hi - HT.sIx xs.length 0 lo)
theorem cutD_dps {K : PySem.W.Frag} {H : Hp} {vs : List V} {ds : List PyData} (lo hi : Option Int) (h : DpAll K H vs ds) : DpAll K H (cutV vs lo hi) (cutD ds lo hi) := by
  unfold cutV cutD
  rw [dps_len h]
  exact dps_take _ (dps_drop _ h)
def tdSlL (te : TD) (tl th : TOd) : TLd := fun ρ μ R => te ρ μ fun x μ1 => tl ρ μ1 fun lo μ2 => th ρ μ2 fun hi μ3 => ∃ ds, lOf x μ3 = some ds ∧ R (cutD ds lo hi) μ3
variable {lo hi : Option Expr} {tl th : TOd} {p2 : Pos}
theorem jl_sl (he : PE X e (uTE g te)) (hl : PO X lo (uTO g tl)) (hu : PO X hi (uTO g th)) : PE X (.Subscript e (.Slice lo hi none p2) pos) (uTL g (tdSlL te tl th)) := (pe_slice sl_list he hl hu).imp fun σ H Q ⟨α, H0, ρ, μ, R, S, h, k⟩ =>
  ⟨α, H0, ρ, μ, _, S, h, fun α1 H01 μ1 H1 x dx S1 p1 rx h1 => ⟨α1, H01, ρ, μ1, _, S1, h1, fun α2 H02 μ2 H2 o S2 p2 h2 => ⟨α2, H02, ρ, μ2, _, S2, h2, fun α3 H03 μ3 H3 o2 S3 p3 ⟨ds, e1, q⟩ => by
    obtain ⟨l, vs, ex, hs, ha⟩ := lOf_ok S3 (DvR.mono (p2.trans p3) rx) e1
    subst ex
    exact ⟨l, vs, rfl, sql_k hs, mkL S3 (p1.trans (p2.trans p3)) (cutD_dps o o2 ha) q k⟩⟩⟩⟩
def tdSlT (te : TD) (tl th : TOd) : TD := fun ρ μ R => te ρ μ fun x μ1 => tl ρ μ1 fun lo μ2 => th ρ μ2 fun hi μ3 => ∃ ds, tOf x = some ds ∧ R (.d (.tuple (cutD ds lo hi))) μ3
theorem cut_whole {β : Type} {xs : List β} {lo hi : Option Int} (h : HT.sIx xs.length 0 lo = 0 ∧ HT.sIx xs.length xs.length hi = xs.length) : cutD xs lo hi = xs := by
  unfold cutD
  rw [h.1, h.2]
  simp
theorem jd_slT (he : PE X e (uTE g te)) (hl : PO X lo (uTO g tl)) (hu : PO X hi (uTO g th)) : PE X (.Subscript e (.Slice lo hi none p2) pos) (uTE g (tdSlT te tl th)) := (pe_slice sl_tupA he hl hu).imp fun σ H Q ⟨α, H0, ρ, μ, R, S, h, k⟩ =>
  ⟨α, H0, ρ, μ, _, S, h, fun α1 H01 μ1 H1 x dx S1 p1 rx h1 => ⟨α1, H01, ρ, μ1, _, S1, h1, fun α2 H02 μ2 H2 o S2 p2 h2 => ⟨α2, H02, ρ, μ2, _, S2, h2, fun α3 H03 μ3 H3 o2 S3 p3 ⟨ds, e1, q⟩ => by
    have rx3 := DvR.mono (p2.trans p3) rx
    obtain ⟨l, vs, ex, hs, ha⟩ := tOf_ok S3 rx3 e1
    refine ⟨l, vs, ex, sqt_k hs, fun hw => ?_, fun _ p hp => ?_⟩
    · rw [dps_len ha] at hw
      rw [cut_whole hw] at q
      have e2 : dx = .d (.tuple ds) := by
        unfold tOf at e1
        split at e1
        · cases e1; rfl
        · cases e1
      subst e2
      rw [← ex]
      exact k α3 H03 μ3 H3 x _ S3 (p1.trans (p2.trans p3)) rx3 q
    · obtain ⟨a1, a2, a3⟩ := S3.newD hp (cutD_dps o o2 ha)
      exact k α3 _ μ3 _ (.ref p) (.d (.tuple _)) a1 (p1.trans (p2.trans (p3.trans a2))) a3 q⟩⟩⟩
def tdSlS (te : TD) (tl th : TOd) : TD := fun ρ μ R => te ρ μ fun x μ1 => tl ρ μ1 fun lo μ2 => th ρ μ2 fun hi μ3 => ∃ z, x = .d (.str z) ∧ z.length ≤ sizeLine ∧ R (.d (.str (cutS z lo hi))) μ3
theorem jd_slS (he : PE X e (uTE g te)) (hl : PO X lo (uTO g tl)) (hu : PO X hi (uTO g th)) : PE X (.Subscript e (.Slice lo hi none p2) pos) (uTE g (tdSlS te tl th)) := (pe_slice sl_str he hl hu).imp fun σ H Q ⟨α, H0, ρ, μ, R, S, h, k⟩ =>
  ⟨α, H0, ρ, μ, _, S, h, fun α1 H01 μ1 H1 x dx S1 p1 rx h1 => ⟨α1, H01, ρ, μ1, _, S1, h1, fun α2 H02 μ2 H2 o S2 p2 h2 => ⟨α2, H02, ρ, μ2, _, S2, h2, fun α3 H03 μ3 H3 o2 S3 p3 ⟨z, e1, hz, q⟩ => by
    subst e1
    cases (show Dp KZ H01 x (.str z) from rx)
    exact ⟨z, rfl, hz, k α3 H03 μ3 H3 _ (.d (.str _)) S3 (p1.trans (p2.trans p3)) (.str _) q⟩⟩⟩⟩
/-- xs[::-1] -/
def tdRev (te : TD) : TLd := fun ρ μ R => te ρ μ fun x μ1 => ∃ ds, lOf x μ1 = some ds ∧ R ds.reverse μ1
theorem jl_rev {k : Nat} {p1 p2 p3 : Pos} (he : PE X e (uTE g te)) : PE X (.Subscript e (.Slice none none (some (.UnaryOp .USub (.Constant (.int 1) k p1) p2)) p3) pos) (uTL g (tdRev te)) := (pe_revL he).imp fun σ H Q ⟨α, H0, ρ, μ, R, S, h, k⟩ =>
  ⟨α, H0, ρ, μ, _, S, h, fun α1 H01 μ1 H1 x dx S1 p1 rx ⟨ds, e1, q⟩ => by
    obtain ⟨l, vs, ex, hs, ha⟩ := lOf_ok S1 rx e1
    subst ex
    exact ⟨l, vs, rfl, sql_k hs, mkL S1 p1 (dps_rev ha) q k⟩⟩
/-! ### tuples, texts -/
def fCatT : OpFn := fun x y μ R => ∃ ds es, tOf x = some ds ∧ tOf y = some es ∧ ds.length + es.length ≤ 100000 ∧ R (.d (.tuple (ds ++ es))) μ
theorem tOf_eq {dx : DV} {ds : List PyData} (e : tOf dx = some ds) : dx = .d (.tuple ds) := by
  unfold tOf at e
  split at e
  · cases e; rfl
  · cases e
theorem od_catT {K : PySem.W.Frag} : OpD g (rCatA K) fCatT := fun α H0 ρ μ σ H x y dx dy R Q S rx ry ⟨ds, es, e1, e2, hz, q⟩ k => by
  obtain ⟨l, vs, ex, hs, ha⟩ := tOf_ok S rx e1
  obtain ⟨b, us, ey, hs2, hb⟩ := tOf_ok S ry e2
  have f1 := tOf_eq e1
  have f2 := tOf_eq e2
  subst f1 f2
  refine ⟨l, b, vs, us, ex, ey, sqt_k hs, sqt_k hs2, by rw [dps_len ha, dps_len hb]; exact small6 hz, fun h => ?_, fun _ h => ?_, fun _ _ p hp => ?_⟩
  · subst h
    cases ha
    rw [← ey]
    exact k α H0 μ H y (.d (.tuple es)) S (Stp.refl _ _ _) ry q
  · subst h
    cases hb
    rw [List.append_nil] at q
    rw [← ex]
    exact k α H0 μ H x (.d (.tuple ds)) S (Stp.refl _ _ _) rx q
  · obtain ⟨a1, a2, a3⟩ := S.newD hp (dps_app ha hb)
    exact k α _ μ _ (.ref p) (.d (.tuple _)) a1 a2 a3 q
theorem jd_catT (ha : PE X a (uTE g ta)) (hb : PE X b (uTE g tb)) : PE X (.BinOp a .Add b pos) (uTE g (tdOp fCatT ta tb)) := jd_op op_catA od_catT ha hb
def fCatS : OpFn := fun x y μ R => ∃ i j, x = .d (.str i) ∧ y = .d (.str j) ∧ i.length + j.length ≤ sizeLine ∧ R (.d (.str (i ++ j))) μ
theorem jd_catS (ha : PE X a (uTE g ta)) (hb : PE X b (uTE g tb)) : PE X (.BinOp a .Add b pos) (uTE g (tdOp fCatS ta tb)) := jd_op op_add_str (fun α H0 ρ μ σ H x y dx dy R Q S rx ry ⟨i, j, e1, e2, hz, q⟩ k => by
  subst e1 e2
  cases (show Dp KZ H0 x (.str i) from rx)
  cases (show Dp KZ H0 y (.str j) from ry)
  exact ⟨i, j, rfl, rfl, hz, k α H0 μ H _ (.d (.str (i ++ j))) S (Stp.refl _ _ _) (.str _) q⟩) ha hb
def rMulS : R2 := fun x y H Q => ∃ z n, x = .str z ∧ y = .int n ∧ MulOk z n ∧ Q (.str (Txt.mul z n)) H
theorem op_mulS : OpR X (binaryOp .Mult) rMulS := by
  intro pins s σ H x y v u Q I rx ry h
  obtain ⟨z, n, rfl, rfl, hm, q⟩ := h
  obtain ⟨t, rfl⟩ := rx
  obtain ⟨t', rfl⟩ := ry
  exact SB.mul hm fun t' k => ⟨.str _, H, I.tok _, ⟨_, rfl⟩, q⟩
def fMulS : OpFn := fun x y μ R => ∃ z n, x = .d (.str z) ∧ y = .d (.int n) ∧ MulOk z n ∧ R (.d (.str (Txt.mul z n))) μ
theorem jd_mulS (ha : PE X a (uTE g ta)) (hb : PE X b (uTE g tb)) : PE X (.BinOp a .Mult b pos) (uTE g (tdOp fMulS ta tb)) := jd_op op_mulS (fun α H0 ρ μ σ H x y dx dy R Q S rx ry ⟨i, j, e1, e2, hz, q⟩ k => by
  subst e1 e2
  cases (show Dp KZ H0 x (.str i) from rx)
  cases (show Dp KZ H0 y (.int j) from ry)
  exact ⟨i, j, rfl, rfl, hz, k α H0 μ H _ (.d (.str _)) S (Stp.refl _ _ _) (.str _) q⟩) ha hb
end

/-! ### built-ins of one argument -/
def Cd1 (g : Cf) (r : List V → Hp → VK → Prop) (f : DV → Sto → (DV → Sto → Prop) → Prop) : Prop := ∀ α H0 ρ μ σ H x dx R Q, SS g α H0 ρ μ σ H → DvR g α H0 x dx → f dx μ R →
  (∀ α' H0' μ' H' v dv, SS g α' H0' ρ μ' σ H' → Stp α H0 H α' H0' H' → DvR g α' H0' v dv → R dv μ' → Q v H') → r [x] H Q
def Cl1 (g : Cf) (r : List V → Hp → VK → Prop) (f : DV → Sto → (List PyData → Sto → Prop) → Prop) : Prop := ∀ α H0 ρ μ σ H x dx R Q, SS g α H0 ρ μ σ H → DvR g α H0 x dx → f dx μ R →
  (∀ α' H0' μ' H' p vs ds, SS g α' H0' ρ μ' σ H' → Stp α H0 H α' H0' H' → H' p = some (.lst vs) → H0' p = none → p ∉ α' → H p = none → DpAll KZ H0' vs ds → R ds μ' → Q (.ref p) H') → r [x] H Q
def td1 (f : DV → Sto → (DV → Sto → Prop) → Prop) (t : TD) : TD := fun ρ μ R => t ρ μ fun x μ1 => f x μ1 R
def tl1 (f : DV → Sto → (List PyData → Sto → Prop) → Prop) (t : TD) : TLd := fun ρ μ R => t ρ μ fun x μ1 => f x μ1 R
section
variable {g : Cf} {X : Cx} {e : Expr} {te : TD} {p pos : Pos} {id : String} {r : List V → Hp → VK → Prop} {x : Str}
theorem td1_imp {f : DV → Sto → (DV → Sto → Prop) → Prop} (hd : Cd1 g r f) : ∀ σ H Q, uTE g (td1 f te) σ H Q → tCB r (tCons (uTE g te) tNil) σ H Q := fun σ H Q ⟨α, H0, ρ, μ, R, S, h, k⟩ =>
  ⟨α, H0, ρ, μ, _, S, h, fun α1 H01 μ1 H1 x dx S1 p1 rx h1 => hd α1 H01 ρ μ1 σ H1 x dx R Q S1 rx h1 fun α2 H02 μ2 H2 v dv S2 p2 rv q => k α2 H02 μ2 H2 v dv S2 (p1.trans p2) rv q⟩
theorem tl1_imp {f : DV → Sto → (List PyData → Sto → Prop) → Prop} (hd : Cl1 g r f) : ∀ σ H Q, uTL g (tl1 f te) σ H Q → tCB r (tCons (uTE g te) tNil) σ H Q := fun σ H Q ⟨α, H0, ρ, μ, R, S, h, k⟩ =>
  ⟨α, H0, ρ, μ, _, S, h, fun α1 H01 μ1 H1 x dx S1 p1 rx h1 => hd α1 H01 ρ μ1 σ H1 x dx R Q S1 rx h1 fun α2 H02 μ2 H2 p vs ds S2 p2 hp h0 hn hf hds q => k α2 H02 μ2 H2 p vs ds S2 (p1.trans p2) hp h0 hn (by
    cases z : H p with
    | none => rfl
    | some o => exact absurd hf (p1.al p (by rw [z]; simp))) hds q⟩
variable (hg : Gl X x) (hm : X.mg x = none)
theorem jd_b1 {f : DV → Sto → (DV → Sto → Prop) → Prop} (hc : CallR X (.builtin id) r) (hd : Cd1 g r f) (hg : Gl X x) (hm : X.mg x = none) (hv : bootBuiltins x = some (.builtin id)) (ha : PE X e (uTE g te)) (hn : x ≠ "__name__" := by decide) (hdb : (x == ("__debug__" : Str)) = false := by decide)
    (he : starEach [e] X.env = (false, eval e X.env) :: starEach [] X.env := by rfl) (hpl : (backTo pos (starEach [] X.env)).any (·.1) = false := by rfl) : PE X (.Call (.Name x p) [e] [] pos) (uTE g (td1 f te)) :=
  (pe_callB hc hg hm hv (pa_cons ha pa_nil he) hn hdb he hpl).imp (td1_imp hd)
theorem jl_b1 {f : DV → Sto → (List PyData → Sto → Prop) → Prop} (hc : CallR X (.builtin id) r) (hd : Cl1 g r f) (hg : Gl X x) (hm : X.mg x = none) (hv : bootBuiltins x = some (.builtin id)) (ha : PE X e (uTE g te)) (hn : x ≠ "__name__" := by decide) (hdb : (x == ("__debug__" : Str)) = false := by decide)
    (he : starEach [e] X.env = (false, eval e X.env) :: starEach [] X.env := by rfl) (hpl : (backTo pos (starEach [] X.env)).any (·.1) = false := by rfl) : PE X (.Call (.Name x p) [e] [] pos) (uTL g (tl1 f te)) :=
  (pe_callB hc hg hm hv (pa_cons ha pa_nil he) hn hdb he hpl).imp (tl1_imp hd)
theorem jd_t1 {f : DV → Sto → (DV → Sto → Prop) → Prop} (hc : CallR X (.type id) r) (hd : Cd1 g r f) (hg : Gl X x) (hm : X.mg x = none) (hv : bootBuiltins x = some (.type id)) (ha : PE X e (uTE g te)) (hn : x ≠ "__name__" := by decide) (hdb : (x == ("__debug__" : Str)) = false := by decide)
    (he : starEach [e] X.env = (false, eval e X.env) :: starEach [] X.env := by rfl) (hpl : (backTo pos (starEach [] X.env)).any (·.1) = false := by rfl) : PE X (.Call (.Name x p) [e] [] pos) (uTE g (td1 f te)) :=
  (pe_callTy hc hg hm hv (pa_cons ha pa_nil he) hn hdb he hpl).imp (td1_imp hd)
theorem jl_t1 {f : DV → Sto → (List PyData → Sto → Prop) → Prop} (hc : CallR X (.type id) r) (hd : Cl1 g r f) (hg : Gl X x) (hm : X.mg x = none) (hv : bootBuiltins x = some (.type id)) (ha : PE X e (uTE g te)) (hn : x ≠ "__name__" := by decide) (hdb : (x == ("__debug__" : Str)) = false := by decide)
    (he : starEach [e] X.env = (false, eval e X.env) :: starEach [] X.env := by rfl) (hpl : (backTo pos (starEach [] X.env)).any (·.1) = false := by rfl) : PE X (.Call (.Name x p) [e] [] pos) (uTL g (tl1 f te)) :=
  (pe_callTy hc hg hm hv (pa_cons ha pa_nil he) hn hdb he hpl).imp (tl1_imp hd)
end
def fLen : DV → Sto → (DV → Sto → Prop) → Prop := fun x μ R => (∃ ds, seqOf x μ = some ds ∧ R (.d (.int ds.length)) μ) ∨ ∃ z, x = .d (.str z) ∧ z.length ≤ sizeLine ∧ R (.d (.int z.length)) μ
def fAll : DV → Sto → (DV → Sto → Prop) → Prop := fun x μ R => ∃ bs : List Bool, lOf x μ = some (bs.map .bool) ∧ R (.d (.bool (bs.all id))) μ
def fAny : DV → Sto → (DV → Sto → Prop) → Prop := fun x μ R => ∃ bs : List Bool, lOf x μ = some (bs.map .bool) ∧ R (.d (.bool (bs.any id))) μ
def fTupleOf : DV → Sto → (DV → Sto → Prop) → Prop := fun x μ R => ∃ ds, seqOf x μ = some ds ∧ R (.d (.tuple ds)) μ
def fListOf : DV → Sto → (List PyData → Sto → Prop) → Prop := fun x μ R => ∃ ds, seqOf x μ = some ds ∧ R ds μ
def fIntB : DV → Sto → (DV → Sto → Prop) → Prop := fun x μ R => ∃ b, x = .d (.bool b) ∧ R (.d (.int (if b = true then 1 else 0))) μ
section
variable {g : Cf} {X : Cx} {e : Expr} {te : TD} {p pos : Pos} {K : PySem.W.Frag}
theorem cd_len : Cd1 g (fun xs H Q => ∃ x n, xs = [x] ∧ LenV K x H n ∧ Q (.int n) H) fLen := fun α H0 ρ μ σ H x dx R Q S rx h k => by
  rcases h with ⟨ds, e, q⟩ | ⟨z, e, hz, q⟩
  · obtain ⟨a, vs, ex, hs, ha⟩ := seqOf_ok S rx e
    subst ex
    refine ⟨_, vs.length, rfl, ?_, k α H0 μ H _ (.d (.int ds.length)) S (Stp.refl _ _ _) (by rw [dps_len ha]; exact .int _) q⟩
    rcases hs with hs | hs
    · exact .inl ⟨vs, sql_k hs, rfl⟩
    · exact .inr ⟨vs, sqt_k hs, rfl⟩
  · subst e
    cases (show Dp KZ H0 x (.str z) from rx)
    exact ⟨_, z.length, rfl, ⟨hz, rfl⟩, k α H0 μ H _ (.d (.int z.length)) S (Stp.refl _ _ _) (.int _) q⟩
theorem cd_all : Cd1 g (rAll K) fAll := fun α H0 ρ μ σ H x dx R Q S rx ⟨bs, e, q⟩ k => by
  obtain ⟨a, vs, ex, hs, ha⟩ := lOf_ok S rx e
  subst ex
  rw [dps_bools ha] at hs
  exact ⟨a, bs, rfl, sql_k hs, k α H0 μ H _ (.d (.bool _)) S (Stp.refl _ _ _) (.bl _) q⟩
theorem cd_any : Cd1 g (rAny K) fAny := fun α H0 ρ μ σ H x dx R Q S rx ⟨bs, e, q⟩ k => by
  obtain ⟨a, vs, ex, hs, ha⟩ := lOf_ok S rx e
  subst ex
  rw [dps_bools ha] at hs
  exact ⟨a, bs, rfl, sql_k hs, k α H0 μ H _ (.d (.bool _)) S (Stp.refl _ _ _) (.bl _) q⟩
theorem cd_tupleOf : Cd1 g (fun xs H Q => ∃ p ys, xs = [.ref p] ∧ ((SqL K H p ys ∧ ∀ l, H l = none → Q (.ref l) (upd H l (.tup ys))) ∨ (SqT K H p ys ∧ Q (.ref p) H))) fTupleOf := fun α H0 ρ μ σ H x dx R Q S rx ⟨ds, e, q⟩ k => by
  unfold seqOf at e
  split at e
  · rename_i ds' h1
    cases e
    obtain ⟨a, vs, ex, hs, ha⟩ := lOf_ok S rx h1
    subst ex
    refine ⟨a, vs, rfl, .inl ⟨sql_k hs, fun l hl => ?_⟩⟩
    obtain ⟨a1, a2, a3⟩ := S.newD hl ha
    exact k α _ μ _ (.ref l) (.d (.tuple _)) a1 a2 a3 q
  · obtain ⟨a, vs, ex, hs, ha⟩ := tOf_ok S rx e
    have f1 := tOf_eq e
    subst f1
    refine ⟨a, vs, by rw [ex], .inr ⟨sqt_k hs, ?_⟩⟩
    rw [← ex]
    exact k α H0 μ H x (.d (.tuple ds)) S (Stp.refl _ _ _) rx q
theorem cl_listOf : Cl1 g (fun xs H Q => ∃ p ys, xs = [.ref p] ∧ (SqL K H p ys ∨ SqT K H p ys) ∧ ∀ l, H l = none → Q (.ref l) (upd H l (.lst ys))) fListOf := fun α H0 ρ μ σ H x dx R Q S rx ⟨ds, e, q⟩ k => by
  obtain ⟨a, vs, ex, hs, ha⟩ := seqOf_ok S rx e
  subst ex
  exact ⟨a, vs, rfl, hs.imp sql_k sqt_k, mkL S (Stp.refl _ _ _) ha q k⟩
theorem cd_intB : Cd1 g (fun xs H Q => (∃ i, xs = [.int i] ∧ Q (.int i) H) ∨ ∃ k, xs = [.bl k] ∧ Q (.int (if k = true then 1 else 0)) H) fIntB := fun α H0 ρ μ σ H x dx R Q S rx ⟨b, e, q⟩ k => by
  subst e
  cases (show Dp KZ H0 x (.bool b) from rx)
  exact .inr ⟨b, rfl, k α H0 μ H _ (.d (.int _)) S (Stp.refl _ _ _) (.int _) q⟩
theorem jd_len (hg : Gl X "len") (hm : X.mg "len" = none) (ha : PE X e (uTE g te)) (he : starEach [e] X.env = (false, eval e X.env) :: starEach [] X.env := by rfl) : PE X (.Call (.Name "len" p) [e] [] pos) (uTE g (td1 fLen te)) := jd_b1 call_len cd_len hg hm (by decide +kernel) ha (he := he)
theorem jd_all (hc : X.calm = true) (hg : Gl X "all") (hm : X.mg "all" = none) (ha : PE X e (uTE g te)) (he : starEach [e] X.env = (false, eval e X.env) :: starEach [] X.env := by rfl) : PE X (.Call (.Name "all" p) [e] [] pos) (uTE g (td1 fAll te)) := jd_b1 (cr_all hc) cd_all hg hm (by decide +kernel) ha (he := he)
theorem jd_any (hc : X.calm = true) (hg : Gl X "any") (hm : X.mg "any" = none) (ha : PE X e (uTE g te)) (he : starEach [e] X.env = (false, eval e X.env) :: starEach [] X.env := by rfl) : PE X (.Call (.Name "any" p) [e] [] pos) (uTE g (td1 fAny te)) := jd_b1 (cr_any hc) cd_any hg hm (by decide +kernel) ha (he := he)
theorem jd_tupleOf (hg : Gl X "tuple") (hm : X.mg "tuple" = none) (ha : PE X e (uTE g te)) (he : starEach [e] X.env = (false, eval e X.env) :: starEach [] X.env := by rfl) : PE X (.Call (.Name "tuple" p) [e] [] pos) (uTE g (td1 fTupleOf te)) := jd_t1 call_tuple_of cd_tupleOf hg hm (by decide +kernel) ha (he := he)
theorem jl_listOf (hg : Gl X "list") (hm : X.mg "list" = none) (ha : PE X e (uTE g te)) (he : starEach [e] X.env = (false, eval e X.env) :: starEach [] X.env := by rfl) : PE X (.Call (.Name "list" p) [e] [] pos) (uTL g (tl1 fListOf te)) := jl_t1 call_list_of cl_listOf hg hm (by decide +kernel) ha (he := he)
end
end JR
set_option maxHeartbeats 1000000
/-! JD8: sorted and min of data, isinstance, methods of lists, truth, attributes. -/
namespace JR
open PySem PySem.Spec PyProof.Rows L2 PySem.W

/-! ### sorted -/
theorem each_of {K : PySem.W.Frag} {H : Hp} : ∀ {xs : List V} {us : List Value} {ds : List PyData}, Vals xs us → DpAll K H xs ds → EachIs (fun (u : Value) (b : V × PyData) => RelV b.1 u ∧ Dp K H b.1 b.2) us (xs.zip ds)
  | _, _, _, .nil, .nil => .nil
  | _, _, _, .cons r t, .cons d e => .cons ⟨r, d⟩ (each_of t e)
theorem each_vals {K : PySem.W.Frag} {H : Hp} {us : List Value} {bs : List (V × PyData)} (h : EachIs (fun (u : Value) (b : V × PyData) => RelV b.1 u ∧ Dp K H b.1 b.2) us bs) : Vals (bs.map (·.1)) us ∧ DpAll K H (bs.map (·.1)) (bs.map (·.2)) := by
  induction h with
  | nil => exact ⟨.nil, .nil⟩
  | cons r t ih => exact ⟨.cons r.1 ih.1, .cons r.2 ih.2⟩
theorem zip_snd {xs : List V} {ds : List PyData} (h : xs.length = ds.length) : (xs.zip ds).map (·.2) = ds := List.map_snd_zip (by omega)
def srt (ds : List PyData) : List PyData := ds.mergeSort (dataLe false id)
/-- the new list's items stand to the sorted data as the old ones to theirs -/
def rSortedD (K : PySem.W.Frag) : List V → Hp → VK → Prop := fun vs H Q => ∃ (a : Addr) (xs : List V) (ds : List PyData), vs = [V.ref a] ∧ SqL K H a xs ∧ DpAll K H xs ds ∧ AllAlike ds ∧ Sortable ds ∧ (∀ d ∈ ds, d.depth ≤ 60) ∧
  ∀ (ys : List V) (p : Addr), (∀ F : V → PyData → Prop, Paired F xs ds → Paired F ys (srt ds)) → H p = none → Q (.ref p) (upd H p (.lst ys))
theorem paired_zip {F : V → PyData → Prop} : ∀ {xs : List V} {ds : List PyData}, Paired F xs ds → ∀ b ∈ xs.zip ds, F b.1 b.2
  | _, _, .nil, _, h => by simp at h
  | _, _, .cons r t, b, h => by
    rcases List.mem_cons.mp (show b ∈ _ :: _ from h) with e | h
    · rw [e]; exact r
    · exact paired_zip t b h
theorem paired_maps {F : V → PyData → Prop} : ∀ l : List (V × PyData), (∀ b ∈ l, F b.1 b.2) → Paired F (l.map (·.1)) (l.map (·.2))
  | [], _ => .nil
  | b :: l, h => .cons (h b (List.mem_cons_self ..)) (paired_maps l fun c hc => h c (List.mem_cons_of_mem _ hc))
theorem cr_sortedD {X : Cx} (hu : X.A.units + 64 < cLine) : CallR X (.builtin "sorted") (rSortedD X.K) := by
  intro pins s σ H vs us Q I r h
  obtain ⟨a, xs, ds, rfl, hs, hd, hal, hso, hdep, q⟩ := h
  obtain ⟨its, rv, hl, hz⟩ := I.list hs
  rw [Vals.ref1 r]
  have hlen := dps_len hd
  have e := each_of rv hd
  have es := zip_snd hlen
  have hbl : (xs.zip ds).length = xs.length := by rw [List.length_zip]; omega
  refine PySem.W.sorted_data (R := fun (u : Value) (b : V × PyData) => RelV b.1 u ∧ Dp X.K H b.1 b.2) (enc := fun b : V × PyData => b.2) hl.isList e (e.mono fun u b z => Dp.reads I b.2 b.1 u z.2 z.1) (by rw [es]; exact hal) (by rw [es]; exact hso) (by rw [hbl]; exact hz) (fun b hb => ?_) fun out hout ho => ?_
  · have hm : b.2 ∈ ds := by rw [← es]; exact List.mem_map.mpr ⟨b, hb, rfl⟩
    have := hdep b.2 hm
    omega
  · obtain ⟨h1, _⟩ := each_vals ho
    have e3 : ((xs.zip ds).mergeSort (dataLe false fun b : V × PyData => b.2)).map (·.2) = srt ds :=
      (PySem.W.sort_maps (r := dataLe false fun b : V × PyData => b.2) (s := dataLe false id) (fun b : V × PyData => b.2) (fun _ _ _ _ => rfl)).trans (by rw [es]; rfl)
    obtain ⟨c, hc⟩ := PyProof.Rows.sortedAll_at s.heap its (List.toArray out)
    have hl2 : ((xs.zip ds).mergeSort (dataLe false fun b : V × PyData => b.2)).length = xs.length := by rw [List.length_mergeSort, hbl]
    refine ⟨.ref (s.heap.objs.size + 1), _, I.laid (t' := s.toks) (fun _ _ => PyProof.Rows.sortedAll_old) (Nat.le_succ _) (o := .lst (((xs.zip ds).mergeSort (dataLe false fun b : V × PyData => b.2)).map (·.1))) ⟨by rw [List.length_map, hl2]; exact hz, out, c, h1, hc⟩, rfl, q _ _ (fun F hF => ?_) (I.hok.fresh (Nat.le_succ _))⟩
    rw [← e3]
    exact paired_maps _ fun b hb => paired_zip hF b (List.mem_mergeSort.mp hb)
def fSorted : DV → Sto → (List PyData → Sto → Prop) → Prop := fun x μ R => ∃ ds, lOf x μ = some ds ∧ AllAlike ds ∧ Sortable ds ∧ (∀ d ∈ ds, d.depth ≤ 60) ∧ R (srt ds) μ
/-! ### min of a list -/
def rMinD (K : PySem.W.Frag) : List V → Hp → VK → Prop := fun vs H Q => ∃ (a : Addr) (xs : List V) (x : PyData) (ds : List PyData), vs = [V.ref a] ∧ SqL K H a xs ∧ DpAll K H xs (x :: ds) ∧ AlikeAll (x :: ds) ∧ PyData.depthAll (x :: ds) ≤ 60 ∧
  ∀ v (i : Nat), xs[i]? = some v → (x :: ds)[i]? = some (minD x ds) → Q v H
theorem cr_minD {X : Cx} (hc : X.calm = true) (hu : X.A.units + 64 < cLine) : CallR X (.builtin "min") (rMinD X.K) := by
  intro pins s σ H vs us Q I r h
  obtain ⟨a, xs, x, ds, rfl, hs, hd, hal, hdep, q⟩ := h
  obtain ⟨its, rv, hl, hz⟩ := I.list hs
  rw [Vals.ref1 r]
  obtain ⟨as, hr⟩ := Dp.readsAll I (x :: ds) xs its hd rv
  have hh := I.ok.hd hc
  have hn : its.toArray.size = ds.length + 1 := readsAll_len (vs := its.toArray) hr
  refine call_min_walkH (iter_listW (A := X.A.in1) hh hl.isList fun s₂ e W st hfp hw hk => ?_)
  refine ⟨_, _, _, _, _, _, _, s.heap, _, rfl, W, st, hfp, by omega, hw, hk, cmpIn_lt (A := X.A.in1) (vs := its.toArray) hr hal (by show X.A.units + 1 + _ < _; omega), fun v s' hP m => ?_⟩
  obtain ⟨h', tk, rfl, hk'⟩ := moved_old e rfl m
  have e1 : its.toArray.size - 1 = ds.length := by omega
  have e2 := (argBest_fold dataLt PyData.none x ds ds.length (Nat.le_refl _)).2
  rw [List.take_length] at e2
  rw [e1] at hP
  generalize hj : argBest (fun i j => dataLt ((x :: ds).getD i PyData.none) ((x :: ds).getD j PyData.none)) ds.length = j at hP e2
  have hP : its.toArray[j]? = some v := hP
  have hj1 : j < its.length := by
    have z := (Array.getElem?_eq_some_iff.mp hP).1
    simpa using z
  have hj2 : j < xs.length := by rw [rv.length]; exact hj1
  have hj3 : j < (x :: ds).length := by rw [← dps_len hd]; exact hj2
  obtain ⟨vv, hv1, hv2⟩ := dps_get hd (List.getElem?_eq_getElem hj3)
  obtain ⟨u, hu1, hu2⟩ := rv.get hv1
  have eu : u = v := by
    have z : its[j]? = some v := by simpa using hP
    rw [hu1] at z
    exact Option.some.inj z
  subst eu
  have ed : (x :: ds)[j] = minD x ds := by
    have z : (x :: ds).getD j PyData.none = (x :: ds)[j] := by
      rw [List.getD_eq_getElem?_getD, List.getElem?_eq_getElem hj3]; rfl
    rw [← z]
    exact e2
  rw [ed] at hv2
  exact ⟨vv, H, I.kept hk', hu2, q vv j hv1 (by rw [List.getElem?_eq_getElem hj3, ed])⟩
def fMin : DV → Sto → (DV → Sto → Prop) → Prop := fun x μ R => ∃ d ds, lOf x μ = some (d :: ds) ∧ AlikeAll (d :: ds) ∧ PyData.depthAll (d :: ds) ≤ 60 ∧ R (.d (minD d ds)) μ
section
variable {g : Cf} {X : Cx} {e : Expr} {te : TD} {p pos : Pos} {K : PySem.W.Frag}
theorem dps_paired {H : Hp} : ∀ {vs : List V} {ds : List PyData}, DpAll KZ H vs ds → Paired (Dp KZ H) vs ds
  | _, _, .nil => .nil
  | _, _, .cons a t => .cons a (dps_paired t)
theorem paired_dps {H : Hp} : ∀ {vs : List V} {ds : List PyData}, Paired (Dp KZ H) vs ds → DpAll KZ H vs ds
  | _, _, .nil => .nil
  | _, _, .cons a t => .cons a (paired_dps t)
theorem cl_sorted : Cl1 g (rSortedD K) fSorted := fun α H0 ρ μ σ H x dx R Q S rx ⟨ds, e, h1, h2, h3, q⟩ k => by
  obtain ⟨a, vs, ex, hs, ha⟩ := lOf_ok S rx e
  subst ex
  exact ⟨a, vs, ds, rfl, sql_k hs, dps_k _ _ (dps_same S.ext _ _ ha), h1, h2, h3, fun ys p hy hp => mkL S (Stp.refl _ _ _) (paired_dps (hy _ (dps_paired ha))) q k p hp⟩
theorem cd_min : Cd1 g (rMinD K) fMin := fun α H0 ρ μ σ H x dx R Q S rx ⟨d, ds, e, h1, h2, q⟩ k => by
  obtain ⟨a, vs, ex, hs, ha⟩ := lOf_ok S rx e
  subst ex
  refine ⟨a, vs, d, ds, rfl, sql_k hs, dps_k _ _ (dps_same S.ext _ _ ha), h1, h2, fun v i hv hi => ?_⟩
  obtain ⟨v', hv', hd⟩ := dps_get ha hi
  rw [hv] at hv'
  cases hv'
  exact k α H0 μ H v (.d (minD d ds)) S (Stp.refl _ _ _) hd q
theorem jl_sorted {j : Nat} (hr : Room j X.A) (hg : Gl X "sorted") (hm : X.mg "sorted" = none) (ha : PE X e (uTE g te)) (he : starEach [e] X.env = (false, eval e X.env) :: starEach [] X.env := by rfl) : PE X (.Call (.Name "sorted" p) [e] [] pos) (uTL g (tl1 fSorted te)) := jl_b1 (cr_sortedD hr.units) cl_sorted hg hm (by decide +kernel) ha (he := he)
theorem jd_min {j : Nat} (hc : X.calm = true) (hr : Room j X.A) (hg : Gl X "min") (hm : X.mg "min" = none) (ha : PE X e (uTE g te)) (he : starEach [e] X.env = (false, eval e X.env) :: starEach [] X.env := by rfl) : PE X (.Call (.Name "min" p) [e] [] pos) (uTE g (td1 fMin te)) := jd_b1 (cr_minD hc hr.units) cd_min hg hm (by decide +kernel) ha (he := he)
theorem jd_intB (hg : Gl X "int") (hm : X.mg "int" = none) (ha : PE X e (uTE g te)) (he : starEach [e] X.env = (false, eval e X.env) :: starEach [] X.env := by rfl) : PE X (.Call (.Name "int" p) [e] [] pos) (uTE g (td1 fIntB te)) := jd_t1 call_int1 cd_intB hg hm (by decide +kernel) ha (he := he)
end

/-! ### built-ins of two arguments -/
def Cd2 (g : Cf) (r : List V → Hp → VK → Prop) (f : OpFn) : Prop := ∀ α H0 ρ μ σ H x y dx dy R Q, SS g α H0 ρ μ σ H → DvR g α H0 x dx → DvR g α H0 y dy → f dx dy μ R →
  (∀ α' H0' μ' H' v dv, SS g α' H0' ρ μ' σ H' → Stp α H0 H α' H0' H' → DvR g α' H0' v dv → R dv μ' → Q v H') → r [x, y] H Q
section
variable {g : Cf} {X : Cx} {a b : Expr} {ta tb : TD} {p pos : Pos} {id : String} {r : List V → Hp → VK → Prop} {x : Str}
theorem td2_imp {f : OpFn} (hd : Cd2 g r f) : ∀ σ H Q, uTE g (tdOp f ta tb) σ H Q → tCB r (tCons (uTE g ta) (tCons (uTE g tb) tNil)) σ H Q := fun σ H Q ⟨α, H0, ρ, μ, R, S, h, k⟩ =>
  ⟨α, H0, ρ, μ, _, S, h, fun α1 H01 μ1 H1 x dx S1 p1 rx h1 => ⟨α1, H01, ρ, μ1, _, S1, h1, fun α2 H02 μ2 H2 y dy S2 p2 ry h2 =>
    hd α2 H02 ρ μ2 σ H2 x y dx dy R Q S2 (DvR.mono p2 rx) ry h2 fun α3 H03 μ3 H3 v dv S3 p3 rv q => k α3 H03 μ3 H3 v dv S3 (p1.trans (p2.trans p3)) rv q⟩⟩
theorem jd_b2 {f : OpFn} (hc : CallR X (.builtin id) r) (hd : Cd2 g r f) (hg : Gl X x) (hm : X.mg x = none) (hv : bootBuiltins x = some (.builtin id)) (ha : PE X a (uTE g ta)) (hb : PE X b (uTE g tb)) (hn : x ≠ "__name__" := by decide) (hdb : (x == ("__debug__" : Str)) = false := by decide)
    (h1 : starEach [a, b] X.env = (false, eval a X.env) :: starEach [b] X.env := by rfl) (h2 : starEach [b] X.env = (false, eval b X.env) :: starEach [] X.env := by rfl) (hpl : (backTo pos (starEach [b] X.env)).any (·.1) = false := by rfl) : PE X (.Call (.Name x p) [a, b] [] pos) (uTE g (tdOp f ta tb)) :=
  (pe_callB hc hg hm hv (pa_cons ha (pa_cons hb pa_nil h2) h1) hn hdb h1 hpl).imp (td2_imp hd)
abbrev fMax2 : OpFn := fI fun i j => .int (if j > i then j else i)
abbrev fMin2 : OpFn := fI fun i j => .int (if j < i then j else i)
theorem cd_I2 {v : Int → Int → V} {q : Int → Int → PyData} (h : ∀ i j H, Dp KZ H (v i j) (q i j)) : Cd2 g (fun xs H Q => ∃ i j, xs = [.int i, .int j] ∧ Q (v i j) H) (fI q) := fun α H0 ρ μ σ H x y dx dy R Q S rx ry ⟨i, j, e1, e2, z⟩ k => by
  subst e1 e2
  cases (show Dp KZ H0 x (.int i) from rx)
  cases (show Dp KZ H0 y (.int j) from ry)
  exact ⟨i, j, rfl, k α H0 μ H _ (.d (q i j)) S (Stp.refl _ _ _) (h i j H0) z⟩
theorem jd_max2 (hc : X.calm = true) (hg : Gl X "max") (hm : X.mg "max" = none) (ha : PE X a (uTE g ta)) (hb : PE X b (uTE g tb)) (h1 : starEach [a, b] X.env = (false, eval a X.env) :: starEach [b] X.env := by rfl) (h2 : starEach [b] X.env = (false, eval b X.env) :: starEach [] X.env := by rfl)
    (hpl : (backTo pos (starEach [b] X.env)).any (·.1) = false := by rfl) : PE X (.Call (.Name "max" p) [a, b] [] pos) (uTE g (tdOp fMax2 ta tb)) := jd_b2 (call_max2 hc) (cd_I2 fun _ _ _ => .int _) hg hm (by decide +kernel) ha hb (h1 := h1) (h2 := h2) (hpl := hpl)
theorem jd_min2 (hc : X.calm = true) (hg : Gl X "min") (hm : X.mg "min" = none) (ha : PE X a (uTE g ta)) (hb : PE X b (uTE g tb)) (h1 : starEach [a, b] X.env = (false, eval a X.env) :: starEach [b] X.env := by rfl) (h2 : starEach [b] X.env = (false, eval b X.env) :: starEach [] X.env := by rfl)
    (hpl : (backTo pos (starEach [b] X.env)).any (·.1) = false := by rfl) : PE X (.Call (.Name "min" p) [a, b] [] pos) (uTE g (tdOp fMin2 ta tb)) := jd_b2 (call_min2 hc) (cd_I2 fun _ _ _ => .int _) hg hm (by decide +kernel) ha hb (h1 := h1) (h2 := h2) (hpl := hpl)
/-- isinstance against a built-in class -/
def kindD : PyData → String
  | .none => "NoneType"
  | .bool _ => "bool"
  | .int _ => "int"
  | .str _ => "str"
  | .list _ => "list"
  | .tuple _ => "tuple"
  | .dict _ => "dict"
theorem tyX_of {K : PySem.W.Frag} {H : Hp} {v : V} {d : PyData} (h : Dp KZ H v d) : TyX K H v (.type (kindD d)) := by
  cases h with
  | non => exact .base .non
  | bl b => exact .base (.bl b)
  | int i => exact .base (.int i)
  | str x => exact .base (.str x)
  | lst hs ha =>
    rcases sql_rd hs with e | ⟨o, e⟩
    · exact .base (.lst e)
    · exact .base (.frz e)
  | tup hs ha =>
    rcases sqt_rd hs with e | ⟨o, e⟩
    · exact .base (.tup e)
    · exact .fTuple e
def tdIsi (T : String) (ta : TD) : TD := fun ρ μ R => ta ρ μ fun x μ1 => ∃ d b, x = .d d ∧ kitB (kindD d) T = some b ∧ R (.d (.bool b)) μ1
theorem jd_isi {T : String} {q : Pos} {y : Str} (hg : Gl X "isinstance") (hm : X.mg "isinstance" = none) (ha : PE X a (uTE g ta)) (hgy : Gl X y) (hmy : X.mg y = none) (hy : bootBuiltins y = some (.type T)) (hny : y ≠ "__name__" := by decide) (hdy : (y == ("__debug__" : Str)) = false := by decide)
    (h1 : starEach [a, .Name y q] X.env = (false, eval a X.env) :: starEach [.Name y q] X.env := by rfl) (h2 : starEach [.Name y q] X.env = (false, eval (.Name y q) X.env) :: starEach [] X.env := by rfl) (hpl : (backTo pos (starEach [.Name y q] X.env)).any (·.1) = false := by rfl) :
    PE X (.Call (.Name "isinstance" p) [a, .Name y q] [] pos) (uTE g (tdIsi T ta)) :=
  (pe_callB call_isi hg hm (by decide +kernel) (pa_cons ha (pa_cons (pe_bltn (v := .ty T) hgy hmy hy rfl hny hdy) pa_nil h2) h1) (he := h1) (hpl := hpl)).imp fun σ H Q ⟨α, H0, ρ, μ, R, S, h, k⟩ =>
    ⟨α, H0, ρ, μ, _, S, h, fun α1 H01 μ1 H1 v dv S1 p1 rv ⟨d, b, e, hb, q⟩ => by
      subst e
      exact ⟨v, .ty T, .type (kindD d), .type T, b, rfl, .ty T, tyX_of (dp_same S1.ext _ _ rv), kit_ty hb, k α1 H01 μ1 H1 (.bl b) (.d (.bool b)) S1 p1 (.bl b) q⟩⟩
end
end JR
set_option maxHeartbeats 1000000
/-! JD9: methods of lists, truth of a list, fields of the world, join. -/
namespace JR
open PySem PySem.Spec PyProof.Rows L2

abbrev MtFn := DV → List DV → Sto → (DV → Sto → Prop) → Prop
def MtD (g : Cf) (r : V → List V → Hp → VK → Prop) (f : MtFn) : Prop := ∀ α H0 ρ μ σ H x vs dx dvs R Q, SS g α H0 ρ μ σ H → DvR g α H0 x dx → Paired (DvR g α H0) vs dvs → f dx dvs μ R →
  (∀ α' H0' μ' H' v dv, SS g α' H0' ρ μ' σ H' → Stp α H0 H α' H0' H' → DvR g α' H0' v dv → R dv μ' → Q v H') → r x vs H Q
/-- a method of a list -/
def tdM (f : MtFn) (te : TD) (ta : TAd) : TD := fun ρ μ R => te ρ μ fun x μ1 => (∃ ds, lOf x μ1 = some ds) ∧ ta ρ μ1 fun xs μ2 => f x xs μ2 R
def tdM0 (f : MtFn) (te : TD) : TD := fun ρ μ R => te ρ μ fun x μ1 => (∃ ds, lOf x μ1 = some ds) ∧ f x [] μ1 R
section
variable {g : Cf} {K : PySem.W.Frag} {r : V → List V → Hp → VK → Prop} {f : MtFn} {te : TD} {ta : TAd}
theorem lOf_ty {α : List Addr} {H0 H : Hp} {ρ : Env} {μ : Sto} {σ : L2.St} {x : V} {dx : DV} (S : SS g α H0 ρ μ σ H) (rx : DvR g α H0 x dx) (h : ∃ ds, lOf dx μ = some ds) : tyV K "list" x H := by
  obtain ⟨ds, e⟩ := h
  obtain ⟨a, vs, ex, hs, _⟩ := lOf_ok S rx e
  subst ex
  exact .inl ⟨rfl, vs, sql_k hs⟩
theorem tdM_imp (hd : MtD g r f) : ∀ σ H Q, uTE g (tdM f te ta) σ H Q → tBM K "list" r (uTE g te) (uTA g ta) σ H Q := fun σ H Q ⟨α, H0, ρ, μ, R, S, h, k⟩ =>
  ⟨α, H0, ρ, μ, _, S, h, fun α1 H01 μ1 H1 x dx S1 p1 rx ⟨hl, h1⟩ => ⟨lOf_ty S1 rx hl, α1, H01, ρ, μ1, _, S1, h1, fun α2 H02 μ2 H2 vs dvs S2 p2 rvs h2 =>
    hd α2 H02 ρ μ2 σ H2 x vs dx dvs R Q S2 (DvR.mono p2 rx) rvs h2 fun α3 H03 μ3 H3 v dv S3 p3 rv q => k α3 H03 μ3 H3 v dv S3 (p1.trans (p2.trans p3)) rv q⟩⟩
theorem tdM0_imp (hd : MtD g r f) : ∀ σ H Q, uTE g (tdM0 f te) σ H Q → tBM0 K "list" r (uTE g te) σ H Q := fun σ H Q ⟨α, H0, ρ, μ, R, S, h, k⟩ =>
  ⟨α, H0, ρ, μ, _, S, h, fun α1 H01 μ1 H1 x dx S1 p1 rx ⟨hl, h1⟩ => ⟨lOf_ty S1 rx hl,
    hd α1 H01 ρ μ1 σ H1 x [] dx [] R Q S1 rx .nil h1 fun α3 H03 μ3 H3 v dv S3 p3 rv q => k α3 H03 μ3 H3 v dv S3 (p1.trans p3) rv q⟩⟩
/-- a cell's list is put anew -/
theorem put_cell {α : List Addr} {H0 H : Hp} {ρ : Env} {μ : Sto} {σ : L2.St} {x : V} {k : Nat} {ds : List PyData} (S : SS g α H0 ρ μ σ H) (rx : DvR g α H0 x (.c k)) (hk : μ[k]? = some (.l ds)) :
    ∃ a vs, x = .ref a ∧ H a = some (.lst vs) ∧ DpAll KZ H0 vs ds ∧ ∀ us es, DpAll KZ H0 us es → SS g α H0 ρ (μ.set k (.l es)) σ (upd H a (.lst us)) ∧ Stp α H0 H α H0 (upd H a (.lst us)) := by
  obtain ⟨a, ex, ha⟩ := rx
  obtain ⟨h0, vs, h1, h2⟩ := S.cel k a _ ha hk
  exact ⟨a, vs, ex, h1, h2, fun us es hu => ⟨S.put ha h0 ⟨h0, us, upd_same, hu⟩, Stp.put ha⟩⟩
def fApp : MtFn := fun x xs μ R => ∃ k ds d, x = .c k ∧ xs = [.d d] ∧ μ[k]? = some (.l ds) ∧ ds.length < 100000 ∧ R (.d .none) (μ.set k (.l (ds ++ [d])))
theorem md_append : MtD g rAppend fApp := fun α H0 ρ μ σ H x vs dx dvs R Q S rx rvs ⟨k, ds, d, e1, e2, hk, hl, q⟩ kk => by
  subst e1 e2
  obtain ⟨a, xs, ex, h1, h2, h3⟩ := put_cell S rx hk
  cases rvs with
  | cons r t =>
    cases t
    rename_i y
    obtain ⟨S1, p1⟩ := h3 (xs ++ [y]) (ds ++ [d]) (dps_snoc h2 r)
    exact ⟨a, xs, y, ex, rfl, h1, small5 (by rw [dps_len h2]; exact hl), kk α H0 _ _ .non (.d .none) S1 p1 .non q⟩
def fPop : MtFn := fun x xs μ R => ∃ k ds d, x = .c k ∧ xs = [] ∧ μ[k]? = some (.l (ds ++ [d])) ∧ R (.d d) (μ.set k (.l ds))
theorem dps_last {H : Hp} : ∀ {vs : List V} {ds : List PyData} {d : PyData}, DpAll KZ H vs (ds ++ [d]) → ∃ us u, vs = us ++ [u] ∧ DpAll KZ H us ds ∧ Dp KZ H u d
  | [], [], _, h => nomatch h
  | [], _ :: _, _, h => nomatch h
  | v :: vs, [], d, h => by
    cases h with
    | cons a t => cases t; exact ⟨[], v, rfl, .nil, a⟩
  | v :: vs, e :: ds, d, h => by
    cases h with
    | cons a t =>
      obtain ⟨us, u, e, h1, h2⟩ := dps_last (ds := ds) t
      exact ⟨v :: us, u, by rw [e]; rfl, .cons a h1, h2⟩
theorem md_pop : MtD g rPop fPop := fun α H0 ρ μ σ H x vs dx dvs R Q S rx rvs ⟨k, ds, d, e1, e2, hk, q⟩ kk => by
  subst e1 e2
  cases rvs
  obtain ⟨a, xs, ex, h1, h2, h3⟩ := put_cell S rx hk
  obtain ⟨us, u, e, hu, hd⟩ := dps_last h2
  subst e
  obtain ⟨S1, p1⟩ := h3 us ds hu
  refine ⟨a, us ++ [u], u, ex, rfl, h1, by simp, ?_⟩
  rw [List.dropLast_concat]
  exact kk α H0 _ _ u (.d d) S1 p1 hd q
def fPopAt : MtFn := fun x xs μ R => ∃ k ds d, ∃ i : Nat, x = .c k ∧ xs = [.d (.int i)] ∧ μ[k]? = some (.l ds) ∧ i < 100000 ∧ ds[i]? = some d ∧ R (.d d) (μ.set k (.l (ds.eraseIdx i)))
theorem md_popAt : MtD g rPopAt fPopAt := fun α H0 ρ μ σ H x vs dx dvs R Q S rx rvs ⟨k, ds, d, i, e1, e2, hk, hi, hd, q⟩ kk => by
  subst e1 e2
  obtain ⟨a, xs, ex, h1, h2, h3⟩ := put_cell S rx hk
  cases rvs with
  | cons r t =>
    cases t
    cases (show Dp KZ H0 _ (.int i) from r)
    obtain ⟨v, hv, hvd⟩ := dps_get h2 hd
    obtain ⟨S1, p1⟩ := h3 (xs.eraseIdx i) (ds.eraseIdx i) (dps_erase i h2)
    have hlt : i < xs.length := (List.getElem?_eq_some_iff.mp hv).1
    refine ⟨a, xs, i, i, v, ex, rfl, h1, by omega, by omega, ?_, hv, kk α H0 _ _ v (.d d) S1 p1 hvd q⟩
    unfold seqIndex?
    have e1 : ¬ (i : Int) < 0 := by omega
    simp [e1, hlt]
def fIns : MtFn := fun x xs μ R => ∃ k ds d, ∃ i : Nat, x = .c k ∧ xs = [.d (.int i), .d d] ∧ μ[k]? = some (.l ds) ∧ i < 100000 ∧ ds.length < 100000 ∧ R (.d .none) (μ.set k (.l (ds.take i ++ d :: ds.drop i)))
theorem md_insert : MtD g (fun x vs H Q => ∃ (l : Addr) (xs : List V) (i : Int) (y : V), x = .ref l ∧ vs = [.int i, y] ∧ H l = some (.lst xs) ∧ xs.length < sizeLine ∧ 0 ≤ i ∧ i < 2 ^ 63 ∧
    Q .non (upd H l (.lst (xs.take i.toNat ++ [y] ++ xs.drop i.toNat)))) fIns := fun α H0 ρ μ σ H x vs dx dvs R Q S rx rvs ⟨k, ds, d, i, e1, e2, hk, hi, hl, q⟩ kk => by
  subst e1 e2
  obtain ⟨a, xs, ex, h1, h2, h3⟩ := put_cell S rx hk
  cases rvs with
  | cons r t =>
    cases t with
    | cons r2 t =>
      cases t
      cases (show Dp KZ H0 _ (.int i) from r)
      rename_i y
      obtain ⟨S1, p1⟩ := h3 (xs.take i ++ y :: xs.drop i) (ds.take i ++ d :: ds.drop i) (dps_ins i h2 r2)
      refine ⟨a, xs, i, y, ex, rfl, h1, small5 (by rw [dps_len h2]; exact hl), by omega, by omega, ?_⟩
      rw [Int.toNat_natCast, List.append_assoc]
      exact kk α H0 _ _ .non (.d .none) S1 p1 .non q
def fIndex : MtFn := fun x xs μ R => ∃ ds d, ∃ j : Nat, ∃ z, lOf x μ = some ds ∧ xs = [.d d] ∧ SeqAt.shaped (.list ds) = true ∧ SeqAt.shaped d = true ∧ ds[j]? = some z ∧ PyData.eqv z d = true ∧ (∀ (m : Nat) (z' : PyData), m < j → ds[m]? = some z' → PyData.eqv z' d = false) ∧ R (.d (.int j)) μ
theorem md_index : MtD g (rIndexD K) fIndex := fun α H0 ρ μ σ H x vs dx dvs R Q S rx rvs ⟨ds, d, j, z, e1, e2, s1, s2, hz, he, hn, q⟩ kk => by
  subst e2
  obtain ⟨a, xs, ex, hs, ha⟩ := lOf_ok S rx e1
  subst ex
  cases rvs with
  | cons r t =>
    cases t
    exact ⟨a, _, d, ds, j, z, rfl, rfl, dp_k _ _ (.lst hs (dps_same S.ext _ _ ha)), dp_k _ _ (dp_same S.ext _ _ r), s1, s2, hz, he, hn, kk α H0 μ H _ (.d (.int j)) S (Stp.refl _ _ _) (.int _) q⟩
/-- xs.extend(a tuple) -/
def rExtT (K : PySem.W.Frag) : V → List V → Hp → VK → Prop := fun x vs H Q => ∃ l b xs zs, x = .ref l ∧ vs = [.ref b] ∧ H l = some (.lst xs) ∧ SqT K H b zs ∧ xs.length + zs.length ≤ sizeLine ∧ Q .non (upd H l (.lst (xs ++ zs)))
theorem extT_gen (l : Addr) (items : Array Value) (n : Nat) (b : Addr) (items2 : Array Value) (n2 : Nat) (dd : Option Addr) (sl : Array (Option Value)) (hs0 : ¬(!items.isEmpty && Builtin.List.listTooLong (items.size + items2.size)) = true) (hs1 : items.size ≤ sizeLine) (hs2 : items.size + items2.size ≤ sizeLine) :
    Meets (Builtin.«list.extend» ⟨[.ref l, .ref b], []⟩) (fun _ R s => s.heap.get? l = some { cls := .type "list", data := .seq items n } ∧ s.heap.get? b = some { cls := .type "tuple", dict := dd, data := .seq items2 n2, slots := sl } ∧
      R (.ok (.ret .none)) { s with heap := s.heap.update l (Obj.mapSeq fun x => x ++ items2) }) :=
  .of_wp fun prog w A R s h => by
    obtain ⟨hp, g, d, tk, os⟩ := s
    obtain ⟨hl, hb, h⟩ := h
    have f2 := AutoSeq1.sub_tuple_tuple
    have f3 := AutoSeq1.sub_list_list
    have f4 := AutoSeq1.sub_tuple_list
    have f5 := AutoSeq1.sub_list_tuple
    have hz' : (items ++ items2).size ≤ sizeLine + 1 := by rw [Array.size_append]; omega
    wp_walk using (wpAny_updateSeq hl rfl (hz := hs1) (_hz' := hz')), wpAny_loadPart' hl, wpAny_loadPart' hb
    exact ⟨_, rfl, h⟩
variable {X : Cx}
theorem mt_extT : MtR X "list.extend" (rExtT X.K) := by
  intro pins s σ H x vs v us Q I rx rv h
  obtain ⟨l, b, xs, zs, rfl, rfl, hH, hB, hz, q⟩ := h
  cases rx
  obtain ⟨u, rfl, ru⟩ := rv.one
  cases ru
  obtain ⟨z, its, n, r, hl, e⟩ := I.lstM hH
  obtain ⟨its2, r2, ⟨⟨cls, dd, data, sl⟩, ho, hc, n2, hd⟩, hs⟩ := I.tuple hB
  simp only at hc hd
  subst hc hd
  have hl2 := r2.length
  have hsz : its.toArray.size + its2.toArray.size ≤ sizeLine := by rw [List.size_toArray, List.size_toArray]; omega
  have hlong : ¬ (!its.toArray.isEmpty && Builtin.List.listTooLong (its.toArray.size + its2.toArray.size)) = true := by
    rw [notLongL hsz, Bool.and_false]
    exact Bool.false_ne_true
  refine call_meets F.slot_list_extend ⟨_, e, rfl⟩ F.entry_list_extend (F.args_list_extend_2 _ _)
    (extT_gen l its.toArray n b its2.toArray n2 dd sl hlong (by rw [List.size_toArray]; omega) hsz) ⟨e, ho, ?_⟩
  refine ⟨.non, _, I.lset (t' := s.toks) (its' := its ++ its2) hH e (by simp) (r.append r2) ?_, rfl, q⟩
  rw [List.length_append]
  omega
def fExtT : MtFn := fun x xs μ R => ∃ k ds y es, x = .c k ∧ xs = [y] ∧ tOf y = some es ∧ μ[k]? = some (.l ds) ∧ ds.length + es.length ≤ 100000 ∧ R (.d .none) (μ.set k (.l (ds ++ es)))
theorem md_extT : MtD g (rExtT K) fExtT := fun α H0 ρ μ σ H x vs dx dvs R Q S rx rvs ⟨k, ds, y, es, e1, e2, ey, hk, hl, q⟩ kk => by
  subst e1 e2
  obtain ⟨a, xs, ex, h1, h2, h3⟩ := put_cell S rx hk
  cases rvs with
  | cons r t =>
    cases t
    obtain ⟨b, zs, eb, hb, hz⟩ := tOf_ok S r ey
    subst eb
    obtain ⟨S1, p1⟩ := h3 (xs ++ zs) (ds ++ es) (dps_app h2 hz)
    exact ⟨a, b, xs, zs, ex, rfl, h1, sqt_k hb, by rw [dps_len h2, dps_len hz]; exact small6 hl, kk α H0 _ _ .non (.d .none) S1 p1 .non q⟩
end
section
variable {X : Cx} {C : Addr} {o e e2 : Expr} {te ta tb : TD} {apos cpos pos p : Pos}
theorem jm_append (ho : PE X o (uTE ⟨X.prog, X.w, C⟩ te)) (h1 : PE X e (uTE ⟨X.prog, X.w, C⟩ ta)) (hbase : attributeBase o "append" X.env (eval o X.env) = eval o X.env := by rfl)
    (hfew : ((backTo cpos (starEach [e] X.env)).all (fun x => !x.1) && (backToKw cpos (keywordEach [] X.env)).all (fun x => x.1.isSome) && decide ([e].length + ([] : List Keyword).length + (if ([] : List Keyword).isEmpty then 0 else 1) < 30)) = true := by rfl)
    (hline : (apos.endLine == cpos.line) = true := by rfl) (hs : starEach [e] X.env = (false, eval e X.env) :: starEach [] X.env := by rfl) (hplain : (backTo cpos (starEach [] X.env)).any (·.1) = false := by rfl) :
    PE X (.Call (.Attribute o "append" apos) [e] [] cpos) (uTE ⟨X.prog, X.w, C⟩ (tdM fApp te (tdCons ta tdNil))) :=
  (pe_bm PySem.F.plainAttrs_list PySem.F.slot_list_append PySem.F.type_list_append mt_append ho (ja_cons h1 ja_nil hs) hbase hfew hline hs hplain).imp (tdM_imp md_append)
theorem jm_extT (ho : PE X o (uTE ⟨X.prog, X.w, C⟩ te)) (h1 : PE X e (uTE ⟨X.prog, X.w, C⟩ ta)) (hbase : attributeBase o "extend" X.env (eval o X.env) = eval o X.env := by rfl)
    (hfew : ((backTo cpos (starEach [e] X.env)).all (fun x => !x.1) && (backToKw cpos (keywordEach [] X.env)).all (fun x => x.1.isSome) && decide ([e].length + ([] : List Keyword).length + (if ([] : List Keyword).isEmpty then 0 else 1) < 30)) = true := by rfl)
    (hline : (apos.endLine == cpos.line) = true := by rfl) (hs : starEach [e] X.env = (false, eval e X.env) :: starEach [] X.env := by rfl) (hplain : (backTo cpos (starEach [] X.env)).any (·.1) = false := by rfl) :
    PE X (.Call (.Attribute o "extend" apos) [e] [] cpos) (uTE ⟨X.prog, X.w, C⟩ (tdM fExtT te (tdCons ta tdNil))) :=
  (pe_bm PySem.F.plainAttrs_list PySem.F.slot_list_extend PySem.F.type_list_extend mt_extT ho (ja_cons h1 ja_nil hs) hbase hfew hline hs hplain).imp (tdM_imp md_extT)
theorem jm_pop (ho : PE X o (uTE ⟨X.prog, X.w, C⟩ te)) (hbase : attributeBase o "pop" X.env (eval o X.env) = eval o X.env := by rfl) (hline : (apos.endLine == cpos.line) = true := by rfl) :
    PE X (.Call (.Attribute o "pop" apos) [] [] cpos) (uTE ⟨X.prog, X.w, C⟩ (tdM0 fPop te)) :=
  (pe_bm0 PySem.F.plainAttrs_list PySem.F.slot_list_pop PySem.F.type_list_pop mt_pop ho hbase hline).imp (tdM0_imp md_pop)
theorem jm_popAt (ho : PE X o (uTE ⟨X.prog, X.w, C⟩ te)) (h1 : PE X e (uTE ⟨X.prog, X.w, C⟩ ta)) (hbase : attributeBase o "pop" X.env (eval o X.env) = eval o X.env := by rfl)
    (hfew : ((backTo cpos (starEach [e] X.env)).all (fun x => !x.1) && (backToKw cpos (keywordEach [] X.env)).all (fun x => x.1.isSome) && decide ([e].length + ([] : List Keyword).length + (if ([] : List Keyword).isEmpty then 0 else 1) < 30)) = true := by rfl)
    (hline : (apos.endLine == cpos.line) = true := by rfl) (hs : starEach [e] X.env = (false, eval e X.env) :: starEach [] X.env := by rfl) (hplain : (backTo cpos (starEach [] X.env)).any (·.1) = false := by rfl) :
    PE X (.Call (.Attribute o "pop" apos) [e] [] cpos) (uTE ⟨X.prog, X.w, C⟩ (tdM fPopAt te (tdCons ta tdNil))) :=
  (pe_bm PySem.F.plainAttrs_list PySem.F.slot_list_pop PySem.F.type_list_pop mt_popAt ho (ja_cons h1 ja_nil hs) hbase hfew hline hs hplain).imp (tdM_imp md_popAt)
theorem jm_index {j : Nat} (hr : Room j X.A) (ho : PE X o (uTE ⟨X.prog, X.w, C⟩ te)) (h1 : PE X e (uTE ⟨X.prog, X.w, C⟩ ta)) (hbase : attributeBase o "index" X.env (eval o X.env) = eval o X.env := by rfl)
    (hfew : ((backTo cpos (starEach [e] X.env)).all (fun x => !x.1) && (backToKw cpos (keywordEach [] X.env)).all (fun x => x.1.isSome) && decide ([e].length + ([] : List Keyword).length + (if ([] : List Keyword).isEmpty then 0 else 1) < 30)) = true := by rfl)
    (hline : (apos.endLine == cpos.line) = true := by rfl) (hs : starEach [e] X.env = (false, eval e X.env) :: starEach [] X.env := by rfl) (hplain : (backTo cpos (starEach [] X.env)).any (·.1) = false := by rfl) :
    PE X (.Call (.Attribute o "index" apos) [e] [] cpos) (uTE ⟨X.prog, X.w, C⟩ (tdM fIndex te (tdCons ta tdNil))) :=
  (pe_bm PySem.F.plainAttrs_list PySem.F.slot_list_index PySem.F.type_list_index (mt_indexD (by have := hr.un; omega)) ho (ja_cons h1 ja_nil hs) hbase hfew hline hs hplain).imp (tdM_imp md_index)
theorem jm_insert (ho : PE X o (uTE ⟨X.prog, X.w, C⟩ te)) (h1 : PE X e (uTE ⟨X.prog, X.w, C⟩ ta)) (h2 : PE X e2 (uTE ⟨X.prog, X.w, C⟩ tb)) (hbase : attributeBase o "insert" X.env (eval o X.env) = eval o X.env := by rfl)
    (hfew : ((backTo cpos (starEach [e, e2] X.env)).all (fun x => !x.1) && (backToKw cpos (keywordEach [] X.env)).all (fun x => x.1.isSome) && decide ([e, e2].length + ([] : List Keyword).length + (if ([] : List Keyword).isEmpty then 0 else 1) < 30)) = true := by rfl)
    (hline : (apos.endLine == cpos.line) = true := by rfl) (hs : starEach [e, e2] X.env = (false, eval e X.env) :: starEach [e2] X.env := by rfl) (hs2 : starEach [e2] X.env = (false, eval e2 X.env) :: starEach [] X.env := by rfl) (hplain : (backTo cpos (starEach [e2] X.env)).any (·.1) = false := by rfl) :
    PE X (.Call (.Attribute o "insert" apos) [e, e2] [] cpos) (uTE ⟨X.prog, X.w, C⟩ (tdM fIns te (tdCons ta (tdCons tb tdNil)))) :=
  (pe_bm PySem.F.plainAttrs_list PySem.F.slot_list_insert PySem.F.type_list_insert mt_insert ho (ja_cons h1 (ja_cons h2 ja_nil hs2) hs) hbase hfew hline hs hplain).imp (tdM_imp md_insert)
/-- a list as a test -/
def tdTru (t : TD) : TTd := fun ρ μ R => t ρ μ fun x μ1 => ∃ ds, lOf x μ1 = some ds ∧ R (!ds.isEmpty) μ1
theorem jt_tru {t : TD} (h : PE X e (uTE ⟨X.prog, X.w, C⟩ t)) (he : ∀ whole, isTrue e X.env whole = (do let v ← whole; standAt e.pos; holding [v] (truthy v)) := by intro _; rfl) : PT X e (uTT ⟨X.prog, X.w, C⟩ (tdTru t)) := (pt_truth h he).imp fun σ H Q ⟨α, H0, ρ, μ, R, S, q, k⟩ =>
  ⟨α, H0, ρ, μ, _, S, q, fun α1 H01 μ1 H1 v dv S1 p1 rv ⟨ds, e, q1⟩ => by
    obtain ⟨a, vs, ex, hs, ha⟩ := lOf_ok S1 rv e
    subst ex
    refine ⟨!ds.isEmpty, .inl ⟨vs, sql_k hs, ?_⟩, k α1 H01 μ1 H1 _ S1 p1 q1⟩
    cases ha <;> rfl⟩
/-! ### the world's fields -/
def tdFldT (t : TD) : TD := fun ρ μ R => t ρ μ fun x μ1 => ∃ a b, x = .w a b ∧ R (.d a) μ1
def tdFldB (t : TD) : TD := fun ρ μ R => t ρ μ fun x μ1 => ∃ a b, x = .w a b ∧ R (.d b) μ1
theorem jd_fldT {t : TD} (c : Cls X.K C) (n : NoAttr X.K C "trees") (h : PE X e (uTE ⟨X.prog, X.w, C⟩ t)) (hb : attributeBase e "trees" X.env (eval e X.env) = eval e X.env := by rfl) : PE X (.Attribute e "trees" pos) (uTE ⟨X.prog, X.w, C⟩ (tdFldT t)) := (pe_fld h hb).imp fun σ H Q ⟨α, H0, ρ, μ, R, S, q, k⟩ =>
  ⟨α, H0, ρ, μ, _, S, q, fun α1 H01 μ1 H1 v dv S1 p1 rv ⟨ta, tb, e, q1⟩ => by
    subst e
    obtain ⟨a, dx, tv, tbv, ex, h1, h2, h3⟩ := rv
    exact ⟨a, C, dx, _, tv, ex, S1.ext _ _ h1, c, n, rfl, k α1 H01 μ1 H1 tv (.d ta) S1 p1 h2 q1⟩⟩
theorem jd_fldB {t : TD} (c : Cls X.K C) (n : NoAttr X.K C "tables") (h : PE X e (uTE ⟨X.prog, X.w, C⟩ t)) (hb : attributeBase e "tables" X.env (eval e X.env) = eval e X.env := by rfl) : PE X (.Attribute e "tables" pos) (uTE ⟨X.prog, X.w, C⟩ (tdFldB t)) := (pe_fld h hb).imp fun σ H Q ⟨α, H0, ρ, μ, R, S, q, k⟩ =>
  ⟨α, H0, ρ, μ, _, S, q, fun α1 H01 μ1 H1 v dv S1 p1 rv ⟨ta, tb, e, q1⟩ => by
    subst e
    obtain ⟨a, dx, tv, tbv, ex, h1, h2, h3⟩ := rv
    exact ⟨a, C, dx, _, tbv, ex, S1.ext _ _ h1, c, n, rfl, k α1 H01 μ1 H1 tbv (.d tb) S1 p1 h3 q1⟩⟩
/-- isinstance(x, World), x a world -/
def tdIsW (t : TD) : TD := fun ρ μ R => t ρ μ fun x μ1 => (∃ a b, x = .w a b) ∧ R (.d (.bool true)) μ1
theorem jd_isW {y : Str} {q : Pos} (ic : C8.InsC X.K C) (hg : Gl X "isinstance") (hm : X.mg "isinstance" = none) (ha : PE X e (uTE ⟨X.prog, X.w, C⟩ ta)) (hgy : Gl X y) (hmy : X.mg y = some (.ref C)) (hdy : (y == ("__debug__" : Str)) = false := by decide)
    (h1 : starEach [e, .Name y q] X.env = (false, eval e X.env) :: starEach [.Name y q] X.env := by rfl) (h2 : starEach [.Name y q] X.env = (false, eval (.Name y q) X.env) :: starEach [] X.env := by rfl) (hpl : (backTo pos (starEach [.Name y q] X.env)).any (·.1) = false := by rfl) :
    PE X (.Call (.Name "isinstance" p) [e, .Name y q] [] pos) (uTE ⟨X.prog, X.w, C⟩ (tdIsW ta)) :=
  (pe_callB (C8.call_isC ic) hg hm (by decide +kernel) (pa_cons ha (pa_cons (pe_glob (v := .ref C) hgy hmy rfl hdy) pa_nil h2) h1) (he := h1) (hpl := hpl)).imp fun σ H Q ⟨α, H0, ρ, μ, R, S, h, k⟩ =>
    ⟨α, H0, ρ, μ, _, S, h, fun α1 H01 μ1 H1 v dv S1 p1 rv ⟨⟨a, b, e⟩, q⟩ => by
      subst e
      obtain ⟨a, dx, tv, tbv, ex, h1, h2, h3⟩ := rv
      exact ⟨a, dx, _, by rw [ex], S1.ext _ _ h1, k α1 H01 μ1 H1 (.bl true) (.d (.bool true)) S1 p1 (.bl true) q⟩⟩
/-- ''.join(a list of texts) -/
def tdJoin (to te : TD) : TD := fun ρ μ R => to ρ μ fun x μ1 => ∃ z, x = .d (.str z) ∧ te ρ μ1 fun y μ2 => ∃ zs, lOf y μ2 = some (zs.map .str) ∧ (zs.map (·.length)).sum + zs.length * z.length ≤ 16777216 ∧ R (.d (.str (Txt.join z zs))) μ2
end
end JR
set_option maxHeartbeats 1000000
/-! JD10: what is walked: lists, tuples, ranges, texts, zip of two or three, enumerate. -/
namespace JR
open PySem PySem.Spec PyProof.Rows L2

/-! ### lists, tuples, ranges, texts -/
def wdList (t : TD) : TId := fun ρ μ RR => t ρ μ fun x μ1 => ∃ ds, lOf x μ1 = some ds ∧ RR ds (fun μ' => lOf x μ' = some ds) μ1
def wdTup (t : TD) : TId := fun ρ μ RR => t ρ μ fun x μ1 => ∃ ds, tOf x = some ds ∧ RR ds (fun _ => True) μ1
def rngD (lo : Int) (n : Nat) : List PyData := (List.range n).map fun (i : Nat) => .int (lo + (i : Int))
def wdRng1 (t : TAd) : TId := fun ρ μ RR => t ρ μ fun xs μ1 => ∃ j : Int, xs = [.d (.int j)] ∧ -(2 ^ 62) ≤ j ∧ j < 2 ^ 62 ∧ RR (rngD 0 j.toNat) (fun _ => True) μ1
def wdRng2 (t : TAd) : TId := fun ρ μ RR => t ρ μ fun xs μ1 => ∃ i j : Int, xs = [.d (.int i), .d (.int j)] ∧ (-(2 ^ 62) ≤ i ∧ i < 2 ^ 62 ∧ -(2 ^ 62) ≤ j ∧ j < 2 ^ 62) ∧ RR (rngD i (j - i).toNat) (fun _ => True) μ1
def rngC (lo c : Int) (n : Nat) : List PyData := (List.range n).map fun (i : Nat) => .int (lo + (i : Int) * c)
def wdRng3 (t : TAd) : TId := fun ρ μ RR => t ρ μ fun xs μ1 => ∃ (i j c : Int) (n : Nat), xs = [.d (.int i), .d (.int j), .d (.int c)] ∧ RgC i j c n ∧ RR (rngC i c n) (fun _ => True) μ1
def sgnD (z : Str) : List PyData := z.cps.toList.map fun c => .str ⟨#[c]⟩
def wdStr (t : TD) : TId := fun ρ μ RR => t ρ μ fun x μ1 => ∃ z, x = .d (.str z) ∧ RR (sgnD z) (fun _ => True) μ1
section
variable {X : Cx} {C : Addr} {tg e a b c : Expr} {te ta tb tc : TD} {p pos : Pos}
/-- an iterator whose items do not lie in the heap -/
theorem walk_pure {g : Cf} {α : List Addr} {H0 H : Hp} {J : It} {items : List PyData} (hg : ∀ i, i < items.length → ∀ H', J.go i H' ∧ ∀ x H'', J.yld i H' x H'' → H'' = H' ∧ ∃ d, items[i]? = some d ∧ ∀ H1, Dp KZ H1 x d)
    (hs : ∀ H', J.stop items.length H') : WalkD g α H0 H J items (fun _ => True) :=
  ⟨fun i α' H0' ρ μ σ H' hi S t _ => ⟨(hg i hi H').1, fun x H'' y => by
    obtain ⟨e, d, h1, h2⟩ := (hg i hi H').2 x H'' y
    subst e
    exact ⟨H0', d, S, Stp.refl _ _ _, h1, h2 H0'⟩⟩, fun α' H0' ρ μ σ H' S t _ => hs H'⟩
theorem walk_list {g : Cf} {α : List Addr} {H0 H : Hp} {K : PySem.W.Frag} {a : Addr} {dv : DV} {ds : List PyData} (rx : DvR g α H0 (.ref a) dv) : WalkD g α H0 H (Itl K a) ds (fun μ' => lOf dv μ' = some ds) := by
  refine ⟨fun i α' H0' ρ μ σ H' hi S t hst => ?_, fun α' H0' ρ μ σ H' S t hst => ?_⟩
  · obtain ⟨a', vs, e, hs, ha⟩ := lOf_ok S (DvR.grow t rx) hst
    cases e
    obtain ⟨v, hv, hd⟩ := dps_get ha (List.getElem?_eq_getElem hi)
    refine ⟨⟨vs, v, sql_k hs, hv⟩, fun x H'' y => ?_⟩
    obtain ⟨e, y⟩ := y
    subst e
    have e2 := y vs (sql_k hs)
    rw [hv] at e2
    cases e2
    exact ⟨H0', _, S, Stp.refl _ _ _, List.getElem?_eq_getElem hi, hd⟩
  · obtain ⟨a', vs, e, hs, ha⟩ := lOf_ok S (DvR.grow t rx) hst
    cases e
    exact ⟨vs, sql_k hs, by rw [dps_len ha]; exact Nat.le_refl _⟩
theorem walk_tup {g : Cf} {α : List Addr} {H0 H : Hp} {K : PySem.W.Frag} {a : Addr} {dv : DV} {ds : List PyData} (rx : DvR g α H0 (.ref a) dv) (ht : tOf dv = some ds) : WalkD g α H0 H (Itt K a) ds (fun _ => True) := by
  refine ⟨fun i α' H0' ρ μ σ H' hi S t hst => ?_, fun α' H0' ρ μ σ H' S t hst => ?_⟩
  · obtain ⟨a', vs, e, hs, ha⟩ := tOf_ok S (DvR.grow t rx) ht
    cases e
    obtain ⟨v, hv, hd⟩ := dps_get ha (List.getElem?_eq_getElem hi)
    refine ⟨⟨vs, v, sqt_k hs, hv⟩, fun x H'' y => ?_⟩
    obtain ⟨e, y⟩ := y
    subst e
    have e2 := y vs (sqt_k hs)
    rw [hv] at e2
    cases e2
    exact ⟨H0', _, S, Stp.refl _ _ _, List.getElem?_eq_getElem hi, hd⟩
  · obtain ⟨a', vs, e, hs, ha⟩ := tOf_ok S (DvR.grow t rx) ht
    cases e
    exact ⟨vs, sqt_k hs, by rw [dps_len ha]; exact Nat.le_refl _⟩
theorem ji_list (h : PE X e (uTE ⟨X.prog, X.w, C⟩ te)) : PI X tg e (uTI ⟨X.prog, X.w, C⟩ (wdList te)) := (pi_list h).imp fun σ H Q ⟨α, H0, ρ, μ, R, S, q, k⟩ =>
  ⟨α, H0, ρ, μ, _, S, q, fun α1 H01 μ1 H1 v dv S1 p1 rv ⟨ds, e, q1⟩ => by
    obtain ⟨a, vs, ex, hs, ha⟩ := lOf_ok S1 rv e
    subst ex
    exact ⟨a, rfl, ⟨vs, sql_k hs⟩, k α1 H01 μ1 H1 _ ds _ S1 p1 (walk_list rv) q1⟩⟩
theorem ji_tup (h : PE X e (uTE ⟨X.prog, X.w, C⟩ te)) : PI X tg e (uTI ⟨X.prog, X.w, C⟩ (wdTup te)) := (pi_tup h).imp fun σ H Q ⟨α, H0, ρ, μ, R, S, q, k⟩ =>
  ⟨α, H0, ρ, μ, _, S, q, fun α1 H01 μ1 H1 v dv S1 p1 rv ⟨ds, e, q1⟩ => by
    obtain ⟨a, vs, ex, hs, ha⟩ := tOf_ok S1 rv e
    subst ex
    exact ⟨a, rfl, ⟨vs, sqt_k hs⟩, k α1 H01 μ1 H1 _ ds _ S1 p1 (walk_tup rv e) q1⟩⟩
theorem rngD_len (lo : Int) (n : Nat) : (rngD lo n).length = n := by simp [rngD]
theorem rngC_len (lo c : Int) (n : Nat) : (rngC lo c n).length = n := by simp [rngC]
theorem walk_rng {g : Cf} {α : List Addr} {H0 H : Hp} (lo : Int) (n : Nat) : WalkD g α H0 H (Itr lo n) (rngD lo n) (fun _ => True) := walk_pure (fun i hi H' => by
  rw [rngD_len] at hi
  refine ⟨hi, fun x H'' ⟨e, ex⟩ => ⟨e, .int (lo + i), by simp [rngD, hi], fun H1 => ?_⟩⟩
  rw [ex]; exact .int _) fun H' => by rw [rngD_len]; exact Nat.le_refl n
theorem walk_rngC {g : Cf} {α : List Addr} {H0 H : Hp} (lo c : Int) (n : Nat) : WalkD g α H0 H (Itc lo c n) (rngC lo c n) (fun _ => True) := walk_pure (fun i hi H' => by
  rw [rngC_len] at hi
  refine ⟨hi, fun x H'' ⟨e, ex⟩ => ⟨e, .int (lo + i * c), by simp [rngC, hi], fun H1 => ?_⟩⟩
  rw [ex]; exact .int _) fun H' => by rw [rngC_len]; exact Nat.le_refl n
theorem walk_str {g : Cf} {α : List Addr} {H0 H : Hp} (z : Str) : WalkD g α H0 H (Its z) (sgnD z) (fun _ => True) := walk_pure (fun i hi H' => by
  have hi' : i < z.cps.size := by simpa [sgnD] using hi
  refine ⟨hi', fun x H'' ⟨e, c, hc, ex⟩ => ⟨e, .str ⟨#[c]⟩, ?_, fun H1 => by rw [ex]; exact .str _⟩⟩
  unfold sgnD
  rw [List.getElem?_map, Array.getElem?_toList, hc]
  rfl) fun H' => by show z.cps.size ≤ (sgnD z).length; simp [sgnD]
theorem ji_rng1 {t : TAd} (hg : Gl X "range") (hm : X.mg "range" = none) (ha : PA X [a] (uTA ⟨X.prog, X.w, C⟩ t)) (hs : starEach [a] X.env = [(false, eval a X.env)] := by rfl) : PI X tg (.Call (.Name "range" p) [a] [] pos) (uTI ⟨X.prog, X.w, C⟩ (wdRng1 t)) :=
  (pi_range1 hg hm ha hs).imp fun σ H Q ⟨α, H0, ρ, μ, R, S, q, k⟩ => ⟨α, H0, ρ, μ, _, S, q, fun α1 H01 μ1 H1 vs dvs S1 p1 rv ⟨j, e, h1, h2, q1⟩ => by
    subst e
    cases rv with
    | cons r t =>
      cases t
      cases (show Dp KZ H01 _ (.int j) from r)
      exact ⟨j, rfl, h1, h2, k α1 H01 μ1 H1 _ _ _ S1 p1 (walk_rng _ _) q1⟩⟩
theorem ji_rng2 {t : TAd} (hg : Gl X "range") (hm : X.mg "range" = none) (ha : PA X [a, b] (uTA ⟨X.prog, X.w, C⟩ t)) (hs : starEach [a, b] X.env = [(false, eval a X.env), (false, eval b X.env)] := by rfl) (hs2 : starEach [b] X.env = [(false, eval b X.env)] := by rfl) :
    PI X tg (.Call (.Name "range" p) [a, b] [] pos) (uTI ⟨X.prog, X.w, C⟩ (wdRng2 t)) :=
  (pi_range2 hg hm ha hs hs2).imp fun σ H Q ⟨α, H0, ρ, μ, R, S, q, k⟩ => ⟨α, H0, ρ, μ, _, S, q, fun α1 H01 μ1 H1 vs dvs S1 p1 rv ⟨i, j, e, h1, q1⟩ => by
    subst e
    cases rv with
    | cons r t =>
      cases t with
      | cons r2 t =>
        cases t
        cases (show Dp KZ H01 _ (.int i) from r)
        cases (show Dp KZ H01 _ (.int j) from r2)
        exact ⟨i, j, rfl, h1, k α1 H01 μ1 H1 _ _ _ S1 p1 (walk_rng _ _) q1⟩⟩
theorem ji_rng3 {t : TAd} (hg : Gl X "range") (hm : X.mg "range" = none) (ha : PA X [a, b, c] (uTA ⟨X.prog, X.w, C⟩ t))
    (hs : starEach [a, b, c] X.env = (false, eval a X.env) :: starEach [b, c] X.env := by rfl) (hpl : (backTo pos (starEach [b, c] X.env)).any (·.1) = false := by rfl) :
    PI X tg (.Call (.Name "range" p) [a, b, c] [] pos) (uTI ⟨X.prog, X.w, C⟩ (wdRng3 t)) :=
  (pi_range3 hg hm ha hs hpl).imp fun σ H Q ⟨α, H0, ρ, μ, R, S, q, k⟩ => ⟨α, H0, ρ, μ, _, S, q, fun α1 H01 μ1 H1 vs dvs S1 p1 rv ⟨i, j, l, n, e, h1, q1⟩ => by
    subst e
    cases rv with
    | cons r t =>
      cases t with
      | cons r2 t =>
        cases t with
        | cons r3 t =>
          cases t
          cases (show Dp KZ H01 _ (.int i) from r)
          cases (show Dp KZ H01 _ (.int j) from r2)
          cases (show Dp KZ H01 _ (.int l) from r3)
          exact ⟨i, j, l, n, rfl, h1, k α1 H01 μ1 H1 _ _ _ S1 p1 (walk_rngC _ _ _) q1⟩⟩
theorem ji_str (h : PE X e (uTE ⟨X.prog, X.w, C⟩ te)) : PI X tg e (uTI ⟨X.prog, X.w, C⟩ (wdStr te)) := (pi_str h).imp fun σ H Q ⟨α, H0, ρ, μ, R, S, q, k⟩ =>
  ⟨α, H0, ρ, μ, _, S, q, fun α1 H01 μ1 H1 v dv S1 p1 rv ⟨z, e, q1⟩ => by
    subst e
    cases (show Dp KZ H01 v (.str z) from rv)
    exact ⟨z, rfl, k α1 H01 μ1 H1 _ _ _ S1 p1 (walk_str z) q1⟩⟩

/-! ### zip of two -/
def zip2D (ds es : List PyData) : List PyData := (ds.zip es).map fun p => .tuple [p.1, p.2]
theorem zip2D_get {ds es : List PyData} {i : Nat} (hi : i < (zip2D ds es).length) : ∃ a b, ds[i]? = some a ∧ es[i]? = some b ∧ (zip2D ds es)[i]? = some (.tuple [a, b]) := by
  have h1 : i < ds.length := by simp [zip2D] at hi; omega
  have h2 : i < es.length := by simp [zip2D] at hi; omega
  refine ⟨ds[i], es[i], List.getElem?_eq_getElem h1, List.getElem?_eq_getElem h2, ?_⟩
  unfold zip2D
  have hz : (ds.zip es)[i]? = some (ds[i], es[i]) := List.getElem?_zip_eq_some.mpr ⟨List.getElem?_eq_getElem h1, List.getElem?_eq_getElem h2⟩
  rw [List.getElem?_map, hz]
  rfl
def wdZipL (t : TAd) : TId := fun ρ μ RR => t ρ μ fun xs μ1 => ∃ x y ds es, xs = [x, y] ∧ lOf x μ1 = some ds ∧ lOf y μ1 = some es ∧ RR (zip2D ds es) (fun μ' => lOf x μ' = some ds ∧ lOf y μ' = some es) μ1
def wdZipT (t : TAd) : TId := fun ρ μ RR => t ρ μ fun xs μ1 => ∃ x y ds es, xs = [x, y] ∧ tOf x = some ds ∧ tOf y = some es ∧ RR (zip2D ds es) (fun _ => True) μ1
theorem zip2D_end {ds es : List PyData} {vs us : List V} {H : Hp} (ha : DpAll KZ H vs ds) (hb : DpAll KZ H us es) : vs.length ≤ (zip2D ds es).length ∨ us.length ≤ (zip2D ds es).length := by
  have h1 := dps_len ha
  have h2 := dps_len hb
  simp [zip2D]
  omega
theorem newT_ok {g : Cf} {α : List Addr} {H0 H : Hp} {ρ : Env} {μ : Sto} {σ : L2.St} {T : Addr} {vs : List V} {ds : List PyData} (S : SS g α H0 ρ μ σ H) (hT : H T = none) (hd : DpAll KZ H0 vs ds) :
    ∃ H0'', SS g α H0'' ρ μ σ (upd H T (.tup vs)) ∧ Stp α H0 H α H0'' (upd H T (.tup vs)) ∧ Dp KZ H0'' (.ref T) (.tuple ds) := by
  obtain ⟨a1, a2, a3⟩ := S.newD hT hd
  exact ⟨_, a1, a2, a3⟩
theorem walk_zipL {g : Cf} {α : List Addr} {H0 H : Hp} {K : PySem.W.Frag} {a b : Addr} {dx dy : DV} {ds es : List PyData} (rx : DvR g α H0 (.ref a) dx) (ry : DvR g α H0 (.ref b) dy) :
    WalkD g α H0 H (Itz K a b) (zip2D ds es) (fun μ' => lOf dx μ' = some ds ∧ lOf dy μ' = some es) := by
  refine ⟨fun i α' H0' ρ μ σ H' hi S t ⟨h1, h2⟩ => ?_, fun α' H0' ρ μ σ H' S t ⟨h1, h2⟩ => ?_⟩
  · obtain ⟨a', vs, e, hs, ha⟩ := lOf_ok S (DvR.grow t rx) h1
    cases e
    obtain ⟨b', us, e, hs2, hb⟩ := lOf_ok S (DvR.grow t ry) h2
    cases e
    obtain ⟨d1, d2, g1, g2, g3⟩ := zip2D_get hi
    obtain ⟨v, hv, hd⟩ := dps_get ha g1
    obtain ⟨u, hu, hd2⟩ := dps_get hb g2
    refine ⟨⟨vs, us, v, u, sql_k hs, sql_k hs2, hv, hu⟩, fun x H'' y => ?_⟩
    obtain ⟨T, p, q, ex, hT, e, y1, y2⟩ := y
    have e1 := y1 vs (sql_k hs)
    have e2 := y2 us (sql_k hs2)
    rw [hv] at e1
    rw [hu] at e2
    cases e1
    cases e2
    subst e ex
    obtain ⟨H0'', S', t', hd'⟩ := newT_ok S hT (.cons hd (.cons hd2 .nil))
    exact ⟨H0'', _, S', t', g3, hd'⟩
  · obtain ⟨a', vs, e, hs, ha⟩ := lOf_ok S (DvR.grow t rx) h1
    cases e
    obtain ⟨b', us, e, hs2, hb⟩ := lOf_ok S (DvR.grow t ry) h2
    cases e
    exact ⟨vs, us, sql_k hs, sql_k hs2, zip2D_end ha hb⟩
theorem walk_zipT {g : Cf} {α : List Addr} {H0 H : Hp} {K : PySem.W.Frag} {a b : Addr} {dx dy : DV} {ds es : List PyData} (rx : DvR g α H0 (.ref a) dx) (ry : DvR g α H0 (.ref b) dy) (h1 : tOf dx = some ds) (h2 : tOf dy = some es) :
    WalkD g α H0 H (RZ.ItzT K a b) (zip2D ds es) (fun _ => True) := by
  refine ⟨fun i α' H0' ρ μ σ H' hi S t _ => ?_, fun α' H0' ρ μ σ H' S t _ => ?_⟩
  · obtain ⟨a', vs, e, hs, ha⟩ := tOf_ok S (DvR.grow t rx) h1
    cases e
    obtain ⟨b', us, e, hs2, hb⟩ := tOf_ok S (DvR.grow t ry) h2
    cases e
    obtain ⟨d1, d2, g1, g2, g3⟩ := zip2D_get hi
    obtain ⟨v, hv, hd⟩ := dps_get ha g1
    obtain ⟨u, hu, hd2⟩ := dps_get hb g2
    refine ⟨⟨vs, us, v, u, sqt_k hs, sqt_k hs2, hv, hu⟩, fun x H'' y => ?_⟩
    obtain ⟨T, p, q, ex, hT, e, y1, y2⟩ := y
    have e1 := y1 vs (sqt_k hs)
    have e2 := y2 us (sqt_k hs2)
    rw [hv] at e1
    rw [hu] at e2
    cases e1
    cases e2
    subst e ex
    obtain ⟨H0'', S', t', hd'⟩ := newT_ok S hT (.cons hd (.cons hd2 .nil))
    exact ⟨H0'', _, S', t', g3, hd'⟩
  · obtain ⟨a', vs, e, hs, ha⟩ := tOf_ok S (DvR.grow t rx) h1
    cases e
    obtain ⟨b', us, e, hs2, hb⟩ := tOf_ok S (DvR.grow t ry) h2
    cases e
    exact ⟨vs, us, sqt_k hs, sqt_k hs2, zip2D_end ha hb⟩
variable {tpos : Pos} {elts : List Expr} {kk : Nat}
theorem ji_zipL {t : TAd} (hg : Gl X "zip") (hm : X.mg "zip" = none) (ha : PA X [a, b] (uTA ⟨X.prog, X.w, C⟩ t)) (hs : starEach [a, b] X.env = (false, eval a X.env) :: starEach [b] X.env := by rfl) (hpl : (backTo pos (starEach [b] X.env)).any (·.1) = false := by rfl) :
    PI X (.Tuple elts kk tpos) (.Call (.Name "zip" p) [a, b] [] pos) (uTI ⟨X.prog, X.w, C⟩ (wdZipL t)) :=
  (RZ.pi_zipA hg hm ha hs hpl).imp fun σ H Q ⟨α, H0, ρ, μ, R, S, q, k⟩ => ⟨α, H0, ρ, μ, _, S, q, fun α1 H01 μ1 H1 vs dvs S1 p1 rv ⟨x, y, ds, es, e, h1, h2, q1⟩ => by
    subst e
    cases rv with
    | cons r t =>
      cases t with
      | cons r2 t =>
        cases t
        obtain ⟨a', vs, e, hs, ha⟩ := lOf_ok S1 r h1
        subst e
        obtain ⟨b', us, e, hs2, hb⟩ := lOf_ok S1 r2 h2
        subst e
        exact ⟨a', b', vs, us, rfl, .inl ⟨sql_k hs, sql_k hs2, k α1 H01 μ1 H1 _ _ _ S1 p1 (walk_zipL r r2) q1⟩⟩⟩
theorem ji_zipT {t : TAd} (hg : Gl X "zip") (hm : X.mg "zip" = none) (ha : PA X [a, b] (uTA ⟨X.prog, X.w, C⟩ t)) (hs : starEach [a, b] X.env = (false, eval a X.env) :: starEach [b] X.env := by rfl) (hpl : (backTo pos (starEach [b] X.env)).any (·.1) = false := by rfl) :
    PI X (.Tuple elts kk tpos) (.Call (.Name "zip" p) [a, b] [] pos) (uTI ⟨X.prog, X.w, C⟩ (wdZipT t)) :=
  (RZ.pi_zipA hg hm ha hs hpl).imp fun σ H Q ⟨α, H0, ρ, μ, R, S, q, k⟩ => ⟨α, H0, ρ, μ, _, S, q, fun α1 H01 μ1 H1 vs dvs S1 p1 rv ⟨x, y, ds, es, e, h1, h2, q1⟩ => by
    subst e
    cases rv with
    | cons r t =>
      cases t with
      | cons r2 t =>
        cases t
        obtain ⟨a', vs, e, hs, ha⟩ := tOf_ok S1 r h1
        subst e
        obtain ⟨b', us, e, hs2, hb⟩ := tOf_ok S1 r2 h2
        subst e
        exact ⟨a', b', vs, us, rfl, .inr ⟨sqt_k hs, sqt_k hs2, k α1 H01 μ1 H1 _ _ _ S1 p1 (walk_zipT r r2 h1 h2) q1⟩⟩⟩
end

/-! ### turns out of the heap's own walks (KE): new pairs at each turn -/
theorem turn_W' {P : Program} {w : World} {K : PySem.W.Frag} {elts : List Expr} {kk : Nat} {tpos : Pos} {J : It} {fp wr : List Addr} {it : Addr} {tn : Nat → Heap → Prop} (hm : it ∈ fp) (hw : ∀ b ∈ wr, b ∈ fp)
    (obj : ∀ i h, tn i h → ∀ b ∈ fp, ∃ o, h.get? b = some o ∧ ∀ v, o.data ≠ .cell v) (keep : ∀ i h h', tn i h → (∀ b ∈ fp, ∀ o, h.get? b = some o → h'.get? b = some o) → tn i h')
    (self : ∀ (A : Around) (i : Nat) (s : Shared) (Q : Value → Shared → Prop) (E : Value → Shared → Prop), tn i s.heap → Q (.ref it) s → wpAny (model P w) A (pyIter (.ref it)) Q E s)
    (go : ∀ (X : Cx), X.prog = P → X.w = w → X.K = K → X.calm = true → ∀ (i : Nat) (pins : List (Addr × Obj)) (s : Shared) (σ : L2.St) (H : Hp), Inv X pins σ H s → (∀ b ∈ fp, FpOk X pins H b) → tn i s.heap → J.go i H →
      ∃ (fpW : List Addr) (n : Nat) (Pt : Nat → Array Value → Prop) (Sw : Nat → Heap → Prop) (Mid : Nat → Addr → Heap → Prop), WalksT P w X.A it fpW wr n Pt Sw Mid ∧ i < n ∧ Sw i s.heap ∧ (∀ h, Sw (i + 1) h → tn (i + 1) h) ∧
        ∀ vals, Pt i vals → vals.size ≤ 10 ∧ ∃ xs, Vals xs vals.toList ∧ ∀ T, H T = none → J.yld i H (.ref T) (upd H T (.tup xs)))
    (stop : ∀ (X : Cx), X.prog = P → X.w = w → X.K = K → X.calm = true → ∀ (i : Nat) (pins : List (Addr × Obj)) (s : Shared) (σ : L2.St) (H : Hp), Inv X pins σ H s → (∀ b ∈ fp, FpOk X pins H b) → tn i s.heap → J.stop i H →
      ∃ (fpW : List Addr) (n : Nat) (Pt : Nat → Array Value → Prop) (Sw : Nat → Heap → Prop) (Mid : Nat → Addr → Heap → Prop), WalksT P w X.A it fpW wr n Pt Sw Mid ∧ Sw n s.heap) : Turn P w K (.Tuple elts kk tpos) J fp it tn where
  mem := hm
  obj := obj
  keep := keep
  self := self
  item := by
    intro X hP hw' hK hc i pins s σ H E I hf st hg
    obtain ⟨fpW, n, Pt, Sw, Mid, W, hi, hS, hn, hv⟩ := go X hP hw' hK hc i pins s σ H I hf st hg
    subst hP hw' hK
    refine W.item i s _ _ hi hS fun T vals h' tk hp hT hI hM hk => ⟨_, rfl, ?_⟩
    refine W.go elts kk tpos i T _ _ _ hM fun h'' hS2 hk2 => ?_
    obtain ⟨hz, xs, hx, hy⟩ := hv vals hp
    have hHT : H T = none := I.hok.fresh hT
    have hap := W.apart i T _ hM
    obtain ⟨o, ho, hoc, m, hod⟩ := hI
    have ho2 : h''.get? T = some o := hk2 T o hap ho
    have hxl := hx.length
    have new : ObjOk X.prog X.w (upd H T (.tup xs)) h'' T (.tup xs) :=
      ⟨by rw [hxl, sizeLine_eq]; have : vals.toList.length = vals.size := by simp
          omega, vals.toList, hx, ⟨o, ho2, hoc, m, by rw [hod]⟩⟩
    have I1 : Inv X pins σ (upd H T (.tup xs)) { s with heap := h'', toks := tk } :=
      I.turnedNew (ch := fp) (fun b ob hb q => hk2 b ob (fun z => hb (hw b z)) (hk b ob (fun z => hb (hw b z)) q)) hf hT new
    refine ⟨.ref T, _, I1, rfl, hy T hHT, hn _ hS2, fun b hb => ?_⟩
    obtain ⟨ob, hob, _⟩ := obj i _ st b hb
    rw [upd_ne (Nat.ne_of_lt (Nat.lt_of_lt_of_le (Heap.lt_size hob) hT))]
    exact (hf b hb).1
  done := by
    intro X hP hw' hK hc i pins s σ H E I hf st hg
    obtain ⟨fpW, n, Pt, Sw, Mid, W, hS⟩ := stop X hP hw' hK hc i pins s σ H I hf st hg
    subst hP hw' hK
    exact W.done s _ _ hS fun h' tk hk => ⟨rfl, I.turnedL (ch := fp) (fun b ob hb q => hk b ob (fun z => hb (hw b z)) q) hf⟩
/-! ### enumerate of a tuple -/
def ItE (K : PySem.W.Frag) (a : Addr) : It :=
  ⟨fun i H => ∃ (xs : List V) (x : V), SqT K H a xs ∧ xs[i]? = some x, fun i H v H' => ∃ T x, v = .ref T ∧ H T = none ∧ H' = upd H T (.tup [.int (i : Nat), x]) ∧ ∀ xs, SqT K H a xs → xs[i]? = some x, fun i H => ∃ xs : List V, SqT K H a xs ∧ xs.length = i⟩
theorem ne_kind {h : Heap} {e a : Addr} {it : Addr} {c : Int} {old : Value} {items : Array Value} (he : IsEnum h e it c old) (p : h.IsTuple a items) : a ≠ e := fun q => by
  obtain ⟨o, ho, hc, _⟩ := p
  subst q
  rw [he] at ho
  cases ho
  exact absurd (show Value.type "enumerate" = Value.type "tuple" from hc) (by decide)
theorem ne_iter {h : Heap} {a it : Addr} {i : Nat} {items : Array Value} (q : h.IsTupleIter it a i) (p : h.IsTuple a items) : a ≠ it := fun e => by
  obtain ⟨o, ho, hc, _⟩ := p
  obtain ⟨o2, ho2, hc2, _⟩ := q
  subst e
  rw [ho] at ho2
  cases ho2
  rw [hc] at hc2
  exact absurd hc2 (by decide)
theorem turn_enumT {P : Program} {w : World} {K : PySem.W.Frag} {elts : List Expr} {kk : Nat} {tpos : Pos} (a e it : Addr) :
    Turn P w K (.Tuple elts kk tpos) (ItE K a) [e, it] e (fun i h => (∃ old, IsEnum h e it ((i : Nat) : Int) old) ∧ h.IsTupleIter it a i ∧ e ≠ it) := by
  refine turn_W' (wr := [e, it]) (by simp) (fun _ z => z) (fun i h st b hb => ?_) (fun i h h' st k => ?_) (fun A i s Q E st hq => ?_) (fun X hP hw hK hc i pins s σ H I hf st hg => ?_) (fun X hP hw hK hc i pins s σ H I hf st hg => ?_)
  · obtain ⟨⟨old, he⟩, ⟨o, ho, hc, hd⟩, _⟩ := st
    have e' : b = e ∨ b = it := by simpa using hb
    rcases e' with z | z
    · rw [z]; exact ⟨_, he, fun v q => nomatch q⟩
    · rw [z]; exact ⟨o, ho, fun v q => by rw [hd] at q; cases q⟩
  · obtain ⟨⟨old, he⟩, hi, hne⟩ := st
    exact ⟨⟨old, k e (by simp) _ he⟩, hi.at fun o q => k it (by simp) o q, hne⟩
  · obtain ⟨⟨old, he⟩, _⟩ := st
    exact wpAny_pyIter_enum he hq
  · subst hP hw hK
    obtain ⟨⟨old, he⟩, hit, hne⟩ := st
    obtain ⟨xs, x, hq, hx⟩ := hg
    obtain ⟨its, rv, p, hz⟩ := I.tuple hq
    have hl := rv.length
    have hlt : i < its.toArray.size := by
      have := (List.getElem?_eq_some_iff.mp hx).1
      simp; omega
    have hea : e ∉ [it, a] := by
      simp only [List.mem_cons, List.not_mem_nil, or_false, not_or]
      exact ⟨hne, Ne.symm (ne_kind he p)⟩
    refine ⟨_, _, _, _, _, WalksT.enumerateD (Draws.tuple (prog := X.prog) (w := X.w) (A := X.A.in1) (I.ok.hd hc) it a (ne_iter hit p) its.toArray) e hne hea (by simp), hlt, ⟨⟨old, he⟩, hit, p⟩, fun h st => ?_, fun vals hv => ?_⟩
    · obtain ⟨⟨old, h1⟩, h2, h3⟩ := st
      exact ⟨⟨old, h1⟩, h2, hne⟩
    · obtain ⟨t, u, hu, ev⟩ := hv
      subst ev
      obtain ⟨u', hu', ru⟩ := rv.get hx
      have eu : u' = u := by
        have z : its[i]? = some u := by simpa using hu
        rw [hu'] at z
        exact Option.some.inj z
      subst eu
      exact ⟨by simp, [.int (i : Nat), x], .cons ⟨t, rfl⟩ (.cons ru .nil), fun T hT => ⟨T, x, rfl, hT, rfl, fun ys hy => by rw [I.tuple_inj hy hq]; exact hx⟩⟩
  · subst hP hw hK
    obtain ⟨⟨old, he⟩, hit, hne⟩ := st
    obtain ⟨xs, hq, hx⟩ := hg
    obtain ⟨its, rv, p, hz⟩ := I.tuple hq
    have hl := rv.length
    have hea : e ∉ [it, a] := by
      simp only [List.mem_cons, List.not_mem_nil, or_false, not_or]
      exact ⟨hne, Ne.symm (ne_kind he p)⟩
    have ei : i = its.toArray.size := by simp; omega
    refine ⟨_, _, _, _, _, WalksT.enumerateD (Draws.tuple (prog := X.prog) (w := X.w) (A := X.A.in1) (I.ok.hd hc) it a (ne_iter hit p) its.toArray) e hne hea (by simp), ?_⟩
    rw [← ei]
    exact ⟨⟨old, he⟩, hit, p⟩
/-- enumerate(v) for what begins as o -/
theorem en_new {v : Value} {o : Obj} {Hh : Heap → Prop} (B : Begins v o Hh) :
    Meets (Builtin.«enumerate.__new__» ⟨[.type "enumerate", v], []⟩) (fun _ R s => Hh s.heap ∧
      R (.ok (.ret (.ref (s.heap.push o).objs.size))) { s with heap := (s.heap.push o).push { cls := .type "enumerate", data := .fields #[.none, .bool false, .ref s.heap.objs.size, rawInt 0, .none, .none] } }) :=
  .of_wp fun prog w A R s h => by
    obtain ⟨hp, g, d, tk, os⟩ := s
    obtain ⟨h1, h⟩ := h
    have isub := sub_enumerate
    have q1 : ∀ {A2 : Around} {E : Value → Shared → Prop} {Q : Value → Shared → Prop}, Q (.ref hp.objs.size) ⟨hp.push o, g, d, tk, os⟩ → wpAny (model prog w) A2 (pyIter v) Q E ⟨hp, g, d, tk, os⟩ :=
      fun q => B.iter prog w _ _ ⟨hp, g, d, tk, os⟩ _ h1 q
    wp_walk using q1
    refine wpAny_stack_any fun st => wpAny_pure ?_
    split
    · rename_i c _ _ _ _ _
      cases (c == Value.type "enumerate") <;> (wp_walk using q1) <;> exact ⟨_, rfl, h⟩
    · wp_walk using q1
      exact ⟨_, rfl, h⟩
theorem en_call {prog : Program} {w : World} {A : Around} {E : Value → Shared → Prop} {s : Shared} {v : Value} {o : Obj} {Hh : Heap → Prop} {Q : Value → Shared → Prop} (B : Begins v o Hh) (h1 : Hh s.heap)
    (h : ∀ h', IsEnum h' (s.heap.objs.size + 1) s.heap.objs.size 0 .none → h'.get? s.heap.objs.size = some o → (∀ b u, s.heap.get? b = some u → h'.get? b = some u) → Q (.ref (s.heap.objs.size + 1)) { s with heap := h' }) :
    wpAny (model prog w) A (call (.type "enumerate") [v]) Q E s := by
  refine callType_new F.called_enumerate (by decide) (F.typeCall_enumerate_1 _) (F.newCall_enumerate_1 _) (fun obj => F.args_object_init_2 obj _) F.entry_enumerate_new (en_new B) ⟨h1, ?_⟩
  have hz : (s.heap.push o).objs.size = s.heap.objs.size + 1 := Heap.size_push ..
  show _ ∧ _
  rw [hz]
  have he : IsEnum ((s.heap.push o).push { cls := .type "enumerate", data := .fields #[.none, .bool false, .ref s.heap.objs.size, rawInt 0, .none, .none] }) (s.heap.objs.size + 1) s.heap.objs.size 0 .none := by
    have q := Heap.get?_push_size (s.heap.push o) (o := { cls := .type "enumerate", data := .fields #[.none, .bool false, .ref s.heap.objs.size, rawInt 0, .none, .none] }) rfl
    rw [hz] at q
    exact q
  exact ⟨⟨_, he, rfl⟩, h _ he (Heap.get?_push_of_some _ (Heap.get?_push_size _ B.free)) fun b u x => Heap.get?_push_of_some _ (Heap.get?_push_of_some _ x)⟩
def iEnT (K : PySem.W.Frag) (ta : TA) : TI := fun σ H R => ta σ H fun vs H1 => ∃ a xs, vs = [.ref a] ∧ SqT K H1 a xs ∧ R (ItE K a) H1
theorem pi_enT {X : Cx} {e : Expr} {ta : TA} {p pos tpos : Pos} {elts : List Expr} {kk : Nat} (hg : Gl X "enumerate") (hm : X.mg "enumerate" = none) (ha : PA X [e] ta) (hs : starEach [e] X.env = [(false, eval e X.env)] := by rfl) :
    PI X (.Tuple elts kk tpos) (.Call (.Name "enumerate" p) [e] [] pos) (iEnT X.K ta) := by
  refine ⟨fun pins s σ H R I h => ?_⟩
  refine Call_ (ld_blt I hg hm boot_enumerate (PyProof.Rows.callWith_type1 (thn (ha.run pos pins s σ H _ I h) fun us s1 ⟨vs, H1, I1, r1, q1⟩ => ?_) hs rfl))
  obtain ⟨a, xs, ex, hq, q⟩ := q1
  subst ex
  cases r1 with
  | cons r rr =>
    cases rr
    cases r
    obtain ⟨its, rv, p', hz⟩ := I1.tuple hq
    refine en_call (begins_tuple a its.toArray) p' fun h' he hit hk => wpAny_pyIter_enum he ?_
    have I2 : Inv X pins σ H1 { s1 with heap := h' } := I1.kept (t' := s1.toks) hk
    refine ⟨s1.heap.objs.size + 1, [s1.heap.objs.size + 1, s1.heap.objs.size], _, _, H1, rfl, I2, turn_enumT a (s1.heap.objs.size + 1) s1.heap.objs.size, ⟨⟨.none, he⟩, ⟨_, hit, rfl, rfl⟩, Nat.succ_ne_self _⟩, fun b hb => ?_, q⟩
    have e' : b = s1.heap.objs.size + 1 ∨ b = s1.heap.objs.size := by simpa using hb
    have hle : s1.heap.objs.size ≤ b := by rcases e' with z | z <;> rw [z] <;> first | exact Nat.le_refl _ | exact Nat.le_succ _
    exact I1.fpOk hle (I1.hok.fresh hle)
def enumD (ds : List PyData) : List PyData := ds.mapIdx fun i d => .tuple [.int (i : Nat), d]
def wdEnum (t : TD) : TId := fun ρ μ RR => t ρ μ fun x μ1 => ∃ ds, tOf x = some ds ∧ RR (enumD ds) (fun _ => True) μ1
theorem enumD_len (ds : List PyData) : (enumD ds).length = ds.length := by simp [enumD]
theorem walk_enum {g : Cf} {α : List Addr} {H0 H : Hp} {K : PySem.W.Frag} {a : Addr} {dv : DV} {ds : List PyData} (rx : DvR g α H0 (.ref a) dv) (ht : tOf dv = some ds) : WalkD g α H0 H (ItE K a) (enumD ds) (fun _ => True) := by
  refine ⟨fun i α' H0' ρ μ σ H' hi S t hst => ?_, fun α' H0' ρ μ σ H' S t hst => ?_⟩
  · rw [enumD_len] at hi
    obtain ⟨a', vs, e, hs, ha⟩ := tOf_ok S (DvR.grow t rx) ht
    cases e
    obtain ⟨v, hv, hd⟩ := dps_get ha (List.getElem?_eq_getElem hi)
    refine ⟨⟨vs, v, sqt_k hs, hv⟩, fun x H'' y => ?_⟩
    obtain ⟨T, u, ex, hT, e, y⟩ := y
    have e2 := y vs (sqt_k hs)
    rw [hv] at e2
    cases e2
    subst e ex
    obtain ⟨H0'', S', t', hd'⟩ := newT_ok S hT (.cons (.int (i : Nat)) (.cons hd .nil))
    exact ⟨H0'', _, S', t', by simp [enumD, List.getElem?_mapIdx, hi], hd'⟩
  · obtain ⟨a', vs, e, hs, ha⟩ := tOf_ok S (DvR.grow t rx) ht
    cases e
    exact ⟨vs, sqt_k hs, by rw [dps_len ha, enumD_len]⟩
theorem ji_enum {X : Cx} {C : Addr} {e : Expr} {te : TD} {p pos tpos : Pos} {elts : List Expr} {kk : Nat} (hg : Gl X "enumerate") (hm : X.mg "enumerate" = none) (ha : PE X e (uTE ⟨X.prog, X.w, C⟩ te)) (hs : starEach [e] X.env = [(false, eval e X.env)] := by rfl) :
    PI X (.Tuple elts kk tpos) (.Call (.Name "enumerate" p) [e] [] pos) (uTI ⟨X.prog, X.w, C⟩ (wdEnum te)) :=
  (pi_enT hg hm (pa_cons ha pa_nil hs) hs).imp fun σ H Q ⟨α, H0, ρ, μ, R, S, q, k⟩ => ⟨α, H0, ρ, μ, _, S, q, fun α1 H01 μ1 H1 v dv S1 p1 rv ⟨ds, e, q1⟩ => by
    obtain ⟨a, vs, ex, hs, ha⟩ := tOf_ok S1 rv e
    subst ex
    exact ⟨a, vs, rfl, sqt_k hs, k α1 H01 μ1 H1 _ _ _ S1 p1 (walk_enum rv e) q1⟩⟩
end JR
set_option maxHeartbeats 1000000
/-! JD11: zip of a list and two tuples. -/
namespace JR
open PySem PySem.Spec PyProof.Rows L2

def ItZ3 (a b c : Addr) : It :=
  ⟨fun i H => ∃ (xs ys zs : List V) (x y z : V), (Rd H a (.lst xs) ∧ Rd H b (.tup ys) ∧ Rd H c (.tup zs)) ∧ xs[i]? = some x ∧ ys[i]? = some y ∧ zs[i]? = some z,
    fun i H v H' => ∃ T x y z, v = .ref T ∧ H T = none ∧ H' = upd H T (.tup [x, y, z]) ∧ (∀ xs, Rd H a (.lst xs) → xs[i]? = some x) ∧ (∀ ys, Rd H b (.tup ys) → ys[i]? = some y) ∧ ∀ zs, Rd H c (.tup zs) → zs[i]? = some z,
    fun i H => ∃ xs ys zs : List V, (Rd H a (.lst xs) ∧ Rd H b (.tup ys) ∧ Rd H c (.tup zs)) ∧ min (min xs.length ys.length) zs.length = i⟩
theorem rd_some {H : Hp} {a : Addr} {o : HO} (h : Rd H a o) : H a ≠ none := by
  rcases h with e | ⟨u, e⟩ <;> rw [e] <;> simp
theorem ne_cls {h : Heap} {a b : Addr} {o : Obj} {S T : String} (h1 : ∃ u, h.get? a = some u ∧ u.cls = .type S) (h2 : h.get? b = some o) (h3 : o.cls = .type T) (hne : Value.type S ≠ Value.type T) : a ≠ b := fun q => by
  obtain ⟨u, hu, hc⟩ := h1
  subst q
  rw [hu] at h2
  cases h2
  rw [hc] at h3
  exact hne h3
/-- the records of a zip of three: all ours, apart from each other -/
structure Ap3 (z TI TO i1 i2 i3 : Addr) : Prop where
  nd : [z, TI, TO, i1, i2, i3].Nodup
def tn3 (z TI TO i1 i2 i3 a b c : Addr) (i : Nat) (h : Heap) : Prop := IsZip h z TI TO .none ∧ IsTupOf3 h TI (.ref i1) (.ref i2) (.ref i3) ∧ (∃ x y u, IsTupOf3 h TO x y u) ∧ h.IsListIter i1 a i ∧ h.IsTupleIter i2 b i ∧ h.IsTupleIter i3 c i
theorem sep3 {z TI TO i1 i2 i3 a b c : Addr} {h : Heap} {i : Nat} {xs ys zs : Array Value} (A : Ap3 z TI TO i1 i2 i3) (st : tn3 z TI TO i1 i2 i3 a b c i h) (p : h.IsList a xs) (q : h.IsTuple b ys) (r : h.IsTuple c zs) (hb : b ≠ TO) (hc : c ≠ TO) :
    ZipSep3 z TI TO i1 i2 i3 [i1, a] [i2, b] [i3, c] ∧ a ≠ i1 ∧ b ≠ i2 ∧ c ≠ i3 := by
  obtain ⟨hz, hTI, ⟨x, y, u, hTO⟩, ⟨o1, e1, c1, d1⟩, ⟨o2, e2, c2, d2⟩, ⟨o3, e3, c3, d3⟩⟩ := st
  obtain ⟨p1, p2, p3, _⟩ := p
  obtain ⟨q1, q2, q3, _⟩ := q
  obtain ⟨r1, r2, r3, _⟩ := r
  have nd := A.nd
  simp only [List.nodup_cons, List.mem_cons, List.not_mem_nil, or_false, not_or] at nd
  obtain ⟨⟨n1, n2, n3, n4, n5⟩, ⟨m1, m2, m3, m4⟩, ⟨l1, l2, l3⟩, ⟨k1, k2⟩, k3, _⟩ := nd
  have az : a ≠ z := ne_cls ⟨p1, p2, p3⟩ hz rfl (by decide)
  have aTO : a ≠ TO := ne_cls ⟨p1, p2, p3⟩ hTO rfl (by decide)
  have bz : b ≠ z := ne_cls ⟨q1, q2, q3⟩ hz rfl (by decide)
  have cz : c ≠ z := ne_cls ⟨r1, r2, r3⟩ hz rfl (by decide)
  have a1 : a ≠ i1 := ne_cls ⟨p1, p2, p3⟩ e1 c1 (by decide)
  have a2 : a ≠ i2 := ne_cls ⟨p1, p2, p3⟩ e2 c2 (by decide)
  have a3 : a ≠ i3 := ne_cls ⟨p1, p2, p3⟩ e3 c3 (by decide)
  have b1 : b ≠ i1 := ne_cls ⟨q1, q2, q3⟩ e1 c1 (by decide)
  have b2 : b ≠ i2 := ne_cls ⟨q1, q2, q3⟩ e2 c2 (by decide)
  have b3 : b ≠ i3 := ne_cls ⟨q1, q2, q3⟩ e3 c3 (by decide)
  have c1' : c ≠ i1 := ne_cls ⟨r1, r2, r3⟩ e1 c1 (by decide)
  have c2' : c ≠ i2 := ne_cls ⟨r1, r2, r3⟩ e2 c2 (by decide)
  have c3' : c ≠ i3 := ne_cls ⟨r1, r2, r3⟩ e3 c3 (by decide)
  refine ⟨⟨fun e => n1 e.symm, fun e => n2 e.symm, m1, m2, by simp, ?_, ?_, m3, by simp, ?_, ?_, m4, by simp, ?_, ?_, ?_, ?_, ?_, ?_, ?_, ?_⟩, a1, b2, c3'⟩
  all_goals
    simp only [List.mem_cons, List.not_mem_nil, or_false, not_or]
    refine ⟨?_, ?_⟩
  all_goals first
    | assumption
    | (refine Ne.symm ?_; assumption)
theorem turn_zip3 {P : Program} {w : World} {K : PySem.W.Frag} {elts : List Expr} {kk : Nat} {tpos : Pos} {a b c z TI TO i1 i2 i3 : Addr} (A : Ap3 z TI TO i1 i2 i3) :
    Turn P w K (.Tuple elts kk tpos) (ItZ3 a b c) [z, TI, TO, i1, i2, i3] z (tn3 z TI TO i1 i2 i3 a b c) := by
  refine turn_W' (wr := [z, TO, i1, i2, i3]) (by simp) (fun _ q => by simp at q ⊢; rcases q with q | q | q | q | q <;> simp [q]) (fun i h st d hd => ?_) (fun i h h' st k => ?_) (fun A i s Q E st hq => wpAny_pyIter_zip st.1 hq) (fun X hP hw hK hc i pins s σ H I hf st hg => ?_) (fun X hP hw hK hc i pins s σ H I hf st hg => ?_)
  · obtain ⟨hz, hTI, ⟨x, y, u, hTO⟩, ⟨o1, e1, c1, d1⟩, ⟨o2, e2, c2, d2⟩, ⟨o3, e3, c3, d3⟩⟩ := st
    have e' : d = z ∨ d = TI ∨ d = TO ∨ d = i1 ∨ d = i2 ∨ d = i3 := by simpa using hd
    rcases e' with q | q | q | q | q | q
    · rw [q]; exact ⟨_, hz, fun v q => nomatch q⟩
    · rw [q]; exact ⟨_, hTI, fun v q => nomatch q⟩
    · rw [q]; exact ⟨_, hTO, fun v q => nomatch q⟩
    · rw [q]; exact ⟨o1, e1, fun v q => by rw [d1] at q; cases q⟩
    · rw [q]; exact ⟨o2, e2, fun v q => by rw [d2] at q; cases q⟩
    · rw [q]; exact ⟨o3, e3, fun v q => by rw [d3] at q; cases q⟩
  · obtain ⟨hz, hTI, ⟨x, y, u, hTO⟩, h1, h2, h3⟩ := st
    exact ⟨k z (by simp) _ hz, k TI (by simp) _ hTI, ⟨x, y, u, k TO (by simp) _ hTO⟩, h1.at fun o q => k i1 (by simp) o q, h2.at fun o q => k i2 (by simp) o q, h3.at fun o q => k i3 (by simp) o q⟩
  · subst hP hw hK
    obtain ⟨xs, ys, zs, x, y, u, ⟨g1, g2, g3⟩, hx, hy, hu⟩ := hg
    have q1 : SqL X.K H a xs := .inl g1
    have q2 : SqT X.K H b ys := .inl g2
    have q3 : SqT X.K H c zs := .inl g3
    obtain ⟨its, rv, p, hz1⟩ := I.list q1
    obtain ⟨its2, rv2, p2, hz2⟩ := I.tuple q2
    obtain ⟨its3, rv3, p3, hz3⟩ := I.tuple q3
    have hTOn : H TO = none := (hf TO (by simp)).1
    obtain ⟨Z, s1, s2, s3⟩ := sep3 A st p.isList p2 p3 (fun e => rd_some g2 (by rw [e]; exact hTOn)) (fun e => rd_some g3 (by rw [e]; exact hTOn))
    have hh := I.ok.hd hc
    have l1 := rv.length
    have l2 := rv2.length
    have l3 := rv3.length
    have hxl := (List.getElem?_eq_some_iff.mp hx).1
    have hyl := (List.getElem?_eq_some_iff.mp hy).1
    have hul := (List.getElem?_eq_some_iff.mp hu).1
    obtain ⟨hz, hTI, hTO, h1, h2, h3⟩ := id st
    refine ⟨_, _, _, _, _, WalksT.zipD3 Z (Draws.list (prog := X.prog) (w := X.w) (A := X.A.in1) hh i1 a s1 its.toArray) (Draws.tuple (prog := X.prog) (w := X.w) (A := X.A.in1) hh i2 b s2 its2.toArray) (Draws.tuple (prog := X.prog) (w := X.w) (A := X.A.in1) hh i3 c s3 its3.toArray), by simp only [List.size_toArray]; omega, ⟨hz, hTI, hTO, ⟨h1, p.isList⟩, ⟨h2, p2⟩, ⟨h3, p3⟩⟩,
      fun h ⟨k1, k2, k3, k4, k5, k6⟩ => ⟨k1, k2, k3, k4.1, k5.1, k6.1⟩, fun vals hv => ?_⟩
    obtain ⟨v1, v2, v3, e1, e2, e3, ev⟩ := hv
    subst ev
    obtain ⟨w1, hw1, r1⟩ := rv.get hx
    obtain ⟨w2, hw2, r2⟩ := rv2.get hy
    obtain ⟨w3, hw3, r3⟩ := rv3.get hu
    have f1 : w1 = v1 := by
      have q : its[i]? = some v1 := by simpa using e1
      rw [hw1] at q
      exact Option.some.inj q
    have f2 : w2 = v2 := by
      have q : its2[i]? = some v2 := by simpa using e2
      rw [hw2] at q
      exact Option.some.inj q
    have f3 : w3 = v3 := by
      have q : its3[i]? = some v3 := by simpa using e3
      rw [hw3] at q
      exact Option.some.inj q
    subst f1 f2 f3
    exact ⟨by simp, [x, y, u], .cons r1 (.cons r2 (.cons r3 .nil)), fun T hT => ⟨T, x, y, u, rfl, hT, rfl, fun l hl => by rw [I.list_inj (.inl hl) q1]; exact hx, fun l hl => by rw [I.tuple_inj (.inl hl) q2]; exact hy, fun l hl => by rw [I.tuple_inj (.inl hl) q3]; exact hu⟩⟩
  · subst hP hw hK
    obtain ⟨xs, ys, zs, ⟨g1, g2, g3⟩, hmn⟩ := hg
    have q1 : SqL X.K H a xs := .inl g1
    have q2 : SqT X.K H b ys := .inl g2
    have q3 : SqT X.K H c zs := .inl g3
    obtain ⟨its, rv, p, hz1⟩ := I.list q1
    obtain ⟨its2, rv2, p2, hz2⟩ := I.tuple q2
    obtain ⟨its3, rv3, p3, hz3⟩ := I.tuple q3
    have hTOn : H TO = none := (hf TO (by simp)).1
    obtain ⟨Z, s1, s2, s3⟩ := sep3 A st p.isList p2 p3 (fun e => rd_some g2 (by rw [e]; exact hTOn)) (fun e => rd_some g3 (by rw [e]; exact hTOn))
    have hh := I.ok.hd hc
    have l1 := rv.length
    have l2 := rv2.length
    have l3 := rv3.length
    obtain ⟨hz, hTI, hTO, h1, h2, h3⟩ := id st
    refine ⟨_, _, _, _, _, WalksT.zipD3 Z (Draws.list (prog := X.prog) (w := X.w) (A := X.A.in1) hh i1 a s1 its.toArray) (Draws.tuple (prog := X.prog) (w := X.w) (A := X.A.in1) hh i2 b s2 its2.toArray) (Draws.tuple (prog := X.prog) (w := X.w) (A := X.A.in1) hh i3 c s3 its3.toArray), ?_⟩
    have ei : min (min its.toArray.size its2.toArray.size) its3.toArray.size = i := by simp; omega
    rw [ei]
    exact ⟨hz, hTI, hTO, ⟨h1, p.isList⟩, ⟨h2, p2⟩, ⟨h3, p3⟩⟩
def iZ3 (ta : TA) : TI := fun σ H R => ta σ H fun vs H1 => ∃ a b c xs ys zs, vs = [.ref a, .ref b, .ref c] ∧ (Rd H1 a (.lst xs) ∧ Rd H1 b (.tup ys) ∧ Rd H1 c (.tup zs)) ∧ R (ItZ3 a b c) H1
theorem pi_z3 {X : Cx} {e e2 e3 : Expr} {ta : TA} {p pos tpos : Pos} {elts : List Expr} {kk : Nat} (hg : Gl X "zip") (hm : X.mg "zip" = none) (ha : PA X [e, e2, e3] ta)
    (hs : starEach [e, e2, e3] X.env = (false, eval e X.env) :: starEach [e2, e3] X.env := by rfl) (hpl : (backTo pos (starEach [e2, e3] X.env)).any (·.1) = false := by rfl) :
    PI X (.Tuple elts kk tpos) (.Call (.Name "zip" p) [e, e2, e3] [] pos) (iZ3 ta) := by
  refine ⟨fun pins s σ H R I h => ?_⟩
  refine Call_ (ld_blt I hg hm PyProof.Rows.boot_zip (PyProof.Rows.callWith_type1 (thn (ha.run pos pins s σ H _ I h) fun us s1 ⟨vs, H1, I1, r1, q1⟩ => ?_) hs hpl))
  obtain ⟨a, b, c, xs, ys, zs, ex, ⟨g1, g2, g3⟩, q1⟩ := q1
  subst ex
  cases r1 with
  | cons r rr =>
    cases rr with
    | cons r' rr =>
      cases rr with
      | cons r'' rr =>
        cases rr
        cases r
        cases r'
        cases r''
        obtain ⟨its, rv, p1, _⟩ := I1.list (a := a) (.inl g1)
        obtain ⟨its2, rv2, p2, _⟩ := I1.tuple (a := b) (.inl g2)
        obtain ⟨its3, rv3, p3, _⟩ := I1.tuple (a := c) (.inl g3)
        refine zip_begins3 (begins_list a its.toArray) (begins_tuple b its2.toArray) (begins_tuple c its3.toArray) p1.isList p2 p3 fun h' hz hTI hTO h1 h2 h3 hsz hk => wpAny_pyIter_zip hz ?_
        have I2 : Inv X pins σ H1 { s1 with heap := h' } := I1.kept (t' := s1.toks) hk
        refine ⟨s1.heap.objs.size + 5, [s1.heap.objs.size + 5, s1.heap.objs.size + 3, s1.heap.objs.size + 4, s1.heap.objs.size, s1.heap.objs.size + 1, s1.heap.objs.size + 2], _, _, H1, rfl, I2, turn_zip3 ⟨?_⟩,
          ⟨hz, hTI, ⟨_, _, _, hTO⟩, ⟨_, h1, rfl, rfl⟩, ⟨_, h2, rfl, rfl⟩, ⟨_, h3, rfl, rfl⟩⟩, fun d hd => ?_, q1⟩
        · generalize s1.heap.objs.size = N
          have : ∀ m : Nat, m = N → [m + 5, m + 3, m + 4, m, m + 1, m + 2].Nodup := fun m _ => by simp
          exact this N rfl
        · have hle : s1.heap.objs.size ≤ d := by
            have e' : d = s1.heap.objs.size + 5 ∨ d = s1.heap.objs.size + 3 ∨ d = s1.heap.objs.size + 4 ∨ d = s1.heap.objs.size ∨ d = s1.heap.objs.size + 1 ∨ d = s1.heap.objs.size + 2 := by simpa using hd
            rcases e' with q | q | q | q | q | q <;> rw [q] <;> first | exact Nat.le_refl _ | exact Nat.le_add_right _ _
          exact I1.fpOk hle (I1.hok.fresh hle)
def zip3D (as bs cs : List PyData) : List PyData := ((as.zip bs).zip cs).map fun p => .tuple [p.1.1, p.1.2, p.2]
theorem zip3D_get {as bs cs : List PyData} {i : Nat} (hi : i < (zip3D as bs cs).length) : ∃ a b c, as[i]? = some a ∧ bs[i]? = some b ∧ cs[i]? = some c ∧ (zip3D as bs cs)[i]? = some (.tuple [a, b, c]) := by
  have h1 : i < as.length := by simp [zip3D] at hi; omega
  have h2 : i < bs.length := by simp [zip3D] at hi; omega
  have h3 : i < cs.length := by simp [zip3D] at hi; omega
  refine ⟨as[i], bs[i], cs[i], List.getElem?_eq_getElem h1, List.getElem?_eq_getElem h2, List.getElem?_eq_getElem h3, ?_⟩
  unfold zip3D
  have hz : (as.zip bs)[i]? = some (as[i], bs[i]) := List.getElem?_zip_eq_some.mpr ⟨List.getElem?_eq_getElem h1, List.getElem?_eq_getElem h2⟩
  have hw : ((as.zip bs).zip cs)[i]? = some ((as[i], bs[i]), cs[i]) := List.getElem?_zip_eq_some.mpr ⟨hz, List.getElem?_eq_getElem h3⟩
  rw [List.getElem?_map, hw]
  rfl
def wdZip3 (t : TAd) : TId := fun ρ μ RR => t ρ μ fun xs μ1 => ∃ x y z as bs cs, xs = [.d (.list x), y, z] ∧ as = x ∧ tOf y = some bs ∧ tOf z = some cs ∧ RR (zip3D as bs cs) (fun _ => True) μ1
theorem rd_list {g : Cf} {α : List Addr} {H0 H : Hp} {ρ : Env} {μ : Sto} {σ : L2.St} {v : V} {ds : List PyData} (S : SS g α H0 ρ μ σ H) (h : DvR g α H0 v (.d (.list ds))) : ∃ a vs, v = .ref a ∧ Rd H a (.lst vs) ∧ DpAll KZ H0 vs ds := by
  obtain ⟨a, vs, e, q, r⟩ := lOf_ok (ds := ds) S h rfl
  exact ⟨a, vs, e, sql_rd q, r⟩
theorem rd_tup {g : Cf} {α : List Addr} {H0 H : Hp} {ρ : Env} {μ : Sto} {σ : L2.St} {v : V} {dv : DV} {ds : List PyData} (S : SS g α H0 ρ μ σ H) (h : DvR g α H0 v dv) (e : tOf dv = some ds) : ∃ a vs, v = .ref a ∧ Rd H a (.tup vs) ∧ DpAll KZ H0 vs ds := by
  obtain ⟨a, vs, e, q, r⟩ := tOf_ok S h e
  exact ⟨a, vs, e, sqt_rd q, r⟩
theorem walk_zip3 {g : Cf} {α : List Addr} {H0 H : Hp} {a b c : Addr} {dy dz : DV} {as bs cs : List PyData} (rx : DvR g α H0 (.ref a) (.d (.list as))) (ry : DvR g α H0 (.ref b) dy) (rz : DvR g α H0 (.ref c) dz) (h1 : tOf dy = some bs) (h2 : tOf dz = some cs) :
    WalkD g α H0 H (ItZ3 a b c) (zip3D as bs cs) (fun _ => True) := by
  refine ⟨fun i α' H0' ρ μ σ H' hi S t _ => ?_, fun α' H0' ρ μ σ H' S t _ => ?_⟩
  · obtain ⟨a', vs, e, hs, ha⟩ := rd_list S (DvR.grow t rx)
    cases e
    obtain ⟨b', us, e, hs2, hb⟩ := rd_tup S (DvR.grow t ry) h1
    cases e
    obtain ⟨c', ws, e, hs3, hc⟩ := rd_tup S (DvR.grow t rz) h2
    cases e
    obtain ⟨d1, d2, d3, g1, g2, g3, g4⟩ := zip3D_get hi
    obtain ⟨v, hv, hd⟩ := dps_get ha g1
    obtain ⟨u, hu, hd2⟩ := dps_get hb g2
    obtain ⟨w, hw, hd3⟩ := dps_get hc g3
    refine ⟨⟨vs, us, ws, v, u, w, ⟨hs, hs2, hs3⟩, hv, hu, hw⟩, fun x H'' y => ?_⟩
    obtain ⟨T, p, q, r, ex, hT, e, y1, y2, y3⟩ := y
    have e1 := y1 vs hs
    have e2 := y2 us hs2
    have e3 := y3 ws hs3
    rw [hv] at e1
    rw [hu] at e2
    rw [hw] at e3
    cases e1
    cases e2
    cases e3
    subst e ex
    obtain ⟨H0'', S', t', hd'⟩ := newT_ok S hT (.cons hd (.cons hd2 (.cons hd3 .nil)))
    exact ⟨H0'', _, S', t', g4, hd'⟩
  · obtain ⟨a', vs, e, hs, ha⟩ := rd_list S (DvR.grow t rx)
    cases e
    obtain ⟨b', us, e, hs2, hb⟩ := rd_tup S (DvR.grow t ry) h1
    cases e
    obtain ⟨c', ws, e, hs3, hc⟩ := rd_tup S (DvR.grow t rz) h2
    cases e
    refine ⟨vs, us, ws, ⟨hs, hs2, hs3⟩, ?_⟩
    rw [dps_len ha, dps_len hb, dps_len hc]
    simp [zip3D]
theorem ji_zip3 {X : Cx} {C : Addr} {e e2 e3 : Expr} {t : TAd} {p pos tpos : Pos} {elts : List Expr} {kk : Nat} (hg : Gl X "zip") (hm : X.mg "zip" = none) (ha : PA X [e, e2, e3] (uTA ⟨X.prog, X.w, C⟩ t))
    (hs : starEach [e, e2, e3] X.env = (false, eval e X.env) :: starEach [e2, e3] X.env := by rfl) (hpl : (backTo pos (starEach [e2, e3] X.env)).any (·.1) = false := by rfl) :
    PI X (.Tuple elts kk tpos) (.Call (.Name "zip" p) [e, e2, e3] [] pos) (uTI ⟨X.prog, X.w, C⟩ (wdZip3 t)) :=
  (pi_z3 hg hm ha hs hpl).imp fun σ H Q ⟨α, H0, ρ, μ, R, S, q, k⟩ => ⟨α, H0, ρ, μ, _, S, q, fun α1 H01 μ1 H1 vs dvs S1 p1 rv ⟨x, y, z, as, bs, cs, e, ea, h1, h2, q1⟩ => by
    subst e ea
    cases rv with
    | cons r t =>
      cases t with
      | cons r2 t =>
        cases t with
        | cons r3 t =>
          cases t
          obtain ⟨a', vs, e, hs, ha⟩ := rd_list S1 r
          subst e
          obtain ⟨b', us, e, hs2, hb⟩ := rd_tup S1 r2 h1
          subst e
          obtain ⟨c', ws, e, hs3, hc⟩ := rd_tup S1 r3 h2
          subst e
          exact ⟨a', b', c', vs, us, ws, rfl, ⟨hs, hs2, hs3⟩, k α1 H01 μ1 H1 _ _ _ S1 p1 (walk_zip3 r r2 r3 h1 h2) q1⟩⟩
end JR
set_option maxHeartbeats 4000000
/-! JD12: a set comprehension with two clauses, its elements whole numbers (the road of HandS.Comp's two-clause lists and HandS.SetBool's sets). -/
namespace JC
open PySem PySem.Spec PyProof.Rows L2 PpSet

theorem addI_ok {X : Cx} {pins : List (Addr × Obj)} {σ : L2.St} {H : Hp} {s : Shared} {E : Value → Shared → Prop} {D : Addr} {S : Int → Bool} {n : Nat} {y : Int} {tk : Tok} {Q : Value → Shared → Prop} (I : Inv X pins σ H s) (hD : H D = some (SetO X.w D S n)) (room : n + 1 < scanBound)
    (h : ∀ s', Inv X pins σ (upd H D (SetO X.w D (fun j => S j || decide (j = y)) (if S y = true then n else n + 1))) s' → Q .none s') : wpAny (model X.prog X.w) X.A (call (.builtin "set.add") [.ref D, .int y tk]) Q E s := by
  have R := setO_get I hD
  refine setR_add R room fun h' sb new => ?_
  have he : ∃ u, h'.get? D = some u := by
    have ⟨o, _, _, _, ho, _⟩ := new
    exact ⟨o, ho⟩
  exact h _ (I.write (e := D) (t' := s.toks + 1) (by rw [hD]; trivial) (.inl rfl) (fun b u hb hu => (sb.2 b hb).trans hu) he (setO_new new))
theorem cst_out (elt t0 i0 t1 i1 : Expr) (ifs0 ifs1 : List Expr) (scope : Scope) (pos : Pos) (it acc : Value) (env : Env) :
    compTurn (.SetComp elt [⟨t0, i0, ifs0, 0⟩, ⟨t1, i1, ifs1, 0⟩] scope pos) 0 it acc env = (do
      standAt i0.pos
      match ← pyNext it with
      | none => pure (.done .next)
      | some v =>
        letOwnedTupleGo t0 it v
        assign t0 env v
        let mut ok := true
        for c in ifs0 do
          if ok then ok ← isTrue c env (eval c env)
        if ok then
          let x ← eval i1 env
          standAt i1.pos
          let x ← foldedSetIterable i1 env x
          let _ ← runOwn (.compStart (.SetComp elt [⟨t0, i0, ifs0, 0⟩, ⟨t1, i1, ifs1, 0⟩] scope pos) 1 (← holding [x] (pyIter x)) acc env) env
        again (.compLoop (.SetComp elt [⟨t0, i0, ifs0, 0⟩, ⟨t1, i1, ifs1, 0⟩] scope pos) 0 it acc env)) := by rfl
theorem cst_in (elt t0 i0 t1 i1 : Expr) (ifs0 ifs1 : List Expr) (scope : Scope) (pos : Pos) (it acc : Value) (env : Env) :
    compTurn (.SetComp elt [⟨t0, i0, ifs0, 0⟩, ⟨t1, i1, ifs1, 0⟩] scope pos) 1 it acc env = (do
      standAt i1.pos
      match ← pyNext it with
      | none => pure (.done .next)
      | some v =>
        letOwnedTupleGo t1 it v
        assign t1 env v
        let mut ok := true
        for c in ifs1 do
          if ok then ok ← isTrue c env (eval c env)
        if ok then
          (do let v ← eval elt env; standAt elt.pos; let _ ← call (.builtin "set.add") [acc, v])
        again (.compLoop (.SetComp elt [⟨t0, i0, ifs0, 0⟩, ⟨t1, i1, ifs1, 0⟩] scope pos) 1 it acc env)) := by rfl

section
variable {prog : Program} {w : World} {A : Around} {R : Result → Shared → Prop} {s : Shared} {elt t0 i0 t1 i1 : Expr} {ifs0 ifs1 : List Expr} {scope : Scope} {pos : Pos} {it acc : Value} {env : Env}
/-- the lpa of the first clause -/
theorem csl_out (hs : ∀ x, foldedSetIterable i1 env x = pure x) (I : Nat → Shared → Prop)
    (trn : ∀ n s, I n s → wpAny (model prog w) A (pyNext it) (fun r s₅ => match r with
      | none => R (.ok .next) s₅
      | some v => wpAny (model prog w) A (letOwnedTupleGo t0 it v) (fun _ s₅' => wpAny (model prog w) A (assign t0 env v) (fun _ s₆ =>
          wpAny (model prog w) A (forIn ifs0 true fun c r => if r = true then do let ok ← isTrue c env (eval c env); pure (ForInStep.yield ok) else pure (ForInStep.yield r)) (fun ok s₇ =>
            if ok = true then wpAny (model prog w) A (eval i1 env) (fun x s₈ => wpAny (model prog w) A (pyIter x) (fun it1c s₉ =>
              codeAny (model prog w) A (.compStart (.SetComp elt [⟨t0, i0, ifs0, 0⟩, ⟨t1, i1, ifs1, 0⟩] scope pos) 1 it1c acc env) (fun r s' => match r with
                | .ok _ => ∃ m, m < n ∧ I m s'
                | .error _ => False) s₉) (notedBy (model prog w) A env fun e s' => R (.error e) s') s₈) (notedBy (model prog w) A env fun e s' => R (.error e) s') s₇
            else ∃ m, m < n ∧ I m s₇) (notedBy (model prog w) A env fun e s' => R (.error e) s') s₆) (notedBy (model prog w) A env fun e s' => R (.error e) s') s₅') (notedBy (model prog w) A env fun e s' => R (.error e) s') s₅) (notedBy (model prog w) A env fun e s' => R (.error e) s') s)
    (n : Nat) (h : I n s) :
    codeAny (model prog w) A (.compLoop (.SetComp elt [⟨t0, i0, ifs0, 0⟩, ⟨t1, i1, ifs1, 0⟩] scope pos) 0 it acc env) R s := by
  refine codeAny_loop rfl I (fun n s hI => ?_) n h
  show wpAny _ A ((compTurn (.SetComp elt [⟨t0, i0, ifs0, 0⟩, ⟨t1, i1, ifs1, 0⟩] scope pos) 0 it acc env).onRaise (fun x => do noteFrame x env; theTreesLotGoes x)) _ _ s
  refine wpAny_noted ?_
  rw [cst_out]
  refine wpAny_bind (wpAny_standAt (wpAny_bind (wpAny_mono (trn n s hI) (fun r s₅ h₅ => ?_) fun _ _ h' => h')))
  cases r with
  | none => exact wpAny_pure h₅
  | some v =>
    refine wpAny_bind (wpAny_mono h₅ (fun _ s₅' h₅' => ?_) fun _ _ h' => h')
    refine wpAny_bind (wpAny_mono h₅' (fun _ s₆ h₆ => wpAny_bind (wpAny_mono h₆ (fun ok s₇ h₇ => ?_) fun _ _ h' => h')) fun _ _ h' => h')
    cases ok with
    | false => exact wpAny_pure ⟨rfl, h₇⟩
    | true =>
      refine wpAny_bind (wpAny_mono h₇ (fun x s₈ h₈ => ?_) fun _ _ h' => h')
      refine wpAny_bind (wpAny_standAt (wpAny_bind (wpAny_of_eq (hs x) (wpAny_bind (wpAny_holding (wpAny_mono h₈ (fun it1c s₉ h₉ => ?_) fun _ _ h' => h'))))))
      refine wpAny_bind (wpAny_runOwn ?_)
      rw [Around.mark_none]
      refine codeAny_mono h₉ fun r s' hr => ?_
      cases r with
      | ok f =>
        first
          | exact wpAny_pure ⟨rfl, hr⟩
          | exact wpAny_bind (wpAny_pure (wpAny_pure ⟨rfl, hr⟩))
      | error e => exact hr.elim
/-- the lpa of the second -/
theorem csl_in (I : Nat → Shared → Prop)
    (trn : ∀ n s, I n s → wpAny (model prog w) A (pyNext it) (fun r s₅ => match r with
      | none => R (.ok .next) s₅
      | some v => wpAny (model prog w) A (letOwnedTupleGo t1 it v) (fun _ s₅' => wpAny (model prog w) A (assign t1 env v) (fun _ s₆ =>
          wpAny (model prog w) A (forIn ifs1 true fun c r => if r = true then do let ok ← isTrue c env (eval c env); pure (ForInStep.yield ok) else pure (ForInStep.yield r)) (fun ok s₇ =>
            if ok = true then wpAny (model prog w) A (eval elt env) (fun x s₈ =>
              wpAny (model prog w) A (call (.builtin "set.add") [acc, x]) (fun _ s₉ => ∃ m, m < n ∧ I m s₉) (notedBy (model prog w) A env fun e s' => R (.error e) s') s₈) (notedBy (model prog w) A env fun e s' => R (.error e) s') s₇
            else ∃ m, m < n ∧ I m s₇) (notedBy (model prog w) A env fun e s' => R (.error e) s') s₆) (notedBy (model prog w) A env fun e s' => R (.error e) s') s₅') (notedBy (model prog w) A env fun e s' => R (.error e) s') s₅) (notedBy (model prog w) A env fun e s' => R (.error e) s') s)
    (n : Nat) (h : I n s) :
    codeAny (model prog w) A (.compLoop (.SetComp elt [⟨t0, i0, ifs0, 0⟩, ⟨t1, i1, ifs1, 0⟩] scope pos) 1 it acc env) R s := by
  refine codeAny_loop rfl I (fun n s hI => ?_) n h
  show wpAny _ A ((compTurn (.SetComp elt [⟨t0, i0, ifs0, 0⟩, ⟨t1, i1, ifs1, 0⟩] scope pos) 1 it acc env).onRaise (fun x => do noteFrame x env; theTreesLotGoes x)) _ _ s
  refine wpAny_noted ?_
  rw [cst_in]
  refine wpAny_bind (wpAny_standAt (wpAny_bind (wpAny_mono (trn n s hI) (fun r s₅ h₅ => ?_) fun _ _ h' => h')))
  cases r with
  | none => exact wpAny_pure h₅
  | some v =>
    refine wpAny_bind (wpAny_mono h₅ (fun _ s₅' h₅' => ?_) fun _ _ h' => h')
    refine wpAny_bind (wpAny_mono h₅' (fun _ s₆ h₆ => wpAny_bind (wpAny_mono h₆ (fun ok s₇ h₇ => ?_) fun _ _ h' => h')) fun _ _ h' => h')
    cases ok with
    | false => exact wpAny_pure ⟨rfl, h₇⟩
    | true =>
      exact wpAny_bind (wpAny_bind (wpAny_mono h₇ (fun x s₈ h₈ => wpAny_bind (wpAny_standAt (wpAny_bind (wpAny_mono h₈ (fun _ s₉ h₉ => wpAny_pure (wpAny_pure ⟨rfl, h₉⟩)) fun _ _ h' => h')))) fun _ _ h' => h'))
/-- the second clause's start -/
theorem css_ok (h0c : codeAny (model prog w) A (.compLoop (.SetComp elt [⟨t0, i0, ifs0, 0⟩, ⟨t1, i1, ifs1, 0⟩] scope pos) 1 it acc env) R s)
    (h : wpAny (model prog w) A (pyIter it) (fun it' s' => codeAny (model prog w) A (.compLoop (.SetComp elt [⟨t0, i0, ifs0, 0⟩, ⟨t1, i1, ifs1, 0⟩] scope pos) 1 it' acc env) R s')
      (notedBy (model prog w) A env fun x s' => R (.error x) s') s) :
    codeAny (model prog w) A (.compStart (.SetComp elt [⟨t0, i0, ifs0, 0⟩, ⟨t1, i1, ifs1, 0⟩] scope pos) 1 it acc env) R s := by
  refine codeAny_of_tree ?_
  show wpAny _ _ ((compStart (.SetComp elt [⟨t0, i0, ifs0, 0⟩, ⟨t1, i1, ifs1, 0⟩] scope pos) 1 it acc env).onRaise (fun x => do noteFrame x env; standAt theWindowsPlace)) _ _ s
  refine wpAny_notedAt ?_
  unfold compStart
  show wpAny _ _ (ask >>= _) _ _ s
  refine wpAny_bind (wpAny_askSetting (wpAny_ite ?_))
  split
  · first
      | exact wpAny_bind (wpAny_pure (wpAny_pure (And.intro rfl h0c)))
      | exact wpAny_pure (And.intro rfl h0c)
  · first
      | exact wpAny_bind (wpAny_rule (wpAny_bind (wpAny_standAt (wpAny_bind (wpAny_mono h (fun it' s' h' => wpAny_pure (And.intro rfl h')) fun _ _ x => x)))))
      | (refine wpAny_bind (wpAny_rule ?_); show wpAny _ _ (standAt i1.pos >>= _) _ _ s; exact wpAny_bind (wpAny_standAt (wpAny_bind (wpAny_mono h (fun it' s' h' => wpAny_pure (And.intro rfl h')) fun _ _ x => x))))
end

/-! ### the whole -/
section
variable {X : Cx}
/-- [elt for tg in iter if .. for tg1 in iter1 if ..]: behind the first clause's store and tests the second source's own lpa, from which Nx is reached. vs: the block's names; vs1: those of the second target -/
def tSc2 (w : World) (wi : TI) (g : TG) (tt : TT) (wi1 : TI) (g1 : TG) (tt1 : TT) (te : TE) (vs vs1 : List Nat) : TE := fun σ H Q => wi σ H fun J H1c => ∀ D, H1c D = none → ∃ W : Nat → Nat → Hp → Prop, (∃ m, W 0 m (upd H1c D (SetO w D (fun _ => false) 0))) ∧ ∀ i m H, W i m H →
  (J.stop i H ∧ Q (.ref D) H) ∨ (J.go i H ∧ ∃ Nx : Hp → Prop, (∀ H', Nx H' → ∃ m', m' < m ∧ W (i + 1) m' H') ∧ ∀ x H', J.yld i H x H' → g x (wipe σ vs) H' fun σ2c H2c => wipe σ2c vs = wipe σ vs ∧ tt σ2c H2c fun b H3c =>
    if b = true then wi1 σ2c H3c fun J1c H4c => ∃ W1c : Nat → Nat → Hp → Prop, (∃ m, W1c 0 m H4c) ∧ ∀ j k H, W1c j k H →
      (J1c.stop j H ∧ Nx H) ∨ (J1c.go j H ∧ ∃ Nx1 : Hp → Prop, (∀ H', Nx1 H' → ∃ k', k' < k ∧ W1c (j + 1) k' H') ∧ ∀ x H', J1c.yld j H x H' → g1 x (wipe σ2c vs1) H' fun σ3c H5c => wipe σ3c vs1 = wipe σ2c vs1 ∧ tt1 σ3c H5c fun b H6c =>
        if b = true then te σ3c H6c fun y H7c => ∃ (c : Int) (S : Int → Bool) (n : Nat), y = .int c ∧ H7c D = some (SetO w D S n) ∧ n + 1 < scanBound ∧ Nx1 (upd H7c D (SetO w D (fun j => S j || decide (j = c)) (if S c = true then n else n + 1))) else Nx1 H6c)
    else Nx H3c)
theorem sc2_core {pins : List (Addr × Obj)} {s : Shared} {σ : L2.St} {H : Hp} {Q : VK} {elt tg iter tg1 iter1 : Expr} {ifs ifs1 : List Expr} {scope : Scope} {own : List (Str × Nat)} {vs1 : List Nat} {pos pos' : Pos} {wi wi1 : TI} {g g1 : TG} {tt tt1 : TT} {te : TE} {use : Option (Value → Sem Unit)} {Qf : Value → Shared → Prop}
    (hc : X.calm = true) (hN : X.N.Nodup) (I : Inv X pins σ H s) (hi : PI X tg iter wi) (ok : BlkOk X.N X.env.scope scope own) (hv : ∀ i ∈ vs1, i ∈ own.map (·.2))
    (hg : ∀ (s : Shared) (H : Hp) (C : Addr) (cl : List (Str × Addr)) (fp : List Addr), PG (X.blk s H scope (compEnvC scope cl C X.env) fp) tg g) (ht : ∀ (s : Shared) (H : Hp) (C : Addr) (cl : List (Str × Addr)) (fp : List Addr), PTs (X.blk s H scope (compEnvC scope cl C X.env) fp) ifs tt)
    (he : ∀ (s : Shared) (H : Hp) (C : Addr) (cl : List (Str × Addr)) (fp : List Addr), PE (X.blk s H scope (compEnvC scope cl C X.env) fp) elt te) (hs : ∀ x, foldedSetIterable iter X.env x = pure x)
    (hi1 : ∀ (s : Shared) (H : Hp) (C : Addr) (cl : List (Str × Addr)) (fp : List Addr), PI (X.blk s H scope (compEnvC scope cl C X.env) fp) tg1 iter1 wi1)
    (hg1 : ∀ (s : Shared) (H : Hp) (C : Addr) (cl : List (Str × Addr)) (fp : List Addr), PG (X.blk s H scope (compEnvC scope cl C X.env) fp) tg1 g1)
    (ht1 : ∀ (s : Shared) (H : Hp) (C : Addr) (cl : List (Str × Addr)) (fp : List Addr), PTs (X.blk s H scope (compEnvC scope cl C X.env) fp) ifs1 tt1)
    (hs1 : ∀ env x, foldedSetIterable iter1 env x = pure x)
    (h : tSc2 X.w wi g tt wi1 g1 tt1 te (own.map (·.2)) vs1 σ H Q)
    (hend : ∀ D C s' m H', Inv X pins σ H' s' → Q (.ref D) H' → s'.heap.Ns C m → FpOk X pins H' C → compPost (model X.prog X.w) X.A X.xe use Qf (.ref D) C (.ok .next) s') :
    wpAny (model X.prog X.w) X.A (comprehension (.SetComp elt [⟨tg, iter, ifs, 0⟩, ⟨tg1, iter1, ifs1, 0⟩] scope pos) scope X.env pos' (newSet (.type "set")) false (eval iter X.env) use) Qf X.xe s := by
  have hfr : ∀ y ∈ scope.names, y.2 = .free → ∃ c, X.env.cells.lookup y.1 = some c := fun y hy e => by
    rcases ok.free y hy e with k | k
    · exact I.ok.has _ (.inl k)
    · exact I.ok.has _ (.inr k)
  refine wpAny_comprehension_free (use := use) rfl hs (closure_ok hfr) ok.kind (fun y hy e => by rw [ok.uniq y hy, e])
    (thn (hi.run pins s σ H _ I h) fun xv s1c hx => thn hx fun itv s2c h2c => ?_)
  obtain ⟨it, fp, tn, J, H2c, e, I2c, T, st2c, f2c, q⟩ := h2c
  subst e
  refine newSet_ok (newEnv_comp ?_)
  generalize hD : s2c.heap.objs.size = D
  have hDn : H2c D = none := I2c.hok.fresh (Nat.le_of_eq hD)
  obtain ⟨W, ⟨m0c, w0c⟩, trn⟩ := q D hDn
  -- the new list
  generalize hs3 : ({ s2c with heap := s2c.heap.push { cls := .type "set", dict := none, data := .set #[] 0 (.fresh 0 0 (!X.w.params.followText "set-order")) } } : Shared) = s3c
  have I3c : Inv X pins σ (upd H2c D (SetO X.w D (fun _ => false) 0)) s3c := by
    rw [← hs3]
    refine I2c.laid (t' := s2c.toks) (fun b o e => Heap.get?_push_of_some _ e) (Nat.le_of_eq hD) ?_
    rw [← hD]
    exact setO_new (setR_fresh X.w)
  have h3c : s3c.heap = s2c.heap.push { cls := .type "set", dict := none, data := .set #[] 0 (.fresh 0 0 (!X.w.params.followText "set-order")) } := by rw [← hs3]
  have sz : ∀ b ∈ fp, b < s2c.heap.objs.size := fun b hb => by
    obtain ⟨o, e, _⟩ := T.obj _ _ st2c b hb
    exact Heap.lt_size e
  have f3c : ∀ b ∈ fp, FpOk X pins (upd H2c D (SetO X.w D (fun _ => false) 0)) b ∧ b < s3c.heap.objs.size := fun b hb => by
    have hlt := sz b hb
    refine ⟨⟨?_, (f2c b hb).2⟩, by rw [h3c, Heap.size_push]; exact Nat.lt_succ_of_lt hlt⟩
    rw [upd_ne (by rw [← hD]; exact Nat.ne_of_lt hlt)]
    exact (f2c b hb).1
  have st3c : tn 0 s3c.heap := T.keep _ _ _ st2c fun b _ o e => by rw [h3c]; exact Heap.get?_push_of_some _ e
  have I4c := block_start I3c ok hN f3c
  have pg := hg s3c (upd H2c D (SetO X.w D (fun _ => false) 0)) s3c.heap.objs.size (cellsFrom (s3c.heap.objs.size + 1) scope.names (cloFrom X.env.cells scope.names [])) fp
  have pt := ht s3c (upd H2c D (SetO X.w D (fun _ => false) 0)) s3c.heap.objs.size (cellsFrom (s3c.heap.objs.size + 1) scope.names (cloFrom X.env.cells scope.names [])) fp
  have pe := he s3c (upd H2c D (SetO X.w D (fun _ => false) 0)) s3c.heap.objs.size (cellsFrom (s3c.heap.objs.size + 1) scope.names (cloFrom X.env.cells scope.names [])) fp
  have pi1 := hi1 s3c (upd H2c D (SetO X.w D (fun _ => false) 0)) s3c.heap.objs.size (cellsFrom (s3c.heap.objs.size + 1) scope.names (cloFrom X.env.cells scope.names [])) fp
  have pg1 := hg1 s3c (upd H2c D (SetO X.w D (fun _ => false) 0)) s3c.heap.objs.size (cellsFrom (s3c.heap.objs.size + 1) scope.names (cloFrom X.env.cells scope.names [])) fp
  have pt1 := ht1 s3c (upd H2c D (SetO X.w D (fun _ => false) 0)) s3c.heap.objs.size (cellsFrom (s3c.heap.objs.size + 1) scope.names (cloFrom X.env.cells scope.names [])) fp
  show codeAny _ _ (.compStart (.SetComp elt [⟨tg, iter, ifs, 0⟩, ⟨tg1, iter1, ifs1, 0⟩] scope pos) 0 (.ref it) (.ref D) (compEnvC scope (cellsFrom (s3c.heap.objs.size + 1) scope.names (cloFrom X.env.cells scope.names [])) s3c.heap.objs.size X.env)) (compPost (model X.prog X.w) X.A X.xe use Qf (.ref D) s3c.heap.objs.size) { s3c with heap := pushCells (s3c.heap.push { cls := .type "dict", data := .dict #[] }) scope.names }
  have nof : ∀ b ∈ fp, (upd H2c D (SetO X.w D (fun _ => false) 0)) b = none := fun b hb => (f3c b hb).1.1
  generalize heq : compEnvC scope (cellsFrom (s3c.heap.objs.size + 1) scope.names (cloFrom X.env.cells scope.names [])) s3c.heap.objs.size X.env = ce at I4c pg pt pe pi1 pg1 pt1 ⊢
  have cLo : ce.locals = s3c.heap.objs.size := by subst heq; rfl
  generalize hH3 : upd H2c D (SetO X.w D (fun _ => false) 0) = H3c at I3c I4c pg pt pe pi1 pg1 pt1 w0c nof f3c
  generalize hs4 : ({ s3c with heap := pushCells (s3c.heap.push { cls := .type "dict", data := .dict #[] }) scope.names } : Shared) = s4c at I4c ⊢
  have st4c : tn 0 s4c.heap := T.keep _ _ _ st3c fun b _ o e => by rw [← hs4]; exact pushCells_keeps _ _ _ _ (Heap.get?_push_of_some _ e)
  have sth : ∀ {σ' : L2.St} {H' : Hp} {s' : Shared}, Inv (X.blk s3c H3c scope ce fp) [] σ' H' s' → (∀ b ∈ fp, H' b = none) → ∀ b ∈ fp, FpOk (X.blk s3c H3c scope ce fp) [] H' b := fun {σ' H' s'} I' hn b hb =>
    ⟨hn b hb, (I'.ok.exf b hb).1, I'.ok.exfs b hb, .inl hb, fun x c e => (I'.ok.exf b hb).2 x c e, fun p hp => absurd (show p ∈ ([] : List (Addr × Obj)) ++ [] from hp) (by simp)⟩
  have lpa : codeAny (model X.prog X.w) X.A (.compLoop (.SetComp elt [⟨tg, iter, ifs, 0⟩, ⟨tg1, iter1, ifs1, 0⟩] scope pos) 0 (.ref it) (.ref D) ce) (compPost (model X.prog X.w) X.A X.xe use Qf (.ref D) s3c.heap.objs.size) s4c := by
    refine csl_out (hs1 ce) (fun n s' => ∃ i H', Inv (X.blk s3c H3c scope ce fp) [] (wipe σ (own.map (·.2))) H' s' ∧ tn i s'.heap ∧ (∀ b ∈ fp, H' b = none) ∧ W i n H') ?_ m0c ⟨0, H3c, I4c, st4c, nof, w0c⟩
    rintro n s5c ⟨i, H5c, I5c, st5c, n5c, w5c⟩
    rcases trn i n H5c w5c with ⟨fa, qq⟩ | ⟨go, Nx, hya, ga⟩
    · have td := T.done (X.blk s3c H3c scope ce fp) rfl rfl rfl hc i [] s5c _ H5c (fun _ _ => False) I5c (sth I5c n5c) st5c fa
      refine thnF td fun r s6c ⟨hr, I6c⟩ => ?_
      subst hr
      -- back in the def's context
      have I7c : Inv X pins σ H5c s6c := I3c.call' (ch := fp) I6c.os I6c.base I6c.hok I6c.bare fun b hb => ⟨(f3c b hb).1.2.2.2.1, (f3c b hb).1.2.1, (f3c b hb).1.2.2.2.2.1, (f3c b hb).1.2.2.2.2.2⟩
      have nC : H5c s3c.heap.objs.size = none := by
        have z : H5c ce.locals = none := I6c.free
        rw [cLo] at z
        exact z
      obtain ⟨m, hn, _⟩ := I6c.loc
      have hn : s6c.heap.Ns ce.locals m := hn
      rw [cLo] at hn
      exact hend D s3c.heap.objs.size s6c m H5c I7c qq hn (I3c.fpOk (Nat.le_refl _) nC)
    · have ti := T.item (X.blk s3c H3c scope ce fp) rfl rfl rfl hc i [] s5c _ H5c (fun _ _ => False) I5c (sth I5c n5c) st5c go
      refine thnF ti fun r s6c ⟨u, hr, h6c⟩ => ?_
      subst hr
      refine thnF h6c fun _ s7c ⟨x, H7c, I7c, r7c, y7c, st7c, n7c⟩ => ?_
      have I7c' := I7c.pinned (sth I7c n7c) (T.obj _ _ st7c)
      refine thnF (pg.run _ s7c _ H7c x u _ I7c' r7c (ga x H7c y7c)) fun _ s8c ⟨σ8c, H8c, I8c, hw8c, q8c⟩ => ?_
      refine thnF (pt.run _ s8c σ8c H8c _ I8c q8c) fun b s9c ⟨H9c, I9c, q9c⟩ => ?_
      -- the turn's end, from any slots that know what the block knew at its start
      have ea : ∀ {σ9c : L2.St} {s' : Shared} {H' : Hp}, Inv (X.blk s3c H3c scope ce fp) ([] ++ pinsAt fp s7c.heap) σ9c H' s' → (wipe σ (own.map (·.2))).length = σ9c.length → (∀ (j : Nat) v, (wipe σ (own.map (·.2)))[j]? = some (some v) → σ9c[j]? = some (some v)) → Nx H' →
          ∃ m, m < n ∧ ∃ i H', Inv (X.blk s3c H3c scope ce fp) [] (wipe σ (own.map (·.2))) H' s' ∧ tn i s'.heap ∧ (∀ b ∈ fp, H' b = none) ∧ W i m H' := fun {σ9c s' H'} I' hl hk nx => by
        obtain ⟨m', hm, w'⟩ := hya H' nx
        have pinq : ∀ b ∈ fp, ∀ o, s7c.heap.get? b = some o → s'.heap.get? b = some o ∧ H' b = none := fun b hb o e =>
          let z := I'.pin (b, o) (List.mem_append_right _ (List.mem_append_right _ (mem_pinsAt hb e)))
          ⟨z.1, z.2.1⟩
        refine ⟨m', hm, i + 1, H', (I'.unpinned (pins := [])).weak hl hk, T.keep _ _ _ st7c fun b hb o e => (pinq b hb o e).1, fun b hb => ?_, w'⟩
        obtain ⟨o, e, _⟩ := T.obj _ _ st7c b hb
        exact (pinq b hb o e).2
      have hl8 : (wipe σ (own.map (·.2))).length = σ8c.length := by rw [← hw8c, wipe_length]
      have hk8 : ∀ (j : Nat) v, (wipe σ (own.map (·.2)))[j]? = some (some v) → σ8c[j]? = some (some v) := fun j v e => by
        rw [← hw8c] at e
        exact (wipe_some e).1
      have hk9 : ∀ (j : Nat) v, (wipe σ (own.map (·.2)))[j]? = some (some v) → (wipe σ8c vs1)[j]? = some (some v) := fun j v e => by
        rw [← hw8c] at e
        obtain ⟨e1, e2⟩ := wipe_some e
        rw [wipe_out fun z => e2 (hv j z)]
        exact e1
      cases b with
      | false =>
        simp only [Bool.false_eq_true, if_false] at q9c ⊢
        exact ea I9c hl8 hk8 q9c
      | true =>
        simp only [if_true] at q9c ⊢
        refine thnF (pi1.run _ s9c σ8c H9c _ I9c q9c) fun xv s10c hx => thnF hx fun itv s11c h11c => ?_
        obtain ⟨it1c, fp1c, tn1c, J1c, H11c, e1, I11c, T1c, st11c, f11c, W1c, ⟨m1c, w1c⟩, turn1⟩ := h11c
        subst e1
        -- the inner lpa
        have stat1 : ∀ {H' : Hp}, (∀ b ∈ fp1c, H' b = none) → ∀ b ∈ fp1c, FpOk (X.blk s3c H3c scope ce fp) ([] ++ pinsAt fp s7c.heap) H' b := fun hn b hb => ⟨hn b hb, (f11c b hb).2⟩
        have lpb : codeAny (model X.prog X.w) X.A (.compLoop (.SetComp elt [⟨tg, iter, ifs, 0⟩, ⟨tg1, iter1, ifs1, 0⟩] scope pos) 1 (.ref it1c) (.ref D) ce)
            (fun r s' => match r with
              | .ok _ => ∃ m, m < n ∧ ∃ i H', Inv (X.blk s3c H3c scope ce fp) [] (wipe σ (own.map (·.2))) H' s' ∧ tn i s'.heap ∧ (∀ b ∈ fp, H' b = none) ∧ W i m H'
              | .error _ => False) s11c := by
          refine csl_in (fun k s' => ∃ j H', Inv (X.blk s3c H3c scope ce fp) ([] ++ pinsAt fp s7c.heap) (wipe σ8c vs1) H' s' ∧ tn1c j s'.heap ∧ (∀ b ∈ fp1c, H' b = none) ∧ W1c j k H') ?_ m1c ⟨0, H11c, I11c.weak (wipe_length _ _) (fun j v e => (wipe_some e).1), st11c, fun b hb => (f11c b hb).1, w1c⟩
          rintro k s12c ⟨j, H12c, I12c, st12c, n12c, w12c⟩
          rcases turn1 j k H12c w12c with ⟨fb, nx1⟩ | ⟨go1, Nx1, hyb, gb⟩
          · refine thnF (T1c.done (X.blk s3c H3c scope ce fp) rfl rfl rfl hc j _ s12c (wipe σ8c vs1) H12c (fun _ _ => False) I12c (stat1 n12c) st12c fb) fun r s13c ⟨hr, I13c⟩ => ?_
            subst hr
            exact ea I13c (hl8.trans (wipe_length σ8c vs1).symm) hk9 nx1
          · refine thnF (T1c.item (X.blk s3c H3c scope ce fp) rfl rfl rfl hc j _ s12c (wipe σ8c vs1) H12c (fun _ _ => False) I12c (stat1 n12c) st12c go1) fun r s13c ⟨u1c, hr, h13c⟩ => ?_
            subst hr
            refine thnF h13c fun _ s14c ⟨x1c, H14c, I14c, r14c, y14c, st14c, n14c⟩ => ?_
            have I14c' := I14c.pinned (stat1 n14c) (T1c.obj _ _ st14c)
            refine thnF (pg1.run _ s14c (wipe σ8c vs1) H14c x1c u1c _ I14c' r14c (gb x1c H14c y14c)) fun _ s15c ⟨σ15c, H15c, I15c, hw15c, q15c⟩ => ?_
            refine thnF (pt1.run _ s15c σ15c H15c _ I15c q15c) fun b1 s16c ⟨H16c, I16c, q16c⟩ => ?_
            have eb : ∀ {s' : Shared} {H' : Hp}, Inv (X.blk s3c H3c scope ce fp) (([] ++ pinsAt fp s7c.heap) ++ pinsAt fp1c s14c.heap) σ15c H' s' → Nx1 H' → ∃ m, m < k ∧ ∃ j H', Inv (X.blk s3c H3c scope ce fp) ([] ++ pinsAt fp s7c.heap) (wipe σ8c vs1) H' s' ∧ tn1c j s'.heap ∧ (∀ b ∈ fp1c, H' b = none) ∧ W1c j m H' := fun {s' H'} I' nx => by
              obtain ⟨m', hm, w'⟩ := hyb H' nx
              have pinq : ∀ b ∈ fp1c, ∀ o, s14c.heap.get? b = some o → s'.heap.get? b = some o ∧ H' b = none := fun b hb o e =>
                let z := I'.pin (b, o) (List.mem_append_right _ (List.mem_append_right _ (mem_pinsAt hb e)))
                ⟨z.1, z.2.1⟩
              refine ⟨m', hm, j + 1, H', I'.unpinned.weak (by rw [← hw15c, wipe_length]) (fun j v e => by rw [← hw15c] at e; exact (wipe_some e).1), T1c.keep _ _ _ st14c fun b hb o e => (pinq b hb o e).1, fun b hb => ?_, w'⟩
              obtain ⟨o, e, _⟩ := T1c.obj _ _ st14c b hb
              exact (pinq b hb o e).2
            cases b1 with
            | false =>
              simp only [Bool.false_eq_true, if_false] at q16c ⊢
              exact eb I16c q16c
            | true =>
              simp only [if_true] at q16c ⊢
              refine thnF (pe.run _ s16c σ15c H16c _ I16c q16c) fun z s17c ⟨yv, H17c, I17c, r17c, ci, S0, n0c, ey, hD17c, hz17c, nx⟩ => ?_
              subst ey
              obtain ⟨tk, rfl⟩ := r17c
              exact addI_ok (X := X.blk s3c H3c scope ce fp) I17c hD17c hz17c fun s18c I18c => eb I18c nx
        exact css_ok lpb (T1c.self X.A 0 _ _ _ st11c lpb)
  exact codeAny_compStart_set lpa (T.self X.A 0 _ _ _ st4c lpa)
/-- as a value -/
theorem pe_sc2 {elt tg iter tg1 iter1 : Expr} {ifs ifs1 : List Expr} {scope : Scope} {own : List (Str × Nat)} {vs1 : List Nat} {pos : Pos} {wi wi1 : TI} {g g1 : TG} {tt tt1 : TT} {te : TE} (hc : X.calm = true) (hN : X.N.Nodup) (hi : PI X tg iter wi) (ok : BlkOk X.N X.env.scope scope own) (hv : ∀ i ∈ vs1, i ∈ own.map (·.2))
    (hg : ∀ (s : Shared) (H : Hp) (C : Addr) (cl : List (Str × Addr)) (fp : List Addr), PG (X.blk s H scope (compEnvC scope cl C X.env) fp) tg g) (ht : ∀ (s : Shared) (H : Hp) (C : Addr) (cl : List (Str × Addr)) (fp : List Addr), PTs (X.blk s H scope (compEnvC scope cl C X.env) fp) ifs tt)
    (hi1 : ∀ (s : Shared) (H : Hp) (C : Addr) (cl : List (Str × Addr)) (fp : List Addr), PI (X.blk s H scope (compEnvC scope cl C X.env) fp) tg1 iter1 wi1)
    (hg1 : ∀ (s : Shared) (H : Hp) (C : Addr) (cl : List (Str × Addr)) (fp : List Addr), PG (X.blk s H scope (compEnvC scope cl C X.env) fp) tg1 g1) (ht1 : ∀ (s : Shared) (H : Hp) (C : Addr) (cl : List (Str × Addr)) (fp : List Addr), PTs (X.blk s H scope (compEnvC scope cl C X.env) fp) ifs1 tt1)
    (he : ∀ (s : Shared) (H : Hp) (C : Addr) (cl : List (Str × Addr)) (fp : List Addr), PE (X.blk s H scope (compEnvC scope cl C X.env) fp) elt te) (hs : ∀ x, foldedSetIterable iter X.env x = pure x := by intro _; rfl) (hs1 : ∀ env x, foldedSetIterable iter1 env x = pure x := by intro _ _; rfl) :
    PE X (.SetComp elt [⟨tg, iter, ifs, 0⟩, ⟨tg1, iter1, ifs1, 0⟩] scope pos) (tSc2 X.w wi g tt wi1 g1 tt1 te (own.map (·.2)) vs1) := by
  refine ⟨fun pins s σ H Q I h => ?_⟩
  rw [eval_SetComp]
  refine sc2_core hc hN I hi ok hv hg ht he hs hi1 hg1 ht1 hs1 h fun D C s' m H' I' q hn f => ⟨m, hn, fun h'' sb => ?_⟩
  obtain ⟨f0, f1c, f2c, f3c, f4c, f5c⟩ := f
  exact ⟨.ref D, H', I'.turned (t' := s'.toks) (fun b o hb e => (sb.2 b hb).trans e) f0 f1c f3c f4c f5c, rfl, q⟩
end
end JC
set_option maxHeartbeats 4000000
/-! JD13: comprehensions of two clauses over data: lists, sets of whole numbers. -/
namespace JR
open PySem PySem.Spec PyProof.Rows L2

section
variable (t : Tg) (tt : TTd) (wd1 : TId) (t1 : Tg) (tt1 : TTd) (te : TD) (ρw : Env) (vs1 : List Nat) (stay : Sto → Prop) (R : List PyData → Sto → Prop)
def lc2Go : List PyData → List PyData → Sto → Prop
  | [], acc, μ => stay μ ∧ R acc μ
  | x :: xs, acc, μ => stay μ ∧ tgD t x ρw fun ρ1 => tt ρ1 μ fun b μ2 => if b = true then wd1 ρ1 μ2 fun items1 stay1 μ3 => lcGo t1 tt1 te (wipeD ρ1 vs1) stay1 (lc2Go xs) items1 acc μ3 else lc2Go xs acc μ2
end
def tdLc2 (wd : TId) (t : Tg) (tt : TTd) (wd1 : TId) (t1 : Tg) (tt1 : TTd) (te : TD) (vs vs1 : List Nat) : TLd := fun ρ μ R => wd ρ μ fun items stay μ1 => lc2Go t tt wd1 t1 tt1 te (wipeD ρ vs) vs1 stay R items [] μ1
section
variable {g : Cf} {t t1 : Tg} {wd wd1 : TId} {tt tt1 : TTd} {te : TD} {vs vs1 : List Nat}
theorem tdLc2_imp {K : PySem.W.Frag} (hv : ∀ i ∈ t.ix, i ∈ vs) (hv1 : ∀ i ∈ t1.ix, i ∈ vs1) : ∀ σ H Q, uTL g (tdLc2 wd t tt wd1 t1 tt1 te vs vs1) σ H Q → tLc2 (uTI g wd) (tgG K t) (uTT g tt) (uTI g wd1) (tgG K t1) (uTT g tt1) (uTE g te) vs vs1 σ H Q := fun σ H Q ⟨α, H0, ρ, μ, R, S, q, k⟩ =>
  ⟨α, H0, ρ, μ, _, S, q, fun α1 H01 μ1 H1 J items stay S1 p1 W q1 D hD => by
    have hDα := S1.nin hD
    have hD0 := S1.free hD
    have Sw : SS g α1 H01 (wipeD ρ vs) μ1 (L2.wipe σ vs) (upd H1 D (.lst [])) := (S1.side hD0 hDα).wipe vs
    have hDs : H D = none := by
      cases z : H D with
      | none => rfl
      | some o => exact absurd hD (p1.al D (by rw [z]; simp))
    refine ⟨fun i m H2 => ∃ α2 H02 μ2 accv acc, m = items.length - i ∧ i ≤ items.length ∧ SS g α2 H02 (wipeD ρ vs) μ2 (L2.wipe σ vs) H2 ∧ Stp α1 H01 H1 α2 H02 H2 ∧ H2 D = some (.lst accv) ∧ H02 D = none ∧ D ∉ α2 ∧ DpAll KZ H02 accv acc ∧ lc2Go t tt wd1 t1 tt1 te (wipeD ρ vs) vs1 stay R (items.drop i) acc μ2,
      ⟨items.length, α1, H01, μ1, [], [], by simp, Nat.zero_le _, Sw, (Stp.refl _ _ _).sideW hD, upd_same, hD0, hDα, .nil, by simpa using q1⟩, ?_⟩
    rintro i m H2 ⟨α2, H02, μ2, accv, acc, rfl, hi, S2, p2, hDl, hDz, hDn, hA, q2⟩
    by_cases hlt : i < items.length
    · have hdr : items.drop i = items[i] :: items.drop (i + 1) := (List.drop_eq_getElem_cons hlt)
      rw [hdr] at q2
      obtain ⟨hst, q2⟩ := q2
      obtain ⟨hgo, hy⟩ := W.goes i α2 H02 _ μ2 _ H2 hlt S2 p2.grw hst
      refine .inr ⟨hgo, fun H' => ∃ α3 H03 μ3 accv acc, SS g α3 H03 (wipeD ρ vs) μ3 (L2.wipe σ vs) H' ∧ Stp α1 H01 H1 α3 H03 H' ∧ H' D = some (.lst accv) ∧ H03 D = none ∧ D ∉ α3 ∧ DpAll KZ H03 accv acc ∧ lc2Go t tt wd1 t1 tt1 te (wipeD ρ vs) vs1 stay R (items.drop (i + 1)) acc μ3,
        fun H' ⟨α3, H03, μ3, accv, acc, S3, p3, z⟩ => ⟨items.length - (i + 1), by omega, α3, H03, μ3, accv, acc, rfl, hlt, S3, p3, z⟩, fun x H' y => ?_⟩
      obtain ⟨H0x, d, Sx, px, ed, hd⟩ := hy x H' y
      rw [List.getElem?_eq_getElem hlt] at ed
      cases ed
      refine tg_ok (vw := vs) Sx hd q2 hv fun σ' ρ' S3 hw q3 => ⟨by rw [hw]; exact wipe_wipe σ vs, ?_⟩
      have p3 := p2.trans px
      refine ⟨α2, H0x, ρ', μ2, _, S3, q3, fun α4 H04 μ4 H4 b S4 p4 q4 => ?_⟩
      have p24 := px.trans p4
      have S4w : SS g α4 H04 (wipeD ρ vs) μ4 (L2.wipe σ vs) H4 := S4.slots S2 p24
      obtain ⟨a1, a2, a3⟩ := p24.hold hDl hDz hDn
      cases b with
      | false =>
        rw [if_neg Bool.false_ne_true] at q4
        refine iteF ?_
        exact ⟨α4, H04, μ4, accv, acc, S4w, p2.trans p24, a1, a2, a3, dps_same p24.ex _ _ hA, q4⟩
      | true =>
        rw [if_pos rfl] at q4
        refine iteT ?_
        refine ⟨α4, H04, ρ', μ4, _, S4, q4, fun α5 H05 μ5 H5 J1 items1 stay1 S5 p5 W1 q5 => ?_⟩
        have p25 := p24.trans p5
        obtain ⟨b1, b2, b3⟩ := p25.hold hDl hDz hDn
        have S5w : SS g α5 H05 (wipeD ρ' vs1) μ5 (L2.wipe σ' vs1) H5 := S5.wipe vs1
        refine ⟨fun j m H6 => ∃ α6 H06 μ6 accv acc, m = items1.length - j ∧ j ≤ items1.length ∧ SS g α6 H06 (wipeD ρ' vs1) μ6 (L2.wipe σ' vs1) H6 ∧ Stp α1 H01 H1 α6 H06 H6 ∧ Grw α5 H05 α6 H06 ∧ H6 D = some (.lst accv) ∧ H06 D = none ∧ D ∉ α6 ∧ DpAll KZ H06 accv acc ∧
            lcGo t1 tt1 te (wipeD ρ' vs1) stay1 (lc2Go t tt wd1 t1 tt1 te (wipeD ρ vs) vs1 stay R (items.drop (i + 1))) (items1.drop j) acc μ6,
          ⟨items1.length, α5, H05, μ5, accv, acc, by simp, Nat.zero_le _, S5w, p2.trans p25, Grw.refl _ _, b1, b2, b3, dps_same p25.ex _ _ hA, by simpa using q5⟩, ?_⟩
        rintro j m H6 ⟨α6, H06, μ6, accv6, acc6, rfl, hj, S6, p6, t6, c1, c2, c3, cA, q6⟩
        have S6w : SS g α6 H06 (wipeD ρ vs) μ6 (L2.wipe σ vs) H6 := S6.slotsG S2 (p25.grw.trans t6)
        by_cases hlt1 : j < items1.length
        · have hdr1 : items1.drop j = items1[j] :: items1.drop (j + 1) := (List.drop_eq_getElem_cons hlt1)
          rw [hdr1] at q6
          obtain ⟨hst1, q6⟩ := q6
          obtain ⟨hgo1, hy1⟩ := W1.goes j α6 H06 _ μ6 _ H6 hlt1 S6 t6 hst1
          refine .inr ⟨hgo1, fun H' => ∃ α7 H07 μ7 accv acc, SS g α7 H07 (wipeD ρ' vs1) μ7 (L2.wipe σ' vs1) H' ∧ Stp α1 H01 H1 α7 H07 H' ∧ Grw α5 H05 α7 H07 ∧ H' D = some (.lst accv) ∧ H07 D = none ∧ D ∉ α7 ∧ DpAll KZ H07 accv acc ∧
              lcGo t1 tt1 te (wipeD ρ' vs1) stay1 (lc2Go t tt wd1 t1 tt1 te (wipeD ρ vs) vs1 stay R (items.drop (i + 1))) (items1.drop (j + 1)) acc μ7,
            fun H' ⟨α7, H07, μ7, accv, acc, S7, p7, t7, z⟩ => ⟨items1.length - (j + 1), by omega, α7, H07, μ7, accv, acc, rfl, hlt1, S7, p7, t7, z⟩, fun x1 H' y1 => ?_⟩
          obtain ⟨H0y, d1, Sy, py, ed1, hd1⟩ := hy1 x1 H' y1
          rw [List.getElem?_eq_getElem hlt1] at ed1
          cases ed1
          refine tg_ok (vw := vs1) Sy hd1 q6 hv1 fun σ7 ρ7 S7 hw7 q7 => ⟨by rw [hw7]; exact wipe_wipe σ' vs1, ?_⟩
          refine ⟨α6, H0y, ρ7, μ6, _, S7, q7, fun α8 H08 μ8 H8 b S8 p8 q8 => ?_⟩
          have p68 := py.trans p8
          cases b with
          | false =>
            rw [if_neg Bool.false_ne_true] at q8
            obtain ⟨e1, e2, e3⟩ := p68.hold c1 c2 c3
            refine iteF ?_
            exact ⟨α8, H08, μ8, accv6, acc6, S8.slots S6 p68, p6.trans p68, t6.trans p68.grw, e1, e2, e3, dps_same p68.ex _ _ cA, q8⟩
          | true =>
            rw [if_pos rfl] at q8
            refine iteT ?_
            refine ⟨α8, H08, ρ7, μ8, _, S8, q8, fun α9 H09 μ9 H9 v dv S9 p9 rv ⟨d', e, hl, q9⟩ => ?_⟩
            subst e
            have p69 := p68.trans p9
            obtain ⟨e1, e2, e3⟩ := p69.hold c1 c2 c3
            have hA9 := dps_same p69.ex _ _ cA
            refine ⟨accv6, e1, small5 (by rw [dps_len cA]; exact hl), α9, H09, μ9, accv6 ++ [v], acc6 ++ [d'], (S9.slots S6 p69).side e2 e3, (p6.trans p69).sideW hD, t6.trans p69.grw, upd_same, e2, e3, dps_snoc hA9 rv, q9⟩
        · have ej : j = items1.length := by omega
          subst ej
          rw [List.drop_length] at q6
          refine .inl ⟨W1.stops α6 H06 _ μ6 _ H6 S6 t6 q6.1, ?_⟩
          exact ⟨α6, H06, μ6, accv6, acc6, S6w, p6, c1, c2, c3, cA, q6.2⟩
    · have ei : i = items.length := by omega
      subst ei
      rw [List.drop_length] at q2
      refine .inl ⟨W.stops α2 H02 _ μ2 _ H2 S2 p2.grw q2.1, ?_⟩
      have S2' : SS g α2 H02 ρ μ2 σ H2 := S2.slots S1 p2
      exact k α2 H02 μ2 H2 D accv acc S2' (p1.trans p2) hDl hDz hDn hDs hA q2.2⟩
end

/-! ### sets of whole numbers -/
def SetIs (S : Int → Bool) (n : Nat) (acc : List Int) : Prop := (∀ k, S k = true ↔ k ∈ acc) ∧ n ≤ acc.length
theorem setIs_nil : SetIs (fun _ => false) 0 [] := ⟨fun k => by simp, Nat.le_refl 0⟩
theorem setIs_add {S : Int → Bool} {n : Nat} {acc : List Int} (h : SetIs S n acc) (c : Int) : SetIs (fun j => S j || decide (j = c)) (if S c = true then n else n + 1) (acc ++ [c]) := by
  refine ⟨fun k => ?_, ?_⟩
  · show (S k || decide (k = c)) = true ↔ _
    rw [Bool.or_eq_true, h.1 k, decide_eq_true_iff]
    simp
  · have := h.2
    rw [List.length_append, List.length_singleton]
    split <;> omega
theorem setIs_room {S : Int → Bool} {n : Nat} {acc : List Int} (h : SetIs S n acc) (hl : acc.length < 4000) : n + 1 < scanBound := by
  have := h.2
  unfold scanBound
  omega
section
variable (t : Tg) (tt : TTd) (te : TD) (ρw : Env) (stay : Sto → Prop) (R : List Int → Sto → Prop)
def scGo : List PyData → List Int → Sto → Prop
  | [], acc, μ => stay μ ∧ R acc μ
  | x :: xs, acc, μ => stay μ ∧ tgD t x ρw fun ρ1 => tt ρ1 μ fun b μ2 => if b = true then te ρ1 μ2 fun dv μ3 => ∃ c : Int, dv = .d (.int c) ∧ acc.length < 4000 ∧ scGo xs (acc ++ [c]) μ3 else scGo xs acc μ2
end
section
variable (t : Tg) (tt : TTd) (wd1 : TId) (t1 : Tg) (tt1 : TTd) (te : TD) (ρw : Env) (vs1 : List Nat) (stay : Sto → Prop) (R : List Int → Sto → Prop)
def sc2Go : List PyData → List Int → Sto → Prop
  | [], acc, μ => stay μ ∧ R acc μ
  | x :: xs, acc, μ => stay μ ∧ tgD t x ρw fun ρ1 => tt ρ1 μ fun b μ2 => if b = true then wd1 ρ1 μ2 fun items1 stay1 μ3 => scGo t1 tt1 te (wipeD ρ1 vs1) stay1 (sc2Go xs) items1 acc μ3 else sc2Go xs acc μ2
end
def tdSc2 (wd : TId) (t : Tg) (tt : TTd) (wd1 : TId) (t1 : Tg) (tt1 : TTd) (te : TD) (vs vs1 : List Nat) : TD := fun ρ μ R => wd ρ μ fun items stay μ1 => sc2Go t tt wd1 t1 tt1 te (wipeD ρ vs) vs1 stay (fun acc μ' => R (.s acc) μ') items [] μ1
section
variable {g : Cf} {t t1 : Tg} {wd wd1 : TId} {tt tt1 : TTd} {te : TD} {vs vs1 : List Nat}
theorem tdSc2_imp {K : PySem.W.Frag} (hv : ∀ i ∈ t.ix, i ∈ vs) (hv1 : ∀ i ∈ t1.ix, i ∈ vs1) : ∀ σ H Q, uTE g (tdSc2 wd t tt wd1 t1 tt1 te vs vs1) σ H Q → JC.tSc2 g.w (uTI g wd) (tgG K t) (uTT g tt) (uTI g wd1) (tgG K t1) (uTT g tt1) (uTE g te) vs vs1 σ H Q := fun σ H Q ⟨α, H0, ρ, μ, R, S, q, k⟩ =>
  ⟨α, H0, ρ, μ, _, S, q, fun α1 H01 μ1 H1 J items stay S1 p1 W q1 D hD => by
    have hDα := S1.nin hD
    have hD0 := S1.free hD
    have Sw : SS g α1 H01 (wipeD ρ vs) μ1 (L2.wipe σ vs) (upd H1 D (SetO g.w D (fun _ => false) 0)) := (S1.side hD0 hDα).wipe vs
    have hDs : H D = none := by
      cases z : H D with
      | none => rfl
      | some o => exact absurd hD (p1.al D (by rw [z]; simp))
    refine ⟨fun i m H2 => ∃ α2 H02 μ2 Sf n acc, m = items.length - i ∧ i ≤ items.length ∧ SS g α2 H02 (wipeD ρ vs) μ2 (L2.wipe σ vs) H2 ∧ Stp α1 H01 H1 α2 H02 H2 ∧ H2 D = some (SetO g.w D Sf n) ∧ H02 D = none ∧ D ∉ α2 ∧ SetIs Sf n acc ∧ sc2Go t tt wd1 t1 tt1 te (wipeD ρ vs) vs1 stay (fun acc μ' => R (.s acc) μ') (items.drop i) acc μ2,
      ⟨items.length, α1, H01, μ1, _, 0, [], by simp, Nat.zero_le _, Sw, (Stp.refl _ _ _).sideW hD, upd_same, hD0, hDα, setIs_nil, by simpa using q1⟩, ?_⟩
    rintro i m H2 ⟨α2, H02, μ2, Sf, n, acc, rfl, hi, S2, p2, hDl, hDz, hDn, hA, q2⟩
    by_cases hlt : i < items.length
    · have hdr : items.drop i = items[i] :: items.drop (i + 1) := (List.drop_eq_getElem_cons hlt)
      rw [hdr] at q2
      obtain ⟨hst, q2⟩ := q2
      obtain ⟨hgo, hy⟩ := W.goes i α2 H02 _ μ2 _ H2 hlt S2 p2.grw hst
      refine .inr ⟨hgo, fun H' => ∃ α3 H03 μ3 Sf n acc, SS g α3 H03 (wipeD ρ vs) μ3 (L2.wipe σ vs) H' ∧ Stp α1 H01 H1 α3 H03 H' ∧ H' D = some (SetO g.w D Sf n) ∧ H03 D = none ∧ D ∉ α3 ∧ SetIs Sf n acc ∧ sc2Go t tt wd1 t1 tt1 te (wipeD ρ vs) vs1 stay (fun acc μ' => R (.s acc) μ') (items.drop (i + 1)) acc μ3,
        fun H' ⟨α3, H03, μ3, Sf, n, acc, S3, p3, z⟩ => ⟨items.length - (i + 1), by omega, α3, H03, μ3, Sf, n, acc, rfl, hlt, S3, p3, z⟩, fun x H' y => ?_⟩
      obtain ⟨H0x, d, Sx, px, ed, hd⟩ := hy x H' y
      rw [List.getElem?_eq_getElem hlt] at ed
      cases ed
      refine tg_ok (vw := vs) Sx hd q2 hv fun σ' ρ' S3 hw q3 => ⟨by rw [hw]; exact wipe_wipe σ vs, ?_⟩
      have p3 := p2.trans px
      refine ⟨α2, H0x, ρ', μ2, _, S3, q3, fun α4 H04 μ4 H4 b S4 p4 q4 => ?_⟩
      have p24 := px.trans p4
      have S4w : SS g α4 H04 (wipeD ρ vs) μ4 (L2.wipe σ vs) H4 := S4.slots S2 p24
      obtain ⟨a1, a2, a3⟩ := p24.hold hDl hDz hDn
      cases b with
      | false =>
        rw [if_neg Bool.false_ne_true] at q4
        refine iteF ?_
        exact ⟨α4, H04, μ4, Sf, n, acc, S4w, p2.trans p24, a1, a2, a3, hA, q4⟩
      | true =>
        rw [if_pos rfl] at q4
        refine iteT ?_
        refine ⟨α4, H04, ρ', μ4, _, S4, q4, fun α5 H05 μ5 H5 J1 items1 stay1 S5 p5 W1 q5 => ?_⟩
        have p25 := p24.trans p5
        obtain ⟨b1, b2, b3⟩ := p25.hold hDl hDz hDn
        have S5w : SS g α5 H05 (wipeD ρ' vs1) μ5 (L2.wipe σ' vs1) H5 := S5.wipe vs1
        refine ⟨fun j m H6 => ∃ α6 H06 μ6 Sf n acc, m = items1.length - j ∧ j ≤ items1.length ∧ SS g α6 H06 (wipeD ρ' vs1) μ6 (L2.wipe σ' vs1) H6 ∧ Stp α1 H01 H1 α6 H06 H6 ∧ Grw α5 H05 α6 H06 ∧ H6 D = some (SetO g.w D Sf n) ∧ H06 D = none ∧ D ∉ α6 ∧ SetIs Sf n acc ∧
            scGo t1 tt1 te (wipeD ρ' vs1) stay1 (sc2Go t tt wd1 t1 tt1 te (wipeD ρ vs) vs1 stay (fun acc μ' => R (.s acc) μ') (items.drop (i + 1))) (items1.drop j) acc μ6,
          ⟨items1.length, α5, H05, μ5, Sf, n, acc, by simp, Nat.zero_le _, S5w, p2.trans p25, Grw.refl _ _, b1, b2, b3, hA, by simpa using q5⟩, ?_⟩
        rintro j m H6 ⟨α6, H06, μ6, Sf6, n6, acc6, rfl, hj, S6, p6, t6, c1, c2, c3, cA, q6⟩
        have S6w : SS g α6 H06 (wipeD ρ vs) μ6 (L2.wipe σ vs) H6 := S6.slotsG S2 (p25.grw.trans t6)
        by_cases hlt1 : j < items1.length
        · have hdr1 : items1.drop j = items1[j] :: items1.drop (j + 1) := (List.drop_eq_getElem_cons hlt1)
          rw [hdr1] at q6
          obtain ⟨hst1, q6⟩ := q6
          obtain ⟨hgo1, hy1⟩ := W1.goes j α6 H06 _ μ6 _ H6 hlt1 S6 t6 hst1
          refine .inr ⟨hgo1, fun H' => ∃ α7 H07 μ7 Sf n acc, SS g α7 H07 (wipeD ρ' vs1) μ7 (L2.wipe σ' vs1) H' ∧ Stp α1 H01 H1 α7 H07 H' ∧ Grw α5 H05 α7 H07 ∧ H' D = some (SetO g.w D Sf n) ∧ H07 D = none ∧ D ∉ α7 ∧ SetIs Sf n acc ∧
              scGo t1 tt1 te (wipeD ρ' vs1) stay1 (sc2Go t tt wd1 t1 tt1 te (wipeD ρ vs) vs1 stay (fun acc μ' => R (.s acc) μ') (items.drop (i + 1))) (items1.drop (j + 1)) acc μ7,
            fun H' ⟨α7, H07, μ7, Sf, n, acc, S7, p7, t7, z⟩ => ⟨items1.length - (j + 1), by omega, α7, H07, μ7, Sf, n, acc, rfl, hlt1, S7, p7, t7, z⟩, fun x1 H' y1 => ?_⟩
          obtain ⟨H0y, d1, Sy, py, ed1, hd1⟩ := hy1 x1 H' y1
          rw [List.getElem?_eq_getElem hlt1] at ed1
          cases ed1
          refine tg_ok (vw := vs1) Sy hd1 q6 hv1 fun σ7 ρ7 S7 hw7 q7 => ⟨by rw [hw7]; exact wipe_wipe σ' vs1, ?_⟩
          refine ⟨α6, H0y, ρ7, μ6, _, S7, q7, fun α8 H08 μ8 H8 b S8 p8 q8 => ?_⟩
          have p68 := py.trans p8
          cases b with
          | false =>
            rw [if_neg Bool.false_ne_true] at q8
            obtain ⟨e1, e2, e3⟩ := p68.hold c1 c2 c3
            refine iteF ?_
            exact ⟨α8, H08, μ8, Sf6, n6, acc6, S8.slots S6 p68, p6.trans p68, t6.trans p68.grw, e1, e2, e3, cA, q8⟩
          | true =>
            rw [if_pos rfl] at q8
            refine iteT ?_
            refine ⟨α8, H08, ρ7, μ8, _, S8, q8, fun α9 H09 μ9 H9 v dv S9 p9 rv ⟨d', e, hl, q9⟩ => ?_⟩
            subst e
            have p69 := p68.trans p9
            obtain ⟨e1, e2, e3⟩ := p69.hold c1 c2 c3
            cases (show Dp KZ H09 v (.int d') from rv)
            exact ⟨d', Sf6, n6, rfl, e1, setIs_room cA hl, α9, H09, μ9, _, _, acc6 ++ [d'], (S9.slots S6 p69).side e2 e3, (p6.trans p69).sideW hD, t6.trans p69.grw, upd_same, e2, e3, setIs_add cA d', q9⟩
        · have ej : j = items1.length := by omega
          subst ej
          rw [List.drop_length] at q6
          refine .inl ⟨W1.stops α6 H06 _ μ6 _ H6 S6 t6 q6.1, ?_⟩
          exact ⟨α6, H06, μ6, Sf6, n6, acc6, S6w, p6, c1, c2, c3, cA, q6.2⟩
    · have ei : i = items.length := by omega
      subst ei
      rw [List.drop_length] at q2
      refine .inl ⟨W.stops α2 H02 _ μ2 _ H2 S2 p2.grw q2.1, ?_⟩
      have S2' : SS g α2 H02 ρ μ2 σ H2 := S2.slots S1 p2
      exact k α2 _ μ2 H2 (.ref D) (.s acc) (S2'.freeze hDz hDn hDl) ((p1.trans p2).aside hDs hDz) ⟨D, Sf, n, rfl, upd_same, hA.1, hA.2⟩ q2.2⟩
end

section
variable {X : Cx} {g : Cf} {elt tg iter tg1 iter1 : Expr} {ifs ifs1 : List Expr} {scope : Scope} {own : List (Str × Nat)} {pos : Pos} {t t1 : Tg} {wd wd1 : TId} {tt tt1 : TTd} {te : TD} {vs1 : List Nat}
theorem jl_lc2 (hc : X.calm = true) (hN : X.N.Nodup) (hi : PI X tg iter (uTI g wd)) (ok : BlkOk X.N X.env.scope scope own) (hv : ∀ i ∈ vs1, i ∈ own.map (·.2)) (hv0 : ∀ i ∈ t.ix, i ∈ own.map (·.2)) (hv1 : ∀ i ∈ t1.ix, i ∈ vs1)
    (hg : ∀ (s : Shared) (H : Hp) (C : Addr) (cl : List (Str × Addr)) (fp : List Addr), PG (X.blk s H scope (compEnvC scope cl C X.env) fp) tg (tgG X.K t)) (ht : ∀ (s : Shared) (H : Hp) (C : Addr) (cl : List (Str × Addr)) (fp : List Addr), PTs (X.blk s H scope (compEnvC scope cl C X.env) fp) ifs (uTT g tt))
    (hi1 : ∀ (s : Shared) (H : Hp) (C : Addr) (cl : List (Str × Addr)) (fp : List Addr), PI (X.blk s H scope (compEnvC scope cl C X.env) fp) tg1 iter1 (uTI g wd1))
    (hg1 : ∀ (s : Shared) (H : Hp) (C : Addr) (cl : List (Str × Addr)) (fp : List Addr), PG (X.blk s H scope (compEnvC scope cl C X.env) fp) tg1 (tgG X.K t1)) (ht1 : ∀ (s : Shared) (H : Hp) (C : Addr) (cl : List (Str × Addr)) (fp : List Addr), PTs (X.blk s H scope (compEnvC scope cl C X.env) fp) ifs1 (uTT g tt1))
    (he : ∀ (s : Shared) (H : Hp) (C : Addr) (cl : List (Str × Addr)) (fp : List Addr), PE (X.blk s H scope (compEnvC scope cl C X.env) fp) elt (uTE g te)) (hs : ∀ x, foldedSetIterable iter X.env x = pure x := by intro _; rfl) (hs1 : ∀ env x, foldedSetIterable iter1 env x = pure x := by intro _ _; rfl) :
    PE X (.ListComp elt [⟨tg, iter, ifs, 0⟩, ⟨tg1, iter1, ifs1, 0⟩] scope pos) (uTL g (tdLc2 wd t tt wd1 t1 tt1 te (own.map (·.2)) vs1)) := (pe_lc2 hc hN hi ok hv hg ht hi1 hg1 ht1 he hs hs1).imp (tdLc2_imp hv0 hv1)
theorem jd_sc2 {C0 : Addr} (hc : X.calm = true) (hN : X.N.Nodup) (hi : PI X tg iter (uTI ⟨X.prog, X.w, C0⟩ wd)) (ok : BlkOk X.N X.env.scope scope own) (hv : ∀ i ∈ vs1, i ∈ own.map (·.2)) (hv0 : ∀ i ∈ t.ix, i ∈ own.map (·.2)) (hv1 : ∀ i ∈ t1.ix, i ∈ vs1)
    (hg : ∀ (s : Shared) (H : Hp) (C : Addr) (cl : List (Str × Addr)) (fp : List Addr), PG (X.blk s H scope (compEnvC scope cl C X.env) fp) tg (tgG X.K t)) (ht : ∀ (s : Shared) (H : Hp) (C : Addr) (cl : List (Str × Addr)) (fp : List Addr), PTs (X.blk s H scope (compEnvC scope cl C X.env) fp) ifs (uTT ⟨X.prog, X.w, C0⟩ tt))
    (hi1 : ∀ (s : Shared) (H : Hp) (C : Addr) (cl : List (Str × Addr)) (fp : List Addr), PI (X.blk s H scope (compEnvC scope cl C X.env) fp) tg1 iter1 (uTI ⟨X.prog, X.w, C0⟩ wd1))
    (hg1 : ∀ (s : Shared) (H : Hp) (C : Addr) (cl : List (Str × Addr)) (fp : List Addr), PG (X.blk s H scope (compEnvC scope cl C X.env) fp) tg1 (tgG X.K t1)) (ht1 : ∀ (s : Shared) (H : Hp) (C : Addr) (cl : List (Str × Addr)) (fp : List Addr), PTs (X.blk s H scope (compEnvC scope cl C X.env) fp) ifs1 (uTT ⟨X.prog, X.w, C0⟩ tt1))
    (he : ∀ (s : Shared) (H : Hp) (C : Addr) (cl : List (Str × Addr)) (fp : List Addr), PE (X.blk s H scope (compEnvC scope cl C X.env) fp) elt (uTE ⟨X.prog, X.w, C0⟩ te)) (hs : ∀ x, foldedSetIterable iter X.env x = pure x := by intro _; rfl) (hs1 : ∀ env x, foldedSetIterable iter1 env x = pure x := by intro _ _; rfl) :
    PE X (.SetComp elt [⟨tg, iter, ifs, 0⟩, ⟨tg1, iter1, ifs1, 0⟩] scope pos) (uTE ⟨X.prog, X.w, C0⟩ (tdSc2 wd t tt wd1 t1 tt1 te (own.map (·.2)) vs1)) := (JC.pe_sc2 hc hN hi ok hv hg ht hi1 hg1 ht1 he hs hs1).imp (tdSc2_imp hv0 hv1)
end
end JR
set_option maxHeartbeats 4000000
/-! JD14: a set with one number, joined with a set of few numbers; the display of one number. -/
namespace JC
open PySem PySem.Spec PyProof.Rows L2

/-! ### a table for one hash -/
theorem liv_one : ∀ m, m = 7 ∨ m = 15 ∨ m = 31 → ∀ i, i < m + 1 → (List.range (m + 1)).filterMap (fun j => (((Array.replicate (m + 1) (none : Option Nat)).setIfInBounds i (some 0)).getD j none).map fun k => (j, k)) = [(i, 0)] := by
  intro m hm
  rcases hm with e | e | e <;> subst e <;> decide +kernel
theorem fre_one (m : Nat) (h : Int) : SetTable.layClean.free m (Array.replicate (m + 1) none) (SetTable.turns m) (SetTable.bits h % (m + 1)) (SetTable.bits h) = some (SetTable.bits h % (m + 1)) := by
  have hi : SetTable.bits h % (m + 1) < m + 1 := Nat.mod_lt _ (Nat.succ_pos m)
  generalize SetTable.bits h % (m + 1) = i at hi
  unfold SetTable.turns
  have e : m + 15 = (m + 14) + 1 := rfl
  rw [e]
  unfold SetTable.layClean.free
  have hr : SetTable.runEnd m i + 1 - i = (SetTable.runEnd m i - i) + 1 := by
    unfold SetTable.runEnd
    split <;> omega
  have h0 : ((Array.replicate (m + 1) (none : Option Nat)).getD (i + 0) (some 0)).isNone = true := by
    rw [Array.getD_eq_getD_getElem?, Array.getElem?_replicate, if_pos (show i + 0 < m + 1 from hi)]
    rfl
  rw [hr, List.range_succ_eq_map, List.find?_cons_of_pos (p := fun k => ((Array.replicate (m + 1) (none : Option Nat)).getD (i + k) (some 0)).isNone) h0]
  rfl
theorem laid_one {m : Nat} (hm : m = 7 ∨ m = 15 ∨ m = 31) (h : Int) (f mv : Nat) (led plain : Bool) : ∃ j, SetTable.laid m f mv led plain #[h] = some ({ mask := m, place := #[j], dummies := #[], finger := f, led := led, moves := mv, plain := plain }, #[0]) := by
  refine ⟨SetTable.bits h % (m + 1), ?_⟩
  have hi : SetTable.bits h % (m + 1) < m + 1 := Nat.mod_lt _ (Nat.succ_pos m)
  have c : SetTable.layClean m #[h] = some ((Array.replicate (m + 1) none).setIfInBounds (SetTable.bits h % (m + 1)) (some 0)) := by
    rw [layClean_eq]
    show (stepF m (some (Array.replicate (m + 1) none, 0)) h).map (·.1) = _
    rw [stepF_some (fre_one m h)]
    rfl
  unfold SetTable.laid
  rw [c]
  show some _ = some _
  have L := liv_one m hm _ hi
  simp only [L]
  rfl

/-! ### merging -/
def relB (es : Array (Int × Value)) (laid : Option (SetTable × Array Nat)) : Sem (Array (Int × Value) × SetTable) := do
  let some (t, order) := laid | unsupported "internal:set-table-without-room"
  let es' := order.filterMap (es[·]?)
  if es'.size != es.size then unsupported "internal:set-table-lost-an-element"
  pure (es', t)
theorem mrg_eq (s o : Addr) (each : Sem Unit) : setMerge s o each = (do
    if s == o then return
    let (eo, epoch, to) ← setState o
    if eo.isEmpty then return
    setRoomFor s eo.size
    let (_, _, ts) ← setState s
    match ts.road to with
    | .slotForSlot => storeSet s eo { to with finger := ts.finger, led := ts.led && to.led, moves := ts.moves, plain := ts.plain && to.plain }
    | .clean =>
      let (es, t) ← relB eo (SetTable.laid ts.mask ts.finger ts.moves (led := ts.led && to.led) (plain := ts.plain && to.plain) (eo.map (·.1)))
      storeSet s es t
    | .oneByOne =>
      for (h, x) in ← setWalkUnseen o [s] (some s) do
        let _ ← holding [x] (setAddHashed s x h)
        each
        if (← setState o).2.1 != epoch then unsupported "set.changed-during-merge") := by rfl
/-- a set of one number whose table has the least size -/
structure One (w : World) (h : Heap) (a : Addr) (e : Int × Value) (ep : Nat) (t : SetTable) : Prop where
  ob : ∃ o, h.get? a = some o ∧ o.ExactSet ∧ o.data = .set #[e] ep t
  gd : GoodE e
  pl : t.place.size = 1
  dm : t.dummies = #[]
  led : w.params.followText "set-order" = true ∨ t.led = true
theorem ris1 {t : SetTable} (h : t.place.size = 1) : Ris t.place.toList := by
  have : t.place.toList.length = 1 := by simpa using h
  obtain ⟨x, e⟩ := List.length_eq_one_iff.mp this
  rw [e]
  unfold Ris
  simp
theorem One.fits {w : World} {h : Heap} {a : Addr} {e : Int × Value} {ep : Nat} {t : SetTable} (O : One w h a e ep t) (hm : 1 ≤ t.mask) : t.fits 1 = true := by
  unfold SetTable.fits SetTable.fill
  rw [O.dm, Bool.and_eq_true, beq_iff_eq, decide_eq_true_eq]
  exact ⟨O.pl, by rw [O.pl]; simpa using hm⟩
theorem One.setR {w : World} {h : Heap} {a : Addr} {e : Int × Value} {ep : Nat} {t : SetTable} (O : One w h a e ep t) (hm : 1 ≤ t.mask) {S : Int → Bool} (hS : ∀ k, S k = true ↔ k = keyOf e) : SetR w h a S 1 := by
  obtain ⟨o, ho, hx, hd⟩ := O.ob
  refine ⟨o, #[e], ep, t, ho, hx, hd, fun x hx => ?_, ?_, fun k => ?_, ?_, O.fits hm, rfl, ris1 O.pl, O.led⟩
  · have : x = e := by simpa using hx
    rw [this]; exact O.gd
  · simp
  · rw [hS k]; simp
  · show 1 < scanBound; decide
section
variable {P : Program} {w : World} {A : Around} {E : Value → Shared → Prop} {s : Shared}
/-- into a set just made: the one number of o -/
theorem mrg_first {r o : Addr} {led0 : Bool} {S : Int → Bool} {Q : Unit → Shared → Prop} (hne : r ≠ o) (hr : s.heap.get? r = some { cls := .type "set", dict := none, data := .set #[] 0 (.fresh 0 0 led0) }) (hl0 : w.params.followText "set-order" = true ∨ led0 = true)
    (ho : SetR w s.heap o S 1) (hQ : ∀ h' e ep t, Heap.SameBut r s.heap h' → One w h' r e ep t → t.mask = 7 → S (keyOf e) = true → (∀ k, S k = true ↔ k = keyOf e) → Q () { s with heap := h' }) :
    wpAny (model P w) A (setMerge r o) Q E s := by
  obtain ⟨ob, es, ep, t, hob, hex, hd, g, nd, hm, hb, hf, hn, hrs, hled⟩ := ho
  obtain ⟨e, he⟩ : ∃ e, es = #[e] := by
    have : es.toList.length = 1 := by simpa using hn
    obtain ⟨x, ex⟩ := List.length_eq_one_iff.mp this
    exact ⟨x, by rw [← Array.toArray_toList (xs := es), ex]⟩
  subst he
  have hge : GoodE e := g e (by simp)
  have hSe : ∀ k, S k = true ↔ k = keyOf e := fun k => by rw [hm k]; simp
  have hpl : t.place.size = 1 := by
    simp only [SetTable.fits, Bool.and_eq_true, beq_iff_eq, decide_eq_true_eq] at hf
    exact hf.1
  have hrd : ({ cls := .type "set", dict := none, data := .set #[] 0 (.fresh 0 0 led0) } : Obj).data = .set #[] 0 (.fresh 0 0 led0) := rfl
  rw [mrg_eq, if_neg (by simpa using hne)]
  refine wpAny_bind (wpAny_setState_of hob hd hf ?_)
  dsimp only
  rw [if_neg (by simp)]
  refine wpAny_bind (m := setRoomFor r _) ?_
  unfold setRoomFor
  refine wpAny_bind (wpAny_setState_of hr hrd rfl ?_)
  show wpAny _ _ (pure ()) _ _ _
  refine wpAny_pure ?_
  refine wpAny_bind (wpAny_setState_of hr hrd rfl ?_)
  dsimp only
  have sb : ∀ es' t', Heap.SameBut r s.heap (s.heap.update r (Obj.putSet es' t')) := fun es' t' => Heap.SameBut.update ..
  have fin : ∀ t' : SetTable, t'.place.size = 1 → t'.dummies = #[] → (w.params.followText "set-order" = true ∨ t'.led = true) → t'.mask = 7 → wpAny (model P w) A (storeSet r #[e] t') Q E s := fun t' h1 h2 h3 h4 =>
    wpAny_storeSet_of hr hrd (hQ _ e 1 t' (sb _ _) ⟨⟨_, store_at hr hrd, ⟨rfl, rfl, rfl⟩, rfl⟩, hge, h1, h2, h3⟩ h4 ((hSe _).mpr rfl) hSe)
  have hlb : w.params.followText "set-order" = true ∨ (led0 && t.led) = true := by
    rcases hl0 with z | z
    · exact .inl z
    · rcases hled with y | y
      · exact .inl y
      · exact .inr (by rw [z, y]; rfl)
  cases hroad : (SetTable.fresh 0 0 led0).road t with
  | slotForSlot =>
    dsimp only
    have hr2 : t.mask = 7 ∧ t.dummies = #[] := by
      unfold SetTable.road at hroad
      rw [if_neg (by simp [SetTable.fresh, SetTable.fill])] at hroad
      split at hroad
      · rename_i hc
        rw [Bool.and_eq_true, beq_iff_eq] at hc
        exact ⟨hc.1.symm, Array.isEmpty_iff.mp hc.2⟩
      · cases hroad
    exact fin _ hpl hr2.2 hlb hr2.1
  | clean =>
    dsimp only
    obtain ⟨j, hj⟩ := laid_one (m := 7) (.inl rfl) e.1 (SetTable.fresh 0 0 led0).finger (SetTable.fresh 0 0 led0).moves ((SetTable.fresh 0 0 led0).led && t.led) ((SetTable.fresh 0 0 led0).plain && t.plain)
    have hmap : (#[e] : Array (Int × Value)).map (·.1) = #[e.1] := by simp
    rw [hmap, show (SetTable.fresh 0 0 led0).mask = 7 from rfl, hj]
    have hfm : (#[0] : Array Nat).filterMap ((#[e] : Array (Int × Value))[·]?) = #[e] := by simp
    unfold relB
    dsimp only
    rw [hfm, if_neg (by simp)]
    refine wpAny_bind (wpAny_bind (wpAny_pure (wpAny_pure ?_)))
    exact fin _ rfl rfl hlb rfl
  | oneByOne =>
    exfalso
    unfold SetTable.road at hroad
    rw [if_neg (by simp [SetTable.fresh, SetTable.fill])] at hroad
    split at hroad <;> cases hroad

theorem room_size : ∀ m, m ≤ 13 → 4 ≤ m → SetTable.sizeAbove ((1 + m) * 2) = 16 ∨ SetTable.sizeAbove ((1 + m) * 2) = 32 := by decide +kernel
/-- room for more: still the one number -/
theorem room_one {r : Addr} {e : Int × Value} {ep : Nat} {t : SetTable} {m : Nat} {Q : Unit → Shared → Prop} (O : One w s.heap r e ep t) (h7 : t.mask = 7) (hm : m ≤ 13)
    (hQ : ∀ h' ep' t', Heap.SameBut r s.heap h' → One w h' r e ep' t' → 7 ≤ t'.mask → Q () { s with heap := h' }) : wpAny (model P w) A (setRoomFor r m) Q E s := by
  obtain ⟨o, ho, hex, hd⟩ := O.ob
  have hf : t.fits (#[e] : Array (Int × Value)).size = true := O.fits (by omega)
  unfold setRoomFor
  refine wpAny_bind (wpAny_setState_of ho hd hf ?_)
  dsimp only
  have hfill : t.fill = 1 := by unfold SetTable.fill; rw [O.pl, O.dm]; rfl
  unfold SetTable.roomFor
  rw [hfill, O.pl, h7]
  by_cases h4 : 4 ≤ m
  · rw [if_pos (by omega)]
    dsimp only
    rw [setRelay_eq]
    refine wpAny_bind (wpAny_setState_of ho hd hf ?_)
    dsimp only
    have hsz := room_size m hm h4
    rw [if_neg (by rw [sizeLine_eq]; rcases hsz with z | z <;> omega)]
    have hmap : (#[e] : Array (Int × Value)).map (·.1) = #[e.1] := by simp
    have hfm : (#[0] : Array Nat).filterMap ((#[e] : Array (Int × Value))[·]?) = #[e] := by simp
    have hmm : SetTable.sizeAbove ((1 + m) * 2) - 1 = 7 ∨ SetTable.sizeAbove ((1 + m) * 2) - 1 = 15 ∨ SetTable.sizeAbove ((1 + m) * 2) - 1 = 31 := by omega
    obtain ⟨j, hj⟩ := laid_one hmm e.1 t.finger (t.movedTo (SetTable.sizeAbove ((1 + m) * 2) - 1)) t.led t.plain
    unfold SetTable.relaid
    rw [hmap, hj]
    try refine wpAny_bind (wpAny_pure ?_)
    dsimp only
    rw [hfm]
    try dsimp only
    exact wpAny_storeSet_of ho hd (hQ _ (ep + 1) _ (Heap.SameBut.update ..) ⟨⟨_, store_at ho hd, ⟨hex.1, hex.2.1, hex.2.2⟩, rfl⟩, O.gd, rfl, rfl, O.led⟩ (show 7 ≤ SetTable.sizeAbove ((1 + m) * 2) - 1 by omega))
  · rw [if_neg (by omega)]
    exact wpAny_pure (hQ s.heap ep t (Heap.SameBut.refl r s.heap) O (by omega))
/-- each number in its turn -/
theorem mrg_loop {r o : Addr} {oo : Obj} {es : Array (Int × Value)} {epo : Nat} {to : SetTable} (hne : o ≠ r) (hd : oo.data = .set es epo to) (hf : to.fits es.size = true) {id : String} {f : Int × Value → PUnit → Sem (ForInStep PUnit)}
    (hfx : ∀ x, f x PUnit.unit = (do
      let _ ← holding [x.2] (setAddHashed r x.2 x.1)
      Builtin.Frozenset.unchanged id o epo
      if (← setState o).2.1 != epo then unsupported "set.changed-during-merge"
      pure (ForInStep.yield PUnit.unit))) :
    ∀ (l : List (Int × Value)) (s : Shared) (S : Int → Bool) (n : Nat) (Q : PUnit → Shared → Prop), s.heap.get? o = some oo → SetR w s.heap r S n → (∀ x ∈ l, GoodE x) → n + l.length < scanBound →
      (∀ h' U k, Heap.SameBut r s.heap h' → SetR w h' r U k → (∀ i, U i = true ↔ (S i = true ∨ ∃ x ∈ l, i = keyOf x)) → k ≤ n + l.length → Q PUnit.unit { s with heap := h' }) →
      wpAny (model P w) A (forIn l PUnit.unit f) Q E s
  | [], s, S, n, Q, ho, R, _, _, hQ => by
    rw [List.forIn_nil]
    exact wpAny_pure (hQ s.heap S n (Heap.SameBut.refl r s.heap) R (fun i => by simp) (by simp))
  | x :: l, s, S, n, Q, ho, R, g, hb, hQ => by
    obtain ⟨h, v⟩ := x
    obtain ⟨k, tk, e1, e2⟩ := g (h, v) (List.mem_cons_self ..)
    have e1 : v = Value.int k tk := e1
    have e2 : h = hashInt k := e2
    subst e1 e2
    have hlen : n + (l.length + 1) < scanBound := by simpa using hb
    rw [List.forIn_cons, hfx]
    refine wpAny_bind ?_
    dsimp only
    refine wpAny_bind (wpAny_holding ?_)
    refine setR_add_hashed (P := P) (k := k) (tk := tk) R (by omega) fun h' sb R' => ?_
    have ho' : h'.get? o = some oo := (sb.2 o hne).trans ho
    refine wpAny_bind ?_
    unfold Builtin.Frozenset.unchanged
    refine wpAny_bind (wpAny_setEpoch_of (s := { s with heap := h' }) ho' hd hf ?_)
    rw [if_neg (by simp)]
    refine wpAny_pure ?_
    refine wpAny_bind (wpAny_setState_of (s := { s with heap := h' }) ho' hd hf ?_)
    dsimp only
    rw [if_neg (by simp)]
    try refine wpAny_bind (wpAny_pure ?_)
    refine wpAny_pure ?_
    dsimp only
    refine mrg_loop hne hd hf hfx l { s with heap := h' } _ _ Q ho' R' (fun y hy => g y (List.mem_cons_of_mem _ hy)) ?_ fun h'' U c sb' RU hU hc => ?_
    · split <;> omega
    · refine hQ h'' U c (sb.trans sb') RU (fun i => ?_) ?_
      · rw [hU i]
        show (S i || decide (i = k)) = true ∨ _ ↔ _
        have hk : keyOf (hashInt k, Value.int k tk) = k := rfl
        rw [Bool.or_eq_true, decide_eq_true_iff]
        constructor
        · rintro ((z | z) | ⟨y, hy, z⟩)
          · exact .inl z
          · exact .inr ⟨_, List.mem_cons_self .., by rw [hk]; exact z⟩
          · exact .inr ⟨y, List.mem_cons_of_mem _ hy, z⟩
        · rintro (z | ⟨y, hy, z⟩)
          · exact .inl (.inl z)
          · rcases List.mem_cons.mp hy with e | hy
            · rw [e, hk] at z
              exact .inl (.inr z)
            · exact .inr ⟨y, hy, z⟩
      · have hc2 : c ≤ (if S k = true then n else n + 1) + l.length := hc
        rw [List.length_cons]
        split at hc2 <;> omega

theorem wlk_eq (a : Addr) : setWalk a = (do
    let (es, epoch, t) ← setState a
    if ← setsByText then return pickOrder ((← ask).params.setOrder a epoch) es
    if !t.plain && es.size > 1 then return (← drawOrder es.size es.toList).toArray
    (do if !t.led && es.size > 1 then unsupported "set:maker-not-led" : Sem Unit)
    return es) := by rfl
/-- the walk of a set nobody may watch: its entries in some order -/
theorem wlk_ok {o : Addr} {oo : Obj} {es : Array (Int × Value)} {epo : Nat} {to : SetTable} {Q : Array (Int × Value) → Shared → Prop} (ho : s.heap.get? o = some oo) (hd : oo.data = .set es epo to) (hf : to.fits es.size = true)
    (hc : w.params.followText "set-order" = true ∨ (to.led && to.plain) = true ∨ es.size ≤ 1) (hQ : ∀ xs : Array (Int × Value), xs.toList.Perm es.toList → Q xs s) : wpAny (model P w) A (setWalk o) Q E s := by
  rw [wlk_eq]
  refine wpAny_bind (wpAny_setState_of ho hd hf ?_)
  dsimp only
  refine wpAny_bind (wpAny_byText ?_)
  by_cases hb : w.params.followText "set-order" = true
  · refine wp_if_pos hb ?_
    exact wpAny_bind (wpAny_askSetting (wpAny_pure (hQ _ (pick_perm _ _))))
  · refine wp_if_neg hb ?_
    try refine wpAny_bind (wpAny_pure ?_)
    have h1 : (!to.plain && decide (es.size > 1)) = false := by
      rcases hc with z | z | z
      · exact absurd z hb
      · rw [Bool.and_eq_true] at z
        rw [z.2]; rfl
      · rw [decide_eq_false (by omega), Bool.and_false]
    have h2 : (!to.led && decide (es.size > 1)) = false := by
      rcases hc with z | z | z
      · exact absurd z hb
      · rw [Bool.and_eq_true] at z
        rw [z.1]; rfl
      · rw [decide_eq_false (by omega), Bool.and_false]
    refine wp_if_neg (by rw [h1]; exact Bool.false_ne_true) ?_
    try refine wpAny_bind (wpAny_pure ?_)
    have h3 : ¬ (!to.led && decide (es.size > 1)) = true := by rw [h2]; exact Bool.false_ne_true
    refine wpAny_bind ?_
    rw [if_neg h3]
    exact wpAny_pure (wpAny_pure (hQ es (List.Perm.refl _)))
theorem quiet_loop {f : Int × Value → (Option Bool × Unit) → Sem (ForInStep (Option Bool × Unit))} (hfx : ∀ x : Int × Value, GoodE x → f x (none, ()) = pure (ForInStep.yield (none, ()))) :
    ∀ (l : List (Int × Value)) (Q : Option Bool × Unit → Shared → Prop), (∀ x ∈ l, GoodE x) → Q (none, ()) s → wpAny (model P w) A (forIn l (none, ()) f) Q E s
  | [], Q, _, h => by rw [List.forIn_nil]; exact wpAny_pure h
  | x :: l, Q, g, h => by
    rw [List.forIn_cons, hfx x (g x (List.mem_cons_self ..))]
    exact wpAny_bind (wpAny_pure (quiet_loop hfx l Q (fun y hy => g y (List.mem_cons_of_mem _ hy)) h))
theorem quiet_ok {o r : Addr} {oo orr : Obj} {es er : Array (Int × Value)} {epo epr : Nat} {to tr : SetTable} {Q : Bool → Shared → Prop} (ho : s.heap.get? o = some oo) (hd : oo.data = .set es epo to) (hf : to.fits es.size = true) (g : ∀ x ∈ es.toList, GoodE x)
    (hr : s.heap.get? r = some orr) (hdr : orr.data = .set er epr tr) (hfr : tr.fits er.size = true) (gr : ∀ x ∈ er.toList, GoodE x) (hQ : Q true s) : wpAny (model P w) A (setsQuiet [o, r]) Q E s := by
  unfold setsQuiet
  rw [List.forIn_cons]
  refine wpAny_bind (wpAny_bind (wpAny_bind (wpAny_setEntries_of ho hd hf ?_)))
  rw [← Array.forIn_toList]
  have hpt : ∀ x : Int × Value, GoodE x → ∀ (A' : Value → Addr → Value → Sem (ForInStep (Option Bool × Unit))), (match x.2 with | Value.ref a => A' x.2 a x.2 | _ => pure (ForInStep.yield (none, ()))) = (pure (ForInStep.yield (none, ())) : Sem (ForInStep (Option Bool × Unit))) := fun x hx A' => by
    obtain ⟨k, tk, e, _⟩ := hx
    rw [e]
  refine wpAny_bind (quiet_loop (fun x hx => ?_) es.toList _ g ?_)
  · obtain ⟨k, tk, e, _⟩ := hx
    obtain ⟨h, v⟩ := x
    have e : v = Value.int k tk := e
    subst e
    rfl
  · dsimp only
    refine wpAny_pure ?_
    dsimp only
    rw [List.forIn_cons]
    refine wpAny_bind (wpAny_bind (wpAny_setEntries_of hr hdr hfr ?_))
    rw [← Array.forIn_toList]
    refine wpAny_bind (quiet_loop (fun x hx => ?_) er.toList _ gr ?_)
    · obtain ⟨k, tk, e, _⟩ := hx
      obtain ⟨h, v⟩ := x
      have e : v = Value.int k tk := e
      subst e
      rfl
    · dsimp only
      refine wpAny_pure ?_
      dsimp only
      rw [List.forIn_nil]
      refine wpAny_pure ?_
      dsimp only
      exact wpAny_pure hQ
theorem unseen_ok {o r : Addr} {oo : Obj} {es : Array (Int × Value)} {epo ep : Nat} {to t : SetTable} {e : Int × Value} {Q : Array (Int × Value) → Shared → Prop} (hne : r ≠ o) (ho : s.heap.get? o = some oo) (hd : oo.data = .set es epo to) (hf : to.fits es.size = true) (g : ∀ x ∈ es.toList, GoodE x)
    (hl : w.params.followText "set-order" = true ∨ to.led = true) (O : One w s.heap r e ep t) (h7 : 7 ≤ t.mask) (hQ : ∀ xs h' ep' t', xs.toList.Perm es.toList → Heap.SameBut r s.heap h' → One w h' r e ep' t' → 7 ≤ t'.mask → Q xs { s with heap := h' }) :
    wpAny (model P w) A (setWalkUnseen o [r] (some r)) Q E s := by
  unfold setWalkUnseen
  refine wpAny_bind (wpAny_setState_of ho hd hf ?_)
  dsimp only
  refine wpAny_bind (wpAny_byText ?_)
  by_cases hc : w.params.followText "set-order" = true ∨ (to.led && to.plain) = true ∨ es.size ≤ 1
  · refine wp_if_pos ?_ ?_
    · rcases hc with z | z | z
      · simp [z]
      · rw [z]; simp
      · simp [z]
    · exact wlk_ok ho hd hf hc fun xs hp => hQ xs s.heap ep t hp (Heap.SameBut.refl r s.heap) O h7
  · have n1 : w.params.followText "set-order" = false := by
      cases z : w.params.followText "set-order" with
      | false => rfl
      | true => exact absurd (.inl z) hc
    have n2 : (to.led && to.plain) = false := by
      cases z : (to.led && to.plain) with
      | false => rfl
      | true => exact absurd (.inr (.inl z)) hc
    have n3 : ¬ es.size ≤ 1 := fun z => hc (.inr (.inr z))
    refine wp_if_neg ?_ ?_
    · simp [n1, n2, n3]
    · obtain ⟨o2, hr, hex, hdr⟩ := O.ob
      have hfr : t.fits (#[e] : Array (Int × Value)).size = true := O.fits (by omega)
      have hled : t.led = true := by
        rcases O.led with z | z
        · rw [n1] at z; cases z
        · exact z
      have hled2 : to.led = true := by
        rcases hl with z | z
        · rw [n1] at z; cases z
        · exact z
      try refine wpAny_bind (wpAny_pure ?_)
      refine wpAny_bind (quiet_ok ho hd hf g hr hdr hfr (fun x hx => by
        have : x = e := by simpa using hx
        rw [this]; exact O.gd) ?_)
      refine wp_if_neg (by simp) ?_
      try refine wpAny_bind (wpAny_pure ?_)
      refine wpAny_bind (wpAny_rule ?_)
      refine wpAny_bind (wpAny_setState_of hr hdr hfr ?_)
      dsimp only
      by_cases hcc : ((t.led && !to.led) || (t.plain && !to.plain)) = true
      · refine wp_if_pos hcc ?_
        refine wpAny_bind (wpAny_storeSet_of hr hdr ?_ (by show 1 ≤ sizeLine; rw [sizeLine_eq]; decide))
        refine wpAny_pure (hQ es _ (ep + 1) _ (List.Perm.refl _) (Heap.SameBut.update ..) ⟨⟨_, store_at hr hdr, ⟨hex.1, hex.2.1, hex.2.2⟩, rfl⟩, O.gd, O.pl, O.dm, .inr ?_⟩ h7)
        show (t.led && to.led) = true
        rw [hled, hled2]; rfl
      · refine wp_if_neg hcc ?_
        try refine wpAny_bind (wpAny_pure ?_)
        exact wpAny_pure (hQ es s.heap ep t (List.Perm.refl _) (Heap.SameBut.refl r s.heap) O h7)
/-- the numbers of o come to the one of r -/
theorem mrg_more {o r : Addr} {T : Int → Bool} {m : Nat} {e : Int × Value} {ep : Nat} {t : SetTable} {id : String} {Q : Unit → Shared → Prop} (hne : r ≠ o) (ho : SetR w s.heap o T m) (hm : m ≤ 13) (O : One w s.heap r e ep t) (h7 : t.mask = 7)
    (hQ : ∀ h' U k, Heap.SameBut r s.heap h' → SetR w h' r U k → (∀ i, U i = true ↔ (i = keyOf e ∨ T i = true)) → k ≤ 1 + m → Q () { s with heap := h' }) : wpAny (model P w) A (Builtin.Frozenset.merge id r o) Q E s := by
  obtain ⟨oo, es, epo, to, hob, hex, hd, g, nd, hmem, hb, hf, hn, hrs, hled⟩ := ho
  unfold Builtin.Frozenset.merge
  refine wpAny_bind (wpAny_setEpoch_of hob hd hf ?_)
  rw [mrg_eq, if_neg (by simpa using hne)]
  refine wpAny_bind (wpAny_setState_of hob hd hf ?_)
  dsimp only
  by_cases hemp : es.isEmpty = true
  · rw [if_pos hemp]
    have e0 : es = #[] := Array.isEmpty_iff.mp hemp
    refine wpAny_pure (hQ s.heap (fun i => decide (i = keyOf e)) 1 (Heap.SameBut.refl r s.heap) (O.setR (by omega) fun k => decide_eq_true_iff) (fun i => ?_) (by omega))
    rw [decide_eq_true_iff, hmem i, e0]
    simp
  · rw [if_neg hemp]
    refine wpAny_bind (room_one O h7 (by omega) fun h1 ep1 t1 sb1 O1 m1 => ?_)
    obtain ⟨o1, ho1, hx1, hd1⟩ := O1.ob
    have hf1 : t1.fits (#[e] : Array (Int × Value)).size = true := O1.fits (by omega)
    have hob1 : h1.get? o = some oo := (sb1.2 o (Ne.symm hne)).trans hob
    refine wpAny_bind (wpAny_setState_of (s := { s with heap := h1 }) ho1 hd1 hf1 ?_)
    dsimp only
    have hroad : t1.road to = .oneByOne := by
      unfold SetTable.road SetTable.fill
      rw [O1.pl, O1.dm]
      rfl
    rw [hroad]
    dsimp only
    refine wpAny_bind (unseen_ok (s := { s with heap := h1 }) hne hob1 hd hf g hled O1 m1 fun xs h2 ep2 t2 hp sb2 O2 m2 => ?_)
    rw [← Array.forIn_toList]
    have hob2 : h2.get? o = some oo := (sb2.2 o (Ne.symm hne)).trans hob1
    have hsz : xs.toList.length = m := by rw [hp.length_eq]; simpa using hn
    refine wpAny_bind (mrg_loop (P := P) (id := id) (Ne.symm hne) hd hf (fun x => ?_) xs.toList { s with heap := h2 } (fun i => decide (i = keyOf e)) 1 _ hob2 (O2.setR (by omega) fun k => decide_eq_true_iff) (fun x hx => g x (hp.mem_iff.mp hx)) (by rw [hsz]; unfold scanBound; omega) fun h3 U k sb3 RU hU hk => ?_)
    · rfl
    · refine wpAny_pure (hQ h3 U k ((sb1.trans sb2).trans sb3) RU (fun i => ?_) (by rw [hsz] at hk; exact hk))
      rw [hU i, decide_eq_true_iff, hmem i, List.mem_map]
      constructor
      · rintro (z | ⟨x, hx, z⟩)
        · exact .inl z
        · exact .inr ⟨x, hp.mem_iff.mp hx, z.symm⟩
      · rintro (z | ⟨x, hx, z⟩)
        · exact .inl z
        · exact .inr ⟨x, hp.mem_iff.mpr hx, z.symm⟩
end
end JC
set_option maxHeartbeats 400000
/-! JD15: set | set, {x}, set(..), sorted(set), sets of texts, over data. -/
namespace JC
open PySem PySem.Spec PyProof.Rows L2
def uniB (id : String) (l : Addr) (r : Value) : Sem Value := do
  let result ← Builtin.Frozenset.copyOf l
  if r != .ref l then holding [result] (Builtin.Frozenset.updateFrom id (← Builtin.Frozenset.addrOf result) r)
  return result
def orBody (name : String) : Builtin := fun args => do
    let (self, other) ← Builtin.Frozenset.slot1 name args
    let (l, r) := if false then (other, self) else (self, other)
    if !(← Builtin.Frozenset.isAnySet l <&&> Builtin.Frozenset.isAnySet r) then rule s!"frozenset.{name}.declined"; return ← ret .notImplemented
    ret (← uniB s!"frozenset.{name}" (← Builtin.Frozenset.addrOf l) r)
theorem or_eq : Builtin.«frozenset.__or__» = orBody "__or__" := by rfl
theorem ent_or : entryFor table "set.__or__" = some Builtin.«frozenset.__or__» :=
  entryFor_alias (id' := "frozenset.__or__") (by kernel_rfl) rfl (by decide +kernel) (by kernel_rfl)
section
variable {P : Program} {w : World} {A : Around} {E : Value → Shared → Prop} {s : Shared}
theorem sub_set_set : isSubtype (.type "set") (.type "set") = pure true := by rw [isSubtype_type]; kernel_rfl
theorem anySet_ok {v : Value} {Q : Bool → Shared → Prop} (hT : s.TypeIs v "set") (h : Q true s) : wpAny (model P w) A (Builtin.Frozenset.isAnySet v) Q E s := by
  unfold Builtin.Frozenset.isAnySet orM
  refine wpAny_bind (wpAny_isInstance hT sub_set_set ?_)
  exact wpAny_pure h
theorem base_ok {a : Addr} {Q : Value → Shared → Prop} (hT : s.TypeIs (.ref a) "set") (h : Q (.type "set") s) : wpAny (model P w) A (Builtin.Frozenset.baseOf a) Q E s := by
  unfold Builtin.Frozenset.baseOf
  refine wpAny_bind (wpAny_isInstance hT sub_set_set ?_)
  exact wpAny_pure h
theorem uni_ok {a b : Addr} {S T : Int → Bool} {m : Nat} {id : String} {Q : Value → Shared → Prop} (hab : a ≠ b) (ha : SetR w s.heap a S 1) (hb : SetR w s.heap b T m) (hm : m ≤ 13)
    (hQ : ∀ h' U k i0, s.heap.objs.size ≤ h'.objs.size → (∀ c o, s.heap.get? c = some o → h'.get? c = some o) → SetR w h' s.heap.objs.size U k → (∀ i, S i = true ↔ i = i0) → (∀ i, U i = true ↔ (i = i0 ∨ T i = true)) → k ≤ 1 + m → Q (.ref s.heap.objs.size) { s with heap := h' }) :
    wpAny (model P w) A (uniB id a (.ref b)) Q E s := by
  unfold uniB
  refine wpAny_bind (m := Builtin.Frozenset.copyOf a) ?_
  unfold Builtin.Frozenset.copyOf
  have tA : s.TypeIs (.ref a) "set" := (SetR.setOf (P := P) ha).typeIs
  refine wpAny_bind (base_ok tA ?_)
  refine wpAny_bind (PpSet.newSet_ok ?_)
  refine wpAny_bind (wpAny_pure ?_)
  have la := ha.lt
  have lb := hb.lt
  have keep0 : ∀ c o, s.heap.get? c = some o → (s.heap.push { cls := .type "set", dict := none, data := .set #[] 0 (.fresh 0 0 (!w.params.followText "set-order")) }).get? c = some o := fun c o e => Heap.get?_push_of_some _ e
  refine wpAny_bind (mrg_first (s := { s with heap := s.heap.push _ }) (Ne.symm (Nat.ne_of_lt la)) (Heap.get?_push_size _ rfl) ?_ (ha.at fun o e => keep0 a o e) fun h1 e ep t sb1 O h7 hSe hSk => ?_)
  · cases w.params.followText "set-order" <;> simp
  refine wpAny_pure ?_
  dsimp only
  rw [if_pos (by simp; exact fun e => hab e.symm)]
  refine wpAny_bind (wpAny_pure ?_)
  have keep1 : ∀ c o, s.heap.get? c = some o → h1.get? c = some o := fun c o e => (sb1.2 c (Nat.ne_of_lt (Heap.lt_size e))).trans (keep0 c o e)
  have hb1 : SetR w h1 b T m := hb.at fun o e => keep1 b o e
  refine wpAny_bind (wpAny_holding ?_)
  unfold Builtin.Frozenset.updateFrom
  have tB : ({ s with heap := h1 } : Shared).TypeIs (.ref b) "set" := (SetR.setOf (P := P) hb1).typeIs
  refine wpAny_bind (anySet_ok tB ?_)
  rw [if_pos rfl]
  refine wpAny_bind (wpAny_pure ?_)
  refine mrg_more (s := { s with heap := h1 }) (Ne.symm (Nat.ne_of_lt lb)) hb1 hm O h7 fun h2 U k sb2 RU hU hk => ?_
  refine wpAny_pure (hQ h2 U k (keyOf e) ?_ (fun c o q => (sb2.2 c (Nat.ne_of_lt (Heap.lt_size q))).trans (keep1 c o q)) RU hSk hU hk)
  have z1 : h1.objs.size = s.heap.objs.size + 1 := by rw [sb1.1, Heap.size_push]
  have z2 := sb2.1
  show s.heap.objs.size ≤ h2.objs.size
  rw [z2]
  show s.heap.objs.size ≤ h1.objs.size
  omega
end
theorem nodup_len : ∀ (l ys : List Int), l.Nodup → (∀ x ∈ l, x ∈ ys) → l.length ≤ ys.length
  | [], _, _, _ => Nat.zero_le _
  | x :: l, ys, nd, h => by
    obtain ⟨h1, h2⟩ := List.nodup_cons.mp nd
    have hx := h x (List.mem_cons_self ..)
    have ih := nodup_len l (ys.erase x) h2 fun y hy => (List.mem_erase_of_ne fun (e : y = x) => h1 (e ▸ hy)).mpr (h y (List.mem_cons_of_mem _ hy))
    have hl := List.length_erase_of_mem hx
    have hp : 0 < ys.length := List.length_pos_of_mem hx
    rw [List.length_cons]
    omega
theorem setR_le {w : World} {h : Heap} {a : Addr} {S : Int → Bool} {n : Nat} (R : SetR w h a S n) {ys : List Int} (hy : ∀ k, S k = true → k ∈ ys) : n ≤ ys.length := by
  obtain ⟨o, es, ep, t, ho, hx, hd, g, nd, hm, hb, hf, hn, _⟩ := R
  have := nodup_len _ ys nd fun k hk => hy k ((hm k).mpr hk)
  rw [List.length_map, Array.length_toList, hn] at this
  exact this
section
variable {X : Cx}
def rOrS (w : World) : R2 := fun x y H Q => ∃ (a b : Addr) (S T : Int → Bool) (m : Nat), x = V.ref a ∧ y = V.ref b ∧ a ≠ b ∧ H a = some (SetO w a S 1) ∧ H b = some (SetO w b T m) ∧ (∃ ys : List Int, ys.length ≤ 13 ∧ ∀ k, T k = true → k ∈ ys) ∧
  ∀ p U k i0, H p = none → (∀ i, S i = true ↔ i = i0) → (∀ i, U i = true ↔ (i = i0 ∨ T i = true)) → k ≤ 1 + m → Q (.ref p) (upd H p (SetO w p U k))
theorem op_orS : OpR X (binaryOp .BitOr) (rOrS X.w) := by
  intro pins s σ H x y v u Q I rx ry h
  obtain ⟨a, b, S, T, m, rfl, rfl, hab, hA, hB, ⟨ys, hy1, hy2⟩, q⟩ := h
  cases rx
  cases ry
  have RA := setO_get I hA
  have RB := setO_get I hB
  have hm : m ≤ 13 := Nat.le_trans (setR_le RB hy2) hy1
  have tA : s.TypeIs (.ref a) "set" := (SetR.setOf (P := X.prog) RA).typeIs
  have tB : s.TypeIs (.ref b) "set" := (SetR.setOf (P := X.prog) RB).typeIs
  refine wpAny_binaryOp_same (T := "set") (op := .BitOr) tA tB F.fills_set_or F.slot_set_or ?_
  refine wpAny_call_entry F.slot_set_or tA ent_or ?_ (F.args_set_or_2 _ _)
  rw [or_eq]
  unfold orBody
  have hslot : Builtin.Frozenset.slot1 "__or__" ⟨[.ref a, .ref b], []⟩ = pure (.ref a, .ref b) := by rfl
  dsimp only
  rw [hslot]
  refine wpAny_bind (wpAny_pure ?_)
  dsimp only
  refine wpAny_bind (m := andM _ _) ?_
  unfold andM
  refine wpAny_bind (anySet_ok tA ?_)
  show wpAny _ _ (Builtin.Frozenset.isAnySet (.ref b)) _ _ s
  refine anySet_ok tB ?_
  rw [if_neg (by simp)]
  refine wpAny_bind (wpAny_pure ?_)
  refine wpAny_bind (uni_ok hab RA RB hm fun h' U k i0 hz kp RU hS hU hk => ?_)
  have I2 : Inv X pins σ (upd H s.heap.objs.size (SetO X.w s.heap.objs.size U k)) { s with heap := h' } := I.laid (t' := s.toks) kp (Nat.le_refl _) (setO_new RU)
  have hq := q _ U k i0 (I.hok.fresh (Nat.le_refl _)) hS hU hk
  refine wpAny_pure ⟨.ref s.heap.objs.size, rfl, ?_, ?_⟩
  · exact fun z => Value.noConfusion z
  · exact ⟨.ref s.heap.objs.size, _, I2, rfl, hq⟩
/-! ### {x} -/
theorem kds_of {K : PySem.W.Frag} {cd : Value} {q : Str} (h : PySem.W.codeIn K cd q = true) : PySem.W.kdsCode K cd = true := by
  cases cd with
  | ref c =>
    unfold PySem.W.codeIn at h
    show (match K.lookup c with | some ⟨_, _, .fields _, _⟩ => true | _ => false) = true
    dsimp only at h
    split at h
    · rename_i ho
      rw [ho]
    · cases h
  | _ => exact absurd h Bool.false_ne_true
def tSet1 (w : World) (te : TE) : TE := fun σ H Q => ∀ D, H D = none → te σ (upd H D (SetO w D (fun _ => false) 0)) fun x H1 => ∃ k, x = V.int k ∧ H1 D = some (SetO w D (fun _ => false) 0) ∧ Q (.ref D) (upd H1 D (SetO w D (fun j => false || decide (j = k)) 1))
theorem pe_set1 {e : Expr} {te : TE} {pos : Pos} (hcd : PySem.W.kdsCode X.K X.env.code = true) (he : PE X e te) (hs : starEach [e] X.env = [(false, eval e X.env)] := by rfl) : PE X (.Set [e] 0 pos) (tSet1 X.w te) := by
  refine ⟨fun pins s σ H Q I h => ?_⟩
  rw [PySem.arm_eval_Set]
  refine wpAny_bind (wpAny_standAt ?_)
  refine wpAny_bind (PySem.W.kds_main I.kIn hcd fun b => ?_)
  rw [hs]
  unfold setDisplay
  try dsimp only
  rw [if_neg (by show ¬ ((DisplayRoad.oneByOne == DisplayRoad.constants) = true); decide)]
  refine wpAny_bind (PpSet.newSet_ok ?_)
  dsimp only
  refine wpAny_bind (wpAny_holding ?_)
  have hD : H s.heap.objs.size = none := I.fresh
  have I1 : Inv X pins σ (upd H s.heap.objs.size (SetO X.w s.heap.objs.size (fun _ => false) 0)) { s with heap := s.heap.push { cls := .type "set", dict := none, data := .set #[] 0 (.fresh 0 0 (!X.w.params.followText "set-order")) } } :=
    I.laid (t' := s.toks) (fun b o q => Heap.get?_push_of_some _ q) (Nat.le_refl _) (setO_new (setR_fresh X.w))
  refine wpAny_bind (m := evalAll _) ?_
  show wpAny _ _ (evalAll [(do let v ← eval e X.env; standAt pos; pure v)]) _ _ _
  unfold evalAll
  refine wpAny_bind (wpAny_bind (thn (he.run pins _ σ _ _ I1 (h _ hD)) fun v s1 ⟨x, H1, I2, r, k, ex, hH1, q⟩ => ?_))
  subst ex
  obtain ⟨tk, rfl⟩ := r
  refine wpAny_bind (wpAny_standAt (wpAny_pure ?_))
  refine wpAny_bind (wpAny_holding ?_)
  unfold evalAll
  refine wpAny_pure (wpAny_pure ?_)
  refine wpAny_bind (wpAny_holding ?_)
  rw [List.forIn_cons]
  have R := setO_get I2 hH1
  refine wpAny_bind (wpAny_bind (wpAny_bind ?_))
  unfold setAdd
  refine wpAny_holding (wpAny_bind ((intKind X.prog X.w).pyHash (intKind_is X.prog X.w k tk) ?_))
  refine setR_add_hashed (P := X.prog) (s := { s1 with toks := s1.toks + 1 }) R (by decide) fun h' sb new => ?_
  refine wpAny_pure ?_
  dsimp only
  rw [List.forIn_nil]
  refine wpAny_pure ?_
  rw [if_neg (by show ¬ ((DisplayRoad.oneByOne == DisplayRoad.unsure) = true); decide)]
  refine wpAny_pure ?_
  refine wpAny_bind (m := forIn ([] : List (Bool × Sem Value)) PUnit.unit _) ?_
  rw [List.forIn_nil]
  refine wpAny_pure (wpAny_pure (wpAny_pure ?_))
  have he : ∃ u, h'.get? s.heap.objs.size = some u := by
    have ⟨o, _, _, _, ho, _⟩ := new
    exact ⟨o, ho⟩
  have I3 : Inv X pins σ (upd H1 s.heap.objs.size (SetO X.w s.heap.objs.size (fun j => false || decide (j = k)) 1)) { s1 with heap := h', toks := s1.toks + 1 } :=
    I2.write (e := s.heap.objs.size) (t' := s1.toks + 1) (by rw [hH1]; trivial) (.inl rfl) (fun b u hb hu => (sb.2 b hb).trans hu) he (setO_new (by simpa using new))
  exact ⟨.ref s.heap.objs.size, _, I3, rfl, q⟩
end
end JC
set_option maxHeartbeats 3200000
/-! JD16: set(..) of numbers, sorted(set), union, sets of texts, over data. -/
namespace JC
open PySem PySem.Spec PyProof.Rows L2
section
variable {P : Program} {w : World} {A : Around} {E : Value → Shared → Prop} {s : Shared}
theorem set_ofList {l : Addr} {items : Array Value} (ns : List Int) {Q : Value → Shared → Prop} (hh : A.handled = none) (hl : s.heap.IsList l items) (hit : IntsAre items.toList ns) (hb : ns.length + 1 < scanBound)
    (h : ∀ (h' : Heap) (tk c : Nat), SetR w h' s.heap.objs.size (fun j => decide (j ∈ ns)) c → c ≤ ns.length → (∀ b o, s.heap.get? b = some o → h'.get? b = some o) → Q (.ref s.heap.objs.size) { s with heap := h', toks := tk }) :
    wpAny (model P w) A (call (.type "set") [.ref l]) Q E s := by
  have hsz : items.size = ns.length := by
    have q := IntsAre.length hit
    rw [Array.length_toList] at q
    exact q
  obtain ⟨c, tl, hmr⟩ := F.called_set.mro
  have hmd := F.called_set.made
  have hsu := F.called_set.sub
  refine wpAny_call (codeAny_of_tree ?_)
  show wpAny _ _ (callAny (.type "set") _) _ _ _
  refine wpAny_pure ⟨Code.quiet_builtin _ (by decide +kernel), codeAny_builtin F.entry_type_call ?_⟩
  rw [Around.under_plain (weight_type_call_type "set" [.ref l] []) rfl]
  have h1 := F.called_set.notType
  have h2 := F.called_set.canCreate
  have hct := F.typeCall_set_1 (.ref l)
  repeat (any_goals (first | assumption | wp_step))

  refine codeAny_mono (code_set_led1 (.ref l) (E := E) (Q₁ := fun obj s₈ => obj = .ref s.heap.objs.size ∧ s₈ = { s with heap := s.heap.push { cls := .type "set", dict := none, data := .set #[] 0 (.fresh 0 0 (!w.params.followText "set-order")) } }) ⟨rfl, rfl⟩) fun r s₈ hr => ?_
  cases r with
  | error e => exact hr
  | ok fl =>
    cases fl with
    | ret obj =>
      obtain ⟨rfl, rfl⟩ := hr
      have hS : (s.heap.push { cls := .type "set", dict := none, data := .set #[] 0 (.fresh 0 0 (!w.params.followText "set-order")) }).get? s.heap.objs.size = some { cls := .type "set", dict := none, data := .set #[] 0 (.fresh 0 0 (!w.params.followText "set-order")) } := Heap.get?_push_size _ rfl
      have hTy : Shared.TypeIs { s with heap := s.heap.push { cls := .type "set", dict := none, data := .set #[] 0 (.fresh 0 0 (!w.params.followText "set-order")) } } (.ref s.heap.objs.size) "set" := ⟨_, hS, rfl⟩
      have hlk := F.called_set.init.lookup
      have hbd := F.called_set.init.bind (.ref s.heap.objs.size)
      repeat (any_goals (first | assumption | wp_step))

      refine codeAny_mono (codeAny_call_builtin (R := wants (fun r s₉ => r = .none ∧ ∃ h' tk c, s₉ = { s with heap := h', toks := tk } ∧ SetR w h' s.heap.objs.size (fun j => decide (j ∈ ns)) c ∧ c ≤ ns.length ∧
          (∀ b o, s.heap.get? b = some o → h'.get? b = some o)) E) F.called_set.init.plain F.entry_set_init (check_set_init_1 hTy ?_)) fun r₉ s₉ hr₉ => ?_
      · obtain ⟨ol, hob, hcs, nl, hdt⟩ := hl
        obtain ⟨ocls, odict, odata, oslots⟩ := ol
        simp only at hcs hdt
        subst hcs; subst hdt
        have hobq : (s.heap.push { cls := .type "set", dict := none, data := .set #[] 0 (.fresh 0 0 (!w.params.followText "set-order")) }).get? l = some { cls := .type "list", dict := odict, data := .seq items nl, slots := oslots } := Heap.get?_push_of_some _ hob
        have hs1 := F.sub_list_set
        have hs2 := F.sub_list_frozenset
        have hne : (Value.type "list" == Value.type "dict") = false := by decide
        have hlq : (s.heap.push { cls := .type "set", dict := none, data := .set #[] 0 (.fresh 0 0 (!w.params.followText "set-order")) }).IsList l items := ⟨_, hobq, rfl, nl, rfl⟩
        unfold Builtin.«set.__init__» noKeywords Builtin.Frozenset.updateFrom
        generalize hpi : pyIter = PX
        wp_walk
        subst hpi

        refine wpAny_pyIter_list hlq ?_
        refine wpAny_bind (wpAny_runValue ?_)
        have hlt : l < s.heap.objs.size := Heap.lt_size hob
        have hhd : A.in1.in1.in1.handled = none := by simp [hh]
        have hzz : (s.heap.push { cls := .type "set", dict := none, data := .set #[] 0 (.fresh 0 0 (!w.params.followText "set-order")) }).objs.size = s.heap.objs.size + 1 := Heap.size_push ..
        have hni : l ≠ (s.heap.push { cls := .type "set", dict := none, data := .set #[] 0 (.fresh 0 0 (!w.params.followText "set-order")) }).objs.size := by
          rw [Heap.size_push]; exact Nat.ne_of_lt (Nat.lt_succ_of_lt hlt)
        have hSn : s.heap.objs.size ∉ [(s.heap.push { cls := .type "set", dict := none, data := .set #[] 0 (.fresh 0 0 (!w.params.followText "set-order")) }).objs.size, l] := by
          rw [Heap.size_push]; simp only [List.mem_cons, List.mem_singleton, List.not_mem_nil, or_false, not_or]
          exact ⟨Nat.ne_of_lt (Nat.lt_succ_self _), Nat.ne_of_gt hlt⟩
        have hvl : ∀ (i : Nat) (v : Value), items[i]? = some v → ∃ k t, ns[i]? = some k ∧ v = .int k t := fun i v hv => by
          have hi : i < ns.length := by rw [← hsz]; exact (Array.getElem?_eq_some_iff.mp hv).1
          obtain ⟨t, e⟩ := PyProof.Rows.IntsAre.int_at hit i v (by rw [Array.getElem?_toList]; exact hv)
          refine ⟨ns[i], t, List.getElem?_eq_getElem hi, ?_⟩
          rw [e, List.getD_eq_getElem?_getD, List.getElem?_eq_getElem hi] <;> rfl
        refine set_update_ints ((Walks.list hhd _ l hni items).toS) s.heap.objs.size
          hSn ns hsz hb hvl (items.size - 0) 0 _ (by omega) (Nat.zero_le _)
          ⟨⟨_, Heap.get?_push_size _ rfl, rfl, rfl⟩, (hlq.push _)⟩ ?hS0 ?hR
        case hS0 =>
          have hgt : ((s.heap.push { cls := .type "set", dict := none, data := .set #[] 0 (.fresh 0 0 (!w.params.followText "set-order")) }).push { cls := .type "list_iterator", data := .fields #[.ref l, .int 0 0] }).get? s.heap.objs.size
              = some { cls := .type "set", dict := none, data := .set #[] 0 (.fresh 0 0 (!w.params.followText "set-order")) } := Heap.get?_push_of_some _ hS
          exact ⟨0, Nat.le_refl 0, setR_new_at hgt⟩
        case hR =>
          intro s' c' hm hc' hS'
          obtain ⟨h', g2, d', tk', os'⟩ := s'
          have eg : g2 = s.gens := hm.gens
          have ed : d' = s.drawn := hm.drawn
          have eo : os' = s.os := hm.os
          subst eg; subst ed; subst eo
          show wpAny _ _ _ _ _ _
          refine wpAny_pure ?_
          show wpAny _ _ (ret Value.none) _ _ _
          rw [hsz] at hc'
          refine wpAny_pure ⟨rfl, h', tk', c', rfl, hS', hc', fun b o e => ?_⟩
          have hc0 : b < s.heap.objs.size := Heap.lt_size e
          have hc1 : b ≠ s.heap.objs.size := Nat.ne_of_lt hc0
          have hc2 : b ≠ (s.heap.push { cls := .type "set", dict := none, data := .set #[] 0 (.fresh 0 0 (!w.params.followText "set-order")) }).objs.size := by
            rw [Heap.size_push]; exact Nat.ne_of_lt (Nat.lt_succ_of_lt hc0)
          exact hm.heap b o (by simp only [List.mem_cons, List.mem_singleton, List.not_mem_nil, or_false, not_or]; exact ⟨hc1, hc2⟩) (Heap.get?_push_of_some _ (Heap.get?_push_of_some _ e))

      · cases r₉ with
        | error e => exact hr₉
        | ok fl₂ =>
          cases fl₂ with
          | ret r =>
            obtain ⟨rfl, h', tk, c', rfl, hS', hc', hk'⟩ := hr₉
            repeat (any_goals (first | assumption | wp_step))
            exact h _ _ _ hS' hc' hk'
          | _ => exact hr₉.elim
    | _ => exact hr.elim

end
end JC
set_option maxHeartbeats 1000000
/-! JD17: sets over data. -/
namespace JR
open PySem PySem.Spec PyProof.Rows L2

/-! ### sorted(a set), set(..) of numbers -/
def rSortedS (w : World) : List V → Hp → VK → Prop := fun vs H Q => ∃ (a : Addr) (S : Int → Bool) (n : Nat) (ys : List Int), vs = [V.ref a] ∧ H a = some (SetO w a S n) ∧ ys.length < 64 ∧ (∀ k, S k = true → k ∈ ys) ∧
  ∀ (ns : List Int) (p : Addr), ns.Pairwise (· < ·) → (∀ k : Int, k ∈ ns ↔ S k = true) → H p = none → Q (.ref p) (upd H p (.lst (ns.map V.int)))
theorem cr_sortedS {X : Cx} (hc : X.calm = true) : CallR X (.builtin "sorted") (rSortedS X.w) := by
  intro pins s σ H vs us Q I r ⟨a, S, n, ys, e, ha, h64, hy, q⟩
  have hn := JC.setR_le (setO_get I ha) hy
  exact cr_sortedSet hc pins s σ H vs us Q I r ⟨a, S, n, e, ha, by omega, fun ns p h1 h2 _ h4 => q ns p h1 h2 h4⟩
/-- rises strictly, holds just the members of xs -/
def RisOf (xs ns : List Int) : Prop := ns.Pairwise (· < ·) ∧ ∀ k, k ∈ ns ↔ k ∈ xs
def fSortedS : DV → Sto → (List PyData → Sto → Prop) → Prop := fun x μ R => ∃ xs ys : List Int, x = .s xs ∧ ys.length < 64 ∧ (∀ k ∈ xs, k ∈ ys) ∧ ∀ ns, RisOf xs ns → R (ns.map .int) μ
theorem dps_ofInts {H : Hp} : ∀ ns : List Int, DpAll KZ H (ns.map V.int) (ns.map PyData.int)
  | [] => .nil
  | n :: ns => .cons (.int n) (dps_ofInts ns)
def rSetOfA (K : PySem.W.Frag) (w : World) : List V → Hp → VK → Prop := fun vs H Q => ∃ (a : Addr) (ns : List Int), vs = [V.ref a] ∧ (SqL K H a (ns.map V.int) ∨ SqT K H a (ns.map V.int)) ∧ ns.length ≤ 3000 ∧
  ∀ (S : Int → Bool) (n : Nat) (p : Addr), (∀ k, S k = true ↔ k ∈ ns) → n ≤ ns.length → H p = none → Q (.ref p) (upd H p (SetO w p S n))
theorem cr_setOfA {X : Cx} (hc : X.calm = true) : CallR X (.type "set") (rSetOfA X.K X.w) := by
  intro pins s σ H vs us Q I r ⟨a, ns, e, hs, hl, q⟩
  subst e
  rw [Vals.ref1 r]
  have fin : ∀ (h' : Heap) (tk c : Nat), SetR X.w h' s.heap.objs.size (fun j => decide (j ∈ ns)) c → c ≤ ns.length → (∀ b o, s.heap.get? b = some o → h'.get? b = some o) → EP X pins σ Q (.ref s.heap.objs.size) { s with heap := h', toks := tk } := fun h' tk c R hc' hk =>
    ⟨.ref s.heap.objs.size, _, I.laid (t' := tk) hk (Nat.le_refl _) (setO_new R), rfl, q _ c _ (fun k => decide_eq_true_iff) hc' (I.hok.fresh (Nat.le_refl _))⟩
  have hb : ns.length + 1 < scanBound := by unfold scanBound; omega
  rcases hs with hs | hs
  · obtain ⟨its, rv, p, hz⟩ := I.list hs
    exact JC.set_ofList (P := X.prog) ns (I.ok.hd hc) p.isList (by simpa using RZ.intsAre_vals rv) hb fin
  · obtain ⟨its, rv, p, hz⟩ := I.tuple hs
    exact call_set_tupI (P := X.prog) ns (I.ok.hd hc) (show s.heap.IsTuple a its.toArray from p) (by simpa using RZ.intsAre_vals rv) hb fin
def fSetOf : DV → Sto → (DV → Sto → Prop) → Prop := fun x μ R => ∃ ns : List Int, seqOf x μ = some (ns.map .int) ∧ ns.length ≤ 3000 ∧ R (.s ns) μ
/-- {a} | b -/
def tdOrS (ta tb : TD) : TD := fun ρ μ R => ta ρ μ fun x μ1 => ∃ i : Int, x = .d (.int i) ∧ tb ρ μ1 fun y μ2 => ∃ xs ys : List Int, y = .s xs ∧ ys.length ≤ 13 ∧ (∀ k ∈ xs, k ∈ ys) ∧ R (.s (i :: xs)) μ2
section
variable {X : Cx} {C : Addr} {e a b : Expr} {te ta tb : TD} {p pos p1 : Pos}
theorem cl_sortedS : Cl1 ⟨X.prog, X.w, C⟩ (rSortedS X.w) fSortedS := fun α H0 ρ μ σ H x dx R Q S rx ⟨xs, ys, e, h1, h2, q⟩ k => by
  subst e
  obtain ⟨a, T, n, ex, hT, hk, hn⟩ := rx
  subst ex
  exact ⟨a, T, n, ys, rfl, S.ext _ _ hT, h1, fun j hj => h2 j ((hk j).mp hj), fun ns p g1 g2 hp => mkL S (Stp.refl _ _ _) (dps_ofInts ns) (q ns ⟨g1, fun j => (g2 j).trans (hk j)⟩) k p hp⟩
theorem jl_sortedS (hc : X.calm = true) (hg : Gl X "sorted") (hm : X.mg "sorted" = none) (ha : PE X e (uTE ⟨X.prog, X.w, C⟩ te)) (he : starEach [e] X.env = (false, eval e X.env) :: starEach [] X.env := by rfl) : PE X (.Call (.Name "sorted" p) [e] [] pos) (uTL ⟨X.prog, X.w, C⟩ (tl1 fSortedS te)) := jl_b1 (cr_sortedS hc) cl_sortedS hg hm (by decide +kernel) ha (he := he)
theorem cd_setOf {K : PySem.W.Frag} : Cd1 ⟨X.prog, X.w, C⟩ (rSetOfA K X.w) fSetOf := fun α H0 ρ μ σ H x dx R Q S rx ⟨ns, e, h1, q⟩ k => by
  obtain ⟨a, vs, ex, hs, ha⟩ := seqOf_ok S rx e
  subst ex
  rw [dps_ints ha] at hs
  refine ⟨a, ns, rfl, hs.imp sql_k sqt_k, h1, fun T n p h2 h3 hp => ?_⟩
  exact k α _ μ _ (.ref p) (.s ns) (S.new hp) (Stp.new S hp) ⟨p, T, n, rfl, upd_same, h2, h3⟩ q
theorem jd_setOf (hc : X.calm = true) (hg : Gl X "set") (hm : X.mg "set" = none) (ha : PE X e (uTE ⟨X.prog, X.w, C⟩ te)) (he : starEach [e] X.env = (false, eval e X.env) :: starEach [] X.env := by rfl) : PE X (.Call (.Name "set" p) [e] [] pos) (uTE ⟨X.prog, X.w, C⟩ (td1 fSetOf te)) := jd_t1 (cr_setOfA hc) cd_setOf hg hm (by decide +kernel) ha (he := he)
theorem jd_orS (hcd : PySem.W.kdsCode X.K X.env.code = true) (ha : PE X a (uTE ⟨X.prog, X.w, C⟩ ta)) (hb : PE X b (uTE ⟨X.prog, X.w, C⟩ tb)) (hs : starEach [a] X.env = [(false, eval a X.env)] := by rfl) : PE X (.BinOp (.Set [a] 0 p1) .BitOr b pos) (uTE ⟨X.prog, X.w, C⟩ (tdOrS ta tb)) :=
  (pe_op JC.op_orS (JC.pe_set1 hcd ha hs) hb).imp fun σ H Q ⟨α, H0, ρ, μ, R, S, h, k⟩ D hD => by
    have hD0 := S.free hD
    have hDn := S.nin hD
    refine ⟨α, H0, ρ, μ, _, S.side hD0 hDn, h, fun α1 H01 μ1 H1 x dx S1 p1 rx ⟨i, e1, h1⟩ => ?_⟩
    subst e1
    cases (show Dp KZ H01 x (.int i) from rx)
    obtain ⟨a1, a2, a3⟩ := p1.hold upd_same hD0 hDn
    refine ⟨i, rfl, a1, ?_⟩
    have p1' : Stp α H0 H α1 H01 (upd H1 D (SetO X.w D (fun j => false || decide (j = i)) 1)) := by
      refine ⟨p1.pre, p1.ex, fun b o hb hn => ?_, fun b hb => ?_, fun b hb => ?_, fun b hb => ?_⟩
      · have ne : b ≠ D := fun z => by rw [z, hD] at hb; cases hb
        rw [upd_ne ne]
        exact p1.fr b o (by rw [upd_ne ne]; exact hb) hn
      · by_cases z : b = D
        · rw [z, upd_same]; simp
        · rw [upd_ne z]
          exact p1.al b (by rw [upd_ne z]; exact hb)
      · rcases p1.nf b hb with z | z | z
        · exact .inl z
        · by_cases y : b = D
          · rw [y]; exact .inr (.inl hD)
          · rw [upd_ne y] at z; exact .inr (.inl z)
        · exact .inr (.inr z)
      · rcases p1.nc b hb with z | z
        · exact .inl z
        · by_cases y : b = D
          · rw [y]; exact .inr hD
          · rw [upd_ne y] at z; exact .inr z
    refine ⟨α1, H01, ρ, μ1, _, S1.side a2 a3, h1, fun α2 H02 μ2 H2 y dy S2 p2 ry ⟨xs, ys, e2, g1, g2, q⟩ => ?_⟩
    subst e2
    obtain ⟨b1, b2, b3⟩ := p2.hold upd_same a2 a3
    obtain ⟨c, T, m, ey, hT, hTk, hm⟩ := ry
    subst ey
    refine ⟨D, c, _, T, m, rfl, rfl, fun z => ?_, b1, S2.ext _ _ hT, ⟨ys, g1, fun j hj => g2 j ((hTk j).mp hj)⟩, fun q' U n i0 hq hS hU hn => ?_⟩
    · rw [z, hT] at b2; cases b2
    · have e0 : i = i0 := (hS i).mp (by simp)
      subst e0
      have p3 := p1'.trans p2
      exact k α2 _ μ2 _ (.ref q') (.s (i :: xs)) (S2.new hq) (p3.trans (Stp.new S2 hq)) ⟨q', U, n, rfl, upd_same, fun j => by rw [hU j, hTk j, List.mem_cons], by rw [List.length_cons]; omega⟩ q
end
end JR
set_option maxHeartbeats 1000000
/-! JD18: starred targets; ranges, joins, tuple times, three at once. -/
namespace JC
open PySem PySem.Spec PyProof.Rows L2 PySem.W
section
variable {prog : Program} {w : World} {A : Around} {E : Value → Shared → Prop} {s : Shared} {env : PySem.Env} {elts : List Expr} {k : Nat} {pos : Pos}
theorem un_starL {l : Addr} {items : Array Value} {n i : Nat} {first mids lasts : List Value} {Q : List Value → Shared → Prop} (hl : s.heap.IsList l items) (hh : A.handled = none) (hi : i < n) (hn : n ≤ items.size + 1) (hz : items.size ≤ 16384)
    (h1 : items.toList.take i = first) (h2 : (items.toList.drop i).take (items.size + 1 - n) = mids) (h3 : (items.toList.drop i).drop (items.size + 1 - n) = lasts)
    (h : ∀ (h' : Heap) (tk : Nat), (∀ b o, s.heap.get? b = some o → h'.get? b = some o) → Q (first ++ [.ref h'.objs.size] ++ lasts) { s with heap := h'.push { cls := .type "list", data := .seq mids.toArray }, toks := tk }) : wpAny (model prog w) A (unpackItems (.ref l) n (some i)) Q E s := by
  subst h1 h2 h3
  have hlq : l ≠ s.heap.objs.size := by obtain ⟨o, ho, _⟩ := hl; exact Nat.ne_of_lt (Heap.lt_size ho)
  have hlk : l < s.heap.objs.size := by obtain ⟨o, ho, _⟩ := hl; exact Heap.lt_size ho
  unfold unpackItems
  refine wpAny_bind ?_
  unfold notIterableAtAll
  refine wpAny_bind (wpAny_specialOf hl.typeIs slot_list_iter.lookup ?_)
  refine wpAny_pure ?_
  simp only [Bool.false_eq_true, if_false]
  refine wpAny_bind (wpAny_holding (wpAny_pyIter_list hl ?_))
  refine wpAny_bind (wpAny_holding (kun_draw hlq i 0 _ _ ⟨_, Heap.get?_push_size _ rfl, rfl, rfl⟩ (hl.push _) (by omega) fun ha hi1 hsq => ?_))
  have hl1 : ha.IsList l items := (hl.push _).extBut hsq.extBut hlq
  rw [Nat.zero_add] at hi1
  have hi1q := hi1
  obtain ⟨oi, hoq, _⟩ := hi1q
  have hl1q := hl1
  obtain ⟨ol, hoo, _⟩ := hl1q
  rw [List.drop_zero]
  have hfq : (items.toList.take i).length = i := by rw [List.length_take, Array.length_toList]; omega
  rw [if_neg (show ¬ ((items.toList.take i).length < i) by rw [hfq]; omega)]
  refine wpAny_bind (wpAny_holding (kun_collect (s := { s with heap := ha }) (T := "list_iterator") (.inr (.inr (.inl rfl))) (Walks.list (A := A.in1) hh s.heap.objs.size l hlq items) (fun j u st => st.1.typeIs) (k := i) (by omega) ⟨hi1, hl1⟩ (Heap.lt_size hoq) (Heap.lt_size hoo) (fun hb tk hkq => ?_) (by rw [sizeLine_eq]; omega)))
  have hrq : (items.toList.drop i).length = items.size - i := by rw [List.length_drop, Array.length_toList]
  have hmq : (items.toList.drop i).length - (n - 1 - i) = items.size + 1 - n := by rw [hrq]; omega
  show wpAny _ _ (if (items.toList.drop i).length < n - 1 - i then _ else _) _ _ _
  rw [if_neg (by rw [hrq]; omega)]
  show wpAny _ _ (newList ((items.toList.drop i).take ((items.toList.drop i).length - (n - 1 - i))) >>= fun d => pure (items.toList.take i ++ [d] ++ (items.toList.drop i).drop ((items.toList.drop i).length - (n - 1 - i)))) _ _ _
  rw [hmq]
  have heq : Heap.ExtBut s.heap.objs.size s.heap hb := fun b o hb e => hkq b o hb (hsq.extBut b o hb (Heap.get?_push_of_some _ e))
  refine wpAny_bind (wpAny_newObj_type (wpAny_pure (h hb tk (fun b o e => ?_))) (by show _ ≤ sizeLine; rw [List.size_toArray, List.length_take, hrq, sizeLine_eq]; omega))
  exact heq b o (Nat.ne_of_lt (Heap.lt_size e)) e
theorem un_starT {l : Addr} {items : Array Value} {n i : Nat} {first mids lasts : List Value} {Q : List Value → Shared → Prop} (hl : IsTup s.heap l items) (hh : A.handled = none) (hi : i < n) (hn : n ≤ items.size + 1) (hz : items.size ≤ 16384)
    (h1 : items.toList.take i = first) (h2 : (items.toList.drop i).take (items.size + 1 - n) = mids) (h3 : (items.toList.drop i).drop (items.size + 1 - n) = lasts)
    (h : ∀ (h' : Heap) (tk : Nat), (∀ b o, s.heap.get? b = some o → h'.get? b = some o) → Q (first ++ [.ref h'.objs.size] ++ lasts) { s with heap := h'.push { cls := .type "list", data := .seq mids.toArray }, toks := tk }) : wpAny (model prog w) A (unpackItems (.ref l) n (some i)) Q E s := by
  subst h1 h2 h3
  have hlq : l ≠ s.heap.objs.size := by obtain ⟨o, ho, _⟩ := hl; exact Nat.ne_of_lt (Heap.lt_size ho)
  have hlk : l < s.heap.objs.size := by obtain ⟨o, ho, _⟩ := hl; exact Heap.lt_size ho
  unfold unpackItems
  refine wpAny_bind ?_
  unfold notIterableAtAll
  refine wpAny_bind (wpAny_specialOf hl.typeIs slot_tuple_iter.lookup ?_)
  refine wpAny_pure ?_
  simp only [Bool.false_eq_true, if_false]
  refine wpAny_bind (wpAny_holding (iter_tuple hl ?_))
  refine wpAny_bind (wpAny_holding (draw_tuple hlq i 0 _ _ ⟨_, Heap.get?_push_size _ rfl, rfl, rfl⟩ (hl.push _) (by omega) fun ha hi1 hsq => ?_))
  have hl1 : IsTup ha l items := (hl.push _).extBut hsq.extBut hlq
  rw [Nat.zero_add] at hi1
  have hi1q := hi1
  obtain ⟨oi, hoq, _⟩ := hi1q
  have hl1q := hl1
  obtain ⟨ol, hoo, _⟩ := hl1q
  rw [List.drop_zero]
  have hfq : (items.toList.take i).length = i := by rw [List.length_take, Array.length_toList]; omega
  rw [if_neg (show ¬ ((items.toList.take i).length < i) by rw [hfq]; omega)]
  refine wpAny_bind (wpAny_holding (kun_collect (s := { s with heap := ha }) (T := "tuple_iterator") (.inr (.inr (.inr rfl))) (Walks.tuple (A := A.in1) hh s.heap.objs.size l hlq items) (fun j u st => st.1.typeIs) (k := i) (by omega) ⟨hi1, hl1⟩ (Heap.lt_size hoq) (Heap.lt_size hoo) (fun hb tk hkq => ?_) (by rw [sizeLine_eq]; omega)))
  have hrq : (items.toList.drop i).length = items.size - i := by rw [List.length_drop, Array.length_toList]
  have hmq : (items.toList.drop i).length - (n - 1 - i) = items.size + 1 - n := by rw [hrq]; omega
  show wpAny _ _ (if (items.toList.drop i).length < n - 1 - i then _ else _) _ _ _
  rw [if_neg (by rw [hrq]; omega)]
  show wpAny _ _ (newList ((items.toList.drop i).take ((items.toList.drop i).length - (n - 1 - i))) >>= fun d => pure (items.toList.take i ++ [d] ++ (items.toList.drop i).drop ((items.toList.drop i).length - (n - 1 - i)))) _ _ _
  rw [hmq]
  have heq : Heap.ExtBut s.heap.objs.size s.heap hb := fun b o hb e => hkq b o hb (hsq.extBut b o hb (Heap.get?_push_of_some _ e))
  refine wpAny_bind (wpAny_newObj_type (wpAny_pure (h hb tk (fun b o e => ?_))) (by show _ ≤ sizeLine; rw [List.size_toArray, List.length_take, hrq, sizeLine_eq]; omega))
  exact heq b o (Nat.ne_of_lt (Heap.lt_size e)) e
end
section
variable {X : Cx} {pos px py sp : Pos}
def gStar (K : PySem.W.Frag) (i j : Nat) : TG := fun v σ H Q => ∃ a x0 xs, v = .ref a ∧ (SqL K H a (x0 :: xs) ∨ SqT K H a (x0 :: xs)) ∧ xs.length ≤ 10000 ∧ ∀ p, H p = none → Q ((σ.set i (some x0)).set j (some (.ref p))) (upd H p (.lst xs))
theorem pg_star {i j k : Nat} {x y : Str} (hc : X.calm = true) (h1 : PG X (.Name x px) (gName i)) (h2 : PG X (.Name y py) (gName j))
    (hn : (assignEach [.Name x px, .Starred (.Name y py) sp] X.env).length = 2 := by rfl) (hst : (assignEach [.Name x px, .Starred (.Name y py) sp] X.env).findIdx? (·.1) = some 1 := by rfl)
    (he : (assignEach [.Name x px, .Starred (.Name y py) sp] X.env).map (·.2) = [assign (.Name x px) X.env, assign (.Name y py) X.env] := by rfl) : PG X (.Tuple [.Name x px, .Starred (.Name y py) sp] k pos) (gStar X.K i j) := by
  refine ⟨fun pins s σ H v u Q I r hw => ?_⟩
  obtain ⟨a, x0, xs, e1, hq, hl, hw⟩ := hw
  subst e1
  cases r
  have key : ∀ (its : List Value), Vals (x0 :: xs) its → ∀ (h' : Heap) (tk : Nat), (∀ b o, s.heap.get? b = some o → h'.get? b = some o) →
      wpAny (model X.prog X.w) X.A (assignInOrder [assign (.Name x px) X.env, assign (.Name y py) X.env] (its.toArray.toList.take 1 ++ [.ref h'.objs.size] ++ (its.toArray.toList.drop 1).drop (its.toArray.size + 1 - 2))) (fun _ s' => ∃ σ' H', Inv X pins σ' H' s' ∧ Q σ' H') X.xe
        { s with heap := h'.push { cls := .type "list", data := .seq ((its.toArray.toList.drop 1).take (its.toArray.size + 1 - 2)).toArray }, toks := tk } := by
    intro its rv h' tk hk
    cases rv with
    | @cons _ u0 _ ur r0 rr =>
      have hlen := rr.length
      have e1 : (u0 :: ur).toArray.toList.take 1 = [u0] := by simp
      have e2 : ((u0 :: ur).toArray.toList.drop 1).take ((u0 :: ur).toArray.size + 1 - 2) = ur := by simp
      have e3 : ((u0 :: ur).toArray.toList.drop 1).drop ((u0 :: ur).toArray.size + 1 - 2) = [] := by simp
      rw [e1, e2, e3]
      have I1 : Inv X pins σ H { s with heap := h', toks := tk } := I.kept hk
      have I2 : Inv X pins σ (upd H h'.objs.size (.lst xs)) { s with heap := h'.push { cls := .type "list", data := .seq ur.toArray }, toks := tk } := I1.lnew (t' := tk) rr (by rw [sizeLine_eq]; omega)
      have q := hw h'.objs.size I1.fresh
      refine assignInOrder_cons (thn (h1.run pins _ σ _ x0 u0 _ I2 r0 (show gName i x0 σ _ (fun σ' H' => Q (σ'.set j (some (.ref h'.objs.size))) H') from q)) fun _ s3 ⟨σ3, H3, I3, q3⟩ => ?_)
      refine assignInOrder_cons (thn (h2.run pins s3 σ3 H3 (.ref h'.objs.size) (.ref h'.objs.size) Q I3 rfl q3) fun _ s4 q4 => ?_)
      exact assignInOrder_nil q4
  rcases hq with hq | hq
  · obtain ⟨its, rv, pl, hz⟩ := I.list hq
    have hlen := rv.length
    have hlen2 : (x0 :: xs).length = xs.length + 1 := rfl
    rw [PyProof.Rows.assign_Tuple]
    refine wpAny_bind (wpAny_standAt ?_)
    unfold unpack
    rw [hn, hst, he]
    exact wpAny_bind (wpAny_holding (un_starL pl.isList (I.ok.hd hc) (by decide) (by rw [List.size_toArray]; omega) (by rw [List.size_toArray]; omega) rfl rfl rfl (key its rv)))
  · obtain ⟨its, rv, pl, hz⟩ := I.tuple hq
    have hlen := rv.length
    have hlen2 : (x0 :: xs).length = xs.length + 1 := rfl
    rw [PyProof.Rows.assign_Tuple]
    refine wpAny_bind (wpAny_standAt ?_)
    unfold unpack
    rw [hn, hst, he]
    exact wpAny_bind (wpAny_holding (un_starT pl (I.ok.hd hc) (by decide) (by rw [List.size_toArray]; omega) (by rw [List.size_toArray]; omega) rfl rfl rfl (key its rv)))
end
end JC
set_option maxHeartbeats 1000000
/-! JD19: starred targets, join, tuple times int, ranges as lists, three targets, over data. -/
namespace JR
open PySem PySem.Spec PyProof.Rows L2

def tdStar (i j : Nat) (te : TD) : TSd := fun D ρ μ => te ρ μ fun x μ1 => ∃ d ds, seqOf x μ1 = some (d :: ds) ∧ ds.length ≤ 10000 ∧ D.nx ((ρ.set i (some (.d d))).set j (some (.d (.list ds)))) μ1
section
variable {X : Cx} {g : Cf} {C : Addr} {e o tg : Expr} {te to : TD} {p pos apos cpos : Pos}
theorem js_star {i j : Nat} (he : PE X e (uTE g te)) (hg : PG X tg (JC.gStar X.K i j)) (hs : swapsWithSole [tg] e pos.line X.env = pure false := by rfl) (hw : swappedStores [tg] e X.env = pure none := by rfl)
    (h1 : (assignEach [tg] X.env).map (·.2) = [assign tg X.env] := by rfl) : PS X (.Assign [tg] e pos) (uTS g (tdStar i j te)) := (ps_asg he hg hs hw h1).imp fun D σ H ⟨α, H0, ρ, μ, DD, S, h, E⟩ =>
  ⟨α, H0, ρ, μ, _, S, h, fun α1 H01 μ1 H1 v dv S1 p1 rv ⟨d, ds, e, hl, q⟩ => by
    obtain ⟨a, vs, ex, hs, ha⟩ := seqOf_ok S1 rv e
    subst ex
    obtain ⟨x0, xs, evs, h, t⟩ : ∃ x0 xs, vs = x0 :: xs ∧ Dp KZ H01 x0 d ∧ DpAll KZ H01 xs ds := by
      cases ha with
      | cons h t => exact ⟨_, _, rfl, h, t⟩
    subst evs
    · refine ⟨a, x0, xs, rfl, hs.imp sql_k sqt_k, by rw [dps_len t]; exact hl, fun l hl => ?_⟩
      have S2 := S1.new (o := .lst xs) hl
      have p2 := Stp.new (o := .lst xs) S1 hl
      have g2 := upd_grow (o := .lst xs) (S1.free hl)
      exact E.nx α1 _ _ μ1 _ _ ((S2.store (dv := .d d) (dp_same g2 _ _ h)).store (dv := .d (.list ds)) (.lst (.of upd_same) (dps_same g2 _ _ t))) (p1.trans p2) q⟩
/-! ### join -/
theorem jd_join (ho : PE X o (uTE ⟨X.prog, X.w, C⟩ to)) (he : PE X e (uTE ⟨X.prog, X.w, C⟩ te)) (hs : starEach [e] X.env = [(false, eval e X.env)] := by rfl) (hbase : attributeBase o "join" X.env (eval o X.env) = eval o X.env := by rfl) (hline : (apos.endLine == pos.line) = true := by rfl) :
    PE X (.Call (.Attribute o "join" apos) [e] [] pos) (uTE ⟨X.prog, X.w, C⟩ (tdJoin to te)) := (pe_join ho he hs hbase hline).imp fun σ H Q ⟨α, H0, ρ, μ, R, S, h, k⟩ =>
  ⟨α, H0, ρ, μ, _, S, h, fun α1 H01 μ1 H1 x dx S1 p1 rx ⟨z, e1, h1⟩ => by
    subst e1
    cases (show Dp KZ H01 x (.str z) from rx)
    exact ⟨⟨z, rfl⟩, α1, H01, ρ, μ1, _, S1, h1, fun α2 H02 μ2 H2 y dy S2 p2 ry ⟨zs, e2, hz, q⟩ => by
      obtain ⟨l, vs, ey, hs, ha⟩ := lOf_ok S2 ry e2
      subst ey
      rw [dps_strs ha] at hs
      exact ⟨z, l, zs, rfl, rfl, .inl (sql_k hs), hz, k α2 H02 μ2 H2 _ (.d (.str _)) S2 (p1.trans p2) (.str _) q⟩⟩⟩
/-! ### list(range(..)), tuple(range(..)) -/
def tdRgL1 (ta : TD) : TLd := fun ρ μ R => ta ρ μ fun x μ1 => ∃ n : Int, x = .d (.int n) ∧ RgOk 0 n ∧ R (rngD 0 n.toNat) μ1
def tdRgT1 (ta : TD) : TD := fun ρ μ R => ta ρ μ fun x μ1 => ∃ n : Int, x = .d (.int n) ∧ RgOk 0 n ∧ R (.d (.tuple (rngD 0 n.toNat))) μ1
theorem dps_rng {H : Hp} (n : Int) : DpAll KZ H (rgV 0 n) (rngD 0 n.toNat) := by
  unfold rgV rngD
  rw [Int.sub_zero]
  exact dps_of (fun i => .int _) _
theorem jl_rgL {p2 pos2 : Pos} (hc : X.calm = true) (hg : Gl X "list") (hm : X.mg "list" = none) (hg2 : Gl X "range") (hm2 : X.mg "range" = none) (ha : PE X e (uTE ⟨X.prog, X.w, C⟩ te)) (na : starEach [e] X.env = (false, eval e X.env) :: starEach [] X.env := by rfl)
    (na2 : starEach [.Call (.Name "range" p2) [e] [] pos2] X.env = (false, eval (.Call (.Name "range" p2) [e] [] pos2) X.env) :: starEach [] X.env := by rfl) :
    PE X (.Call (.Name "list" p) [.Call (.Name "range" p2) [e] [] pos2] [] pos) (uTL ⟨X.prog, X.w, C⟩ (tdRgL1 te)) := (pe_listRg hc hg hm (prg_1 hg2 hm2 ha na) na2).imp fun σ H Q ⟨α, H0, ρ, μ, R, S, h, k⟩ =>
  ⟨α, H0, ρ, μ, _, S, h, fun α1 H01 μ1 H1 x dx S1 p1 rx ⟨n, e1, hr, q⟩ => by
    subst e1
    cases (show Dp KZ H01 x (.int n) from rx)
    exact ⟨n, rfl, hr, mkL S1 p1 (dps_rng n) q k⟩⟩
theorem jd_rgT {p2 pos2 : Pos} (hc : X.calm = true) (hg : Gl X "tuple") (hm : X.mg "tuple" = none) (hg2 : Gl X "range") (hm2 : X.mg "range" = none) (ha : PE X e (uTE ⟨X.prog, X.w, C⟩ te)) (na : starEach [e] X.env = (false, eval e X.env) :: starEach [] X.env := by rfl)
    (na2 : starEach [.Call (.Name "range" p2) [e] [] pos2] X.env = (false, eval (.Call (.Name "range" p2) [e] [] pos2) X.env) :: starEach [] X.env := by rfl) :
    PE X (.Call (.Name "tuple" p) [.Call (.Name "range" p2) [e] [] pos2] [] pos) (uTE ⟨X.prog, X.w, C⟩ (tdRgT1 te)) := (pe_tupRg hc hg hm (prg_1 hg2 hm2 ha na) na2).imp fun σ H Q ⟨α, H0, ρ, μ, R, S, h, k⟩ =>
  ⟨α, H0, ρ, μ, _, S, h, fun α1 H01 μ1 H1 x dx S1 p1 rx ⟨n, e1, hr, q⟩ => by
    subst e1
    cases (show Dp KZ H01 x (.int n) from rx)
    refine ⟨n, rfl, hr, fun l hl => ?_⟩
    obtain ⟨a1, a2, a3⟩ := S1.newD hl (dps_rng n)
    exact k α1 _ μ1 _ (.ref l) (.d (.tuple _)) a1 (p1.trans a2) a3 q⟩
/-! ### three targets at once -/
def tdPar3 (i j l : Nat) (ta tb tc : TD) : TSd := fun D ρ μ => ta ρ μ fun x μ1 => tb ρ μ1 fun y μ2 => tc ρ μ2 fun z μ3 => D.nx (((ρ.set i (some x)).set j (some y)).set l (some z)) μ3
theorem js_par3 {i j l : Nat} {x y z : Str} {a b c : Expr} {ta tb tc : TD} {px py pz pt : Pos} {kt k2 pt2} (hc : X.calm = true) (hN : X.N.Nodup) (hi : X.N[i]? = some x) (hj : X.N[j]? = some y) (hl : X.N[l]? = some z) (hij : i ≠ j) (hil : i ≠ l) (hjl : j ≠ l)
    (hx : X.env.scope.names.lookup x = some .local) (hy : X.env.scope.names.lookup y = some .local) (hz : X.env.scope.names.lookup z = some .local) (ha : PE X a (uTE g ta)) (hb : PE X b (uTE g tb)) (hc' : PE X c (uTE g tc))
    (hw : swappedStores [.Tuple [.Name x px, .Name y py, .Name z pz] kt pt] (.Tuple [a, b, c] k2 pt2) X.env = pure (some [x, y, z]))
    (hs : swapsWithSole [.Tuple [.Name x px, .Name y py, .Name z pz] kt pt] (.Tuple [a, b, c] k2 pt2) pos.line X.env = pure false := by rfl)
    (h1 : starEach [a, b, c] X.env = (false, eval a X.env) :: starEach [b, c] X.env := by rfl) (h2 : starEach [b, c] X.env = (false, eval b X.env) :: starEach [c] X.env := by rfl) (h3 : starEach [c] X.env = (false, eval c X.env) :: starEach [] X.env := by rfl) :
    PS X (.Assign [.Tuple [.Name x px, .Name y py, .Name z pz] kt pt] (.Tuple [a, b, c] k2 pt2) pos) (uTS g (tdPar3 i j l ta tb tc)) :=
  (ps_par3 hc hN hi hj hl hij hil hjl hx hy hz (pa_cons ha (pa_cons hb (pa_cons hc' pa_nil h3) h2) h1) hw hs).imp fun D σ H ⟨α, H0, ρ, μ, DD, S, h, E⟩ =>
    ⟨α, H0, ρ, μ, _, S, h, fun α1 H01 μ1 H1 v dv S1 p1 rv q => ⟨α1, H01, ρ, μ1, _, S1, q, fun α2 H02 μ2 H2 w dw S2 p2 rw' q2 => ⟨α2, H02, ρ, μ2, _, S2, q2, fun α3 H03 μ3 H3 u du S3 p3 ru q3 =>
      ⟨v, w, u, rfl, E.nx α3 H03 _ μ3 _ H3 (((S3.store (rv.mono (p2.trans p3))).store (rw'.mono p3)).store ru) (p1.trans (p2.trans p3)) q3⟩⟩⟩⟩
end
end JR
set_option maxHeartbeats 1000000
/-! JD20: a tuple times a small number. -/
namespace JC
open PySem PySem.Spec PyProof.Rows L2
theorem tmul_one (l : Addr) (items : Array Value) (n : Nat) (dd : Option Addr) (sl : Array (Option Value)) (u : Tok) :
    Meets (Builtin.«tuple.__mul__» ⟨[.ref l, .int 1 u], []⟩) (fun _ R s => s.heap.get? l = some { cls := .type "tuple", dict := dd, data := .seq items n, slots := sl } ∧ R (.ok (.ret (.ref l))) s) :=
  .of_wp fun prog w A R s h => by
    obtain ⟨hp, g, d, tk, os⟩ := s
    obtain ⟨hl, h⟩ := h
    have f1 := AutoSeq1.idx_int
    have f2 := AutoSeq1.sub_tuple_tuple
    wp_walk using wpAny_loadPart' hl
    repeat (first
      | (refine wpAny_ite_false (decide_eq_false (by decide)) ?_; wp_walk using wpAny_loadPart' hl)
      | (refine wpAny_ite_true (decide_eq_true (by simp)) ?_; wp_walk using wpAny_loadPart' hl))
    exact ⟨_, rfl, h⟩
theorem tmul_nul (l : Addr) (items : Array Value) (n : Nat) (dd : Option Addr) (sl : Array (Option Value)) (u : Tok) (hne : items.isEmpty = false) :
    Meets (Builtin.«tuple.__mul__» ⟨[.ref l, .int 0 u], []⟩) (fun _ R s => s.heap.get? l = some { cls := .type "tuple", dict := dd, data := .seq items n, slots := sl } ∧
      R (.ok (.ret (.ref s.heap.objs.size))) { s with heap := s.heap.push { cls := .type "tuple", data := .seq #[] } }) :=
  .of_wp fun prog w A R s h => by
    obtain ⟨hp, g, d, tk, os⟩ := s
    obtain ⟨hl, h⟩ := h
    have f1 := AutoSeq1.idx_int
    have f2 := AutoSeq1.sub_tuple_tuple
    wp_walk using wpAny_loadPart' hl
    exact ⟨_, rfl, h⟩
def rRepA (K : PySem.W.Frag) : R2 := fun x y H Q => ∃ (l : Addr) (k : Nat) (xs : List V), x = .ref l ∧ y = .int (k : Int) ∧ SqT K H l xs ∧ xs ≠ [] ∧ k ≤ 1000 ∧ xs.length ≤ 1000 ∧
  (k = 1 → Q (.ref l) H) ∧ (k ≠ 1 → ∀ p, H p = none → Q (.ref p) (upd H p (.tup (List.replicate k xs).flatten)))
section
variable {X : Cx}
theorem op_repA : OpR X (binaryOp .Mult) (rRepA X.K) := by
  intro pins s σ H x y v u Q I rx ry ⟨l, k, xs, e1, e2, hT, hne, hk, hz, q1, q2⟩
  by_cases h2 : 2 ≤ k
  · exact op_repT pins s σ H x y v u Q I rx ry ⟨l, (k : Int), xs, e1, e2, hT, hne, by omega, by omega, hz, by simpa using q2 (by omega)⟩
  · subst e1 e2
    cases rx
    obtain ⟨t, rfl⟩ := ry
    obtain ⟨its, r, ⟨⟨cls, dd, data, sl⟩, ho, hc, n, hd⟩, hs⟩ := I.tuple hT
    simp only at hc hd
    subst hc hd
    have hi : its.toArray.isEmpty = false := by
      cases r with
      | nil => exact absurd rfl hne
      | cons a b => simp
    refine wpAny_binaryOp_repeat_ref (T := "tuple") (U := "int") (by decide) ⟨_, ho, rfl⟩ (fun s' => typeIs_int s' k t) noFill_tuple_mul F.fills_int_mul F.slot_int_rmul repeat_tuple F.slot_int_index.lookup
      (call_meets F.slot_int_rmul (typeIs_int s k t) F.entry_int_rmul (F.args_int_rmul_2 _ _) (int_rmul_tuple k t l its.toArray n dd sl) ⟨ho, rfl, ⟨_, ho, rfl⟩, ?_⟩)
    have h01 : k = 0 ∨ k = 1 := by omega
    rcases h01 with e | e
    · subst e
      refine call_meets F.slot_tuple_mul ⟨_, ho, rfl⟩ F.entry_tuple_mul (F.args_tuple_mul_2 _ _) (tmul_nul l its.toArray n dd sl t hi) ⟨ho, ?_⟩
      exact ⟨.ref s.heap.objs.size, _, I.laid (t' := s.toks) (o := .tup []) (fun b ob q => Heap.get?_push_of_some _ q) (Nat.le_refl _) ⟨Nat.zero_le _, [], .nil, IsTup.new _ _⟩, rfl, by simpa using q2 (by decide) _ (I.hok.fresh (Nat.le_refl _))⟩
    · subst e
      exact call_meets F.slot_tuple_mul ⟨_, ho, rfl⟩ F.entry_tuple_mul (F.args_tuple_mul_2 _ _) (tmul_one l its.toArray n dd sl t) ⟨ho, .ref l, H, I, rfl, q1 rfl⟩
end
end JC
namespace JR
open PySem PySem.Spec PyProof.Rows L2
def fMulT : OpFn := fun x y μ R => ∃ ds, ∃ k : Nat, tOf x = some ds ∧ y = .d (.int (k : Int)) ∧ ds ≠ [] ∧ k ≤ 1000 ∧ ds.length ≤ 1000 ∧ R (.d (.tuple (List.replicate k ds).flatten)) μ
theorem dps_rep {H : Hp} {vs : List V} {ds : List PyData} (h : DpAll KZ H vs ds) : ∀ k : Nat, DpAll KZ H (List.replicate k vs).flatten (List.replicate k ds).flatten
  | 0 => .nil
  | k + 1 => by
    rw [List.replicate_succ, List.replicate_succ, List.flatten_cons, List.flatten_cons]
    exact dps_app h (dps_rep h k)
theorem od_mulT {g : Cf} {K : PySem.W.Frag} : OpD g (JC.rRepA K) fMulT := fun α H0 ρ μ σ H x y dx dy R Q S rx ry ⟨ds, k, e1, e2, hne, hk, hz, q⟩ kk => by
  subst e2
  cases (show Dp KZ H0 y (.int k) from ry)
  obtain ⟨l, vs, ex, hs, ha⟩ := tOf_ok S rx e1
  have f1 := tOf_eq e1
  subst f1
  refine ⟨l, k, vs, ex, rfl, sqt_k hs, fun z => hne ?_, hk, by rw [dps_len ha]; exact hz, fun e => ?_, fun _ p hp => ?_⟩
  · subst z; cases ha; rfl
  · subst e
    rw [← ex]
    have e2 : (List.replicate 1 ds).flatten = ds := by simp
    rw [e2] at q
    exact kk α H0 μ H x (.d (.tuple ds)) S (Stp.refl _ _ _) rx q
  · obtain ⟨a1, a2, a3⟩ := S.newD hp (dps_rep ha k)
    exact kk α _ μ _ (.ref p) (.d (.tuple _)) a1 a2 a3 q
theorem jd_mulT {X : Cx} {g : Cf} {a b : Expr} {ta tb : TD} {pos : Pos} (ha : PE X a (uTE g ta)) (hb : PE X b (uTE g tb)) : PE X (.BinOp a .Mult b pos) (uTE g (tdOp fMulT ta tb)) := jd_op JC.op_repA od_mulT ha hb
end JR
set_option maxHeartbeats 1000000
/-! JD21: tuple(d.values()), a dict comprehension that is stored. -/
namespace JC
open PySem PySem.Spec PyProof.Rows L2
section
variable {prog : Program} {w : World} {A : Around} {E : Value → Shared → Prop} {s : Shared} {T : String} {r d : Addr} {n : Nat} {P : Nat → Value → Prop} {OK : Heap → Prop}
theorem src_collect {Q : List Value → Shared → Prop} (K : PySem.W.KdlSrc prog w T r d n P OK) (hh : A.handled = none) (hok : OK s.heap) (hn : n ≤ sizeLine)
    (hQ : ∀ (h' : Heap) (tk : Nat) (acc : Array Value), (∀ b o, s.heap.get? b = some o → h'.get? b = some o) → ItemsOf P acc n → Q acc.toList { s with heap := h', toks := tk }) : wpAny (model prog w) A (collect (.ref r)) Q E s := by
  have hlt := K.there _ hok
  unfold collect
  refine wpAny_bind (wpAny_runValue (codeAny_builtin F.entry_proto_collect ?_))
  rw [Around.under_plainId F.plain_proto_collect _]
  show wpAny _ A.in1 (newList [] >>= fun l => again (.builtin "list.__iadd__" ⟨[l, .ref r], []⟩)) _ _ s
  refine wpAny_bind (wpAny_newObj_type ?_)
  refine wpAny_pure ⟨plainId_quiet F.plain_list_iadd _, codeAny_builtin F.entry_list_iadd ?_⟩
  rw [Around.under_plainId F.plain_list_iadd _]
  show wpAny _ A.in1 (Builtin.List.listExtendWith (.ref s.heap.objs.size) (.ref r) (.ref s.heap.objs.size)) _ _ _
  have hS : (s.heap.push { cls := .type "list", data := .seq ([] : List Value).toArray }).get? s.heap.objs.size = some { cls := .type "list", data := .seq #[] 0 } := Heap.get?_push_size _ rfl
  refine wpAny_mono (PySem.W.kdl_extend (A := A) (R := fun rr s' => rr = .ok (.ret (.ref s.heap.objs.size)) ∧ ∃ (h' : Heap) (tk : Nat) (acc : Array Value) (c' : Nat), s' = { s with heap := h', toks := tk } ∧
      (∀ b o, s.heap.get? b = some o → h'.get? b = some o) ∧ h'.get? s.heap.objs.size = some { cls := .type "list", dict := none, data := .seq acc c', slots := #[] } ∧ ItemsOf P acc n)
    (s := { s with heap := s.heap.push { cls := .type "list", data := .seq ([] : List Value).toArray } }) K hh (K.keep _ _ hok fun b _ o e => Heap.get?_push_of_some _ e) s.heap.objs.size (Nat.ne_of_gt hlt.1) (Nat.ne_of_gt hlt.2) (.ref s.heap.objs.size) 0 hS
    (fun h' tk acc c' hk e hi => ⟨rfl, h', tk, acc, c', rfl, fun b o q => hk b o (Nat.ne_of_lt (Heap.lt_size q)) (Heap.get?_push_of_some _ q), e, hi⟩) hn) (fun fin s' h => ?_) (fun e s' h => ?_)
  · cases fin with
    | done f =>
      obtain ⟨e, h', tk, acc, c', rfl, hk, hS', hi⟩ := h
      cases e
      show wpAny _ A (load s.heap.objs.size >>= _) _ _ _
      exact wpAny_bind (wpAny_load hS' (wpAny_pure (hQ h' tk acc hk hi)))
    | again c' =>
      refine ⟨h.1, codeAny_mono h.2 fun rr s'' hr' => ?_⟩
      obtain ⟨rfl, h', tk, acc, c', rfl, hk, hS', hi⟩ := hr'
      show wpAny _ A (load s.heap.objs.size >>= _) _ _ _
      exact wpAny_bind (wpAny_load hS' (wpAny_pure (hQ h' tk acc hk hi)))
  · exact absurd h.1 (by simp)
theorem src_tupNew {Q₁ : Value → Shared → Prop} (K : PySem.W.KdlSrc prog w T r d n P OK) (hh : A.handled = none) (hok : OK s.heap) (hn : n ≤ 16000000)
    (h : ∀ (h' : Heap) (tk : Nat) (acc : Array Value), (∀ b o, s.heap.get? b = some o → h'.get? b = some o) → ItemsOf P acc n → Q₁ (.ref h'.objs.size) { s with heap := h'.push { cls := .type "tuple", data := .seq acc }, toks := tk }) :
    codeAny (model prog w) A (.call (.builtin "tuple.__new__") ⟨[.type "tuple", .ref r], []⟩) (wants Q₁ E) s := by
  refine codeAny_of_tree ?_
  show wpAny _ A.in1 (do checkBuiltinCall "tuple.__new__" ⟨[.type "tuple", .ref r], []⟩; again (.builtin "tuple.__new__" ⟨[.type "tuple", .ref r], []⟩)) _ _ s
  refine wpAny_bind (wpAny_of_eq (F.newCall_tuple_1 _) (wpAny_pure ⟨plainId_quiet F.plain_tuple_new _, codeAny_builtin F.entry_tuple_new ?_⟩))
  rw [Around.under_plainId F.plain_tuple_new _]
  have g1 := sub_tuple_self
  have g2 := init_tuple_lookup
  have g3 := madeHere_tuple
  have tR : s.TypeIs (.ref r) T := K.type s hok
  have tN := K.notTuple
  have hhd : A.in1.handled = none := hh
  have hn2 : n ≤ sizeLine := by rw [sizeLine_eq]; omega
  wp_walk using wpAny_typeOf tR, src_collect (A := A.in1) K hhd hok hn2
  intro h' tk acc hk hacc
  show wpAny _ _ (Builtin.Tuple.tupleExact acc.toList.toArray >>= fun v => ret v) _ _ _
  unfold Builtin.Tuple.tupleExact
  refine wpAny_bind (wpAny_newObj_type ?_ (by show acc.toList.toArray.size ≤ sizeLine; simp only [Array.toArray_toList]; rw [hacc.1]; exact hn2))
  refine wpAny_pure ?_
  have e : acc.toList.toArray = acc := by simp
  rw [e]
  exact h h' tk acc hk hacc
theorem src_tuple {Q : Value → Shared → Prop} (K : PySem.W.KdlSrc prog w T r d n P OK) (hh : A.handled = none) (hok : OK s.heap) (hn : n ≤ 16000000)
    (hQ : ∀ (h' : Heap) (tk : Nat) (acc : Array Value), (∀ b o, s.heap.get? b = some o → h'.get? b = some o) → ItemsOf P acc n → Q (.ref h'.objs.size) { s with heap := h'.push { cls := .type "tuple", data := .seq acc }, toks := tk }) :
    wpAny (model prog w) A (call (.type "tuple") [.ref r]) Q E s := by
  refine callType_codes (Q₁ := fun obj s₁ => s₁.TypeIs obj "tuple" ∧ Q obj s₁) F.called_tuple (F.typeCall_tuple_1 _) F.entry_object_init
    (src_tupNew (A := A.in1) K hh hok hn fun h' tk acc hk hacc => ⟨⟨_, Heap.get?_push_size _ rfl, rfl⟩, hQ h' tk acc hk hacc⟩) fun obj s₁ h₁ => ?_
  exact ⟨h₁.1, F.args_object_init_2 obj _, object_init_meets F.called_tuple.init.lookup F.called_tuple.made (by decide) prog w A.in1 _ s₁ ⟨h₁.1, rfl, h₁.2⟩⟩
end
section
variable {X : Cx} {o : Expr} {p pos apos mpos : Pos} {td : TE}
def tTupVals (td : TE) : TE := fun σ H Q => td σ H fun x H1 => ∃ a kvs, x = V.ref a ∧ Rd H1 a (.dK kvs) ∧ kvs.length ≤ 100000 ∧ ∀ p, H1 p = none → Q (.ref p) (upd H1 p (.tup (kvs.map (·.2))))
theorem vals_snd {kvs : List (Key × V)} {vs : List (Key × Value)} (r : KV kvs vs) : Vals (kvs.map (·.2)) (vs.map (·.2)) := by
  induction r with
  | nil => exact .nil
  | cons h t ih => exact .cons h.2 ih
theorem pe_tupVals (hc : X.calm = true) (hg : Gl X "tuple") (hm : X.mg "tuple" = none) (hd : PE X o td) (hbase : attributeBase o "values" X.env (eval o X.env) = eval o X.env := by rfl) (hline : (apos.endLine == mpos.line) = true := by rfl)
    (na : starEach [.Call (.Attribute o "values" apos) [] [] mpos] X.env = (false, eval (.Call (.Attribute o "values" apos) [] [] mpos) X.env) :: starEach [] X.env := by rfl) :
    PE X (.Call (.Name "tuple" p) [.Call (.Attribute o "values" apos) [] [] mpos] [] pos) (tTupVals td) := by
  refine ⟨fun pins s σ H Q I h => ?_⟩
  refine Call_ (ld_blt I hg hm boot_tuple (PyProof.Rows.callWith_type1 (args_cons (wpAny_Call_method0_late hbase hline (thn (hd.run pins s σ H _ I h) fun v s1 ⟨x, H1, I1, r1, a, kvs, ex, ha, hl, q⟩ => ?_)) na) na))
  subst ex
  obtain rfl : v = Value.ref a := r1
  obtain ⟨hz, hsys, vs, rel, dof⟩ := dk_rd I1.hok ha
  obtain ⟨ep, dat⟩ := dof.dictAt
  have dat' := dat
  obtain ⟨ob, es, ho, ex, hdat, hko, hpr, hnd⟩ := dat'
  refine ⟨"dict", "dict.values", F.plainAttrs_dict, F.slot_dict_values, F.type_dict_values, ⟨ob, ho, ex.1⟩, fun b e => ?_, Calls.callWith_builtin rfl (PySem.evalArgs_none ?_)⟩
  · cases e
    exact ⟨ob, ho, ex.2.1⟩
  refine call_meetsIn F.slot_dict_values ⟨ob, ho, ex.1⟩ F.entry_dict_values (F.args_dict_values_1 _) (meets_dict_values (mixKind X.prog X.w) a hsys) ⟨⟨vs, dof⟩, ?_⟩
  refine args_nil ?_
  have k1 : ∀ b u, s1.heap.get? b = some u → (s1.heap.push { cls := .type "dict_values", data := .fields #[.ref a] }).get? b = some u := fun b u e => Heap.get?_push_of_some _ e
  have hlen := KV.length rel
  have I2 : Inv X pins σ H1 { s1 with heap := s1.heap.push { cls := .type "dict_values", data := .fields #[.ref a] } } := I1.kept (t' := s1.toks) k1
  refine src_tuple (PySem.W.kdl_values (knd := mixKind X.prog X.w) (kvs := vs) (ep := ep)) (I1.ok.hd hc) ⟨⟨_, Heap.get?_push_size _ rfl, rfl, rfl⟩, dat.keep k1⟩ (by omega) fun h' tk acc hk hi => ?_
  have eacc : acc.toList = vs.map (·.2) := PySem.W.kdl_vals_eq acc.toList (by rw [Array.length_toList]; exact hi.1) fun j v e => hi.2 j v (by rw [← Array.getElem?_toList]; exact e)
  have I3 : Inv X pins σ H1 { s1 with heap := h', toks := tk } := I2.kept hk
  refine ⟨.ref h'.objs.size, upd H1 h'.objs.size (.tup (kvs.map (·.2))), I3.laid (t' := tk) (fun c o e => Heap.get?_push_of_some _ e) (Nat.le_refl _) (show ObjOk X.prog X.w _ _ _ (.tup (kvs.map (·.2))) from ⟨by rw [List.length_map, sizeLine_eq]; omega, acc.toList, by rw [eacc]; exact vals_snd rel, ?_⟩), rfl, q _ (I3.hok.fresh (Nat.le_refl _))⟩
  rw [Array.toArray_toList]
  exact IsTup.new _ _
/-- y = {k: v for ..}: the block's value stored while it ends -/
theorem ps_setDc {i : Nat} {y : Str} {py : Pos} {kx vx tg iter : Expr} {ifs : List Expr} {scope : Scope} {own : List (Str × Nat)} {spos : Pos} {wi : TI} {g : TG} {tt : TT} {tk tv : TE} (hc : X.calm = true) (hN : X.N.Nodup) (hy : X.N[i]? = some y) (hyl : X.env.scope.names.lookup y = some .local)
    (hsw : swapsWith (.DictComp kx vx [⟨tg, iter, ifs, 0⟩] scope pos) (some (.Name y py)) spos.line X.env = pure true) (hi : PI X tg iter wi) (ok : BlkOk X.N X.env.scope scope own)
    (hg : ∀ (s : Shared) (H : Hp) (C : Addr) (cl : List (Str × Addr)) (fp : List Addr), PG (X.blk s H scope (compEnvC scope cl C X.env) fp) tg g) (ht : ∀ (s : Shared) (H : Hp) (C : Addr) (cl : List (Str × Addr)) (fp : List Addr), PTs (X.blk s H scope (compEnvC scope cl C X.env) fp) ifs tt)
    (hk : ∀ (s : Shared) (H : Hp) (C : Addr) (cl : List (Str × Addr)) (fp : List Addr), PE (X.blk s H scope (compEnvC scope cl C X.env) fp) kx tk)
    (he : ∀ (s : Shared) (H : Hp) (C : Addr) (cl : List (Str × Addr)) (fp : List Addr), PE (X.blk s H scope (compEnvC scope cl C X.env) fp) vx tv) (hs : ∀ x, foldedSetIterable iter X.env x = pure x := by intro _; rfl) :
    PS X (.Assign [.Name y py] (.DictComp kx vx [⟨tg, iter, ifs, 0⟩] scope pos) spos) (tAsg (tDc wi g tt tk tv (own.map (·.2))) (gName i)) := by
  refine ⟨fun pins s σ H D I h => ?_⟩
  rw [exec_Assign_Name_used _ _ _ _ hsw]
  refine wpAny_bind (wpAny_standAt (wpAny_bind ?_))
  show wpAny _ X.A (do let _ ← comprehension (.DictComp kx vx [⟨tg, iter, ifs, 0⟩] scope pos) scope X.env (firstIterPos [⟨tg, iter, ifs, 0⟩] pos) newDict false (eval iter X.env) (some (assign (.Name y py) X.env))) _ _ s
  have h : tDc wi g tt tk tv (own.map (·.2)) σ H (fun x H1 => gName i x σ H1 D.nx) := h
  refine wpAny_bind (thn (dc_core (Qf := fun _ s' => SP X pins D .next s') hc hN I hi ok hg ht hk he hs h fun L C s' m H' I' q hn f => ?_) fun _ s' hq => wpAny_pure (wpAny_pure hq))
  show wpAny _ _ (assign (.Name y py) X.env (.ref L)) _ _ _
  refine wpAny_assign_Name (store_ok2 (v := V.ref L) I' hN hy (.inl hyl) rfl (fun s2 I2 ⟨a, sb, ha⟩ => ?_) (.inr hyl))
  obtain ⟨f0, f1, f2, f3, f4, f5⟩ := f
  have hca : C ≠ a := by
    rcases ha with z | z
    · rw [z]; exact f1
    · exact fun e => f4 y a z e.symm
  refine ⟨m, hn.sameBut sb hca, fun h3 sb3 => ?_⟩
  exact ⟨_, H', I2.turned (t' := s2.toks) (fun b o hb e => (sb3.2 b hb).trans e) f0 f1 f3 f4 f5, q⟩
end
end JC
set_option maxHeartbeats 1000000
/-! JD22: sets of texts, dicts of texts, a sign in a text, over data. -/
namespace JR
open PySem PySem.Spec PyProof.Rows L2

/-! ### a set of texts that grows -/
section
variable {X : Cx} {C : Addr} {o e a b : Expr} {te ta tb : TD} {p pos apos cpos : Pos}
def tdSet0 : TD := fun _ μ R => R (.c μ.length) (μ ++ [.k []])
theorem jd_set0 (hg : Gl X "set") (hm : X.mg "set" = none) : PE X (.Call (.Name "set" p) [] [] pos) (uTE ⟨X.prog, X.w, C⟩ tdSet0) := (pe_callTy0 cr_set0K hg hm (by decide +kernel)).imp fun σ H Q ⟨α, H0, ρ, μ, R, S, h, k⟩ => by
  have h : R (.c μ.length) (μ ++ [.k []]) := h
  refine ⟨rfl, fun l hl => ?_⟩
  have h0 := S.free hl
  have hn := S.nin hl
  have S1 : SS ⟨X.prog, X.w, C⟩ α H0 ρ μ σ (upd H l (SetK X.prog X.w l (fun _ => false) 0)) := S.side h0 hn
  have p1 : Stp α H0 H α H0 (upd H l (SetK X.prog X.w l (fun _ => false) 0)) := (Stp.refl α H0 H).sideW hl
  exact k (α ++ [l]) H0 (μ ++ [.k []]) _ (.ref l) (.c μ.length) (S1.cell (c := .k []) hn ⟨h0, _, 0, upd_same, fun k => by simp, Nat.zero_le _⟩ (by rw [upd_same]; simp)) (p1.cell hl) ⟨l, rfl, by rw [← S.len]; simp⟩ h
def fAddK (x y : DV) (μ : Sto) (R : DV → Sto → Prop) : Prop := ∃ k ns z, x = .c k ∧ y = .d (.str z) ∧ μ[k]? = some (.k ns) ∧ ns.length < 4000 ∧ R (.d .none) (μ.set k (.k (ns ++ [z])))
def tdAddK (te ta : TD) : TD := fun ρ μ R => te ρ μ fun x μ1 => (∃ k ns, x = .c k ∧ μ1[k]? = some (.k ns)) ∧ ta ρ μ1 fun y μ2 => fAddK x y μ2 R
theorem jd_addK (ho : PE X o (uTE ⟨X.prog, X.w, C⟩ te)) (h1 : PE X e (uTE ⟨X.prog, X.w, C⟩ ta)) (hbase : attributeBase o "add" X.env (eval o X.env) = eval o X.env := by rfl)
    (hfew : ((backTo cpos (starEach [e] X.env)).all (fun x => !x.1) && (backToKw cpos (keywordEach [] X.env)).all (fun x => x.1.isSome) && decide ([e].length + ([] : List Keyword).length + (if ([] : List Keyword).isEmpty then 0 else 1) < 30)) = true := by rfl)
    (hline : (apos.endLine == cpos.line) = true := by rfl) (hs : starEach [e] X.env = (false, eval e X.env) :: starEach [] X.env := by rfl) (hplain : (backTo cpos (starEach [] X.env)).any (·.1) = false := by rfl) :
    PE X (.Call (.Attribute o "add" apos) [e] [] cpos) (uTE ⟨X.prog, X.w, C⟩ (tdAddK te ta)) := (pe_saddK ho (pa_cons h1 pa_nil hs) hbase hfew hline hs hplain).imp fun σ H Q ⟨α, H0, ρ, μ, R, S, h, k⟩ =>
  ⟨α, H0, ρ, μ, _, S, h, fun α1 H01 μ1 H1 x dx S1 p1 rx ⟨⟨j, ns, e1, hj⟩, h1⟩ => by
    subst e1
    obtain ⟨a, ex, ha⟩ := rx
    subst ex
    obtain ⟨h0, T, n, hT, hk, hn⟩ := S1.cel j a _ ha hj
    refine ⟨⟨a, T, n, rfl, hT⟩, α1, H01, ρ, μ1, _, S1, h1, fun α2 H02 μ2 H2 y dy S2 p2 ry ⟨j', ns', z, e1, e2, hj', hl, q⟩ => ?_⟩
    cases e1
    subst e2
    cases (show Dp KZ H02 y (.str z) from ry)
    have ha2 := p2.get ha
    obtain ⟨h02, T2, n2, hT2, hk2, hn2⟩ := S2.cel j a _ ha2 hj'
    refine ⟨a, .inr z, T2, n2, rfl, rfl, hT2, by unfold scanBound; omega, ?_⟩
    refine k α2 H02 _ _ .non (.d .none) (S2.put (c := .k (ns' ++ [z])) ha2 h02 ⟨h02, _, _, upd_same, fun q => ?_, ?_⟩) ((p1.trans p2).trans (Stp.put ha2)) .non q
    · show (T2 q || decide (q = Sum.inr z)) = true ↔ _
      rw [Bool.or_eq_true, hk2 q, decide_eq_true_iff]
      constructor
      · rintro (⟨x, hx, e⟩ | e)
        · exact ⟨x, List.mem_append_left _ hx, e⟩
        · exact ⟨z, by simp, e⟩
      · rintro ⟨x, hx, e⟩
        rcases List.mem_append.mp hx with hx | hx
        · exact .inl ⟨x, hx, e⟩
        · have : x = z := by simpa using hx
          exact .inr (this ▸ e)
    · rw [List.length_append, List.length_singleton]
      split <;> omega⟩
def fInK : OpFn := fun x y μ R => ∃ k ns z, x = .d (.str z) ∧ y = .c k ∧ μ[k]? = some (.k ns) ∧ R (.d (.bool (decide (z ∈ ns)))) μ
theorem od_inK {g : Cf} : OpD g (rSInK g.P g.w false) fInK := fun α H0 ρ μ σ H x y dx dy R Q S rx ry ⟨j, ns, z, e1, e2, hj, q⟩ k => by
  subst e1 e2
  cases (show Dp KZ H0 x (.str z) from rx)
  obtain ⟨a, ex, ha⟩ := ry
  subst ex
  obtain ⟨h0, T, n, hT, hk, hn⟩ := S.cel j a _ ha hj
  refine ⟨.inr z, a, T, n, rfl, rfl, hT, ?_⟩
  rw [if_neg Bool.false_ne_true]
  have e : T (.inr z) = decide (z ∈ ns) := by
    have h := hk (.inr z)
    by_cases hz : z ∈ ns
    · rw [decide_eq_true hz]
      exact h.mpr ⟨z, hz, rfl⟩
    · rw [decide_eq_false hz]
      cases q : T (.inr z) with
      | false => rfl
      | true =>
        obtain ⟨x, hx, e⟩ := h.mp q
        cases e
        exact absurd hx hz
  rw [e]
  exact k α H0 μ H _ (.d (.bool _)) S (Stp.refl _ _ _) (.bl _) q
/-- one sign in a text -/
def fInSg : OpFn := fun x y μ R => ∃ c z, x = .d (.str ⟨#[c]⟩) ∧ y = .d (.str z) ∧ R (.d (.bool (decide (c ∈ z.cps.toList)))) μ
theorem od_inSg {g : Cf} : OpD g (fun x y H Q => ∃ (c : Nat) (z : Str), x = .str ⟨#[c]⟩ ∧ y = .str z ∧ Q (.bl (decide (c ∈ z.cps.toList))) H) fInSg := fun α H0 ρ μ σ H x y dx dy R Q S rx ry ⟨c, z, e1, e2, q⟩ k => by
  subst e1 e2
  cases (show Dp KZ H0 x (.str ⟨#[c]⟩) from rx)
  cases (show Dp KZ H0 y (.str z) from ry)
  exact ⟨c, z, rfl, rfl, k α H0 μ H _ (.d (.bool _)) S (Stp.refl _ _ _) (.bl _) q⟩
end
/-! ### dicts of texts -/
section
variable (t : Tg) (tt : TTd) (tk te : TD) (ρw : Env) (stay : Sto → Prop) (R : List (Str × PyData) → Sto → Prop)
def dcGo : List PyData → List (Str × PyData) → Sto → Prop
  | [], acc, μ => stay μ ∧ R acc μ
  | x :: xs, acc, μ => stay μ ∧ tgD t x ρw fun ρ1 => tt ρ1 μ fun b μ2 => if b = true then tk ρ1 μ2 fun kv μ3 => te ρ1 μ3 fun dv μ4 => ∃ z d, kv = .d (.str z) ∧ dv = .d d ∧ acc.length < 100000 ∧ (∀ p ∈ acc, p.1 ≠ z) ∧ dcGo xs (acc ++ [(z, d)]) μ4 else dcGo xs acc μ2
end
abbrev KvR (H0 : Hp) : List (Key × V) → List (Str × PyData) → Prop := Paired (fun (p : Key × V) (q : Str × PyData) => p.1 = Sum.inr q.1 ∧ Dp KZ H0 p.2 q.2)
theorem kvR_len {H0 : Hp} : ∀ {vs : List (Key × V)} {kvs : List (Str × PyData)}, KvR H0 vs kvs → vs.length = kvs.length
  | _, _, .nil => rfl
  | _, _, .cons _ t => congrArg Nat.succ (kvR_len t)
theorem kvR_snoc {H0 : Hp} {p : Key × V} {q : Str × PyData} (h1 : p.1 = Sum.inr q.1) (h2 : Dp KZ H0 p.2 q.2) : ∀ {vs : List (Key × V)} {kvs : List (Str × PyData)}, KvR H0 vs kvs → KvR H0 (vs ++ [p]) (kvs ++ [q])
  | _, _, .nil => .cons ⟨h1, h2⟩ .nil
  | _, _, .cons r t => .cons r (kvR_snoc h1 h2 t)
theorem kvR_same {H0 H1 : Hp} (e : Same H0 H1) {vs : List (Key × V)} {kvs : List (Str × PyData)} (h : KvR H0 vs kvs) : KvR H1 vs kvs := Paired.mapP h fun p q z => ⟨z.1, dp_same e _ _ z.2⟩
theorem kvR_none {H0 : Hp} {z : Str} : ∀ {vs : List (Key × V)} {kvs : List (Str × PyData)}, KvR H0 vs kvs → (∀ p ∈ kvs, p.1 ≠ z) → valV vs (.inr z) = none
  | _, _, .nil, _ => rfl
  | _, _, .cons (a := a) (b := b) r t, h => by
    rw [valV_neg (fun e => h b (List.mem_cons_self ..) (by rw [r.1] at e; exact Sum.inr.inj e))]
    exact kvR_none t fun p hp => h p (List.mem_cons_of_mem _ hp)
def getD : List (Str × PyData) → Str → Option PyData
  | [], _ => none
  | p :: r, z => if p.1 = z then some p.2 else getD r z
theorem kvR_get {H0 : Hp} {z : Str} {d : PyData} : ∀ {vs : List (Key × V)} {kvs : List (Str × PyData)}, KvR H0 vs kvs → getD kvs z = some d → ∃ v, valV vs (.inr z) = some v ∧ Dp KZ H0 v d
  | _, _, .nil, h => by cases h
  | _, _, .cons (a := a) (b := b) r t, h => by
    unfold getD at h
    by_cases e : b.1 = z
    · rw [if_pos e] at h
      cases h
      exact ⟨a.2, valV_pos (by rw [r.1, e]), r.2⟩
    · rw [if_neg e] at h
      rw [valV_neg (fun q => e (by rw [r.1] at q; exact Sum.inr.inj q))]
      exact kvR_get t h
theorem kvR_vals {H0 : Hp} : ∀ {vs : List (Key × V)} {kvs : List (Str × PyData)}, KvR H0 vs kvs → DpAll KZ H0 (vs.map (·.2)) (kvs.map (·.2))
  | _, _, .nil => .nil
  | _, _, .cons r t => .cons r.2 (kvR_vals t)
def tdDc (wd : TId) (t : Tg) (tt : TTd) (tk te : TD) (vs : List Nat) : TD := fun ρ μ R => wd ρ μ fun items stay μ1 => dcGo t tt tk te (wipeD ρ vs) stay (fun acc μ' => R (.kd acc) μ') items [] μ1
section
variable {g : Cf} {t : Tg} {wd : TId} {tt : TTd} {tk te : TD} {vs : List Nat}
theorem tdDc_imp {K : PySem.W.Frag} (hv : ∀ i ∈ t.ix, i ∈ vs) : ∀ σ H Q, uTE g (tdDc wd t tt tk te vs) σ H Q → tDc (uTI g wd) (tgG K t) (uTT g tt) (uTE g tk) (uTE g te) vs σ H Q := fun σ H Q ⟨α, H0, ρ, μ, R, S, q, k⟩ =>
  ⟨α, H0, ρ, μ, _, S, q, fun α1 H01 μ1 H1 J items stay S1 p1 W q1 D hD => by
    have hDα := S1.nin hD
    have hD0 := S1.free hD
    have Sw : SS g α1 H01 (wipeD ρ vs) μ1 (L2.wipe σ vs) (upd H1 D (.dK [])) := (S1.side hD0 hDα).wipe vs
    have hDs : H D = none := by
      cases z : H D with
      | none => rfl
      | some o => exact absurd hD (p1.al D (by rw [z]; simp))
    refine ⟨fun i m H2 => ∃ α2 H02 μ2 accv acc, m = items.length - i ∧ i ≤ items.length ∧ SS g α2 H02 (wipeD ρ vs) μ2 (L2.wipe σ vs) H2 ∧ Stp α1 H01 H1 α2 H02 H2 ∧ H2 D = some (.dK accv) ∧ H02 D = none ∧ D ∉ α2 ∧ KvR H02 accv acc ∧ dcGo t tt tk te (wipeD ρ vs) stay (fun acc μ' => R (.kd acc) μ') (items.drop i) acc μ2,
      ⟨items.length, α1, H01, μ1, [], [], by simp, Nat.zero_le _, Sw, (Stp.refl _ _ _).sideW hD, upd_same, hD0, hDα, .nil, by simpa using q1⟩, ?_⟩
    rintro i m H2 ⟨α2, H02, μ2, accv, acc, rfl, hi, S2, p2, hDl, hDz, hDn, hA, q2⟩
    by_cases hlt : i < items.length
    · have hdr : items.drop i = items[i] :: items.drop (i + 1) := (List.drop_eq_getElem_cons hlt)
      rw [hdr] at q2
      obtain ⟨hst, q2⟩ := q2
      obtain ⟨hgo, hy⟩ := W.goes i α2 H02 _ μ2 _ H2 hlt S2 p2.grw hst
      refine .inr ⟨hgo, fun H' => ∃ α3 H03 μ3 accv acc, SS g α3 H03 (wipeD ρ vs) μ3 (L2.wipe σ vs) H' ∧ Stp α1 H01 H1 α3 H03 H' ∧ H' D = some (.dK accv) ∧ H03 D = none ∧ D ∉ α3 ∧ KvR H03 accv acc ∧ dcGo t tt tk te (wipeD ρ vs) stay (fun acc μ' => R (.kd acc) μ') (items.drop (i + 1)) acc μ3,
        fun H' ⟨α3, H03, μ3, accv, acc, S3, p3, z⟩ => ⟨items.length - (i + 1), by omega, α3, H03, μ3, accv, acc, rfl, hlt, S3, p3, z⟩, fun x H' y => ?_⟩
      obtain ⟨H0x, d, Sx, px, ed, hd⟩ := hy x H' y
      rw [List.getElem?_eq_getElem hlt] at ed
      cases ed
      refine tg_ok (vw := vs) Sx hd q2 hv fun σ' ρ' S3 hw q3 => ⟨by rw [hw]; exact wipe_wipe σ vs, ?_⟩
      have p3 := p2.trans px
      refine ⟨α2, H0x, ρ', μ2, _, S3, q3, fun α4 H04 μ4 H4 b S4 p4 q4 => ?_⟩
      have p24 := px.trans p4
      have S4w : SS g α4 H04 (wipeD ρ vs) μ4 (L2.wipe σ vs) H4 := S4.slots S2 p24
      cases b with
      | false =>
        rw [if_neg Bool.false_ne_true] at q4
        obtain ⟨a1, a2, a3⟩ := p24.hold hDl hDz hDn
        refine iteF ?_
        exact ⟨α4, H04, μ4, accv, acc, S4w, p2.trans p24, a1, a2, a3, kvR_same p24.ex hA, q4⟩
      | true =>
        rw [if_pos rfl] at q4
        refine iteT ?_
        refine ⟨α4, H04, ρ', μ4, _, S4, q4, fun α5 H05 μ5 H5 kv dk S5 p5 rk q5 => ⟨α5, H05, ρ', μ5, _, S5, q5, fun α6 H06 μ6 H6 v dv S6 p6 rv ⟨z, d', e1, e2, hl, hnew, q6⟩ => ?_⟩⟩
        subst e1 e2
        cases (show Dp KZ H05 kv (.str z) from rk)
        have p26 := p24.trans (p5.trans p6)
        obtain ⟨a1, a2, a3⟩ := p26.hold hDl hDz hDn
        have hA6 := kvR_same p26.ex hA
        refine ⟨accv, .inr z, rfl, a1, small5 (by rw [kvR_len hA6]; exact hl), α6, H06, μ6, accv ++ [(.inr z, v)], acc ++ [(z, d')], (S6.slots S2 p26).side a2 a3, (p2.trans p26).sideW hD, ?_, a2, a3, kvR_snoc (p := (Sum.inr z, v)) (q := (z, d')) rfl rv hA6, q6⟩
        rw [putK_new v (kvR_none hA6 hnew)]
        exact upd_same
    · have ei : i = items.length := by omega
      subst ei
      rw [List.drop_length] at q2
      refine .inl ⟨W.stops α2 H02 _ μ2 _ H2 S2 p2.grw q2.1, ?_⟩
      have S2' : SS g α2 H02 ρ μ2 σ H2 := S2.slots S1 p2
      exact k α2 _ μ2 H2 (.ref D) (.kd acc) (S2'.freeze hDz hDn hDl) ((p1.trans p2).aside hDs hDz) ⟨D, accv, rfl, upd_same, kvR_same (upd_grow hDz) hA⟩ q2.2⟩
end
section
variable {X : Cx} {g : Cf} {C : Addr} {kx vx tg iter o e : Expr} {ifs : List Expr} {scope : Scope} {own : List (Str × Nat)} {p pos apos mpos : Pos} {t : Tg} {wd : TId} {tt : TTd} {tk te to : TD}
theorem js_setDc {i : Nat} {y : Str} {py spos : Pos} (hc : X.calm = true) (hN : X.N.Nodup) (hy : X.N[i]? = some y) (hyl : X.env.scope.names.lookup y = some .local) (hsw : swapsWith (.DictComp kx vx [⟨tg, iter, ifs, 0⟩] scope pos) (some (.Name y py)) spos.line X.env = pure true)
    (hi : PI X tg iter (uTI g wd)) (ok : BlkOk X.N X.env.scope scope own) (hv : ∀ i ∈ t.ix, i ∈ own.map (·.2))
    (hg : ∀ (s : Shared) (H : Hp) (C : Addr) (cl : List (Str × Addr)) (fp : List Addr), PG (X.blk s H scope (compEnvC scope cl C X.env) fp) tg (tgG X.K t)) (ht : ∀ (s : Shared) (H : Hp) (C : Addr) (cl : List (Str × Addr)) (fp : List Addr), PTs (X.blk s H scope (compEnvC scope cl C X.env) fp) ifs (uTT g tt))
    (hk : ∀ (s : Shared) (H : Hp) (C : Addr) (cl : List (Str × Addr)) (fp : List Addr), PE (X.blk s H scope (compEnvC scope cl C X.env) fp) kx (uTE g tk))
    (he : ∀ (s : Shared) (H : Hp) (C : Addr) (cl : List (Str × Addr)) (fp : List Addr), PE (X.blk s H scope (compEnvC scope cl C X.env) fp) vx (uTE g te)) (hs : ∀ x, foldedSetIterable iter X.env x = pure x := by intro _; rfl) :
    PS X (.Assign [.Name y py] (.DictComp kx vx [⟨tg, iter, ifs, 0⟩] scope pos) spos) (uTS g (tdSet i (tdDc wd t tt tk te (own.map (·.2))))) := (JC.ps_setDc hc hN hy hyl hsw hi ok hg ht hk he hs).imp fun D σ H h =>
      tdDc_imp hv σ H _ (tdSet_imp D σ H h)
def fDGet : OpFn := fun x y μ R => ∃ kvs z d, x = .kd kvs ∧ y = .d (.str z) ∧ getD kvs z = some d ∧ R (.d d) μ
theorem jd_dget {j : Nat} (hr : Room j X.A) (ho : PE X o (uTE g to)) (hi : PE X e (uTE g te)) (hs : NoSl e := by exact fun _ _ => rfl) : PE X (.Subscript o e pos) (uTE g (tdOp fDGet to te)) := (pe_dget (by have := hr.un; omega) ho hi hs).imp fun σ H Q ⟨α, H0, ρ, μ, R, S, h, k⟩ =>
  ⟨α, H0, ρ, μ, _, S, h, fun α1 H01 μ1 H1 x dx S1 p1 rx h1 => ⟨α1, H01, ρ, μ1, _, S1, h1, fun α2 H02 μ2 H2 y dy S2 p2 ry ⟨kvs, z, d, e1, e2, hg, q⟩ => by
    subst e1 e2
    obtain ⟨a, vs, ex, ha, hk⟩ := DvR.mono p2 rx
    subst ex
    cases (show Dp KZ H02 y (.str z) from ry)
    obtain ⟨v, hv, hd⟩ := kvR_get hk hg
    exact ⟨a, v, rfl, .inl ⟨vs, .inr z, .inl (S2.ext _ _ ha), rfl, hv.symm⟩, k α2 H02 μ2 H2 v (.d d) S2 (p1.trans p2) hd q⟩⟩⟩
def tdVals (to : TD) : TD := fun ρ μ R => to ρ μ fun x μ1 => ∃ kvs, x = .kd kvs ∧ kvs.length ≤ 100000 ∧ R (.d (.tuple (kvs.map (·.2)))) μ1
theorem jd_vals (hc : X.calm = true) (hg : Gl X "tuple") (hm : X.mg "tuple" = none) (hd : PE X o (uTE g to)) (hbase : attributeBase o "values" X.env (eval o X.env) = eval o X.env := by rfl) (hline : (apos.endLine == mpos.line) = true := by rfl)
    (na : starEach [.Call (.Attribute o "values" apos) [] [] mpos] X.env = (false, eval (.Call (.Attribute o "values" apos) [] [] mpos) X.env) :: starEach [] X.env := by rfl) :
    PE X (.Call (.Name "tuple" p) [.Call (.Attribute o "values" apos) [] [] mpos] [] pos) (uTE g (tdVals to)) := (JC.pe_tupVals hc hg hm hd hbase hline na).imp fun σ H Q ⟨α, H0, ρ, μ, R, S, h, k⟩ =>
  ⟨α, H0, ρ, μ, _, S, h, fun α1 H01 μ1 H1 x dx S1 p1 rx ⟨kvs, e1, hl, q⟩ => by
    subst e1
    obtain ⟨a, vs, ex, ha, hk⟩ := rx
    subst ex
    refine ⟨a, vs, rfl, .inl (S1.ext _ _ ha), by rw [kvR_len hk]; exact hl, fun l hl => ?_⟩
    obtain ⟨a1, a2, a3⟩ := S1.newD hl (kvR_vals hk)
    exact k α1 _ μ1 _ (.ref l) (.d (.tuple _)) a1 (p1.trans a2) a3 q⟩
end
end JR
set_option maxHeartbeats 1000000
/-! JD23: the purse, the world made, calls with keywords, a list of one's own handed over to be read. -/
namespace JR
open PySem PySem.Spec PyProof.Rows L2

/-! ### the purse: a list of three whole numbers -/
def fPrd : OpFn := fun x y μ R => ∃ k, ∃ i : Int, x = .c k ∧ y = .d (.int i) ∧ μ[k]? = some Cell.p ∧ 0 ≤ i ∧ i < 3 ∧ ∀ n : Int, R (.d (.int n)) μ
def tdPset (te to ti : TD) : TSd := fun D ρ μ => te ρ μ fun v μ1 => to ρ μ1 fun x μ2 => ti ρ μ2 fun y μ3 => ∃ k, ∃ i n : Int, v = .d (.int n) ∧ x = .c k ∧ y = .d (.int i) ∧ μ3[k]? = some Cell.p ∧ 0 ≤ i ∧ i < 3 ∧ D.nx ρ μ3
theorem ixN3 {i : Int} (h0 : 0 ≤ i) (h3 : i < 3) : ∃ j, ixN 3 i = some j ∧ j < 3 := by
  have : i = 0 ∨ i = 1 ∨ i = 2 := by omega
  rcases this with e | e | e <;> subst e
  · exact ⟨0, by decide, by decide⟩
  · exact ⟨1, by decide, by decide⟩
  · exact ⟨2, by decide, by decide⟩
theorem set_same {μ : Sto} {k : Nat} {c : Cell} (h : μ[k]? = some c) : μ.set k c = μ := by
  obtain ⟨hl, e⟩ := List.getElem?_eq_some_iff.mp h
  rw [← e]
  exact List.set_getElem_self hl
section
variable {X : Cx} {g : Cf} {C : Addr} {e o i a : Expr} {te to ti : TD} {p pos p2 : Pos}
theorem od_prd {K : PySem.W.Frag} : OpD g (rIxL K) fPrd := fun α H0 ρ μ σ H x y dx dy R Q S rx ry ⟨k, i, e1, e2, hk, h0, h3, q⟩ kk => by
  subst e1 e2
  cases (show Dp KZ H0 y (.int i) from ry)
  obtain ⟨a, ex, ha⟩ := rx
  subst ex
  obtain ⟨hn, u, v, w, hH⟩ := S.cel k a _ ha hk
  obtain ⟨j, hj, hj3⟩ := ixN3 h0 h3
  obtain ⟨n, hn⟩ : ∃ n : Int, [V.int u, V.int v, V.int w][j]? = some (.int n) := by
    have : j = 0 ∨ j = 1 ∨ j = 2 := by omega
    rcases this with e | e | e <;> subst e
    · exact ⟨u, rfl⟩
    · exact ⟨v, rfl⟩
    · exact ⟨w, rfl⟩
  refine ⟨a, _, i, .int n, rfl, rfl, .of hH, ?_, kk α H0 μ H _ (.d (.int n)) S (Stp.refl _ _ _) (.int _) (q n)⟩
  unfold atI
  rw [show ixN [V.int u, V.int v, V.int w].length i = some j from hj]
  exact hn
theorem jd_prd (ho : PE X o (uTE g to)) (hi : PE X i (uTE g ti)) (hs : PlainIx i := by exact fun _ _ => rfl) : PE X (.Subscript o i pos) (uTE g (tdOp fPrd to ti)) := (pe_ix ix_list ho hi hs).imp (tdOp_imp od_prd)
theorem js_pset (he : PE X e (uTE g te)) (hg : PG X (.Subscript o i p2) (gSub (uTE g to) (uTE g ti) rSetL)) (hs : swapsWithSole [.Subscript o i p2] e pos.line X.env = pure false := by rfl) (hw : swappedStores [.Subscript o i p2] e X.env = pure none := by rfl)
    (h1 : (assignEach [.Subscript o i p2] X.env).map (·.2) = [assign (.Subscript o i p2) X.env] := by rfl) : PS X (.Assign [.Subscript o i p2] e pos) (uTS g (tdPset te to ti)) := (ps_asg he hg hs hw h1).imp fun D σ H ⟨α, H0, ρ, μ, DD, S, h, E⟩ =>
  ⟨α, H0, ρ, μ, _, S, h, fun α1 H01 μ1 H1 v dv S1 p1 rv h1 => ⟨α1, H01, ρ, μ1, _, S1, h1, fun α2 H02 μ2 H2 x dx S2 p2 rx h2 => ⟨α2, H02, ρ, μ2, _, S2, h2, fun α3 H03 μ3 H3 y dy S3 p3 ry ⟨k, i, n, e1, e2, e3, hk, g0, g3, q⟩ => by
    subst e1 e2 e3
    cases (show Dp KZ H01 v (.int n) from rv)
    cases (show Dp KZ H03 y (.int i) from ry)
    obtain ⟨a, ex, ha⟩ := DvR.mono p3 rx
    subst ex
    obtain ⟨hn, u, v, w, hH⟩ := S3.cel k a _ ha hk
    obtain ⟨j, hj, hj3⟩ := ixN3 g0 g3
    refine ⟨a, _, i, j, rfl, rfl, hH, hj, ?_⟩
    have hset : ∃ u' v' w' : Int, [V.int u, V.int v, V.int w].set j (.int n) = [V.int u', V.int v', V.int w'] := by
      have : j = 0 ∨ j = 1 ∨ j = 2 := by omega
      rcases this with e | e | e <;> subst e
      · exact ⟨n, v, w, rfl⟩
      · exact ⟨u, n, w, rfl⟩
      · exact ⟨u, v, n, rfl⟩
    obtain ⟨u', v', w', e⟩ := hset
    rw [e]
    have S4 := S3.put (c := .p) (o := .lst [V.int u', V.int v', V.int w']) ha hn ⟨hn, u', v', w', upd_same⟩
    rw [set_same hk] at S4
    exact E.nx α3 H03 ρ μ3 σ _ S4 (p1.trans (p2.trans (p3.trans (Stp.put ha)))) q⟩⟩⟩
/-- a list of three numbers just made: a purse -/
def tdOwnP (t : TLd) : TD := fun ρ μ R => t ρ μ fun ds μ1 => (∃ x y z : Int, ds = [.int x, .int y, .int z]) ∧ R (.c μ1.length) (μ1 ++ [.p])
theorem jd_ownP {t : TLd} (h : PE X e (uTL g t)) : PE X e (uTE g (tdOwnP t)) := h.imp fun σ H Q ⟨α, H0, ρ, μ, R, S, q, k⟩ =>
  ⟨α, H0, ρ, μ, _, S, q, fun α1 H01 μ1 H1 p vs ds S1 p1 hp h0 hn hH hd ⟨⟨x, y, z, e⟩, q1⟩ => by
    subst e
    have ev : vs = [V.int x, V.int y, V.int z] := dps_ints (ns := [x, y, z]) hd
    subst ev
    exact k (α1 ++ [p]) H01 (μ1 ++ [.p]) H1 (.ref p) (.c μ1.length) (S1.cell (c := .p) hn ⟨h0, x, y, z, hp⟩ (by rw [hp]; simp)) (p1.cell hH) ⟨p, rfl, by rw [← S1.len]; simp⟩ q1⟩
/-- the promise of a def that makes a purse of a number -/
def spP : Sp := fun vs H Q _ => ∃ i : Int, vs = [.int i] ∧ ∀ p (x y z : Int) H', (∀ b o, H b = some o → H' b = some o) → H p = none → H' p = some (.lst [.int x, .int y, .int z]) → Q (.ref p) H'
def tdPurse (t : TD) : TD := fun ρ μ R => t ρ μ fun x μ1 => (∃ i : Int, x = .d (.int i)) ∧ R (.c μ1.length) (μ1 ++ [.p])
theorem purse_new {α : List Addr} {H0 H H' : Hp} {ρ : Env} {μ : Sto} {σ : L2.St} {p : Addr} {x y z : Int} (S : SS g α H0 ρ μ σ H) (hk : ∀ b o, H b = some o → H' b = some o) (hp : H p = none) (hn : H' p = some (.lst [.int x, .int y, .int z])) :
    SS g (α ++ [p]) H0 ρ (μ ++ [.p]) σ H' ∧ Stp α H0 H (α ++ [p]) H0 H' ∧ DvR g (α ++ [p]) H0 (.ref p) (.c μ.length) := by
  have hs : ∀ a, H a ≠ none → H' a = H a := fun a ha => by
    cases q : H a with
    | none => exact absurd q ha
    | some o => exact hk a o q
  have S1 : SS g α H0 ρ μ σ H' := ⟨fun b o q => hk b o (S.ext b o q), S.nd, S.len, fun k a c h1 h2 => CellR.mono (Same.refl _) (fun z => z) (hs a (S.liv a (List.mem_of_getElem? h1))) (S.cel k a c h1 h2), fun a ha => by rw [hs a (S.liv a ha)]; exact S.liv a ha, S.sl, S.slot⟩
  have h0 := S.free hp
  refine ⟨S1.cell (c := .p) (S.nin hp) ⟨h0, x, y, z, hn⟩ (by rw [hn]; simp), ⟨⟨[p], rfl⟩, Same.refl _, fun b o h _ => hk b o h, fun b h => by rw [hs b h]; exact h, fun b h => .inl h, fun a ha => ?_⟩, ⟨p, rfl, by rw [← S.len]; simp⟩⟩
  rcases List.mem_append.mp ha with q | q
  · exact .inl q
  · have e : a = p := by simpa using q
    rw [e]; exact .inr hp
/-- a def that makes a purse, as its callers need it -/
structure HasP (P : Program) (w : World) (K : PySem.W.Frag) (mg : Str → Option Value) (base : Heap) (x : Str) (ps : List Str) (k : Nat) : Prop where
  ex : ∃ f fd, mg x = some (.ref f) ∧ PySem.W.keepIn K (.ref f) = true ∧ Binds K fd ps [] ∧ FnOk P w K mg base CX0 k f fd ps spP
theorem jd_purse {x : Str} {ps : List Str} {k j : Nat} (h : HasP X.prog X.w X.K X.mg X.base x ps k) (hr : Room j X.A) (hk : k ≤ j) (hg : Gl X x) (ha : PE X e (uTE g te)) (hdb : (x == ("__debug__" : Str)) = false := by decide)
    (he : starEach [e] X.env = (false, eval e X.env) :: starEach [] X.env := by rfl) (hpl : (backTo pos (starEach [] X.env)).any (·.1) = false := by rfl) : PE X (.Call (.Name x p) [e] [] pos) (uTE g (tdPurse te)) := by
  obtain ⟨f, fd, h1, h2, h3, h4⟩ := h.ex
  refine (pe_call (E := E0) h4 (hr.mono hk) hg h1 h2 h3 .nil pass0 (pa_cons ha pa_nil he) hdb he hpl).imp fun σ H Q ⟨α, H0, ρ, μ, R, S, q, k⟩ => ?_
  refine ⟨α, H0, ρ, μ, _, S, q, fun α1 H01 μ1 H1 v dv S1 p1 rv ⟨⟨i, e⟩, q1⟩ => ?_⟩
  subst e
  cases (show Dp KZ H01 v (.int i) from rv)
  refine ⟨i, rfl, fun l x y z H' hk hl hn => ?_⟩
  obtain ⟨a1, a2, a3⟩ := purse_new S1 hk hl hn
  exact k _ _ _ H' (.ref l) (.c μ1.length) a1 (p1.trans a2) a3 q1
end
/-- the rule for such a def -/
def endsP : EndsD := { nx := fun _ _ => False, rt := fun dv μ => ∃ k : Nat, dv = .c k ∧ μ[k]? = some Cell.p }
section
variable {P : Program} {w : World} {K : PySem.W.Frag} {mg : Str → Option Value} {base : Heap} {C : Addr} {x qual : Str} {params : Arguments} {body : List Stmt} {scope : Scope} {kws : List (Str × V)} {f : Addr} {fd : FuncData} {N ps : List Str} {k n : Nat} {sc : Sc}
theorem okP (F : FunD K x qual params body scope [] kws f fd) (S : FnScope N ps scope) (hlen : ps.length = 1) (td : TSd)
    (hbody : ∀ (cdv : Value) (A : Around) (outer : List PySem.Env) (s : Shared) (H : Hp) (E : XK), Room k (A.deeper (envOfC qual scope s.heap.objs.size f cdv)) → PSs (cxOf CX0 P w K mg base N qual scope f cdv A outer s H E).nox body (uTS ⟨P, w, C⟩ td))
    (hsem : ∀ i : Int, td endsP (startD N.length [.d (.int i)]) []) : FnOk P w K mg base CX0 (k + 1) f fd ps spP := by
  refine F.ok S (fun vs H Q E ⟨i, h, _⟩ => ?_) (fun cdv A outer s H vs Q E hr ⟨i, h, kk⟩ => ?_)
  · rw [h, hlen]; rfl
  · subst h
    refine ⟨_, (hbody cdv A outer s H E hr).nox, ?_⟩
    have S0 : SS ⟨P, w, C⟩ [] (fun _ => none) [] [] [] H := ⟨(fun b o h => by cases h), List.nodup_nil, rfl, (fun k a c h => by simp at h), (fun a h => by simp at h), rfl, fun i dv h => by simp at h⟩
    refine ⟨[], fun _ => none, _, [], _, start_ok (vs := [.int i]) (dvs := [.d (.int i)]) S0 (.cons (.int i) .nil), hsem i, ⟨fun _ _ _ _ _ _ _ _ h => h.elim, fun α' H0' ρ' μ' σ' H' v dv S1 p1 rv ⟨k, e, h1⟩ => ?_, fun _ _ _ _ _ _ _ _ h => h.elim, fun _ _ _ _ _ _ _ _ h => h.elim⟩⟩
    subst e
    obtain ⟨a, ea, ha⟩ := rv
    subst ea
    obtain ⟨_, u, v, w, hH⟩ := S1.cel k a _ ha h1
    refine kk a u v w H' (fun b o hb => p1.fr b o hb (by simp)) ?_ hH
    rcases p1.nc a (List.mem_of_getElem? ha) with q | q
    · simp at q
    · exact q
end

/-! ### keywords -/
theorem kb_all {K : PySem.W.Frag} {x qual : Str} {params : Arguments} {body : List Stmt} {scope : Scope} {kws : List (Str × V)} {f : Addr} {fd : FuncData} {ps ks : List Str} {n : Nat} (F : FunD K x qual params body scope [] kws f fd)
    (h : ∀ (kV doc pm : Value) (an : Option Addr) (cdv ct : Value) (us ws : List Value), us.length = n → ws.length = ks.length → bindArgs (PySem.W.fnOf x qual params body scope .none kV doc pm an cdv ct) ⟨us, ks.zip ws⟩ = pure (ps.zip (us ++ ws))) :
    KBn K fd ps n ks (fun us ws => us ++ ws) (fun vs zs => vs ++ zs) := by
  obtain ⟨oc, od, dV, kV, doc, pm, an, cdv, ct, osl, rfl, lk, hcd, hD, hK⟩ := F.ex
  rcases hD with ⟨_, rfl⟩ | ⟨e, _⟩
  · exact ⟨fun s us ws _ l1 l2 => .of_eq (h kV doc pm an cdv ct us ws l1 l2), fun r1 r2 => r1.append r2⟩
  · exact absurd rfl e
/-- a def called with n values and keywords ks -/
structure HasK (P : Program) (w : World) (K : PySem.W.Frag) (mg : Str → Option Value) (base : Heap) (C : Addr) (x : Str) (ps : List Str) (n : Nat) (ks : List Str) (k : Nat) (sc : Sc) : Prop where
  ex : ∃ f fd, mg x = some (.ref f) ∧ PySem.W.keepIn K (.ref f) = true ∧ KBn K fd ps n ks (fun us ws => us ++ ws) (fun vs zs => vs ++ zs) ∧ FnOk P w K mg base CX0 k f fd ps (spD ⟨P, w, C⟩ 0 sc)
def tdCallK (n : Nat) (sc : Sc) (t : TAd) (u : TD) : TD := fun ρ μ R => t ρ μ fun dvs μ1 => u ρ μ1 fun y μ2 => dvs.length = n ∧ (dvs ++ [y]).all noC = true ∧ sc (dvs ++ [y]) fun x => R (.d x) μ2
theorem paired_app {g : Cf} {α : List Addr} {H0 : Hp} : ∀ {vs : List V} {dvs : List DV} {us : List V} {es : List DV}, Paired (DvR g α H0) vs dvs → Paired (DvR g α H0) us es → Paired (DvR g α H0) (vs ++ us) (dvs ++ es)
  | _, _, _, _, .nil, h => h
  | _, _, _, _, .cons r t, h => .cons r (paired_app t h)
section
variable {X : Cx} {C : Addr} {x : Str} {ps : List Str} {n k j : Nat} {sc : Sc} {p pos kp : Pos} {e v : Expr} {es : List Expr} {t : TAd} {tv te : TD} {nm : Str}
theorem jd_callK (h : HasK X.prog X.w X.K X.mg X.base C x ps n [nm] k sc) (hr : Room j X.A) (hk : k ≤ j) (hg : Gl X x) (ha : PA X (e :: es) (uTA ⟨X.prog, X.w, C⟩ t)) (hv : PE X v (uTE ⟨X.prog, X.w, C⟩ tv)) (hdb : (x == ("__debug__" : Str)) = false := by decide)
    (hall : (backToKw pos (keywordEach [⟨some nm, v, kp⟩] X.env)).all (·.1.isSome) = true := by rfl) (hks : (backToKw pos (keywordEach [⟨some nm, v, kp⟩] X.env)).filterMap (·.1) = [nm] := by rfl)
    (he : starEach (e :: es) X.env = (false, eval e X.env) :: starEach es X.env := by rfl) (hpl : ((backTo pos (starEach (e :: es) X.env)).any (·.1) || (backToKw pos (keywordEach [⟨some nm, v, kp⟩] X.env)).any (·.1.isNone)) = false := by rfl) :
    PE X (.Call (.Name x p) (e :: es) [⟨some nm, v, kp⟩] pos) (uTE ⟨X.prog, X.w, C⟩ (tdCallK n sc t tv)) := by
  obtain ⟨f, fd, h1, h2, h3, h4⟩ := h.ex
  refine (pe_callN (E := E0) h4 (hr.mono hk) hg h1 h2 h3 pass0 ha (pk_cons (nm := some nm) hv pk_nil) hall hks hdb he hpl).imp fun σ H Q ⟨α, H0, ρ, μ, R, S, q, k⟩ => ?_
  refine ⟨α, H0, ρ, μ, _, S, q, fun α1 H01 μ1 H1 vs dvs S1 p1 rv h1 => ?_⟩
  refine ⟨α1, H01, ρ, μ1, _, S1, h1, fun α2 H02 μ2 H2 y dy S2 p2 ry ⟨hl, hn, q1⟩ => ?_⟩
  have rv2 := paired_mono p2 rv
  refine ⟨(paired_len rv).trans hl, rfl, ?_⟩
  exact sp0_use S2 (paired_app rv2 (.cons ry .nil)) hn q1 fun H0' H' v x S3 p3 hv hR => k α2 H0' μ2 H' v (.d x) S3 (p1.trans (p2.trans p3)) hv hR
/-- a list of one's own handed over to be read; a text comes back -/
def tdCallL (sc : Sc) (t : TD) : TD := fun ρ μ R => t ρ μ fun x μ1 => ∃ k ds, x = .c k ∧ μ1[k]? = some (.l ds) ∧ sc [.d (.list ds)] fun x => ∃ z, x = .str z ∧ R (.d (.str z)) μ1
theorem jd_callL (h : Has X.prog X.w X.K X.mg X.base C x ps k 0 sc) (hr : Room j X.A) (hk : k ≤ j) (hg : Gl X x) (ha : PE X e (uTE ⟨X.prog, X.w, C⟩ te)) (hdb : (x == ("__debug__" : Str)) = false := by decide)
    (he : starEach [e] X.env = (false, eval e X.env) :: starEach [] X.env := by rfl) (hpl : (backTo pos (starEach [] X.env)).any (·.1) = false := by rfl) : PE X (.Call (.Name x p) [e] [] pos) (uTE ⟨X.prog, X.w, C⟩ (tdCallL sc te)) := by
  obtain ⟨f, fd, h1, h2, h3, h4⟩ := h.ex
  refine (pe_call (E := E0) h4 (hr.mono hk) hg h1 h2 h3 .nil pass0 (pa_cons ha pa_nil he) hdb he hpl).imp fun σ H Q ⟨α, H0, ρ, μ, R, S, q, k⟩ => ?_
  refine ⟨α, H0, ρ, μ, _, S, q, fun α1 H01 μ1 H1 v dv S1 p1 rv ⟨j, ds, e, hj, q1⟩ => ?_⟩
  subst e
  obtain ⟨a, ea, ha⟩ := rv
  subst ea
  obtain ⟨hn0, vs, hl, hd⟩ := S1.cel j a _ ha hj
  have g0 := upd_grow (o := .lst vs) hn0
  refine ⟨[], upd H01 a (.lst vs), [.d (.list ds)], _, ⟨fun b o hb => ?_, List.nodup_nil, rfl, (fun k a c h => by simp at h), (fun a h => by simp at h), rfl, fun i dv h => by simp at h⟩, .cons (.lst (.of upd_same) (dps_same g0 _ _ hd)) .nil, q1, fun α' H0' μ' H' u x S' p' _ hu ⟨z, ez, hR⟩ => ?_⟩
  · by_cases hb' : b = a
    · subst hb'
      rw [upd_same] at hb
      cases hb
      exact hl
    · rw [upd_ne hb'] at hb
      exact S1.ext b o hb
  · subst ez
    cases hu
    have hk : ∀ b o, H1 b = some o → H' b = some o := fun b o h => p'.fr b o h (by simp)
    have hs : ∀ a, H1 a ≠ none → H' a = H1 a := fun a ha => by
      cases q : H1 a with
      | none => exact absurd q ha
      | some o => exact hk a o q
    have S2 : SS ⟨X.prog, X.w, C⟩ α1 H01 ρ μ1 σ H' := ⟨fun b o q => hk b o (S1.ext b o q), S1.nd, S1.len, fun k a c h1 h2 => CellR.mono (Same.refl _) (fun z => z) (hs a (S1.liv a (List.mem_of_getElem? h1))) (S1.cel k a c h1 h2), fun a ha => by rw [hs a (S1.liv a ha)]; exact S1.liv a ha, S1.sl, S1.slot⟩
    have p2 : Stp α1 H01 H1 α1 H01 H' := ⟨⟨[], by simp⟩, Same.refl _, fun b o h _ => hk b o h, fun b h => by rw [hs b h]; exact h, fun b h => .inl h, fun a ha => .inl ha⟩
    exact k α1 H01 μ1 H' (.str z) (.d (.str z)) S2 (p1.trans p2) (.str z) hR
end
end JR
set_option maxHeartbeats 1000000
/-! JD24: the world: its __init__, its making. -/
namespace JR
open PySem PySem.Spec PyProof.Rows L2

def fldsW (t tb : PyData) : List (Str × PyData) := [("trees", t), ("tables", tb)]
abbrev ScW := PyData → (PyData → Prop) → Prop
/-- World.__init__: self and the trees; tables come -/
def spW (C : Addr) (sc : ScW) : Sp := fun vs H Q _ => ∃ a tv dx H0 t R, vs = [V.ref a, tv] ∧ Same H0 H ∧ H0 a = none ∧ H a = some (.ins C dx []) ∧ Dp KZ H0 tv t ∧ sc t R ∧
  ∀ H0' H' dx' tv' tbv tb, Same H0 H0' → Same H0' H' → H0' a = none → (∀ b o, H b = some o → b ≠ a → H' b = some o) → (∀ b, H0' b ≠ none → H0 b ≠ none ∨ H b = none) →
    H' a = some (.ins C dx' [("trees", tv'), ("tables", tbv)]) → Dp KZ H0' tv' t → Dp KZ H0' tbv tb → R tb → Q .non H'
/-- self.f = e -/
def tdFldSet (f : Str) (te to : TD) : TSd := fun D ρ μ => te ρ μ fun x μ1 => to ρ μ1 fun y μ2 => ∃ d k fs, x = .d d ∧ y = .c k ∧ μ2[k]? = some (Cell.i fs) ∧ (∀ p ∈ fs, p.1 ≠ f) ∧ fs.length < 1000 ∧ D.nx ρ (μ2.set k (.i (fs ++ [(f, d)])))
theorem putF_new {f : Str} {v : V} : ∀ {fs : List (Str × V)}, (∀ p ∈ fs, p.1 ≠ f) → putF f v fs = fs ++ [(f, v)]
  | [], _ => rfl
  | (g, x) :: r, h => by
    show (if g = f then (g, v) :: r else (g, x) :: putF f v r) = _
    rw [if_neg (h _ (List.mem_cons_self ..)), putF_new fun p hp => h p (List.mem_cons_of_mem _ hp)]
    rfl
abbrev FldR (H0 : Hp) : List (Str × V) → List (Str × PyData) → Prop := Paired (fun (p : Str × V) (q : Str × PyData) => p.1 = q.1 ∧ Dp KZ H0 p.2 q.2)
theorem fldR_len {H0 : Hp} : ∀ {vs : List (Str × V)} {fs : List (Str × PyData)}, FldR H0 vs fs → vs.length = fs.length
  | _, _, .nil => rfl
  | _, _, .cons _ t => congrArg Nat.succ (fldR_len t)
theorem fldR_snoc {H0 : Hp} {f : Str} {v : V} {d : PyData} (h : Dp KZ H0 v d) : ∀ {vs : List (Str × V)} {fs : List (Str × PyData)}, FldR H0 vs fs → FldR H0 (vs ++ [(f, v)]) (fs ++ [(f, d)])
  | _, _, .nil => .cons ⟨rfl, h⟩ .nil
  | _, _, .cons r t => .cons r (fldR_snoc h t)
theorem fldR_ne {H0 : Hp} {f : Str} : ∀ {vs : List (Str × V)} {fs : List (Str × PyData)}, FldR H0 vs fs → (∀ p ∈ fs, p.1 ≠ f) → ∀ p ∈ vs, p.1 ≠ f
  | _, _, .nil, _, p, hp => by simp at hp
  | _, _, .cons (a := a) (b := b) r t, h, p, hp => by
    rcases List.mem_cons.mp hp with e | hp
    · rw [e, r.1]; exact h b (List.mem_cons_self ..)
    · exact fldR_ne t (fun q hq => h q (List.mem_cons_of_mem _ hq)) p hp
section
variable {X : Cx} {C : Addr} {o e : Expr} {te to : TD} {p pos p2 : Pos}
theorem js_fldSet {f : Str} (c : Cls X.K C) (n : NoAttr X.K C f) (ho : PE X o (uTE ⟨X.prog, X.w, C⟩ to)) (he : PE X e (uTE ⟨X.prog, X.w, C⟩ te)) (hs : swapsWith e (some (.Attribute o f p2)) pos.line X.env = pure false := by rfl) : PS X (.Assign [.Attribute o f p2] e pos) (uTS ⟨X.prog, X.w, C⟩ (tdFldSet f te to)) :=
  (ps_fld ho he hs).imp fun D σ H ⟨α, H0, ρ, μ, DD, S, h, E⟩ =>
    ⟨α, H0, ρ, μ, _, S, h, fun α1 H01 μ1 H1 v dv S1 p1 rv h1 => ⟨α1, H01, ρ, μ1, _, S1, h1, fun α2 H02 μ2 H2 y dy S2 p2 ry ⟨d, k, fs, e1, e2, hk, hne, hl, q⟩ => by
      subst e1 e2
      obtain ⟨a, ea, ha⟩ := ry
      subst ea
      obtain ⟨hn0, dx, vs, hH, hf⟩ := S2.cel k a _ ha hk
      have rv2 : Dp KZ H02 v d := dp_same p2.ex _ _ rv
      have hp : putF f v vs = vs ++ [(f, v)] := putF_new (fldR_ne hf hne)
      refine ⟨a, C, dx, vs, rfl, hH, c, n, by rw [fldR_len hf]; exact hl, ?_⟩
      rw [hp]
      exact E.nx α2 H02 ρ _ σ _ (S2.put (c := .i (fs ++ [(f, d)])) ha hn0 ⟨hn0, dx, _, upd_same, fldR_snoc rv2 hf⟩) (p1.trans (p2.trans (Stp.put ha))) q⟩⟩
/-- World(trees) -/
def tdMakeW (sc : ScW) (t : TD) : TD := fun ρ μ R => t ρ μ fun x μ1 => ∃ d, x = .d d ∧ sc d fun tb => R (.w d tb) μ1
structure HasW (P : Program) (w : World) (K : PySem.W.Frag) (mg : Str → Option Value) (base : Heap) (C : Addr) (ps : List Str) (k : Nat) (sc : ScW) : Prop where
  ex : ∃ f fd, Mk K C f ∧ Binds K fd ps [] ∧ FnOk P w K mg base CX0 k f fd ps (spW C sc)
theorem jd_makeW {x : Str} {ps : List Str} {k j : Nat} {sc : ScW} (h : HasW X.prog X.w X.K X.mg X.base C ps k sc) (hr : Room j X.A) (hk : k + 1 ≤ j) (hg : Gl X x) (hm : X.mg x = some (.ref C)) (ha : PE X e (uTE ⟨X.prog, X.w, C⟩ te)) (hdb : (x == ("__debug__" : Str)) = false := by decide)
    (he : starEach [e] X.env = (false, eval e X.env) :: starEach [] X.env := by rfl) (hpl : (backTo pos (starEach [] X.env)).any (·.1) = false := by rfl) : PE X (.Call (.Name x p) [e] [] pos) (uTE ⟨X.prog, X.w, C⟩ (tdMakeW sc te)) := by
  obtain ⟨f, fd, h1, h3, h4⟩ := h.ex
  refine (pe_make (E := E0) h1 h4 (hr.mono hk) hg hm h3 .nil pass0 (pa_cons ha pa_nil he) hdb he hpl).imp fun σ H Q ⟨α, H0, ρ, μ, R, S, q, k⟩ => ?_
  refine ⟨α, H0, ρ, μ, _, S, q, fun α1 H01 μ1 H1 v dv S1 p1 rv ⟨d, e, q1⟩ a dx ha hdx hne => ?_⟩
  subst e
  have ha0 := S1.free ha
  have hdx0 := S1.free hdx
  have keep : ∀ b o, H1 b = some o → upd (upd H1 dx (.own a)) a (.ins C dx []) b = some o := fun b o hb => by
    rw [upd_ne (ne_of_none hb ha), upd_ne (ne_of_none hb hdx)]
    exact hb
  refine ⟨a, v, dx, H01, d, _, rfl, fun b o hb => keep b o (S1.ext b o hb), ha0, upd_same, rv, q1, fun H0' H' dx' tv' tbv tb e1 e2 hn hk hnf hH ht htb hR => ⟨rfl, ?_⟩⟩
  have hs : ∀ b, H1 b ≠ none → H' b = H1 b := fun b hb => by
    cases q : H1 b with
    | none => exact absurd q hb
    | some o => exact hk b o (keep b o q) (fun z => by rw [z, ha] at q; cases q)
  have hn2 : ∀ b, H1 b ≠ none → H01 b = none → H0' b = none := fun b hb h0 => by
    cases q : H0' b with
    | none => rfl
    | some o =>
      rcases hnf b (by rw [q]; simp) with z | z
      · exact absurd h0 z
      · cases y : H1 b with
        | none => exact absurd y hb
        | some o2 => rw [keep b o2 y] at z; cases z
  have S2 : SS ⟨X.prog, X.w, C⟩ α1 H0' ρ μ1 σ H' := ⟨e2, S1.nd, S1.len, fun k b c h1 h2 => CellR.mono e1 (hn2 b (S1.liv b (List.mem_of_getElem? h1))) (hs b (S1.liv b (List.mem_of_getElem? h1))) (S1.cel k b c h1 h2),
    fun b hb => by rw [hs b (S1.liv b hb)]; exact S1.liv b hb, S1.sl, fun i dv q => by
      obtain ⟨u, h1, h2⟩ := S1.slot i dv q
      exact ⟨u, h1, DvR.same (fun _ _ z => z) e1 h2⟩⟩
  have g1 := upd_grow (o := .ins C dx' [("trees", tv'), ("tables", tbv)]) hn
  refine k α1 _ μ1 H' (.ref a) (.w d tb) (S2.freeze hn (S1.nin ha) hH) ⟨p1.pre, (p1.ex.trans e1).trans g1, fun b o hb hb2 => ?_, fun b hb => ?_, fun b hb => ?_, p1.nc⟩ ⟨a, dx', tv', tbv, rfl, upd_same, dp_same g1 _ _ ht, dp_same g1 _ _ htb⟩ hR
  · have z := p1.fr b o hb hb2
    rw [hs b (by rw [z]; simp)]
    exact z
  · rw [hs b (p1.al b hb)]
    exact p1.al b hb
  · by_cases z : b = a
    · rw [z]
      refine .inr (.inl ?_)
      cases y : H a with
      | none => rfl
      | some o => exact absurd ha (p1.al a (by rw [y]; simp))
    · rw [upd_ne z] at hb
      rcases hnf b hb with y | y
      · exact p1.nf b y
      · refine .inr (.inl ?_)
        cases q : H b with
        | none => rfl
        | some o =>
          cases r : H1 b with
          | none => exact absurd r (p1.al b (by rw [q]; simp))
          | some o2 => rw [keep b o2 r] at y; cases y
end
/-- the rule for World.__init__ -/
def endsW (t : PyData) (R : PyData → Prop) : EndsD := { nx := fun _ μ => ∃ tb, μ[0]? = some (Cell.i (fldsW t tb)) ∧ R tb, rt := fun _ _ => False }
section
variable {P : Program} {w : World} {K : PySem.W.Frag} {mg : Str → Option Value} {base : Heap} {C : Addr} {x qual : Str} {params : Arguments} {body : List Stmt} {scope : Scope} {kws : List (Str × V)} {f : Addr} {fd : FuncData} {N ps : List Str} {k n : Nat} {sc : ScW}
theorem okW (F : FunD K x qual params body scope [] kws f fd) (S : FnScope N ps scope) (hlen : ps.length = 2) (td : TSd)
    (hbody : ∀ (cdv : Value) (A : Around) (outer : List PySem.Env) (s : Shared) (H : Hp) (E : XK), Room k (A.deeper (envOfC qual scope s.heap.objs.size f cdv)) → PSs (cxOf CX0 P w K mg base N qual scope f cdv A outer s H E).nox body (uTS ⟨P, w, C⟩ td))
    (hsem : ∀ t R, sc t R → td (endsW t R) (startD N.length [.c 0, .d t]) [.i []]) : FnOk P w K mg base CX0 (k + 1) f fd ps (spW C sc) := by
  refine F.ok S (fun vs H Q E ⟨a, tv, dx, H0, t, R, h, _⟩ => ?_) (fun cdv A outer s H vs Q E hr ⟨a, tv, dx, H0, t, R, h, e0, ha0, ha, hd, hsc, kk⟩ => ?_)
  · rw [h, hlen]; rfl
  · subst h
    refine ⟨_, (hbody cdv A outer s H E hr).nox, ?_⟩
    have S0 : SS ⟨P, w, C⟩ [a] H0 [] [.i []] [] H := ⟨e0, by simp, rfl, fun k b c h1 h2 => by
      cases k with
      | zero =>
        have q1 : b = a := by simpa using h1.symm
        have q2 : c = .i [] := by simpa using h2.symm
        rw [q1, q2]
        exact ⟨ha0, dx, [], ha, .nil⟩
      | succ k => simp at h1, fun b h => by
        have q1 : b = a := by simpa using h
        rw [q1, ha]; simp, rfl, fun i dv h => by simp at h⟩
    refine ⟨[a], H0, _, _, _, start_ok (vs := [.ref a, tv]) (dvs := [.c 0, .d t]) S0 (.cons ⟨a, rfl, rfl⟩ (.cons hd .nil)), hsem t R hsc, ⟨fun α' H0' ρ' μ' σ' H' S1 p1 ⟨tb, h0, hR⟩ => ?_, fun _ _ _ _ _ _ _ _ _ _ _ h => h.elim, fun _ _ _ _ _ _ _ _ h => h.elim, fun _ _ _ _ _ _ _ _ h => h.elim⟩⟩
    obtain ⟨l, el⟩ := p1.pre
    obtain ⟨hn, dx', vs, hH, hf⟩ := S1.cel 0 a _ (by rw [el]; rfl) h0
    cases hf with
    | cons r1 t1 =>
      cases t1 with
      | cons r2 t2 =>
        cases t2
        rename_i q1 q2
        obtain ⟨n1, v1⟩ := q1
        obtain ⟨n2, v2⟩ := q2
        have e1 : n1 = "trees" := r1.1
        have e2 : n2 = "tables" := r2.1
        subst e1 e2
        refine kk H0' H' dx' v1 v2 tb p1.ex S1.ext hn (fun b o hb hne => p1.fr b o hb (by simpa using hne)) (fun b hb => ?_) hH r1.2 r2.2 hR
        rcases p1.nf b hb with z | z | z
        · exact .inl z
        · exact .inr z
        · have q : b = a := by simpa using z
          rw [q, hn] at hb
          exact absurd rfl hb
end
end JR
set_option maxHeartbeats 1000000
/-! JD25: two comparisons as a test; a written tuple unpacked into names. -/
namespace JR
open PySem PySem.Spec PyProof.Rows L2

def ttChain (f f' : OpFn) (ta tb tc : TD) : TTd := fun ρ μ R => ta ρ μ fun x μ1 => tb ρ μ1 fun y μ2 => f x y μ2 fun z μ3 => ∃ k, z = .d (.bool k) ∧ if k = true then tc ρ μ3 fun w μ4 => f' y w μ4 fun z μ5 => ∃ k2, z = .d (.bool k2) ∧ R k2 μ5 else R false μ3
section
variable {X : Cx} {g : Cf} {a b c : Expr} {ta tb tc : TD} {pos : Pos}
theorem jt_chain {op op' : CmpOp} {r r' : R2} {f f' : OpFn} (ho : OpR X (compareOp op) r) (hd : OpD g r f) (ho' : OpR X (compareOp op') r') (hd' : OpD g r' f') (ha : PE X a (uTE g ta)) (hb : PE X b (uTE g tb)) (hc : PE X c (uTE g tc)) (hm : lastMarks [op, op'] [b, c] = false := by rfl) :
    PT X (.Compare a [op, op'] [b, c] pos) (uTT g (ttChain f f' ta tb tc)) := (pt_chain ho ho' ha hb hc hm).imp fun σ H Q ⟨α, H0, ρ, μ, R, S, h, k⟩ =>
  ⟨α, H0, ρ, μ, _, S, h, fun α1 H01 μ1 H1 x dx S1 p1 rx h1 => ⟨α1, H01, ρ, μ1, _, S1, h1, fun α2 H02 μ2 H2 y dy S2 p2 ry h2 =>
    hd α2 H02 ρ μ2 σ H2 x y dx dy _ _ S2 (rx.mono p2) ry h2 fun α3 H03 μ3 H3 v dv S3 p3 rv ⟨c, e, q⟩ => by
      subst e
      cases (show Dp KZ H03 v (.bool c) from rv)
      refine ⟨c, rfl, ?_⟩
      cases c with
      | true =>
        rw [if_pos rfl] at q ⊢
        refine ⟨α3, H03, ρ, μ3, _, S3, q, fun α4 H04 μ4 H4 w dw S4 p4 rw' h4 => hd' α4 H04 ρ μ4 σ H4 y w dy dw _ _ S4 (ry.mono (p3.trans p4)) rw' h4 fun α5 H05 μ5 H5 v dv S5 p5 rv ⟨c2, e2, q5⟩ => ?_⟩
        subst e2
        cases (show Dp KZ H05 v (.bool c2) from rv)
        exact ⟨c2, rfl, k α5 H05 μ5 H5 c2 S5 (p1.trans (p2.trans (p3.trans (p4.trans p5)))) q5⟩
      | false =>
        rw [if_neg Bool.false_ne_true] at q ⊢
        exact ⟨false, rfl, k α3 H03 μ3 H3 false S3 (p1.trans (p2.trans p3)) q⟩⟩⟩
end
def setAllV (ρ : Env) : List Nat → List DV → Env
  | i :: is, d :: ds => setAllV (ρ.set i (some d)) is ds
  | _, _ => ρ
def tdUnp (is : List Nat) (ta : TAd) : TSd := fun D ρ μ => ta ρ μ fun dvs μ1 => dvs.length = is.length ∧ dvs.length ≤ 1000 ∧ D.nx (setAllV ρ is dvs) μ1
section
variable {g : Cf} {α : List Addr} {H0 H : Hp} {μ : Sto}
theorem namesV_ok : ∀ {is : List Nat} {xs : List V} {ds : List DV} {ρ : Env} {σ : L2.St} {Q : L2.St → Hp → Prop}, SS g α H0 ρ μ σ H → Paired (DvR g α H0) xs ds → ds.length = is.length →
    (∀ σ', SS g α H0 (setAllV ρ is ds) μ σ' H → Q σ' H) → gNames is xs σ H Q
  | [], _, [], ρ, σ, Q, S, .nil, _, k => ⟨rfl, k σ S⟩
  | i :: is, _, d :: ds, ρ, σ, Q, S, .cons (a := v) (l₁ := vs) h t, hl, k => ⟨v, vs, rfl, namesV_ok (S.store h) t (by simpa using hl) k⟩
end
section
variable {X : Cx} {g : Cf} {es ts : List Expr} {ta : TAd} {pos tp vp : Pos} {k1 k2}
theorem js_unp {is : List Nat} (ha : PA X es (uTA g ta)) (hg : PG X (.Tuple ts k1 tp) (gTup X.K is.length (gNames is))) (hs : swapsWithSole [.Tuple ts k1 tp] (.Tuple es k2 vp) pos.line X.env = pure false := by rfl) (hw : swappedStores [.Tuple ts k1 tp] (.Tuple es k2 vp) X.env = pure none := by rfl)
    (h1 : (assignEach [.Tuple ts k1 tp] X.env).map (·.2) = [assign (.Tuple ts k1 tp) X.env] := by rfl) : PS X (.Assign [.Tuple ts k1 tp] (.Tuple es k2 vp) pos) (uTS g (tdUnp is ta)) := (ps_asg (pe_tup ha) hg hs hw h1).imp fun D σ H ⟨α, H0, ρ, μ, DD, S, h, E⟩ =>
  ⟨α, H0, ρ, μ, _, S, h, fun α1 H01 μ1 H1 vs dvs S1 p1 rvs ⟨hl, hz, q⟩ => by
    have hvl := paired_len rvs
    refine ⟨by rw [sizeLine_eq]; omega, fun p hp => ?_⟩
    have h0 := S1.free hp
    have hn := S1.nin hp
    have S2 : SS g α1 H01 ρ μ1 σ (upd H1 p (.tup vs)) := S1.side h0 hn
    refine ⟨p, vs, rfl, .of upd_same, by omega, namesV_ok S2 rvs hl fun σ' S3 => ?_⟩
    have p2 : Stp α H0 H α1 H01 (upd H1 p (.tup vs)) := p1.sideW (by
      cases z : H p with
      | none => rfl
      | some o => exact absurd hp (p1.al p (by rw [z]; simp)))
    exact E.nx α1 H01 _ μ1 σ' _ S3 p2 q⟩
end
end JR
set_option maxHeartbeats 1000000
/-! JD26: zip of three tuples. -/
namespace JR
open PySem PySem.Spec PyProof.Rows L2

def ItZ3T (a b c : Addr) : It :=
  ⟨fun i H => ∃ (xs ys zs : List V) (x y z : V), (Rd H a (.tup xs) ∧ Rd H b (.tup ys) ∧ Rd H c (.tup zs)) ∧ xs[i]? = some x ∧ ys[i]? = some y ∧ zs[i]? = some z,
    fun i H v H' => ∃ T x y z, v = .ref T ∧ H T = none ∧ H' = upd H T (.tup [x, y, z]) ∧ (∀ xs, Rd H a (.tup xs) → xs[i]? = some x) ∧ (∀ ys, Rd H b (.tup ys) → ys[i]? = some y) ∧ ∀ zs, Rd H c (.tup zs) → zs[i]? = some z,
    fun i H => ∃ xs ys zs : List V, (Rd H a (.tup xs) ∧ Rd H b (.tup ys) ∧ Rd H c (.tup zs)) ∧ min (min xs.length ys.length) zs.length = i⟩
def tn3T (z TI TO i1 i2 i3 a b c : Addr) (i : Nat) (h : Heap) : Prop := IsZip h z TI TO .none ∧ IsTupOf3 h TI (.ref i1) (.ref i2) (.ref i3) ∧ (∃ x y u, IsTupOf3 h TO x y u) ∧ h.IsTupleIter i1 a i ∧ h.IsTupleIter i2 b i ∧ h.IsTupleIter i3 c i
theorem sep3T {z TI TO i1 i2 i3 a b c : Addr} {h : Heap} {i : Nat} {xs ys zs : Array Value} (A : Ap3 z TI TO i1 i2 i3) (st : tn3T z TI TO i1 i2 i3 a b c i h) (p : h.IsTuple a xs) (q : h.IsTuple b ys) (r : h.IsTuple c zs) (aTO : a ≠ TO) (hb : b ≠ TO) (hc : c ≠ TO) :
    ZipSep3 z TI TO i1 i2 i3 [i1, a] [i2, b] [i3, c] ∧ a ≠ i1 ∧ b ≠ i2 ∧ c ≠ i3 := by
  obtain ⟨hz, hTI, ⟨x, y, u, hTO⟩, ⟨o1, e1, c1, d1⟩, ⟨o2, e2, c2, d2⟩, ⟨o3, e3, c3, d3⟩⟩ := st
  obtain ⟨p1, p2, p3, _⟩ := p
  obtain ⟨q1, q2, q3, _⟩ := q
  obtain ⟨r1, r2, r3, _⟩ := r
  have nd := A.nd
  simp only [List.nodup_cons, List.mem_cons, List.not_mem_nil, or_false, not_or] at nd
  obtain ⟨⟨n1, n2, n3, n4, n5⟩, ⟨m1, m2, m3, m4⟩, ⟨l1, l2, l3⟩, ⟨k1, k2⟩, k3, _⟩ := nd
  have az : a ≠ z := ne_cls ⟨p1, p2, p3⟩ hz rfl (by decide)
  have bz : b ≠ z := ne_cls ⟨q1, q2, q3⟩ hz rfl (by decide)
  have cz : c ≠ z := ne_cls ⟨r1, r2, r3⟩ hz rfl (by decide)
  have a1 : a ≠ i1 := ne_cls ⟨p1, p2, p3⟩ e1 c1 (by decide)
  have a2 : a ≠ i2 := ne_cls ⟨p1, p2, p3⟩ e2 c2 (by decide)
  have a3 : a ≠ i3 := ne_cls ⟨p1, p2, p3⟩ e3 c3 (by decide)
  have b1 : b ≠ i1 := ne_cls ⟨q1, q2, q3⟩ e1 c1 (by decide)
  have b2 : b ≠ i2 := ne_cls ⟨q1, q2, q3⟩ e2 c2 (by decide)
  have b3 : b ≠ i3 := ne_cls ⟨q1, q2, q3⟩ e3 c3 (by decide)
  have c1' : c ≠ i1 := ne_cls ⟨r1, r2, r3⟩ e1 c1 (by decide)
  have c2' : c ≠ i2 := ne_cls ⟨r1, r2, r3⟩ e2 c2 (by decide)
  have c3' : c ≠ i3 := ne_cls ⟨r1, r2, r3⟩ e3 c3 (by decide)
  refine ⟨⟨fun e => n1 e.symm, fun e => n2 e.symm, m1, m2, by simp, ?_, ?_, m3, by simp, ?_, ?_, m4, by simp, ?_, ?_, ?_, ?_, ?_, ?_, ?_, ?_⟩, a1, b2, c3'⟩
  all_goals
    simp only [List.mem_cons, List.not_mem_nil, or_false, not_or]
    refine ⟨?_, ?_⟩
  all_goals first
    | assumption
    | (refine Ne.symm ?_; assumption)
theorem turn_zip3T {P : Program} {w : World} {K : PySem.W.Frag} {elts : List Expr} {kk : Nat} {tpos : Pos} {a b c z TI TO i1 i2 i3 : Addr} (A : Ap3 z TI TO i1 i2 i3) :
    Turn P w K (.Tuple elts kk tpos) (ItZ3T a b c) [z, TI, TO, i1, i2, i3] z (tn3T z TI TO i1 i2 i3 a b c) := by
  refine turn_W' (wr := [z, TO, i1, i2, i3]) (by simp) (fun _ q => by simp at q ⊢; rcases q with q | q | q | q | q <;> simp [q]) (fun i h st d hd => ?_) (fun i h h' st k => ?_) (fun A i s Q E st hq => wpAny_pyIter_zip st.1 hq) (fun X hP hw hK hc i pins s σ H I hf st hg => ?_) (fun X hP hw hK hc i pins s σ H I hf st hg => ?_)
  · obtain ⟨hz, hTI, ⟨x, y, u, hTO⟩, ⟨o1, e1, c1, d1⟩, ⟨o2, e2, c2, d2⟩, ⟨o3, e3, c3, d3⟩⟩ := st
    have e' : d = z ∨ d = TI ∨ d = TO ∨ d = i1 ∨ d = i2 ∨ d = i3 := by simpa using hd
    rcases e' with q | q | q | q | q | q
    · rw [q]; exact ⟨_, hz, fun v q => nomatch q⟩
    · rw [q]; exact ⟨_, hTI, fun v q => nomatch q⟩
    · rw [q]; exact ⟨_, hTO, fun v q => nomatch q⟩
    · rw [q]; exact ⟨o1, e1, fun v q => by rw [d1] at q; cases q⟩
    · rw [q]; exact ⟨o2, e2, fun v q => by rw [d2] at q; cases q⟩
    · rw [q]; exact ⟨o3, e3, fun v q => by rw [d3] at q; cases q⟩
  · obtain ⟨hz, hTI, ⟨x, y, u, hTO⟩, h1, h2, h3⟩ := st
    exact ⟨k z (by simp) _ hz, k TI (by simp) _ hTI, ⟨x, y, u, k TO (by simp) _ hTO⟩, h1.at fun o q => k i1 (by simp) o q, h2.at fun o q => k i2 (by simp) o q, h3.at fun o q => k i3 (by simp) o q⟩
  · subst hP hw hK
    obtain ⟨xs, ys, zs, x, y, u, ⟨g1, g2, g3⟩, hx, hy, hu⟩ := hg
    have q1 : SqT X.K H a xs := .inl g1
    have q2 : SqT X.K H b ys := .inl g2
    have q3 : SqT X.K H c zs := .inl g3
    obtain ⟨its, rv, p, hz1⟩ := I.tuple q1
    obtain ⟨its2, rv2, p2, hz2⟩ := I.tuple q2
    obtain ⟨its3, rv3, p3, hz3⟩ := I.tuple q3
    have hTOn : H TO = none := (hf TO (by simp)).1
    obtain ⟨Z, s1, s2, s3⟩ := sep3T A st p p2 p3 (fun e => rd_some g1 (by rw [e]; exact hTOn)) (fun e => rd_some g2 (by rw [e]; exact hTOn)) (fun e => rd_some g3 (by rw [e]; exact hTOn))
    have hh := I.ok.hd hc
    have l1 := rv.length
    have l2 := rv2.length
    have l3 := rv3.length
    have hxl := (List.getElem?_eq_some_iff.mp hx).1
    have hyl := (List.getElem?_eq_some_iff.mp hy).1
    have hul := (List.getElem?_eq_some_iff.mp hu).1
    obtain ⟨hz, hTI, hTO, h1, h2, h3⟩ := id st
    refine ⟨_, _, _, _, _, WalksT.zipD3 Z (Draws.tuple (prog := X.prog) (w := X.w) (A := X.A.in1) hh i1 a s1 its.toArray) (Draws.tuple (prog := X.prog) (w := X.w) (A := X.A.in1) hh i2 b s2 its2.toArray) (Draws.tuple (prog := X.prog) (w := X.w) (A := X.A.in1) hh i3 c s3 its3.toArray), by simp only [List.size_toArray]; omega, ⟨hz, hTI, hTO, ⟨h1, p⟩, ⟨h2, p2⟩, ⟨h3, p3⟩⟩,
      fun h ⟨k1, k2, k3, k4, k5, k6⟩ => ⟨k1, k2, k3, k4.1, k5.1, k6.1⟩, fun vals hv => ?_⟩
    obtain ⟨v1, v2, v3, e1, e2, e3, ev⟩ := hv
    subst ev
    obtain ⟨w1, hw1, r1⟩ := rv.get hx
    obtain ⟨w2, hw2, r2⟩ := rv2.get hy
    obtain ⟨w3, hw3, r3⟩ := rv3.get hu
    have f1 : w1 = v1 := by
      have q : its[i]? = some v1 := by simpa using e1
      rw [hw1] at q
      exact Option.some.inj q
    have f2 : w2 = v2 := by
      have q : its2[i]? = some v2 := by simpa using e2
      rw [hw2] at q
      exact Option.some.inj q
    have f3 : w3 = v3 := by
      have q : its3[i]? = some v3 := by simpa using e3
      rw [hw3] at q
      exact Option.some.inj q
    subst f1 f2 f3
    exact ⟨by simp, [x, y, u], .cons r1 (.cons r2 (.cons r3 .nil)), fun T hT => ⟨T, x, y, u, rfl, hT, rfl, fun l hl => by rw [I.tuple_inj (.inl hl) q1]; exact hx, fun l hl => by rw [I.tuple_inj (.inl hl) q2]; exact hy, fun l hl => by rw [I.tuple_inj (.inl hl) q3]; exact hu⟩⟩
  · subst hP hw hK
    obtain ⟨xs, ys, zs, ⟨g1, g2, g3⟩, hmn⟩ := hg
    have q1 : SqT X.K H a xs := .inl g1
    have q2 : SqT X.K H b ys := .inl g2
    have q3 : SqT X.K H c zs := .inl g3
    obtain ⟨its, rv, p, hz1⟩ := I.tuple q1
    obtain ⟨its2, rv2, p2, hz2⟩ := I.tuple q2
    obtain ⟨its3, rv3, p3, hz3⟩ := I.tuple q3
    have hTOn : H TO = none := (hf TO (by simp)).1
    obtain ⟨Z, s1, s2, s3⟩ := sep3T A st p p2 p3 (fun e => rd_some g1 (by rw [e]; exact hTOn)) (fun e => rd_some g2 (by rw [e]; exact hTOn)) (fun e => rd_some g3 (by rw [e]; exact hTOn))
    have hh := I.ok.hd hc
    have l1 := rv.length
    have l2 := rv2.length
    have l3 := rv3.length
    obtain ⟨hz, hTI, hTO, h1, h2, h3⟩ := id st
    refine ⟨_, _, _, _, _, WalksT.zipD3 Z (Draws.tuple (prog := X.prog) (w := X.w) (A := X.A.in1) hh i1 a s1 its.toArray) (Draws.tuple (prog := X.prog) (w := X.w) (A := X.A.in1) hh i2 b s2 its2.toArray) (Draws.tuple (prog := X.prog) (w := X.w) (A := X.A.in1) hh i3 c s3 its3.toArray), ?_⟩
    have ei : min (min its.toArray.size its2.toArray.size) its3.toArray.size = i := by simp; omega
    rw [ei]
    exact ⟨hz, hTI, hTO, ⟨h1, p⟩, ⟨h2, p2⟩, ⟨h3, p3⟩⟩
def iZ3T (ta : TA) : TI := fun σ H R => ta σ H fun vs H1 => ∃ a b c xs ys zs, vs = [.ref a, .ref b, .ref c] ∧ (Rd H1 a (.tup xs) ∧ Rd H1 b (.tup ys) ∧ Rd H1 c (.tup zs)) ∧ R (ItZ3T a b c) H1
theorem pi_z3T {X : Cx} {e e2 e3 : Expr} {ta : TA} {p pos tpos : Pos} {elts : List Expr} {kk : Nat} (hg : Gl X "zip") (hm : X.mg "zip" = none) (ha : PA X [e, e2, e3] ta)
    (hs : starEach [e, e2, e3] X.env = (false, eval e X.env) :: starEach [e2, e3] X.env := by rfl) (hpl : (backTo pos (starEach [e2, e3] X.env)).any (·.1) = false := by rfl) :
    PI X (.Tuple elts kk tpos) (.Call (.Name "zip" p) [e, e2, e3] [] pos) (iZ3T ta) := by
  refine ⟨fun pins s σ H R I h => ?_⟩
  refine Call_ (ld_blt I hg hm PyProof.Rows.boot_zip (PyProof.Rows.callWith_type1 (thn (ha.run pos pins s σ H _ I h) fun us s1 ⟨vs, H1, I1, r1, q1⟩ => ?_) hs hpl))
  obtain ⟨a, b, c, xs, ys, zs, ex, ⟨g1, g2, g3⟩, q1⟩ := q1
  subst ex
  cases r1 with
  | cons r rr =>
    cases rr with
    | cons r' rr =>
      cases rr with
      | cons r'' rr =>
        cases rr
        cases r
        cases r'
        cases r''
        obtain ⟨its, rv, p1, _⟩ := I1.tuple (a := a) (.inl g1)
        obtain ⟨its2, rv2, p2, _⟩ := I1.tuple (a := b) (.inl g2)
        obtain ⟨its3, rv3, p3, _⟩ := I1.tuple (a := c) (.inl g3)
        refine zip_begins3 (begins_tuple a its.toArray) (begins_tuple b its2.toArray) (begins_tuple c its3.toArray) p1 p2 p3 fun h' hz hTI hTO h1 h2 h3 hsz hk => wpAny_pyIter_zip hz ?_
        have I2 : Inv X pins σ H1 { s1 with heap := h' } := I1.kept (t' := s1.toks) hk
        refine ⟨s1.heap.objs.size + 5, [s1.heap.objs.size + 5, s1.heap.objs.size + 3, s1.heap.objs.size + 4, s1.heap.objs.size, s1.heap.objs.size + 1, s1.heap.objs.size + 2], _, _, H1, rfl, I2, turn_zip3T ⟨?_⟩,
          ⟨hz, hTI, ⟨_, _, _, hTO⟩, ⟨_, h1, rfl, rfl⟩, ⟨_, h2, rfl, rfl⟩, ⟨_, h3, rfl, rfl⟩⟩, fun d hd => ?_, q1⟩
        · generalize s1.heap.objs.size = N
          have : ∀ m : Nat, m = N → [m + 5, m + 3, m + 4, m, m + 1, m + 2].Nodup := fun m _ => by simp
          exact this N rfl
        · have hle : s1.heap.objs.size ≤ d := by
            have e' : d = s1.heap.objs.size + 5 ∨ d = s1.heap.objs.size + 3 ∨ d = s1.heap.objs.size + 4 ∨ d = s1.heap.objs.size ∨ d = s1.heap.objs.size + 1 ∨ d = s1.heap.objs.size + 2 := by simpa using hd
            rcases e' with q | q | q | q | q | q <;> rw [q] <;> first | exact Nat.le_refl _ | exact Nat.le_add_right _ _
          exact I1.fpOk hle (I1.hok.fresh hle)
def wdZip3T (t : TAd) : TId := fun ρ μ RR => t ρ μ fun xs μ1 => ∃ x y z as bs cs, xs = [x, y, z] ∧ tOf x = some as ∧ tOf y = some bs ∧ tOf z = some cs ∧ RR (zip3D as bs cs) (fun _ => True) μ1
theorem walk_zip3T {g : Cf} {α : List Addr} {H0 H : Hp} {a b c : Addr} {dx dy dz : DV} {as bs cs : List PyData} (rx : DvR g α H0 (.ref a) dx) (ry : DvR g α H0 (.ref b) dy) (rz : DvR g α H0 (.ref c) dz) (h0 : tOf dx = some as) (h1 : tOf dy = some bs) (h2 : tOf dz = some cs) :
    WalkD g α H0 H (ItZ3T a b c) (zip3D as bs cs) (fun _ => True) := by
  refine ⟨fun i α' H0' ρ μ σ H' hi S t _ => ?_, fun α' H0' ρ μ σ H' S t _ => ?_⟩
  · obtain ⟨a', vs, e, hs, ha⟩ := rd_tup S (DvR.grow t rx) h0
    cases e
    obtain ⟨b', us, e, hs2, hb⟩ := rd_tup S (DvR.grow t ry) h1
    cases e
    obtain ⟨c', ws, e, hs3, hc⟩ := rd_tup S (DvR.grow t rz) h2
    cases e
    obtain ⟨d1, d2, d3, g1, g2, g3, g4⟩ := zip3D_get hi
    obtain ⟨v, hv, hd⟩ := dps_get ha g1
    obtain ⟨u, hu, hd2⟩ := dps_get hb g2
    obtain ⟨w, hw, hd3⟩ := dps_get hc g3
    refine ⟨⟨vs, us, ws, v, u, w, ⟨hs, hs2, hs3⟩, hv, hu, hw⟩, fun x H'' y => ?_⟩
    obtain ⟨T, p, q, r, ex, hT, e, y1, y2, y3⟩ := y
    have e1 := y1 vs hs
    have e2 := y2 us hs2
    have e3 := y3 ws hs3
    rw [hv] at e1
    rw [hu] at e2
    rw [hw] at e3
    cases e1
    cases e2
    cases e3
    subst e ex
    obtain ⟨H0'', S', t', hd'⟩ := newT_ok S hT (.cons hd (.cons hd2 (.cons hd3 .nil)))
    exact ⟨H0'', _, S', t', g4, hd'⟩
  · obtain ⟨a', vs, e, hs, ha⟩ := rd_tup S (DvR.grow t rx) h0
    cases e
    obtain ⟨b', us, e, hs2, hb⟩ := rd_tup S (DvR.grow t ry) h1
    cases e
    obtain ⟨c', ws, e, hs3, hc⟩ := rd_tup S (DvR.grow t rz) h2
    cases e
    refine ⟨vs, us, ws, ⟨hs, hs2, hs3⟩, ?_⟩
    rw [dps_len ha, dps_len hb, dps_len hc]
    simp [zip3D]
theorem ji_zip3T {X : Cx} {C : Addr} {e e2 e3 : Expr} {t : TAd} {p pos tpos : Pos} {elts : List Expr} {kk : Nat} (hg : Gl X "zip") (hm : X.mg "zip" = none) (ha : PA X [e, e2, e3] (uTA ⟨X.prog, X.w, C⟩ t))
    (hs : starEach [e, e2, e3] X.env = (false, eval e X.env) :: starEach [e2, e3] X.env := by rfl) (hpl : (backTo pos (starEach [e2, e3] X.env)).any (·.1) = false := by rfl) :
    PI X (.Tuple elts kk tpos) (.Call (.Name "zip" p) [e, e2, e3] [] pos) (uTI ⟨X.prog, X.w, C⟩ (wdZip3T t)) :=
  (pi_z3T hg hm ha hs hpl).imp fun σ H Q ⟨α, H0, ρ, μ, R, S, q, k⟩ => ⟨α, H0, ρ, μ, _, S, q, fun α1 H01 μ1 H1 vs dvs S1 p1 rv ⟨x, y, z, as, bs, cs, e, h0, h1, h2, q1⟩ => by
    subst e
    cases rv with
    | cons r t =>
      cases t with
      | cons r2 t =>
        cases t with
        | cons r3 t =>
          cases t
          obtain ⟨a', vs, e, hs, ha⟩ := rd_tup S1 r h0
          subst e
          obtain ⟨b', us, e, hs2, hb⟩ := rd_tup S1 r2 h1
          subst e
          obtain ⟨c', ws, e, hs3, hc⟩ := rd_tup S1 r3 h2
          subst e
          exact ⟨a', b', c', vs, us, ws, rfl, ⟨hs, hs2, hs3⟩, k α1 H01 μ1 H1 _ _ _ S1 p1 (walk_zip3T r r2 r3 h0 h1 h2) q1⟩⟩
end JR
set_option maxHeartbeats 1000000
/-! JG: what is asked of the module's names; minus; the units' room. -/
namespace JR
open PySem PySem.Spec PyProof.Rows L2

/-- what the module's names stand for -/
structure Gb (K : PySem.W.Frag) (mg : Str → Option Value) (C : Addr) : Prop where
  isinstance : mg "isinstance" = none
  int : mg "int" = none
  bool : mg "bool" = none
  tuple : mg "tuple" = none
  str : mg "str" = none
  len : mg "len" = none
  all : mg "all" = none
  any : mg "any" = none
  enumerate : mg "enumerate" = none
  range : mg "range" = none
  list : mg "list" = none
  sorted : mg "sorted" = none
  set : mg "set" = none
  zip : mg "zip" = none
  min : mg "min" = none
  max : mg "max" = none
  MOST_REACH : ∃ t, mg "MOST_REACH" = some (.int 48 t)
  MOST_PLACES : ∃ t, mg "MOST_PLACES" = some (.int 12 t)
  MOST_TREES : ∃ t, mg "MOST_TREES" = some (.int 4 t)
  MOST_NAMES : ∃ t, mg "MOST_NAMES" = some (.int 24 t)
  MOST_SIGNS : ∃ t, mg "MOST_SIGNS" = some (.int 8 t)
  SIGNS : ∃ t, mg "SIGNS" = some (.str "abcdefghijklmnopqrstuvwxyz" t)
  World : mg "World" = some (.ref C)
  cls : Cls K C
  ic : C8.InsC K C
  noT : NoAttr K C "trees"
  noB : NoAttr K C "tables"
theorem _root_.L2.Room.u65 {k : Nat} {A : Around} (r : Room k A) : A.units + 65 < cLine := by have := r.un; omega
def tdNeg (t : TD) : TD := fun ρ μ R => t ρ μ fun x μ1 => ∃ i : Int, x = .d (.int i) ∧ R (.d (.int (-i))) μ1
theorem jd_neg {X : Cx} {g : Cf} {e : Expr} {te : TD} {pos : Pos} (h : PE X e (uTE g te)) : PE X (.UnaryOp .USub e pos) (uTE g (tdNeg te)) := (pe_un un_neg h).imp fun σ H Q ⟨α, H0, ρ, μ, R, S, q, k⟩ =>
  ⟨α, H0, ρ, μ, _, S, q, fun α1 H01 μ1 H1 v dv S1 p1 rv ⟨i, e, q1⟩ => by
    subst e
    cases (show Dp KZ H01 v (.int i) from rv)
    exact ⟨i, rfl, k α1 H01 μ1 H1 (.int (-i)) (.d (.int (-i))) S1 p1 (.int _) q1⟩⟩
theorem jd_dc {X : Cx} {g : Cf} {kx vx tg iter : Expr} {ifs : List Expr} {scope : Scope} {own : List (Str × Nat)} {pos : Pos} {t : Tg} {wd : TId} {tt : TTd} {tk te : TD} (hc : X.calm = true) (hN : X.N.Nodup)
    (hi : PI X tg iter (uTI g wd)) (ok : BlkOk X.N X.env.scope scope own) (hv : ∀ i ∈ t.ix, i ∈ own.map (·.2))
    (hg : ∀ (s : Shared) (H : Hp) (C : Addr) (cl : List (Str × Addr)) (fp : List Addr), PG (X.blk s H scope (compEnvC scope cl C X.env) fp) tg (tgG X.K t)) (ht : ∀ (s : Shared) (H : Hp) (C : Addr) (cl : List (Str × Addr)) (fp : List Addr), PTs (X.blk s H scope (compEnvC scope cl C X.env) fp) ifs (uTT g tt))
    (hk : ∀ (s : Shared) (H : Hp) (C : Addr) (cl : List (Str × Addr)) (fp : List Addr), PE (X.blk s H scope (compEnvC scope cl C X.env) fp) kx (uTE g tk))
    (he : ∀ (s : Shared) (H : Hp) (C : Addr) (cl : List (Str × Addr)) (fp : List Addr), PE (X.blk s H scope (compEnvC scope cl C X.env) fp) vx (uTE g te)) (hs : ∀ x, foldedSetIterable iter X.env x = pure x := by intro _; rfl) :
    PE X (.DictComp kx vx [⟨tg, iter, ifs, 0⟩] scope pos) (uTE g (tdDc wd t tt tk te (own.map (·.2)))) := (pe_dc hc hN hi ok hg ht hk he hs).imp (tdDc_imp hv)
end JR
set_option maxHeartbeats 200000
/-! JM1: trees by parent lists: ways down, ways between two, what hangs together. -/
namespace JM
/-- the place below x (x not the root) -/
def pr (t : List Nat) (x : Nat) : Nat := min (t.getD (x - 1) 0) (x - 1)
theorem pr_lt {t : List Nat} {x : Nat} (h : 0 < x) : pr t x < x := by
  unfold pr
  have := Nat.min_le_right (t.getD (x - 1) 0) (x - 1)
  omega
def TreeOk (t : List Nat) : Prop := ∀ k, k < t.length → t.getD k 0 ≤ k
theorem pr_eq {t : List Nat} (h : TreeOk t) {x : Nat} (h0 : 0 < x) (hx : x ≤ t.length) : pr t x = t.getD (x - 1) 0 := by
  unfold pr
  exact Nat.min_eq_left (h (x - 1) (by omega))
def dn (t : List Nat) (x : Nat) : List Nat := if h : x = 0 then [0] else x :: dn t (pr t x)
termination_by x
decreasing_by exact pr_lt (by omega)
def stp (t : List Nat) (x y : Nat) : List Nat :=
  if h : x = y then [x] else if h2 : x < y then stp t x (pr t y) ++ [y] else x :: stp t (pr t x) y
termination_by x + y
decreasing_by
  · have := pr_lt (t := t) (x := y) (by omega); omega
  · have := pr_lt (t := t) (x := x) (by omega); omega
def mn (t : List Nat) (x y : Nat) : Nat :=
  if h : x = y then x else if h2 : x < y then mn t x (pr t y) else mn t (pr t x) y
termination_by x + y
decreasing_by
  · have := pr_lt (t := t) (x := y) (by omega); omega
  · have := pr_lt (t := t) (x := x) (by omega); omega
section
variable {t : List Nat}
theorem dn0 : dn t 0 = [0] := by unfold dn; rfl
theorem dnS {x : Nat} (h : x ≠ 0) : dn t x = x :: dn t (pr t x) := by
  conv => lhs; unfold dn
  rw [dif_neg h]
theorem stp_self (x : Nat) : stp t x x = [x] := by unfold stp; simp
theorem stp_lt {x y : Nat} (h : x < y) : stp t x y = stp t x (pr t y) ++ [y] := by
  conv => lhs; unfold stp
  rw [dif_neg (by omega), dif_pos h]
theorem stp_gt {x y : Nat} (h : y < x) : stp t x y = x :: stp t (pr t x) y := by
  conv => lhs; unfold stp
  rw [dif_neg (by omega), dif_neg (by omega)]
theorem mn_self (x : Nat) : mn t x x = x := by unfold mn; simp
theorem mn_lt {x y : Nat} (h : x < y) : mn t x y = mn t x (pr t y) := by
  conv => lhs; unfold mn
  rw [dif_neg (by omega), dif_pos h]
theorem mn_gt {x y : Nat} (h : y < x) : mn t x y = mn t (pr t x) y := by
  conv => lhs; unfold mn
  rw [dif_neg (by omega), dif_neg (by omega)]
/-- the way of thinking: from two places to smaller ones -/
theorem two_ind (t : List Nat) {M : Nat → Nat → Prop} (h0 : ∀ x, M x x) (h1 : ∀ x y, x < y → M x (pr t y) → M x y) (h2 : ∀ x y, y < x → M (pr t x) y → M x y) : ∀ n x y, x + y ≤ n → M x y
  | 0, x, y, h => by
    have : x = y := by omega
    rw [this]; exact h0 y
  | n + 1, x, y, h => by
    rcases Nat.lt_trichotomy x y with e | e | e
    · exact h1 x y e (two_ind t h0 h1 h2 n x _ (by have := pr_lt (t := t) (x := y) (by omega); omega))
    · rw [e]; exact h0 y
    · exact h2 x y e (two_ind t h0 h1 h2 n _ y (by have := pr_lt (t := t) (x := x) (by omega); omega))
theorem ind2 (t : List Nat) {M : Nat → Nat → Prop} (h0 : ∀ x, M x x) (h1 : ∀ x y, x < y → M x (pr t y) → M x y) (h2 : ∀ x y, y < x → M (pr t x) y → M x y) (x y : Nat) : M x y := two_ind t h0 h1 h2 _ x y (Nat.le_refl _)
theorem stp_ends (x y : Nat) : x ∈ stp t x y ∧ y ∈ stp t x y := by
  refine ind2 t (M := fun x y => x ∈ stp t x y ∧ y ∈ stp t x y) (fun x => ?_) (fun x y h ih => ?_) (fun x y h ih => ?_) x y
  · rw [stp_self]; simp
  · rw [stp_lt h]; simp [ih.1]
  · rw [stp_gt h]; simp [ih.2]
theorem stp_le {x y z : Nat} : z ∈ stp t x y → z ≤ max x y := by
  refine ind2 t (M := fun x y => z ∈ stp t x y → z ≤ max x y) (fun x h => ?_) (fun x y h ih hz => ?_) (fun x y h ih hz => ?_) x y
  · rw [stp_self] at h; simp at h; omega
  · rw [stp_lt h] at hz
    have := pr_lt (t := t) (x := y) (by omega)
    rcases List.mem_append.mp hz with q | q
    · have := ih q; omega
    · simp at q; omega
  · rw [stp_gt h] at hz
    have := pr_lt (t := t) (x := x) (by omega)
    rcases List.mem_cons.mp hz with q | q
    · omega
    · have := ih q; omega
theorem mn_mem (x y : Nat) : mn t x y ∈ stp t x y := by
  refine ind2 t (M := fun x y => mn t x y ∈ stp t x y) (fun x => ?_) (fun x y h ih => ?_) (fun x y h ih => ?_) x y
  · rw [stp_self, mn_self]; simp
  · rw [stp_lt h, mn_lt h]; simp [ih]
  · rw [stp_gt h, mn_gt h]; simp [ih]
theorem mn_le (x y : Nat) : mn t x y ≤ x ∧ mn t x y ≤ y := by
  refine ind2 t (M := fun x y => mn t x y ≤ x ∧ mn t x y ≤ y) (fun x => ?_) (fun x y h ih => ?_) (fun x y h ih => ?_) x y
  · rw [mn_self]; omega
  · rw [mn_lt h]
    have := pr_lt (t := t) (x := y) (by omega)
    omega
  · rw [mn_gt h]
    have := pr_lt (t := t) (x := x) (by omega)
    omega
theorem mn_low {x y z : Nat} : z ∈ stp t x y → mn t x y ≤ z := by
  refine ind2 t (M := fun x y => z ∈ stp t x y → mn t x y ≤ z) (fun x h => ?_) (fun x y h ih hz => ?_) (fun x y h ih hz => ?_) x y
  · rw [stp_self] at h; rw [mn_self]; simp at h; omega
  · rw [stp_lt h] at hz
    rcases List.mem_append.mp hz with q | q
    · rw [mn_lt h]; exact ih q
    · have := (mn_le (t := t) x y).2
      simp at q; omega
  · rw [stp_gt h] at hz
    rcases List.mem_cons.mp hz with q | q
    · have := (mn_le (t := t) x y).1; omega
    · rw [mn_gt h]; exact ih q
/-- a way hangs together -/
theorem stp_pc {x y z : Nat} : z ∈ stp t x y → mn t x y < z → pr t z ∈ stp t x y := by
  refine ind2 t (M := fun x y => z ∈ stp t x y → mn t x y < z → pr t z ∈ stp t x y) (fun x h hz => ?_) (fun x y h ih hz hm => ?_) (fun x y h ih hz hm => ?_) x y
  · rw [stp_self] at h; rw [mn_self] at hz; simp at h; omega
  · rw [stp_lt h] at hz ⊢
    rw [mn_lt h] at hm
    rcases List.mem_append.mp hz with q | q
    · exact List.mem_append_left _ (ih q hm)
    · have e : z = y := by simpa using q
      rw [e]; exact List.mem_append_left _ (stp_ends x (pr t y)).2
  · rw [stp_gt h] at hz ⊢
    rw [mn_gt h] at hm
    rcases List.mem_cons.mp hz with q | q
    · rw [q]; exact List.mem_cons_of_mem _ (stp_ends (pr t x) y).1
    · exact List.mem_cons_of_mem _ (ih q hm)
theorem dn_le {x w : Nat} : w ∈ dn t x → w ≤ x := by
  induction x using Nat.strongRecOn with
  | _ x ih =>
    intro h
    by_cases e : x = 0
    · subst e; rw [dn0] at h; simp at h; omega
    · rw [dnS e] at h
      have hp := pr_lt (t := t) (x := x) (by omega)
      rcases List.mem_cons.mp h with q | q
      · omega
      · have := ih _ hp q; omega
theorem dn_self (x : Nat) : x ∈ dn t x := by
  by_cases e : x = 0
  · subst e; rw [dn0]; simp
  · rw [dnS e]; simp
theorem dn_pr {x w : Nat} : w ∈ dn t x → 0 < w → pr t w ∈ dn t x := by
  induction x using Nat.strongRecOn with
  | _ x ih =>
    intro h hw
    by_cases e : x = 0
    · subst e; rw [dn0] at h; simp at h; omega
    · rw [dnS e] at h ⊢
      have hp := pr_lt (t := t) (x := x) (by omega)
      rcases List.mem_cons.mp h with q | q
      · rw [q]; exact List.mem_cons_of_mem _ (dn_self _)
      · exact List.mem_cons_of_mem _ (ih _ hp q hw)
theorem dn_two {x a b : Nat} : a ∈ dn t x → b ∈ dn t x → a < b → a ≤ pr t b := by
  induction x using Nat.strongRecOn with
  | _ x ih =>
    intro ha hb hab
    by_cases e : x = 0
    · subst e; rw [dn0] at ha hb; simp at ha hb; omega
    · rw [dnS e] at ha hb
      have hp := pr_lt (t := t) (x := x) (by omega)
      rcases List.mem_cons.mp hb with q | q
      · subst q
        rcases List.mem_cons.mp ha with r | r
        · omega
        · exact dn_le r
      · rcases List.mem_cons.mp ha with r | r
        · have := dn_le q; omega
        · exact ih _ hp r q hab
theorem mn_dn (x y : Nat) : mn t x y ∈ dn t x := by
  refine ind2 t (M := fun x y => mn t x y ∈ dn t x) (fun x => ?_) (fun x y h ih => ?_) (fun x y h ih => ?_) x y
  · rw [mn_self]; exact dn_self x
  · rw [mn_lt h]; exact ih
  · rw [mn_gt h, dnS (by omega)]; exact List.mem_cons_of_mem _ ih
theorem dn_stp {x y w : Nat} : w ∈ dn t x → mn t x y ≤ w → w ∈ stp t x y := by
  refine ind2 t (M := fun x y => w ∈ dn t x → mn t x y ≤ w → w ∈ stp t x y) (fun x h hm => ?_) (fun x y h ih hw hm => ?_) (fun x y h ih hw hm => ?_) x y
  · rw [mn_self] at hm
    have := dn_le h
    have e : w = x := by omega
    rw [stp_self, e]; simp
  · rw [mn_lt h] at hm
    rw [stp_lt h]
    exact List.mem_append_left _ (ih hw hm)
  · rw [mn_gt h] at hm
    rw [stp_gt h]
    rw [dnS (by omega)] at hw
    rcases List.mem_cons.mp hw with q | q
    · rw [q]; simp
    · exact List.mem_cons_of_mem _ (ih q hm)
end
/-- what hangs together: but for the least, each with the place below it -/
def PC (t : List Nat) (S : Nat → Prop) : Prop := ∀ x, S x → (∃ y, S y ∧ y < x) → S (pr t x)
/-- LEMMA A: ways between two of S lie in S -/
theorem pc_stp {t : List Nat} {S : Nat → Prop} (h : PC t S) (x y : Nat) : S x → S y → ∀ z ∈ stp t x y, S z := by
  refine ind2 t (M := fun x y => S x → S y → ∀ z ∈ stp t x y, S z) (fun x hx _ z hz => ?_) (fun x y hxy ih hx hy z hz => ?_) (fun x y hxy ih hx hy z hz => ?_) x y
  · rw [stp_self] at hz
    have e : z = x := by simpa using hz
    rw [e]; exact hx
  · rw [stp_lt hxy] at hz
    rcases List.mem_append.mp hz with q | q
    · exact ih hx (h y hy ⟨x, hx, hxy⟩) z q
    · have e : z = y := by simpa using q
      rw [e]; exact hy
  · rw [stp_gt hxy] at hz
    rcases List.mem_cons.mp hz with q | q
    · rw [q]; exact hx
    · exact ih (h x hx ⟨y, hy, hxy⟩) hy z q
/-- LEMMA B: ways from one place to some hang together -/
theorem pc_ways (t : List Nat) (f : Nat) (L : Nat → Prop) : PC t (fun z => z = f ∨ ∃ l, L l ∧ z ∈ stp t f l) := by
  have key : ∀ w y l', w ∈ dn t f → y ∈ stp t f l' → y < w → pr t w ∈ stp t f l' := fun w y l' hw hy hlt => by
    have h1 := mn_low hy
    have h2 := mn_dn (t := t) f l'
    exact dn_stp (dn_pr hw (by omega)) (dn_two h2 hw (by omega))
  intro x hx ⟨y, hy, hlt⟩
  have yl : y < f → ∃ l', L l' ∧ y ∈ stp t f l' := fun hf => by
    rcases hy with e | h
    · omega
    · exact h
  rcases hx with e | ⟨l, hl, hx⟩
  · obtain ⟨l', hl', hy'⟩ := yl (by omega)
    exact .inr ⟨l', hl', key x y l' (by rw [e]; exact dn_self f) hy' hlt⟩
  · by_cases hm : mn t f l < x
    · exact .inr ⟨l, hl, stp_pc hx hm⟩
    · have e : x = mn t f l := by have := mn_low hx; omega
      have hf := (mn_le (t := t) f l).1
      obtain ⟨l', hl', hy'⟩ := yl (by omega)
      exact .inr ⟨l', hl', key x y l' (by rw [e]; exact mn_dn f l) hy' hlt⟩
/-! ### steps counted -/
def dist (t : List Nat) (x y : Nat) : Nat := (stp t x y).length - 1
section
variable {t : List Nat}
theorem stp_pos (x y : Nat) : 0 < (stp t x y).length := List.length_pos_of_mem (stp_ends x y).1
theorem dist_self (x : Nat) : dist t x x = 0 := by unfold dist; rw [stp_self]; rfl
theorem dist_lt {x y : Nat} (h : x < y) : dist t x y = dist t x (pr t y) + 1 := by
  have := stp_pos (t := t) x (pr t y)
  unfold dist
  rw [stp_lt h, List.length_append, List.length_singleton]; omega
theorem dist_gt {x y : Nat} (h : y < x) : dist t x y = dist t (pr t x) y + 1 := by
  have := stp_pos (t := t) (pr t x) y
  unfold dist
  rw [stp_gt h, List.length_cons]; omega
theorem dist_comm (x y : Nat) : dist t x y = dist t y x := by
  refine ind2 t (M := fun x y => dist t x y = dist t y x) (fun x => rfl) (fun x y h ih => ?_) (fun x y h ih => ?_) x y
  · rw [dist_lt h, dist_gt h, ih]
  · rw [dist_gt h, dist_lt h, ih]
theorem dist_zero {x y : Nat} (h : dist t x y = 0) : x = y := by
  rcases Nat.lt_trichotomy x y with e | e | e
  · rw [dist_lt e] at h; omega
  · exact e
  · rw [dist_gt e] at h; omega
theorem dist_tri : ∀ n x y z, x + y + z ≤ n → dist t x y ≤ dist t x z + dist t z y
  | 0, x, y, z, h => by
    have e1 : x = 0 := by omega
    have e2 : y = 0 := by omega
    rw [e1, e2, dist_self]; omega
  | n + 1, x, y, z, h => by
    by_cases exy : x = y
    · rw [exy, dist_self]; omega
    by_cases exz : x = z
    · rw [exz]; omega
    by_cases eyz : y = z
    · rw [eyz]; omega
    by_cases hz : x < z ∧ y < z
    · have p := pr_lt (t := t) (x := z) (by omega)
      have ih := dist_tri n x y (pr t z) (by omega)
      rw [dist_lt hz.1, dist_gt hz.2]; omega
    · rcases Nat.lt_or_gt_of_ne exy with q | q
      · have p := pr_lt (t := t) (x := y) (by omega)
        have hzy : z < y := by omega
        have ih := dist_tri n x (pr t y) z (by omega)
        rw [dist_lt q, dist_lt hzy]; omega
      · have p := pr_lt (t := t) (x := x) (by omega)
        have hzx : z < x := by omega
        have ih := dist_tri n (pr t x) y z (by omega)
        rw [dist_gt q, dist_gt hzx]; omega
/-- between two: on the way from one to the other -/
theorem between (z : Nat) : ∀ x y, dist t x z + dist t z y = dist t x y ↔ z ∈ stp t x y := by
  have big : ∀ x y, x < z → y < z → dist t x y < dist t x z + dist t z y := fun x y h1 h2 => by
    have ih := dist_tri (t := t) _ x y (pr t z) (Nat.le_refl _)
    rw [dist_lt h1, dist_gt h2]; omega
  refine ind2 t (M := fun x y => dist t x z + dist t z y = dist t x y ↔ z ∈ stp t x y) (fun x => ?_) (fun x y h ih => ?_) (fun x y h ih => ?_)
  · rw [stp_self, dist_self]
    constructor
    · intro q
      have := dist_zero (t := t) (x := x) (y := z) (by omega)
      simp [this]
    · intro q
      have e : z = x := by simpa using q
      rw [e, dist_self]
  · have p := pr_lt (t := t) (x := y) (by omega)
    rw [stp_lt h, List.mem_append, List.mem_singleton]
    rcases Nat.lt_trichotomy z y with q | q | q
    · rw [dist_lt h, dist_lt q, ← ih]
      constructor
      · intro w; exact .inl (by omega)
      · rintro (w | w)
        · omega
        · omega
    · rw [q, dist_self]
      exact ⟨fun _ => .inr rfl, fun _ => rfl⟩
    · constructor
      · intro w
        have := big x y (by omega) q
        omega
      · rintro (w | w)
        · have := stp_le w; omega
        · omega
  · have p := pr_lt (t := t) (x := x) (by omega)
    rw [stp_gt h, List.mem_cons]
    rcases Nat.lt_trichotomy z x with q | q | q
    · rw [dist_gt h, dist_gt q, ← ih]
      constructor
      · intro w; exact .inr (by omega)
      · rintro (w | w)
        · omega
        · omega
    · rw [q, dist_self]
      exact ⟨fun _ => .inl rfl, fun _ => by omega⟩
    · constructor
      · intro w
        have := big x y q (by omega)
        omega
      · rintro (w | w)
        · omega
        · have := stp_le w; omega
end
end JM
set_option maxHeartbeats 200000
/-! JM2: branches, parts, how far, hulls; closing. -/
namespace JM
abbrev Br := List Nat
abbrev Part := List Br
structure BrOk (t : List Nat) (b : Br) : Prop where
  ne : b ≠ []
  up : b.Pairwise (· < ·)
  le : ∀ x ∈ b, x ≤ t.length
  pc : PC t (· ∈ b)
def PartOk : List (List Nat) → Part → Prop
  | [], [] => True
  | t :: ts, b :: bs => BrOk t b ∧ PartOk ts bs
  | _, _ => False
def PSub : Part → Part → Prop
  | [], [] => True
  | b :: bs, c :: cs => (∀ x ∈ b, x ∈ c) ∧ PSub bs cs
  | _, _ => False
def minL : List Nat → Nat
  | [] => 0
  | [x] => x
  | x :: y :: r => min x (minL (y :: r))
theorem minL_le : ∀ {l : List Nat} {x : Nat}, x ∈ l → minL l ≤ x
  | [y], x, h => by simp at h; subst h; exact Nat.le_refl _
  | y :: z :: r, x, h => by
    show min y (minL (z :: r)) ≤ x
    rcases List.mem_cons.mp h with e | h
    · omega
    · have := minL_le h; omega
theorem minL_mem : ∀ {l : List Nat}, l ≠ [] → minL l ∈ l
  | [y], _ => by simp [minL]
  | y :: z :: r, _ => by
    show min y (minL (z :: r)) ∈ _
    by_cases h : y ≤ minL (z :: r)
    · rw [Nat.min_eq_left h]; simp
    · rw [Nat.min_eq_right (by omega)]; exact List.mem_cons_of_mem _ (minL_mem (by simp))
theorem minL_eq {l : List Nat} {m : Nat} (h1 : m ∈ l) (h2 : ∀ x ∈ l, m ≤ x) : minL l = m := by
  have a := minL_le h1
  have b := h2 _ (minL_mem (List.ne_nil_of_mem h1))
  omega
/-- the least number of steps from b to c -/
def gapB (t : List Nat) (b c : Br) : Nat := minL (b.flatMap fun x => c.map fun y => dist t x y)
def farP : List (List Nat) → Part → Part → Nat
  | t :: ts, b :: bs, c :: cs => gapB t b c + farP ts bs cs
  | _, _, _ => 0
def hullB (t : List Nat) (s : Br) : Br := match s with
  | [] => []
  | f :: o => (List.range (t.length + 1)).filter fun z => decide (z = f) || o.any fun l => decide (z ∈ stp t f l)
def hullP : List (List Nat) → Part → Part → Part
  | t :: ts, b :: bs, c :: cs => hullB t (b ++ c) :: hullP ts bs cs
  | _, _, _ => []
/-! ### inclusion -/
theorem psub_refl : ∀ p : Part, PSub p p
  | [] => trivial
  | b :: bs => ⟨fun _ h => h, psub_refl bs⟩
theorem psub_trans : ∀ {p q r : Part}, PSub p q → PSub q r → PSub p r
  | [], [], [], _, _ => trivial
  | _ :: _, _ :: _, _ :: _, h, k => ⟨fun x hx => k.1 x (h.1 x hx), psub_trans h.2 k.2⟩
  | [], _ :: _, _, h, _ => h.elim
  | _ :: _, [], _, h, _ => h.elim
  | [], [], _ :: _, _, k => k.elim
  | _ :: _, _ :: _, [], _, k => k.elim
theorem up_ext : ∀ {l m : List Nat}, l.Pairwise (· < ·) → m.Pairwise (· < ·) → (∀ x, x ∈ l ↔ x ∈ m) → l = m
  | [], [], _, _, _ => rfl
  | [], y :: m, _, _, h => by have := (h y).mpr (by simp); simp at this
  | x :: l, [], _, _, h => by have := (h x).mp (by simp); simp at this
  | x :: l, y :: m, hl, hm, h => by
    have hl' := List.pairwise_cons.mp hl
    have hm' := List.pairwise_cons.mp hm
    have e : x = y := by
      rcases List.mem_cons.mp ((h x).mp (by simp)) with q | q
      · exact q
      · rcases List.mem_cons.mp ((h y).mpr (by simp)) with r | r
        · exact r.symm
        · have := hl'.1 y r; have := hm'.1 x q; omega
    subst e
    rw [up_ext hl'.2 hm'.2 fun z => ?_]
    constructor
    · intro hz
      rcases List.mem_cons.mp ((h z).mp (List.mem_cons_of_mem _ hz)) with q | q
      · subst q; have := hl'.1 z hz; omega
      · exact q
    · intro hz
      rcases List.mem_cons.mp ((h z).mpr (List.mem_cons_of_mem _ hz)) with q | q
      · subst q; have := hm'.1 z hz; omega
      · exact q
theorem psub_anti : ∀ {ts : List (List Nat)} {p q : Part}, PartOk ts p → PartOk ts q → PSub p q → PSub q p → p = q
  | [], [], [], _, _, _, _ => rfl
  | t :: ts, b :: bs, c :: cs, hp, hq, h, k => by
    rw [up_ext hp.1.up hq.1.up fun x => ⟨h.1 x, k.1 x⟩, psub_anti hp.2 hq.2 h.2 k.2]
  | [], [], _ :: _, _, hq, _, _ => hq.elim
  | [], _ :: _, _, hp, _, _, _ => hp.elim
  | _ :: _, [], _, hp, _, _, _ => hp.elim
  | _ :: _, _ :: _, [], _, hq, _, _ => hq.elim
/-! ### how far -/
theorem gap_mem {t : List Nat} {b c : Br} {k : Nat} : k ∈ (b.flatMap fun x => c.map fun y => dist t x y) ↔ ∃ x ∈ b, ∃ y ∈ c, dist t x y = k := by
  rw [List.mem_flatMap]
  constructor
  · rintro ⟨x, hx, h⟩
    obtain ⟨y, hy, e⟩ := List.mem_map.mp h
    exact ⟨x, hx, y, hy, e⟩
  · rintro ⟨x, hx, y, hy, e⟩
    exact ⟨x, hx, List.mem_map.mpr ⟨y, hy, e⟩⟩
theorem gap_ne {t : List Nat} {b c : Br} (hb : b ≠ []) (hc : c ≠ []) : (b.flatMap fun x => c.map fun y => dist t x y) ≠ [] := by
  obtain ⟨x, hx⟩ := List.exists_mem_of_ne_nil b hb
  obtain ⟨y, hy⟩ := List.exists_mem_of_ne_nil c hc
  exact List.ne_nil_of_mem (gap_mem.mpr ⟨x, hx, y, hy, rfl⟩)
theorem gap_at {t : List Nat} {b c : Br} (hb : b ≠ []) (hc : c ≠ []) : ∃ x ∈ b, ∃ y ∈ c, dist t x y = gapB t b c := gap_mem.mp (minL_mem (gap_ne hb hc))
theorem gap_le {t : List Nat} {b c : Br} {x y : Nat} (hx : x ∈ b) (hy : y ∈ c) : gapB t b c ≤ dist t x y := minL_le (gap_mem.mpr ⟨x, hx, y, hy, rfl⟩)
theorem far_mono : ∀ {ts : List (List Nat)} {p q p' q' : Part}, PartOk ts p → PartOk ts q → PSub p p' → PSub q q' → farP ts p' q' ≤ farP ts p q
  | [], p, q, [], q', _, _, _, _ => by unfold farP; exact Nat.zero_le _
  | [], p, q, _ :: _, q', _, _, _, _ => by unfold farP; exact Nat.zero_le _
  | t :: ts, b :: bs, c :: cs, b' :: bs', c' :: cs', hp, hq, h, k => by
    show gapB t b' c' + farP ts bs' cs' ≤ gapB t b c + farP ts bs cs
    obtain ⟨x, hx, y, hy, e⟩ := gap_at (t := t) hp.1.ne hq.1.ne
    have a1 := gap_le (t := t) (h.1 x hx) (k.1 y hy)
    have a2 := far_mono hp.2 hq.2 h.2 k.2
    omega
  | _ :: _, [], _, _, _, hp, _, _, _ => hp.elim
  | _ :: _, _ :: _, [], _, _, _, hq, _, _ => hq.elim
  | _ :: _, _ :: _, _ :: _, [], _, _, _, h, _ => h.elim
  | _ :: _, _ :: _, _ :: _, _ :: _, [], _, _, _, k => k.elim
theorem gap_comm {t : List Nat} {b c : Br} (hb : b ≠ []) (hc : c ≠ []) : gapB t b c = gapB t c b := by
  obtain ⟨x, hx, y, hy, e⟩ := gap_at (t := t) hb hc
  obtain ⟨x', hx', y', hy', e'⟩ := gap_at (t := t) hc hb
  have a1 := gap_le (t := t) hy hx
  have a2 := gap_le (t := t) hy' hx'
  rw [dist_comm] at a1 a2
  omega
theorem far_comm : ∀ {ts : List (List Nat)} {p q : Part}, PartOk ts p → PartOk ts q → farP ts p q = farP ts q p
  | [], p, q, _, _ => by unfold farP; rfl
  | t :: ts, b :: bs, c :: cs, hp, hq => by
    show gapB t b c + farP ts bs cs = gapB t c b + farP ts cs bs
    rw [gap_comm hp.1.ne hq.1.ne, far_comm hp.2 hq.2]
  | _ :: _, [], _, hp, _ => hp.elim
  | _ :: _, _ :: _, [], _, hq => hq.elim
theorem far_sub : ∀ {ts : List (List Nat)} {p q : Part}, PartOk ts p → PSub p q → farP ts p q = 0
  | [], p, q, _, _ => by unfold farP; rfl
  | t :: ts, b :: bs, c :: cs, hp, h => by
    show gapB t b c + farP ts bs cs = 0
    obtain ⟨x, hx⟩ := List.exists_mem_of_ne_nil b hp.1.ne
    have a := gap_le (t := t) hx (h.1 x hx)
    rw [dist_self] at a
    have := far_sub hp.2 h.2
    omega
  | _ :: _, [], _, hp, _ => hp.elim
  | _ :: _, _ :: _, [], _, h => h.elim
/-! ### hulls -/
theorem hullB_mem {t : List Nat} {f : Nat} {o : List Nat} {z : Nat} (hf : f ≤ t.length) (ho : ∀ x ∈ o, x ≤ t.length) : z ∈ hullB t (f :: o) ↔ (z = f ∨ ∃ l, l ∈ o ∧ z ∈ stp t f l) := by
  unfold hullB
  rw [List.mem_filter, List.mem_range, Bool.or_eq_true, decide_eq_true_iff, List.any_eq_true]
  constructor
  · rintro ⟨_, e | ⟨l, hl, hz⟩⟩
    · exact .inl e
    · exact .inr ⟨l, hl, decide_eq_true_iff.mp hz⟩
  · rintro (e | ⟨l, hl, hz⟩)
    · exact ⟨by omega, .inl e⟩
    · have a := stp_le hz
      have b := ho l hl
      exact ⟨by omega, .inr ⟨l, hl, decide_eq_true hz⟩⟩
theorem hullB_up (t : List Nat) (s : Br) : (hullB t s).Pairwise (· < ·) := by
  unfold hullB
  split
  · exact .nil
  · exact List.Pairwise.filter _ List.pairwise_lt_range
theorem hullB_ok {t : List Nat} {s : Br} (hs : s ≠ []) (hle : ∀ x ∈ s, x ≤ t.length) : BrOk t (hullB t s) ∧ ∀ x ∈ s, x ∈ hullB t s := by
  cases s with
  | nil => exact absurd rfl hs
  | cons f o =>
    have hf := hle f (by simp)
    have ho : ∀ x ∈ o, x ≤ t.length := fun x hx => hle x (List.mem_cons_of_mem _ hx)
    have hm := fun z => hullB_mem (z := z) hf ho
    refine ⟨⟨List.ne_nil_of_mem ((hm f).mpr (.inl rfl)), hullB_up t _, fun x hx => ?_, ?_⟩, fun x hx => ?_⟩
    · rcases (hm x).mp hx with e | ⟨l, hl, hz⟩
      · omega
      · have a := stp_le hz
        have b := ho l hl
        omega
    · intro x hx ⟨y, hy, hlt⟩
      exact (hm _).mpr (pc_ways t f (· ∈ o) x ((hm x).mp hx) ⟨y, (hm y).mp hy, hlt⟩)
    · rcases List.mem_cons.mp hx with e | hx
      · exact (hm x).mpr (.inl e)
      · exact (hm x).mpr (.inr ⟨x, hx, (stp_ends f x).2⟩)
theorem hullB_least {t : List Nat} {s q : Br} (hq : BrOk t q) (hs : ∀ x ∈ s, x ∈ q) : ∀ z ∈ hullB t s, z ∈ q := by
  cases s with
  | nil => intro z hz; unfold hullB at hz; simp at hz
  | cons f o =>
    intro z hz
    have hle : ∀ x ∈ f :: o, x ≤ t.length := fun x hx => hq.le x (hs x hx)
    rcases (hullB_mem (hle f (by simp)) fun x hx => hle x (List.mem_cons_of_mem _ hx)).mp hz with e | ⟨l, hl, hz⟩
    · rw [e]; exact hs f (by simp)
    · exact pc_stp hq.pc f l (hs f (by simp)) (hs l (List.mem_cons_of_mem _ hl)) z hz
theorem hull_ok : ∀ {ts : List (List Nat)} {p q : Part}, PartOk ts p → PartOk ts q → PartOk ts (hullP ts p q) ∧ PSub p (hullP ts p q) ∧ PSub q (hullP ts p q)
  | [], [], [], _, _ => ⟨trivial, trivial, trivial⟩
  | t :: ts, b :: bs, c :: cs, hp, hq => by
    obtain ⟨h1, h2, h3⟩ := hull_ok hp.2 hq.2
    obtain ⟨k1, k2⟩ := hullB_ok (t := t) (s := b ++ c) (by simp [hp.1.ne]) fun x hx => (List.mem_append.mp hx).elim (hp.1.le x) (hq.1.le x)
    exact ⟨⟨k1, h1⟩, ⟨fun x hx => k2 x (List.mem_append_left _ hx), h2⟩, ⟨fun x hx => k2 x (List.mem_append_right _ hx), h3⟩⟩
  | [], [], _ :: _, _, hq => hq.elim
  | [], _ :: _, _, hp, _ => hp.elim
  | _ :: _, [], _, hp, _ => hp.elim
  | _ :: _, _ :: _, [], _, hq => hq.elim
theorem hull_least : ∀ {ts : List (List Nat)} {p q n : Part}, PartOk ts n → PSub p n → PSub q n → PSub (hullP ts p q) n
  | [], [], [], [], _, _, _ => trivial
  | t :: ts, b :: bs, c :: cs, d :: ds, hn, h, k => ⟨hullB_least hn.1 fun x hx => (List.mem_append.mp hx).elim (h.1 x) (k.1 x), hull_least hn.2 h.2 k.2⟩
  | [], _, _, _ :: _, hn, _, _ => hn.elim
  | _ :: _, _, _, [], hn, _, _ => hn.elim
  | [], _ :: _, _, [], _, h, _ => h.elim
  | [], [], _ :: _, [], _, _, k => k.elim
  | _ :: _, [], _, _ :: _, _, h, _ => h.elim
  | _ :: _, _ :: _, [], _ :: _, _, _, k => k.elim
/-! ### what is closed -/
def Apart (ts : List (List Nat)) (r : Nat) (M : List Part) : Prop := M.Pairwise fun a b => r < farP ts a b
def Cov (M : List Part) (p : Part) : Prop := ∃ q ∈ M, PSub p q
def AllOk (ts : List (List Nat)) (M : List Part) : Prop := ∀ q ∈ M, PartOk ts q
structure Fin (ts : List (List Nat)) (ps : List Part) (r : Nat) (M : List Part) : Prop where
  ok : AllOk ts M
  apart : Apart ts r M
  cov : ∀ p ∈ ps, Cov M p
  least : ∀ N, AllOk ts N → Apart ts r N → (∀ p ∈ ps, Cov N p) → ∀ q ∈ M, Cov N q
theorem apart_two {ts : List (List Nat)} {r : Nat} {M : List Part} (h : Apart ts r M) (ok : AllOk ts M) {a b : Part} (ha : a ∈ M) (hb : b ∈ M) (hf : farP ts a b ≤ r) : a = b := by
  induction M with
  | nil => simp at ha
  | cons m M ih =>
    have h' := List.pairwise_cons.mp h
    rcases List.mem_cons.mp ha with e | ha
    · rcases List.mem_cons.mp hb with e' | hb
      · rw [e, e']
      · have := h'.1 b hb
        rw [e] at hf; omega
    · rcases List.mem_cons.mp hb with e' | hb
      · have := h'.1 a ha
        rw [e', far_comm (ok a (List.mem_cons_of_mem _ ha)) (ok m (by simp))] at hf
        omega
      · exact ih h'.2 (fun q hq => ok q (List.mem_cons_of_mem _ hq)) ha hb
theorem apart_nodup {ts : List (List Nat)} {r : Nat} {M : List Part} (h : Apart ts r M) (ok : AllOk ts M) : M.Nodup := by
  induction M with
  | nil => exact .nil
  | cons m M ih =>
    have h' := List.pairwise_cons.mp h
    refine List.nodup_cons.mpr ⟨fun hm => ?_, ih h'.2 fun q hq => ok q (List.mem_cons_of_mem _ hq)⟩
    have a := h'.1 m hm
    rw [far_sub (ok m (by simp)) (psub_refl m)] at a
    omega
/-- the same closing: what M covers of the one, N of the other -/
theorem fin_sub {ts : List (List Nat)} {ps qs : List Part} {r : Nat} {M N : List Part} (hM : Fin ts ps r M) (hN : Fin ts qs r N) (h : ∀ p ∈ ps, Cov N p) (k : ∀ q ∈ qs, Cov M q) : ∀ m ∈ M, m ∈ N := by
  intro m hm
  obtain ⟨n, hn, h1⟩ := hM.least N hN.ok hN.apart h m hm
  obtain ⟨m', hm', h2⟩ := hN.least M hM.ok hM.apart k n hn
  have e : m = m' := apart_two hM.apart hM.ok hm hm' (by rw [far_sub (hM.ok m hm) (psub_trans h1 h2)]; exact Nat.zero_le _)
  subst e
  rw [psub_anti (hM.ok m hm) (hN.ok n hn) h1 h2]
  exact hn
theorem cov_trans {M N : List Part} (h : ∀ m ∈ M, Cov N m) {p : Part} (hp : Cov M p) : Cov N p := by
  obtain ⟨m, hm, h1⟩ := hp
  obtain ⟨n, hn, h2⟩ := h m hm
  exact ⟨n, hn, psub_trans h1 h2⟩
/-- what is closed for some is closed for more, where the more lie within -/
theorem fin_more {ts : List (List Nat)} {ps qs : List Part} {r : Nat} {M : List Part} (hM : Fin ts ps r M) (h : ∀ p ∈ ps, p ∈ qs) (k : ∀ q ∈ qs, Cov M q) : Fin ts qs r M :=
  ⟨hM.ok, hM.apart, k, fun N ok ap c => hM.least N ok ap fun p hp => c p (h p hp)⟩
/-- and for less, where what is left out lies within what stays -/
theorem fin_less {ts : List (List Nat)} {ps qs : List Part} {r : Nat} {M : List Part} (hM : Fin ts ps r M) (h : ∀ q ∈ qs, q ∈ ps) (k : ∀ p ∈ ps, ∃ q ∈ qs, PSub p q) : Fin ts qs r M :=
  ⟨hM.ok, hM.apart, fun q hq => hM.cov q (h q hq), fun N ok ap c => hM.least N ok ap fun p hp => by
    obtain ⟨q, hq, h1⟩ := k p hp
    obtain ⟨n, hn, h2⟩ := c q hq
    exact ⟨n, hn, psub_trans h1 h2⟩⟩
/-! ### the way there: what waits, what is found -/
structure Mid (ts : List (List Nat)) (ps : List Part) (r : Nat) (W F : List Part) : Prop where
  okW : AllOk ts W
  okF : AllOk ts F
  apart : Apart ts r F
  cov : ∀ p ∈ ps, Cov (W ++ F) p
  least : ∀ N, AllOk ts N → Apart ts r N → (∀ p ∈ ps, Cov N p) → ∀ q ∈ W ++ F, Cov N q
  few : W.length + F.length < ps.length ∨ ∃ D, ps = W ++ D ∧ F = D.reverse
theorem mid_start {ts : List (List Nat)} {ps : List Part} {r : Nat} (h : AllOk ts ps) : Mid ts ps r ps [] :=
  ⟨h, fun q hq => by simp at hq, .nil, fun p hp => ⟨p, by simpa using hp, psub_refl p⟩, fun N _ _ c q hq => c q (by simpa using hq), .inr ⟨[], by simp, rfl⟩⟩
theorem mid_end {ts : List (List Nat)} {ps F : List Part} {r : Nat} (h : Mid ts ps r [] F) : Fin ts ps r F ∧ (F.length < ps.length ∨ ps = F.reverse) :=
  ⟨⟨h.okF, h.apart, fun p hp => by simpa using h.cov p hp, fun N ok ap c q hq => h.least N ok ap c q (by simpa using hq)⟩, by
    rcases h.few with q | ⟨D, e, e2⟩
    · exact .inl (by simpa using q)
    · exact .inr (by rw [e2, e]; simp)⟩
def nearOf (ts : List (List Nat)) (r : Nat) (p : Part) (F : List Part) : List Part := F.filter fun o => decide (farP ts p o ≤ r)
/-- none is near -/
theorem mid_found {ts : List (List Nat)} {ps W F : List Part} {r : Nat} {p : Part} (h : Mid ts ps r (W ++ [p]) F) (hn : nearOf ts r p F = []) : Mid ts ps r W (F ++ [p]) := by
  have okp := h.okW p (by simp)
  have far : ∀ o ∈ F, r < farP ts o p := fun o ho => by
    have q := List.filter_eq_nil_iff.mp hn o ho
    rw [far_comm (h.okF o ho) okp]
    simpa using q
  refine ⟨fun q hq => h.okW q (by simp [hq]), fun q hq => ?_, ?_, fun p' hp' => ?_, fun N ok ap c q hq => h.least N ok ap c q ?_, ?_⟩
  · rcases List.mem_append.mp hq with q1 | q1
    · exact h.okF q q1
    · have e : q = p := by simpa using q1
      rw [e]; exact okp
  · refine List.pairwise_append.mpr ⟨h.apart, by simp, fun a ha b hb => ?_⟩
    have e : b = p := by simpa using hb
    rw [e]; exact far a ha
  · obtain ⟨q, hq, s⟩ := h.cov p' hp'
    exact ⟨q, by simp only [List.mem_append, List.mem_singleton] at hq ⊢; rcases hq with (q1 | q1) | q1 <;> simp [q1], s⟩
  · simp only [List.mem_append, List.mem_singleton] at hq ⊢
    rcases hq with q1 | q1 | q1 <;> simp [q1]
  · rcases h.few with q | ⟨D, e, e2⟩
    · left; simp at q ⊢; omega
    · right; exact ⟨p :: D, by rw [e]; simp, by rw [e2]; simp⟩
theorem hulls_ok {ts : List (List Nat)} : ∀ {ns : List Part} {p : Part}, PartOk ts p → AllOk ts ns → PartOk ts (ns.foldl (hullP ts) p) ∧ PSub p (ns.foldl (hullP ts) p) ∧ (∀ n ∈ ns, PSub n (ns.foldl (hullP ts) p)) ∧
    ∀ m, PartOk ts m → PSub p m → (∀ n ∈ ns, PSub n m) → PSub (ns.foldl (hullP ts) p) m
  | [], p, hp, _ => ⟨hp, psub_refl p, fun n hn => by simp at hn, fun m _ h _ => h⟩
  | n :: ns, p, hp, h => by
    obtain ⟨a1, a2, a3⟩ := hull_ok hp (h n (by simp))
    obtain ⟨b1, b2, b3, b4⟩ := hulls_ok (ns := ns) a1 fun q hq => h q (List.mem_cons_of_mem _ hq)
    refine ⟨b1, psub_trans a2 b2, fun q hq => ?_, fun m hm h1 h2 => b4 m hm (hull_least hm h1 (h2 n (by simp))) fun q hq => h2 q (List.mem_cons_of_mem _ hq)⟩
    rcases List.mem_cons.mp hq with e | hq
    · rw [e]; exact psub_trans a3 b2
    · exact b3 q hq
/-- some are near: they go, the hull waits -/
theorem mid_merge {ts : List (List Nat)} {ps W F : List Part} {r : Nat} {p : Part} (h : Mid ts ps r (W ++ [p]) F) (hn : nearOf ts r p F ≠ []) :
    Mid ts ps r (W ++ [(nearOf ts r p F).foldl (hullP ts) p]) (F.filter fun o => decide (¬ o ∈ nearOf ts r p F)) ∧ (F.filter fun o => decide (¬ o ∈ nearOf ts r p F)).length < F.length := by
  have okp := h.okW p (by simp)
  have okN : AllOk ts (nearOf ts r p F) := fun q hq => h.okF q ((List.mem_filter.mp hq).1)
  obtain ⟨b1, b2, b3, b4⟩ := hulls_ok okp okN
  obtain ⟨n0, hn0⟩ := List.exists_mem_of_ne_nil _ hn
  have hlt : (F.filter fun o => decide (¬ o ∈ nearOf ts r p F)).length < F.length := by
    refine List.length_filter_lt_length_iff_exists.mpr ⟨n0, (List.mem_filter.mp hn0).1, ?_⟩
    simp [hn0]
  refine ⟨⟨fun q hq => ?_, fun q hq => h.okF q ((List.mem_filter.mp hq).1), List.Pairwise.filter _ h.apart, fun p' hp' => ?_, fun N ok ap c q hq => ?_, ?_⟩, hlt⟩
  · rcases List.mem_append.mp hq with q1 | q1
    · exact h.okW q (by simp [q1])
    · have e : q = (nearOf ts r p F).foldl (hullP ts) p := by simpa using q1
      rw [e]; exact b1
  · obtain ⟨q, hq, s⟩ := h.cov p' hp'
    rcases List.mem_append.mp hq with q1 | q1
    · rcases List.mem_append.mp q1 with q2 | q2
      · exact ⟨q, by simp [q2], s⟩
      · have e : q = p := by simpa using q2
        rw [e] at s
        exact ⟨_, by simp, psub_trans s b2⟩
    · by_cases hq2 : q ∈ nearOf ts r p F
      · exact ⟨_, by simp, psub_trans s (b3 q hq2)⟩
      · exact ⟨q, List.mem_append_right _ (List.mem_filter.mpr ⟨q1, by simp [hq2]⟩), s⟩
  · have L := h.least N ok ap c
    rcases List.mem_append.mp hq with q1 | q1
    · rcases List.mem_append.mp q1 with q2 | q2
      · exact L q (by simp [q2])
      · have e : q = (nearOf ts r p F).foldl (hullP ts) p := by simpa using q2
        obtain ⟨m, hm, s⟩ := L p (by simp)
        rw [e]
        refine ⟨m, hm, b4 m (ok m hm) s fun n hn => ?_⟩
        obtain ⟨m', hm', s'⟩ := L n (List.mem_append_right _ ((List.mem_filter.mp hn).1))
        have hf : farP ts p n ≤ r := by simpa using (List.mem_filter.mp hn).2
        have := far_mono okp (okN n hn) s s'
        rw [apart_two ap ok hm hm' (by omega)]
        exact s'
    · exact L q (List.mem_append_right _ ((List.mem_filter.mp q1).1))
  · left
    generalize hG : (F.filter fun o => decide (¬ o ∈ nearOf ts r p F)) = G at hlt ⊢
    rw [List.length_append, List.length_singleton]
    rcases h.few with q | ⟨D, e, e2⟩
    · rw [List.length_append, List.length_singleton] at q
      omega
    · have e3 : F.length = D.length := by rw [e2]; simp
      rw [e, List.length_append, List.length_append, List.length_singleton]
      omega
end JM
set_option maxHeartbeats 1000000
/-! JSpec: how trees, parts, books are written as data; what each def asks and tells. -/
namespace JR
open PySem PySem.Spec PyProof.Rows L2 JM PySem.W

/-! ### data written -/
def eI (n : Nat) : PyData := .int (n : Int)
def eL (l : List Nat) : PyData := .list (l.map eI)
def eT (l : List Nat) : PyData := .tuple (l.map eI)
/-- trees, or a part -/
def eP (p : List (List Nat)) : PyData := .tuple (p.map eT)
def eGr (t : List Nat) (x : Nat) : PyData := eL ((List.range (t.length + 1)).map fun y => dist t x y)
def eG (t : List Nat) : PyData := .list ((List.range (t.length + 1)).map (eGr t))
def eGs (ts : List (List Nat)) : PyData := .list (ts.map eG)
def wld (ts : List (List Nat)) : DV := .w (eP ts) (eGs ts)
abbrev Bk := List (Str × Part)
def eQ (q : Str × Part) : PyData := .tuple [.str q.1, eP q.2]
def eB (b : Bk) : PyData := .tuple (b.map eQ)
def eS (l : List Str) : PyData := .list (l.map .str)
def eM (M : List Part) : PyData := .tuple (M.map eP)
def nmB (b : Bk) : List Str := b.map (·.1)
def psB (b : Bk) : List Part := b.map (·.2)
def TOk (t : List Nat) : Prop := TreeOk t ∧ t.length < 12
structure WOk (ts : List (List Nat)) : Prop where
  ne : 1 ≤ ts.length
  le : ts.length ≤ 4
  tree : ∀ t ∈ ts, TOk t
structure NameOk (n : Str) : Prop where
  ne : 0 < n.length
  le : n.length ≤ 8
  az : ∀ c ∈ n.cps.toList, 97 ≤ c ∧ c ≤ 122
structure BkOk (ts : List (List Nat)) (b : Bk) : Prop where
  le : b.length ≤ 24
  nd : (nmB b).Nodup
  nm : ∀ q ∈ b, NameOk q.1
  pt : ∀ q ∈ b, PartOk ts q.2
def psubB : Part → Part → Bool
  | [], [] => true
  | b :: bs, c :: cs => (b.all fun x => decide (x ∈ c)) && psubB bs cs
  | _, _ => false
/-- both in one -/
def togB (M : List Part) (p q : Part) : Bool := M.any fun m => psubB p m && psubB q m
/-- what is told of sorted rows -/
def Ups (ds : List PyData) : Prop := ds.Pairwise fun a b => dataLt b a = false
structure Cl (ts : List (List Nat)) (ps : List Part) (r : Nat) (M : List Part) : Prop where
  fin : Fin ts ps r M
  ups : Ups (M.map eP)
def lotOf (b : Bk) (m : Part) : List Str := (b.filter fun q => psubB q.2 m).map (·.1)
def eLot (b : Bk) (m : Part) : PyData := .tuple [eP m, .tuple (srt ((lotOf b m).map .str))]
abbrev Rung := Nat × List Part
def eR (x : Rung) : PyData := .tuple [eI x.1, eM x.2]
/-- the least way between two of M -/
def LeastR (ts : List (List Nat)) (M : List Part) (r : Nat) : Prop := (∃ i j : Nat, ∃ p q, i < j ∧ M[i]? = some p ∧ M[j]? = some q ∧ r = farP ts q p) ∧ ∀ (i j : Nat) (p q), i < j → M[i]? = some p → M[j]? = some q → r ≤ farP ts q p
inductive Rs (ts : List (List Nat)) : Nat → List Part → List Rung → Prop
  | last {r : Nat} {M : List Part} (h : M.length ≤ 1) : Rs ts r M [(r, M)]
  | step {r r1 : Nat} {M M1 : List Part} {L : List Rung} (h : 1 < M.length) (hr : LeastR ts M r1) (hM : Cl ts M r1 M1) (t : Rs ts r1 M1 L) : Rs ts r M ((r, M) :: L)
def Rg (ts : List (List Nat)) (ps : List Part) (L : List Rung) : Prop := ∃ M, Cl ts ps 0 M ∧ Rs ts 0 M L
def meetN (L : List Rung) (p q : Part) : Nat := minL (L.flatMap fun x => (x.2.filter fun m => psubB p m && psubB q m).map fun _ => x.1)
def qk (k : Nat) : Str := Txt.mul "q" (k : Int)
def QFew (ws : List Str) : Prop := ∀ k j : Nat, 1 ≤ k → k ≤ 8 → 1 ≤ j → j ≤ 8 → qk k ∈ ws → qk j ∈ ws → k = j
structure ScnOk (ts : List (List Nat)) (b : Bk) (r : Nat) : Prop where
  wo : WOk ts
  bo : BkOk ts b
  two : 2 ≤ b.length
  few : b.length ≤ 12
  qf : QFew (nmB b)
  ro : r ≤ 48
abbrev Fr := List (Str × Option Str)
def eO : Option Str → PyData
  | none => .none
  | some s => .str s
def eFr (x : Str × Option Str) : PyData := .tuple [.str x.1, eO x.2]
structure MoreOk (ts : List (List Nat)) (b : Bk) (M : List Part) (tw : Bool) (b' : Bk) (fr : Fr) : Prop where
  ok : BkOk ts b'
  back : b'.filter (fun q => decide (q.1 ∉ fr.map (·.1))) = b
  new : ∀ x ∈ fr, x.1 ∉ nmB b
  part : ∀ q ∈ b', q.1 ∈ fr.map (·.1) → if tw = true then ∃ m, (m, q.2) ∈ b else ∃ m ∈ M, PSub q.2 m
  mate : tw = true → ∀ x ∈ fr, ∃ m p, x.2 = some m ∧ (x.1, p) ∈ b' ∧ (m, p) ∈ b
  few : fr.length ≤ 3
  fnm : ∀ x ∈ fr, NameOk x.1

/-! ### what each def asks and tells -/
def sc_is_whole : Sc := fun a R => ∃ i : Int, a = [.d (.int i)] ∧ R (.bool true)
def sc_is_within : Sc := fun a R => ∃ i lo hi : Int, a = [.d (.int i), .d (.int lo), .d (.int hi)] ∧ lo ≤ i ∧ i ≤ hi ∧ R (.bool true)
def sc_is_tree : Sc := fun a R => ∃ t, a = [.d (eT t)] ∧ TOk t ∧ R (.bool true)
def sc_downward : Sc := fun a R => ∃ t x, a = [.d (eT t), .d (eI x)] ∧ TOk t ∧ x ≤ t.length ∧ R (eL (dn t x))
def sc_steps_between : Sc := fun a R => ∃ t x y, a = [.d (eT t), .d (eI x), .d (eI y)] ∧ TOk t ∧ x ≤ t.length ∧ y ≤ t.length ∧ R (eL (stp t x y))
def sc_gaps : Sc := fun a R => ∃ t, a = [.d (eT t)] ∧ TOk t ∧ R (eG t)
def sc_hangs_together : Sc := fun a R => ∃ t b, a = [.d (eT t), .d (eT b)] ∧ TOk t ∧ BrOk t b ∧ R (.bool true)
def sc_branch_around : Sc := fun a R => ∃ t s, a = [.d (eT t), .d (eT s)] ∧ TOk t ∧ s ≠ [] ∧ s.length ≤ 100 ∧ (∀ x ∈ s, x ≤ t.length) ∧ R (eT (hullB t s))
def sc_least_gap : Sc := fun a R => ∃ t b c, a = [.d (eG t), .d (eT b), .d (eT c)] ∧ TOk t ∧ BrOk t b ∧ BrOk t c ∧ ∀ x y : Nat, R (.tuple [eI (gapB t b c), eI x, eI y])
def sc_World_init : ScW := fun a R => ∃ ts, a = eP ts ∧ WOk ts ∧ R (eGs ts)
def sc_check_world : Sc := fun a R => ∃ ts, a = [wld ts] ∧ R .none
def sc_makes_part : Sc := fun a R => ∃ ts p, a = [wld ts, .d (eP p)] ∧ WOk ts ∧ PartOk ts p ∧ R (.bool true)
def sc_is_part : Sc := fun a R => ∃ ts p, a = [wld ts, .d (eP p)] ∧ WOk ts ∧ PartOk ts p ∧ R (.bool true)
def sc_part_in : Sc := fun a R => ∃ ts p q, a = [.d (eP p), .d (eP q)] ∧ WOk ts ∧ PartOk ts p ∧ PartOk ts q ∧ R (.bool (psubB p q))
def sc_part_far : Sc := fun a R => ∃ ts p q, a = [wld ts, .d (eP p), .d (eP q)] ∧ WOk ts ∧ PartOk ts p ∧ PartOk ts q ∧ R (eI (farP ts p q))
def sc_part_hull : Sc := fun a R => ∃ ts p q, a = [wld ts, .d (eP p), .d (eP q)] ∧ WOk ts ∧ PartOk ts p ∧ PartOk ts q ∧ R (eP (hullP ts p q))
def sc_is_name : Sc := fun a R => ∃ n, a = [.d (.str n)] ∧ NameOk n ∧ R (.bool true)
def sc_first_wrong : Sc := fun a R => ∃ ts b, a = [wld ts, .d (eB b)] ∧ WOk ts ∧ BkOk ts b ∧ R .none
def sc_check_book : Sc := fun a R => ∃ ts b, a = [wld ts, .d (eB b)] ∧ WOk ts ∧ BkOk ts b ∧ R .none
def sc_part_of : Sc := fun a R => ∃ ts b n p, a = [.d (eB b), .d (.str n)] ∧ BkOk ts b ∧ (n, p) ∈ b ∧ R (eP p)
def sc_check_reach : Sc := fun a R => ∃ r : Nat, a = [.d (eI r)] ∧ r ≤ 48 ∧ R .none
def sc_closed : Sc := fun a R => ∃ ts ps x r, a = [wld ts, .d x, .d (eI r)] ∧ (x = .list (ps.map eP) ∨ x = .tuple (ps.map eP)) ∧ WOk ts ∧ AllOk ts ps ∧ ps.length ≤ 100 ∧ ∀ M, Cl ts ps r M → (M.length < ps.length ∨ M.Perm ps) → R (eM M)
def sc_lots_of : Sc := fun a R => ∃ ts b r, a = [wld ts, .d (eB b), .d (eI r)] ∧ WOk ts ∧ BkOk ts b ∧ ∀ M, Cl ts (psB b) r M → R (.list (M.map (eLot b)))
def sc_stand : Sc := fun a R => ∃ ts b r, a = [wld ts, .d (eB b), .d (eI r)] ∧ WOk ts ∧ BkOk ts b ∧ r ≤ 48 ∧ ∀ M, Cl ts (psB b) r M → R (eM M)
def sc_lots : Sc := fun a R => ∃ ts b r, a = [wld ts, .d (eB b), .d (eI r)] ∧ WOk ts ∧ BkOk ts b ∧ r ≤ 48 ∧ ∀ M, Cl ts (psB b) r M → R (.tuple (M.map (eLot b)))
def sc_together : Sc := fun a R => ∃ ts b m n p q r, a = [wld ts, .d (eB b), .d (.str m), .d (.str n), .d (eI r)] ∧ WOk ts ∧ BkOk ts b ∧ (m, p) ∈ b ∧ (n, q) ∈ b ∧ r ≤ 48 ∧ ∀ M, Cl ts (psB b) r M → R (.bool (togB M p q))
def sc_rungs : Sc := fun a R => ∃ ts b, a = [wld ts, .d (eB b)] ∧ WOk ts ∧ BkOk ts b ∧ ∀ L, Rg ts (psB b) L → L.length ≤ 25 → (∀ x ∈ L, x.2.length ≤ 24) → R (.list (L.map eR))
def sc_meeting : Sc := fun a R => ∃ ts b m n p q, a = [wld ts, .d (eB b), .d (.str m), .d (.str n)] ∧ WOk ts ∧ BkOk ts b ∧ (m, p) ∈ b ∧ (n, q) ∈ b ∧ ∀ L, Rg ts (psB b) L → R (eI (meetN L p q))
def sc_ladder : Sc := fun a R => ∃ ts b, a = [wld ts, .d (eB b)] ∧ WOk ts ∧ BkOk ts b ∧ ∀ L, Rg ts (psB b) L → R (.tuple (L.map eR))
def sc_together_by : Sc := fun a R => ∃ ts b ns m n p q r, a = [wld ts, .d (eB b), .d (eS ns), .d (.str m), .d (.str n), .d (eI r)] ∧ WOk ts ∧ BkOk ts b ∧ (∀ x ∈ ns, NameOk x) ∧ (m, p) ∈ b ∧ (n, q) ∈ b ∧ m ∈ ns ∧ n ∈ ns ∧ ∀ M, Cl ts (psB (b.filter fun x => decide (x.1 ∈ ns))) r M → R (.bool (togB M p q))
def sc_check_both : Sc := fun a R => ∃ ts b m n p q r, a = [wld ts, .d (eB b), .d (.str m), .d (.str n), .d (eI r)] ∧ WOk ts ∧ BkOk ts b ∧ (m, p) ∈ b ∧ (n, q) ∈ b ∧ r ≤ 48 ∧ (∀ M, Cl ts (psB b) r M → togB M p q = true) ∧ R (eS (nmB b))
def sc_needed : Sc := fun a R => ∃ ts b m n p q r, a = [wld ts, .d (eB b), .d (.str m), .d (.str n), .d (eI r)] ∧ WOk ts ∧ BkOk ts b ∧ (m, p) ∈ b ∧ (n, q) ∈ b ∧ r ≤ 48 ∧ (∀ M, Cl ts (psB b) r M → togB M p q = true) ∧
  ∀ fs : List Str, (∀ x ∈ fs, x ∈ nmB b ∧ x ≠ m ∧ x ≠ n ∧ ∃ M, Cl ts (psB (b.filter fun y => decide (y.1 ≠ x))) r M ∧ togB M p q = false) → R (.tuple (fs.map .str))
def sc_law_cell : Sc := fun a R => ∃ (s : List Int) (k : Nat), a = [.d (.list (s.map .int)), .d (eI k)] ∧ k ≤ 100 ∧ ∀ n : Int, R (.int n)
def sc_law_pick : Sc := fun a R => ∃ n : Int, a = [.c 0, .d (.int n)] ∧ 0 < n ∧ n < 2 ^ 30 ∧ ∀ i : Nat, (i : Int) < n → R (eI i)
def sc_law_wood : Sc := fun a R => ∃ n : Nat, a = [.c 0, .d (eI n)] ∧ 0 < n ∧ n ≤ 12 ∧ ∀ t, TreeOk t → t.length < n → R (eT t)
def sc_law_grove : Sc := fun a R => ∃ u n : Nat, a = [.c 0, .d (eI u), .d (eI n)] ∧ 0 < u ∧ u ≤ 4 ∧ 0 < n ∧ n ≤ 12 ∧ ∀ ts, 1 ≤ ts.length → ts.length ≤ u → (∀ t ∈ ts, TreeOk t ∧ t.length < n) → R (eP ts)
def sc_law_gaps : Sc := fun a R => ∃ t, a = [.d (eT t)] ∧ TOk t ∧ R (eG t)
def sc_law_between_two : Sc := fun a R => ∃ t x y, a = [.d (eG t), .d (eI x), .d (eI y)] ∧ TOk t ∧ x ≤ t.length ∧ y ≤ t.length ∧ ∀ l : List Nat, (∀ z, z ∈ l ↔ z ∈ stp t x y) → l.length ≤ 12 → R (eL l)
def sc_law_limb : Sc := fun a R => ∃ t s, a = [.d (eT t), .d (eL s)] ∧ TOk t ∧ s ≠ [] ∧ s.length ≤ 10 ∧ (∀ x ∈ s, x ≤ t.length) ∧ ∀ b, BrOk t b → R (eT b)
def sc_law_piece : Sc := fun a R => ∃ ts, a = [.c 0, .d (eP ts)] ∧ WOk ts ∧ ∀ p, PartOk ts p → R (eP p)
def sc_law_point : Sc := fun a R => ∃ ts, a = [.c 0, .d (eP ts)] ∧ WOk ts ∧ ∀ xs : List Nat, PartOk ts (xs.map fun x => [x]) → R (eT xs)
def sc_law_alone : Sc := fun a R => ∃ xs : List Nat, a = [.d (eT xs)] ∧ xs.length ≤ 10 ∧ R (eP (xs.map fun x => [x]))
def sc_law_words : Sc := fun a R => ∃ n : Nat, a = [.c 0, .d (eI n)] ∧ n ≤ 12 ∧ ∀ ws : List Str, ws.length = n → ws.Nodup → (∀ w ∈ ws, NameOk w) → QFew ws → R (eS ws)
def sc_law_strange : Sc := fun a R => ∃ ws : List Str, a = [.d (eS ws)] ∧ (∀ w ∈ ws, NameOk w) ∧ (∃ k, 1 ≤ k ∧ k ≤ 8 ∧ qk k ∉ ws) ∧ ∀ k, 1 ≤ k → k ≤ 8 → qk k ∉ ws → R (.str (qk k))
def sc_law_some_piece : Sc := fun a R => ∃ ts, a = [.c 0, .d (eP ts)] ∧ WOk ts ∧ ∀ p, PartOk ts p → R (eP p)
def sc_law_along : Sc := fun a R => a = [.c 0] ∧ ∀ ts b r, ScnOk ts b r → R (.tuple [eP ts, eB b, eI r])
def sc_law_scene : Sc := fun a R => a = [.c 0] ∧ ∀ ts b r, ScnOk ts b r → R (.tuple [eP ts, eB b, eI r])
def sc_law_inner : Sc := fun a R => ∃ ts m, a = [.c 0, .d (eP m)] ∧ WOk ts ∧ PartOk ts m ∧ ∀ p, PartOk ts p → PSub p m → R (eP p)
def sc_law_more : Sc := fun a R => ∃ ts b M tw, a = [.c 0, .d (eB b), .d (eM M), .d (.bool tw)] ∧ WOk ts ∧ BkOk ts b ∧ 2 ≤ b.length ∧ b.length ≤ 12 ∧ QFew (nmB b) ∧ M ≠ [] ∧ M.length ≤ 100 ∧ AllOk ts M ∧ ∀ b' fr, MoreOk ts b M tw b' fr → R (.tuple [eB b', .list (fr.map eFr)])
def sc_law_spare : Sc := fun a R => ∃ ts b os v m p r, a = [.c 0, wld ts, .d (eB b), .d (eS os), .d (.tuple [.str v, .str m]), .d (eI r)] ∧ WOk ts ∧ BkOk ts b ∧ os ≠ [] ∧ os.length ≤ 100 ∧ (∀ x ∈ os, x ∈ nmB b ∧ x ≠ v ∧ x ≠ m) ∧ v ≠ m ∧ (v, p) ∈ b ∧ (m, p) ∈ b ∧ r ≤ 48 ∧ R (.bool true)
def sc_law_twins_right : Sc := fun a R => ∃ ts b b' fr M r, a = [.c 0, wld ts, .d (eB b), .d (eB b'), .d (.list (fr.map eFr)), .d (eI r)] ∧ WOk ts ∧ BkOk ts b ∧ 2 ≤ b.length ∧ r ≤ 48 ∧ MoreOk ts b M true b' fr ∧ R (.bool true)
def sc_law_right : Sc := fun a R => a = [.c 0] ∧ R (.bool true)
def sc_law : Sc := fun a R => ∃ s : List Int, a = [.d (.list (s.map .int))] ∧ R (.bool true)
end JR
set_option maxHeartbeats 1000000
/-! JP1: plain data: when == is sameness; sorted rows are one. -/
namespace JR
open PySem PySem.Spec PyProof.Rows L2 JM PySem.W

mutual
/-- none, whole numbers, texts, rows of these -/
def pl : PyData → Bool
  | .none => true
  | .bool _ => false
  | .int _ => true
  | .str s => PyData.strOk s
  | .list xs => plA xs
  | .tuple xs => plA xs
  | .dict _ => false
def plA : List PyData → Bool
  | [] => true
  | x :: xs => pl x && plA xs
end
theorem plA_iff : ∀ {xs : List PyData}, plA xs = true ↔ ∀ x ∈ xs, pl x = true
  | [] => by simp [plA]
  | x :: xs => by rw [plA, Bool.and_eq_true, plA_iff]; simp
mutual
theorem pl_eqv : ∀ x y : PyData, pl x = true → pl y = true → (PyData.eqv x y = true ↔ x = y)
  | .none, y, _, _ => by cases y <;> simp [PyData.eqv]
  | .int i, y, _, h => by
    cases y with
    | bool b => simp [pl] at h
    | _ => simp [PyData.eqv]
  | .str s, y, _, _ => by cases y <;> simp [PyData.eqv]
  | .list xs, y, h, k => by
    cases y with
    | list ys =>
      simp only [PyData.eqv, PyData.list.injEq]
      exact plA_eqv xs ys (by simpa [pl] using h) (by simpa [pl] using k)
    | _ => simp [PyData.eqv]
  | .tuple xs, y, h, k => by
    cases y with
    | tuple ys =>
      simp only [PyData.eqv, PyData.tuple.injEq]
      exact plA_eqv xs ys (by simpa [pl] using h) (by simpa [pl] using k)
    | _ => simp [PyData.eqv]
  | .bool _, _, h, _ => by simp [pl] at h
  | .dict _, _, h, _ => by simp [pl] at h
theorem plA_eqv : ∀ xs ys : List PyData, plA xs = true → plA ys = true → (PyData.eqvAll xs ys = true ↔ xs = ys)
  | [], [], _, _ => by simp [PyData.eqvAll]
  | [], _ :: _, _, _ => by simp [PyData.eqvAll]
  | _ :: _, [], _, _ => by simp [PyData.eqvAll]
  | x :: xs, y :: ys, h, k => by
    rw [plA, Bool.and_eq_true] at h k
    rw [PyData.eqvAll, Bool.and_eq_true, pl_eqv x y h.1 k.1, plA_eqv xs ys h.2 k.2, List.cons.injEq]
end
theorem eqv_self {x : PyData} (h : pl x = true) : PyData.eqv x x = true := (pl_eqv x x h h).mpr rfl
theorem any_eqv {xs : List PyData} {d : PyData} (h : plA xs = true) (k : pl d = true) : (xs.any fun z => PyData.eqv z d) = true ↔ d ∈ xs := by
  rw [List.any_eq_true]
  constructor
  · rintro ⟨z, hz, e⟩
    rw [← (pl_eqv z d (plA_iff.mp h z hz) k).mp e]
    exact hz
  · intro hd
    exact ⟨d, hd, (pl_eqv d d k k).mpr rfl⟩
mutual
theorem pl_lay : ∀ x : PyData, pl x = true → x.canLay0 = true
  | .none, _ => by simp [PyData.canLay0]
  | .int i, _ => by simp [PyData.canLay0]
  | .str s, h => by simpa [PyData.canLay0, pl] using h
  | .list xs, h => by
    rw [PyData.canLay0]
    exact plA_lay xs (by simpa [pl] using h)
  | .tuple xs, h => by
    rw [PyData.canLay0]
    exact plA_lay xs (by simpa [pl] using h)
  | .bool _, h => by simp [pl] at h
  | .dict _, h => by simp [pl] at h
theorem plA_lay : ∀ xs : List PyData, plA xs = true → PyData.canLayAll0 xs = true
  | [], _ => by simp [PyData.canLayAll0]
  | x :: xs, h => by
    rw [plA, Bool.and_eq_true] at h
    rw [PyData.canLayAll0, pl_lay x h.1, plA_lay xs h.2]; rfl
end
theorem depthAll_le {n : Nat} : ∀ {xs : List PyData}, (∀ x ∈ xs, x.depth ≤ n) → PyData.depthAll xs ≤ n
  | [], _ => by simp [PyData.depthAll]
  | x :: xs, h => by
    rw [PyData.depthAll]
    exact Nat.max_le.mpr ⟨h x (by simp), depthAll_le fun y hy => h y (List.mem_cons_of_mem _ hy)⟩
/-- plain, and not deep -/
def Pd (n : Nat) (x : PyData) : Prop := pl x = true ∧ x.depth ≤ n
theorem pd_int {n : Nat} (i : Int) : Pd n (.int i) := ⟨rfl, by simp [PyData.depth]⟩
theorem pd_str {n : Nat} {i : Str} (h : PyData.strOk i = true) : Pd n (.str i) := ⟨by rw [pl]; exact h, by simp [PyData.depth]⟩
theorem pd_none {n : Nat} : Pd n .none := ⟨rfl, by simp [PyData.depth]⟩
theorem pd_list {n : Nat} {xs : List PyData} (h : ∀ x ∈ xs, Pd n x) : Pd (n + 1) (.list xs) :=
  ⟨by rw [pl]; exact plA_iff.mpr fun x hx => (h x hx).1, by rw [PyData.depth]; exact Nat.succ_le_succ (depthAll_le fun x hx => (h x hx).2)⟩
theorem pd_tuple {n : Nat} {xs : List PyData} (h : ∀ x ∈ xs, Pd n x) : Pd (n + 1) (.tuple xs) :=
  ⟨by rw [pl]; exact plA_iff.mpr fun x hx => (h x hx).1, by rw [PyData.depth]; exact Nat.succ_le_succ (depthAll_le fun x hx => (h x hx).2)⟩
theorem Pd.up {n m : Nat} {x : PyData} (h : Pd n x) (k : n ≤ m) : Pd m x := ⟨h.1, Nat.le_trans h.2 k⟩
theorem pd_shaped {n : Nat} {x : PyData} (h : Pd n x) (hn : n ≤ 64) : SeqAt.shaped x = true := by
  unfold SeqAt.shaped
  rw [pl_lay x h.1, Bool.true_and]
  exact decide_eq_true (Nat.le_trans h.2 hn)
/-! ### sorted -/
theorem lt_irr (x : PyData) : dataLt x x = false := lex_irrefl _
theorem lt_neg {x y z : PyData} (h : dataLt x z = true) : dataLt x y = true ∨ dataLt y z = true := lex_negTrans _ _ _ h
theorem eqv_of_le {x y : PyData} (h : alike x y = true) (a : dataLt x y = false) (b : dataLt y x = false) : PyData.eqv x y = true := by
  cases e : PyData.eqv x y with
  | true => rfl
  | false =>
    have k : keyToks x = keyToks y := lex_total _ _ a b
    have q := (toks_eqv x y h).2 e [] [.inl 0]
    rw [k, lex_pre, lex_irrefl] at q
    exact absurd q (by decide)

theorem le_eq (a b : PyData) : dataLe false id a b = !dataLt b a := rfl
theorem srt_ups (ds : List PyData) : Ups (srt ds) := by
  refine (List.pairwise_mergeSort (le := dataLe false id) (fun a b c h k => ?_) (fun a b => ?_) ds).imp fun {a b} h => by simpa [le_eq] using h
  · rw [le_eq] at h k ⊢
    cases q : dataLt c a with
    | false => rfl
    | true => rcases lt_neg (y := b) q with z | z <;> simp_all
  · rw [le_eq, le_eq]
    cases q : dataLt b a with
    | false => rfl
    | true =>
      cases r : dataLt a b with
      | false => rfl
      | true =>
        have := lex_trans _ _ _ (show lexLt itemOrd (keyToks b) (keyToks a) = true from q) r
        rw [lex_irrefl] at this
        exact absurd this (by decide)
theorem srt_perm (ds : List PyData) : (srt ds).Perm ds := List.mergeSort_perm _ _
theorem ups_uniq : ∀ {as bs : List PyData}, Ups as → Ups bs → as.Perm bs → AllAlike as → (∀ a ∈ as, pl a = true) → as = bs
  | [], bs, _, _, p, _, _ => (List.nil_perm.mp p).symm
  | a :: as, [], _, _, p, _, _ => by have := p.length_eq; simp at this
  | a :: as, b :: bs, ha, hb, p, al, hp => by
    have ha' := List.pairwise_cons.mp ha
    have hb' := List.pairwise_cons.mp hb
    have hba : b ∈ a :: as := p.mem_iff.mpr (by simp)
    have hab : a ∈ b :: bs := p.mem_iff.mp (by simp)
    have e : a = b := by
      rcases List.mem_cons.mp hba with q | q
      · exact q.symm
      · rcases List.mem_cons.mp hab with r | r
        · exact r
        · exact (pl_eqv a b (hp a (by simp)) (hp b hba)).mp (eqv_of_le (al a (by simp) b hba) (hb'.1 a r) (ha'.1 b q))
    subst e
    rw [ups_uniq ha'.2 hb'.2 (List.Perm.cons_inv p) (fun x hx y hy => al x (List.mem_cons_of_mem _ hx) y (List.mem_cons_of_mem _ hy)) fun x hx => hp x (List.mem_cons_of_mem _ hx)]
theorem allAlike_perm {as bs : List PyData} (p : as.Perm bs) (h : AllAlike as) : AllAlike bs := fun x hx y hy => h x (p.mem_iff.mpr hx) y (p.mem_iff.mpr hy)
theorem srt_of {as bs : List PyData} (hb : Ups bs) (p : as.Perm bs) (al : AllAlike as) (hp : ∀ a ∈ as, pl a = true) : srt as = bs :=
  ups_uniq (srt_ups as) hb ((srt_perm as).trans p) (allAlike_perm (srt_perm as).symm al) fun a ha => hp a ((srt_perm as).mem_iff.mp ha)
theorem srt_eq {as bs : List PyData} (p : as.Perm bs) (al : AllAlike as) (hp : ∀ a ∈ as, pl a = true) : srt as = srt bs := srt_of (srt_ups bs) (p.trans (srt_perm bs).symm) al hp
theorem srt_filter {as : List PyData} (q : PyData → Bool) (al : AllAlike as) (hp : ∀ a ∈ as, pl a = true) : srt (as.filter q) = (srt as).filter q :=
  srt_of (List.Pairwise.filter _ (srt_ups as)) ((srt_perm as).symm.filter q) (fun x hx y hy => al x (List.mem_filter.mp hx).1 y (List.mem_filter.mp hy).1) fun a ha => hp a (List.mem_filter.mp ha).1
end JR
set_option maxHeartbeats 1000000
/-! JM3: the way between two from the two ways down; rising rows are one. -/
namespace JM
theorem dn_split {t : List Nat} (x y : Nat) : ∃ A A' B B', dn t x = A ++ mn t x y :: A' ∧ dn t y = B ++ mn t x y :: B' ∧ stp t x y = A ++ mn t x y :: B.reverse ∧ (∀ a ∈ A, a ∉ dn t y) ∧ (∀ b ∈ B, b ∉ dn t x) := by
  refine ind2 t (M := fun x y => ∃ A A' B B', dn t x = A ++ mn t x y :: A' ∧ dn t y = B ++ mn t x y :: B' ∧ stp t x y = A ++ mn t x y :: B.reverse ∧ (∀ a ∈ A, a ∉ dn t y) ∧ (∀ b ∈ B, b ∉ dn t x)) (fun x => ?_) (fun x y h ih => ?_) (fun x y h ih => ?_) x y
  · have q : ∃ A', dn t x = x :: A' := by
      by_cases e : x = 0
      · exact ⟨[], by rw [e, dn0]⟩
      · exact ⟨_, dnS e⟩
    obtain ⟨A', q⟩ := q
    exact ⟨[], A', [], A', by rw [mn_self, q]; rfl, by rw [mn_self, q]; rfl, by rw [mn_self, stp_self]; rfl, by simp, by simp⟩
  · obtain ⟨A, A', B, B', h1, h2, h3, h4, h5⟩ := ih
    refine ⟨A, A', y :: B, B', by rw [mn_lt h, h1], by rw [mn_lt h, dnS (by omega), h2]; rfl, by rw [mn_lt h, stp_lt h, h3]; simp, fun a ha => ?_, fun b hb => ?_⟩
    · rw [dnS (by omega)]
      intro hm
      rcases List.mem_cons.mp hm with e | e
      · have hx : a ∈ dn t x := by rw [h1]; simp [ha]
        have := dn_le hx
        omega
      · exact h4 a ha e
    · rcases List.mem_cons.mp hb with e | e
      · intro hm
        have := dn_le hm
        omega
      · exact h5 b e
  · obtain ⟨A, A', B, B', h1, h2, h3, h4, h5⟩ := ih
    refine ⟨x :: A, A', B, B', by rw [mn_gt h, dnS (by omega), h1]; rfl, by rw [mn_gt h, h2], by rw [mn_gt h, stp_gt h, h3]; rfl, fun a ha => ?_, fun b hb => ?_⟩
    · rcases List.mem_cons.mp ha with e | e
      · intro hm
        have := dn_le hm
        omega
      · exact h4 a e
    · rw [dnS (by omega)]
      intro hm
      rcases List.mem_cons.mp hm with e | e
      · have hx : b ∈ dn t y := by rw [h2]; simp [hb]
        have := dn_le hx
        omega
      · exact h5 b hb e
/-- rising rows with the same items are the same -/
theorem rise_uniq : ∀ {as bs : List Int}, as.Pairwise (· < ·) → bs.Pairwise (· < ·) → (∀ k, k ∈ as ↔ k ∈ bs) → as = bs
  | [], [], _, _, _ => rfl
  | [], b :: bs, _, _, h => by have := (h b).mpr (by simp); simp at this
  | a :: as, [], _, _, h => by have := (h a).mp (by simp); simp at this
  | a :: as, b :: bs, ha, hb, h => by
    have ha' := List.pairwise_cons.mp ha
    have hb' := List.pairwise_cons.mp hb
    have e : a = b := by
      rcases List.mem_cons.mp ((h a).mp (by simp)) with q | q
      · exact q
      · rcases List.mem_cons.mp ((h b).mpr (by simp)) with r | r
        · exact r.symm
        · have := hb'.1 a q
          have := ha'.1 b r
          omega
    subst e
    rw [rise_uniq ha'.2 hb'.2 fun k => ?_]
    constructor
    · intro hk
      rcases List.mem_cons.mp ((h k).mp (List.mem_cons_of_mem _ hk)) with q | q
      · have := ha'.1 k hk
        omega
      · exact q
    · intro hk
      rcases List.mem_cons.mp ((h k).mpr (List.mem_cons_of_mem _ hk)) with q | q
      · have := hb'.1 k hk
        omega
      · exact q
theorem rise_nat {ns : List Int} {b : List Nat} (h : ns.Pairwise (· < ·)) (hb : b.Pairwise (· < ·)) (e : ∀ k : Int, k ∈ ns ↔ ∃ n ∈ b, (n : Int) = k) : ns = b.map fun n : Nat => (n : Int) := by
  refine rise_uniq h (List.pairwise_map.mpr (hb.imp fun {x y} q => by omega)) fun k => ?_
  rw [e k, List.mem_map]
end JM
set_option maxHeartbeats 1000000
/-! printed by gen_defs.py: readings and derivations. -/
namespace JR
open PySem PySem.Spec PyProof.Rows L2
section
variable {P : Program} {w : World} {K : PySem.W.Frag} {mg : Str → Option Value} {base : Heap} {C : Addr} {f : Addr}
abbrev N_is_whole : List Str := ["thing"]
theorem fs_is_whole : FnScope N_is_whole ["thing"] (defScope s_is_whole) := C8.fnScope_by (by decide +kernel)
def td_is_whole : TSd := (tdRet (tdAndV (tdIsi "int" (tdVar 0)) (tdNotV (tdIsi "bool" (tdVar 0)))))
theorem b_is_whole (G : Gb K mg C)  (cdv : Value) (A : Around) (outer : List PySem.Env) (s : Shared) (H : Hp) (E : XK) (hr : Room 0 (A.deeper (envOfC "is_whole" (defScope s_is_whole) s.heap.objs.size f cdv))) :
    PSs (cxOf CX0 P w K mg base N_is_whole "is_whole" (defScope s_is_whole) f cdv A outer s H E).nox (defBody s_is_whole) (uTS ⟨P, w, C⟩ td_is_whole) :=
  have nd := fs_is_whole.nd
  (js_one (js_ret (jd_and (jd_isi rfl G.isinstance (jd_var (pe_var (i := 0) rfl (.inl rfl))) rfl G.int (by decide +kernel)) (jd_one (jd_not (jd_isi rfl G.isinstance (jd_var (pe_var (i := 0) rfl (.inl rfl))) rfl G.bool (by decide +kernel)))))))
abbrev N_is_within : List Str := ["thing", "low", "high"]
theorem fs_is_within : FnScope N_is_within ["thing", "low", "high"] (defScope s_is_within) := C8.fnScope_by (by decide +kernel)
def td_is_within : TSd := (tdRet (tdAndV (tdCall0 sc_is_whole (tdCons (tdVar 0) tdNil)) (tdChain fLe fLe (tdVar 1) (tdVar 0) (tdVar 2))))
theorem b_is_within (G : Gb K mg C) (h_is_whole : Has P w K mg base C "is_whole" ["thing"] 1 0 sc_is_whole) (cdv : Value) (A : Around) (outer : List PySem.Env) (s : Shared) (H : Hp) (E : XK) (hr : Room 1 (A.deeper (envOfC "is_within" (defScope s_is_within) s.heap.objs.size f cdv))) :
    PSs (cxOf CX0 P w K mg base N_is_within "is_within" (defScope s_is_within) f cdv A outer s H E).nox (defBody s_is_within) (uTS ⟨P, w, C⟩ td_is_within) :=
  have nd := fs_is_within.nd
  (js_one (js_ret (jd_and (jd_call0 h_is_whole hr (by decide) rfl (ja_cons (jd_var (pe_var (i := 0) rfl (.inl rfl))) ja_nil)) (jd_one (jd_chain op_le od_le op_le od_le (jd_var (pe_var (i := 1) rfl (.inl rfl))) (jd_var (pe_var (i := 0) rfl (.inl rfl))) (jd_var (pe_var (i := 2) rfl (.inl rfl))))))))
abbrev N_is_tree : List Str := ["thing", "number", "below"]
theorem fs_is_tree : FnScope N_is_tree ["thing"] (defScope s_is_tree) := C8.fnScope_by (by decide +kernel)
def td_is_tree : TSd := (tdSeq (tdIf (tdOr (tdNot (tdB (tdIsi "tuple" (tdVar 0)))) (tdB (tdOp fGe (td1 fLen (tdVar 0)) (tdC (.int 12))))) (tdRet (tdC (.bool false))) tdNext)
  (tdRet (td1 fAll (tdFz (tdLc (wdEnum (tdVar 0)) (.t [1, 2]) tdYes (tdCall0 sc_is_within (tdCons (tdVar 2) (tdCons (tdC (.int 0)) (tdCons (tdVar 1) tdNil)))) [1, 2])))))
theorem b_is_tree (G : Gb K mg C) (h_is_within : Has P w K mg base C "is_within" ["thing", "low", "high"] 2 0 sc_is_within) (cdv : Value) (A : Around) (outer : List PySem.Env) (s : Shared) (H : Hp) (E : XK) (hr : Room 2 (A.deeper (envOfC "is_tree" (defScope s_is_tree) s.heap.objs.size f cdv))) :
    PSs (cxOf CX0 P w K mg base N_is_tree "is_tree" (defScope s_is_tree) f cdv A outer s H E).nox (defBody s_is_tree) (uTS ⟨P, w, C⟩ td_is_tree) :=
  have nd := fs_is_tree.nd
  (js_cons (js_if (PW.pt (jw_or (jt_not (jt_val (jd_isi rfl G.isinstance (jd_var (pe_var (i := 0) rfl (.inl rfl))) rfl G.tuple (by decide +kernel)))) (jw_or1 (jt_cmp op_ge od_ge (jd_len rfl G.len (jd_var (pe_var (i := 0) rfl (.inl rfl)))) (jd_gint G.MOST_PLACES rfl) rfl)))) (js_one (js_ret jd_bl)) js_nil)
  (js_one (js_ret (jd_all rfl rfl G.all (jd_fz (jl_lc (own := [("number", 1), ("below", 2)]) (t := (.t [1, 2])) rfl nd (ji_enum rfl G.enumerate (jd_var (pe_var (i := 0) rfl (.inl rfl)))) (blkOk_by (N := N_is_tree) (sc := (defScope s_is_tree)) (by decide +kernel)) (by decide) (fun _ _ _ _ _ => (pg_tup rfl (pgs_cons (pg_name (i := 1) nd rfl (.inl rfl)) (pgs_cons (pg_name (i := 2) nd rfl (.inl rfl)) pgs_nil)))) (fun _ _ _ _ _ => jts_nil) (fun _ _ _ _ _ => (jd_call0 h_is_within hr (by decide) rfl (ja_cons (jd_var (pe_var (i := 2) rfl (.inl rfl))) (ja_cons jd_int (ja_cons (jd_var (pe_var (i := 1) rfl (.inl rfl))) ja_nil)))))))))))
abbrev N_downward : List Str := ["tree", "place", "found"]
theorem fs_downward : FnScope N_downward ["tree", "place"] (defScope s_downward) := C8.fnScope_by (by decide +kernel)
def td_downward : TSd := (tdSeq (tdSet 2 (tdOwn (tdLst (tdCons (tdVar 1) tdNil))))
  (tdSeq (tdWhile (tdB (tdOp fGt (tdOp fIx (tdVar 2) (tdNeg (tdC (.int 1)))) (tdC (.int 0)))) (tdDrop (tdM fApp (tdVar 2) (tdCons (tdOp fIx (tdVar 0) (tdOp fSub (tdOp fIx (tdVar 2) (tdNeg (tdC (.int 1)))) (tdC (.int 1)))) tdNil))))
  (tdRet (tdThaw (tdVar 2)))))
theorem b_downward (G : Gb K mg C)  (cdv : Value) (A : Around) (outer : List PySem.Env) (s : Shared) (H : Hp) (E : XK) (hr : Room 0 (A.deeper (envOfC "downward" (defScope s_downward) s.heap.objs.size f cdv))) :
    PSs (cxOf CX0 P w K mg base N_downward "downward" (defScope s_downward) f cdv A outer s H E).nox (defBody s_downward) (uTS ⟨P, w, C⟩ td_downward) :=
  have nd := fs_downward.nd
  (js_cons (js_set (i := 2) nd rfl (.inl rfl) (jd_own (jl_lst (ja_cons (jd_var (pe_var (i := 1) rfl (.inl rfl))) ja_nil))))
  (js_cons (js_while PassesOwn.never (jt_cmp op_gt od_gt (jd_ix (jd_var (pe_var (i := 2) rfl (.inl rfl))) (jd_neg jd_int)) jd_int rfl) (js_one (js_expr (jm_append (jd_var (pe_var (i := 2) rfl (.inl rfl))) (jd_ix (jd_var (pe_var (i := 0) rfl (.inl rfl))) (jd_sub (jd_ix (jd_var (pe_var (i := 2) rfl (.inl rfl))) (jd_neg jd_int)) jd_int))))))
  (js_one (js_ret (jd_thaw (jd_var (pe_var (i := 2) rfl (.inl rfl))))))))
end
end JR
set_option maxHeartbeats 1000000
/-! JS1: what the readings give, def by def: trees. -/
namespace JR
open PySem PySem.Spec PyProof.Rows L2 JM PySem.W

/-! ### helps -/
section
variable {R : PyData → Prop} {x : PyData} {μ : Sto} {ρ : Env}
theorem rt0 (h : R x) : (endsOf 0 R).rt (.d x) μ := ⟨⟨x, rfl, h⟩, fun k hk => absurd hk (Nat.not_lt_zero k)⟩
theorem nx0 (h : R .none) : (endsOf 0 R).nx ρ μ := ⟨h, fun k hk => absurd hk (Nat.not_lt_zero k)⟩
theorem rt1 (h : R x) (k : μ[0]? = some Cell.p) : (endsOf 1 R).rt (.d x) μ := ⟨⟨x, rfl, h⟩, fun i hi => by
  have e : i = 0 := by omega
  rw [e]; exact k⟩
end
theorem ifT {c : Bool} {A B : Prop} (h : c = true) (k : A) : if c = true then A else B := by rw [if_pos h]; exact k
theorem ifF {c : Bool} {A B : Prop} (h : c = false) (k : B) : if c = true then A else B := by rw [if_neg (by rw [h]; exact Bool.false_ne_true)]; exact k
theorem get_eT {t : List Nat} {i : Nat} (h : i < t.length) : (t.map eI)[i]? = some (eI (t.getD i 0)) := by
  rw [List.getElem?_map, List.getElem?_eq_getElem h, List.getD_eq_getElem?_getD, List.getElem?_eq_getElem h]; rfl
theorem at_eT {t : List Nat} {i : Nat} (h : i < t.length) : atI (t.map eI) (i : Int) = some (eI (t.getD i 0)) := atI_nat (get_eT h)
theorem enum_map {α : Type} (en : α → PyData) (xs : List α) : enumD (xs.map en) = xs.zipIdx.map fun p => .tuple [.int (p.2 : Nat), en p.1] := by
  unfold enumD
  refine List.ext_getElem? fun i => ?_
  rw [List.getElem?_mapIdx, List.getElem?_map, List.getElem?_map, List.getElem?_zipIdx]
  cases xs[i]? <;> simp
theorem all_true {α : Type} (l : List α) : ((l.map fun _ => true).all id) = true := by simp
theorem lc_all {α : Type} {t : Tg} {te : TD} {ρw : Env} {stay : Sto → Prop} {R : List PyData → Sto → Prop} {μ : Sto} (en : α → PyData) (hst : stay μ) (xs : List α) (hl : xs.length ≤ 100000)
    (hx : ∀ x ∈ xs, ∀ (R1 : DV → Sto → Prop), R1 (.d (.bool true)) μ → tgD t (en x) ρw fun ρ1 => te ρ1 μ R1) (h : R ((xs.map fun _ => true).map .bool) μ) : lcGo t tdYes te ρw stay R (xs.map en) [] μ :=
  lcGo_map en (fun _ => .bool true) hst xs hl hx (by rw [List.map_map] at h; exact h)
theorem h_is_whole : ∀ dvs R, sc_is_whole dvs R → td_is_whole (endsOf 0 R) (startD N_is_whole.length dvs) [] := by
  rintro dvs R ⟨i, rfl, h⟩
  refine ⟨_, rfl, _, _, rfl, rfl, _, rfl, ?_⟩
  refine ⟨_, rfl, _, _, rfl, rfl, _, rfl, ?_⟩
  exact rt0 h
theorem h_is_within : ∀ dvs R, sc_is_within dvs R → td_is_within (endsOf 0 R) (startD N_is_within.length dvs) [] := by
  rintro dvs R ⟨i, lo, hi, rfl, h1, h2, h⟩
  refine ⟨_, rfl, rfl, ⟨i, rfl, _, rfl, ?_⟩⟩
  refine ⟨_, rfl, _, rfl, _, _, rfl, rfl, _, rfl, ?_⟩
  refine ifT (decide_eq_true h1) ?_
  refine ⟨_, rfl, _, _, rfl, rfl, ?_⟩
  refine rt0 ?_
  show R (.bool (decide (i ≤ hi)))
  rw [decide_eq_true h2]; exact h
theorem h_is_tree : ∀ dvs R, sc_is_tree dvs R → td_is_tree (endsOf 0 R) (startD N_is_tree.length dvs) [] := by
  rintro dvs R ⟨t, rfl, ht, h⟩
  refine ⟨_, rfl, _, _, rfl, rfl, _, rfl, ?_⟩
  refine ⟨_, rfl, .inl ⟨_, rfl, _, _, rfl, rfl, _, rfl, ?_⟩⟩
  have hl : decide ((12 : Int) ≤ ((t.map eI).length : Nat)) = false := decide_eq_false (by rw [List.length_map]; have := ht.2; omega)
  refine ifF hl ?_
  refine ⟨_, rfl, _, rfl, ?_⟩
  rw [enum_map]
  refine lc_all _ trivial _ (by rw [List.length_zipIdx]; have := ht.2; omega) (fun p hp R1 h1 => ?_) ?_
  · obtain ⟨hi, e⟩ := List.mem_zipIdx' hp
    refine ⟨_, rfl, rfl, _, rfl, _, rfl, rfl, ?_⟩
    refine ⟨_, _, _, rfl, by omega, ?_, h1⟩
    have q := ht.1 p.2 hi
    rw [List.getD_eq_getElem?_getD, List.getElem?_eq_getElem hi] at q
    have e2 : p.1 = t[p.2] := e
    rw [e2]
    simp at q
    omega
  · refine ⟨_, rfl, rt0 ?_⟩
    rw [all_true]; exact h
theorem h_downward : ∀ dvs R, sc_downward dvs R → td_downward (endsOf 0 R) (startD N_downward.length dvs) [] := by
  rintro dvs R ⟨t, x, rfl, ht, hx, h⟩
  refine ⟨_, rfl, _, rfl, by simp, ?_⟩
  refine ⟨fun m ρ μ => ∃ pre : List Nat, ρ = [some (.d (eT t)), some (.d (eI x)), some (.c 0)] ∧ μ = [.l (pre.map eI ++ [eI m])] ∧ pre ++ dn t m = dn t x ∧ m ≤ t.length ∧ pre.length + m ≤ x, ⟨x, [], rfl, rfl, rfl, hx, by simp⟩, ?_⟩
  rintro m ρ μ ⟨pre, rfl, rfl, e, hm, hp⟩
  refine ⟨_, rfl, _, rfl, _, _, _, rfl, rfl, atI_last _ _, ?_⟩
  refine ⟨_, _, rfl, rfl, _, rfl, ?_⟩
  by_cases h0 : 0 < m
  · refine ifT (decide_eq_true (show (0 : Int) < (m : Nat) by omega)) ?_
    have hlt : m - 1 < t.length := by omega
    refine ⟨_, rfl, ⟨_, rfl⟩, _, rfl, _, rfl, _, rfl, _, _, _, rfl, rfl, atI_last _ _, _, _, rfl, rfl, _, _, eI (t.getD (m - 1) 0), rfl, rfl, ?_, ?_⟩
    · have : ((m : Nat) : Int) - 1 = ((m - 1 : Nat) : Int) := by omega
      show atI (t.map eI) ((m : Nat) - 1 : Int) = _
      rw [this]
      exact at_eT hlt
    · refine ⟨_, _, _, rfl, rfl, rfl, ?_, ?_⟩
      · have := ht.2
        simp; omega
      · have hpr := pr_eq ht.1 h0 hm
        have hlt2 := pr_lt (t := t) h0
        refine ⟨pr t m, hlt2, pre ++ [m], rfl, ?_, ?_, by omega, by simp; omega⟩
        · rw [hpr]; simp
        · rw [← e, dnS (x := m) (by omega)]; simp
  · have e0 : m = 0 := by omega
    subst e0
    refine ifF (by simp) ?_
    refine ⟨_, rfl, _, _, rfl, rfl, rt0 ?_⟩
    rw [dn0] at e
    show R (.list (pre.map eI ++ [eI 0]))
    have : eL (dn t x) = .list (pre.map eI ++ [eI 0]) := by
      unfold eL; rw [← e]; simp
    rw [← this]; exact h
end JR
set_option maxHeartbeats 1000000
/-! printed by gen_defs.py: readings and derivations. -/
namespace JR
open PySem PySem.Spec PyProof.Rows L2
section
variable {P : Program} {w : World} {K : PySem.W.Frag} {mg : Str → Option Value} {base : Heap} {C : Addr} {f : Addr}
abbrev N_steps_between : List Str := ["tree", "one", "other", "ahead", "behind", "meet", "place"]
theorem fs_steps_between : FnScope N_steps_between ["tree", "one", "other"] (defScope s_steps_between) := C8.fnScope_by (by decide +kernel)
def td_steps_between : TSd := (tdSeq (tdUnp [3, 4] (tdCons (tdCall0 sc_downward (tdCons (tdVar 0) (tdCons (tdVar 1) tdNil))) (tdCons (tdCall0 sc_downward (tdCons (tdVar 0) (tdCons (tdVar 2) tdNil))) tdNil)))
  (tdSeq (tdSet 5 (tdOp fIx (tdFz (tdLc (wdList (tdVar 3)) (.n 6) (tdB (tdOp (fIn false) (tdVar 6) (tdVar 4))) (tdVar 6) [6])) (tdC (.int 0))))
  (tdRet (tdFz (tdCat (tdFz (tdCat (tdFz (tdSlL (tdVar 3) tdNoPart (tdPart (tdM fIndex (tdVar 3) (tdCons (tdVar 5) tdNil))))) (tdFz (tdLst (tdCons (tdVar 5) tdNil))))) (tdFz (tdRev (tdFz (tdSlL (tdVar 4) tdNoPart (tdPart (tdM fIndex (tdVar 4) (tdCons (tdVar 5) tdNil))))))))))))
theorem b_steps_between (G : Gb K mg C) (h_downward : Has P w K mg base C "downward" ["tree", "place"] 1 0 sc_downward) (cdv : Value) (A : Around) (outer : List PySem.Env) (s : Shared) (H : Hp) (E : XK) (hr : Room 1 (A.deeper (envOfC "steps_between" (defScope s_steps_between) s.heap.objs.size f cdv))) :
    PSs (cxOf CX0 P w K mg base N_steps_between "steps_between" (defScope s_steps_between) f cdv A outer s H E).nox (defBody s_steps_between) (uTS ⟨P, w, C⟩ td_steps_between) :=
  have nd := fs_steps_between.nd
  (js_cons (js_unp (is := [3, 4]) (ja_cons (jd_call0 h_downward hr (by decide) rfl (ja_cons (jd_var (pe_var (i := 0) rfl (.inl rfl))) (ja_cons (jd_var (pe_var (i := 1) rfl (.inl rfl))) ja_nil))) (ja_cons (jd_call0 h_downward hr (by decide) rfl (ja_cons (jd_var (pe_var (i := 0) rfl (.inl rfl))) (ja_cons (jd_var (pe_var (i := 2) rfl (.inl rfl))) ja_nil))) ja_nil)) (pg_tup rfl (pgs_cons (pg_name (i := 3) nd rfl (.inl rfl)) (pgs_cons (pg_name (i := 4) nd rfl (.inr rfl)) pgs_nil))))
  (js_cons (js_set (i := 5) nd rfl (.inl rfl) (jd_ix (jd_fz (jl_lc (own := [("place", 6)]) (t := (.n 6)) rfl nd (ji_list (jd_var (pe_var (i := 3) rfl (.inl rfl)))) (blkOk_by (N := N_steps_between) (sc := (defScope s_steps_between)) (by decide +kernel)) (by decide) (fun _ _ _ _ _ => (pg_name (i := 6) nd rfl (.inl rfl))) (fun _ _ _ _ _ => (jts_one (jt_cmp (op_inA hr.u65) od_in (jd_var (pe_var (i := 6) rfl (.inl rfl))) (jd_var (pe_var (i := 4) rfl (.inr (.inl rfl)))) rfl))) (fun _ _ _ _ _ => (jd_var (pe_var (i := 6) rfl (.inl rfl)))))) jd_int))
  (js_one (js_ret (jd_fz (jl_cat (jd_fz (jl_cat (jd_fz (jl_sl (jd_var (pe_var (i := 3) rfl (.inl rfl))) jo_none (jo_some (jm_index hr (jd_var (pe_var (i := 3) rfl (.inl rfl))) (jd_var (pe_var (i := 5) rfl (.inl rfl))))))) (jd_fz (jl_lst (ja_cons (jd_var (pe_var (i := 5) rfl (.inl rfl))) ja_nil))))) (jd_fz (jl_rev (jd_fz (jl_sl (jd_var (pe_var (i := 4) rfl (.inr (.inl rfl)))) jo_none (jo_some (jm_index hr (jd_var (pe_var (i := 4) rfl (.inr (.inl rfl)))) (jd_var (pe_var (i := 5) rfl (.inl rfl)))))))))))))))
abbrev N_gaps : List Str := ["tree", "numbers", "one", "other"]
theorem fs_gaps : FnScope N_gaps ["tree"] (defScope s_gaps) := C8.fnScope_by (by decide +kernel)
def td_gaps : TSd := (tdSeq (tdSet 1 (tdFz (tdRgL1 (tdOp fAdd (td1 fLen (tdVar 0)) (tdC (.int 1))))))
  (tdRet (tdFz (tdLc (wdList (tdVar 1)) (.n 2) tdYes (tdFz (tdLc (wdList (tdVar 1)) (.n 3) tdYes (tdOp fSub (td1 fLen (tdCall0 sc_steps_between (tdCons (tdVar 0) (tdCons (tdVar 2) (tdCons (tdVar 3) tdNil))))) (tdC (.int 1))) [3])) [2]))))
theorem b_gaps (G : Gb K mg C) (h_steps_between : Has P w K mg base C "steps_between" ["tree", "one", "other"] 2 0 sc_steps_between) (cdv : Value) (A : Around) (outer : List PySem.Env) (s : Shared) (H : Hp) (E : XK) (hr : Room 2 (A.deeper (envOfC "gaps" (defScope s_gaps) s.heap.objs.size f cdv))) :
    PSs (cxOf CX0 P w K mg base N_gaps "gaps" (defScope s_gaps) f cdv A outer s H E).nox (defBody s_gaps) (uTS ⟨P, w, C⟩ td_gaps) :=
  have nd := fs_gaps.nd
  (js_cons (js_set (i := 1) nd rfl (.inr rfl) (jd_fz (jl_rgL rfl rfl G.list rfl G.range (jd_add (jd_len rfl G.len (jd_var (pe_var (i := 0) rfl (.inr (.inl rfl))))) jd_int))))
  (js_one (js_ret (jd_fz (jl_lc (own := [("one", 2)]) (t := (.n 2)) rfl nd (ji_list (jd_var (pe_var (i := 1) rfl (.inr (.inl rfl))))) (blkOk_by (N := N_gaps) (sc := (defScope s_gaps)) (by decide +kernel)) (by decide) (fun _ _ _ _ _ => (pg_name (i := 2) nd rfl (.inr rfl))) (fun _ _ _ _ _ => jts_nil) (fun _ _ _ _ _ => (jd_fz (jl_lc (own := [("other", 3)]) (t := (.n 3)) rfl nd (ji_list (jd_var (pe_var (i := 1) rfl (.inr (.inl rfl))))) (blkOk_by (N := N_gaps) (sc := (relS _ (defScope s_gaps))) (by decide +kernel)) (by decide) (fun _ _ _ _ _ => (pg_name (i := 3) nd rfl (.inl rfl))) (fun _ _ _ _ _ => jts_nil) (fun _ _ _ _ _ => (jd_sub (jd_len rfl G.len (jd_call0 h_steps_between hr (by decide) rfl (ja_cons (jd_var (pe_var (i := 0) rfl (.inr (.inl rfl)))) (ja_cons (jd_var (pe_var (i := 2) rfl (.inr (.inl rfl)))) (ja_cons (jd_var (pe_var (i := 3) rfl (.inl rfl))) ja_nil))))) jd_int))))))))))
abbrev N_hangs_together : List Str := ["tree", "thing", "first", "others", "place"]
theorem fs_hangs_together : FnScope N_hangs_together ["tree", "thing"] (defScope s_hangs_together) := C8.fnScope_by (by decide +kernel)
def td_hangs_together : TSd := (tdSeq (tdIf (tdOr (tdNot (tdB (tdIsi "tuple" (tdVar 1)))) (tdB (tdOp fEq (tdVar 1) (tdTup tdNil)))) (tdRet (tdC (.bool false))) tdNext)
  (tdSeq (tdIf (tdOr (tdNot (tdB (td1 fAll (tdFz (tdLc (wdTup (tdVar 1)) (.n 4) tdYes (tdCall0 sc_is_within (tdCons (tdVar 4) (tdCons (tdC (.int 0)) (tdCons (td1 fLen (tdVar 0)) tdNil)))) [4]))))) (tdB (tdOp fNe (tdFz (tl1 fListOf (tdVar 1))) (tdFz (tl1 fSortedS (td1 fSetOf (tdVar 1))))))) (tdRet (tdC (.bool false))) tdNext)
  (tdSeq (tdStar 2 3 (tdVar 1))
  (tdRet (td1 fAll (tdFz (tdLc (wdList (tdVar 3)) (.n 4) tdYes (tdOp (fIn false) (tdOp fIx (tdVar 0) (tdOp fSub (tdVar 4) (tdC (.int 1)))) (tdVar 1)) [4])))))))
theorem b_hangs_together (G : Gb K mg C) (h_is_within : Has P w K mg base C "is_within" ["thing", "low", "high"] 2 0 sc_is_within) (cdv : Value) (A : Around) (outer : List PySem.Env) (s : Shared) (H : Hp) (E : XK) (hr : Room 2 (A.deeper (envOfC "hangs_together" (defScope s_hangs_together) s.heap.objs.size f cdv))) :
    PSs (cxOf CX0 P w K mg base N_hangs_together "hangs_together" (defScope s_hangs_together) f cdv A outer s H E).nox (defBody s_hangs_together) (uTS ⟨P, w, C⟩ td_hangs_together) :=
  have nd := fs_hangs_together.nd
  (js_cons (js_if (PW.pt (jw_or (jt_not (jt_val (jd_isi rfl G.isinstance (jd_var (pe_var (i := 1) rfl (.inr (.inl rfl)))) rfl G.tuple (by decide +kernel)))) (jw_or1 (jt_cmp (op_eqD hr.units) od_eq (jd_var (pe_var (i := 1) rfl (.inr (.inl rfl)))) (jd_tup ja_nil) rfl)))) (js_one (js_ret jd_bl)) js_nil)
  (js_cons (js_if (PW.pt (jw_or (jt_not (jt_val (jd_all rfl rfl G.all (jd_fz (jl_lc (own := [("place", 4)]) (t := (.n 4)) rfl nd (ji_tup (jd_var (pe_var (i := 1) rfl (.inr (.inl rfl))))) (blkOk_by (N := N_hangs_together) (sc := (defScope s_hangs_together)) (by decide +kernel)) (by decide) (fun _ _ _ _ _ => (pg_name (i := 4) nd rfl (.inl rfl))) (fun _ _ _ _ _ => jts_nil) (fun _ _ _ _ _ => (jd_call0 h_is_within hr (by decide) rfl (ja_cons (jd_var (pe_var (i := 4) rfl (.inl rfl))) (ja_cons jd_int (ja_cons (jd_len rfl G.len (jd_var (pe_var (i := 0) rfl (.inr (.inl rfl))))) ja_nil)))))))))) (jw_or1 (jt_cmp (op_neD hr.units) od_ne (jd_fz (jl_listOf rfl G.list (jd_var (pe_var (i := 1) rfl (.inr (.inl rfl)))))) (jd_fz (jl_sortedS rfl rfl G.sorted (jd_setOf rfl rfl G.set (jd_var (pe_var (i := 1) rfl (.inr (.inl rfl))))))) rfl)))) (js_one (js_ret jd_bl)) js_nil)
  (js_cons (js_star (jd_var (pe_var (i := 1) rfl (.inr (.inl rfl)))) (JC.pg_star rfl (pg_name (i := 2) nd rfl (.inl rfl)) (pg_name (i := 3) nd rfl (.inl rfl))))
  (js_one (js_ret (jd_all rfl rfl G.all (jd_fz (jl_lc (own := [("place", 4)]) (t := (.n 4)) rfl nd (ji_list (jd_var (pe_var (i := 3) rfl (.inl rfl)))) (blkOk_by (N := N_hangs_together) (sc := (defScope s_hangs_together)) (by decide +kernel)) (by decide) (fun _ _ _ _ _ => (pg_name (i := 4) nd rfl (.inl rfl))) (fun _ _ _ _ _ => jts_nil) (fun _ _ _ _ _ => (jd_cmp (op_inA hr.u65) od_in (jd_ix (jd_var (pe_var (i := 0) rfl (.inr (.inl rfl)))) (jd_sub (jd_var (pe_var (i := 4) rfl (.inl rfl))) jd_int)) (jd_var (pe_var (i := 1) rfl (.inr (.inl rfl)))) rfl))))))))))
abbrev N_branch_around : List Str := ["tree", "some", "first", "others", "place", "step"]
theorem fs_branch_around : FnScope N_branch_around ["tree", "some"] (defScope s_branch_around) := C8.fnScope_by (by decide +kernel)
def td_branch_around : TSd := (tdSeq (tdStar 2 3 (tdVar 1))
  (tdRet (td1 fTupleOf (tdFz (tl1 fSortedS (tdOrS (tdVar 2) (tdSc2 (wdList (tdVar 3)) (.n 4) tdYes (wdList (tdCall0 sc_steps_between (tdCons (tdVar 0) (tdCons (tdVar 2) (tdCons (tdVar 4) tdNil))))) (.n 5) tdYes (tdVar 5) [4, 5] [5])))))))
theorem b_branch_around (G : Gb K mg C) (h_steps_between : Has P w K mg base C "steps_between" ["tree", "one", "other"] 2 0 sc_steps_between) (cdv : Value) (hcd : PySem.W.kdsCode K cdv = true) (A : Around) (outer : List PySem.Env) (s : Shared) (H : Hp) (E : XK) (hr : Room 2 (A.deeper (envOfC "branch_around" (defScope s_branch_around) s.heap.objs.size f cdv))) :
    PSs (cxOf CX0 P w K mg base N_branch_around "branch_around" (defScope s_branch_around) f cdv A outer s H E).nox (defBody s_branch_around) (uTS ⟨P, w, C⟩ td_branch_around) :=
  have nd := fs_branch_around.nd
  (js_cons (js_star (jd_var (pe_var (i := 1) rfl (.inl rfl))) (JC.pg_star rfl (pg_name (i := 2) nd rfl (.inr rfl)) (pg_name (i := 3) nd rfl (.inl rfl))))
  (js_one (js_ret (jd_tupleOf rfl G.tuple (jd_fz (jl_sortedS rfl rfl G.sorted (jd_orS hcd (jd_var (pe_var (i := 2) rfl (.inr (.inl rfl)))) (jd_sc2 (own := [("place", 4), ("step", 5)]) (t := (.n 4)) (t1 := (.n 5)) (vs1 := [5]) rfl nd (ji_list (jd_var (pe_var (i := 3) rfl (.inl rfl)))) (blkOk_by (N := N_branch_around) (sc := (defScope s_branch_around)) (by decide +kernel)) (by decide) (by decide) (by decide) (fun _ _ _ _ _ => (pg_name (i := 4) nd rfl (.inl rfl))) (fun _ _ _ _ _ => jts_nil) (fun _ _ _ _ _ => (ji_list (jd_call0 h_steps_between hr (by decide) rfl (ja_cons (jd_var (pe_var (i := 0) rfl (.inr (.inl rfl)))) (ja_cons (jd_var (pe_var (i := 2) rfl (.inr (.inl rfl)))) (ja_cons (jd_var (pe_var (i := 4) rfl (.inl rfl))) ja_nil)))))) (fun _ _ _ _ _ => (pg_name (i := 5) nd rfl (.inl rfl))) (fun _ _ _ _ _ => jts_nil) (fun _ _ _ _ _ => (jd_var (pe_var (i := 5) rfl (.inl rfl))))))))))))
abbrev N_least_gap : List Str := ["rows", "one", "other", "here", "there"]
theorem fs_least_gap : FnScope N_least_gap ["rows", "one", "other"] (defScope s_least_gap) := C8.fnScope_by (by decide +kernel)
def td_least_gap : TSd := (tdRet (td1 fMin (tdFz (tdLc2 (wdTup (tdVar 1)) (.n 3) tdYes (wdTup (tdVar 2)) (.n 4) tdYes (tdTup (tdCons (tdOp fIx (tdOp fIx (tdVar 0) (tdVar 3)) (tdVar 4)) (tdCons (tdVar 3) (tdCons (tdVar 4) tdNil)))) [3, 4] [4]))))
theorem b_least_gap (G : Gb K mg C)  (cdv : Value) (A : Around) (outer : List PySem.Env) (s : Shared) (H : Hp) (E : XK) (hr : Room 0 (A.deeper (envOfC "least_gap" (defScope s_least_gap) s.heap.objs.size f cdv))) :
    PSs (cxOf CX0 P w K mg base N_least_gap "least_gap" (defScope s_least_gap) f cdv A outer s H E).nox (defBody s_least_gap) (uTS ⟨P, w, C⟩ td_least_gap) :=
  have nd := fs_least_gap.nd
  (js_one (js_ret (jd_min rfl hr rfl G.min (jd_fz (jl_lc2 (own := [("here", 3), ("there", 4)]) (t := (.n 3)) (t1 := (.n 4)) (vs1 := [4]) rfl nd (ji_tup (jd_var (pe_var (i := 1) rfl (.inl rfl)))) (blkOk_by (N := N_least_gap) (sc := (defScope s_least_gap)) (by decide +kernel)) (by decide) (by decide) (by decide) (fun _ _ _ _ _ => (pg_name (i := 3) nd rfl (.inl rfl))) (fun _ _ _ _ _ => jts_nil) (fun _ _ _ _ _ => (ji_tup (jd_var (pe_var (i := 2) rfl (.inr (.inl rfl)))))) (fun _ _ _ _ _ => (pg_name (i := 4) nd rfl (.inl rfl))) (fun _ _ _ _ _ => jts_nil) (fun _ _ _ _ _ => (jd_tup (ja_cons (jd_ix (jd_ix (jd_var (pe_var (i := 0) rfl (.inr (.inl rfl)))) (jd_var (pe_var (i := 3) rfl (.inl rfl)))) (jd_var (pe_var (i := 4) rfl (.inl rfl)))) (ja_cons (jd_var (pe_var (i := 3) rfl (.inl rfl))) (ja_cons (jd_var (pe_var (i := 4) rfl (.inl rfl))) ja_nil))))))))))
abbrev N_World_init : List Str := ["self", "trees", "number", "tree"]
theorem fs_World_init : FnScope N_World_init ["self", "trees"] (defScope s_World_init) := C8.fnScope_by (by decide +kernel)
def td_World_init : TSd := (tdSeq (tdIf (tdOr (tdNot (tdB (tdIsi "tuple" (tdVar 1)))) (tdNot (ttChain fLe fLe (tdC (.int 1)) (td1 fLen (tdVar 1)) (tdC (.int 4))))) tdNever tdNext)
  (tdSeq (tdFor (wdEnum (tdVar 1)) (.t [2, 3]) (tdIf (tdNot (tdB (tdCall0 sc_is_tree (tdCons (tdVar 3) tdNil)))) tdNever tdNext))
  (tdSeq (tdFldSet "trees" (tdVar 1) (tdVar 0))
  (tdFldSet "tables" (tdFz (tdLc (wdTup (tdVar 1)) (.n 3) tdYes (tdCall0 sc_gaps (tdCons (tdVar 3) tdNil)) [3])) (tdVar 0)))))
theorem b_World_init (G : Gb K mg C) (h_is_tree : Has P w K mg base C "is_tree" ["thing"] 3 0 sc_is_tree) (h_gaps : Has P w K mg base C "gaps" ["tree"] 3 0 sc_gaps) (cdv : Value) (A : Around) (outer : List PySem.Env) (s : Shared) (H : Hp) (E : XK) (hr : Room 3 (A.deeper (envOfC "World.__init__" (defScope s_World_init) s.heap.objs.size f cdv))) :
    PSs (cxOf CX0 P w K mg base N_World_init "World.__init__" (defScope s_World_init) f cdv A outer s H E).nox (defBody s_World_init) (uTS ⟨P, w, C⟩ td_World_init) :=
  have nd := fs_World_init.nd
  (js_cons (js_if (PW.pt (jw_or (jt_not (jt_val (jd_isi rfl G.isinstance (jd_var (pe_var (i := 1) rfl (.inl rfl))) rfl G.tuple (by decide +kernel)))) (jw_or1 (jt_not (jt_chain op_le od_le op_le od_le jd_int (jd_len rfl G.len (jd_var (pe_var (i := 1) rfl (.inl rfl)))) (jd_gint G.MOST_TREES rfl)))))) (js_one js_never) js_nil)
  (js_cons (js_for (t := (.t [2, 3])) PassesOwn.never rfl (ji_enum rfl G.enumerate (jd_var (pe_var (i := 1) rfl (.inl rfl)))) (pg_tup rfl (pgs_cons (pg_name (i := 2) nd rfl (.inl rfl)) (pgs_cons (pg_name (i := 3) nd rfl (.inl rfl)) pgs_nil))) (js_one (js_if (jt_not (jt_val (jd_call0 h_is_tree hr (by decide) rfl (ja_cons (jd_var (pe_var (i := 3) rfl (.inl rfl))) ja_nil)))) (js_one js_never) js_nil)))
  (js_cons (js_fldSet G.cls G.noT (jd_var (pe_var (i := 0) rfl (.inl rfl))) (jd_var (pe_var (i := 1) rfl (.inl rfl))))
  (js_one (js_fldSet G.cls G.noB (jd_var (pe_var (i := 0) rfl (.inl rfl))) (jd_fz (jl_lc (own := [("tree", 3)]) (t := (.n 3)) rfl nd (ji_tup (jd_var (pe_var (i := 1) rfl (.inl rfl)))) (blkOk_by (N := N_World_init) (sc := (defScope s_World_init)) (by decide +kernel)) (by decide) (fun _ _ _ _ _ => (pg_name (i := 3) nd rfl (.inl rfl))) (fun _ _ _ _ _ => jts_nil) (fun _ _ _ _ _ => (jd_call0 h_gaps hr (by decide) rfl (ja_cons (jd_var (pe_var (i := 3) rfl (.inl rfl))) ja_nil))))))))))
abbrev N_check_world : List Str := ["thing"]
theorem fs_check_world : FnScope N_check_world ["thing"] (defScope s_check_world) := C8.fnScope_by (by decide +kernel)
def td_check_world : TSd := (tdIf (tdNot (tdB (tdIsW (tdVar 0)))) tdNever tdNext)
theorem b_check_world (G : Gb K mg C)  (cdv : Value) (A : Around) (outer : List PySem.Env) (s : Shared) (H : Hp) (E : XK) (hr : Room 0 (A.deeper (envOfC "check_world" (defScope s_check_world) s.heap.objs.size f cdv))) :
    PSs (cxOf CX0 P w K mg base N_check_world "check_world" (defScope s_check_world) f cdv A outer s H E).nox (defBody s_check_world) (uTS ⟨P, w, C⟩ td_check_world) :=
  have nd := fs_check_world.nd
  (js_one (js_if (jt_not (jt_val (jd_isW G.ic rfl G.isinstance (jd_var (pe_var (i := 0) rfl (.inl rfl))) rfl G.World))) (js_one js_never) js_nil))
abbrev N_makes_part : List Str := ["world", "thing", "tree", "branch"]
theorem fs_makes_part : FnScope N_makes_part ["world", "thing"] (defScope s_makes_part) := C8.fnScope_by (by decide +kernel)
def td_makes_part : TSd := (tdSeq (tdIf (tdOr (tdNot (tdB (tdIsi "tuple" (tdVar 1)))) (tdB (tdOp fNe (td1 fLen (tdVar 1)) (td1 fLen (tdFldT (tdVar 0)))))) (tdRet (tdC (.bool false))) tdNext)
  (tdRet (td1 fAll (tdFz (tdLc (wdZipT (tdCons (tdFldT (tdVar 0)) (tdCons (tdVar 1) tdNil))) (.t [2, 3]) tdYes (tdCall0 sc_hangs_together (tdCons (tdVar 2) (tdCons (tdVar 3) tdNil))) [2, 3])))))
theorem b_makes_part (G : Gb K mg C) (h_hangs_together : Has P w K mg base C "hangs_together" ["tree", "thing"] 3 0 sc_hangs_together) (cdv : Value) (A : Around) (outer : List PySem.Env) (s : Shared) (H : Hp) (E : XK) (hr : Room 3 (A.deeper (envOfC "makes_part" (defScope s_makes_part) s.heap.objs.size f cdv))) :
    PSs (cxOf CX0 P w K mg base N_makes_part "makes_part" (defScope s_makes_part) f cdv A outer s H E).nox (defBody s_makes_part) (uTS ⟨P, w, C⟩ td_makes_part) :=
  have nd := fs_makes_part.nd
  (js_cons (js_if (PW.pt (jw_or (jt_not (jt_val (jd_isi rfl G.isinstance (jd_var (pe_var (i := 1) rfl (.inl rfl))) rfl G.tuple (by decide +kernel)))) (jw_or1 (jt_cmp (op_neD hr.units) od_ne (jd_len rfl G.len (jd_var (pe_var (i := 1) rfl (.inl rfl)))) (jd_len rfl G.len (jd_fldT G.cls G.noT (jd_var (pe_var (i := 0) rfl (.inl rfl))))) rfl)))) (js_one (js_ret jd_bl)) js_nil)
  (js_one (js_ret (jd_all rfl rfl G.all (jd_fz (jl_lc (own := [("tree", 2), ("branch", 3)]) (t := (.t [2, 3])) rfl nd (ji_zipT rfl G.zip (ja_cons (jd_fldT G.cls G.noT (jd_var (pe_var (i := 0) rfl (.inl rfl)))) (ja_cons (jd_var (pe_var (i := 1) rfl (.inl rfl))) ja_nil))) (blkOk_by (N := N_makes_part) (sc := (defScope s_makes_part)) (by decide +kernel)) (by decide) (fun _ _ _ _ _ => (pg_tup rfl (pgs_cons (pg_name (i := 2) nd rfl (.inl rfl)) (pgs_cons (pg_name (i := 3) nd rfl (.inl rfl)) pgs_nil)))) (fun _ _ _ _ _ => jts_nil) (fun _ _ _ _ _ => (jd_call0 h_hangs_together hr (by decide) rfl (ja_cons (jd_var (pe_var (i := 2) rfl (.inl rfl))) (ja_cons (jd_var (pe_var (i := 3) rfl (.inl rfl))) ja_nil))))))))))
abbrev N_is_part : List Str := ["world", "thing"]
theorem fs_is_part : FnScope N_is_part ["world", "thing"] (defScope s_is_part) := C8.fnScope_by (by decide +kernel)
def td_is_part : TSd := (tdSeq (tdDrop (tdCall0 sc_check_world (tdCons (tdVar 0) tdNil)))
  (tdRet (tdCall0 sc_makes_part (tdCons (tdVar 0) (tdCons (tdVar 1) tdNil)))))
theorem b_is_part (G : Gb K mg C) (h_check_world : Has P w K mg base C "check_world" ["thing"] 1 0 sc_check_world) (h_makes_part : Has P w K mg base C "makes_part" ["world", "thing"] 4 0 sc_makes_part) (cdv : Value) (A : Around) (outer : List PySem.Env) (s : Shared) (H : Hp) (E : XK) (hr : Room 4 (A.deeper (envOfC "is_part" (defScope s_is_part) s.heap.objs.size f cdv))) :
    PSs (cxOf CX0 P w K mg base N_is_part "is_part" (defScope s_is_part) f cdv A outer s H E).nox (defBody s_is_part) (uTS ⟨P, w, C⟩ td_is_part) :=
  have nd := fs_is_part.nd
  (js_cons (js_expr (jd_call0 h_check_world hr (by decide) rfl (ja_cons (jd_var (pe_var (i := 0) rfl (.inl rfl))) ja_nil)))
  (js_one (js_ret (jd_call0 h_makes_part hr (by decide) rfl (ja_cons (jd_var (pe_var (i := 0) rfl (.inl rfl))) (ja_cons (jd_var (pe_var (i := 1) rfl (.inl rfl))) ja_nil))))))
abbrev N_part_in : List Str := ["one", "other", "here", "there", "place"]
theorem fs_part_in : FnScope N_part_in ["one", "other"] (defScope s_part_in) := C8.fnScope_by (by decide +kernel)
def td_part_in : TSd := (tdRet (td1 fAll (tdFz (tdLc2 (wdZipT (tdCons (tdVar 0) (tdCons (tdVar 1) tdNil))) (.t [2, 3]) tdYes (wdTup (tdVar 2)) (.n 4) tdYes (tdOp (fIn false) (tdVar 4) (tdVar 3)) [2, 3, 4] [4]))))
theorem b_part_in (G : Gb K mg C)  (cdv : Value) (A : Around) (outer : List PySem.Env) (s : Shared) (H : Hp) (E : XK) (hr : Room 0 (A.deeper (envOfC "part_in" (defScope s_part_in) s.heap.objs.size f cdv))) :
    PSs (cxOf CX0 P w K mg base N_part_in "part_in" (defScope s_part_in) f cdv A outer s H E).nox (defBody s_part_in) (uTS ⟨P, w, C⟩ td_part_in) :=
  have nd := fs_part_in.nd
  (js_one (js_ret (jd_all rfl rfl G.all (jd_fz (jl_lc2 (own := [("here", 2), ("there", 3), ("place", 4)]) (t := (.t [2, 3])) (t1 := (.n 4)) (vs1 := [4]) rfl nd (ji_zipT rfl G.zip (ja_cons (jd_var (pe_var (i := 0) rfl (.inl rfl))) (ja_cons (jd_var (pe_var (i := 1) rfl (.inl rfl))) ja_nil))) (blkOk_by (N := N_part_in) (sc := (defScope s_part_in)) (by decide +kernel)) (by decide) (by decide) (by decide) (fun _ _ _ _ _ => (pg_tup rfl (pgs_cons (pg_name (i := 2) nd rfl (.inl rfl)) (pgs_cons (pg_name (i := 3) nd rfl (.inl rfl)) pgs_nil)))) (fun _ _ _ _ _ => jts_nil) (fun _ _ _ _ _ => (ji_tup (jd_var (pe_var (i := 2) rfl (.inl rfl))))) (fun _ _ _ _ _ => (pg_name (i := 4) nd rfl (.inl rfl))) (fun _ _ _ _ _ => jts_nil) (fun _ _ _ _ _ => (jd_cmp (op_inA hr.u65) od_in (jd_var (pe_var (i := 4) rfl (.inl rfl))) (jd_var (pe_var (i := 3) rfl (.inl rfl))) rfl)))))))
abbrev N_part_far : List Str := ["world", "one", "other", "many", "rows", "here", "there"]
theorem fs_part_far : FnScope N_part_far ["world", "one", "other"] (defScope s_part_far) := C8.fnScope_by (by decide +kernel)
def td_part_far : TSd := (tdSeq (tdSet 3 (tdC (.int 0)))
  (tdSeq (tdFor (wdZip3 (tdCons (tdFldB (tdVar 0)) (tdCons (tdVar 1) (tdCons (tdVar 2) tdNil)))) (.t [4, 5, 6]) (fun D ρ μ => (∃ n, ρ[3]? = some (some (.d (.int n)))) ∧ tdAug 3 (fun i j => i + j) (tdOp fIx (tdCall0 sc_least_gap (tdCons (tdVar 4) (tdCons (tdVar 5) (tdCons (tdVar 6) tdNil)))) (tdC (.int 0))) D ρ μ))
  (tdRet (tdVar 3))))
theorem b_part_far (G : Gb K mg C) (h_least_gap : Has P w K mg base C "least_gap" ["rows", "one", "other"] 1 0 sc_least_gap) (cdv : Value) (A : Around) (outer : List PySem.Env) (s : Shared) (H : Hp) (E : XK) (hr : Room 1 (A.deeper (envOfC "part_far" (defScope s_part_far) s.heap.objs.size f cdv))) :
    PSs (cxOf CX0 P w K mg base N_part_far "part_far" (defScope s_part_far) f cdv A outer s H E).nox (defBody s_part_far) (uTS ⟨P, w, C⟩ td_part_far) :=
  have nd := fs_part_far.nd
  (js_cons (js_set (i := 3) nd rfl (.inl rfl) jd_int)
  (js_cons (js_for (t := (.t [4, 5, 6])) PassesOwn.never rfl (ji_zip3 rfl G.zip (ja_cons (jd_fldB G.cls G.noB (jd_var (pe_var (i := 0) rfl (.inl rfl)))) (ja_cons (jd_var (pe_var (i := 1) rfl (.inl rfl))) (ja_cons (jd_var (pe_var (i := 2) rfl (.inl rfl))) ja_nil)))) (pg_tup rfl (pgs_cons (pg_name (i := 4) nd rfl (.inl rfl)) (pgs_cons (pg_name (i := 5) nd rfl (.inl rfl)) (pgs_cons (pg_name (i := 6) nd rfl (.inl rfl)) pgs_nil)))) (js_one (js_aug (i := 3) (f := fun i j => i + j) nd rfl (.inl rfl) (jd_ix (jd_call0 h_least_gap hr (by decide) rfl (ja_cons (jd_var (pe_var (i := 4) rfl (.inl rfl))) (ja_cons (jd_var (pe_var (i := 5) rfl (.inl rfl))) (ja_cons (jd_var (pe_var (i := 6) rfl (.inl rfl))) ja_nil)))) jd_int) ip_add)))
  (js_one (js_ret (jd_var (pe_var (i := 3) rfl (.inl rfl)))))))
abbrev N_part_hull : List Str := ["world", "one", "other", "found", "tree", "here", "there"]
theorem fs_part_hull : FnScope N_part_hull ["world", "one", "other"] (defScope s_part_hull) := C8.fnScope_by (by decide +kernel)
def td_part_hull : TSd := (tdSeq (tdSet 3 (tdOwn (tdLst tdNil)))
  (tdSeq (tdFor (wdZip3T (tdCons (tdFldT (tdVar 0)) (tdCons (tdVar 1) (tdCons (tdVar 2) tdNil)))) (.t [4, 5, 6]) (tdDrop (tdM fApp (tdVar 3) (tdCons (tdCall0 sc_branch_around (tdCons (tdVar 4) (tdCons (tdOp fCatT (tdVar 5) (tdVar 6)) tdNil))) tdNil))))
  (tdRet (td1 fTupleOf (tdVar 3)))))
theorem b_part_hull (G : Gb K mg C) (h_branch_around : Has P w K mg base C "branch_around" ["tree", "some"] 3 0 sc_branch_around) (cdv : Value) (A : Around) (outer : List PySem.Env) (s : Shared) (H : Hp) (E : XK) (hr : Room 3 (A.deeper (envOfC "part_hull" (defScope s_part_hull) s.heap.objs.size f cdv))) :
    PSs (cxOf CX0 P w K mg base N_part_hull "part_hull" (defScope s_part_hull) f cdv A outer s H E).nox (defBody s_part_hull) (uTS ⟨P, w, C⟩ td_part_hull) :=
  have nd := fs_part_hull.nd
  (js_cons (js_set (i := 3) nd rfl (.inl rfl) (jd_own (jl_lst ja_nil)))
  (js_cons (js_for (t := (.t [4, 5, 6])) PassesOwn.never rfl (ji_zip3T rfl G.zip (ja_cons (jd_fldT G.cls G.noT (jd_var (pe_var (i := 0) rfl (.inl rfl)))) (ja_cons (jd_var (pe_var (i := 1) rfl (.inl rfl))) (ja_cons (jd_var (pe_var (i := 2) rfl (.inl rfl))) ja_nil)))) (pg_tup rfl (pgs_cons (pg_name (i := 4) nd rfl (.inl rfl)) (pgs_cons (pg_name (i := 5) nd rfl (.inl rfl)) (pgs_cons (pg_name (i := 6) nd rfl (.inl rfl)) pgs_nil)))) (js_one (js_expr (jm_append (jd_var (pe_var (i := 3) rfl (.inl rfl))) (jd_call0 h_branch_around hr (by decide) rfl (ja_cons (jd_var (pe_var (i := 4) rfl (.inl rfl))) (ja_cons (jd_catT (jd_var (pe_var (i := 5) rfl (.inl rfl))) (jd_var (pe_var (i := 6) rfl (.inl rfl)))) ja_nil)))))))
  (js_one (js_ret (jd_tupleOf rfl G.tuple (jd_var (pe_var (i := 3) rfl (.inl rfl))))))))
end
end JR
set_option maxHeartbeats 1000000
/-! JS2: what the readings give, def by def: ways, branches. -/
namespace JR
open PySem PySem.Spec PyProof.Rows L2 JM PySem.W

theorem dn_len {t : List Nat} (x : Nat) : (dn t x).length ≤ x + 1 := by
  induction x using Nat.strongRecOn with
  | _ x ih =>
    by_cases e : x = 0
    · subst e; rw [dn0]; simp
    · rw [dnS e]
      have h := pr_lt (t := t) (x := x) (by omega)
      have := ih _ h
      simp; omega
theorem stp_len {t : List Nat} (x y : Nat) : (stp t x y).length ≤ x + y + 1 := by
  refine ind2 t (M := fun x y => (stp t x y).length ≤ x + y + 1) (fun x => ?_) (fun x y h ih => ?_) (fun x y h ih => ?_) x y
  · rw [stp_self]; simp
  · rw [stp_lt h]
    have := pr_lt (t := t) (x := y) (by omega)
    simp; omega
  · rw [stp_gt h]
    have := pr_lt (t := t) (x := x) (by omega)
    simp; omega
theorem pd_eI {n : Nat} (i : Nat) : Pd n (eI i) := pd_int _
theorem pd_eIs {n : Nat} (l : List Nat) : ∀ x ∈ l.map eI, Pd n x := fun x hx => by
  obtain ⟨i, _, rfl⟩ := List.mem_map.mp hx
  exact pd_eI i
theorem pd_eT (l : List Nat) : Pd 1 (eT l) := pd_tuple (pd_eIs l)
theorem pd_eL (l : List Nat) : Pd 1 (eL l) := pd_list (pd_eIs l)
theorem eI_inj {i j : Nat} : eI i = eI j ↔ i = j := by unfold eI; rw [PyData.int.injEq]; omega
theorem mem_eI {l : List Nat} {i : Nat} : eI i ∈ l.map eI ↔ i ∈ l := by
  rw [List.mem_map]
  exact ⟨fun ⟨j, hj, e⟩ => by rw [← eI_inj.mp e]; exact hj, fun h => ⟨i, h, rfl⟩⟩
theorem map_eI_inj : ∀ {l m : List Nat}, l.map eI = m.map eI ↔ l = m
  | [], [] => by simp
  | [], _ :: _ => by simp
  | _ :: _, [] => by simp
  | a :: l, b :: m => by rw [List.map_cons, List.map_cons, List.cons.injEq, List.cons.injEq, eI_inj, map_eI_inj]
theorem any_eI (l : List Nat) (i : Nat) : ((l.map eI).any fun z => PyData.eqv z (eI i)) = decide (i ∈ l) := by
  rw [Bool.eq_iff_iff, any_eqv (plA_iff.mpr fun x hx => (pd_eIs (n := 0) l x hx).1) (pd_eI (n := 0) i).1, mem_eI, decide_eq_true_iff]
theorem sh_eI (i : Nat) : SeqAt.shaped (eI i) = true := pd_shaped (pd_eI (n := 0) i) (by decide)
theorem sh_eL (l : List Nat) : SeqAt.shaped (.list (l.map eI)) = true := pd_shaped (pd_eL l) (by decide)
theorem sh_eT (l : List Nat) : SeqAt.shaped (.tuple (l.map eI)) = true := pd_shaped (pd_eT l) (by decide)
theorem eqv_eI (i j : Nat) : PyData.eqv (eI i) (eI j) = decide (i = j) := by
  rw [Bool.eq_iff_iff, pl_eqv _ _ (pd_eI (n := 0) i).1 (pd_eI (n := 0) j).1, eI_inj, decide_eq_true_iff]
theorem cut_take {β : Type} (xs : List β) (j : Nat) (h : j ≤ xs.length) : cutD xs none (some (j : Int)) = xs.take j := by
  unfold cutD
  rw [HT.sIx_none, HT.sIx_nat, List.drop_zero, Nat.min_eq_left h, Nat.sub_zero]
theorem nil_i {ρ : Env} {μ : Sto} {R : List DV → Sto → Prop} (h : R [] μ) : tdNil ρ μ R := h
/-- where m stands first -/
theorem index_eI {A B : List Nat} {m : Nat} {μ : Sto} {R : DV → Sto → Prop} {x : DV} (hx : lOf x μ = some ((A ++ m :: B).map eI)) (hA : m ∉ A) (h : R (.d (.int (A.length : Nat))) μ) : fIndex x [.d (eI m)] μ R := by
  refine ⟨_, _, A.length, eI m, hx, rfl, sh_eL _, sh_eI m, ?_, ?_, fun i z hi hz => ?_, h⟩
  · rw [List.getElem?_map, List.getElem?_append_right (Nat.le_refl _), Nat.sub_self]; rfl
  · rw [eqv_eI]; simp
  · rw [List.getElem?_map, List.getElem?_append_left hi, List.getElem?_eq_getElem hi] at hz
    have e : eI A[i] = z := by simpa using hz
    rw [← e, eqv_eI]
    refine decide_eq_false fun q => hA ?_
    rw [← q]
    exact List.getElem_mem hi
theorem h_steps_between : ∀ dvs R, sc_steps_between dvs R → td_steps_between (endsOf 0 R) (startD N_steps_between.length dvs) [] := by
  rintro dvs R ⟨t, x, y, rfl, ht, hx, hy, h⟩
  obtain ⟨A, A', B, B', e1, e2, e3, hA, hB⟩ := dn_split (t := t) x y
  have hl1 := dn_len (t := t) x
  have hl2 := dn_len (t := t) y
  have ht2 := ht.2
  have hmy : mn t x y ∈ dn t y := by rw [e2]; simp
  have hmx : mn t x y ∈ dn t x := by rw [e1]; simp
  have nA : mn t x y ∉ A := fun q => hA _ q hmy
  have nB : mn t x y ∉ B := fun q => hB _ q hmx
  refine ⟨_, rfl, _, rfl, rfl, t, x, rfl, ht, hx, ?_⟩
  refine ⟨_, rfl, _, rfl, rfl, t, y, rfl, ht, hy, ?_⟩
  refine ⟨rfl, by simp, ?_⟩
  refine ⟨_, rfl, _, rfl, ?_⟩
  refine lcGo_fm eI (fun z => decide (z ∈ dn t y)) eI (by rfl) (dn t x) [] (by simp; omega) (fun z hz R1 R2 q => ?_) ?_
  · refine ⟨_, rfl, _, rfl, _, _, rfl, rfl, sh_eI z, sh_eL _, _, rfl, ?_⟩
    rw [any_eI, Bool.false_xor]
    by_cases hd : z ∈ dn t y
    · rw [if_pos (decide_eq_true hd)] at q
      exact ifT (decide_eq_true hd) ⟨_, rfl, q⟩
    · rw [if_neg (by simpa using hd)] at q
      exact ifF (decide_eq_false hd) q
  · have hf : (dn t x).filter (fun z => decide (z ∈ dn t y)) = mn t x y :: A'.filter (fun z => decide (z ∈ dn t y)) := by
      rw [e1, List.filter_append, List.filter_eq_nil_iff.mpr (fun a ha => by simpa using hA a ha), List.filter_cons, if_pos (decide_eq_true hmy)]; rfl
    rw [hf, List.nil_append]
    refine ⟨_, _, eI (mn t x y), rfl, rfl, atI_nat (j := 0) rfl, ?_⟩
    refine ⟨_, rfl, _, rfl, ⟨_, rfl⟩, _, rfl, ?_⟩
    refine nil_i (index_eI (A := A) (B := A') (m := mn t x y) (by show some ((dn t x).map eI) = _; rw [e1]) nA ?_)
    refine ⟨_, rfl, _, rfl, ?_⟩
    refine ⟨_, rfl, _, rfl, by simp, ?_⟩
    refine ⟨_, _, rfl, rfl, ?_, ?_⟩
    · rw [cut_take _ _ (by rw [e1]; simp)]
      simp; omega
    refine ⟨_, rfl, _, rfl, ⟨_, rfl⟩, _, rfl, ?_⟩
    refine nil_i (index_eI (A := B) (B := B') (m := mn t x y) (by show some ((dn t y).map eI) = _; rw [e2]) nB ?_)
    refine ⟨_, rfl, _, rfl, ?_⟩
    refine ⟨_, rfl, _, _, rfl, rfl, ?_, ?_⟩
    · rw [cut_take _ _ (by rw [e1]; simp), cut_take _ _ (by rw [e2]; simp)]
      simp; omega
    · refine rt0 ?_
      rw [cut_take _ _ (by rw [e1]; simp), cut_take _ _ (by rw [e2]; simp)]
      have q : eL (stp t x y) = .list (((dn t x).map eI).take A.length ++ [eI (mn t x y)] ++ (((dn t y).map eI).take B.length).reverse) := by
        unfold eL
        rw [e3, e1, e2]
        simp
      rw [← q]; exact h
end JR
set_option maxHeartbeats 1000000
/-! JS3: what the readings give: gaps, what hangs together, hulls, the least way. -/
namespace JR
open PySem PySem.Spec PyProof.Rows L2 JM PySem.W

theorem rng_eI (n : Nat) : rngD 0 n = (List.range n).map eI := by
  unfold rngD eI
  refine List.map_congr_left fun i _ => ?_
  rw [Int.zero_add]
theorem rng_eI' {i : Int} {n : Nat} (h : i = (n : Int)) : rngD 0 i.toNat = (List.range n).map eI := by rw [h, Int.toNat_natCast, rng_eI]
theorem h_gaps : ∀ dvs R, sc_gaps dvs R → td_gaps (endsOf 0 R) (startD N_gaps.length dvs) [] := by
  rintro dvs R ⟨t, rfl, ht, h⟩
  have ht2 := ht.2
  refine ⟨_, rfl, .inl ⟨_, rfl, _, _, rfl, rfl, _, rfl, ?_, ?_⟩⟩
  · unfold RgOk
    simp
    omega
  · rw [rng_eI' (n := t.length + 1) (by rw [List.length_map]; simp)]
    refine ⟨_, rfl, _, rfl, ?_⟩
    refine lcGo_map eI (eGr t) (by rfl) (List.range (t.length + 1)) (by simp; omega) (fun x hx R1 h1 => ?_) (rt0 h)
    have hx' : x ≤ t.length := by have := List.mem_range.mp hx; omega
    refine ⟨_, rfl, _, rfl, ?_⟩
    refine lcGo_map eI (fun y => eI (dist t x y)) (by rfl) (List.range (t.length + 1)) (by simp; omega) (fun y hy R2 h2 => ?_) ?_
    · have hy' : y ≤ t.length := by have := List.mem_range.mp hy; omega
      refine ⟨_, rfl, _, rfl, _, rfl, rfl, t, x, y, rfl, ht, hx', hy', .inl ⟨_, rfl, _, _, rfl, rfl, ?_⟩⟩
      have e : ((((stp t x y).map eI).length : Nat) : Int) - 1 = ((dist t x y : Nat) : Int) := by
        rw [List.length_map]
        have := stp_pos (t := t) x y
        unfold dist
        omega
      show R2 (.d (.int ((((stp t x y).map eI).length : Nat) - 1))) []
      rw [e]; exact h2
    · have e : PyData.list ((List.range (t.length + 1)).map fun y => eI (dist t x y)) = eGr t x := by
        unfold eGr eL
        rw [List.map_map]; rfl
      show R1 (.d (.list _)) []
      rw [e]; exact h1
theorem ris_nat {b : List Nat} (hb : b.Pairwise (· < ·)) {xs ns : List Int} (hx : ∀ k : Int, k ∈ xs ↔ ∃ n ∈ b, (n : Int) = k) (h : RisOf xs ns) : ns.map PyData.int = b.map eI := by
  rw [rise_nat h.1 hb fun k => (h.2 k).trans (hx k), List.map_map]; rfl
theorem le12 : ∀ {n : Nat} {b : List Nat}, b.Pairwise (· < ·) → (∀ x ∈ b, x ≤ n) → b.length ≤ n + 1
  | _, [], _, _ => by simp
  | 0, [x], _, _ => by simp
  | 0, x :: y :: r, h, hx => by
    have := (List.pairwise_cons.mp h).1 y (by simp)
    have := hx y (by simp)
    omega
  | n + 1, x :: r, h, hx => by
    have h' := List.pairwise_cons.mp h
    have q := le12 (n := n) (b := r.map (· - 1)) (List.pairwise_map.mpr (h'.2.imp_of_mem fun {a b} ha hb hab => by
      have := h'.1 a ha
      omega)) fun z hz => by
        obtain ⟨w, hw, rfl⟩ := List.mem_map.mp hz
        have := hx w (List.mem_cons_of_mem _ hw)
        omega
    rw [List.length_map] at q
    rw [List.length_cons]; omega
theorem int_eI (b : List Nat) : b.map eI = (b.map fun n : Nat => (n : Int)).map PyData.int := by rw [List.map_map]; rfl
theorem h_hangs_together : ∀ dvs R, sc_hangs_together dvs R → td_hangs_together (endsOf 0 R) (startD N_hangs_together.length dvs) [] := by
  rintro dvs R ⟨t, b, rfl, ht, hb, h⟩
  have ht2 := ht.2
  have hlen := le12 hb.up hb.le
  have hmem : ∀ k : Int, k ∈ (b.map fun n : Nat => (n : Int)) ↔ ∃ n ∈ b, (n : Int) = k := fun k => by rw [List.mem_map]
  refine ⟨_, rfl, _, _, rfl, rfl, _, rfl, ?_⟩
  refine ⟨_, rfl, _, rfl, by simp, _, _, rfl, rfl, sh_eT b, pd_shaped (n := 1) (pd_tuple fun x hx => by simp at hx) (by decide), _, rfl, ?_⟩
  refine ifF ?_ ?_
  · rw [Bool.eq_false_iff]
    intro q
    have := (pl_eqv (.tuple (b.map eI)) (.tuple []) (pd_eT b).1 (by rfl)).mp q
    have e : b.map eI = [] := by simpa using this
    exact hb.ne (List.map_eq_nil_iff.mp e)
  refine ⟨_, rfl, _, rfl, ?_⟩
  refine lc_all eI trivial b (by omega) (fun x hx R1 h1 => ?_) ?_
  · refine ⟨_, rfl, _, rfl, .inl ⟨_, rfl, rfl, ?_⟩⟩
    exact ⟨x, 0, (t.map eI).length, rfl, by omega, by rw [List.length_map]; have := hb.le x hx; omega, h1⟩
  refine ⟨_, rfl, _, rfl, ?_⟩
  refine ifF (by rw [all_true]; rfl) ?_
  refine ⟨_, rfl, _, rfl, ?_⟩
  refine ⟨_, rfl, b.map fun n : Nat => (n : Int), by show some (b.map eI) = _; rw [int_eI], by simp; omega, ?_⟩
  refine ⟨_, b.map fun n : Nat => (n : Int), rfl, by simp; omega, fun k hk => hk, fun ns hns => ?_⟩
  rw [ris_nat hb.up hmem hns]
  refine ⟨_, _, rfl, rfl, sh_eL b, sh_eL b, _, rfl, ?_⟩
  refine ifF (by show (!PyData.eqv (eL b) (eL b)) = false; rw [(pl_eqv _ _ (pd_eL b).1 (pd_eL b).1).mpr rfl]; rfl) ?_
  obtain ⟨f, o, rfl⟩ := List.exists_cons_of_ne_nil hb.ne
  refine ⟨_, rfl, eI f, o.map eI, rfl, by simp at hlen ⊢; omega, ?_⟩
  refine ⟨_, rfl, _, rfl, ?_⟩
  refine lc_all eI (by rfl) o (by simp at hlen; omega) (fun x hx R1 h1 => ?_) ?_
  · have hfx : f < x := (List.pairwise_cons.mp hb.up).1 x hx
    have hxl := hb.le x (List.mem_cons_of_mem _ hx)
    have hpc := hb.pc x (List.mem_cons_of_mem _ hx) ⟨f, by simp, hfx⟩
    rw [pr_eq ht.1 (by omega) hxl] at hpc
    refine ⟨_, rfl, _, rfl, _, _, rfl, rfl, _, _, eI (t.getD (x - 1) 0), rfl, rfl, ?_, ?_⟩
    · have e : ((x : Nat) : Int) - 1 = ((x - 1 : Nat) : Int) := by omega
      show atI (t.map eI) ((x : Nat) - 1 : Int) = _
      rw [e]
      exact at_eT (by omega)
    · refine ⟨_, rfl, _, _, rfl, rfl, sh_eI _, sh_eL (f :: o), ?_⟩
      have e : (false ^^ ((f :: o).map eI).any fun z => PyData.eqv z (eI (t.getD (x - 1) 0))) = true := by
        rw [any_eI, decide_eq_true hpc]; rfl
      show R1 (.d (.bool (false ^^ ((f :: o).map eI).any fun z => PyData.eqv z (eI (t.getD (x - 1) 0))))) []
      rw [e]; exact h1
  · refine ⟨_, rfl, rt0 ?_⟩
    rw [all_true]; exact h
end JR
set_option maxHeartbeats 1000000
/-! JS4: what the readings give: hulls, the least way. -/
namespace JR
open PySem PySem.Spec PyProof.Rows L2 JM PySem.W

theorem lcGo_mapA {α : Type} {t : Tg} {te : TD} {ρw : Env} {stay : Sto → Prop} {R : List PyData → Sto → Prop} {μ : Sto} (en : α → PyData) (f : α → PyData) (hst : stay μ) (xs : List α) (acc : List PyData) (hl : acc.length + xs.length ≤ 100000)
    (hx : ∀ x ∈ xs, ∀ (R1 : DV → Sto → Prop), R1 (.d (f x)) μ → tgD t (en x) ρw fun ρ1 => te ρ1 μ R1) (h : R (acc ++ xs.map f) μ) : lcGo t tdYes te ρw stay R (xs.map en) acc μ := by
  refine lcGo_fm en (fun _ => true) f hst xs acc hl (fun x hm R1 R2 q => ?_) (by rw [List.filter_eq_self.mpr (fun _ _ => rfl)]; exact h)
  rw [if_pos rfl] at q
  refine tgD_mono (fun ρ1 z => ?_) (hx x hm R1 q)
  show if true = true then te ρ1 μ R1 else R2 μ
  rw [if_pos rfl]
  exact z
theorem lc2Go_app {α : Type} {t t1 : Tg} {tt1 : TTd} {wd1 : TId} {te : TD} {ρw : Env} {vs1 : List Nat} {stay : Sto → Prop} {R : List PyData → Sto → Prop} {μ : Sto} (en : α → PyData) (F : α → List PyData) (m : Nat) (hst : stay μ) : ∀ (xs : List α) (acc : List PyData), (∀ x ∈ xs, (F x).length ≤ m) → acc.length + m * xs.length ≤ 100000 →
    (∀ x ∈ xs, ∀ (acc : List PyData) (R1 : List PyData → Sto → Prop), acc.length + m ≤ 100000 → R1 (acc ++ F x) μ → tgD t (en x) ρw fun ρ1 => wd1 ρ1 μ fun items1 stay1 μ3 => lcGo t1 tt1 te (wipeD ρ1 vs1) stay1 R1 items1 acc μ3) →
    R (acc ++ xs.flatMap F) μ → lc2Go t tdYes wd1 t1 tt1 te ρw vs1 stay R (xs.map en) acc μ
  | [], acc, _, _, _, h => ⟨hst, by simpa using h⟩
  | x :: xs, acc, hm, hl, hx, h => by
    have hmx := hm x (by simp)
    have hl2 : acc.length + m * (xs.length + 1) ≤ 100000 := by simpa using hl
    rw [Nat.mul_add, Nat.mul_one] at hl2
    refine ⟨hst, tgD_mono (fun ρ1 z => ?_) (hx x (by simp) acc (lc2Go t tdYes wd1 t1 tt1 te ρw vs1 stay R (xs.map en)) (by omega) (lc2Go_app en F m hst xs _ (fun y hy => hm y (List.mem_cons_of_mem _ hy)) (by rw [List.length_append]; omega) (fun y hy => hx y (List.mem_cons_of_mem _ hy)) (by rw [List.append_assoc]; simpa using h)))⟩
    exact iteT (B := lc2Go t tdYes wd1 t1 tt1 te ρw vs1 stay R (xs.map en) acc μ) z
theorem scGo_ints {t : Tg} {te : TD} {ρw : Env} {stay : Sto → Prop} {R : List Int → Sto → Prop} {μ : Sto} (hst : stay μ) : ∀ (xs : List Nat) (acc : List Int), acc.length + xs.length ≤ 4000 →
    (∀ x ∈ xs, ∀ (R1 : DV → Sto → Prop), R1 (.d (eI x)) μ → tgD t (eI x) ρw fun ρ1 => te ρ1 μ R1) → R (acc ++ xs.map fun n : Nat => (n : Int)) μ → scGo t tdYes te ρw stay R (xs.map eI) acc μ
  | [], acc, _, _, h => ⟨hst, by simpa using h⟩
  | x :: xs, acc, hl, hx, h => by
    have hl2 : acc.length + (xs.length + 1) ≤ 4000 := by simpa using hl
    refine ⟨hst, tgD_mono (fun ρ1 z => ?_) (hx x (by simp) (fun dv μ3 => ∃ c : Int, dv = .d (.int c) ∧ acc.length < 4000 ∧ scGo t tdYes te ρw stay R (xs.map eI) (acc ++ [c]) μ3) ⟨_, rfl, by omega, scGo_ints hst xs _ (by rw [List.length_append, List.length_singleton]; omega) (fun y hy => hx y (List.mem_cons_of_mem _ hy)) (by rw [List.append_assoc]; simpa using h)⟩)⟩
    exact iteT (B := scGo t tdYes te ρw stay R (xs.map eI) acc μ) z
theorem sc2Go_app {t t1 : Tg} {tt1 : TTd} {wd1 : TId} {te : TD} {ρw : Env} {vs1 : List Nat} {stay : Sto → Prop} {R : List Int → Sto → Prop} {μ : Sto} (F : Nat → List Int) (m : Nat) (hst : stay μ) : ∀ (xs : List Nat) (acc : List Int), (∀ x ∈ xs, (F x).length ≤ m) → acc.length + m * xs.length ≤ 4000 →
    (∀ x ∈ xs, ∀ (acc : List Int) (R1 : List Int → Sto → Prop), acc.length + (F x).length ≤ 4000 → R1 (acc ++ F x) μ → tgD t (eI x) ρw fun ρ1 => wd1 ρ1 μ fun items1 stay1 μ3 => scGo t1 tt1 te (wipeD ρ1 vs1) stay1 R1 items1 acc μ3) →
    R (acc ++ xs.flatMap F) μ → sc2Go t tdYes wd1 t1 tt1 te ρw vs1 stay R (xs.map eI) acc μ
  | [], acc, _, _, _, h => ⟨hst, by simpa using h⟩
  | x :: xs, acc, hm, hl, hx, h => by
    have hmx := hm x (by simp)
    have hl2 : acc.length + m * (xs.length + 1) ≤ 4000 := by simpa using hl
    rw [Nat.mul_add, Nat.mul_one] at hl2
    refine ⟨hst, tgD_mono (fun ρ1 z => ?_) (hx x (by simp) acc (sc2Go t tdYes wd1 t1 tt1 te ρw vs1 stay R (xs.map eI)) (by omega) (sc2Go_app F m hst xs _ (fun y hy => hm y (List.mem_cons_of_mem _ hy)) (by rw [List.length_append]; omega) (fun y hy => hx y (List.mem_cons_of_mem _ hy)) (by rw [List.append_assoc]; simpa using h)))⟩
    exact iteT (B := sc2Go t tdYes wd1 t1 tt1 te ρw vs1 stay R (xs.map eI) acc μ) z
theorem h_branch_around : ∀ dvs R, sc_branch_around dvs R → td_branch_around (endsOf 0 R) (startD N_branch_around.length dvs) [] := by
  rintro dvs R ⟨t, s, rfl, ht, hs, hsl, hle, h⟩
  have ht2 := ht.2
  obtain ⟨f, o, rfl⟩ := List.exists_cons_of_ne_nil hs
  have hf := hle f (by simp)
  have ho : ∀ x ∈ o, x ≤ t.length := fun x hx => hle x (List.mem_cons_of_mem _ hx)
  have hol : o.length ≤ 99 := by simp at hsl; omega
  have hst : ∀ x ∈ o, (stp t f x).length ≤ 24 := fun x hx => by have := stp_len (t := t) f x; have := ho x hx; omega
  refine ⟨_, rfl, eI f, o.map eI, rfl, by simp; omega, ?_⟩
  refine ⟨_, rfl, (f : Int), rfl, ?_⟩
  refine ⟨_, rfl, _, rfl, ?_⟩
  have hin : ∀ k : Int, k ∈ o.flatMap (fun x => (stp t f x).map fun n : Nat => (n : Int)) → k ∈ (List.range (t.length + 1)).map fun n : Nat => (n : Int) := fun k hk => by
    obtain ⟨x, hx, hk⟩ := List.mem_flatMap.mp hk
    obtain ⟨n, hn, rfl⟩ := List.mem_map.mp hk
    refine List.mem_map.mpr ⟨n, List.mem_range.mpr ?_, rfl⟩
    have := stp_le hn
    have := ho x hx
    omega
  refine sc2Go_app (fun x => (stp t f x).map fun n : Nat => (n : Int)) 24 (by rfl) o [] (fun x hx => by rw [List.length_map]; exact hst x hx) (by simp; omega) (fun x hx acc R1 hacc h1 => ?_) ?_
  · refine ⟨_, rfl, _, rfl, _, rfl, rfl, t, f, x, rfl, ht, hf, ho x hx, _, rfl, ?_⟩
    refine scGo_ints (by rfl) (stp t f x) acc (by rw [List.length_map] at hacc; exact hacc) (fun y hy R2 h2 => ?_) h1
    exact ⟨_, rfl, h2⟩
  · rw [List.nil_append]
    refine ⟨_, (List.range (t.length + 1)).map fun n : Nat => (n : Int), rfl, by simp; omega, hin, ?_⟩
    refine ⟨_, (List.range (t.length + 1)).map fun n : Nat => (n : Int), rfl, by simp; omega, fun k hk => ?_, fun ns hns => ?_⟩
    · rcases List.mem_cons.mp hk with e | hk
      · rw [e]; exact List.mem_map.mpr ⟨f, List.mem_range.mpr (by omega), rfl⟩
      · exact hin k hk
    · refine ⟨_, rfl, rt0 ?_⟩
      rw [ris_nat (hullB_up t (f :: o)) (fun k => ?_) hns]
      · exact h
      · rw [List.mem_cons, List.mem_flatMap]
        constructor
        · rintro (e | ⟨x, hx, hk⟩)
          · exact ⟨f, (hullB_mem hf ho).mpr (.inl rfl), e.symm⟩
          · obtain ⟨n, hn, rfl⟩ := List.mem_map.mp hk
            exact ⟨n, (hullB_mem hf ho).mpr (.inr ⟨x, hx, hn⟩), rfl⟩
        · rintro ⟨n, hn, rfl⟩
          rcases (hullB_mem hf ho).mp hn with e | ⟨l, hl, hz⟩
          · exact .inl (by rw [e])
          · exact .inr ⟨l, hl, List.mem_map.mpr ⟨n, hz, rfl⟩⟩
theorem minD_spec : ∀ (ds : List PyData) (d : PyData), minD d ds ∈ d :: ds ∧ ∀ z ∈ d :: ds, dataLt z (minD d ds) = false
  | [], d => ⟨by simp [minD], fun z hz => by
    have e : z = d := by simpa using hz
    rw [e]; exact lt_irr d⟩
  | y :: ds, d => by
    have q : minD d (y :: ds) = minD (if dataLt y d then y else d) ds := rfl
    obtain ⟨h1, h2⟩ := minD_spec ds (if dataLt y d then y else d)
    rw [q]
    refine ⟨?_, fun z hz => ?_⟩
    · rcases List.mem_cons.mp h1 with e | e
      · rw [e]; split <;> simp
      · exact List.mem_cons_of_mem _ (List.mem_cons_of_mem _ e)
    · have hm := h2 _ (List.mem_cons_self ..)
      have key : ∀ u, dataLt u (if dataLt y d then y else d) = false → dataLt u (minD (if dataLt y d then y else d) ds) = false := fun u hu => by
        cases q2 : dataLt u (minD (if dataLt y d then y else d) ds) with
        | false => rfl
        | true =>
          rcases lt_neg (y := if dataLt y d then y else d) q2 with w | w
          · rw [w] at hu; cases hu
          · rw [w] at hm; cases hm
      rcases List.mem_cons.mp hz with e | hz
      · rw [e]
        refine key d ?_
        split
        · rename_i hy
          cases q3 : dataLt d y with
          | false => rfl
          | true =>
            have w := lex_trans _ _ _ (show lexLt itemOrd (keyToks y) (keyToks d) = true from hy) q3
            rw [lex_irrefl] at w
            exact absurd w (by decide)
        · exact lt_irr d
      · rcases List.mem_cons.mp hz with e | hz
        · rw [e]
          refine key y ?_
          split
          · exact lt_irr y
          · rename_i hy; simpa using hy
        · exact h2 z (List.mem_cons_of_mem _ hz)
theorem lt_first {a b : Int} {xs ys : List PyData} (h : a < b) : dataLt (.tuple (.int a :: xs)) (.tuple (.int b :: ys)) = true := by
  rw [dataLt_tuple, dataLt_cons (by simp [alike]), dataLt_int]
  have e : PyData.eqv (.int a) (.int b) = false := by
    have : a ≠ b := by omega
    simp [PyData.eqv, this]
  rw [e, if_neg Bool.false_ne_true]
  exact decide_eq_true h
theorem h_least_gap : ∀ dvs R, sc_least_gap dvs R → td_least_gap (endsOf 0 R) (startD N_least_gap.length dvs) [] := by
  rintro dvs R ⟨t, b, c, rfl, ht, hb, hc, h⟩
  have ht2 := ht.2
  have hbl := le12 hb.up hb.le
  have hcl := le12 hc.up hc.le
  refine ⟨_, rfl, _, rfl, ?_⟩
  refine lc2Go_app eI (fun x => c.map fun y => .tuple [eI (dist t x y), eI x, eI y]) 12 trivial b [] (fun x hx => by rw [List.length_map]; omega) (by simp; omega) (fun x hx acc R1 hacc h1 => ?_) ?_
  · refine ⟨_, rfl, _, rfl, ?_⟩
    have hxl := hb.le x hx
    refine lcGo_mapA eI (fun y => .tuple [eI (dist t x y), eI x, eI y]) trivial c acc (by omega) (fun y hy R2 h2 => ?_) h1
    have hyl := hc.le y hy
    refine ⟨_, rfl, _, rfl, _, _, eGr t x, rfl, rfl, atI_nat ?_, ?_⟩
    · rw [List.getElem?_map, List.getElem?_range (by omega)]; rfl
    refine ⟨_, rfl, _, _, eI (dist t x y), rfl, rfl, atI_nat ?_, ?_⟩
    · rw [List.getElem?_map, List.getElem?_map, List.getElem?_range (by omega)]; rfl
    exact ⟨_, rfl, _, rfl, _, rfl, by simp, h2⟩
  · rw [List.nil_append]
    generalize hL : (b.flatMap fun x => c.map fun y => PyData.tuple [eI (dist t x y), eI x, eI y]) = L
    have hmem : ∀ z, z ∈ L ↔ ∃ x ∈ b, ∃ y ∈ c, z = .tuple [eI (dist t x y), eI x, eI y] := fun z => by
      rw [← hL, List.mem_flatMap]
      constructor
      · rintro ⟨x, hx, hz⟩
        obtain ⟨y, hy, e⟩ := List.mem_map.mp hz
        exact ⟨x, hx, y, hy, e.symm⟩
      · rintro ⟨x, hx, y, hy, e⟩
        exact ⟨x, hx, List.mem_map.mpr ⟨y, hy, e.symm⟩⟩
    obtain ⟨x1, hx1, y1, hy1, e1⟩ := gap_at (t := t) hb.ne hc.ne
    have hne : L ≠ [] := List.ne_nil_of_mem ((hmem _).mpr ⟨x1, hx1, y1, hy1, rfl⟩)
    obtain ⟨d, ds, rfl⟩ := List.exists_cons_of_ne_nil hne
    obtain ⟨m1, m2⟩ := minD_spec ds d
    refine ⟨d, ds, rfl, ⟨fun u hu v hv => ?_, fun u hu => ?_⟩, ?_, rt0 ?_⟩
    · obtain ⟨x, _, y, _, rfl⟩ := (hmem u).mp hu
      obtain ⟨x', _, y', _, rfl⟩ := (hmem v).mp hv
      simp [alike, alikeAll, eI]
    · obtain ⟨x, _, y, _, rfl⟩ := (hmem u).mp hu
      simp
    · refine depthAll_le fun u hu => ?_
      obtain ⟨x, _, y, _, rfl⟩ := (hmem u).mp hu
      exact (pd_tuple (n := 59) fun v hv => by simp at hv; rcases hv with rfl | rfl | rfl <;> exact pd_eI _).2
    · obtain ⟨x, hx, y, hy, e⟩ := (hmem _).mp m1
      rw [e]
      have e3 : dist t x y = gapB t b c := by
        have g1 := gap_le (t := t) hx hy
        by_cases g2 : gapB t b c < dist t x y
        · have w := m2 (.tuple [eI (dist t x1 y1), eI x1, eI y1]) ((hmem _).mpr ⟨x1, hx1, y1, hy1, rfl⟩)
          rw [e] at w
          have w2 := lt_first (a := (dist t x1 y1 : Nat)) (b := (dist t x y : Nat)) (xs := [eI x1, eI y1]) (ys := [eI x, eI y]) (by omega)
          unfold eI at w w2
          rw [w] at w2
          cases w2
        · omega
      rw [e3]; exact h x y
end JR
set_option maxHeartbeats 1000000
/-! JS5: what the readings give: the world, parts. -/
namespace JR
open PySem PySem.Spec PyProof.Rows L2 JM PySem.W

theorem forGo_inv {α : Type} {t : Tg} {tb : TSd} {stay : Sto → Prop} {D : EndsD} (en : α → PyData) (I : List α → Env → Sto → Prop) (hs : ∀ rem ρ μ, I rem ρ μ → stay μ) (he : ∀ ρ μ, I [] ρ μ → D.nx ρ μ)
    (hx : ∀ x xs ρ μ (K : Env → Sto → Prop), I (x :: xs) ρ μ → (∀ ρ' μ', I xs ρ' μ' → K ρ' μ') → tgD t (en x) ρ fun ρ1 => tb { nx := K, ct := K, bk := D.nx, rt := D.rt } ρ1 μ) : ∀ (xs : List α) (ρ : Env) (μ : Sto), I xs ρ μ → forGo t tb stay D (xs.map en) ρ μ
  | [], ρ, μ, h => ⟨hs _ _ _ h, he _ _ h⟩
  | x :: xs, ρ, μ, h => ⟨hs _ _ _ h, hx x xs ρ μ _ h fun ρ' μ' h' => forGo_inv en I hs he hx xs ρ' μ' h'⟩
theorem zip2_map {α β : Type} (f : α → PyData) (g : β → PyData) (xs : List α) (ys : List β) : zip2D (xs.map f) (ys.map g) = (xs.zip ys).map fun q => .tuple [f q.1, g q.2] := by
  unfold zip2D
  rw [List.zip_map, List.map_map]; rfl
theorem zip3_map {α β γ : Type} (f : α → PyData) (g : β → PyData) (h : γ → PyData) (xs : List α) (ys : List β) (zs : List γ) : zip3D (xs.map f) (ys.map g) (zs.map h) = ((xs.zip ys).zip zs).map fun q => .tuple [f q.1.1, g q.1.2, h q.2] := by
  unfold zip3D
  rw [List.zip_map, List.zip_map, List.map_map]; rfl
theorem part_len : ∀ {ts : List (List Nat)} {p : Part}, PartOk ts p → p.length = ts.length
  | [], [], _ => rfl
  | _ :: ts, _ :: bs, h => by rw [List.length_cons, List.length_cons, part_len h.2]
  | [], _ :: _, h => h.elim
  | _ :: _, [], h => h.elim
theorem part_zip : ∀ {ts : List (List Nat)} {p : Part}, PartOk ts p → ∀ q ∈ ts.zip p, BrOk q.1 q.2
  | [], [], _, q, hq => by simp at hq
  | t :: ts, b :: bs, h, q, hq => by
    rcases List.mem_cons.mp (show q ∈ (t, b) :: ts.zip bs from hq) with e | hq
    · rw [e]; exact h.1
    · exact part_zip h.2 q hq
  | [], _ :: _, h, _, _ => h.elim
  | _ :: _, [], h, _, _ => h.elim
theorem pd_eP (p : List (List Nat)) : Pd 2 (eP p) := pd_tuple fun x hx => by
  obtain ⟨b, _, rfl⟩ := List.mem_map.mp hx
  exact pd_eT b
theorem h_check_world : ∀ dvs R, sc_check_world dvs R → td_check_world (endsOf 0 R) (startD N_check_world.length dvs) [] := by
  rintro dvs R ⟨ts, rfl, h⟩
  exact ⟨_, rfl, ⟨_, _, rfl⟩, _, rfl, ifF rfl (nx0 h)⟩
theorem h_World_init : ∀ t R, sc_World_init t R → td_World_init (endsW t R) (startD N_World_init.length [.c 0, .d t]) [.i []] := by
  rintro t R ⟨ts, rfl, hw, h⟩
  have h1 := hw.ne
  have h4 := hw.le
  refine ⟨_, rfl, _, _, rfl, rfl, _, rfl, ?_⟩
  refine ⟨_, rfl, .inl ⟨_, rfl, _, _, rfl, rfl, _, rfl, ?_⟩⟩
  refine ifT (decide_eq_true (by rw [List.length_map]; omega)) ?_
  refine ⟨_, _, rfl, rfl, _, rfl, ?_⟩
  refine ifF (by rw [decide_eq_true (by rw [List.length_map]; omega)]; rfl) ?_
  refine ⟨_, rfl, _, rfl, ?_⟩
  rw [enum_map]
  refine forGo_inv _ (fun rem ρ μ => (∃ a b, ρ = [some (.c 0), some (.d (eP ts)), a, b]) ∧ μ = [.i []] ∧ ∀ q ∈ rem, q.1 ∈ ts) (fun _ _ _ _ => trivial) ?_ ?_ _ _ _ ⟨⟨_, _, rfl⟩, rfl, fun q hq => ?_⟩
  · rintro ρ μ ⟨⟨a, b, rfl⟩, rfl, -⟩
    refine ⟨_, rfl, _, rfl, _, _, _, rfl, rfl, rfl, by simp, by simp, ?_⟩
    refine ⟨_, rfl, _, rfl, ?_⟩
    refine lcGo_map eT eG trivial ts (by omega) (fun u hu R1 h1 => ?_) ?_
    · exact ⟨_, rfl, rfl, u, rfl, hw.tree u hu, h1⟩
    · refine ⟨_, rfl, _, _, _, rfl, rfl, rfl, by simp; decide, by simp, ?_⟩
      exact ⟨eGs ts, rfl, h⟩
  · rintro ⟨u, i⟩ xs ρ μ K ⟨⟨a, b, rfl⟩, rfl, hr⟩ hK
    refine ⟨_, rfl, rfl, _, rfl, rfl, u, rfl, hw.tree u (hr (u, i) (by simp)), _, rfl, ifF rfl ?_⟩
    exact hK _ _ ⟨⟨_, _, rfl⟩, rfl, fun q hq => hr q (List.mem_cons_of_mem _ hq)⟩
  · obtain ⟨hi, e⟩ := List.mem_zipIdx' hq
    rw [e]; exact List.getElem_mem hi
theorem h_makes_part : ∀ dvs R, sc_makes_part dvs R → td_makes_part (endsOf 0 R) (startD N_makes_part.length dvs) [] := by
  rintro dvs R ⟨ts, p, rfl, hw, hp, h⟩
  have h4 := hw.le
  have hl := part_len hp
  refine ⟨_, rfl, _, _, rfl, rfl, _, rfl, ?_⟩
  refine ⟨_, rfl, .inl ⟨_, rfl, _, rfl, _, _, rfl, .inl ⟨_, rfl, _, _, rfl, rfl, pd_shaped (n := 0) (pd_int _) (by decide), pd_shaped (n := 0) (pd_int _) (by decide), _, rfl, ?_⟩⟩⟩
  refine ifF ?_ ?_
  · show (!PyData.eqv (.int ((p.map eT).length : Nat)) (.int ((ts.map eT).length : Nat))) = false
    rw [List.length_map, List.length_map, hl, (pl_eqv _ _ (by rfl) (by rfl)).mpr rfl]; rfl
  refine ⟨_, rfl, _, _, rfl, _, rfl, _, _, _, _, rfl, rfl, rfl, ?_⟩
  rw [zip2_map]
  refine lc_all _ trivial (ts.zip p) (by rw [List.length_zip]; omega) (fun q hq R1 h1 => ?_) ?_
  · refine ⟨_, rfl, rfl, _, rfl, _, rfl, rfl, q.1, q.2, rfl, hw.tree q.1 (List.of_mem_zip hq).1, part_zip hp q hq, h1⟩
  · refine ⟨_, rfl, rt0 ?_⟩
    rw [all_true]; exact h
theorem h_is_part : ∀ dvs R, sc_is_part dvs R → td_is_part (endsOf 0 R) (startD N_is_part.length dvs) [] := by
  rintro dvs R ⟨ts, p, rfl, hw, hp, h⟩
  exact ⟨_, rfl, rfl, ts, rfl, _, rfl, _, rfl, rfl, ts, p, rfl, hw, hp, rt0 h⟩
theorem psub_all : ∀ {p q : Part}, p.length = q.length → ((p.zip q).flatMap fun z => z.1.map fun x => decide (x ∈ z.2)).all id = psubB p q
  | [], [], _ => rfl
  | b :: bs, c :: cs, h => by
    rw [List.zip_cons_cons, List.flatMap_cons, List.all_append, psub_all (by simpa using h), List.all_map]
    rfl
  | [], _ :: _, h => by simp at h
  | _ :: _, [], h => by simp at h
theorem psubB_iff : ∀ {p q : Part}, psubB p q = true ↔ PSub p q
  | [], [] => by simp [psubB, PSub]
  | b :: bs, c :: cs => by
    rw [psubB, Bool.and_eq_true, psubB_iff, List.all_eq_true]
    simp [PSub]
  | [], _ :: _ => by simp [psubB, PSub]
  | _ :: _, [] => by simp [psubB, PSub]
theorem h_part_in : ∀ dvs R, sc_part_in dvs R → td_part_in (endsOf 0 R) (startD N_part_in.length dvs) [] := by
  rintro dvs R ⟨ts, p, q, rfl, hw, hp, hq, h⟩
  have h4 := hw.le
  have hl := part_len hp
  have hl2 := part_len hq
  have hz : ∀ z ∈ p.zip q, z.1.length ≤ 12 := fun z hz => by
    have hzp := (List.of_mem_zip hz).1
    obtain ⟨i, hi, e⟩ := List.getElem_of_mem hzp
    have hi2 : i < ts.length := by omega
    have hm : (ts[i], p[i]) ∈ ts.zip p := by
      have : (ts.zip p)[i]'(by rw [List.length_zip]; omega) = (ts[i], p[i]) := List.getElem_zip
      rw [← this]; exact List.getElem_mem _
    have hb := part_zip hp _ hm
    have := show (p[i]).length ≤ (ts[i]).length + 1 from le12 hb.up hb.le
    have := (hw.tree _ (List.getElem_mem hi2)).2
    rw [← e]; omega
  refine ⟨_, rfl, _, rfl, _, _, _, _, rfl, rfl, rfl, ?_⟩
  rw [zip2_map]
  refine lc2Go_app _ (fun z => z.1.map fun x => .bool (decide (x ∈ z.2))) 12 trivial (p.zip q) [] (fun z h => by rw [List.length_map]; exact hz z h) (by rw [List.length_zip]; simp; omega) (fun z hz1 acc R1 hacc h1 => ?_) ?_
  · refine ⟨_, rfl, rfl, _, rfl, _, rfl, ?_⟩
    refine lcGo_mapA eI (fun x => .bool (decide (x ∈ z.2))) trivial z.1 acc (by have := hz z hz1; omega) (fun x hx R2 h2 => ?_) h1
    refine ⟨_, rfl, _, rfl, _, _, rfl, rfl, sh_eI x, sh_eL _, ?_⟩
    rw [any_eI, Bool.false_xor]; exact h2
  · rw [List.nil_append]
    refine ⟨(p.zip q).flatMap fun z => z.1.map fun x => decide (x ∈ z.2), ?_, rt0 ?_⟩
    · show some _ = some _
      rw [List.map_flatMap]
      congr 2
      funext z
      rw [List.map_map]; rfl
    · rw [psub_all (by omega)]; exact h
theorem far_sum : ∀ {ts : List (List Nat)} {p q : Part}, PartOk ts p → PartOk ts q → (((ts.zip p).zip q).map fun z => gapB z.1.1 z.1.2 z.2).sum = farP ts p q
  | [], [], [], _, _ => rfl
  | t :: ts, b :: bs, c :: cs, h, k => by
    show (gapB t b c :: ((ts.zip bs).zip cs).map fun z => gapB z.1.1 z.1.2 z.2).sum = gapB t b c + farP ts bs cs
    rw [List.sum_cons, far_sum h.2 k.2]
  | [], _ :: _, _, h, _ => h.elim
  | [], [], _ :: _, _, k => k.elim
  | _ :: _, [], _, h, _ => h.elim
  | _ :: _, _ :: _, [], _, k => k.elim
theorem part_zip3 : ∀ {ts : List (List Nat)} {p q : Part}, PartOk ts p → PartOk ts q → ∀ z ∈ (ts.zip p).zip q, z.1.1 ∈ ts ∧ BrOk z.1.1 z.1.2 ∧ BrOk z.1.1 z.2
  | [], [], [], _, _, z, hz => by simp at hz
  | t :: ts, b :: bs, c :: cs, h, k, z, hz => by
    rcases List.mem_cons.mp (show z ∈ ((t, b), c) :: (ts.zip bs).zip cs from hz) with e | hz
    · rw [e]; exact ⟨by simp, h.1, k.1⟩
    · obtain ⟨a, b, c⟩ := part_zip3 h.2 k.2 z hz
      exact ⟨List.mem_cons_of_mem _ a, b, c⟩
  | [], _ :: _, _, h, _, _, _ => h.elim
  | [], [], _ :: _, _, k, _, _ => k.elim
  | _ :: _, [], _, h, _, _, _ => h.elim
  | _ :: _, _ :: _, [], _, k, _, _ => k.elim
theorem h_part_far : ∀ dvs R, sc_part_far dvs R → td_part_far (endsOf 0 R) (startD N_part_far.length dvs) [] := by
  rintro dvs R ⟨ts, p, q, rfl, hw, hp, hq, h⟩
  refine ⟨_, rfl, _, _, rfl, _, rfl, _, rfl, _, _, _, _, _, _, rfl, rfl, rfl, rfl, ?_⟩
  rw [zip3_map]
  refine forGo_inv _ (fun rem ρ μ => ∃ n a b c, ρ = [some (wld ts), some (.d (eP p)), some (.d (eP q)), some (.d (eI n)), a, b, c] ∧ μ = [] ∧ n + (rem.map fun z => gapB z.1.1 z.1.2 z.2).sum = farP ts p q ∧ ∀ z ∈ rem, z.1.1 ∈ ts ∧ BrOk z.1.1 z.1.2 ∧ BrOk z.1.1 z.2)
    (fun _ _ _ _ => trivial) ?_ ?_ _ _ _ ⟨0, _, _, _, rfl, rfl, by rw [Nat.zero_add]; exact far_sum hp hq, part_zip3 hp hq⟩
  · rintro ρ μ ⟨n, a, b, c, rfl, rfl, e, -⟩
    refine ⟨_, rfl, rt0 ?_⟩
    have e2 : n = farP ts p q := by simpa using e
    rw [e2]; exact h
  · rintro ⟨⟨t, b⟩, c⟩ xs ρ μ K ⟨n, a1, a2, a3, rfl, rfl, e, hr⟩ hK
    obtain ⟨r1, r2, r3⟩ := hr ((t, b), c) (by simp)
    refine ⟨_, rfl, rfl, ⟨_, rfl⟩, _, rfl, _, rfl, _, rfl, rfl, t, b, c, rfl, hw.tree t r1, r2, r3, fun x y => ?_⟩
    refine ⟨_, _, _, rfl, rfl, atI_nat (j := 0) rfl, (n : Int), _, rfl, rfl, ?_⟩
    refine hK _ _ ⟨n + gapB t b c, some (.d (eG t)), some (.d (eT b)), some (.d (eT c)), ?_, rfl, ?_, fun z hz => hr z (List.mem_cons_of_mem _ hz)⟩
    · show [some (wld ts), some (DV.d (eP p)), some (DV.d (eP q)), some (DV.d (.int ((n : Int) + (gapB t b c : Nat)))), some (.d (eG t)), some (.d (eT b)), some (.d (eT c))] = _
      rw [← Int.natCast_add]; rfl
    · rw [List.map_cons, List.sum_cons] at e
      have e' : n + (gapB t b c + (xs.map fun z => gapB z.1.1 z.1.2 z.2).sum) = farP ts p q := e
      omega
theorem hull_map : ∀ {ts : List (List Nat)} {p q : Part}, PartOk ts p → PartOk ts q → (((ts.zip p).zip q).map fun z => hullB z.1.1 (z.1.2 ++ z.2)) = hullP ts p q
  | [], [], [], _, _ => rfl
  | t :: ts, b :: bs, c :: cs, h, k => by
    show (hullB t (b ++ c) :: ((ts.zip bs).zip cs).map fun z => hullB z.1.1 (z.1.2 ++ z.2)) = hullB t (b ++ c) :: hullP ts bs cs
    rw [hull_map h.2 k.2]
  | [], _ :: _, _, h, _ => h.elim
  | [], [], _ :: _, _, k => k.elim
  | _ :: _, [], _, h, _ => h.elim
  | _ :: _, _ :: _, [], _, k => k.elim
theorem h_part_hull : ∀ dvs R, sc_part_hull dvs R → td_part_hull (endsOf 0 R) (startD N_part_hull.length dvs) [] := by
  rintro dvs R ⟨ts, p, q, rfl, hw, hp, hq, h⟩
  have h4 := hw.le
  refine ⟨_, rfl, by simp, _, rfl, _, _, rfl, _, rfl, _, rfl, _, _, _, _, _, _, rfl, rfl, rfl, rfl, ?_⟩
  rw [zip3_map]
  refine forGo_inv _ (fun rem ρ μ => ∃ (ds : Part) (a b c : Option DV), ρ = [some (wld ts), some (.d (eP p)), some (.d (eP q)), some (.c 0), a, b, c] ∧ μ = [.l (ds.map eT)] ∧ ds ++ (rem.map fun z => hullB z.1.1 (z.1.2 ++ z.2)) = hullP ts p q ∧ (∀ z ∈ rem, z.1.1 ∈ ts ∧ BrOk z.1.1 z.1.2 ∧ BrOk z.1.1 z.2) ∧ ds.length + rem.length ≤ 4)
    (fun _ _ _ _ => trivial) ?_ ?_ _ _ _ ⟨[], _, _, _, rfl, rfl, by rw [List.nil_append]; exact hull_map hp hq, part_zip3 hp hq, by rw [List.length_zip, List.length_zip]; simp; omega⟩
  · rintro ρ μ ⟨ds, a, b, c, rfl, rfl, e, -⟩
    refine ⟨_, rfl, _, rfl, rt0 ?_⟩
    have e2 : ds = hullP ts p q := by simpa using e
    rw [e2]; exact h
  · rintro ⟨⟨t, b⟩, c⟩ xs ρ μ K ⟨ds, a1, a2, a3, rfl, rfl, e, hr, hl⟩ hK
    obtain ⟨r1, r2, r3⟩ := hr ((t, b), c) (by simp)
    have ht := hw.tree t r1
    have ht2 := ht.2
    have hb := le12 r2.up r2.le
    have hc := le12 r3.up r3.le
    refine ⟨_, rfl, rfl, _, rfl, ⟨_, rfl⟩, _, rfl, _, rfl, _, rfl, _, _, rfl, rfl, by rw [List.length_map, List.length_map]; simp at hb hc ⊢; omega, rfl, t, b ++ c, ?_, ht, by simp [r2.ne], by simp at hb hc ⊢; omega, fun x hx => (List.mem_append.mp hx).elim (r2.le x) (r3.le x), ?_⟩
    · show [DV.d (eT t), DV.d (.tuple (b.map eI ++ c.map eI))] = _
      unfold eT
      rw [List.map_append]
    · refine ⟨_, _, _, rfl, rfl, rfl, by simp at hl ⊢; omega, ?_⟩
      refine hK _ _ ⟨ds ++ [hullB t (b ++ c)], _, _, _, rfl, ?_, by simpa using e, fun z hz => hr z (List.mem_cons_of_mem _ hz), by simp at hl ⊢; omega⟩
      simp [eT]
end JR
set_option maxHeartbeats 1000000
/-! printed by gen_defs.py: readings and derivations. -/
namespace JR
open PySem PySem.Spec PyProof.Rows L2
section
variable {P : Program} {w : World} {K : PySem.W.Frag} {mg : Str → Option Value} {base : Heap} {C : Addr} {f : Addr}
abbrev N_is_name : List Str := ["thing", "sign"]
theorem fs_is_name : FnScope N_is_name ["thing"] (defScope s_is_name) := C8.fnScope_by (by decide +kernel)
def td_is_name : TSd := (tdRet (tdAndV (tdIsi "str" (tdVar 0)) (tdAndV (tdChain fLt fLe (tdC (.int 0)) (td1 fLen (tdVar 0)) (tdC (.int 8))) (td1 fAll (tdFz (tdLc (wdStr (tdVar 0)) (.n 1) tdYes (tdOp fInSg (tdVar 1) (tdC (.str "abcdefghijklmnopqrstuvwxyz"))) [1]))))))
theorem b_is_name (G : Gb K mg C)  (cdv : Value) (A : Around) (outer : List PySem.Env) (s : Shared) (H : Hp) (E : XK) (hr : Room 0 (A.deeper (envOfC "is_name" (defScope s_is_name) s.heap.objs.size f cdv))) :
    PSs (cxOf CX0 P w K mg base N_is_name "is_name" (defScope s_is_name) f cdv A outer s H E).nox (defBody s_is_name) (uTS ⟨P, w, C⟩ td_is_name) :=
  have nd := fs_is_name.nd
  (js_one (js_ret (jd_and (jd_isi rfl G.isinstance (jd_var (pe_var (i := 0) rfl (.inl rfl))) rfl G.str (by decide +kernel)) (jd_and (jd_chain op_lt od_lt op_le od_le jd_int (jd_len rfl G.len (jd_var (pe_var (i := 0) rfl (.inl rfl)))) (jd_gint G.MOST_SIGNS rfl)) (jd_one (jd_all rfl rfl G.all (jd_fz (jl_lc (own := [("sign", 1)]) (t := (.n 1)) rfl nd (ji_str (jd_var (pe_var (i := 0) rfl (.inl rfl)))) (blkOk_by (N := N_is_name) (sc := (defScope s_is_name)) (by decide +kernel)) (by decide) (fun _ _ _ _ _ => (pg_name (i := 1) nd rfl (.inl rfl))) (fun _ _ _ _ _ => jts_nil) (fun _ _ _ _ _ => (jd_cmp op_in_sign od_inSg (jd_var (pe_var (i := 1) rfl (.inl rfl))) (jd_gstr G.SIGNS rfl) rfl))))))))))
abbrev N_first_wrong : List Str := ["world", "rows", "names", "number", "row", "name", "part"]
theorem fs_first_wrong : FnScope N_first_wrong ["world", "rows"] (defScope s_first_wrong) := C8.fnScope_by (by decide +kernel)
def td_first_wrong : TSd := (tdSeq (tdSet 2 tdSet0)
  (tdSeq (tdFor (wdEnum (tdVar 1)) (.t [3, 4]) (tdSeq (tdIf (tdOr (tdB (tdOp fEq (tdVar 3) (tdC (.int 24)))) (tdOr (tdNot (tdB (tdIsi "tuple" (tdVar 4)))) (tdB (tdOp fNe (td1 fLen (tdVar 4)) (tdC (.int 2)))))) (tdRet (tdVar 3)) tdNext)
  (tdSeq (tdAsg (.t [5, 6]) (tdVar 4))
  (tdSeq (tdIf (tdOr (tdNot (tdB (tdCall0 sc_is_name (tdCons (tdVar 5) tdNil)))) (tdOr (tdB (tdOp fInK (tdVar 5) (tdVar 2))) (tdNot (tdB (tdCall0 sc_is_part (tdCons (tdVar 0) (tdCons (tdVar 6) tdNil))))))) (tdRet (tdVar 3)) tdNext)
  (tdDrop (tdAddK (tdVar 2) (tdVar 5)))))))
  (tdRet (tdC .none))))
theorem b_first_wrong (G : Gb K mg C) (h_is_part : Has P w K mg base C "is_part" ["world", "thing"] 5 0 sc_is_part) (h_is_name : Has P w K mg base C "is_name" ["thing"] 1 0 sc_is_name) (cdv : Value) (A : Around) (outer : List PySem.Env) (s : Shared) (H : Hp) (E : XK) (hr : Room 5 (A.deeper (envOfC "first_wrong" (defScope s_first_wrong) s.heap.objs.size f cdv))) :
    PSs (cxOf CX0 P w K mg base N_first_wrong "first_wrong" (defScope s_first_wrong) f cdv A outer s H E).nox (defBody s_first_wrong) (uTS ⟨P, w, C⟩ td_first_wrong) :=
  have nd := fs_first_wrong.nd
  (js_cons (js_set (i := 2) nd rfl (.inl rfl) (jd_set0 rfl G.set))
  (js_cons (js_for (t := (.t [3, 4])) PassesOwn.never rfl (ji_enum rfl G.enumerate (jd_var (pe_var (i := 1) rfl (.inl rfl)))) (pg_tup rfl (pgs_cons (pg_name (i := 3) nd rfl (.inl rfl)) (pgs_cons (pg_name (i := 4) nd rfl (.inl rfl)) pgs_nil))) (js_cons (js_if (PW.pt (jw_or (jt_cmp (op_eqD hr.units) od_eq (jd_var (pe_var (i := 3) rfl (.inl rfl))) (jd_gint G.MOST_NAMES rfl) rfl) (jw_or (jt_not (jt_val (jd_isi rfl G.isinstance (jd_var (pe_var (i := 4) rfl (.inl rfl))) rfl G.tuple (by decide +kernel)))) (jw_or1 (jt_cmp (op_neD hr.units) od_ne (jd_len rfl G.len (jd_var (pe_var (i := 4) rfl (.inl rfl)))) jd_int rfl))))) (js_one (js_ret (jd_var (pe_var (i := 3) rfl (.inl rfl))))) js_nil)
  (js_cons (js_asg (t := (.t [5, 6])) (jd_var (pe_var (i := 4) rfl (.inl rfl))) (pg_tup rfl (pgs_cons (pg_name (i := 5) nd rfl (.inl rfl)) (pgs_cons (pg_name (i := 6) nd rfl (.inl rfl)) pgs_nil))))
  (js_cons (js_if (PW.pt (jw_or (jt_not (jt_val (jd_call0 h_is_name hr (by decide) rfl (ja_cons (jd_var (pe_var (i := 5) rfl (.inl rfl))) ja_nil)))) (jw_or (jt_cmp or_sinK od_inK (jd_var (pe_var (i := 5) rfl (.inl rfl))) (jd_var (pe_var (i := 2) rfl (.inl rfl))) rfl) (jw_or1 (jt_not (jt_val (jd_call0 h_is_part hr (by decide) rfl (ja_cons (jd_var (pe_var (i := 0) rfl (.inl rfl))) (ja_cons (jd_var (pe_var (i := 6) rfl (.inl rfl))) ja_nil))))))))) (js_one (js_ret (jd_var (pe_var (i := 3) rfl (.inl rfl))))) js_nil)
  (js_one (js_expr (jd_addK (jd_var (pe_var (i := 2) rfl (.inl rfl))) (jd_var (pe_var (i := 5) rfl (.inl rfl))))))))))
  (js_one (js_ret jd_non))))
abbrev N_check_book : List Str := ["world", "thing", "wrong"]
theorem fs_check_book : FnScope N_check_book ["world", "thing"] (defScope s_check_book) := C8.fnScope_by (by decide +kernel)
def td_check_book : TSd := (tdSeq (tdIf (tdOr (tdNot (tdB (tdIsi "tuple" (tdVar 1)))) (tdB (tdOp fGt (td1 fLen (tdVar 1)) (tdC (.int 24))))) tdNever tdNext)
  (tdSeq (tdSet 2 (tdCall0 sc_first_wrong (tdCons (tdVar 0) (tdCons (tdVar 1) tdNil))))
  (tdIf (tdB (tdOp fNotN (tdVar 2) (tdC .none))) tdNever tdNext)))
theorem b_check_book (G : Gb K mg C) (h_first_wrong : Has P w K mg base C "first_wrong" ["world", "rows"] 6 0 sc_first_wrong) (cdv : Value) (A : Around) (outer : List PySem.Env) (s : Shared) (H : Hp) (E : XK) (hr : Room 6 (A.deeper (envOfC "check_book" (defScope s_check_book) s.heap.objs.size f cdv))) :
    PSs (cxOf CX0 P w K mg base N_check_book "check_book" (defScope s_check_book) f cdv A outer s H E).nox (defBody s_check_book) (uTS ⟨P, w, C⟩ td_check_book) :=
  have nd := fs_check_book.nd
  (js_cons (js_if (PW.pt (jw_or (jt_not (jt_val (jd_isi rfl G.isinstance (jd_var (pe_var (i := 1) rfl (.inl rfl))) rfl G.tuple (by decide +kernel)))) (jw_or1 (jt_cmp op_gt od_gt (jd_len rfl G.len (jd_var (pe_var (i := 1) rfl (.inl rfl)))) (jd_gint G.MOST_NAMES rfl) rfl)))) (js_one js_never) js_nil)
  (js_cons (js_set (i := 2) nd rfl (.inl rfl) (jd_call0 h_first_wrong hr (by decide) rfl (ja_cons (jd_var (pe_var (i := 0) rfl (.inl rfl))) (ja_cons (jd_var (pe_var (i := 1) rfl (.inl rfl))) ja_nil))))
  (js_one (js_if (jt_cmp op_notN od_notN (jd_var (pe_var (i := 2) rfl (.inl rfl))) jd_non rfl) (js_one js_never) js_nil))))
abbrev N_part_of : List Str := ["book", "name", "found", "own", "part"]
theorem fs_part_of : FnScope N_part_of ["book", "name"] (defScope s_part_of) := C8.fnScope_by (by decide +kernel)
def td_part_of : TSd := (tdSeq (tdIf (tdNot (tdB (tdCall0 sc_is_name (tdCons (tdVar 1) tdNil)))) tdNever tdNext)
  (tdSeq (tdSet 2 (tdFz (tdLc (wdTup (tdVar 0)) (.t [3, 4]) (tdB (tdOp fEq (tdVar 3) (tdVar 1))) (tdVar 4) [3, 4])))
  (tdSeq (tdIf (tdB (tdOp fEq (tdVar 2) (tdFz (tdLst tdNil)))) tdNever tdNext)
  (tdRet (tdOp fIx (tdVar 2) (tdC (.int 0)))))))
theorem b_part_of (G : Gb K mg C) (h_is_name : Has P w K mg base C "is_name" ["thing"] 1 0 sc_is_name) (cdv : Value) (A : Around) (outer : List PySem.Env) (s : Shared) (H : Hp) (E : XK) (hr : Room 1 (A.deeper (envOfC "part_of" (defScope s_part_of) s.heap.objs.size f cdv))) :
    PSs (cxOf CX0 P w K mg base N_part_of "part_of" (defScope s_part_of) f cdv A outer s H E).nox (defBody s_part_of) (uTS ⟨P, w, C⟩ td_part_of) :=
  have nd := fs_part_of.nd
  (js_cons (js_if (jt_not (jt_val (jd_call0 h_is_name hr (by decide) rfl (ja_cons (jd_var (pe_var (i := 1) rfl (.inr (.inl rfl)))) ja_nil)))) (js_one js_never) js_nil)
  (js_cons (js_setLcF (own := [("own", 3), ("part", 4)]) (i := 2) rfl nd rfl rfl (sw_true rfl rfl rfl (by decide +kernel)) (ji_tup (jd_var (pe_var (i := 0) rfl (.inl rfl)))) (blkOk_by (N := N_part_of) (sc := (defScope s_part_of)) (by decide +kernel)) (by decide) (fun _ _ _ _ _ => (pg_tup rfl (pgs_cons (pg_name (i := 3) nd rfl (.inl rfl)) (pgs_cons (pg_name (i := 4) nd rfl (.inl rfl)) pgs_nil)))) (fun _ _ _ _ _ => (jts_one (jt_cmp (op_eqD hr.units) od_eq (jd_var (pe_var (i := 3) rfl (.inl rfl))) (jd_var (pe_var (i := 1) rfl (.inr (.inl rfl)))) rfl))) (fun _ _ _ _ _ => (jd_var (pe_var (i := 4) rfl (.inl rfl)))))
  (js_cons (js_if (jt_cmp (op_eqD hr.units) od_eq (jd_var (pe_var (i := 2) rfl (.inl rfl))) (jd_fz (jl_lst ja_nil)) rfl) (js_one js_never) js_nil)
  (js_one (js_ret (jd_ix (jd_var (pe_var (i := 2) rfl (.inl rfl))) jd_int))))))
abbrev N_check_reach : List Str := ["thing"]
theorem fs_check_reach : FnScope N_check_reach ["thing"] (defScope s_check_reach) := C8.fnScope_by (by decide +kernel)
def td_check_reach : TSd := (tdIf (tdNot (tdB (tdCall0 sc_is_within (tdCons (tdVar 0) (tdCons (tdC (.int 0)) (tdCons (tdC (.int 48)) tdNil)))))) tdNever tdNext)
theorem b_check_reach (G : Gb K mg C) (h_is_within : Has P w K mg base C "is_within" ["thing", "low", "high"] 2 0 sc_is_within) (cdv : Value) (A : Around) (outer : List PySem.Env) (s : Shared) (H : Hp) (E : XK) (hr : Room 2 (A.deeper (envOfC "check_reach" (defScope s_check_reach) s.heap.objs.size f cdv))) :
    PSs (cxOf CX0 P w K mg base N_check_reach "check_reach" (defScope s_check_reach) f cdv A outer s H E).nox (defBody s_check_reach) (uTS ⟨P, w, C⟩ td_check_reach) :=
  have nd := fs_check_reach.nd
  (js_one (js_if (jt_not (jt_val (jd_call0 h_is_within hr (by decide) rfl (ja_cons (jd_var (pe_var (i := 0) rfl (.inl rfl))) (ja_cons jd_int (ja_cons (jd_gint G.MOST_REACH rfl) ja_nil)))))) (js_one js_never) js_nil))
abbrev N_closed : List Str := ["world", "parts", "reach", "waiting", "found", "part", "near", "other"]
theorem fs_closed : FnScope N_closed ["world", "parts", "reach"] (defScope s_closed) := C8.fnScope_by (by decide +kernel)
def td_closed : TSd := (tdSeq (tdPar 3 4 (tdOwn (tl1 fListOf (tdVar 1))) (tdOwn (tdLst tdNil)))
  (tdSeq (tdWhile (tdTru (tdVar 3)) (tdSeq (tdSet 5 (tdM0 fPop (tdVar 3)))
  (tdSeq (tdSet 6 (tdFz (tdLc (wdList (tdVar 4)) (.n 7) (tdB (tdOp fLe (tdCall0 sc_part_far (tdCons (tdVar 0) (tdCons (tdVar 5) (tdCons (tdVar 7) tdNil)))) (tdVar 2))) (tdVar 7) [7])))
  (tdSeq (tdIf (tdB (tdOp fEq (tdVar 6) (tdFz (tdLst tdNil)))) (tdSeq (tdDrop (tdM fApp (tdVar 4) (tdCons (tdVar 5) tdNil)))
  tdCont) tdNext)
  (tdSeq (tdSet 4 (tdOwn (tdLc (wdList (tdVar 4)) (.n 7) (tdB (tdOp (fIn true) (tdVar 7) (tdVar 6))) (tdVar 7) [7])))
  (tdSeq (tdFor (wdList (tdVar 6)) (.n 7) (tdSet 5 (tdCall0 sc_part_hull (tdCons (tdVar 0) (tdCons (tdVar 5) (tdCons (tdVar 7) tdNil))))))
  (tdDrop (tdM fApp (tdVar 3) (tdCons (tdVar 5) tdNil)))))))))
  (tdRet (td1 fTupleOf (tdFz (tl1 fSorted (tdVar 4)))))))
theorem b_closed (G : Gb K mg C) (h_part_far : Has P w K mg base C "part_far" ["world", "one", "other"] 2 0 sc_part_far) (h_part_hull : Has P w K mg base C "part_hull" ["world", "one", "other"] 4 0 sc_part_hull) (cdv : Value) (A : Around) (outer : List PySem.Env) (s : Shared) (H : Hp) (E : XK) (hr : Room 4 (A.deeper (envOfC "closed" (defScope s_closed) s.heap.objs.size f cdv))) :
    PSs (cxOf CX0 P w K mg base N_closed "closed" (defScope s_closed) f cdv A outer s H E).nox (defBody s_closed) (uTS ⟨P, w, C⟩ td_closed) :=
  have nd := fs_closed.nd
  (js_cons (js_par (i := 3) (j := 4) rfl nd rfl rfl (by decide) rfl rfl (jd_own (jl_listOf rfl G.list (jd_var (pe_var (i := 1) rfl (.inl rfl))))) (jd_own (jl_lst ja_nil)) rfl)
  (js_cons (js_while PassesOwn.never (jt_tru (jd_var (pe_var (i := 3) rfl (.inl rfl)))) (js_cons (js_set (i := 5) nd rfl (.inr rfl) (jm_pop (jd_var (pe_var (i := 3) rfl (.inl rfl)))))
  (js_cons (js_set (i := 6) nd rfl (.inr rfl) (jd_fz (jl_lc (own := [("other", 7)]) (t := (.n 7)) rfl nd (ji_list (jd_var (pe_var (i := 4) rfl (.inl rfl)))) (blkOk_by (N := N_closed) (sc := (defScope s_closed)) (by decide +kernel)) (by decide) (fun _ _ _ _ _ => (pg_name (i := 7) nd rfl (.inl rfl))) (fun _ _ _ _ _ => (jts_one (jt_cmp op_le od_le (jd_call0 h_part_far hr (by decide) rfl (ja_cons (jd_var (pe_var (i := 0) rfl (.inr (.inl rfl)))) (ja_cons (jd_var (pe_var (i := 5) rfl (.inr (.inl rfl)))) (ja_cons (jd_var (pe_var (i := 7) rfl (.inl rfl))) ja_nil)))) (jd_var (pe_var (i := 2) rfl (.inr (.inl rfl)))) rfl))) (fun _ _ _ _ _ => (jd_var (pe_var (i := 7) rfl (.inl rfl)))))))
  (js_cons (js_if (jt_cmp (op_eqD hr.units) od_eq (jd_var (pe_var (i := 6) rfl (.inr (.inl rfl)))) (jd_fz (jl_lst ja_nil)) rfl) (js_cons (js_expr (jm_append (jd_var (pe_var (i := 4) rfl (.inl rfl))) (jd_var (pe_var (i := 5) rfl (.inr (.inl rfl))))))
  (js_one js_cont)) js_nil)
  (js_cons (js_setLcO (own := [("other", 7)]) (i := 4) rfl nd rfl rfl (sw_true rfl rfl rfl (by decide +kernel)) (ji_list (jd_var (pe_var (i := 4) rfl (.inl rfl)))) (blkOk_by (N := N_closed) (sc := (defScope s_closed)) (by decide +kernel)) (by decide) (fun _ _ _ _ _ => (pg_name (i := 7) nd rfl (.inl rfl))) (fun _ _ _ _ _ => (jts_one (jt_cmp (op_notInA hr.u65) od_in (jd_var (pe_var (i := 7) rfl (.inl rfl))) (jd_var (pe_var (i := 6) rfl (.inr (.inl rfl)))) rfl))) (fun _ _ _ _ _ => (jd_var (pe_var (i := 7) rfl (.inl rfl)))))
  (js_cons (js_for (t := (.n 7)) PassesOwn.never rfl (ji_list (jd_var (pe_var (i := 6) rfl (.inr (.inl rfl))))) (pg_name (i := 7) nd rfl (.inl rfl)) (js_one (js_set (i := 5) nd rfl (.inr rfl) (jd_call0 h_part_hull hr (by decide) rfl (ja_cons (jd_var (pe_var (i := 0) rfl (.inr (.inl rfl)))) (ja_cons (jd_var (pe_var (i := 5) rfl (.inr (.inl rfl)))) (ja_cons (jd_var (pe_var (i := 7) rfl (.inl rfl))) ja_nil)))))))
  (js_one (js_expr (jm_append (jd_var (pe_var (i := 3) rfl (.inl rfl))) (jd_var (pe_var (i := 5) rfl (.inr (.inl rfl)))))))))))))
  (js_one (js_ret (jd_tupleOf rfl G.tuple (jd_fz (jl_sorted hr rfl G.sorted (jd_var (pe_var (i := 4) rfl (.inl rfl))))))))))
abbrev N_lots_of : List Str := ["world", "book", "reach", "kin", "part", "name", "own"]
theorem fs_lots_of : FnScope N_lots_of ["world", "book", "reach"] (defScope s_lots_of) := C8.fnScope_by (by decide +kernel)
def td_lots_of : TSd := (tdSeq (tdSet 3 (tdCall0 sc_closed (tdCons (tdVar 0) (tdCons (tdFz (tdLc (wdTup (tdVar 1)) (.t [5, 6]) tdYes (tdVar 6) [5, 6])) (tdCons (tdVar 2) tdNil)))))
  (tdRet (tdFz (tdLc (wdTup (tdVar 3)) (.n 4) tdYes (tdTup (tdCons (tdVar 4) (tdCons (td1 fTupleOf (tdFz (tl1 fSorted (tdFz (tdLc (wdTup (tdVar 1)) (.t [5, 6]) (tdB (tdCall0 sc_part_in (tdCons (tdVar 6) (tdCons (tdVar 4) tdNil)))) (tdVar 5) [5, 6]))))) tdNil))) [4]))))
theorem b_lots_of (G : Gb K mg C) (h_part_in : Has P w K mg base C "part_in" ["one", "other"] 1 0 sc_part_in) (h_closed : Has P w K mg base C "closed" ["world", "parts", "reach"] 5 0 sc_closed) (cdv : Value) (A : Around) (outer : List PySem.Env) (s : Shared) (H : Hp) (E : XK) (hr : Room 5 (A.deeper (envOfC "lots_of" (defScope s_lots_of) s.heap.objs.size f cdv))) :
    PSs (cxOf CX0 P w K mg base N_lots_of "lots_of" (defScope s_lots_of) f cdv A outer s H E).nox (defBody s_lots_of) (uTS ⟨P, w, C⟩ td_lots_of) :=
  have nd := fs_lots_of.nd
  (js_cons (js_set (i := 3) nd rfl (.inl rfl) (jd_call0 h_closed hr (by decide) rfl (ja_cons (jd_var (pe_var (i := 0) rfl (.inl rfl))) (ja_cons (jd_fz (jl_lc (own := [("name", 5), ("own", 6)]) (t := (.t [5, 6])) rfl nd (ji_tup (jd_var (pe_var (i := 1) rfl (.inr (.inl rfl))))) (blkOk_by (N := N_lots_of) (sc := (defScope s_lots_of)) (by decide +kernel)) (by decide) (fun _ _ _ _ _ => (pg_tup rfl (pgs_cons (pg_name (i := 5) nd rfl (.inl rfl)) (pgs_cons (pg_name (i := 6) nd rfl (.inl rfl)) pgs_nil)))) (fun _ _ _ _ _ => jts_nil) (fun _ _ _ _ _ => (jd_var (pe_var (i := 6) rfl (.inl rfl)))))) (ja_cons (jd_var (pe_var (i := 2) rfl (.inl rfl))) ja_nil)))))
  (js_one (js_ret (jd_fz (jl_lc (own := [("part", 4)]) (t := (.n 4)) rfl nd (ji_tup (jd_var (pe_var (i := 3) rfl (.inl rfl)))) (blkOk_by (N := N_lots_of) (sc := (defScope s_lots_of)) (by decide +kernel)) (by decide) (fun _ _ _ _ _ => (pg_name (i := 4) nd rfl (.inr rfl))) (fun _ _ _ _ _ => jts_nil) (fun _ _ _ _ _ => (jd_tup (ja_cons (jd_var (pe_var (i := 4) rfl (.inr (.inl rfl)))) (ja_cons (jd_tupleOf rfl G.tuple (jd_fz (jl_sorted hr rfl G.sorted (jd_fz (jl_lc (own := [("name", 5), ("own", 6)]) (t := (.t [5, 6])) rfl nd (ji_tup (jd_var (pe_var (i := 1) rfl (.inr (.inl rfl))))) (blkOk_by (N := N_lots_of) (sc := (relS _ (defScope s_lots_of))) (by decide +kernel)) (by decide) (fun _ _ _ _ _ => (pg_tup rfl (pgs_cons (pg_name (i := 5) nd rfl (.inl rfl)) (pgs_cons (pg_name (i := 6) nd rfl (.inl rfl)) pgs_nil)))) (fun _ _ _ _ _ => (jts_one (jt_val (jd_call0 h_part_in hr (by decide) rfl (ja_cons (jd_var (pe_var (i := 6) rfl (.inl rfl))) (ja_cons (jd_var (pe_var (i := 4) rfl (.inr (.inl rfl)))) ja_nil)))))) (fun _ _ _ _ _ => (jd_var (pe_var (i := 5) rfl (.inl rfl))))))))) ja_nil)))))))))
abbrev N_stand : List Str := ["world", "book", "reach", "name", "own"]
theorem fs_stand : FnScope N_stand ["world", "book", "reach"] (defScope s_stand) := C8.fnScope_by (by decide +kernel)
def td_stand : TSd := (tdSeq (tdDrop (tdCall0 sc_check_world (tdCons (tdVar 0) tdNil)))
  (tdSeq (tdDrop (tdCall0 sc_check_book (tdCons (tdVar 0) (tdCons (tdVar 1) tdNil))))
  (tdSeq (tdDrop (tdCall0 sc_check_reach (tdCons (tdVar 2) tdNil)))
  (tdRet (tdCall0 sc_closed (tdCons (tdVar 0) (tdCons (tdFz (tdLc (wdTup (tdVar 1)) (.t [3, 4]) tdYes (tdVar 4) [3, 4])) (tdCons (tdVar 2) tdNil))))))))
theorem b_stand (G : Gb K mg C) (h_check_world : Has P w K mg base C "check_world" ["thing"] 1 0 sc_check_world) (h_check_book : Has P w K mg base C "check_book" ["world", "thing"] 7 0 sc_check_book) (h_check_reach : Has P w K mg base C "check_reach" ["thing"] 3 0 sc_check_reach) (h_closed : Has P w K mg base C "closed" ["world", "parts", "reach"] 5 0 sc_closed) (cdv : Value) (A : Around) (outer : List PySem.Env) (s : Shared) (H : Hp) (E : XK) (hr : Room 7 (A.deeper (envOfC "stand" (defScope s_stand) s.heap.objs.size f cdv))) :
    PSs (cxOf CX0 P w K mg base N_stand "stand" (defScope s_stand) f cdv A outer s H E).nox (defBody s_stand) (uTS ⟨P, w, C⟩ td_stand) :=
  have nd := fs_stand.nd
  (js_cons (js_expr (jd_call0 h_check_world hr (by decide) rfl (ja_cons (jd_var (pe_var (i := 0) rfl (.inl rfl))) ja_nil)))
  (js_cons (js_expr (jd_call0 h_check_book hr (by decide) rfl (ja_cons (jd_var (pe_var (i := 0) rfl (.inl rfl))) (ja_cons (jd_var (pe_var (i := 1) rfl (.inl rfl))) ja_nil))))
  (js_cons (js_expr (jd_call0 h_check_reach hr (by decide) rfl (ja_cons (jd_var (pe_var (i := 2) rfl (.inl rfl))) ja_nil)))
  (js_one (js_ret (jd_call0 h_closed hr (by decide) rfl (ja_cons (jd_var (pe_var (i := 0) rfl (.inl rfl))) (ja_cons (jd_fz (jl_lc (own := [("name", 3), ("own", 4)]) (t := (.t [3, 4])) rfl nd (ji_tup (jd_var (pe_var (i := 1) rfl (.inl rfl)))) (blkOk_by (N := N_stand) (sc := (defScope s_stand)) (by decide +kernel)) (by decide) (fun _ _ _ _ _ => (pg_tup rfl (pgs_cons (pg_name (i := 3) nd rfl (.inl rfl)) (pgs_cons (pg_name (i := 4) nd rfl (.inl rfl)) pgs_nil)))) (fun _ _ _ _ _ => jts_nil) (fun _ _ _ _ _ => (jd_var (pe_var (i := 4) rfl (.inl rfl)))))) (ja_cons (jd_var (pe_var (i := 2) rfl (.inl rfl))) ja_nil)))))))))
abbrev N_lots : List Str := ["world", "book", "reach"]
theorem fs_lots : FnScope N_lots ["world", "book", "reach"] (defScope s_lots) := C8.fnScope_by (by decide +kernel)
def td_lots : TSd := (tdSeq (tdDrop (tdCall0 sc_check_world (tdCons (tdVar 0) tdNil)))
  (tdSeq (tdDrop (tdCall0 sc_check_book (tdCons (tdVar 0) (tdCons (tdVar 1) tdNil))))
  (tdSeq (tdDrop (tdCall0 sc_check_reach (tdCons (tdVar 2) tdNil)))
  (tdRet (td1 fTupleOf (tdCall0 sc_lots_of (tdCons (tdVar 0) (tdCons (tdVar 1) (tdCons (tdVar 2) tdNil)))))))))
theorem b_lots (G : Gb K mg C) (h_check_world : Has P w K mg base C "check_world" ["thing"] 1 0 sc_check_world) (h_check_book : Has P w K mg base C "check_book" ["world", "thing"] 7 0 sc_check_book) (h_check_reach : Has P w K mg base C "check_reach" ["thing"] 3 0 sc_check_reach) (h_lots_of : Has P w K mg base C "lots_of" ["world", "book", "reach"] 6 0 sc_lots_of) (cdv : Value) (A : Around) (outer : List PySem.Env) (s : Shared) (H : Hp) (E : XK) (hr : Room 7 (A.deeper (envOfC "lots" (defScope s_lots) s.heap.objs.size f cdv))) :
    PSs (cxOf CX0 P w K mg base N_lots "lots" (defScope s_lots) f cdv A outer s H E).nox (defBody s_lots) (uTS ⟨P, w, C⟩ td_lots) :=
  have nd := fs_lots.nd
  (js_cons (js_expr (jd_call0 h_check_world hr (by decide) rfl (ja_cons (jd_var (pe_var (i := 0) rfl (.inl rfl))) ja_nil)))
  (js_cons (js_expr (jd_call0 h_check_book hr (by decide) rfl (ja_cons (jd_var (pe_var (i := 0) rfl (.inl rfl))) (ja_cons (jd_var (pe_var (i := 1) rfl (.inl rfl))) ja_nil))))
  (js_cons (js_expr (jd_call0 h_check_reach hr (by decide) rfl (ja_cons (jd_var (pe_var (i := 2) rfl (.inl rfl))) ja_nil)))
  (js_one (js_ret (jd_tupleOf rfl G.tuple (jd_call0 h_lots_of hr (by decide) rfl (ja_cons (jd_var (pe_var (i := 0) rfl (.inl rfl))) (ja_cons (jd_var (pe_var (i := 1) rfl (.inl rfl))) (ja_cons (jd_var (pe_var (i := 2) rfl (.inl rfl))) ja_nil))))))))))
abbrev N_together : List Str := ["world", "book", "one", "other", "reach", "both", "kin", "name", "own", "part"]
theorem fs_together : FnScope N_together ["world", "book", "one", "other", "reach"] (defScope s_together) := C8.fnScope_by (by decide +kernel)
def td_together : TSd := (tdSeq (tdDrop (tdCall0 sc_check_world (tdCons (tdVar 0) tdNil)))
  (tdSeq (tdDrop (tdCall0 sc_check_book (tdCons (tdVar 0) (tdCons (tdVar 1) tdNil))))
  (tdSeq (tdSet 5 (tdFz (tdLc (wdTup (tdTup (tdCons (tdVar 2) (tdCons (tdVar 3) tdNil)))) (.n 7) tdYes (tdCall0 sc_part_of (tdCons (tdVar 1) (tdCons (tdVar 7) tdNil))) [7])))
  (tdSeq (tdDrop (tdCall0 sc_check_reach (tdCons (tdVar 4) tdNil)))
  (tdSeq (tdSet 6 (tdCall0 sc_closed (tdCons (tdVar 0) (tdCons (tdFz (tdLc (wdTup (tdVar 1)) (.t [7, 8]) tdYes (tdVar 8) [7, 8])) (tdCons (tdVar 4) tdNil)))))
  (tdRet (td1 fAny (tdFz (tdLc (wdTup (tdVar 6)) (.n 9) tdYes (td1 fAll (tdFz (tdLc (wdList (tdVar 5)) (.n 8) tdYes (tdCall0 sc_part_in (tdCons (tdVar 8) (tdCons (tdVar 9) tdNil))) [8]))) [9])))))))))
theorem b_together (G : Gb K mg C) (h_check_world : Has P w K mg base C "check_world" ["thing"] 1 0 sc_check_world) (h_part_in : Has P w K mg base C "part_in" ["one", "other"] 1 0 sc_part_in) (h_check_book : Has P w K mg base C "check_book" ["world", "thing"] 7 0 sc_check_book) (h_part_of : Has P w K mg base C "part_of" ["book", "name"] 2 0 sc_part_of) (h_check_reach : Has P w K mg base C "check_reach" ["thing"] 3 0 sc_check_reach) (h_closed : Has P w K mg base C "closed" ["world", "parts", "reach"] 5 0 sc_closed) (cdv : Value) (A : Around) (outer : List PySem.Env) (s : Shared) (H : Hp) (E : XK) (hr : Room 7 (A.deeper (envOfC "together" (defScope s_together) s.heap.objs.size f cdv))) :
    PSs (cxOf CX0 P w K mg base N_together "together" (defScope s_together) f cdv A outer s H E).nox (defBody s_together) (uTS ⟨P, w, C⟩ td_together) :=
  have nd := fs_together.nd
  (js_cons (js_expr (jd_call0 h_check_world hr (by decide) rfl (ja_cons (jd_var (pe_var (i := 0) rfl (.inl rfl))) ja_nil)))
  (js_cons (js_expr (jd_call0 h_check_book hr (by decide) rfl (ja_cons (jd_var (pe_var (i := 0) rfl (.inl rfl))) (ja_cons (jd_var (pe_var (i := 1) rfl (.inr (.inl rfl)))) ja_nil))))
  (js_cons (js_set (i := 5) nd rfl (.inr rfl) (jd_fz (jl_lc (own := [("name", 7)]) (t := (.n 7)) rfl nd (ji_tup (jd_tup (ja_cons (jd_var (pe_var (i := 2) rfl (.inl rfl))) (ja_cons (jd_var (pe_var (i := 3) rfl (.inl rfl))) ja_nil)))) (blkOk_by (N := N_together) (sc := (defScope s_together)) (by decide +kernel)) (by decide) (fun _ _ _ _ _ => (pg_name (i := 7) nd rfl (.inl rfl))) (fun _ _ _ _ _ => jts_nil) (fun _ _ _ _ _ => (jd_call0 h_part_of hr (by decide) rfl (ja_cons (jd_var (pe_var (i := 1) rfl (.inr (.inl rfl)))) (ja_cons (jd_var (pe_var (i := 7) rfl (.inl rfl))) ja_nil)))))))
  (js_cons (js_expr (jd_call0 h_check_reach hr (by decide) rfl (ja_cons (jd_var (pe_var (i := 4) rfl (.inl rfl))) ja_nil)))
  (js_cons (js_set (i := 6) nd rfl (.inl rfl) (jd_call0 h_closed hr (by decide) rfl (ja_cons (jd_var (pe_var (i := 0) rfl (.inl rfl))) (ja_cons (jd_fz (jl_lc (own := [("name", 7), ("own", 8)]) (t := (.t [7, 8])) rfl nd (ji_tup (jd_var (pe_var (i := 1) rfl (.inr (.inl rfl))))) (blkOk_by (N := N_together) (sc := (defScope s_together)) (by decide +kernel)) (by decide) (fun _ _ _ _ _ => (pg_tup rfl (pgs_cons (pg_name (i := 7) nd rfl (.inl rfl)) (pgs_cons (pg_name (i := 8) nd rfl (.inl rfl)) pgs_nil)))) (fun _ _ _ _ _ => jts_nil) (fun _ _ _ _ _ => (jd_var (pe_var (i := 8) rfl (.inl rfl)))))) (ja_cons (jd_var (pe_var (i := 4) rfl (.inl rfl))) ja_nil)))))
  (js_one (js_ret (jd_any rfl rfl G.any (jd_fz (jl_lc (own := [("part", 9)]) (t := (.n 9)) rfl nd (ji_tup (jd_var (pe_var (i := 6) rfl (.inl rfl)))) (blkOk_by (N := N_together) (sc := (defScope s_together)) (by decide +kernel)) (by decide) (fun _ _ _ _ _ => (pg_name (i := 9) nd rfl (.inr rfl))) (fun _ _ _ _ _ => jts_nil) (fun _ _ _ _ _ => (jd_all rfl rfl G.all (jd_fz (jl_lc (own := [("own", 8)]) (t := (.n 8)) rfl nd (ji_list (jd_var (pe_var (i := 5) rfl (.inr (.inl rfl))))) (blkOk_by (N := N_together) (sc := (relS _ (defScope s_together))) (by decide +kernel)) (by decide) (fun _ _ _ _ _ => (pg_name (i := 8) nd rfl (.inl rfl))) (fun _ _ _ _ _ => jts_nil) (fun _ _ _ _ _ => (jd_call0 h_part_in hr (by decide) rfl (ja_cons (jd_var (pe_var (i := 8) rfl (.inl rfl))) (ja_cons (jd_var (pe_var (i := 9) rfl (.inr (.inl rfl)))) ja_nil))))))))))))))))))
abbrev N_rungs : List Str := ["world", "book", "reach", "kin", "found", "later", "many", "one", "other", "name", "part"]
theorem fs_rungs : FnScope N_rungs ["world", "book"] (defScope s_rungs) := C8.fnScope_by (by decide +kernel)
def td_rungs : TSd := (tdSeq (tdUnp [2, 3] (tdCons (tdC (.int 0)) (tdCons (tdCall0 sc_closed (tdCons (tdVar 0) (tdCons (td1 fTupleOf (tdFz (tdLc (wdTup (tdVar 1)) (.t [9, 10]) tdYes (tdVar 10) [9, 10]))) (tdCons (tdC (.int 0)) tdNil)))) tdNil)))
  (tdSeq (tdSet 4 (tdOwn (tdLst (tdCons (tdTup (tdCons (tdVar 2) (tdCons (tdVar 3) tdNil))) tdNil))))
  (tdSeq (tdWhile (tdB (tdOp fGt (td1 fLen (tdVar 3)) (tdC (.int 1)))) (tdSeq (tdStar 2 5 (tdFz (tl1 fSortedS (tdSc2 (wdEnum (tdVar 3)) (.t [6, 7]) tdYes (wdTup (tdSlT (tdVar 3) tdNoPart (tdPart (tdVar 6)))) (.n 8) tdYes (tdCall0 sc_part_far (tdCons (tdVar 0) (tdCons (tdVar 7) (tdCons (tdVar 8) tdNil)))) [6, 7, 8] [8]))))
  (tdSeq (tdSet 3 (tdCall0 sc_closed (tdCons (tdVar 0) (tdCons (tdVar 3) (tdCons (tdVar 2) tdNil)))))
  (tdDrop (tdM fApp (tdVar 4) (tdCons (tdTup (tdCons (tdVar 2) (tdCons (tdVar 3) tdNil))) tdNil))))))
  (tdRet (tdThaw (tdVar 4))))))
theorem b_rungs (G : Gb K mg C) (h_part_far : Has P w K mg base C "part_far" ["world", "one", "other"] 2 0 sc_part_far) (h_closed : Has P w K mg base C "closed" ["world", "parts", "reach"] 5 0 sc_closed) (cdv : Value) (A : Around) (outer : List PySem.Env) (s : Shared) (H : Hp) (E : XK) (hr : Room 5 (A.deeper (envOfC "rungs" (defScope s_rungs) s.heap.objs.size f cdv))) :
    PSs (cxOf CX0 P w K mg base N_rungs "rungs" (defScope s_rungs) f cdv A outer s H E).nox (defBody s_rungs) (uTS ⟨P, w, C⟩ td_rungs) :=
  have nd := fs_rungs.nd
  (js_cons (js_unp (is := [2, 3]) (ja_cons jd_int (ja_cons (jd_call0 h_closed hr (by decide) rfl (ja_cons (jd_var (pe_var (i := 0) rfl (.inr (.inl rfl)))) (ja_cons (jd_tupleOf rfl G.tuple (jd_fz (jl_lc (own := [("name", 9), ("part", 10)]) (t := (.t [9, 10])) rfl nd (ji_tup (jd_var (pe_var (i := 1) rfl (.inl rfl)))) (blkOk_by (N := N_rungs) (sc := (defScope s_rungs)) (by decide +kernel)) (by decide) (fun _ _ _ _ _ => (pg_tup rfl (pgs_cons (pg_name (i := 9) nd rfl (.inl rfl)) (pgs_cons (pg_name (i := 10) nd rfl (.inl rfl)) pgs_nil)))) (fun _ _ _ _ _ => jts_nil) (fun _ _ _ _ _ => (jd_var (pe_var (i := 10) rfl (.inl rfl))))))) (ja_cons jd_int ja_nil)))) ja_nil)) (pg_tup rfl (pgs_cons (pg_name (i := 2) nd rfl (.inl rfl)) (pgs_cons (pg_name (i := 3) nd rfl (.inr rfl)) pgs_nil))))
  (js_cons (js_set (i := 4) nd rfl (.inl rfl) (jd_own (jl_lst (ja_cons (jd_tup (ja_cons (jd_var (pe_var (i := 2) rfl (.inl rfl))) (ja_cons (jd_var (pe_var (i := 3) rfl (.inr (.inl rfl)))) ja_nil))) ja_nil))))
  (js_cons (js_while PassesOwn.never (jt_cmp op_gt od_gt (jd_len rfl G.len (jd_var (pe_var (i := 3) rfl (.inr (.inl rfl))))) jd_int rfl) (js_cons (js_star (jd_fz (jl_sortedS rfl rfl G.sorted (jd_sc2 (own := [("many", 6), ("one", 7), ("other", 8)]) (t := (.t [6, 7])) (t1 := (.n 8)) (vs1 := [8]) rfl nd (ji_enum rfl G.enumerate (jd_var (pe_var (i := 3) rfl (.inr (.inl rfl))))) (blkOk_by (N := N_rungs) (sc := (defScope s_rungs)) (by decide +kernel)) (by decide) (by decide) (by decide) (fun _ _ _ _ _ => (pg_tup rfl (pgs_cons (pg_name (i := 6) nd rfl (.inl rfl)) (pgs_cons (pg_name (i := 7) nd rfl (.inl rfl)) pgs_nil)))) (fun _ _ _ _ _ => jts_nil) (fun _ _ _ _ _ => (ji_tup (jd_slT (jd_var (pe_var (i := 3) rfl (.inr (.inl rfl)))) jo_none (jo_some (jd_var (pe_var (i := 6) rfl (.inl rfl))))))) (fun _ _ _ _ _ => (pg_name (i := 8) nd rfl (.inl rfl))) (fun _ _ _ _ _ => jts_nil) (fun _ _ _ _ _ => (jd_call0 h_part_far hr (by decide) rfl (ja_cons (jd_var (pe_var (i := 0) rfl (.inr (.inl rfl)))) (ja_cons (jd_var (pe_var (i := 7) rfl (.inl rfl))) (ja_cons (jd_var (pe_var (i := 8) rfl (.inl rfl))) ja_nil)))))))) (JC.pg_star rfl (pg_name (i := 2) nd rfl (.inl rfl)) (pg_name (i := 5) nd rfl (.inl rfl))))
  (js_cons (js_set (i := 3) nd rfl (.inr rfl) (jd_call0 h_closed hr (by decide) rfl (ja_cons (jd_var (pe_var (i := 0) rfl (.inr (.inl rfl)))) (ja_cons (jd_var (pe_var (i := 3) rfl (.inr (.inl rfl)))) (ja_cons (jd_var (pe_var (i := 2) rfl (.inl rfl))) ja_nil)))))
  (js_one (js_expr (jm_append (jd_var (pe_var (i := 4) rfl (.inl rfl))) (jd_tup (ja_cons (jd_var (pe_var (i := 2) rfl (.inl rfl))) (ja_cons (jd_var (pe_var (i := 3) rfl (.inr (.inl rfl)))) ja_nil)))))))))
  (js_one (js_ret (jd_thaw (jd_var (pe_var (i := 4) rfl (.inl rfl)))))))))
abbrev N_meeting : List Str := ["world", "book", "one", "other", "ends", "name", "reach", "kin", "part", "end"]
theorem fs_meeting : FnScope N_meeting ["world", "book", "one", "other"] (defScope s_meeting) := C8.fnScope_by (by decide +kernel)
def td_meeting : TSd := (tdSeq (tdDrop (tdCall0 sc_check_world (tdCons (tdVar 0) tdNil)))
  (tdSeq (tdDrop (tdCall0 sc_check_book (tdCons (tdVar 0) (tdCons (tdVar 1) tdNil))))
  (tdSeq (tdSet 4 (tdFz (tdLc (wdTup (tdTup (tdCons (tdVar 2) (tdCons (tdVar 3) tdNil)))) (.n 5) tdYes (tdCall0 sc_part_of (tdCons (tdVar 1) (tdCons (tdVar 5) tdNil))) [5])))
  (tdRet (td1 fMin (tdFz (tdLc2 (wdList (tdCall0 sc_rungs (tdCons (tdVar 0) (tdCons (tdVar 1) tdNil)))) (.t [6, 7]) tdYes (wdTup (tdVar 7)) (.n 8) (tdB (td1 fAll (tdFz (tdLc (wdList (tdVar 4)) (.n 9) tdYes (tdCall0 sc_part_in (tdCons (tdVar 9) (tdCons (tdVar 8) tdNil))) [9])))) (tdVar 6) [6, 7, 8] [8])))))))
theorem b_meeting (G : Gb K mg C) (h_check_world : Has P w K mg base C "check_world" ["thing"] 1 0 sc_check_world) (h_part_in : Has P w K mg base C "part_in" ["one", "other"] 1 0 sc_part_in) (h_check_book : Has P w K mg base C "check_book" ["world", "thing"] 7 0 sc_check_book) (h_part_of : Has P w K mg base C "part_of" ["book", "name"] 2 0 sc_part_of) (h_rungs : Has P w K mg base C "rungs" ["world", "book"] 6 0 sc_rungs) (cdv : Value) (A : Around) (outer : List PySem.Env) (s : Shared) (H : Hp) (E : XK) (hr : Room 7 (A.deeper (envOfC "meeting" (defScope s_meeting) s.heap.objs.size f cdv))) :
    PSs (cxOf CX0 P w K mg base N_meeting "meeting" (defScope s_meeting) f cdv A outer s H E).nox (defBody s_meeting) (uTS ⟨P, w, C⟩ td_meeting) :=
  have nd := fs_meeting.nd
  (js_cons (js_expr (jd_call0 h_check_world hr (by decide) rfl (ja_cons (jd_var (pe_var (i := 0) rfl (.inl rfl))) ja_nil)))
  (js_cons (js_expr (jd_call0 h_check_book hr (by decide) rfl (ja_cons (jd_var (pe_var (i := 0) rfl (.inl rfl))) (ja_cons (jd_var (pe_var (i := 1) rfl (.inr (.inl rfl)))) ja_nil))))
  (js_cons (js_set (i := 4) nd rfl (.inr rfl) (jd_fz (jl_lc (own := [("name", 5)]) (t := (.n 5)) rfl nd (ji_tup (jd_tup (ja_cons (jd_var (pe_var (i := 2) rfl (.inl rfl))) (ja_cons (jd_var (pe_var (i := 3) rfl (.inl rfl))) ja_nil)))) (blkOk_by (N := N_meeting) (sc := (defScope s_meeting)) (by decide +kernel)) (by decide) (fun _ _ _ _ _ => (pg_name (i := 5) nd rfl (.inl rfl))) (fun _ _ _ _ _ => jts_nil) (fun _ _ _ _ _ => (jd_call0 h_part_of hr (by decide) rfl (ja_cons (jd_var (pe_var (i := 1) rfl (.inr (.inl rfl)))) (ja_cons (jd_var (pe_var (i := 5) rfl (.inl rfl))) ja_nil)))))))
  (js_one (js_ret (jd_min rfl hr rfl G.min (jd_fz (jl_lc2 (own := [("reach", 6), ("kin", 7), ("part", 8)]) (t := (.t [6, 7])) (t1 := (.n 8)) (vs1 := [8]) rfl nd (ji_list (jd_call0 h_rungs hr (by decide) rfl (ja_cons (jd_var (pe_var (i := 0) rfl (.inl rfl))) (ja_cons (jd_var (pe_var (i := 1) rfl (.inr (.inl rfl)))) ja_nil)))) (blkOk_by (N := N_meeting) (sc := (defScope s_meeting)) (by decide +kernel)) (by decide) (by decide) (by decide) (fun _ _ _ _ _ => (pg_tup rfl (pgs_cons (pg_name (i := 6) nd rfl (.inl rfl)) (pgs_cons (pg_name (i := 7) nd rfl (.inl rfl)) pgs_nil)))) (fun _ _ _ _ _ => jts_nil) (fun _ _ _ _ _ => (ji_tup (jd_var (pe_var (i := 7) rfl (.inl rfl))))) (fun _ _ _ _ _ => (pg_name (i := 8) nd rfl (.inr rfl))) (fun _ _ _ _ _ => (jts_one (jt_val (jd_all rfl rfl G.all (jd_fz (jl_lc (own := [("end", 9)]) (t := (.n 9)) rfl nd (ji_list (jd_var (pe_var (i := 4) rfl (.inr (.inl rfl))))) (blkOk_by (N := N_meeting) (sc := (relS _ (defScope s_meeting))) (by decide +kernel)) (by decide) (fun _ _ _ _ _ => (pg_name (i := 9) nd rfl (.inl rfl))) (fun _ _ _ _ _ => jts_nil) (fun _ _ _ _ _ => (jd_call0 h_part_in hr (by decide) rfl (ja_cons (jd_var (pe_var (i := 9) rfl (.inl rfl))) (ja_cons (jd_var (pe_var (i := 8) rfl (.inr (.inl rfl)))) ja_nil)))))))))) (fun _ _ _ _ _ => (jd_var (pe_var (i := 6) rfl (.inl rfl))))))))))))
abbrev N_ladder : List Str := ["world", "book"]
theorem fs_ladder : FnScope N_ladder ["world", "book"] (defScope s_ladder) := C8.fnScope_by (by decide +kernel)
def td_ladder : TSd := (tdSeq (tdDrop (tdCall0 sc_check_world (tdCons (tdVar 0) tdNil)))
  (tdSeq (tdDrop (tdCall0 sc_check_book (tdCons (tdVar 0) (tdCons (tdVar 1) tdNil))))
  (tdRet (td1 fTupleOf (tdCall0 sc_rungs (tdCons (tdVar 0) (tdCons (tdVar 1) tdNil)))))))
theorem b_ladder (G : Gb K mg C) (h_check_world : Has P w K mg base C "check_world" ["thing"] 1 0 sc_check_world) (h_check_book : Has P w K mg base C "check_book" ["world", "thing"] 7 0 sc_check_book) (h_rungs : Has P w K mg base C "rungs" ["world", "book"] 6 0 sc_rungs) (cdv : Value) (A : Around) (outer : List PySem.Env) (s : Shared) (H : Hp) (E : XK) (hr : Room 7 (A.deeper (envOfC "ladder" (defScope s_ladder) s.heap.objs.size f cdv))) :
    PSs (cxOf CX0 P w K mg base N_ladder "ladder" (defScope s_ladder) f cdv A outer s H E).nox (defBody s_ladder) (uTS ⟨P, w, C⟩ td_ladder) :=
  have nd := fs_ladder.nd
  (js_cons (js_expr (jd_call0 h_check_world hr (by decide) rfl (ja_cons (jd_var (pe_var (i := 0) rfl (.inl rfl))) ja_nil)))
  (js_cons (js_expr (jd_call0 h_check_book hr (by decide) rfl (ja_cons (jd_var (pe_var (i := 0) rfl (.inl rfl))) (ja_cons (jd_var (pe_var (i := 1) rfl (.inl rfl))) ja_nil))))
  (js_one (js_ret (jd_tupleOf rfl G.tuple (jd_call0 h_rungs hr (by decide) rfl (ja_cons (jd_var (pe_var (i := 0) rfl (.inl rfl))) (ja_cons (jd_var (pe_var (i := 1) rfl (.inl rfl))) ja_nil))))))))
abbrev N_together_by : List Str := ["world", "book", "names", "one", "other", "reach", "known", "kin", "name", "part"]
theorem fs_together_by : FnScope N_together_by ["world", "book", "names", "one", "other", "reach"] (defScope s_together_by) := C8.fnScope_by (by decide +kernel)
def td_together_by : TSd := (tdSeq (tdSet 6 (tdDc (wdTup (tdVar 1)) (.t [8, 9]) (tdB (tdOp (fIn false) (tdVar 8) (tdVar 2))) (tdVar 8) (tdVar 9) [8, 9]))
  (tdSeq (tdSet 7 (tdCall0 sc_closed (tdCons (tdVar 0) (tdCons (tdVals (tdVar 6)) (tdCons (tdVar 5) tdNil)))))
  (tdRet (td1 fAny (tdFz (tdLc (wdTup (tdVar 7)) (.n 9) tdYes (tdAndV (tdCall0 sc_part_in (tdCons (tdOp fDGet (tdVar 6) (tdVar 3)) (tdCons (tdVar 9) tdNil))) (tdCall0 sc_part_in (tdCons (tdOp fDGet (tdVar 6) (tdVar 4)) (tdCons (tdVar 9) tdNil)))) [9]))))))
theorem b_together_by (G : Gb K mg C) (h_part_in : Has P w K mg base C "part_in" ["one", "other"] 1 0 sc_part_in) (h_closed : Has P w K mg base C "closed" ["world", "parts", "reach"] 5 0 sc_closed) (cdv : Value) (A : Around) (outer : List PySem.Env) (s : Shared) (H : Hp) (E : XK) (hr : Room 5 (A.deeper (envOfC "together_by" (defScope s_together_by) s.heap.objs.size f cdv))) :
    PSs (cxOf CX0 P w K mg base N_together_by "together_by" (defScope s_together_by) f cdv A outer s H E).nox (defBody s_together_by) (uTS ⟨P, w, C⟩ td_together_by) :=
  have nd := fs_together_by.nd
  (js_cons (js_set (i := 6) nd rfl (.inr rfl) (jd_dc (own := [("name", 8), ("part", 9)]) rfl nd (ji_tup (jd_var (pe_var (i := 1) rfl (.inl rfl)))) (blkOk_by (N := N_together_by) (sc := (defScope s_together_by)) (by decide +kernel)) (by decide) (fun _ _ _ _ _ => (pg_tup rfl (pgs_cons (pg_name (i := 8) nd rfl (.inl rfl)) (pgs_cons (pg_name (i := 9) nd rfl (.inl rfl)) pgs_nil)))) (fun _ _ _ _ _ => (jts_one (jt_cmp (op_inA hr.u65) od_in (jd_var (pe_var (i := 8) rfl (.inl rfl))) (jd_var (pe_var (i := 2) rfl (.inr (.inl rfl)))) rfl))) (fun _ _ _ _ _ => (jd_var (pe_var (i := 8) rfl (.inl rfl)))) (fun _ _ _ _ _ => (jd_var (pe_var (i := 9) rfl (.inl rfl))))))
  (js_cons (js_set (i := 7) nd rfl (.inl rfl) (jd_call0 h_closed hr (by decide) rfl (ja_cons (jd_var (pe_var (i := 0) rfl (.inl rfl))) (ja_cons (jd_vals rfl rfl G.tuple (jd_var (pe_var (i := 6) rfl (.inr (.inl rfl))))) (ja_cons (jd_var (pe_var (i := 5) rfl (.inl rfl))) ja_nil)))))
  (js_one (js_ret (jd_any rfl rfl G.any (jd_fz (jl_lc (own := [("part", 9)]) (t := (.n 9)) rfl nd (ji_tup (jd_var (pe_var (i := 7) rfl (.inl rfl)))) (blkOk_by (N := N_together_by) (sc := (defScope s_together_by)) (by decide +kernel)) (by decide) (fun _ _ _ _ _ => (pg_name (i := 9) nd rfl (.inl rfl))) (fun _ _ _ _ _ => jts_nil) (fun _ _ _ _ _ => (jd_and (jd_call0 h_part_in hr (by decide) rfl (ja_cons (jd_dget hr (jd_var (pe_var (i := 6) rfl (.inr (.inl rfl)))) (jd_var (pe_var (i := 3) rfl (.inr (.inl rfl))))) (ja_cons (jd_var (pe_var (i := 9) rfl (.inl rfl))) ja_nil))) (jd_one (jd_call0 h_part_in hr (by decide) rfl (ja_cons (jd_dget hr (jd_var (pe_var (i := 6) rfl (.inr (.inl rfl)))) (jd_var (pe_var (i := 4) rfl (.inr (.inl rfl))))) (ja_cons (jd_var (pe_var (i := 9) rfl (.inl rfl))) ja_nil)))))))))))))
abbrev N_check_both : List Str := ["world", "book", "one", "other", "reach", "name", "names", "part"]
theorem fs_check_both : FnScope N_check_both ["world", "book", "one", "other", "reach"] (defScope s_check_both) := C8.fnScope_by (by decide +kernel)
def td_check_both : TSd := (tdSeq (tdDrop (tdCall0 sc_check_world (tdCons (tdVar 0) tdNil)))
  (tdSeq (tdDrop (tdCall0 sc_check_book (tdCons (tdVar 0) (tdCons (tdVar 1) tdNil))))
  (tdSeq (tdFor (wdTup (tdTup (tdCons (tdVar 2) (tdCons (tdVar 3) tdNil)))) (.n 5) (tdDrop (tdCall0 sc_part_of (tdCons (tdVar 1) (tdCons (tdVar 5) tdNil)))))
  (tdSeq (tdDrop (tdCall0 sc_check_reach (tdCons (tdVar 4) tdNil)))
  (tdSeq (tdSet 6 (tdFz (tdLc (wdTup (tdVar 1)) (.t [5, 7]) tdYes (tdVar 5) [5, 7])))
  (tdSeq (tdIf (tdNot (tdB (tdCall0 sc_together_by (tdCons (tdVar 0) (tdCons (tdVar 1) (tdCons (tdVar 6) (tdCons (tdVar 2) (tdCons (tdVar 3) (tdCons (tdVar 4) tdNil))))))))) tdNever tdNext)
  (tdRet (tdVar 6))))))))
theorem b_check_both (G : Gb K mg C) (h_check_world : Has P w K mg base C "check_world" ["thing"] 1 0 sc_check_world) (h_check_book : Has P w K mg base C "check_book" ["world", "thing"] 7 0 sc_check_book) (h_part_of : Has P w K mg base C "part_of" ["book", "name"] 2 0 sc_part_of) (h_check_reach : Has P w K mg base C "check_reach" ["thing"] 3 0 sc_check_reach) (h_together_by : Has P w K mg base C "together_by" ["world", "book", "names", "one", "other", "reach"] 6 0 sc_together_by) (cdv : Value) (A : Around) (outer : List PySem.Env) (s : Shared) (H : Hp) (E : XK) (hr : Room 7 (A.deeper (envOfC "check_both" (defScope s_check_both) s.heap.objs.size f cdv))) :
    PSs (cxOf CX0 P w K mg base N_check_both "check_both" (defScope s_check_both) f cdv A outer s H E).nox (defBody s_check_both) (uTS ⟨P, w, C⟩ td_check_both) :=
  have nd := fs_check_both.nd
  (js_cons (js_expr (jd_call0 h_check_world hr (by decide) rfl (ja_cons (jd_var (pe_var (i := 0) rfl (.inl rfl))) ja_nil)))
  (js_cons (js_expr (jd_call0 h_check_book hr (by decide) rfl (ja_cons (jd_var (pe_var (i := 0) rfl (.inl rfl))) (ja_cons (jd_var (pe_var (i := 1) rfl (.inl rfl))) ja_nil))))
  (js_cons (js_for (t := (.n 5)) PassesOwn.never rfl (ji_tup (jd_tup (ja_cons (jd_var (pe_var (i := 2) rfl (.inl rfl))) (ja_cons (jd_var (pe_var (i := 3) rfl (.inl rfl))) ja_nil)))) (pg_name (i := 5) nd rfl (.inl rfl)) (js_one (js_expr (jd_call0 h_part_of hr (by decide) rfl (ja_cons (jd_var (pe_var (i := 1) rfl (.inl rfl))) (ja_cons (jd_var (pe_var (i := 5) rfl (.inl rfl))) ja_nil))))))
  (js_cons (js_expr (jd_call0 h_check_reach hr (by decide) rfl (ja_cons (jd_var (pe_var (i := 4) rfl (.inl rfl))) ja_nil)))
  (js_cons (js_setLcF (own := [("name", 5), ("part", 7)]) (i := 6) rfl nd rfl rfl (sw_true rfl rfl rfl (by decide +kernel)) (ji_tup (jd_var (pe_var (i := 1) rfl (.inl rfl)))) (blkOk_by (N := N_check_both) (sc := (defScope s_check_both)) (by decide +kernel)) (by decide) (fun _ _ _ _ _ => (pg_tup rfl (pgs_cons (pg_name (i := 5) nd rfl (.inl rfl)) (pgs_cons (pg_name (i := 7) nd rfl (.inl rfl)) pgs_nil)))) (fun _ _ _ _ _ => jts_nil) (fun _ _ _ _ _ => (jd_var (pe_var (i := 5) rfl (.inl rfl)))))
  (js_cons (js_if (jt_not (jt_val (jd_call0 h_together_by hr (by decide) rfl (ja_cons (jd_var (pe_var (i := 0) rfl (.inl rfl))) (ja_cons (jd_var (pe_var (i := 1) rfl (.inl rfl))) (ja_cons (jd_var (pe_var (i := 6) rfl (.inl rfl))) (ja_cons (jd_var (pe_var (i := 2) rfl (.inl rfl))) (ja_cons (jd_var (pe_var (i := 3) rfl (.inl rfl))) (ja_cons (jd_var (pe_var (i := 4) rfl (.inl rfl))) ja_nil))))))))) (js_one js_never) js_nil)
  (js_one (js_ret (jd_var (pe_var (i := 6) rfl (.inl rfl)))))))))))
abbrev N_needed : List Str := ["world", "book", "one", "other", "reach", "names", "found", "third", "left", "name"]
theorem fs_needed : FnScope N_needed ["world", "book", "one", "other", "reach"] (defScope s_needed) := C8.fnScope_by (by decide +kernel)
def td_needed : TSd := (tdSeq (tdPar 5 6 (tdCall0 sc_check_both (tdCons (tdVar 0) (tdCons (tdVar 1) (tdCons (tdVar 2) (tdCons (tdVar 3) (tdCons (tdVar 4) tdNil)))))) (tdOwn (tdLst tdNil)))
  (tdSeq (tdFor (wdList (tdFz (tl1 fSorted (tdVar 5)))) (.n 7) (tdSeq (tdSet 8 (tdFz (tdLc (wdList (tdVar 5)) (.n 9) (tdB (tdOp fNe (tdVar 9) (tdVar 7))) (tdVar 9) [9])))
  (tdIf (tdAnd (tdB (tdOp (fIn true) (tdVar 7) (tdTup (tdCons (tdVar 2) (tdCons (tdVar 3) tdNil))))) (tdNot (tdB (tdCall0 sc_together_by (tdCons (tdVar 0) (tdCons (tdVar 1) (tdCons (tdVar 8) (tdCons (tdVar 2) (tdCons (tdVar 3) (tdCons (tdVar 4) tdNil)))))))))) (tdDrop (tdM fApp (tdVar 6) (tdCons (tdVar 7) tdNil))) tdNext)))
  (tdRet (td1 fTupleOf (tdVar 6)))))
theorem b_needed (G : Gb K mg C) (h_together_by : Has P w K mg base C "together_by" ["world", "book", "names", "one", "other", "reach"] 6 0 sc_together_by) (h_check_both : Has P w K mg base C "check_both" ["world", "book", "one", "other", "reach"] 8 0 sc_check_both) (cdv : Value) (A : Around) (outer : List PySem.Env) (s : Shared) (H : Hp) (E : XK) (hr : Room 8 (A.deeper (envOfC "needed" (defScope s_needed) s.heap.objs.size f cdv))) :
    PSs (cxOf CX0 P w K mg base N_needed "needed" (defScope s_needed) f cdv A outer s H E).nox (defBody s_needed) (uTS ⟨P, w, C⟩ td_needed) :=
  have nd := fs_needed.nd
  (js_cons (js_par (i := 5) (j := 6) rfl nd rfl rfl (by decide) rfl rfl (jd_call0 h_check_both hr (by decide) rfl (ja_cons (jd_var (pe_var (i := 0) rfl (.inl rfl))) (ja_cons (jd_var (pe_var (i := 1) rfl (.inl rfl))) (ja_cons (jd_var (pe_var (i := 2) rfl (.inl rfl))) (ja_cons (jd_var (pe_var (i := 3) rfl (.inl rfl))) (ja_cons (jd_var (pe_var (i := 4) rfl (.inl rfl))) ja_nil)))))) (jd_own (jl_lst ja_nil)) rfl)
  (js_cons (js_for (t := (.n 7)) PassesOwn.never rfl (ji_list (jd_fz (jl_sorted hr rfl G.sorted (jd_var (pe_var (i := 5) rfl (.inl rfl)))))) (pg_name (i := 7) nd rfl (.inr rfl)) (js_cons (js_setLcF (own := [("name", 9)]) (i := 8) rfl nd rfl rfl (sw_true rfl rfl rfl (by decide +kernel)) (ji_list (jd_var (pe_var (i := 5) rfl (.inl rfl)))) (blkOk_by (N := N_needed) (sc := (defScope s_needed)) (by decide +kernel)) (by decide) (fun _ _ _ _ _ => (pg_name (i := 9) nd rfl (.inl rfl))) (fun _ _ _ _ _ => (jts_one (jt_cmp (op_neD hr.units) od_ne (jd_var (pe_var (i := 9) rfl (.inl rfl))) (jd_var (pe_var (i := 7) rfl (.inr (.inl rfl)))) rfl))) (fun _ _ _ _ _ => (jd_var (pe_var (i := 9) rfl (.inl rfl)))))
  (js_one (js_if (PW.pt (jw_and (jt_cmp (op_notInA hr.u65) od_in (jd_var (pe_var (i := 7) rfl (.inr (.inl rfl)))) (jd_tup (ja_cons (jd_var (pe_var (i := 2) rfl (.inl rfl))) (ja_cons (jd_var (pe_var (i := 3) rfl (.inl rfl))) ja_nil))) rfl) (jw_and1 (jt_not (jt_val (jd_call0 h_together_by hr (by decide) rfl (ja_cons (jd_var (pe_var (i := 0) rfl (.inl rfl))) (ja_cons (jd_var (pe_var (i := 1) rfl (.inl rfl))) (ja_cons (jd_var (pe_var (i := 8) rfl (.inl rfl))) (ja_cons (jd_var (pe_var (i := 2) rfl (.inl rfl))) (ja_cons (jd_var (pe_var (i := 3) rfl (.inl rfl))) (ja_cons (jd_var (pe_var (i := 4) rfl (.inl rfl))) ja_nil)))))))))))) (js_one (js_expr (jm_append (jd_var (pe_var (i := 6) rfl (.inl rfl))) (jd_var (pe_var (i := 7) rfl (.inr (.inl rfl))))))) js_nil))))
  (js_one (js_ret (jd_tupleOf rfl G.tuple (jd_var (pe_var (i := 6) rfl (.inl rfl))))))))
end
end JR
set_option maxHeartbeats 1000000
/-! JS6: what the readings give: names, books. -/
namespace JR
open PySem PySem.Spec PyProof.Rows L2 JM PySem.W

theorem az_list : ("abcdefghijklmnopqrstuvwxyz" : Str).cps.toList = (List.range 26).map (· + 97) := by decide +kernel
theorem az_mem {c : Nat} : c ∈ ("abcdefghijklmnopqrstuvwxyz" : Str).cps.toList ↔ 97 ≤ c ∧ c ≤ 122 := by
  rw [az_list, List.mem_map]
  constructor
  · rintro ⟨i, hi, rfl⟩
    have := List.mem_range.mp hi
    omega
  · rintro ⟨h1, h2⟩
    exact ⟨c - 97, List.mem_range.mpr (by omega), by omega⟩
theorem name_ok {n : Str} (h : NameOk n) : PyData.strOk n = true := by
  unfold PyData.strOk
  rw [← Array.all_toList, List.all_eq_true]
  intro c hc
  have := (h.az c hc).2
  exact decide_eq_true (by omega)
theorem pd_name {k : Nat} {n : Str} (h : NameOk n) : Pd k (.str n) := pd_str (name_ok h)
theorem name_small {n : Str} (h : NameOk n) : n.length ≤ sizeLine := by
  have := h.le
  rw [sizeLine_eq]; omega
theorem eqv_str {a b : Str} (ha : NameOk a) (hb : NameOk b) : PyData.eqv (.str a) (.str b) = decide (a = b) := by
  rw [Bool.eq_iff_iff, pl_eqv _ _ (pd_name (k := 0) ha).1 (pd_name (k := 0) hb).1, PyData.str.injEq, decide_eq_true_iff]
theorem sh_str {n : Str} (h : NameOk n) : SeqAt.shaped (.str n) = true := pd_shaped (pd_name (k := 0) h) (by decide)
theorem sh_int (i : Int) : SeqAt.shaped (.int i) = true := pd_shaped (n := 0) (pd_int i) (by decide)
theorem eqv_int (i j : Int) : PyData.eqv (.int i) (.int j) = decide (i = j) := by
  rw [Bool.eq_iff_iff, pl_eqv _ _ (pd_int (n := 0) i).1 (pd_int (n := 0) j).1, PyData.int.injEq, decide_eq_true_iff]
theorem h_is_name : ∀ dvs R, sc_is_name dvs R → td_is_name (endsOf 0 R) (startD N_is_name.length dvs) [] := by
  rintro dvs R ⟨n, rfl, hn, h⟩
  have h1 := hn.ne
  have h2 := hn.le
  refine ⟨_, rfl, _, _, rfl, rfl, _, rfl, ?_⟩
  refine ⟨_, rfl, .inr ⟨_, rfl, name_small hn, _, _, rfl, rfl, _, rfl, ?_⟩⟩
  refine ifT (decide_eq_true (by omega)) ?_
  refine ⟨_, _, rfl, rfl, _, rfl, ?_⟩
  refine ifT (decide_eq_true (by omega)) ?_
  refine ⟨_, rfl, _, rfl, ?_⟩
  refine lc_all (fun c : Nat => PyData.str ⟨#[c]⟩) trivial n.cps.toList (by rw [Array.length_toList]; exact Nat.le_trans h2 (by decide)) (fun c hc R1 k1 => ?_) ?_
  · refine ⟨_, rfl, _, _, rfl, rfl, ?_⟩
    rw [decide_eq_true (az_mem.mpr (hn.az c hc))]; exact k1
  · refine ⟨_, rfl, rt0 ?_⟩
    rw [all_true]; exact h
theorem h_first_wrong : ∀ dvs R, sc_first_wrong dvs R → td_first_wrong (endsOf 0 R) (startD N_first_wrong.length dvs) [] := by
  rintro dvs R ⟨ts, b, rfl, hw, hb, h⟩
  have hl := hb.le
  refine ⟨_, rfl, _, rfl, ?_⟩
  rw [enum_map]
  refine forGo_inv _ (fun rem ρ μ => ∃ (ns : List Str) (a3 a4 a5 a6 : Option DV), ρ = [some (wld ts), some (.d (eB b)), some (.c 0), a3, a4, a5, a6] ∧ μ = [.k ns] ∧ ns ++ rem.map (·.1.1) = nmB b ∧ ∀ q ∈ rem, q.1 ∈ b ∧ q.2 < b.length)
    (fun _ _ _ _ => trivial) ?_ ?_ _ _ _ ⟨[], _, _, _, _, rfl, rfl, ?_, fun q hq => ?_⟩
  · rintro ρ μ ⟨ns, a3, a4, a5, a6, rfl, rfl, -⟩
    exact rt0 h
  · rintro ⟨q, i⟩ xs ρ μ K ⟨ns, a3, a4, a5, a6, rfl, rfl, e, hr⟩ hK
    obtain ⟨hq, hi⟩ := hr (q, i) (by simp)
    have hn := hb.nm q hq
    have hnd : q.1 ∉ ns := by
      have := hb.nd
      rw [← e, List.map_cons, List.nodup_append] at this
      exact fun hm => this.2.2 q.1 hm q.1 (by simp) rfl
    have hnl : ns.length < 4000 := by
      have := congrArg List.length e
      unfold nmB at this
      simp at this
      omega
    refine ⟨_, rfl, rfl, _, rfl, _, _, rfl, rfl, sh_int _, sh_int _, _, rfl, ?_⟩
    refine ifF (by rw [eqv_int]; refine decide_eq_false ?_; have : i < 24 := Nat.lt_of_lt_of_le hi hl; show ¬ ((i : Int) = 24); omega) ?_
    refine ⟨_, rfl, _, _, rfl, rfl, _, rfl, ?_⟩
    refine ⟨_, rfl, .inl ⟨_, rfl, _, _, rfl, rfl, sh_int _, sh_int _, _, rfl, ?_⟩⟩
    refine ifF (by rw [eqv_int]; rfl) ?_
    refine ⟨_, rfl, _, rfl, _, rfl, rfl, ?_⟩
    refine ⟨_, rfl, rfl, q.1, rfl, hn, _, rfl, ?_⟩
    refine ⟨_, rfl, _, rfl, 0, ns, q.1, rfl, rfl, rfl, _, rfl, ?_⟩
    refine ifF (decide_eq_false hnd) ?_
    refine ⟨_, rfl, _, rfl, rfl, ts, q.2, rfl, hw, hb.pt q hq, _, rfl, ?_⟩
    refine ifF rfl ?_
    refine ⟨_, rfl, ⟨_, _, rfl, rfl⟩, _, rfl, 0, ns, q.1, rfl, rfl, rfl, hnl, ?_⟩
    refine hK _ _ ⟨ns ++ [q.1], _, _, _, _, rfl, rfl, ?_, fun z hz => hr z (List.mem_cons_of_mem _ hz)⟩
    rw [← e, List.map_cons, List.append_assoc]; rfl
  · rw [List.nil_append]
    unfold nmB
    refine List.ext_getElem? fun i => ?_
    rw [List.getElem?_map, List.getElem?_map, List.getElem?_zipIdx]
    cases b[i]? <;> simp
  · obtain ⟨hi, e⟩ := List.mem_zipIdx' hq
    exact ⟨by rw [e]; exact List.getElem_mem hi, hi⟩
theorem h_check_book : ∀ dvs R, sc_check_book dvs R → td_check_book (endsOf 0 R) (startD N_check_book.length dvs) [] := by
  rintro dvs R ⟨ts, b, rfl, hw, hb, h⟩
  have hl := hb.le
  refine ⟨_, rfl, _, _, rfl, rfl, _, rfl, ?_⟩
  refine ⟨_, rfl, .inl ⟨_, rfl, _, _, rfl, rfl, _, rfl, ?_⟩⟩
  refine ifF (decide_eq_false (by rw [List.length_map]; omega)) ?_
  refine ⟨_, rfl, _, rfl, rfl, ts, b, rfl, hw, hb, ?_⟩
  exact ⟨_, rfl, _, rfl, rfl, _, rfl, ifF rfl (nx0 h)⟩
theorem filter_one {b : Bk} (h : (nmB b).Nodup) {n : Str} {p : Part} (hm : (n, p) ∈ b) : b.filter (fun q => decide (q.1 = n)) = [(n, p)] := by
  induction b with
  | nil => simp at hm
  | cons q b ih =>
    have h' := List.nodup_cons.mp (show (q.1 :: nmB b).Nodup from h)
    rcases List.mem_cons.mp hm with e | hm
    · subst e
      rw [List.filter_cons, if_pos (by simp), List.filter_eq_nil_iff.mpr fun q hq => ?_]
      simp only [decide_eq_true_eq]
      intro e
      exact h'.1 (by rw [← e]; exact List.mem_map.mpr ⟨q, hq, rfl⟩)
    · rw [List.filter_cons, if_neg, ih h'.2 hm]
      simp only [decide_eq_true_eq]
      intro e
      exact h'.1 (by rw [e]; exact List.mem_map.mpr ⟨(n, p), hm, rfl⟩)
theorem h_part_of : ∀ dvs R, sc_part_of dvs R → td_part_of (endsOf 0 R) (startD N_part_of.length dvs) [] := by
  rintro dvs R ⟨ts, b, n, p, rfl, hb, hm, h⟩
  have hl := hb.le
  have hn := hb.nm _ hm
  refine ⟨_, rfl, rfl, n, rfl, hn, _, rfl, ?_⟩
  refine ifF rfl ?_
  refine ⟨_, rfl, _, rfl, ?_⟩
  refine lcGo_fm eQ (fun q => decide (q.1 = n)) (fun q => eP q.2) trivial b [] (by simp; omega) (fun q hq R1 R2 k => ?_) ?_
  · refine ⟨_, rfl, rfl, _, rfl, _, rfl, _, _, rfl, rfl, sh_str (hb.nm q hq), sh_str hn, _, rfl, ?_⟩
    rw [eqv_str (hb.nm q hq) hn]
    by_cases e : q.1 = n
    · rw [if_pos (decide_eq_true e)] at k
      exact ifT (decide_eq_true e) ⟨_, rfl, k⟩
    · rw [if_neg (by simpa using e)] at k
      exact ifF (decide_eq_false e) k
  · rw [filter_one hb.nd hm, List.nil_append]
    refine ⟨_, rfl, _, rfl, by simp, _, _, rfl, rfl, pd_shaped (pd_list (n := 2) fun x hx => ?_) (by decide), pd_shaped (pd_list (n := 0) fun x hx => by simp at hx) (by decide), _, rfl, ?_⟩
    · have e : x = eP p := by simpa using hx
      rw [e]; exact pd_eP p
    refine ifF (by simp [PyData.eqv, PyData.eqvAll]) ?_
    exact ⟨_, rfl, _, _, _, rfl, rfl, atI_nat (j := 0) rfl, rt0 h⟩
theorem h_check_reach : ∀ dvs R, sc_check_reach dvs R → td_check_reach (endsOf 0 R) (startD N_check_reach.length dvs) [] := by
  rintro dvs R ⟨r, rfl, hr, h⟩
  exact ⟨_, rfl, rfl, r, 0, 48, rfl, by omega, by omega, _, rfl, ifF rfl (nx0 h)⟩
end JR
set_option maxHeartbeats 1000000
/-! JS7: what the readings give: what is closed. -/
namespace JR
open PySem PySem.Spec PyProof.Rows L2 JM PySem.W

theorem lOf_c {k : Nat} {μ : Sto} {ds : List PyData} (h : μ[k]? = some (.l ds)) : lOf (.c k) μ = some ds := by
  show (match μ[k]? with | some (.l ds) => some ds | _ => none) = _
  rw [h]
theorem eT_inj {a b : List Nat} : eT a = eT b ↔ a = b := by unfold eT; rw [PyData.tuple.injEq, map_eI_inj]
theorem map_eT_inj : ∀ {l m : List (List Nat)}, l.map eT = m.map eT ↔ l = m
  | [], [] => by simp
  | [], _ :: _ => by simp
  | _ :: _, [] => by simp
  | a :: l, b :: m => by rw [List.map_cons, List.map_cons, List.cons.injEq, List.cons.injEq, eT_inj, map_eT_inj]
theorem eP_inj {p q : Part} : eP p = eP q ↔ p = q := by unfold eP; rw [PyData.tuple.injEq, map_eT_inj]
theorem mem_eP {M : List Part} {p : Part} : eP p ∈ M.map eP ↔ p ∈ M := by
  rw [List.mem_map]
  exact ⟨fun ⟨j, hj, e⟩ => by rw [← eP_inj.mp e]; exact hj, fun h => ⟨p, h, rfl⟩⟩
theorem pd_ePs (M : List Part) : ∀ x ∈ M.map eP, Pd 2 x := fun x hx => by
  obtain ⟨p, _, rfl⟩ := List.mem_map.mp hx
  exact pd_eP p
theorem any_eP (M : List Part) (p : Part) : ((M.map eP).any fun z => PyData.eqv z (eP p)) = decide (p ∈ M) := by
  rw [Bool.eq_iff_iff, any_eqv (plA_iff.mpr fun x hx => (pd_ePs M x hx).1) (pd_eP p).1, mem_eP, decide_eq_true_iff]
theorem sh_ePs (M : List Part) : SeqAt.shaped (.list (M.map eP)) = true := pd_shaped (pd_list (pd_ePs M)) (by decide)
theorem alike_eI : ∀ (l m : List Nat), alikeAll (l.map eI) (m.map eI) = true
  | [], _ => by simp [alikeAll]
  | _ :: _, [] => by simp [alikeAll]
  | a :: l, b :: m => by
    rw [List.map_cons, List.map_cons, alikeAll, alike_eI l m]
    simp [alike, eI]
theorem alike_eT : ∀ (l m : List (List Nat)), alikeAll (l.map eT) (m.map eT) = true
  | [], _ => by simp [alikeAll]
  | _ :: _, [] => by simp [alikeAll]
  | a :: l, b :: m => by
    rw [List.map_cons, List.map_cons, alikeAll, alike_eT l m, Bool.and_true]
    show alike (.tuple (a.map eI)) (.tuple (b.map eI)) = true
    rw [alike, alike_eI]
theorem alike_eP (p q : Part) : alike (eP p) (eP q) = true := by
  unfold eP
  rw [alike, alike_eT]
theorem allAlike_eP (M : List Part) : AllAlike (M.map eP) := AllAlike.of alike_eP
theorem part_ne {ts : List (List Nat)} {p : Part} (hw : WOk ts) (hp : PartOk ts p) : ∃ b bs, p = b :: bs := by
  have := part_len hp
  have := hw.ne
  cases p with
  | nil => simp at *; omega
  | cons b bs => exact ⟨b, bs, rfl⟩
theorem sortable_eP {ts : List (List Nat)} {M : List Part} (hw : WOk ts) (h : AllOk ts M) : Sortable (M.map eP) := .inl fun d hd => by
  obtain ⟨p, hp, rfl⟩ := List.mem_map.mp hd
  obtain ⟨b, bs, e⟩ := part_ne hw (h p hp)
  rw [e]
  exact ⟨eT b, bs.map eT, rfl⟩
theorem perm_map {α β : Type} (f : α → β) {l m : List β} (h : l.Perm m) : ∀ {F : List α}, m = F.map f → ∃ M : List α, M.Perm F ∧ l = M.map f := by
  induction h with
  | nil =>
    intro F e
    exact ⟨F, List.Perm.refl _, e⟩
  | cons x h ih =>
    intro F e
    cases F with
    | nil => simp at e
    | cons a F =>
      rw [List.map_cons, List.cons.injEq] at e
      obtain ⟨M, p, e2⟩ := ih e.2
      exact ⟨a :: M, p.cons a, by rw [List.map_cons, ← e2, e.1]⟩
  | swap x y l =>
    intro F e
    cases F with
    | nil => simp at e
    | cons a F =>
      cases F with
      | nil => simp at e
      | cons b F =>
        rw [List.map_cons, List.map_cons, List.cons.injEq, List.cons.injEq] at e
        exact ⟨b :: a :: F, List.Perm.swap a b F, by rw [List.map_cons, List.map_cons, e.1, e.2.1, e.2.2]⟩
  | trans h1 h2 ih1 ih2 =>
    intro F e
    obtain ⟨M2, p2, e2⟩ := ih2 e
    obtain ⟨M1, p1, e1⟩ := ih1 e2
    exact ⟨M1, p1.trans p2, e1⟩
theorem fin_perm {ts : List (List Nat)} {ps F M : List Part} {r : Nat} (h : Fin ts ps r F) (p : M.Perm F) : Fin ts ps r M := by
  have okM : AllOk ts M := fun q hq => h.ok q (p.mem_iff.mp hq)
  refine ⟨okM, ?_, fun x hx => ?_, fun N ok ap c q hq => h.least N ok ap c q (p.mem_iff.mp hq)⟩
  · have sym : ∀ {a b : Part}, (PartOk ts a → PartOk ts b → r < farP ts a b) → (PartOk ts b → PartOk ts a → r < farP ts b a) := fun {a b} k hb ha => by rw [far_comm hb ha]; exact k ha hb
    have h1 : F.Pairwise fun a b => PartOk ts a → PartOk ts b → r < farP ts a b := h.apart.imp fun {a b} k _ _ => k
    have h2 := (List.Perm.pairwise_iff sym p).mpr h1
    exact h2.imp_of_mem fun {a b} ha hb k => k (okM a ha) (okM b hb)
  · obtain ⟨q, hq, s⟩ := h.cov x hx
    exact ⟨q, p.mem_iff.mpr hq, s⟩
theorem sorted_parts {ts : List (List Nat)} {ps F : List Part} {r : Nat} (h : Fin ts ps r F) (k : F.length < ps.length ∨ ps = F.reverse) : ∃ M, srt (F.map eP) = M.map eP ∧ Cl ts ps r M ∧ (M.length < ps.length ∨ M.Perm ps) := by
  obtain ⟨M, p, e⟩ := perm_map eP (srt_perm (F.map eP)) rfl
  refine ⟨M, e, ⟨fin_perm h p, by rw [← e]; exact srt_ups _⟩, ?_⟩
  rcases k with k | k
  · left; rw [p.length_eq]; exact k
  · right; rw [k]; exact p.trans (List.reverse_perm F).symm
theorem mid_few {ts : List (List Nat)} {ps W F : List Part} {r : Nat} (h : Mid ts ps r W F) : W.length + F.length ≤ ps.length := by
  rcases h.few with q | ⟨D, e, e2⟩
  · omega
  · rw [e, e2]; simp
theorem h_closed : ∀ dvs R, sc_closed dvs R → td_closed (endsOf 0 R) (startD N_closed.length dvs) [] := by
  rintro dvs R ⟨ts, ps, x, r, rfl, hx, hw, hps, hpl, h⟩
  have hseq : seqOf (.d x) [] = some (ps.map eP) := by rcases hx with rfl | rfl <;> rfl
  refine ⟨_, rfl, _, hseq, ?_⟩
  refine ⟨_, rfl, by simp, ?_⟩
  refine ⟨fun m ρ μ => ∃ (W F : List Part) (j : Nat) (a5 a6 a7 : Option DV), ρ = [some (wld ts), some (.d x), some (.d (eI r)), some (.c 0), some (.c j), a5, a6, a7] ∧ μ[0]? = some (.l (W.map eP)) ∧ μ[j]? = some (.l (F.map eP)) ∧ j ≠ 0 ∧ Mid ts ps r W F ∧ m = 2 * W.length + F.length,
    ⟨_, ps, [], 1, _, _, _, rfl, rfl, rfl, by simp, mid_start hps, rfl⟩, ?_⟩
  rintro m ρ μ ⟨W, F, j, a5, a6, a7, rfl, h0, hj, hj0, hM, rfl⟩
  have hfew := mid_few hM
  refine ⟨_, rfl, _, lOf_c h0, ?_⟩
  rcases List.eq_nil_or_concat W with rfl | ⟨W', p, eW⟩
  · refine ifF rfl ?_
    obtain ⟨hF, hk⟩ := mid_end hM
    obtain ⟨M, e, hC, hk2⟩ := sorted_parts hF hk
    refine ⟨_, rfl, _, lOf_c hj, allAlike_eP F, sortable_eP hw hM.okF, fun d hd => Nat.le_trans (pd_ePs F d hd).2 (by decide), ?_⟩
    refine ⟨_, rfl, rt0 ?_⟩
    rw [e]
    exact h M hC hk2
  · rw [List.concat_eq_append] at eW
    subst eW
    have okp := hM.okW p (by simp)
    refine ifT (by simp) ?_
    refine ⟨_, rfl, ⟨_, lOf_c h0⟩, 0, W'.map eP, eP p, rfl, rfl, by rw [h0]; simp, ?_⟩
    have hj1 : (μ.set 0 (.l (W'.map eP)))[j]? = some (.l (F.map eP)) := by rw [List.getElem?_set_ne (Ne.symm hj0)]; exact hj
    have h01 : (μ.set 0 (.l (W'.map eP)))[0]? = some (.l (W'.map eP)) := by
      have := (List.getElem?_eq_some_iff.mp h0).1
      rw [List.getElem?_set_self this]
    generalize μ.set 0 (.l (W'.map eP)) = μ1 at hj1 h01 ⊢
    have hFl : F.length ≤ 100 := by omega
    refine ⟨_, rfl, _, lOf_c hj1, ?_⟩
    refine lcGo_fm eP (fun o => decide (farP ts p o ≤ r)) eP (lOf_c hj1) F [] (by simp; omega) (fun o ho R1 R2 k => ?_) ?_
    · refine ⟨_, rfl, _, rfl, _, rfl, rfl, ts, p, o, rfl, hw, okp, hM.okF o ho, _, rfl, _, _, rfl, rfl, _, rfl, ?_⟩
      by_cases e : farP ts p o ≤ r
      · rw [if_pos (decide_eq_true e)] at k
        exact ifT (decide_eq_true (by omega)) ⟨_, rfl, k⟩
      · rw [if_neg (by simpa using e)] at k
        exact ifF (decide_eq_false (by omega)) k
    · rw [List.nil_append]
      have hnr : F.filter (fun o => decide (farP ts p o ≤ r)) = nearOf ts r p F := rfl
      rw [hnr]
      refine ⟨_, rfl, [], rfl, by simp, _, _, rfl, rfl, sh_ePs _, pd_shaped (n := 1) (pd_list (n := 0) fun x hx => by simp at hx) (by decide), _, rfl, ?_⟩
      by_cases hn : nearOf ts r p F = []
      · refine ifT (by rw [hn]; simp [PyData.eqv, PyData.eqvAll]) ?_
        refine ⟨_, rfl, ⟨_, lOf_c hj1⟩, _, rfl, j, _, _, rfl, rfl, hj1, by rw [List.length_map]; omega, ?_⟩
        refine ⟨2 * W'.length + (F ++ [p]).length, by simp; omega, W', F ++ [p], j, _, _, _, rfl, ?_, ?_, hj0, mid_found hM hn, rfl⟩
        · rw [List.getElem?_set_ne hj0]; exact h01
        · rw [List.getElem?_set_self (List.getElem?_eq_some_iff.mp hj1).1]; simp
      · obtain ⟨hM2, hlt⟩ := mid_merge hM hn
        refine ifF ?_ ?_
        · cases q : nearOf ts r p F with
          | nil => exact absurd q hn
          | cons a l => simp [PyData.eqv, PyData.eqvAll]
        refine ⟨_, rfl, _, lOf_c hj1, ?_⟩
        refine lcGo_fm eP (fun o => decide (¬ o ∈ nearOf ts r p F)) eP (lOf_c hj1) F [] (by simp; omega) (fun o ho R1 R2 k => ?_) ?_
        · refine ⟨_, rfl, _, rfl, _, _, rfl, rfl, pd_shaped (pd_eP o) (by decide), sh_ePs _, _, rfl, ?_⟩
          rw [any_eP]
          by_cases e : o ∈ nearOf ts r p F
          · rw [if_neg (by simpa using e)] at k
            exact ifF (by simp [e]) k
          · rw [if_pos (decide_eq_true e)] at k
            exact ifT (by simp [e]) ⟨_, rfl, k⟩
        · rw [List.nil_append]
          generalize hG : (F.filter fun o => decide (¬ o ∈ nearOf ts r p F)) = G at hM2 hlt ⊢
          refine ⟨_, rfl, _, rfl, ?_⟩
          refine forGo_inv eP (fun rem ρ μ => ∃ (q : Part) (a7 : Option DV), ρ = [some (wld ts), some (.d x), some (.d (eI r)), some (.c 0), some (.c μ1.length), some (.d (eP q)), some (.d (.list ((nearOf ts r p F).map eP))), a7] ∧ μ = μ1 ++ [.l (G.map eP)] ∧ rem.foldl (hullP ts) q = (nearOf ts r p F).foldl (hullP ts) p ∧ PartOk ts q ∧ AllOk ts rem)
            (fun _ _ _ _ => rfl) ?_ ?_ _ _ _ ⟨p, _, rfl, rfl, rfl, okp, fun o ho => hM.okF o (List.mem_filter.mp ho).1⟩
          · rintro ρ μ ⟨q, a7, rfl, rfl, e, -, -⟩
            have hl1 := (List.getElem?_eq_some_iff.mp h01).1
            have h02 : (μ1 ++ [Cell.l (G.map eP)])[0]? = some (.l (W'.map eP)) := by rw [List.getElem?_append_left hl1]; exact h01
            refine ⟨_, rfl, ⟨_, lOf_c h02⟩, _, rfl, 0, _, _, rfl, rfl, h02, by rw [List.length_map]; simp at hfew; omega, ?_⟩
            have e' : q = (nearOf ts r p F).foldl (hullP ts) p := e
            refine ⟨2 * (W' ++ [q]).length + G.length, by simp; omega, W' ++ [q], G, μ1.length, _, _, _, rfl, ?_, ?_, by omega, by rw [e']; exact hM2, rfl⟩
            · rw [List.getElem?_set_self (List.getElem?_eq_some_iff.mp h02).1]; simp
            · rw [List.getElem?_set_ne (by omega), List.getElem?_append_right (Nat.le_refl _), Nat.sub_self]; rfl
          · rintro o xs ρ μ K ⟨q, a7, rfl, rfl, e, okq, okr⟩ hK
            have oko := okr o (by simp)
            refine ⟨_, rfl, _, rfl, _, rfl, rfl, ts, q, o, rfl, hw, okq, oko, ?_⟩
            exact hK _ _ ⟨hullP ts q o, _, rfl, rfl, e, (hull_ok okq oko).1, fun z hz => okr z (List.mem_cons_of_mem _ hz)⟩
end JR
set_option maxHeartbeats 1000000
/-! JS8: what the readings give: stand, lots, together. -/
namespace JR
open PySem PySem.Spec PyProof.Rows L2 JM PySem.W

theorem psB_ok {ts : List (List Nat)} {b : Bk} (hb : BkOk ts b) : AllOk ts (psB b) := fun p hp => by
  obtain ⟨q, hq, rfl⟩ := List.mem_map.mp hp
  exact hb.pt q hq
theorem psB_len {ts : List (List Nat)} {b : Bk} (hb : BkOk ts b) : (psB b).length ≤ 24 := by unfold psB; rw [List.length_map]; exact hb.le
theorem psB_map (b : Bk) : (b.map fun q => eP q.2) = (psB b).map eP := by unfold psB; rw [List.map_map]; rfl
theorem cl_len {ps M : List Part} {n : Nat} (h : ps.length ≤ n) (k : M.length < ps.length ∨ M.Perm ps) : M.length ≤ n := by
  rcases k with k | k
  · omega
  · rw [k.length_eq]; exact h
theorem allAlike_str (l : List Str) : AllAlike (l.map .str) := AllAlike.of fun a b => by simp [alike]
theorem sortable_str (l : List Str) : Sortable (l.map .str) := Sortable.others fun b => ⟨by simp, fun xs => by simp⟩
theorem depth_str (l : List Str) : ∀ d ∈ l.map PyData.str, d.depth ≤ 60 := fun d hd => by
  obtain ⟨s, _, rfl⟩ := List.mem_map.mp hd
  simp [PyData.depth]
theorem h_lots_of : ∀ dvs R, sc_lots_of dvs R → td_lots_of (endsOf 0 R) (startD N_lots_of.length dvs) [] := by
  rintro dvs R ⟨ts, b, r, rfl, hw, hb, h⟩
  have hbl := hb.le
  have hpl := psB_len hb
  refine ⟨_, rfl, _, rfl, _, rfl, ?_⟩
  refine lcGo_map eQ (fun q => eP q.2) trivial b (by omega) (fun q hq R1 k => ⟨_, rfl, rfl, _, rfl, k⟩) ?_
  rw [psB_map b]
  refine ⟨_, rfl, rfl, ts, psB b, _, r, rfl, .inl rfl, hw, psB_ok hb, by omega, fun M hC hk => ?_⟩
  have hMl := cl_len hpl hk
  refine ⟨_, rfl, _, rfl, ?_⟩
  refine lcGo_map eP (eLot b) trivial M (by omega) (fun m hm R1 k => ?_) (rt0 (h M hC))
  refine ⟨_, rfl, _, rfl, _, rfl, ?_⟩
  refine lcGo_fm eQ (fun q => psubB q.2 m) (fun q => .str q.1) trivial b [] (by simp; omega) (fun q hq R2 R3 k2 => ?_) ?_
  · refine ⟨_, rfl, rfl, _, rfl, _, rfl, rfl, ts, q.2, m, rfl, hw, hb.pt q hq, hC.fin.ok m hm, _, rfl, ?_⟩
    cases e : psubB q.2 m with
    | true =>
      rw [e, if_pos rfl] at k2
      exact ifT rfl ⟨_, rfl, k2⟩
    | false =>
      rw [e, if_neg Bool.false_ne_true] at k2
      exact ifF rfl k2
  · have e : ([] ++ (b.filter fun q => psubB q.2 m).map fun q => PyData.str q.1) = (lotOf b m).map .str := by
      unfold lotOf
      rw [List.nil_append, List.map_map]; rfl
    rw [e]
    have hll : (lotOf b m).length ≤ 24 := by
      unfold lotOf
      rw [List.length_map]
      exact Nat.le_trans (List.length_filter_le ..) hbl
    refine ⟨_, rfl, allAlike_str _, sortable_str _, depth_str _, ?_⟩
    exact ⟨_, rfl, _, rfl, by simp, k⟩
theorem h_stand : ∀ dvs R, sc_stand dvs R → td_stand (endsOf 0 R) (startD N_stand.length dvs) [] := by
  rintro dvs R ⟨ts, b, r, rfl, hw, hb, hr, h⟩
  have hbl := hb.le
  have hpl := psB_len hb
  refine ⟨_, rfl, rfl, ts, rfl, ?_⟩
  refine ⟨_, rfl, _, rfl, rfl, ts, b, rfl, hw, hb, ?_⟩
  refine ⟨_, rfl, rfl, r, rfl, hr, ?_⟩
  refine ⟨_, rfl, _, rfl, _, rfl, ?_⟩
  refine lcGo_map eQ (fun q => eP q.2) trivial b (by omega) (fun q hq R1 k => ⟨_, rfl, rfl, _, rfl, k⟩) ?_
  rw [psB_map b]
  exact ⟨_, rfl, rfl, ts, psB b, _, r, rfl, .inl rfl, hw, psB_ok hb, by omega, fun M hC hk => rt0 (h M hC)⟩
theorem h_lots : ∀ dvs R, sc_lots dvs R → td_lots (endsOf 0 R) (startD N_lots.length dvs) [] := by
  rintro dvs R ⟨ts, b, r, rfl, hw, hb, hr, h⟩
  refine ⟨_, rfl, rfl, ts, rfl, ?_⟩
  refine ⟨_, rfl, _, rfl, rfl, ts, b, rfl, hw, hb, ?_⟩
  refine ⟨_, rfl, rfl, r, rfl, hr, ?_⟩
  refine ⟨_, rfl, _, rfl, _, rfl, rfl, ts, b, r, rfl, hw, hb, fun M hC => ?_⟩
  exact ⟨_, rfl, rt0 (h M hC)⟩
theorem h_together : ∀ dvs R, sc_together dvs R → td_together (endsOf 0 R) (startD N_together.length dvs) [] := by
  rintro dvs R ⟨ts, b, m, n, p, q, r, rfl, hw, hb, hm, hn, hr, h⟩
  have hbl := hb.le
  have hpl := psB_len hb
  refine ⟨_, rfl, rfl, ts, rfl, ?_⟩
  refine ⟨_, rfl, _, rfl, rfl, ts, b, rfl, hw, hb, ?_⟩
  refine ⟨_, rfl, _, rfl, _, rfl, by simp, _, rfl, ?_⟩
  refine lcGo_map (fun z : Str × Part => .str z.1) (fun z => eP z.2) trivial [(m, p), (n, q)] (by simp) (fun z hz R1 k => ?_) ?_
  · refine ⟨_, rfl, _, rfl, rfl, ts, b, z.1, z.2, rfl, hb, ?_, k⟩
    simp at hz
    rcases hz with rfl | rfl
    · exact hm
    · exact hn
  refine ⟨_, rfl, rfl, r, rfl, hr, ?_⟩
  refine ⟨_, rfl, _, rfl, _, rfl, ?_⟩
  refine lcGo_map eQ (fun q => eP q.2) trivial b (by omega) (fun q hq R1 k => ⟨_, rfl, rfl, _, rfl, k⟩) ?_
  rw [psB_map b]
  refine ⟨_, rfl, rfl, ts, psB b, _, r, rfl, .inl rfl, hw, psB_ok hb, by omega, fun M hC hk => ?_⟩
  have hMl := cl_len hpl hk
  refine ⟨_, rfl, _, rfl, ?_⟩
  refine lcGo_map eP (fun mm => .bool (psubB p mm && psubB q mm)) trivial M (by omega) (fun mm hmm R1 k => ?_) ?_
  · refine ⟨_, rfl, _, rfl, ?_⟩
    refine lcGo_map eP (fun o => .bool (psubB o mm)) (by rfl) [p, q] (by simp) (fun o ho R2 k2 => ?_) ?_
    · refine ⟨_, rfl, _, rfl, rfl, ts, o, mm, rfl, hw, ?_, hC.fin.ok mm hmm, k2⟩
      simp at ho
      rcases ho with rfl | rfl
      · exact hb.pt _ hm
      · exact hb.pt _ hn
    · refine ⟨[psubB p mm, psubB q mm], rfl, ?_⟩
      have e : [psubB p mm, psubB q mm].all id = (psubB p mm && psubB q mm) := by simp
      rw [e]; exact k
  · refine ⟨M.map fun mm => psubB p mm && psubB q mm, ?_, rt0 ?_⟩
    · rw [List.map_map]; rfl
    · rw [List.any_map]; exact h M hC
end JR
set_option maxHeartbeats 1000000
/-! JS9: what the readings give: rungs. -/
namespace JR
open PySem PySem.Spec PyProof.Rows L2 JM PySem.W

theorem dist_max {t : List Nat} (x y : Nat) : dist t x y ≤ max x y := by
  refine ind2 t (M := fun x y => dist t x y ≤ max x y) (fun x => ?_) (fun x y h ih => ?_) (fun x y h ih => ?_) x y
  · rw [dist_self]; exact Nat.zero_le _
  · have := pr_lt (t := t) (x := y) (by omega)
    rw [dist_lt h]; omega
  · have := pr_lt (t := t) (x := x) (by omega)
    rw [dist_gt h]; omega
theorem far_le : ∀ {ts : List (List Nat)} {p q : Part}, (∀ t ∈ ts, TOk t) → PartOk ts p → PartOk ts q → farP ts p q ≤ 11 * ts.length
  | [], p, q, _, _, _ => by unfold farP; exact Nat.zero_le _
  | t :: ts, b :: bs, c :: cs, ht, h, k => by
    have ih := far_le (fun u hu => ht u (List.mem_cons_of_mem _ hu)) h.2 k.2
    obtain ⟨x, hx, y, hy, e⟩ := gap_at (t := t) h.1.ne k.1.ne
    have m := dist_max (t := t) x y
    have a1 := h.1.le x hx
    have a2 := k.1.le y hy
    have a3 := (ht t (by simp)).2
    show gapB t b c + farP ts bs cs ≤ 11 * (ts.length + 1)
    omega
  | _ :: _, [], _, _, h, _ => h.elim
  | _ :: _, _ :: _, [], _, _, k => k.elim
theorem scGo_map {α : Type} {t : Tg} {te : TD} {ρw : Env} {stay : Sto → Prop} {R : List Int → Sto → Prop} {μ : Sto} (en : α → PyData) (f : α → Int) (hst : stay μ) : ∀ (xs : List α) (acc : List Int), acc.length + xs.length ≤ 4000 →
    (∀ x ∈ xs, ∀ (R1 : DV → Sto → Prop), R1 (.d (.int (f x))) μ → tgD t (en x) ρw fun ρ1 => te ρ1 μ R1) → R (acc ++ xs.map f) μ → scGo t tdYes te ρw stay R (xs.map en) acc μ
  | [], acc, _, _, h => ⟨hst, by simpa using h⟩
  | x :: xs, acc, hl, hx, h => by
    have hl2 : acc.length + (xs.length + 1) ≤ 4000 := by simpa using hl
    refine ⟨hst, tgD_mono (fun ρ1 z => ?_) (hx x (by simp) (fun dv μ3 => ∃ c : Int, dv = .d (.int c) ∧ acc.length < 4000 ∧ scGo t tdYes te ρw stay R (xs.map en) (acc ++ [c]) μ3) ⟨_, rfl, by omega, scGo_map en f hst xs _ (by rw [List.length_append, List.length_singleton]; omega) (fun y hy => hx y (List.mem_cons_of_mem _ hy)) (by rw [List.append_assoc]; simpa using h)⟩)⟩
    exact iteT (B := scGo t tdYes te ρw stay R (xs.map en) acc μ) z
theorem sc2Go_map {α : Type} {t t1 : Tg} {tt1 : TTd} {wd1 : TId} {te : TD} {ρw : Env} {vs1 : List Nat} {stay : Sto → Prop} {R : List Int → Sto → Prop} {μ : Sto} (en : α → PyData) (F : α → List Int) (m : Nat) (hst : stay μ) : ∀ (xs : List α) (acc : List Int), (∀ x ∈ xs, (F x).length ≤ m) → acc.length + m * xs.length ≤ 4000 →
    (∀ x ∈ xs, ∀ (acc : List Int) (R1 : List Int → Sto → Prop), acc.length + (F x).length ≤ 4000 → R1 (acc ++ F x) μ → tgD t (en x) ρw fun ρ1 => wd1 ρ1 μ fun items1 stay1 μ3 => scGo t1 tt1 te (wipeD ρ1 vs1) stay1 R1 items1 acc μ3) →
    R (acc ++ xs.flatMap F) μ → sc2Go t tdYes wd1 t1 tt1 te ρw vs1 stay R (xs.map en) acc μ
  | [], acc, _, _, _, h => ⟨hst, by simpa using h⟩
  | x :: xs, acc, hm, hl, hx, h => by
    have hmx := hm x (by simp)
    have hl2 : acc.length + m * (xs.length + 1) ≤ 4000 := by simpa using hl
    rw [Nat.mul_add, Nat.mul_one] at hl2
    refine ⟨hst, tgD_mono (fun ρ1 z => ?_) (hx x (by simp) acc (sc2Go t tdYes wd1 t1 tt1 te ρw vs1 stay R (xs.map en)) (by omega) (sc2Go_map en F m hst xs _ (fun y hy => hm y (List.mem_cons_of_mem _ hy)) (by rw [List.length_append]; omega) (fun y hy => hx y (List.mem_cons_of_mem _ hy)) (by rw [List.append_assoc]; simpa using h)))⟩
    exact iteT (B := sc2Go t tdYes wd1 t1 tt1 te ρw vs1 stay R (xs.map en) acc μ) z
/-- all the ways between two of M -/
def farsI (ts : List (List Nat)) (M : List Part) : List Int := M.zipIdx.flatMap fun z => (M.take z.2).map fun o => ((farP ts z.1 o : Nat) : Int)
theorem fars_mem {ts : List (List Nat)} {M : List Part} {k : Int} : k ∈ farsI ts M ↔ ∃ (i j : Nat) (p q : Part), i < j ∧ M[i]? = some p ∧ M[j]? = some q ∧ k = ((farP ts q p : Nat) : Int) := by
  unfold farsI
  rw [List.mem_flatMap]
  constructor
  · rintro ⟨z, hz, hk⟩
    obtain ⟨o, ho, rfl⟩ := List.mem_map.mp hk
    obtain ⟨i, hi, e⟩ := List.getElem_of_mem ho
    obtain ⟨hj, e2⟩ := List.mem_zipIdx' hz
    have hi2 : i < z.2 := by simp at hi; omega
    refine ⟨i, z.2, o, z.1, hi2, ?_, by rw [List.getElem?_eq_getElem hj, e2], rfl⟩
    rw [List.getElem_take] at e
    rw [← e]
    exact List.getElem?_eq_getElem _
  · rintro ⟨i, j, p, q, hij, hi, hj, rfl⟩
    refine ⟨(q, j), List.mem_zipIdx_iff_getElem?.mpr hj, List.mem_map.mpr ⟨p, ?_, rfl⟩⟩
    have : (M.take j)[i]? = some p := by rw [List.getElem?_take, if_pos hij]; exact hi
    exact List.mem_of_getElem? this
theorem h_rungs : ∀ dvs R, sc_rungs dvs R → td_rungs (endsOf 0 R) (startD N_rungs.length dvs) [] := by
  rintro dvs R ⟨ts, b, rfl, hw, hb, h⟩
  have hbl := hb.le
  have hpl := psB_len hb
  refine ⟨_, rfl, _, rfl, _, rfl, ?_⟩
  refine lcGo_map eQ (fun q => eP q.2) trivial b (by omega) (fun q hq R1 k => ⟨_, rfl, rfl, _, rfl, k⟩) ?_
  rw [psB_map b]
  refine ⟨_, rfl, rfl, ts, psB b, _, 0, rfl, .inr rfl, hw, psB_ok hb, by omega, fun M hC hk => ?_⟩
  have hMl := cl_len hpl hk
  refine ⟨rfl, by simp, ?_⟩
  refine ⟨_, rfl, _, rfl, _, rfl, by simp, _, rfl, by simp, ?_⟩
  refine ⟨fun m ρ μ => ∃ (r : Nat) (M : List Part) (pre : List Rung) (a5 a6 a7 a8 a9 a10 : Option DV), ρ = [some (wld ts), some (.d (eB b)), some (.d (eI r)), some (.d (eM M)), some (.c 0), a5, a6, a7, a8, a9, a10] ∧ μ = [.l ((pre ++ [(r, M)]).map eR)] ∧ (∃ ps, Cl ts ps r M) ∧ M.length = m ∧ (∀ L, Rs ts r M L → L.length ≤ m + 1 → (∀ x ∈ L, x.2.length ≤ 24) → R (.list ((pre ++ L).map eR))) ∧ pre.length + m ≤ 24,
    ⟨_, 0, M, [], _, _, _, _, _, _, rfl, rfl, ⟨_, hC⟩, rfl, fun L hL h1 h2 => h L ⟨M, hC, hL⟩ (by omega) h2, by simp; omega⟩, ?_⟩
  clear hC hk hMl
  rintro m ρ μ ⟨r, M, pre, a5, a6, a7, a8, a9, a10, rfl, rfl, ⟨ps, hC⟩, rfl, hL, hpm⟩
  refine ⟨_, rfl, .inl ⟨_, rfl, _, _, rfl, rfl, _, rfl, ?_⟩⟩
  by_cases h1 : 1 < M.length
  · refine ifT (decide_eq_true (by rw [List.length_map]; omega)) ?_
    have okM := hC.fin.ok
    have hts := hw.le
    have far44 : ∀ p ∈ M, ∀ q ∈ M, farP ts p q ≤ 44 := fun p hp q hq => by
      have := far_le hw.tree (okM p hp) (okM q hq)
      omega
    refine ⟨_, rfl, _, rfl, ?_⟩
    rw [enum_map]
    refine sc2Go_map (fun z : Part × Nat => PyData.tuple [.int (z.2 : Nat), eP z.1]) (fun z => (M.take z.2).map fun o => ((farP ts z.1 o : Nat) : Int)) 24 trivial M.zipIdx [] (fun z hz => by simp; omega) (by simp; omega) (fun z hz acc R1 hacc k => ?_) ?_
    · obtain ⟨hj, e2⟩ := List.mem_zipIdx' hz
      have hz1 : z.1 ∈ M := by rw [e2]; exact List.getElem_mem hj
      refine ⟨_, rfl, rfl, _, rfl, _, rfl, _, rfl, _, rfl, _, rfl, ?_⟩
      have ec : cutD (M.map eP) none (some ((z.2 : Nat) : Int)) = (M.take z.2).map eP := by
        rw [cut_take _ _ (by rw [List.length_map]; omega), List.map_take]
      rw [ec]
      refine scGo_map eP (fun o => ((farP ts z.1 o : Nat) : Int)) trivial (M.take z.2) acc (by rw [List.length_map] at hacc; exact hacc) (fun o ho R2 k2 => ?_) k
      have ho' : o ∈ M := List.mem_of_mem_take ho
      exact ⟨_, rfl, _, rfl, _, rfl, rfl, ts, z.1, o, rfl, hw, okM _ hz1, okM _ ho', k2⟩
    · rw [List.nil_append]
      show fSortedS (.s (farsI ts M)) _ _
      refine ⟨_, (List.range 45).map fun n : Nat => (n : Int), rfl, by simp, fun k hk => ?_, fun ns hns => ?_⟩
      · obtain ⟨i, j, p, q, hij, hi, hj, rfl⟩ := fars_mem.mp hk
        have := far44 q (List.mem_of_getElem? hj) p (List.mem_of_getElem? hi)
        exact List.mem_map.mpr ⟨_, List.mem_range.mpr (by omega), rfl⟩
      · have h01 : ((farP ts M[1] M[0] : Nat) : Int) ∈ farsI ts M := fars_mem.mpr ⟨0, 1, M[0], M[1], by omega, List.getElem?_eq_getElem _, List.getElem?_eq_getElem _, rfl⟩
        cases ns with
        | nil => exact absurd ((hns.2 _).mpr h01) (by simp)
        | cons n0 ns =>
          obtain ⟨i, j, p, q, hij, hi, hj, e0⟩ := fars_mem.mp ((hns.2 n0).mp (by simp))
          have hp := List.mem_of_getElem? hi
          have hq := List.mem_of_getElem? hj
          have hleast : LeastR ts M (farP ts q p) := by
            refine ⟨⟨i, j, p, q, hij, hi, hj, rfl⟩, fun i' j' p' q' hij' hi' hj' => ?_⟩
            have hm := (hns.2 _).mpr (fars_mem.mpr ⟨i', j', p', q', hij', hi', hj', rfl⟩)
            rcases List.mem_cons.mp hm with e | e
            · omega
            · have := (List.pairwise_cons.mp hns.1).1 _ e
              omega
          have hnsl : ns.length ≤ 10000 := by
            have q1 : (n0 :: ns).Nodup := hns.1.imp fun {a b} hab => by omega
            have q2 := rise_nat (b := (List.range 45).filter fun n => decide ((n : Int) ∈ n0 :: ns)) hns.1 (List.Pairwise.filter _ List.pairwise_lt_range) fun k => by
              constructor
              · intro hk
                obtain ⟨i', j', p', q', _, hi', hj', rfl⟩ := fars_mem.mp ((hns.2 k).mp hk)
                have := far44 q' (List.mem_of_getElem? hj') p' (List.mem_of_getElem? hi')
                exact ⟨_, List.mem_filter.mpr ⟨List.mem_range.mpr (by omega), decide_eq_true hk⟩, rfl⟩
              · rintro ⟨n, hn, rfl⟩
                exact of_decide_eq_true (List.mem_filter.mp hn).2
            have q3 := congrArg List.length q2
            rw [List.length_map] at q3
            have q4 := List.length_filter_le (fun n : Nat => decide ((n : Int) ∈ n0 :: ns)) (List.range 45)
            rw [List.length_range] at q4
            rw [List.length_cons] at q3
            omega
          refine ⟨.int n0, ns.map .int, rfl, by rw [List.length_map]; exact hnsl, ?_⟩
          rw [e0]
          refine ⟨_, rfl, _, rfl, _, rfl, rfl, ts, M, _, farP ts q p, rfl, .inr rfl, hw, okM, by omega, fun M1 hC1 hk1 => ?_⟩
          have hlt : M1.length < M.length := by
            rcases hk1 with e | e
            · exact e
            · have hq1 := e.mem_iff.mpr hq
              have hp1 := e.mem_iff.mpr hp
              have eqp := apart_two hC1.fin.apart hC1.fin.ok hq1 hp1 (Nat.le_refl _)
              have hnd := apart_nodup hC.fin.apart hC.fin.ok
              obtain ⟨l1, w1⟩ := List.getElem?_eq_some_iff.mp hi
              obtain ⟨l2, w2⟩ := List.getElem?_eq_some_iff.mp hj
              have := (List.getElem_inj hnd).mp (w1.trans (eqp.symm.trans w2.symm))
              omega
          refine ⟨_, rfl, ⟨_, rfl⟩, _, rfl, _, rfl, _, rfl, by simp, 0, _, eR (farP ts q p, M1), rfl, rfl, rfl, by simp; omega, ?_⟩
          refine ⟨M1.length, hlt, farP ts q p, M1, pre ++ [(r, M)], _, _, _, _, _, _, rfl, ?_, ⟨_, hC1⟩, rfl, fun L hRs hl1 hl2 => ?_, by simp; omega⟩
          · simp [eR]
          · have := hL ((r, M) :: L) (.step h1 hleast hC1 hRs) (by rw [List.length_cons]; omega) fun x hx => by
              rcases List.mem_cons.mp hx with e | e
              · rw [e]; show M.length ≤ 24; omega
              · exact hl2 x e
            simpa using this
  · refine ifF (decide_eq_false (by rw [List.length_map]; omega)) ?_
    exact ⟨_, rfl, 0, _, rfl, rfl, rt0 (hL [(r, M)] (.last (by omega)) (by simp) fun x hx => by simp at hx; rw [hx]; show M.length ≤ 24; omega)⟩
end JR
set_option maxHeartbeats 1000000
/-! JS10: what the readings give: meeting, ladder. -/
namespace JR
open PySem PySem.Spec PyProof.Rows L2 JM PySem.W

theorem rs_top {ts : List (List Nat)} {r : Nat} {M : List Part} {L : List Rung} (h : Rs ts r M L) {p q : Part} : Cov M p → Cov M q → ∃ x ∈ L, ∃ m ∈ x.2, PSub p m ∧ PSub q m := by
  induction h with
  | @last r M h =>
    rintro ⟨m, hm, hp⟩ ⟨m', hm', hq⟩
    refine ⟨(r, M), by simp, m, hm, hp, ?_⟩
    have e : m = m' := by
      match M, h, hm, hm' with
      | [x], _, hm, hm' => simp at hm hm'; rw [hm, hm']
    rw [e]; exact hq
  | step h hr hM t ih =>
    intro hp hq
    obtain ⟨x, hx, w⟩ := ih (cov_trans hM.fin.cov hp) (cov_trans hM.fin.cov hq)
    exact ⟨x, List.mem_cons_of_mem _ hx, w⟩
theorem rs_ok {ts : List (List Nat)} {r : Nat} {M : List Part} {L : List Rung} (h : Rs ts r M L) : AllOk ts M → ∀ x ∈ L, AllOk ts x.2 := by
  induction h with
  | @last r M h =>
    intro ok x hx
    have e : x = (r, M) := by simpa using hx
    rw [e]; exact ok
  | step h hr hM t ih =>
    intro ok x hx
    rcases List.mem_cons.mp hx with e | hx
    · rw [e]; exact ok
    · exact ih hM.fin.ok x hx
theorem min_eI {N : List Nat} {d : PyData} {ds : List PyData} (h : d :: ds = N.map eI) : minD d ds = eI (minL N) := by
  obtain ⟨h1, h2⟩ := minD_spec ds d
  rw [h] at h1 h2
  obtain ⟨k, hk, e⟩ := List.mem_map.mp h1
  have hne : N ≠ [] := List.ne_nil_of_mem hk
  have g1 := minL_le hk
  have g2 := h2 (eI (minL N)) (List.mem_map.mpr ⟨_, minL_mem hne, rfl⟩)
  rw [← e] at g2 ⊢
  unfold eI at g2
  rw [dataLt_int] at g2
  have := of_decide_eq_false g2
  rw [eI_inj]; omega
def bothB (p q m : Part) : Bool := psubB p m && psubB q m
theorem h_meeting : ∀ dvs R, sc_meeting dvs R → td_meeting (endsOf 0 R) (startD N_meeting.length dvs) [] := by
  rintro dvs R ⟨ts, b, m, n, p, q, rfl, hw, hb, hm, hn, h⟩
  refine ⟨_, rfl, rfl, ts, rfl, ?_⟩
  refine ⟨_, rfl, _, rfl, rfl, ts, b, rfl, hw, hb, ?_⟩
  refine ⟨_, rfl, _, rfl, _, rfl, by simp, _, rfl, ?_⟩
  refine lcGo_map (fun z : Str × Part => .str z.1) (fun z => eP z.2) trivial [(m, p), (n, q)] (by simp) (fun z hz R1 k => ?_) ?_
  · refine ⟨_, rfl, _, rfl, rfl, ts, b, z.1, z.2, rfl, hb, ?_, k⟩
    simp at hz
    rcases hz with rfl | rfl
    · exact hm
    · exact hn
  refine ⟨_, rfl, _, rfl, rfl, ts, b, rfl, hw, hb, fun L hL hl1 hl2 => ?_⟩
  have hok : ∀ x ∈ L, AllOk ts x.2 := by
    obtain ⟨M, hC, hR⟩ := hL
    exact rs_ok hR hC.fin.ok
  have htop : ∃ x ∈ L, ∃ mm ∈ x.2, PSub p mm ∧ PSub q mm := by
    obtain ⟨M, hC, hR⟩ := hL
    exact rs_top hR (hC.fin.cov p (List.mem_map.mpr ⟨_, hm, rfl⟩)) (hC.fin.cov q (List.mem_map.mpr ⟨_, hn, rfl⟩))
  refine ⟨_, rfl, ?_⟩
  refine lc2Go_app eR (fun x => (x.2.filter (bothB p q)).map fun _ => eI x.1) 24 (by rfl) L [] (fun x hx => by rw [List.length_map]; exact Nat.le_trans (List.length_filter_le ..) (hl2 x hx)) (by simp; omega) (fun x hx acc R1 hacc k => ?_) ?_
  · refine ⟨_, rfl, rfl, _, rfl, _, rfl, ?_⟩
    refine lcGo_fm eP (bothB p q) (fun _ => eI x.1) trivial x.2 acc (by have := hl2 x hx; omega) (fun mm hmm R2 R3 k2 => ?_) k
    · refine ⟨_, rfl, _, rfl, ?_⟩
      refine lcGo_map eP (fun o => .bool (psubB o mm)) (by rfl) [p, q] (by simp) (fun o ho R4 k4 => ?_) ?_
      · refine ⟨_, rfl, _, rfl, rfl, ts, o, mm, rfl, hw, ?_, hok x hx mm hmm, k4⟩
        simp at ho
        rcases ho with rfl | rfl
        · exact hb.pt _ hm
        · exact hb.pt _ hn
      · refine ⟨[psubB p mm, psubB q mm], rfl, _, rfl, ?_⟩
        have e : [psubB p mm, psubB q mm].all id = bothB p q mm := by simp [bothB]
        rw [e]
        cases e2 : bothB p q mm with
        | true =>
          rw [e2, if_pos rfl] at k2
          exact ifT rfl ⟨_, rfl, k2⟩
        | false =>
          rw [e2, if_neg Bool.false_ne_true] at k2
          exact ifF rfl k2
  · rw [List.nil_append]
    have eN : (L.flatMap fun x => (x.2.filter (bothB p q)).map fun _ => eI x.1) = (L.flatMap fun x => (x.2.filter (bothB p q)).map fun _ => x.1).map eI := by
      rw [List.map_flatMap]
      congr 1
      funext x
      rw [List.map_map]; rfl
    rw [eN]
    obtain ⟨x, hx, mm, hmm, s1, s2⟩ := htop
    have hne : (L.flatMap fun x => (x.2.filter (bothB p q)).map fun _ => x.1) ≠ [] := List.ne_nil_of_mem (a := x.1) (List.mem_flatMap.mpr ⟨x, hx, List.mem_map.mpr ⟨mm, List.mem_filter.mpr ⟨hmm, by unfold bothB; rw [psubB_iff.mpr s1, psubB_iff.mpr s2]; rfl⟩, rfl⟩⟩)
    have hmeet : minL (L.flatMap fun x => (x.2.filter (bothB p q)).map fun _ => x.1) = meetN L p q := rfl
    generalize (L.flatMap fun x => (x.2.filter (bothB p q)).map fun _ => x.1) = N at hne hmeet ⊢
    obtain ⟨d, ds, hds⟩ := List.exists_cons_of_ne_nil (l := N.map eI) (by simpa using hne)
    refine ⟨d, ds, by rw [hds]; rfl, ⟨fun u hu v hv => ?_, fun u hu => ?_⟩, ?_, rt0 ?_⟩
    · rw [← hds] at hu hv
      obtain ⟨i, _, rfl⟩ := List.mem_map.mp hu
      obtain ⟨j, _, rfl⟩ := List.mem_map.mp hv
      simp [alike, eI]
    · rw [← hds] at hu
      obtain ⟨i, _, rfl⟩ := List.mem_map.mp hu
      simp [eI]
    · rw [← hds]
      exact depthAll_le fun u hu => (pd_eIs N u hu).2
    · rw [min_eI hds.symm, hmeet]
      exact h L hL
theorem h_ladder : ∀ dvs R, sc_ladder dvs R → td_ladder (endsOf 0 R) (startD N_ladder.length dvs) [] := by
  rintro dvs R ⟨ts, b, rfl, hw, hb, h⟩
  refine ⟨_, rfl, rfl, ts, rfl, ?_⟩
  refine ⟨_, rfl, _, rfl, rfl, ts, b, rfl, hw, hb, ?_⟩
  exact ⟨_, rfl, _, rfl, rfl, ts, b, rfl, hw, hb, fun L hL _ _ => ⟨_, rfl, rt0 (h L hL)⟩⟩
end JR
set_option maxHeartbeats 1000000
/-! JS11: what the readings give: together by some, needed. -/
namespace JR
open PySem PySem.Spec PyProof.Rows L2 JM PySem.W

theorem str_inj {a b : Str} : PyData.str a = PyData.str b ↔ a = b := by rw [PyData.str.injEq]
theorem mem_str {l : List Str} {s : Str} : PyData.str s ∈ l.map PyData.str ↔ s ∈ l := by
  rw [List.mem_map]
  exact ⟨fun ⟨j, hj, e⟩ => by rw [← str_inj.mp e]; exact hj, fun h => ⟨s, h, rfl⟩⟩
theorem pd_strs {k : Nat} {l : List Str} (h : ∀ s ∈ l, NameOk s) : ∀ x ∈ l.map PyData.str, Pd k x := fun x hx => by
  obtain ⟨s, hs, rfl⟩ := List.mem_map.mp hx
  exact pd_name (h s hs)
theorem any_str {l : List Str} (h : ∀ s ∈ l, NameOk s) {s : Str} (hs : NameOk s) : ((l.map PyData.str).any fun z => PyData.eqv z (.str s)) = decide (s ∈ l) := by
  rw [Bool.eq_iff_iff, any_eqv (plA_iff.mpr fun x hx => (pd_strs (k := 0) h x hx).1) (pd_name (k := 0) hs).1, mem_str, decide_eq_true_iff]
theorem sh_strs {l : List Str} (h : ∀ s ∈ l, NameOk s) : SeqAt.shaped (.list (l.map .str)) = true := pd_shaped (pd_list (pd_strs (k := 1) h)) (by decide)
theorem nmB_ok {ts : List (List Nat)} {b : Bk} (hb : BkOk ts b) : ∀ s ∈ nmB b, NameOk s := fun s hs => by
  obtain ⟨q, hq, rfl⟩ := List.mem_map.mp hs
  exact hb.nm q hq
def kvOf (b : Bk) : List (Str × PyData) := b.map fun q => (q.1, eP q.2)
theorem dcGo_fm {t : Tg} {tt : TTd} {tk te : TD} {ρw : Env} {stay : Sto → Prop} {R : List (Str × PyData) → Sto → Prop} {μ : Sto} (p : Str × Part → Bool) (hst : stay μ) : ∀ (xs acc : Bk), (nmB (acc ++ xs)).Nodup → acc.length + xs.length ≤ 1000 →
    (∀ x ∈ xs, ∀ (R1 : Str → PyData → Sto → Prop) (R2 : Sto → Prop), (if p x = true then R1 x.1 (eP x.2) μ else R2 μ) → tgD t (eQ x) ρw fun ρ1 => tt ρ1 μ fun b μ2 => if b = true then tk ρ1 μ2 fun kv μ3 => te ρ1 μ3 fun dv μ4 => ∃ z d, kv = .d (.str z) ∧ dv = .d d ∧ R1 z d μ4 else R2 μ2) →
    R (kvOf (acc ++ xs.filter p)) μ → dcGo t tt tk te ρw stay R (xs.map eQ) (kvOf acc) μ
  | [], acc, _, _, _, h => ⟨hst, by simpa using h⟩
  | x :: xs, acc, hn, hl, hx, h => by
    have hl2 : acc.length + (xs.length + 1) ≤ 1000 := by simpa using hl
    have hn2 : (nmB ((acc ++ [x]) ++ xs)).Nodup := by rw [List.append_assoc]; exact hn
    have hx2 : ∀ q ∈ kvOf acc, q.1 ≠ x.1 := fun q hq e => by
      obtain ⟨z, hz, rfl⟩ := List.mem_map.mp hq
      have : (acc.map (·.1) ++ (x :: xs).map (·.1)).Nodup := by rw [← List.map_append]; exact hn
      rw [List.nodup_append] at this
      exact this.2.2 z.1 (List.mem_map.mpr ⟨z, hz, rfl⟩) x.1 (by simp) e
    have hn3 : (nmB (acc ++ xs)).Nodup := by
      refine List.Nodup.sublist ?_ hn
      unfold nmB
      exact List.Sublist.map _ (List.Sublist.append (List.Sublist.refl _) (List.sublist_cons_self ..))
    refine ⟨hst, tgD_mono (fun ρ1 z => ?_) (hx x (by simp) (fun z d μ4 => (kvOf acc).length < 100000 ∧ (∀ q ∈ kvOf acc, q.1 ≠ z) ∧ dcGo t tt tk te ρw stay R (xs.map eQ) (kvOf acc ++ [(z, d)]) μ4) (dcGo t tt tk te ρw stay R (xs.map eQ) (kvOf acc)) ?_)⟩
    · exact z
    · by_cases hp : p x = true
      · rw [if_pos hp]
        refine ⟨by unfold kvOf; rw [List.length_map]; omega, hx2, ?_⟩
        have e : kvOf acc ++ [(x.1, eP x.2)] = kvOf (acc ++ [x]) := by unfold kvOf; rw [List.map_append]; rfl
        rw [e]
        refine dcGo_fm p hst xs (acc ++ [x]) hn2 (by rw [List.length_append, List.length_singleton]; omega) (fun y hy => hx y (List.mem_cons_of_mem _ hy)) ?_
        rw [List.filter_cons, if_pos hp] at h
        rw [List.append_assoc]; exact h
      · rw [if_neg hp]
        refine dcGo_fm p hst xs acc hn3 (by omega) (fun y hy => hx y (List.mem_cons_of_mem _ hy)) ?_
        rw [List.filter_cons, if_neg hp] at h
        exact h
theorem get_kv : ∀ {b : Bk}, (nmB b).Nodup → ∀ {n : Str} {p : Part}, (n, p) ∈ b → getD (kvOf b) n = some (eP p)
  | [], _, n, p, h => by simp at h
  | q :: b, hd, n, p, h => by
    have hd' := List.nodup_cons.mp (show (q.1 :: nmB b).Nodup from hd)
    show (if q.1 = n then some (eP q.2) else getD (kvOf b) n) = _
    rcases List.mem_cons.mp h with e | h
    · rw [← e, if_pos rfl]
    · rw [if_neg, get_kv hd'.2 h]
      intro e
      exact hd'.1 (by rw [e]; exact List.mem_map.mpr ⟨(n, p), h, rfl⟩)
theorem h_together_by : ∀ dvs R, sc_together_by dvs R → td_together_by (endsOf 0 R) (startD N_together_by.length dvs) [] := by
  rintro dvs R ⟨ts, b, ns, m, n, p, q, r, rfl, hw, hb, hns, hm, hn, hmn, hnn, h⟩
  have hbl := hb.le
  refine ⟨_, rfl, _, rfl, ?_⟩
  refine dcGo_fm (fun x => decide (x.1 ∈ ns)) trivial b [] hb.nd (by simp; omega) (fun x hx R1 R2 k => ?_) ?_
  · have hxn := hb.nm x hx
    refine ⟨_, rfl, rfl, _, rfl, _, rfl, _, _, rfl, rfl, sh_str hxn, sh_strs hns, _, rfl, ?_⟩
    rw [any_str hns hxn, Bool.false_xor]
    by_cases e : x.1 ∈ ns
    · rw [if_pos (decide_eq_true e)] at k
      exact ifT (decide_eq_true e) ⟨_, rfl, _, rfl, _, _, rfl, rfl, k⟩
    · rw [if_neg (by simpa using e)] at k
      exact ifF (decide_eq_false e) k
  · rw [List.nil_append]
    have hnd : (nmB (b.filter fun x => decide (x.1 ∈ ns))).Nodup := by
      refine List.Nodup.sublist ?_ hb.nd
      unfold nmB
      exact List.Sublist.map _ List.filter_sublist
    have hm' : (m, p) ∈ b.filter fun x => decide (x.1 ∈ ns) := List.mem_filter.mpr ⟨hm, decide_eq_true hmn⟩
    have hn' : (n, q) ∈ b.filter fun x => decide (x.1 ∈ ns) := List.mem_filter.mpr ⟨hn, decide_eq_true hnn⟩
    have hok : AllOk ts (psB (b.filter fun x => decide (x.1 ∈ ns))) := fun u hu => by
      obtain ⟨z, hz, rfl⟩ := List.mem_map.mp hu
      exact hb.pt z (List.mem_filter.mp hz).1
    have hlen : (b.filter fun x => decide (x.1 ∈ ns)).length ≤ 24 := Nat.le_trans (List.length_filter_le ..) hbl
    generalize (b.filter fun x => decide (x.1 ∈ ns)) = c at hnd hm' hn' hok hlen h ⊢
    have hpl : (psB c).length ≤ 24 := by unfold psB; rw [List.length_map]; exact hlen
    have ev : (kvOf c).map (·.2) = (psB c).map eP := by unfold kvOf psB; rw [List.map_map, List.map_map]; rfl
    refine ⟨_, rfl, _, rfl, _, rfl, by unfold kvOf; rw [List.length_map]; omega, ?_⟩
    rw [ev]
    refine ⟨_, rfl, rfl, ts, psB c, _, r, rfl, .inr rfl, hw, hok, by omega, fun M hC hk => ?_⟩
    have hMl := cl_len hpl hk
    refine ⟨_, rfl, _, rfl, ?_⟩
    refine lcGo_map eP (fun mm => .bool (psubB p mm && psubB q mm)) trivial M (by omega) (fun mm hmm R1 k => ?_) ?_
    · refine ⟨_, rfl, _, rfl, _, _, _, rfl, rfl, get_kv hnd hm', _, rfl, rfl, ts, p, mm, rfl, hw, hb.pt _ hm, hC.fin.ok mm hmm, _, rfl, ?_⟩
      cases e : psubB p mm with
      | false =>
        rw [e] at k
        exact ifF rfl k
      | true =>
        rw [e, Bool.true_and] at k
        exact ifT rfl ⟨_, rfl, _, rfl, _, _, _, rfl, rfl, get_kv hnd hn', _, rfl, rfl, ts, q, mm, rfl, hw, hb.pt _ hn, hC.fin.ok mm hmm, k⟩
    · refine ⟨M.map fun mm => psubB p mm && psubB q mm, ?_, rt0 ?_⟩
      · rw [List.map_map]; rfl
      · rw [List.any_map]; exact h M hC
end JR
set_option maxHeartbeats 1000000
/-! JS12: what the readings give: needed. -/
namespace JR
open PySem PySem.Spec PyProof.Rows L2 JM PySem.W

theorem filter_all {b : Bk} {ns : List Str} (h : ∀ q ∈ b, q.1 ∈ ns) : (b.filter fun x => decide (x.1 ∈ ns)) = b := List.filter_eq_self.mpr fun q hq => decide_eq_true (h q hq)
theorem nm_mem {b : Bk} {n : Str} {p : Part} (h : (n, p) ∈ b) : n ∈ nmB b := List.mem_map.mpr ⟨(n, p), h, rfl⟩
theorem h_check_both : ∀ dvs R, sc_check_both dvs R → td_check_both (endsOf 0 R) (startD N_check_both.length dvs) [] := by
  rintro dvs R ⟨ts, b, m, n, p, q, r, rfl, hw, hb, hm, hn, hr, ht, h⟩
  have hbl := hb.le
  refine ⟨_, rfl, rfl, ts, rfl, ?_⟩
  refine ⟨_, rfl, _, rfl, rfl, ts, b, rfl, hw, hb, ?_⟩
  refine ⟨_, rfl, _, rfl, _, rfl, by simp, _, rfl, ?_⟩
  refine forGo_inv (fun z : Str × Part => PyData.str z.1) (fun rem ρ μ => ∃ a5, ρ = [some (wld ts), some (.d (eB b)), some (.d (.str m)), some (.d (.str n)), some (.d (eI r)), a5, none, none] ∧ μ = [] ∧ ∀ z ∈ rem, z ∈ b) (fun _ _ _ _ => trivial) ?_ ?_ [(m, p), (n, q)] _ _ ⟨_, rfl, rfl, fun z hz => ?_⟩
  · rintro ρ μ ⟨a5, rfl, rfl, -⟩
    refine ⟨_, rfl, rfl, r, rfl, hr, ?_⟩
    refine ⟨_, rfl, _, rfl, ?_⟩
    refine lcGo_map eQ (fun q => .str q.1) trivial b (by omega) (fun q hq R1 k => ⟨_, rfl, rfl, _, rfl, k⟩) ?_
    have e : (b.map fun q => PyData.str q.1) = (nmB b).map .str := by unfold nmB; rw [List.map_map]; rfl
    rw [e]
    refine ⟨_, rfl, _, rfl, _, rfl, _, rfl, _, rfl, _, rfl, rfl, ts, b, nmB b, m, n, p, q, r, rfl, hw, hb, nmB_ok hb, hm, hn, nm_mem hm, nm_mem hn, fun M hC => ?_⟩
    rw [filter_all fun z hz => nm_mem (n := z.1) (p := z.2) hz] at hC
    refine ⟨_, rfl, ?_⟩
    rw [ht M hC]
    exact ifF rfl ⟨_, rfl, rt0 h⟩
  · rintro z xs ρ μ K ⟨a5, rfl, rfl, hz⟩ hK
    refine ⟨_, rfl, _, rfl, rfl, ts, b, z.1, z.2, rfl, hb, hz z (by simp), ?_⟩
    exact hK _ _ ⟨_, rfl, rfl, fun y hy => hz y (List.mem_cons_of_mem _ hy)⟩
  · simp at hz
    rcases hz with rfl | rfl
    · exact hm
    · exact hn
theorem h_needed : ∀ dvs R, sc_needed dvs R → td_needed (endsOf 0 R) (startD N_needed.length dvs) [] := by
  rintro dvs R ⟨ts, b, m, n, p, q, r, rfl, hw, hb, hm, hn, hr, ht, h⟩
  have hbl := hb.le
  have hnl : (nmB b).length ≤ 24 := by unfold nmB; rw [List.length_map]; exact hbl
  have hnm := nmB_ok hb
  have om := hb.nm _ hm
  have on := hb.nm _ hn
  refine ⟨_, rfl, _, rfl, _, rfl, _, rfl, _, rfl, rfl, ts, b, m, n, p, q, r, rfl, hw, hb, hm, hn, hr, ht, ?_⟩
  refine ⟨_, rfl, by simp, ?_⟩
  refine ⟨_, rfl, _, rfl, allAlike_str _, sortable_str _, depth_str _, ?_⟩
  obtain ⟨S, hS, eS'⟩ := perm_map PyData.str (srt_perm ((nmB b).map .str)) rfl
  have hSl : S.length ≤ 24 := by rw [hS.length_eq]; exact hnl
  refine ⟨_, rfl, ?_⟩
  rw [eS']
  refine forGo_inv PyData.str (fun rem ρ μ => ∃ (fs : List Str) (a7 a8 a9 : Option DV), ρ = [some (wld ts), some (.d (eB b)), some (.d (.str m)), some (.d (.str n)), some (.d (eI r)), some (.d (eS (nmB b))), some (.c 0), a7, a8, a9] ∧ μ = [.l (fs.map .str)] ∧ (∀ x ∈ fs, x ∈ nmB b ∧ x ≠ m ∧ x ≠ n ∧ ∃ M, Cl ts (psB (b.filter fun y => decide (y.1 ≠ x))) r M ∧ togB M p q = false) ∧ (∀ x ∈ rem, x ∈ nmB b) ∧ fs.length + rem.length ≤ 24)
    (fun _ _ _ _ => rfl) ?_ ?_ S _ _ ⟨[], _, _, _, rfl, rfl, fun x hx => by simp at hx, fun x hx => hS.mem_iff.mp hx, by simp; omega⟩
  · rintro ρ μ ⟨fs, a7, a8, a9, rfl, rfl, hf, -⟩
    exact ⟨_, rfl, _, rfl, rt0 (h fs hf)⟩
  · rintro x xs ρ μ K ⟨fs, a7, a8, a9, rfl, rfl, hf, hr2, hl⟩ hK
    have hx := hr2 x (by simp)
    have ox := hnm x hx
    refine ⟨_, rfl, _, rfl, ?_⟩
    refine lcGo_fm PyData.str (fun y => decide (y ≠ x)) PyData.str (by rfl) (nmB b) [] (by simp; omega) (fun y hy R1 R2 k => ?_) ?_
    · refine ⟨_, rfl, _, rfl, _, _, rfl, rfl, sh_str (hnm y hy), sh_str ox, _, rfl, ?_⟩
      rw [eqv_str (hnm y hy) ox]
      by_cases e : y = x
      · rw [if_neg (by simpa using e)] at k
        exact ifF (by simp [e]) k
      · rw [if_pos (decide_eq_true e)] at k
        exact ifT (by simp [e]) ⟨_, rfl, k⟩
    · rw [List.nil_append]
      refine ⟨_, rfl, _, rfl, _, rfl, _, rfl, by simp, _, _, rfl, rfl, sh_str ox, sh_strs (l := [m, n]) (fun s hs => by simp at hs; rcases hs with rfl | rfl <;> assumption), _, rfl, ?_⟩
      have ea : (true ^^ ([PyData.str m, PyData.str n].any fun z => PyData.eqv z (.str x))) = !decide (x ∈ [m, n]) := by
        have := any_str (l := [m, n]) (fun s hs => by simp at hs; rcases hs with rfl | rfl <;> assumption) ox
        show (true ^^ (([m, n].map PyData.str).any fun z => PyData.eqv z (.str x))) = _
        rw [this, Bool.true_xor]
      by_cases e : x ∈ [m, n]
      · refine ifF (by rw [ea, decide_eq_true e]; rfl) ?_
        refine ifF rfl ?_
        exact hK _ _ ⟨fs, _, _, _, rfl, rfl, hf, fun y hy => hr2 y (List.mem_cons_of_mem _ hy), by simp at hl; omega⟩
      · refine ifT (by rw [ea, decide_eq_false e]; rfl) ?_
        have exm : x ≠ m := fun w => e (by rw [w]; simp)
        have exn : x ≠ n := fun w => e (by rw [w]; simp)
        have hmem : ∀ {s : Str}, s ∈ nmB b → s ≠ x → s ∈ (nmB b).filter fun y => decide (y ≠ x) := fun hs hne => List.mem_filter.mpr ⟨hs, decide_eq_true hne⟩
        refine ⟨_, rfl, _, rfl, _, rfl, _, rfl, _, rfl, _, rfl, rfl, ts, b, (nmB b).filter fun y => decide (y ≠ x), m, n, p, q, r, rfl, hw, hb, fun s hs => hnm s (List.mem_filter.mp hs).1, hm, hn, hmem (nm_mem hm) (Ne.symm exm), hmem (nm_mem hn) (Ne.symm exn), fun M hC => ?_⟩
        have ef : (b.filter fun y => decide (y.1 ∈ (nmB b).filter fun y => decide (y ≠ x))) = b.filter fun y => decide (y.1 ≠ x) := List.filter_congr fun z hz => by
          have hz' := nm_mem (n := z.1) (p := z.2) hz
          simp [hz']
        rw [ef] at hC
        refine ⟨_, rfl, ?_⟩
        cases et : togB M p q with
        | true => exact ifF rfl (hK _ _ ⟨fs, _, _, _, rfl, rfl, hf, fun y hy => hr2 y (List.mem_cons_of_mem _ hy), by simp at hl; omega⟩)
        | false =>
          refine ifT rfl ?_
          refine ⟨_, rfl, ⟨_, rfl⟩, _, rfl, 0, _, _, rfl, rfl, rfl, by simp at hl ⊢; omega, ?_⟩
          refine hK _ _ ⟨fs ++ [x], _, _, _, rfl, by simp, fun y hy => ?_, fun y hy => hr2 y (List.mem_cons_of_mem _ hy), by simp at hl ⊢; omega⟩
          rcases List.mem_append.mp hy with w | w
          · exact hf y w
          · have w2 : y = x := by simpa using w
            rw [w2]
            exact ⟨hx, exm, exn, M, hC, et⟩
end JR
set_option maxHeartbeats 1000000
/-! printed by gen_defs.py: readings and derivations. -/
namespace JR
open PySem PySem.Spec PyProof.Rows L2
section
variable {P : Program} {w : World} {K : PySem.W.Frag} {mg : Str → Option Value} {base : Heap} {C : Addr} {f : Addr}
abbrev N_law_cell : List Str := ["_law_script", "_law_k", "_law_state", "_law_cell_here"]
theorem fs_law_cell : FnScope N_law_cell ["_law_script", "_law_k"] (defScope s_law_cell) := C8.fnScope_by (by decide +kernel)
def td_law_cell : TSd := (tdSeq (tdIf (tdB (tdOp fLt (tdVar 1) (td1 fLen (tdVar 0)))) (tdRet (tdOp fIx (tdVar 0) (tdVar 1))) tdNext)
  (tdSeq (tdSet 2 (tdOp fMod (tdOp fMul (tdC (.int 60013)) (tdOp fAdd (tdOp fAdd (tdOp fMul (tdVar 1) (tdVar 1)) (tdOp fMul (tdC (.int 9)) (tdVar 1))) (tdC (.int 5)))) (tdC (.int 1000000289))))
  (tdSeq (tdFor (wdList (tdFz (tdSlL (tdVar 0) tdNoPart (tdPart (tdC (.int 4)))))) (.n 3) (tdSet 2 (tdOp fMod (tdOp fAdd (tdOp fMul (tdVar 2) (tdC (.int 40009))) (tdVar 3)) (tdC (.int 1000000289)))))
  (tdRet (tdVar 2)))))
theorem b_law_cell (G : Gb K mg C)  (cdv : Value) (A : Around) (outer : List PySem.Env) (s : Shared) (H : Hp) (E : XK) (hr : Room 0 (A.deeper (envOfC "_law_cell" (defScope s_law_cell) s.heap.objs.size f cdv))) :
    PSs (cxOf CX0 P w K mg base N_law_cell "_law_cell" (defScope s_law_cell) f cdv A outer s H E).nox (defBody s_law_cell) (uTS ⟨P, w, C⟩ td_law_cell) :=
  have nd := fs_law_cell.nd
  (js_cons (js_if (jt_cmp op_lt od_lt (jd_var (pe_var (i := 1) rfl (.inl rfl))) (jd_len rfl G.len (jd_var (pe_var (i := 0) rfl (.inl rfl)))) rfl) (js_one (js_ret (jd_ix (jd_var (pe_var (i := 0) rfl (.inl rfl))) (jd_var (pe_var (i := 1) rfl (.inl rfl)))))) js_nil)
  (js_cons (js_set (i := 2) nd rfl (.inl rfl) (jd_mod (jd_mul jd_int (jd_add (jd_add (jd_mul (jd_var (pe_var (i := 1) rfl (.inl rfl))) (jd_var (pe_var (i := 1) rfl (.inl rfl)))) (jd_mul jd_int (jd_var (pe_var (i := 1) rfl (.inl rfl))))) jd_int)) jd_int))
  (js_cons (js_for (t := (.n 3)) PassesOwn.never rfl (ji_list (jd_fz (jl_sl (jd_var (pe_var (i := 0) rfl (.inl rfl))) jo_none (jo_some jd_int)))) (pg_name (i := 3) nd rfl (.inl rfl)) (js_one (js_set (i := 2) nd rfl (.inl rfl) (jd_mod (jd_add (jd_mul (jd_var (pe_var (i := 2) rfl (.inl rfl))) jd_int) (jd_var (pe_var (i := 3) rfl (.inl rfl)))) jd_int))))
  (js_one (js_ret (jd_var (pe_var (i := 2) rfl (.inl rfl))))))))
abbrev N_law_purse : List Str := ["_law_cell_here"]
theorem fs_law_purse : FnScope N_law_purse ["_law_cell_here"] (defScope s_law_purse) := C8.fnScope_by (by decide +kernel)
def td_law_purse : TSd := (tdRet (tdOwnP (tdLst (tdCons (tdOp fAdd (tdOp fMul (tdOp fMod (tdVar 0) (tdC (.int 1000000289))) (tdC (.int 7001))) (tdC (.int 5003))) (tdCons (tdOp fIx (tdFz (tdLst (tdCons (tdC (.int 0)) (tdCons (tdVar 0) tdNil)))) (td1 fIntB (tdOp fGe (tdVar 0) (tdOp fPow (tdC (.int 10)) (tdC (.int 18)))))) (tdCons (tdC (.int 0)) tdNil))))))
theorem b_law_purse (G : Gb K mg C)  (cdv : Value) (A : Around) (outer : List PySem.Env) (s : Shared) (H : Hp) (E : XK) (hr : Room 0 (A.deeper (envOfC "_law_purse" (defScope s_law_purse) s.heap.objs.size f cdv))) :
    PSs (cxOf CX0 P w K mg base N_law_purse "_law_purse" (defScope s_law_purse) f cdv A outer s H E).nox (defBody s_law_purse) (uTS ⟨P, w, C⟩ td_law_purse) :=
  have nd := fs_law_purse.nd
  (js_one (js_ret (jd_ownP (jl_lst (ja_cons (jd_add (jd_mul (jd_mod (jd_var (pe_var (i := 0) rfl (.inl rfl))) jd_int) jd_int) jd_int) (ja_cons (jd_ix (jd_fz (jl_lst (ja_cons jd_int (ja_cons (jd_var (pe_var (i := 0) rfl (.inl rfl))) ja_nil)))) (jd_intB rfl G.int (jd_cmp op_ge od_ge (jd_var (pe_var (i := 0) rfl (.inl rfl))) (jd_pow jd_int jd_int) rfl))) (ja_cons jd_int ja_nil)))))))
abbrev N_law_pick : List Str := ["_law_purse_here", "_law_count", "_law_state", "_law_taken"]
theorem fs_law_pick : FnScope N_law_pick ["_law_purse_here", "_law_count"] (defScope s_law_pick) := C8.fnScope_by (by decide +kernel)
def td_law_pick : TSd := (tdSeq (tdPset (tdOp fAdd (tdOp fPrd (tdVar 0) (tdC (.int 2))) (tdC (.int 1))) (tdVar 0) (tdC (.int 2)))
  (tdSeq (tdSet 2 (tdOp fMod (tdOp fPrd (tdVar 0) (tdC (.int 0))) (tdC (.int 1000000289))))
  (tdSeq (tdPset (tdOp fAdd (tdOp fMul (tdVar 2) (tdOp fAdd (tdOp fMod (tdVar 2) (tdC (.int 50021))) (tdC (.int 20011)))) (tdOp fMul (tdC (.int 80021)) (tdOp fPrd (tdVar 0) (tdC (.int 2))))) (tdVar 0) (tdC (.int 0)))
  (tdSeq (tdIf (tdB (tdOp fGt (tdOp fPrd (tdVar 0) (tdC (.int 1))) (tdC (.int 0)))) (tdSeq (tdSet 3 (tdOp fMod (tdOp fPrd (tdVar 0) (tdC (.int 1))) (tdVar 1)))
  (tdSeq (tdPset (tdOp fDiv (tdOp fPrd (tdVar 0) (tdC (.int 1))) (tdVar 1)) (tdVar 0) (tdC (.int 1)))
  (tdRet (tdVar 3)))) tdNext)
  (tdRet (tdOp fMod (tdOp fDiv (tdOp fMod (tdOp fPrd (tdVar 0) (tdC (.int 0))) (tdC (.int 1000000289))) (tdC (.int 16))) (tdVar 1)))))))
theorem b_law_pick (G : Gb K mg C)  (cdv : Value) (A : Around) (outer : List PySem.Env) (s : Shared) (H : Hp) (E : XK) (hr : Room 0 (A.deeper (envOfC "_law_pick" (defScope s_law_pick) s.heap.objs.size f cdv))) :
    PSs (cxOf CX0 P w K mg base N_law_pick "_law_pick" (defScope s_law_pick) f cdv A outer s H E).nox (defBody s_law_pick) (uTS ⟨P, w, C⟩ td_law_pick) :=
  have nd := fs_law_pick.nd
  (js_cons (js_pset (jd_add (jd_prd (jd_var (pe_var (i := 0) rfl (.inl rfl))) jd_int) jd_int) (pg_sub (jd_var (pe_var (i := 0) rfl (.inl rfl))) jd_int set_list))
  (js_cons (js_set (i := 2) nd rfl (.inl rfl) (jd_mod (jd_prd (jd_var (pe_var (i := 0) rfl (.inl rfl))) jd_int) jd_int))
  (js_cons (js_pset (jd_add (jd_mul (jd_var (pe_var (i := 2) rfl (.inl rfl))) (jd_add (jd_mod (jd_var (pe_var (i := 2) rfl (.inl rfl))) jd_int) jd_int)) (jd_mul jd_int (jd_prd (jd_var (pe_var (i := 0) rfl (.inl rfl))) jd_int))) (pg_sub (jd_var (pe_var (i := 0) rfl (.inl rfl))) jd_int set_list))
  (js_cons (js_if (jt_cmp op_gt od_gt (jd_prd (jd_var (pe_var (i := 0) rfl (.inl rfl))) jd_int) jd_int rfl) (js_cons (js_set (i := 3) nd rfl (.inl rfl) (jd_mod (jd_prd (jd_var (pe_var (i := 0) rfl (.inl rfl))) jd_int) (jd_var (pe_var (i := 1) rfl (.inl rfl)))))
  (js_cons (js_pset (jd_div (jd_prd (jd_var (pe_var (i := 0) rfl (.inl rfl))) jd_int) (jd_var (pe_var (i := 1) rfl (.inl rfl)))) (pg_sub (jd_var (pe_var (i := 0) rfl (.inl rfl))) jd_int set_list))
  (js_one (js_ret (jd_var (pe_var (i := 3) rfl (.inl rfl))))))) js_nil)
  (js_one (js_ret (jd_mod (jd_div (jd_mod (jd_prd (jd_var (pe_var (i := 0) rfl (.inl rfl))) jd_int) jd_int) jd_int) (jd_var (pe_var (i := 1) rfl (.inl rfl))))))))))
abbrev N_law_wood : List Str := ["_law_purse_here", "_law_most", "_law_shape", "_law_count", "_law_k"]
theorem fs_law_wood : FnScope N_law_wood ["_law_purse_here", "_law_most"] (defScope s_law_wood) := C8.fnScope_by (by decide +kernel)
def td_law_wood : TSd := (tdSeq (tdUnp [2, 3] (tdCons (tdCall1 sc_law_pick (tdCons (tdVar 0) (tdCons (tdC (.int 3)) tdNil))) (tdCons (tdOp fAdd (tdC (.int 1)) (tdCall1 sc_law_pick (tdCons (tdVar 0) (tdCons (tdVar 1) tdNil)))) tdNil)))
  (tdRet (td1 fTupleOf (tdFz (tdLc (wdRng1 (tdCons (tdOp fSub (tdVar 3) (tdC (.int 1))) tdNil)) (.n 4) tdYes (tdOp fIx (tdFz (tdLst (tdCons (tdVar 4) (tdCons (tdC (.int 0)) (tdCons (tdCall1 sc_law_pick (tdCons (tdVar 0) (tdCons (tdOp fAdd (tdVar 4) (tdC (.int 1))) tdNil))) tdNil))))) (tdVar 2)) [4])))))
theorem b_law_wood (G : Gb K mg C) (h_law_pick : Has P w K mg base C "_law_pick" ["_law_purse_here", "_law_count"] 1 1 sc_law_pick) (cdv : Value) (A : Around) (outer : List PySem.Env) (s : Shared) (H : Hp) (E : XK) (hr : Room 1 (A.deeper (envOfC "_law_wood" (defScope s_law_wood) s.heap.objs.size f cdv))) :
    PSs (cxOf CX0 P w K mg base N_law_wood "_law_wood" (defScope s_law_wood) f cdv A outer s H E).nox (defBody s_law_wood) (uTS ⟨P, w, C⟩ td_law_wood) :=
  have nd := fs_law_wood.nd
  (js_cons (js_unp (is := [2, 3]) (ja_cons (jd_call1 h_law_pick hr (by decide) rfl (ja_cons (jd_var (pe_var (i := 0) rfl (.inr (.inl rfl)))) (ja_cons jd_int ja_nil))) (ja_cons (jd_add jd_int (jd_call1 h_law_pick hr (by decide) rfl (ja_cons (jd_var (pe_var (i := 0) rfl (.inr (.inl rfl)))) (ja_cons (jd_var (pe_var (i := 1) rfl (.inl rfl))) ja_nil)))) ja_nil)) (pg_tup rfl (pgs_cons (pg_name (i := 2) nd rfl (.inr rfl)) (pgs_cons (pg_name (i := 3) nd rfl (.inl rfl)) pgs_nil))))
  (js_one (js_ret (jd_tupleOf rfl G.tuple (jd_fz (jl_lc (own := [("_law_k", 4)]) (t := (.n 4)) rfl nd (ji_rng1 rfl G.range (ja_cons (jd_sub (jd_var (pe_var (i := 3) rfl (.inl rfl))) jd_int) ja_nil)) (blkOk_by (N := N_law_wood) (sc := (defScope s_law_wood)) (by decide +kernel)) (by decide) (fun _ _ _ _ _ => (pg_name (i := 4) nd rfl (.inl rfl))) (fun _ _ _ _ _ => jts_nil) (fun _ _ _ _ _ => (jd_ix (jd_fz (jl_lst (ja_cons (jd_var (pe_var (i := 4) rfl (.inl rfl))) (ja_cons jd_int (ja_cons (jd_call1 h_law_pick hr (by decide) rfl (ja_cons (jd_var (pe_var (i := 0) rfl (.inr (.inl rfl)))) (ja_cons (jd_add (jd_var (pe_var (i := 4) rfl (.inl rfl))) jd_int) ja_nil))) ja_nil))))) (jd_var (pe_var (i := 2) rfl (.inr (.inl rfl))))))))))))
abbrev N_law_grove : List Str := ["_law_purse_here", "_law_upto", "_law_most", "_law_k"]
theorem fs_law_grove : FnScope N_law_grove ["_law_purse_here", "_law_upto", "_law_most"] (defScope s_law_grove) := C8.fnScope_by (by decide +kernel)
def td_law_grove : TSd := (tdRet (td1 fTupleOf (tdFz (tdLc (wdRng1 (tdCons (tdOp fAdd (tdC (.int 1)) (tdCall1 sc_law_pick (tdCons (tdVar 0) (tdCons (tdVar 1) tdNil)))) tdNil)) (.n 3) tdYes (tdCall1 sc_law_wood (tdCons (tdVar 0) (tdCons (tdVar 2) tdNil))) [3]))))
theorem b_law_grove (G : Gb K mg C) (h_law_pick : Has P w K mg base C "_law_pick" ["_law_purse_here", "_law_count"] 1 1 sc_law_pick) (h_law_wood : Has P w K mg base C "_law_wood" ["_law_purse_here", "_law_most"] 2 1 sc_law_wood) (cdv : Value) (A : Around) (outer : List PySem.Env) (s : Shared) (H : Hp) (E : XK) (hr : Room 2 (A.deeper (envOfC "_law_grove" (defScope s_law_grove) s.heap.objs.size f cdv))) :
    PSs (cxOf CX0 P w K mg base N_law_grove "_law_grove" (defScope s_law_grove) f cdv A outer s H E).nox (defBody s_law_grove) (uTS ⟨P, w, C⟩ td_law_grove) :=
  have nd := fs_law_grove.nd
  (js_one (js_ret (jd_tupleOf rfl G.tuple (jd_fz (jl_lc (own := [("_law_k", 3)]) (t := (.n 3)) rfl nd (ji_rng1 rfl G.range (ja_cons (jd_add jd_int (jd_call1 h_law_pick hr (by decide) rfl (ja_cons (jd_var (pe_var (i := 0) rfl (.inr (.inl rfl)))) (ja_cons (jd_var (pe_var (i := 1) rfl (.inl rfl))) ja_nil)))) ja_nil)) (blkOk_by (N := N_law_grove) (sc := (defScope s_law_grove)) (by decide +kernel)) (by decide) (fun _ _ _ _ _ => (pg_name (i := 3) nd rfl (.inl rfl))) (fun _ _ _ _ _ => jts_nil) (fun _ _ _ _ _ => (jd_call1 h_law_wood hr (by decide) rfl (ja_cons (jd_var (pe_var (i := 0) rfl (.inr (.inl rfl)))) (ja_cons (jd_var (pe_var (i := 2) rfl (.inr (.inl rfl)))) ja_nil)))))))))
abbrev N_law_gaps : List Str := ["_law_wood_here", "_law_found", "_law_up", "_law_last", "_law_gap", "_law_row"]
theorem fs_law_gaps : FnScope N_law_gaps ["_law_wood_here"] (defScope s_law_gaps) := C8.fnScope_by (by decide +kernel)
def td_law_gaps : TSd := (tdSeq (tdSet 1 (tdFz (tdLst (tdCons (tdFz (tdLst (tdCons (tdC (.int 0)) tdNil))) tdNil))))
  (tdSeq (tdFor (wdTup (tdVar 0)) (.n 2) (tdSeq (tdSet 3 (tdFz (tdLc (wdList (tdOp fIx (tdVar 1) (tdVar 2))) (.n 4) tdYes (tdOp fAdd (tdVar 4) (tdC (.int 1))) [4])))
  (tdSet 1 (tdFz (tdCat (tdFz (tdLc (wdZipL (tdCons (tdVar 1) (tdCons (tdVar 3) tdNil))) (.t [5, 4]) tdYes (tdFz (tdCat (tdVar 5) (tdFz (tdLst (tdCons (tdVar 4) tdNil))))) [5, 4])) (tdFz (tdLst (tdCons (tdFz (tdCat (tdVar 3) (tdFz (tdLst (tdCons (tdC (.int 0)) tdNil))))) tdNil))))))))
  (tdRet (tdVar 1))))
theorem b_law_gaps (G : Gb K mg C)  (cdv : Value) (A : Around) (outer : List PySem.Env) (s : Shared) (H : Hp) (E : XK) (hr : Room 0 (A.deeper (envOfC "_law_gaps" (defScope s_law_gaps) s.heap.objs.size f cdv))) :
    PSs (cxOf CX0 P w K mg base N_law_gaps "_law_gaps" (defScope s_law_gaps) f cdv A outer s H E).nox (defBody s_law_gaps) (uTS ⟨P, w, C⟩ td_law_gaps) :=
  have nd := fs_law_gaps.nd
  (js_cons (js_set (i := 1) nd rfl (.inl rfl) (jd_fz (jl_lst (ja_cons (jd_fz (jl_lst (ja_cons jd_int ja_nil))) ja_nil))))
  (js_cons (js_for (t := (.n 2)) PassesOwn.never rfl (ji_tup (jd_var (pe_var (i := 0) rfl (.inl rfl)))) (pg_name (i := 2) nd rfl (.inl rfl)) (js_cons (js_setLcF (own := [("_law_gap", 4)]) (i := 3) rfl nd rfl rfl (sw_true rfl rfl rfl (by decide +kernel)) (ji_list (jd_ix (jd_var (pe_var (i := 1) rfl (.inl rfl))) (jd_var (pe_var (i := 2) rfl (.inl rfl))))) (blkOk_by (N := N_law_gaps) (sc := (defScope s_law_gaps)) (by decide +kernel)) (by decide) (fun _ _ _ _ _ => (pg_name (i := 4) nd rfl (.inl rfl))) (fun _ _ _ _ _ => jts_nil) (fun _ _ _ _ _ => (jd_add (jd_var (pe_var (i := 4) rfl (.inl rfl))) jd_int)))
  (js_one (js_set (i := 1) nd rfl (.inl rfl) (jd_fz (jl_cat (jd_fz (jl_lc (own := [("_law_row", 5), ("_law_gap", 4)]) (t := (.t [5, 4])) rfl nd (ji_zipL rfl G.zip (ja_cons (jd_var (pe_var (i := 1) rfl (.inl rfl))) (ja_cons (jd_var (pe_var (i := 3) rfl (.inl rfl))) ja_nil))) (blkOk_by (N := N_law_gaps) (sc := (defScope s_law_gaps)) (by decide +kernel)) (by decide) (fun _ _ _ _ _ => (pg_tup rfl (pgs_cons (pg_name (i := 5) nd rfl (.inl rfl)) (pgs_cons (pg_name (i := 4) nd rfl (.inl rfl)) pgs_nil)))) (fun _ _ _ _ _ => jts_nil) (fun _ _ _ _ _ => (jd_fz (jl_cat (jd_var (pe_var (i := 5) rfl (.inl rfl))) (jd_fz (jl_lst (ja_cons (jd_var (pe_var (i := 4) rfl (.inl rfl))) ja_nil)))))))) (jd_fz (jl_lst (ja_cons (jd_fz (jl_cat (jd_var (pe_var (i := 3) rfl (.inl rfl))) (jd_fz (jl_lst (ja_cons jd_int ja_nil))))) ja_nil)))))))))
  (js_one (js_ret (jd_var (pe_var (i := 1) rfl (.inl rfl)))))))
abbrev N_law_between_two : List Str := ["_law_rows", "_law_first", "_law_last", "_law_spot"]
theorem fs_law_between_two : FnScope N_law_between_two ["_law_rows", "_law_first", "_law_last"] (defScope s_law_between_two) := C8.fnScope_by (by decide +kernel)
def td_law_between_two : TSd := (tdRet (tdFz (tdLc (wdRng1 (tdCons (td1 fLen (tdVar 0)) tdNil)) (.n 3) (tdB (tdOp fEq (tdOp fAdd (tdOp fIx (tdOp fIx (tdVar 0) (tdVar 1)) (tdVar 3)) (tdOp fIx (tdOp fIx (tdVar 0) (tdVar 3)) (tdVar 2))) (tdOp fIx (tdOp fIx (tdVar 0) (tdVar 1)) (tdVar 2)))) (tdVar 3) [3])))
theorem b_law_between_two (G : Gb K mg C)  (cdv : Value) (A : Around) (outer : List PySem.Env) (s : Shared) (H : Hp) (E : XK) (hr : Room 0 (A.deeper (envOfC "_law_between_two" (defScope s_law_between_two) s.heap.objs.size f cdv))) :
    PSs (cxOf CX0 P w K mg base N_law_between_two "_law_between_two" (defScope s_law_between_two) f cdv A outer s H E).nox (defBody s_law_between_two) (uTS ⟨P, w, C⟩ td_law_between_two) :=
  have nd := fs_law_between_two.nd
  (js_one (js_ret (jd_fz (jl_lc (own := [("_law_spot", 3)]) (t := (.n 3)) rfl nd (ji_rng1 rfl G.range (ja_cons (jd_len rfl G.len (jd_var (pe_var (i := 0) rfl (.inr (.inl rfl))))) ja_nil)) (blkOk_by (N := N_law_between_two) (sc := (defScope s_law_between_two)) (by decide +kernel)) (by decide) (fun _ _ _ _ _ => (pg_name (i := 3) nd rfl (.inl rfl))) (fun _ _ _ _ _ => (jts_one (jt_cmp (op_eqD hr.units) od_eq (jd_add (jd_ix (jd_ix (jd_var (pe_var (i := 0) rfl (.inr (.inl rfl)))) (jd_var (pe_var (i := 1) rfl (.inr (.inl rfl))))) (jd_var (pe_var (i := 3) rfl (.inl rfl)))) (jd_ix (jd_ix (jd_var (pe_var (i := 0) rfl (.inr (.inl rfl)))) (jd_var (pe_var (i := 3) rfl (.inl rfl)))) (jd_var (pe_var (i := 2) rfl (.inr (.inl rfl)))))) (jd_ix (jd_ix (jd_var (pe_var (i := 0) rfl (.inr (.inl rfl)))) (jd_var (pe_var (i := 1) rfl (.inr (.inl rfl))))) (jd_var (pe_var (i := 2) rfl (.inr (.inl rfl))))) rfl))) (fun _ _ _ _ _ => (jd_var (pe_var (i := 3) rfl (.inl rfl))))))))
abbrev N_law_limb : List Str := ["_law_wood_here", "_law_some", "_law_rows", "_law_found", "_law_last"]
theorem fs_law_limb : FnScope N_law_limb ["_law_wood_here", "_law_some"] (defScope s_law_limb) := C8.fnScope_by (by decide +kernel)
def td_law_limb : TSd := (tdSeq (tdPar 2 3 (tdCall0 sc_law_gaps (tdCons (tdVar 0) tdNil)) (tdFz (tdLst tdNil)))
  (tdSeq (tdFor (wdList (tdVar 1)) (.n 4) (tdSet 3 (tdFz (tdCat (tdVar 3) (tdCall0 sc_law_between_two (tdCons (tdVar 2) (tdCons (tdOp fIx (tdVar 1) (tdC (.int 0))) (tdCons (tdVar 4) tdNil))))))))
  (tdRet (td1 fTupleOf (tdFz (tl1 fSortedS (td1 fSetOf (tdVar 3))))))))
theorem b_law_limb (G : Gb K mg C) (h_law_gaps : Has P w K mg base C "_law_gaps" ["_law_wood_here"] 1 0 sc_law_gaps) (h_law_between_two : Has P w K mg base C "_law_between_two" ["_law_rows", "_law_first", "_law_last"] 1 0 sc_law_between_two) (cdv : Value) (A : Around) (outer : List PySem.Env) (s : Shared) (H : Hp) (E : XK) (hr : Room 1 (A.deeper (envOfC "_law_limb" (defScope s_law_limb) s.heap.objs.size f cdv))) :
    PSs (cxOf CX0 P w K mg base N_law_limb "_law_limb" (defScope s_law_limb) f cdv A outer s H E).nox (defBody s_law_limb) (uTS ⟨P, w, C⟩ td_law_limb) :=
  have nd := fs_law_limb.nd
  (js_cons (js_par (i := 2) (j := 3) rfl nd rfl rfl (by decide) rfl rfl (jd_call0 h_law_gaps hr (by decide) rfl (ja_cons (jd_var (pe_var (i := 0) rfl (.inl rfl))) ja_nil)) (jd_fz (jl_lst ja_nil)) rfl)
  (js_cons (js_for (t := (.n 4)) PassesOwn.never rfl (ji_list (jd_var (pe_var (i := 1) rfl (.inl rfl)))) (pg_name (i := 4) nd rfl (.inl rfl)) (js_one (js_set (i := 3) nd rfl (.inl rfl) (jd_fz (jl_cat (jd_var (pe_var (i := 3) rfl (.inl rfl))) (jd_call0 h_law_between_two hr (by decide) rfl (ja_cons (jd_var (pe_var (i := 2) rfl (.inl rfl))) (ja_cons (jd_ix (jd_var (pe_var (i := 1) rfl (.inl rfl))) jd_int) (ja_cons (jd_var (pe_var (i := 4) rfl (.inl rfl))) ja_nil)))))))))
  (js_one (js_ret (jd_tupleOf rfl G.tuple (jd_fz (jl_sortedS rfl rfl G.sorted (jd_setOf rfl rfl G.set (jd_var (pe_var (i := 3) rfl (.inl rfl)))))))))))
abbrev N_law_piece : List Str := ["_law_purse_here", "_law_grove_here", "_law_found", "_law_wood_here", "_law_some", "_law_k"]
theorem fs_law_piece : FnScope N_law_piece ["_law_purse_here", "_law_grove_here"] (defScope s_law_piece) := C8.fnScope_by (by decide +kernel)
def td_law_piece : TSd := (tdSeq (tdSet 2 (tdOwn (tdLst tdNil)))
  (tdSeq (tdFor (wdTup (tdVar 1)) (.n 3) (tdSeq (tdSet 4 (tdFz (tdLc (wdRng1 (tdCons (tdOp fAdd (tdC (.int 1)) (tdCall1 sc_law_pick (tdCons (tdVar 0) (tdCons (tdC (.int 3)) tdNil)))) tdNil)) (.n 5) tdYes (tdCall1 sc_law_pick (tdCons (tdVar 0) (tdCons (tdOp fAdd (td1 fLen (tdVar 3)) (tdC (.int 1))) tdNil))) [5])))
  (tdDrop (tdM fApp (tdVar 2) (tdCons (tdCall0 sc_law_limb (tdCons (tdVar 3) (tdCons (tdVar 4) tdNil))) tdNil)))))
  (tdRet (td1 fTupleOf (tdVar 2)))))
theorem b_law_piece (G : Gb K mg C) (h_law_pick : Has P w K mg base C "_law_pick" ["_law_purse_here", "_law_count"] 1 1 sc_law_pick) (h_law_limb : Has P w K mg base C "_law_limb" ["_law_wood_here", "_law_some"] 2 0 sc_law_limb) (cdv : Value) (A : Around) (outer : List PySem.Env) (s : Shared) (H : Hp) (E : XK) (hr : Room 2 (A.deeper (envOfC "_law_piece" (defScope s_law_piece) s.heap.objs.size f cdv))) :
    PSs (cxOf CX0 P w K mg base N_law_piece "_law_piece" (defScope s_law_piece) f cdv A outer s H E).nox (defBody s_law_piece) (uTS ⟨P, w, C⟩ td_law_piece) :=
  have nd := fs_law_piece.nd
  (js_cons (js_set (i := 2) nd rfl (.inl rfl) (jd_own (jl_lst ja_nil)))
  (js_cons (js_for (t := (.n 3)) PassesOwn.never rfl (ji_tup (jd_var (pe_var (i := 1) rfl (.inl rfl)))) (pg_name (i := 3) nd rfl (.inr rfl)) (js_cons (js_setLcF (own := [("_law_k", 5)]) (i := 4) rfl nd rfl rfl (sw_true rfl rfl rfl (by decide +kernel)) (ji_rng1 rfl G.range (ja_cons (jd_add jd_int (jd_call1 h_law_pick hr (by decide) rfl (ja_cons (jd_var (pe_var (i := 0) rfl (.inr (.inl rfl)))) (ja_cons jd_int ja_nil)))) ja_nil)) (blkOk_by (N := N_law_piece) (sc := (defScope s_law_piece)) (by decide +kernel)) (by decide) (fun _ _ _ _ _ => (pg_name (i := 5) nd rfl (.inl rfl))) (fun _ _ _ _ _ => jts_nil) (fun _ _ _ _ _ => (jd_call1 h_law_pick hr (by decide) rfl (ja_cons (jd_var (pe_var (i := 0) rfl (.inr (.inl rfl)))) (ja_cons (jd_add (jd_len rfl G.len (jd_var (pe_var (i := 3) rfl (.inr (.inl rfl))))) jd_int) ja_nil)))))
  (js_one (js_expr (jm_append (jd_var (pe_var (i := 2) rfl (.inl rfl))) (jd_call0 h_law_limb hr (by decide) rfl (ja_cons (jd_var (pe_var (i := 3) rfl (.inr (.inl rfl)))) (ja_cons (jd_var (pe_var (i := 4) rfl (.inl rfl))) ja_nil))))))))
  (js_one (js_ret (jd_tupleOf rfl G.tuple (jd_var (pe_var (i := 2) rfl (.inl rfl))))))))
abbrev N_law_point : List Str := ["_law_purse_here", "_law_grove_here", "_law_wood_here"]
theorem fs_law_point : FnScope N_law_point ["_law_purse_here", "_law_grove_here"] (defScope s_law_point) := C8.fnScope_by (by decide +kernel)
def td_law_point : TSd := (tdRet (td1 fTupleOf (tdFz (tdLc (wdTup (tdVar 1)) (.n 2) tdYes (tdCall1 sc_law_pick (tdCons (tdVar 0) (tdCons (tdOp fAdd (td1 fLen (tdVar 2)) (tdC (.int 1))) tdNil))) [2]))))
theorem b_law_point (G : Gb K mg C) (h_law_pick : Has P w K mg base C "_law_pick" ["_law_purse_here", "_law_count"] 1 1 sc_law_pick) (cdv : Value) (A : Around) (outer : List PySem.Env) (s : Shared) (H : Hp) (E : XK) (hr : Room 1 (A.deeper (envOfC "_law_point" (defScope s_law_point) s.heap.objs.size f cdv))) :
    PSs (cxOf CX0 P w K mg base N_law_point "_law_point" (defScope s_law_point) f cdv A outer s H E).nox (defBody s_law_point) (uTS ⟨P, w, C⟩ td_law_point) :=
  have nd := fs_law_point.nd
  (js_one (js_ret (jd_tupleOf rfl G.tuple (jd_fz (jl_lc (own := [("_law_wood_here", 2)]) (t := (.n 2)) rfl nd (ji_tup (jd_var (pe_var (i := 1) rfl (.inl rfl)))) (blkOk_by (N := N_law_point) (sc := (defScope s_law_point)) (by decide +kernel)) (by decide) (fun _ _ _ _ _ => (pg_name (i := 2) nd rfl (.inl rfl))) (fun _ _ _ _ _ => jts_nil) (fun _ _ _ _ _ => (jd_call1 h_law_pick hr (by decide) rfl (ja_cons (jd_var (pe_var (i := 0) rfl (.inr (.inl rfl)))) (ja_cons (jd_add (jd_len rfl G.len (jd_var (pe_var (i := 2) rfl (.inl rfl)))) jd_int) ja_nil)))))))))
abbrev N_law_alone : List Str := ["_law_point_here", "_law_spot"]
theorem fs_law_alone : FnScope N_law_alone ["_law_point_here"] (defScope s_law_alone) := C8.fnScope_by (by decide +kernel)
def td_law_alone : TSd := (tdRet (td1 fTupleOf (tdFz (tdLc (wdTup (tdVar 0)) (.n 1) tdYes (tdTup (tdCons (tdVar 1) tdNil)) [1]))))
theorem b_law_alone (G : Gb K mg C)  (cdv : Value) (A : Around) (outer : List PySem.Env) (s : Shared) (H : Hp) (E : XK) (hr : Room 0 (A.deeper (envOfC "_law_alone" (defScope s_law_alone) s.heap.objs.size f cdv))) :
    PSs (cxOf CX0 P w K mg base N_law_alone "_law_alone" (defScope s_law_alone) f cdv A outer s H E).nox (defBody s_law_alone) (uTS ⟨P, w, C⟩ td_law_alone) :=
  have nd := fs_law_alone.nd
  (js_one (js_ret (jd_tupleOf rfl G.tuple (jd_fz (jl_lc (own := [("_law_spot", 1)]) (t := (.n 1)) rfl nd (ji_tup (jd_var (pe_var (i := 0) rfl (.inl rfl)))) (blkOk_by (N := N_law_alone) (sc := (defScope s_law_alone)) (by decide +kernel)) (by decide) (fun _ _ _ _ _ => (pg_name (i := 1) nd rfl (.inl rfl))) (fun _ _ _ _ _ => jts_nil) (fun _ _ _ _ _ => (jd_tup (ja_cons (jd_var (pe_var (i := 1) rfl (.inl rfl))) ja_nil))))))))
abbrev N_law_words : List Str := ["_law_purse_here", "_law_count", "_law_own", "_law_first", "_law_step", "_law_letters", "_law_stem", "_law_cut", "_law_begin", "_law_k"]
theorem fs_law_words : FnScope N_law_words ["_law_purse_here", "_law_count"] (defScope s_law_words) := C8.fnScope_by (by decide +kernel)
def td_law_words : TSd := (tdSeq (tdSet 2 (tdFz (tdLst (tdCons (tdC (.str "put")) (tdCons (tdC (.str "strike")) (tdCons (tdC (.str "move")) (tdCons (tdC (.str "reach")) (tdCons (tdC (.str "back")) (tdCons (tdC (.str "stand")) (tdCons (tdC (.str "lots")) (tdCons (tdC (.str "beside")) (tdCons (tdC (.str "meeting")) (tdCons (tdC (.str "ladder")) (tdCons (tdC (.str "none")) (tdCons (tdC (.str "paper")) tdNil)))))))))))))))
  (tdSeq (tdUnp [3, 4] (tdCons (tdCall1 sc_law_pick (tdCons (tdVar 0) (tdCons (tdC (.int 12)) tdNil))) (tdCons (tdOp fIx (tdFz (tdLst (tdCons (tdC (.int 1)) (tdCons (tdC (.int 5)) (tdCons (tdC (.int 7)) (tdCons (tdC (.int 11)) tdNil)))))) (tdCall1 sc_law_pick (tdCons (tdVar 0) (tdCons (tdC (.int 4)) tdNil)))) tdNil)))
  (tdSeq (tdIf (tdAnd (tdB (tdOp fEq (tdCall1 sc_law_pick (tdCons (tdVar 0) (tdCons (tdC (.int 4)) tdNil))) (tdC (.int 1)))) (tdB (tdOp fLt (tdVar 1) (tdC (.int 13))))) (tdRet (tdFz (tdLc (wdRng1 (tdCons (tdVar 1) tdNil)) (.n 9) tdYes (tdOp fIx (tdVar 2) (tdOp fMod (tdOp fAdd (tdVar 3) (tdOp fMul (tdVar 4) (tdVar 9))) (tdC (.int 12)))) [9]))) tdNext)
  (tdSeq (tdSet 5 (tdC (.str "abcdefghijklmnopqrstuvwxyz")))
  (tdSeq (tdSet 6 (tdJoin (tdC (.str "")) (tdFz (tdLc (wdRng1 (tdCons (tdCall1 sc_law_pick (tdCons (tdVar 0) (tdCons (tdC (.int 8)) tdNil))) tdNil)) (.n 9) tdYes (tdOp fIxS (tdVar 5) (tdCall1 sc_law_pick (tdCons (tdVar 0) (tdCons (tdC (.int 26)) tdNil)))) [9]))))
  (tdSeq (tdUnp [7, 8] (tdCons (tdCall1 sc_law_pick (tdCons (tdVar 0) (tdCons (tdOp fAdd (td1 fLen (tdVar 6)) (tdC (.int 1))) tdNil))) (tdCons (tdCall1 sc_law_pick (tdCons (tdVar 0) (tdCons (tdC (.int 26)) tdNil))) tdNil)))
  (tdRet (tdFz (tdLc (wdRng1 (tdCons (tdVar 1) tdNil)) (.n 9) tdYes (tdOp fCatS (tdOp fCatS (tdSlS (tdVar 6) tdNoPart (tdPart (tdVar 7))) (tdOp fIxS (tdVar 5) (tdOp fMod (tdOp fAdd (tdVar 8) (tdOp fMul (tdVar 4) (tdVar 9))) (tdC (.int 26))))) (tdSlS (tdVar 6) (tdPart (tdVar 7)) tdNoPart)) [9])))))))))
theorem b_law_words (G : Gb K mg C) (h_law_pick : Has P w K mg base C "_law_pick" ["_law_purse_here", "_law_count"] 1 1 sc_law_pick) (cdv : Value) (A : Around) (outer : List PySem.Env) (s : Shared) (H : Hp) (E : XK) (hr : Room 1 (A.deeper (envOfC "_law_words" (defScope s_law_words) s.heap.objs.size f cdv))) :
    PSs (cxOf CX0 P w K mg base N_law_words "_law_words" (defScope s_law_words) f cdv A outer s H E).nox (defBody s_law_words) (uTS ⟨P, w, C⟩ td_law_words) :=
  have nd := fs_law_words.nd
  (js_cons (js_set (i := 2) nd rfl (.inr rfl) (jd_fz (jl_lst (ja_cons jd_str (ja_cons jd_str (ja_cons jd_str (ja_cons jd_str (ja_cons jd_str (ja_cons jd_str (ja_cons jd_str (ja_cons jd_str (ja_cons jd_str (ja_cons jd_str (ja_cons jd_str (ja_cons jd_str ja_nil)))))))))))))))
  (js_cons (js_unp (is := [3, 4]) (ja_cons (jd_call1 h_law_pick hr (by decide) rfl (ja_cons (jd_var (pe_var (i := 0) rfl (.inr (.inl rfl)))) (ja_cons jd_int ja_nil))) (ja_cons (jd_ix (jd_fz (jl_lst (ja_cons jd_int (ja_cons jd_int (ja_cons jd_int (ja_cons jd_int ja_nil)))))) (jd_call1 h_law_pick hr (by decide) rfl (ja_cons (jd_var (pe_var (i := 0) rfl (.inr (.inl rfl)))) (ja_cons jd_int ja_nil)))) ja_nil)) (pg_tup rfl (pgs_cons (pg_name (i := 3) nd rfl (.inr rfl)) (pgs_cons (pg_name (i := 4) nd rfl (.inr rfl)) pgs_nil))))
  (js_cons (js_if (PW.pt (jw_and (jt_cmp (op_eqD hr.units) od_eq (jd_call1 h_law_pick hr (by decide) rfl (ja_cons (jd_var (pe_var (i := 0) rfl (.inr (.inl rfl)))) (ja_cons jd_int ja_nil))) jd_int rfl) (jw_and1 (jt_cmp op_lt od_lt (jd_var (pe_var (i := 1) rfl (.inl rfl))) jd_int rfl)))) (js_one (js_ret (jd_fz (jl_lc (own := [("_law_k", 9)]) (t := (.n 9)) rfl nd (ji_rng1 rfl G.range (ja_cons (jd_var (pe_var (i := 1) rfl (.inl rfl))) ja_nil)) (blkOk_by (N := N_law_words) (sc := (defScope s_law_words)) (by decide +kernel)) (by decide) (fun _ _ _ _ _ => (pg_name (i := 9) nd rfl (.inl rfl))) (fun _ _ _ _ _ => jts_nil) (fun _ _ _ _ _ => (jd_ix (jd_var (pe_var (i := 2) rfl (.inr (.inl rfl)))) (jd_mod (jd_add (jd_var (pe_var (i := 3) rfl (.inr (.inl rfl)))) (jd_mul (jd_var (pe_var (i := 4) rfl (.inr (.inl rfl)))) (jd_var (pe_var (i := 9) rfl (.inl rfl))))) jd_int))))))) js_nil)
  (js_cons (js_set (i := 5) nd rfl (.inr rfl) jd_str)
  (js_cons (js_set (i := 6) nd rfl (.inr rfl) (jd_join jd_str (jd_fz (jl_lc (own := [("_law_k", 9)]) (t := (.n 9)) rfl nd (ji_rng1 rfl G.range (ja_cons (jd_call1 h_law_pick hr (by decide) rfl (ja_cons (jd_var (pe_var (i := 0) rfl (.inr (.inl rfl)))) (ja_cons jd_int ja_nil))) ja_nil)) (blkOk_by (N := N_law_words) (sc := (defScope s_law_words)) (by decide +kernel)) (by decide) (fun _ _ _ _ _ => (pg_name (i := 9) nd rfl (.inl rfl))) (fun _ _ _ _ _ => jts_nil) (fun _ _ _ _ _ => (jd_ixS (jd_var (pe_var (i := 5) rfl (.inr (.inl rfl)))) (jd_call1 h_law_pick hr (by decide) rfl (ja_cons (jd_var (pe_var (i := 0) rfl (.inr (.inl rfl)))) (ja_cons jd_int ja_nil)))))))))
  (js_cons (js_unp (is := [7, 8]) (ja_cons (jd_call1 h_law_pick hr (by decide) rfl (ja_cons (jd_var (pe_var (i := 0) rfl (.inr (.inl rfl)))) (ja_cons (jd_add (jd_len rfl G.len (jd_var (pe_var (i := 6) rfl (.inr (.inl rfl))))) jd_int) ja_nil))) (ja_cons (jd_call1 h_law_pick hr (by decide) rfl (ja_cons (jd_var (pe_var (i := 0) rfl (.inr (.inl rfl)))) (ja_cons jd_int ja_nil))) ja_nil)) (pg_tup rfl (pgs_cons (pg_name (i := 7) nd rfl (.inr rfl)) (pgs_cons (pg_name (i := 8) nd rfl (.inr rfl)) pgs_nil))))
  (js_one (js_ret (jd_fz (jl_lc (own := [("_law_k", 9)]) (t := (.n 9)) rfl nd (ji_rng1 rfl G.range (ja_cons (jd_var (pe_var (i := 1) rfl (.inl rfl))) ja_nil)) (blkOk_by (N := N_law_words) (sc := (defScope s_law_words)) (by decide +kernel)) (by decide) (fun _ _ _ _ _ => (pg_name (i := 9) nd rfl (.inl rfl))) (fun _ _ _ _ _ => jts_nil) (fun _ _ _ _ _ => (jd_catS (jd_catS (jd_slS (jd_var (pe_var (i := 6) rfl (.inr (.inl rfl)))) jo_none (jo_some (jd_var (pe_var (i := 7) rfl (.inr (.inl rfl)))))) (jd_ixS (jd_var (pe_var (i := 5) rfl (.inr (.inl rfl)))) (jd_mod (jd_add (jd_var (pe_var (i := 8) rfl (.inr (.inl rfl)))) (jd_mul (jd_var (pe_var (i := 4) rfl (.inr (.inl rfl)))) (jd_var (pe_var (i := 9) rfl (.inl rfl))))) jd_int))) (jd_slS (jd_var (pe_var (i := 6) rfl (.inr (.inl rfl)))) (jo_some (jd_var (pe_var (i := 7) rfl (.inr (.inl rfl))))) jo_none)))))))))))))
abbrev N_law_strange : List Str := ["_law_words_here", "_law_word", "_law_k"]
theorem fs_law_strange : FnScope N_law_strange ["_law_words_here"] (defScope s_law_strange) := C8.fnScope_by (by decide +kernel)
def td_law_strange : TSd := (tdRet (tdOp fIx (tdFz (tdLc (wdList (tdFz (tdLc (wdRng2 (tdCons (tdC (.int 1)) (tdCons (tdC (.int 9)) tdNil))) (.n 2) tdYes (tdOp fMulS (tdC (.str "q")) (tdVar 2)) [2]))) (.n 1) (tdB (tdOp (fIn true) (tdVar 1) (tdVar 0))) (tdVar 1) [1])) (tdC (.int 0))))
theorem b_law_strange (G : Gb K mg C)  (cdv : Value) (A : Around) (outer : List PySem.Env) (s : Shared) (H : Hp) (E : XK) (hr : Room 0 (A.deeper (envOfC "_law_strange" (defScope s_law_strange) s.heap.objs.size f cdv))) :
    PSs (cxOf CX0 P w K mg base N_law_strange "_law_strange" (defScope s_law_strange) f cdv A outer s H E).nox (defBody s_law_strange) (uTS ⟨P, w, C⟩ td_law_strange) :=
  have nd := fs_law_strange.nd
  (js_one (js_ret (jd_ix (jd_fz (jl_lc (own := [("_law_word", 1)]) (t := (.n 1)) rfl nd (ji_list (jd_fz (jl_lc (own := [("_law_k", 2)]) (t := (.n 2)) rfl nd (ji_rng2 rfl G.range (ja_cons jd_int (ja_cons jd_int ja_nil))) (blkOk_by (N := N_law_strange) (sc := (defScope s_law_strange)) (by decide +kernel)) (by decide) (fun _ _ _ _ _ => (pg_name (i := 2) nd rfl (.inl rfl))) (fun _ _ _ _ _ => jts_nil) (fun _ _ _ _ _ => (jd_mulS jd_str (jd_var (pe_var (i := 2) rfl (.inl rfl)))))))) (blkOk_by (N := N_law_strange) (sc := (defScope s_law_strange)) (by decide +kernel)) (by decide) (fun _ _ _ _ _ => (pg_name (i := 1) nd rfl (.inl rfl))) (fun _ _ _ _ _ => (jts_one (jt_cmp (op_notInA hr.u65) od_in (jd_var (pe_var (i := 1) rfl (.inl rfl))) (jd_var (pe_var (i := 0) rfl (.inr (.inl rfl)))) rfl))) (fun _ _ _ _ _ => (jd_var (pe_var (i := 1) rfl (.inl rfl)))))) jd_int)))
abbrev N_law_some_piece : List Str := ["_law_purse_here", "_law_grove_here"]
theorem fs_law_some_piece : FnScope N_law_some_piece ["_law_purse_here", "_law_grove_here"] (defScope s_law_some_piece) := C8.fnScope_by (by decide +kernel)
def td_law_some_piece : TSd := (tdSeq (tdIf (tdB (tdOp fEq (tdCall1 sc_law_pick (tdCons (tdVar 0) (tdCons (tdC (.int 2)) tdNil))) (tdC (.int 0)))) (tdRet (tdCall0 sc_law_alone (tdCons (tdCall1 sc_law_point (tdCons (tdVar 0) (tdCons (tdVar 1) tdNil))) tdNil))) tdNext)
  (tdRet (tdCall1 sc_law_piece (tdCons (tdVar 0) (tdCons (tdVar 1) tdNil)))))
theorem b_law_some_piece (G : Gb K mg C) (h_law_pick : Has P w K mg base C "_law_pick" ["_law_purse_here", "_law_count"] 1 1 sc_law_pick) (h_law_piece : Has P w K mg base C "_law_piece" ["_law_purse_here", "_law_grove_here"] 3 1 sc_law_piece) (h_law_point : Has P w K mg base C "_law_point" ["_law_purse_here", "_law_grove_here"] 2 1 sc_law_point) (h_law_alone : Has P w K mg base C "_law_alone" ["_law_point_here"] 1 0 sc_law_alone) (cdv : Value) (A : Around) (outer : List PySem.Env) (s : Shared) (H : Hp) (E : XK) (hr : Room 3 (A.deeper (envOfC "_law_some_piece" (defScope s_law_some_piece) s.heap.objs.size f cdv))) :
    PSs (cxOf CX0 P w K mg base N_law_some_piece "_law_some_piece" (defScope s_law_some_piece) f cdv A outer s H E).nox (defBody s_law_some_piece) (uTS ⟨P, w, C⟩ td_law_some_piece) :=
  have nd := fs_law_some_piece.nd
  (js_cons (js_if (jt_cmp (op_eqD hr.units) od_eq (jd_call1 h_law_pick hr (by decide) rfl (ja_cons (jd_var (pe_var (i := 0) rfl (.inl rfl))) (ja_cons jd_int ja_nil))) jd_int rfl) (js_one (js_ret (jd_call0 h_law_alone hr (by decide) rfl (ja_cons (jd_call1 h_law_point hr (by decide) rfl (ja_cons (jd_var (pe_var (i := 0) rfl (.inl rfl))) (ja_cons (jd_var (pe_var (i := 1) rfl (.inl rfl))) ja_nil))) ja_nil)))) js_nil)
  (js_one (js_ret (jd_call1 h_law_piece hr (by decide) rfl (ja_cons (jd_var (pe_var (i := 0) rfl (.inl rfl))) (ja_cons (jd_var (pe_var (i := 1) rfl (.inl rfl))) ja_nil))))))
abbrev N_law_along : List Str := ["_law_purse_here", "_law_wide", "_law_count", "_law_grove_here", "_law_pieces", "_law_roll", "_law_word", "_law_spot", "_law_k"]
theorem fs_law_along : FnScope N_law_along ["_law_purse_here"] (defScope s_law_along) := C8.fnScope_by (by decide +kernel)
def td_law_along : TSd := (tdSeq (tdPar 1 2 (tdOp fAdd (tdC (.int 1)) (tdCall1 sc_law_pick (tdCons (tdVar 0) (tdCons (tdC (.int 3)) tdNil)))) (tdOp fAdd (tdC (.int 2)) (tdCall1 sc_law_pick (tdCons (tdVar 0) (tdCons (tdC (.int 6)) tdNil)))))
  (tdSeq (tdSet 3 (tdOp fCatT (tdTup (tdCons (tdRgT1 (tdC (.int 11))) tdNil)) (tdSlT (tdCall1 sc_law_grove (tdCons (tdVar 0) (tdCons (tdC (.int 2)) (tdCons (tdC (.int 3)) tdNil)))) tdNoPart (tdPart (tdCall1 sc_law_pick (tdCons (tdVar 0) (tdCons (tdC (.int 3)) tdNil)))))))
  (tdSeq (tdSet 4 (tdOwn (tdSlL (tdFz (tdLc (wdRng3 (tdCons (tdC (.int 0)) (tdCons (tdC (.int 12)) (tdCons (tdVar 1) tdNil)))) (.n 7) tdYes (tdOp fCatT (tdTup (tdCons (tdTup (tdCons (tdVar 7) tdNil)) tdNil)) (tdOp fMulT (tdTup (tdCons (tdTup (tdCons (tdC (.int 0)) tdNil)) tdNil)) (tdOp fSub (td1 fLen (tdVar 3)) (tdC (.int 1))))) [7])) tdNoPart (tdPart (tdVar 2)))))
  (tdSeq (tdSet 4 (tdOwn (tdCat (tdVar 4) (tdFz (tdLc (wdRng1 (tdCons (tdCall1 sc_law_pick (tdCons (tdVar 0) (tdCons (tdC (.int 4)) tdNil))) tdNil)) (.n 8) tdYes (tdCall1 sc_law_some_piece (tdCons (tdVar 0) (tdCons (tdVar 3) tdNil))) [8])))))
  (tdSeq (tdSet 5 (tdOwn (tdLst tdNil)))
  (tdSeq (tdFor (wdList (tdCall1 sc_law_words (tdCons (tdVar 0) (tdCons (td1 fLen (tdVar 4)) tdNil)))) (.n 6) (tdDrop (tdM fApp (tdVar 5) (tdCons (tdTup (tdCons (tdVar 6) (tdCons (tdM fPopAt (tdVar 4) (tdCons (tdCall1 sc_law_pick (tdCons (tdVar 0) (tdCons (td1 fLen (tdVar 4)) tdNil))) tdNil)) tdNil))) tdNil))))
  (tdRet (tdTup (tdCons (tdVar 3) (tdCons (td1 fTupleOf (tdVar 5)) (tdCons (tdVar 1) tdNil)))))))))))
theorem b_law_along (G : Gb K mg C) (h_law_pick : Has P w K mg base C "_law_pick" ["_law_purse_here", "_law_count"] 1 1 sc_law_pick) (h_law_grove : Has P w K mg base C "_law_grove" ["_law_purse_here", "_law_upto", "_law_most"] 3 1 sc_law_grove) (h_law_words : Has P w K mg base C "_law_words" ["_law_purse_here", "_law_count"] 2 1 sc_law_words) (h_law_some_piece : Has P w K mg base C "_law_some_piece" ["_law_purse_here", "_law_grove_here"] 4 1 sc_law_some_piece) (cdv : Value) (A : Around) (outer : List PySem.Env) (s : Shared) (H : Hp) (E : XK) (hr : Room 4 (A.deeper (envOfC "_law_along" (defScope s_law_along) s.heap.objs.size f cdv))) :
    PSs (cxOf CX0 P w K mg base N_law_along "_law_along" (defScope s_law_along) f cdv A outer s H E).nox (defBody s_law_along) (uTS ⟨P, w, C⟩ td_law_along) :=
  have nd := fs_law_along.nd
  (js_cons (js_par (i := 1) (j := 2) rfl nd rfl rfl (by decide) rfl rfl (jd_add jd_int (jd_call1 h_law_pick hr (by decide) rfl (ja_cons (jd_var (pe_var (i := 0) rfl (.inr (.inl rfl)))) (ja_cons jd_int ja_nil)))) (jd_add jd_int (jd_call1 h_law_pick hr (by decide) rfl (ja_cons (jd_var (pe_var (i := 0) rfl (.inr (.inl rfl)))) (ja_cons jd_int ja_nil)))) rfl)
  (js_cons (js_set (i := 3) nd rfl (.inr rfl) (jd_catT (jd_tup (ja_cons (jd_rgT rfl rfl G.tuple rfl G.range jd_int) ja_nil)) (jd_slT (jd_call1 h_law_grove hr (by decide) rfl (ja_cons (jd_var (pe_var (i := 0) rfl (.inr (.inl rfl)))) (ja_cons jd_int (ja_cons jd_int ja_nil)))) jo_none (jo_some (jd_call1 h_law_pick hr (by decide) rfl (ja_cons (jd_var (pe_var (i := 0) rfl (.inr (.inl rfl)))) (ja_cons jd_int ja_nil)))))))
  (js_cons (js_set (i := 4) nd rfl (.inl rfl) (jd_own (jl_sl (jd_fz (jl_lc (own := [("_law_spot", 7)]) (t := (.n 7)) rfl nd (ji_rng3 rfl G.range (ja_cons jd_int (ja_cons jd_int (ja_cons (jd_var (pe_var (i := 1) rfl (.inl rfl))) ja_nil)))) (blkOk_by (N := N_law_along) (sc := (defScope s_law_along)) (by decide +kernel)) (by decide) (fun _ _ _ _ _ => (pg_name (i := 7) nd rfl (.inl rfl))) (fun _ _ _ _ _ => jts_nil) (fun _ _ _ _ _ => (jd_catT (jd_tup (ja_cons (jd_tup (ja_cons (jd_var (pe_var (i := 7) rfl (.inl rfl))) ja_nil)) ja_nil)) (jd_mulT (jd_tup (ja_cons (jd_tup (ja_cons jd_int ja_nil)) ja_nil)) (jd_sub (jd_len rfl G.len (jd_var (pe_var (i := 3) rfl (.inr (.inl rfl))))) jd_int)))))) jo_none (jo_some (jd_var (pe_var (i := 2) rfl (.inl rfl)))))))
  (js_cons (js_set (i := 4) nd rfl (.inl rfl) (jd_own (jl_cat (jd_var (pe_var (i := 4) rfl (.inl rfl))) (jd_fz (jl_lc (own := [("_law_k", 8)]) (t := (.n 8)) rfl nd (ji_rng1 rfl G.range (ja_cons (jd_call1 h_law_pick hr (by decide) rfl (ja_cons (jd_var (pe_var (i := 0) rfl (.inr (.inl rfl)))) (ja_cons jd_int ja_nil))) ja_nil)) (blkOk_by (N := N_law_along) (sc := (defScope s_law_along)) (by decide +kernel)) (by decide) (fun _ _ _ _ _ => (pg_name (i := 8) nd rfl (.inl rfl))) (fun _ _ _ _ _ => jts_nil) (fun _ _ _ _ _ => (jd_call1 h_law_some_piece hr (by decide) rfl (ja_cons (jd_var (pe_var (i := 0) rfl (.inr (.inl rfl)))) (ja_cons (jd_var (pe_var (i := 3) rfl (.inr (.inl rfl)))) ja_nil)))))))))
  (js_cons (js_set (i := 5) nd rfl (.inl rfl) (jd_own (jl_lst ja_nil)))
  (js_cons (js_for (t := (.n 6)) PassesOwn.never rfl (ji_list (jd_call1 h_law_words hr (by decide) rfl (ja_cons (jd_var (pe_var (i := 0) rfl (.inr (.inl rfl)))) (ja_cons (jd_len rfl G.len (jd_var (pe_var (i := 4) rfl (.inl rfl)))) ja_nil)))) (pg_name (i := 6) nd rfl (.inl rfl)) (js_one (js_expr (jm_append (jd_var (pe_var (i := 5) rfl (.inl rfl))) (jd_tup (ja_cons (jd_var (pe_var (i := 6) rfl (.inl rfl))) (ja_cons (jm_popAt (jd_var (pe_var (i := 4) rfl (.inl rfl))) (jd_call1 h_law_pick hr (by decide) rfl (ja_cons (jd_var (pe_var (i := 0) rfl (.inr (.inl rfl)))) (ja_cons (jd_len rfl G.len (jd_var (pe_var (i := 4) rfl (.inl rfl)))) ja_nil)))) ja_nil)))))))
  (js_one (js_ret (jd_tup (ja_cons (jd_var (pe_var (i := 3) rfl (.inr (.inl rfl)))) (ja_cons (jd_tupleOf rfl G.tuple (jd_var (pe_var (i := 5) rfl (.inl rfl)))) (ja_cons (jd_var (pe_var (i := 1) rfl (.inl rfl))) ja_nil))))))))))))
abbrev N_law_scene : List Str := ["_law_purse_here", "_law_grove_here", "_law_roll", "_law_word"]
theorem fs_law_scene : FnScope N_law_scene ["_law_purse_here"] (defScope s_law_scene) := C8.fnScope_by (by decide +kernel)
def td_law_scene : TSd := (tdSeq (tdIf (tdB (tdOp fEq (tdCall1 sc_law_pick (tdCons (tdVar 0) (tdCons (tdC (.int 2)) tdNil))) (tdC (.int 0)))) (tdRet (tdCall1 sc_law_along (tdCons (tdVar 0) tdNil))) tdNext)
  (tdSeq (tdPar 1 2 (tdCall1 sc_law_grove (tdCons (tdVar 0) (tdCons (tdC (.int 3)) (tdCons (tdC (.int 6)) tdNil)))) (tdOwn (tdLst tdNil)))
  (tdSeq (tdFor (wdList (tdCall1 sc_law_words (tdCons (tdVar 0) (tdCons (tdOp fAdd (tdC (.int 2)) (tdCall1 sc_law_pick (tdCons (tdVar 0) (tdCons (tdC (.int 7)) tdNil)))) tdNil)))) (.n 3) (tdDrop (tdM fApp (tdVar 2) (tdCons (tdTup (tdCons (tdVar 3) (tdCons (tdCall1 sc_law_some_piece (tdCons (tdVar 0) (tdCons (tdVar 1) tdNil))) tdNil))) tdNil))))
  (tdRet (tdTup (tdCons (tdVar 1) (tdCons (td1 fTupleOf (tdVar 2)) (tdCons (tdCall1 sc_law_pick (tdCons (tdVar 0) (tdCons (tdC (.int 4)) tdNil))) tdNil))))))))
theorem b_law_scene (G : Gb K mg C) (h_law_pick : Has P w K mg base C "_law_pick" ["_law_purse_here", "_law_count"] 1 1 sc_law_pick) (h_law_grove : Has P w K mg base C "_law_grove" ["_law_purse_here", "_law_upto", "_law_most"] 3 1 sc_law_grove) (h_law_words : Has P w K mg base C "_law_words" ["_law_purse_here", "_law_count"] 2 1 sc_law_words) (h_law_some_piece : Has P w K mg base C "_law_some_piece" ["_law_purse_here", "_law_grove_here"] 4 1 sc_law_some_piece) (h_law_along : Has P w K mg base C "_law_along" ["_law_purse_here"] 5 1 sc_law_along) (cdv : Value) (A : Around) (outer : List PySem.Env) (s : Shared) (H : Hp) (E : XK) (hr : Room 5 (A.deeper (envOfC "_law_scene" (defScope s_law_scene) s.heap.objs.size f cdv))) :
    PSs (cxOf CX0 P w K mg base N_law_scene "_law_scene" (defScope s_law_scene) f cdv A outer s H E).nox (defBody s_law_scene) (uTS ⟨P, w, C⟩ td_law_scene) :=
  have nd := fs_law_scene.nd
  (js_cons (js_if (jt_cmp (op_eqD hr.units) od_eq (jd_call1 h_law_pick hr (by decide) rfl (ja_cons (jd_var (pe_var (i := 0) rfl (.inl rfl))) (ja_cons jd_int ja_nil))) jd_int rfl) (js_one (js_ret (jd_call1 h_law_along hr (by decide) rfl (ja_cons (jd_var (pe_var (i := 0) rfl (.inl rfl))) ja_nil)))) js_nil)
  (js_cons (js_par (i := 1) (j := 2) rfl nd rfl rfl (by decide) rfl rfl (jd_call1 h_law_grove hr (by decide) rfl (ja_cons (jd_var (pe_var (i := 0) rfl (.inl rfl))) (ja_cons jd_int (ja_cons jd_int ja_nil)))) (jd_own (jl_lst ja_nil)) rfl)
  (js_cons (js_for (t := (.n 3)) PassesOwn.never rfl (ji_list (jd_call1 h_law_words hr (by decide) rfl (ja_cons (jd_var (pe_var (i := 0) rfl (.inl rfl))) (ja_cons (jd_add jd_int (jd_call1 h_law_pick hr (by decide) rfl (ja_cons (jd_var (pe_var (i := 0) rfl (.inl rfl))) (ja_cons jd_int ja_nil)))) ja_nil)))) (pg_name (i := 3) nd rfl (.inl rfl)) (js_one (js_expr (jm_append (jd_var (pe_var (i := 2) rfl (.inl rfl))) (jd_tup (ja_cons (jd_var (pe_var (i := 3) rfl (.inl rfl))) (ja_cons (jd_call1 h_law_some_piece hr (by decide) rfl (ja_cons (jd_var (pe_var (i := 0) rfl (.inl rfl))) (ja_cons (jd_var (pe_var (i := 1) rfl (.inl rfl))) ja_nil))) ja_nil)))))))
  (js_one (js_ret (jd_tup (ja_cons (jd_var (pe_var (i := 1) rfl (.inl rfl))) (ja_cons (jd_tupleOf rfl G.tuple (jd_var (pe_var (i := 2) rfl (.inl rfl)))) (ja_cons (jd_call1 h_law_pick hr (by decide) rfl (ja_cons (jd_var (pe_var (i := 0) rfl (.inl rfl))) (ja_cons jd_int ja_nil))) ja_nil)))))))))
abbrev N_law_inner : List Str := ["_law_purse_here", "_law_piece_here", "_law_limb_here"]
theorem fs_law_inner : FnScope N_law_inner ["_law_purse_here", "_law_piece_here"] (defScope s_law_inner) := C8.fnScope_by (by decide +kernel)
def td_law_inner : TSd := (tdRet (td1 fTupleOf (tdFz (tdLc (wdTup (tdVar 1)) (.n 2) tdYes (tdTup (tdCons (tdOp fIx (tdVar 2) (tdCall1 sc_law_pick (tdCons (tdVar 0) (tdCons (td1 fLen (tdVar 2)) tdNil)))) tdNil)) [2]))))
theorem b_law_inner (G : Gb K mg C) (h_law_pick : Has P w K mg base C "_law_pick" ["_law_purse_here", "_law_count"] 1 1 sc_law_pick) (cdv : Value) (A : Around) (outer : List PySem.Env) (s : Shared) (H : Hp) (E : XK) (hr : Room 1 (A.deeper (envOfC "_law_inner" (defScope s_law_inner) s.heap.objs.size f cdv))) :
    PSs (cxOf CX0 P w K mg base N_law_inner "_law_inner" (defScope s_law_inner) f cdv A outer s H E).nox (defBody s_law_inner) (uTS ⟨P, w, C⟩ td_law_inner) :=
  have nd := fs_law_inner.nd
  (js_one (js_ret (jd_tupleOf rfl G.tuple (jd_fz (jl_lc (own := [("_law_limb_here", 2)]) (t := (.n 2)) rfl nd (ji_tup (jd_var (pe_var (i := 1) rfl (.inl rfl)))) (blkOk_by (N := N_law_inner) (sc := (defScope s_law_inner)) (by decide +kernel)) (by decide) (fun _ _ _ _ _ => (pg_name (i := 2) nd rfl (.inl rfl))) (fun _ _ _ _ _ => jts_nil) (fun _ _ _ _ _ => (jd_tup (ja_cons (jd_ix (jd_var (pe_var (i := 2) rfl (.inl rfl))) (jd_call1 h_law_pick hr (by decide) rfl (ja_cons (jd_var (pe_var (i := 0) rfl (.inr (.inl rfl)))) (ja_cons (jd_len rfl G.len (jd_var (pe_var (i := 2) rfl (.inl rfl)))) ja_nil)))) ja_nil))))))))
abbrev N_law_more : List Str := ["_law_purse_here", "_law_roll", "_law_stood", "_law_twins", "_law_found", "_law_known", "_law_fresh", "_law_k", "_law_word", "_law_mate", "_law_piece_here", "_law_pair"]
theorem fs_law_more : FnScope N_law_more ["_law_purse_here", "_law_roll", "_law_stood", "_law_twins"] (defScope s_law_more) := C8.fnScope_by (by decide +kernel)
def td_law_more : TSd := (tdSeq (tdPar3 4 5 6 (tdOwn (tl1 fListOf (tdVar 1))) (tdOwn (tdLc (wdTup (tdVar 1)) (.n 11) tdYes (tdOp fIx (tdVar 11) (tdC (.int 0))) [11])) (tdOwn (tdLst tdNil)))
  (tdSeq (tdFor (wdRng1 (tdCons (tdC (.int 3)) tdNil)) (.n 7) (tdSeq (tdSet 8 (tdCallL sc_law_strange (tdVar 5)))
  (tdSeq (tdAsg (.t [9, 10]) (tdOp fIx (tdVar 1) (tdCall1 sc_law_pick (tdCons (tdVar 0) (tdCons (td1 fLen (tdVar 1)) tdNil)))))
  (tdSeq (tdIf (tdNot (tdB (tdVar 3))) (tdPar 9 10 (tdC .none) (tdCall1 sc_law_inner (tdCons (tdVar 0) (tdCons (tdOp fIx (tdVar 2) (tdCall1 sc_law_pick (tdCons (tdVar 0) (tdCons (td1 fLen (tdVar 2)) tdNil)))) tdNil)))) tdNext)
  (tdSeq (tdDrop (tdM fIns (tdVar 4) (tdCons (tdCall1 sc_law_pick (tdCons (tdVar 0) (tdCons (tdOp fAdd (td1 fLen (tdVar 4)) (tdC (.int 1))) tdNil))) (tdCons (tdTup (tdCons (tdVar 8) (tdCons (tdVar 10) tdNil))) tdNil))))
  (tdSeq (tdDrop (tdM fApp (tdVar 5) (tdCons (tdVar 8) tdNil)))
  (tdDrop (tdM fApp (tdVar 6) (tdCons (tdTup (tdCons (tdVar 8) (tdCons (tdVar 9) tdNil))) tdNil)))))))))
  (tdRet (tdTup (tdCons (td1 fTupleOf (tdVar 4)) (tdCons (tdThaw (tdVar 6)) tdNil))))))
theorem b_law_more (G : Gb K mg C) (h_law_pick : Has P w K mg base C "_law_pick" ["_law_purse_here", "_law_count"] 1 1 sc_law_pick) (h_law_strange : Has P w K mg base C "_law_strange" ["_law_words_here"] 1 0 sc_law_strange) (h_law_inner : Has P w K mg base C "_law_inner" ["_law_purse_here", "_law_piece_here"] 2 1 sc_law_inner) (cdv : Value) (A : Around) (outer : List PySem.Env) (s : Shared) (H : Hp) (E : XK) (hr : Room 2 (A.deeper (envOfC "_law_more" (defScope s_law_more) s.heap.objs.size f cdv))) :
    PSs (cxOf CX0 P w K mg base N_law_more "_law_more" (defScope s_law_more) f cdv A outer s H E).nox (defBody s_law_more) (uTS ⟨P, w, C⟩ td_law_more) :=
  have nd := fs_law_more.nd
  (js_cons (js_par3 (i := 4) (j := 5) (l := 6) rfl nd rfl rfl rfl (by decide) (by decide) (by decide) rfl rfl rfl (jd_own (jl_listOf rfl G.list (jd_var (pe_var (i := 1) rfl (.inl rfl))))) (jd_own (jl_lc (own := [("_law_pair", 11)]) (t := (.n 11)) rfl nd (ji_tup (jd_var (pe_var (i := 1) rfl (.inl rfl)))) (blkOk_by (N := N_law_more) (sc := (defScope s_law_more)) (by decide +kernel)) (by decide) (fun _ _ _ _ _ => (pg_name (i := 11) nd rfl (.inl rfl))) (fun _ _ _ _ _ => jts_nil) (fun _ _ _ _ _ => (jd_ix (jd_var (pe_var (i := 11) rfl (.inl rfl))) jd_int)))) (jd_own (jl_lst ja_nil)) rfl)
  (js_cons (js_for (t := (.n 7)) PassesOwn.never rfl (ji_rng1 rfl G.range (ja_cons jd_int ja_nil)) (pg_name (i := 7) nd rfl (.inl rfl)) (js_cons (js_set (i := 8) nd rfl (.inl rfl) (jd_callL h_law_strange hr (by decide) rfl (jd_var (pe_var (i := 5) rfl (.inl rfl)))))
  (js_cons (js_asg (t := (.t [9, 10])) (jd_ix (jd_var (pe_var (i := 1) rfl (.inl rfl))) (jd_call1 h_law_pick hr (by decide) rfl (ja_cons (jd_var (pe_var (i := 0) rfl (.inl rfl))) (ja_cons (jd_len rfl G.len (jd_var (pe_var (i := 1) rfl (.inl rfl)))) ja_nil)))) (pg_tup rfl (pgs_cons (pg_name (i := 9) nd rfl (.inl rfl)) (pgs_cons (pg_name (i := 10) nd rfl (.inl rfl)) pgs_nil))))
  (js_cons (js_if (jt_not (jt_val (jd_var (pe_var (i := 3) rfl (.inl rfl))))) (js_one (js_par (i := 9) (j := 10) rfl nd rfl rfl (by decide) rfl rfl jd_non (jd_call1 h_law_inner hr (by decide) rfl (ja_cons (jd_var (pe_var (i := 0) rfl (.inl rfl))) (ja_cons (jd_ix (jd_var (pe_var (i := 2) rfl (.inl rfl))) (jd_call1 h_law_pick hr (by decide) rfl (ja_cons (jd_var (pe_var (i := 0) rfl (.inl rfl))) (ja_cons (jd_len rfl G.len (jd_var (pe_var (i := 2) rfl (.inl rfl)))) ja_nil)))) ja_nil))) rfl)) js_nil)
  (js_cons (js_expr (jm_insert (jd_var (pe_var (i := 4) rfl (.inl rfl))) (jd_call1 h_law_pick hr (by decide) rfl (ja_cons (jd_var (pe_var (i := 0) rfl (.inl rfl))) (ja_cons (jd_add (jd_len rfl G.len (jd_var (pe_var (i := 4) rfl (.inl rfl)))) jd_int) ja_nil))) (jd_tup (ja_cons (jd_var (pe_var (i := 8) rfl (.inl rfl))) (ja_cons (jd_var (pe_var (i := 10) rfl (.inl rfl))) ja_nil)))))
  (js_cons (js_expr (jm_append (jd_var (pe_var (i := 5) rfl (.inl rfl))) (jd_var (pe_var (i := 8) rfl (.inl rfl)))))
  (js_one (js_expr (jm_append (jd_var (pe_var (i := 6) rfl (.inl rfl))) (jd_tup (ja_cons (jd_var (pe_var (i := 8) rfl (.inl rfl))) (ja_cons (jd_var (pe_var (i := 9) rfl (.inl rfl))) ja_nil))))))))))))
  (js_one (js_ret (jd_tup (ja_cons (jd_tupleOf rfl G.tuple (jd_var (pe_var (i := 4) rfl (.inl rfl)))) (ja_cons (jd_thaw (jd_var (pe_var (i := 6) rfl (.inl rfl)))) ja_nil)))))))
abbrev N_law_spare : List Str := ["_law_purse_here", "_law_home", "_law_more_here", "_law_others", "_law_both", "_law_wide", "_law_first", "_law_last", "_law_found", "_law_word"]
theorem fs_law_spare : FnScope N_law_spare ["_law_purse_here", "_law_home", "_law_more_here", "_law_others", "_law_both", "_law_wide"] (defScope s_law_spare) := C8.fnScope_by (by decide +kernel)
def td_law_spare : TSd := (tdSeq (tdPar 6 7 (tdOp fIx (tdVar 3) (tdCall1 sc_law_pick (tdCons (tdVar 0) (tdCons (td1 fLen (tdVar 3)) tdNil)))) (tdOp fIx (tdVar 3) (tdCall1 sc_law_pick (tdCons (tdVar 0) (tdCons (td1 fLen (tdVar 3)) tdNil)))))
  (tdSeq (tdIf (tdNot (tdB (tdCallK 4 sc_together (tdCons (tdVar 1) (tdCons (tdVar 2) (tdCons (tdVar 6) (tdCons (tdVar 7) tdNil)))) (tdVar 5)))) (tdRet (tdC (.bool true))) tdNext)
  (tdSeq (tdSet 8 (tdCallK 4 sc_needed (tdCons (tdVar 1) (tdCons (tdVar 2) (tdCons (tdVar 6) (tdCons (tdVar 7) tdNil)))) (tdVar 5)))
  (tdRet (tdNotV (td1 fAny (tdFz (tdLc (wdTup (tdVar 4)) (.n 9) tdYes (tdOp (fIn false) (tdVar 9) (tdVar 8)) [9]))))))))
theorem b_law_spare (G : Gb K mg C) (h_together : HasK P w K mg base C "together" ["world", "book", "one", "other", "reach"] 4 ["reach"] 8 sc_together) (h_needed : HasK P w K mg base C "needed" ["world", "book", "one", "other", "reach"] 4 ["reach"] 9 sc_needed) (h_law_pick : Has P w K mg base C "_law_pick" ["_law_purse_here", "_law_count"] 1 1 sc_law_pick) (cdv : Value) (A : Around) (outer : List PySem.Env) (s : Shared) (H : Hp) (E : XK) (hr : Room 9 (A.deeper (envOfC "_law_spare" (defScope s_law_spare) s.heap.objs.size f cdv))) :
    PSs (cxOf CX0 P w K mg base N_law_spare "_law_spare" (defScope s_law_spare) f cdv A outer s H E).nox (defBody s_law_spare) (uTS ⟨P, w, C⟩ td_law_spare) :=
  have nd := fs_law_spare.nd
  (js_cons (js_par (i := 6) (j := 7) rfl nd rfl rfl (by decide) rfl rfl (jd_ix (jd_var (pe_var (i := 3) rfl (.inl rfl))) (jd_call1 h_law_pick hr (by decide) rfl (ja_cons (jd_var (pe_var (i := 0) rfl (.inl rfl))) (ja_cons (jd_len rfl G.len (jd_var (pe_var (i := 3) rfl (.inl rfl)))) ja_nil)))) (jd_ix (jd_var (pe_var (i := 3) rfl (.inl rfl))) (jd_call1 h_law_pick hr (by decide) rfl (ja_cons (jd_var (pe_var (i := 0) rfl (.inl rfl))) (ja_cons (jd_len rfl G.len (jd_var (pe_var (i := 3) rfl (.inl rfl)))) ja_nil)))) rfl)
  (js_cons (js_if (jt_not (jt_val (jd_callK h_together hr (by decide) rfl (ja_cons (jd_var (pe_var (i := 1) rfl (.inl rfl))) (ja_cons (jd_var (pe_var (i := 2) rfl (.inl rfl))) (ja_cons (jd_var (pe_var (i := 6) rfl (.inl rfl))) (ja_cons (jd_var (pe_var (i := 7) rfl (.inl rfl))) ja_nil)))) (jd_var (pe_var (i := 5) rfl (.inl rfl)))))) (js_one (js_ret jd_bl)) js_nil)
  (js_cons (js_set (i := 8) nd rfl (.inr rfl) (jd_callK h_needed hr (by decide) rfl (ja_cons (jd_var (pe_var (i := 1) rfl (.inl rfl))) (ja_cons (jd_var (pe_var (i := 2) rfl (.inl rfl))) (ja_cons (jd_var (pe_var (i := 6) rfl (.inl rfl))) (ja_cons (jd_var (pe_var (i := 7) rfl (.inl rfl))) ja_nil)))) (jd_var (pe_var (i := 5) rfl (.inl rfl)))))
  (js_one (js_ret (jd_not (jd_any rfl rfl G.any (jd_fz (jl_lc (own := [("_law_word", 9)]) (t := (.n 9)) rfl nd (ji_tup (jd_var (pe_var (i := 4) rfl (.inl rfl)))) (blkOk_by (N := N_law_spare) (sc := (defScope s_law_spare)) (by decide +kernel)) (by decide) (fun _ _ _ _ _ => (pg_name (i := 9) nd rfl (.inl rfl))) (fun _ _ _ _ _ => jts_nil) (fun _ _ _ _ _ => (jd_cmp (op_inA hr.u65) od_in (jd_var (pe_var (i := 9) rfl (.inl rfl))) (jd_var (pe_var (i := 8) rfl (.inr (.inl rfl)))) rfl)))))))))))
abbrev N_law_twins_right : List Str := ["_law_purse_here", "_law_home", "_law_roll", "_law_more_here", "_law_fresh", "_law_wide", "_law_known", "_law_word", "_law_mate", "_law_others", "_law_pair", "_law_own"]
theorem fs_law_twins_right : FnScope N_law_twins_right ["_law_purse_here", "_law_home", "_law_roll", "_law_more_here", "_law_fresh", "_law_wide"] (defScope s_law_twins_right) := C8.fnScope_by (by decide +kernel)
def td_law_twins_right : TSd := (tdSeq (tdIf (tdB (tdOp fNe (tdCall0 sc_ladder (tdCons (tdVar 1) (tdCons (tdVar 3) tdNil))) (tdCall0 sc_ladder (tdCons (tdVar 1) (tdCons (tdVar 2) tdNil))))) (tdRet (tdC (.bool false))) tdNext)
  (tdSeq (tdSet 6 (tdFz (tdLc (wdTup (tdVar 2)) (.n 10) tdYes (tdOp fIx (tdVar 10) (tdC (.int 0))) [10])))
  (tdSeq (tdFor (wdList (tdVar 4)) (.t [7, 8]) (tdSeq (tdIf (tdOr (tdB (tdOp fNe (tdCall0 sc_meeting (tdCons (tdVar 1) (tdCons (tdVar 3) (tdCons (tdVar 7) (tdCons (tdVar 8) tdNil))))) (tdC (.int 0)))) (tdNot (tdB (tdCallK 4 sc_together (tdCons (tdVar 1) (tdCons (tdVar 3) (tdCons (tdVar 7) (tdCons (tdVar 8) tdNil)))) (tdC (.int 0)))))) (tdRet (tdC (.bool false))) tdNext)
  (tdSeq (tdSet 9 (tdFz (tdLc (wdList (tdVar 6)) (.n 11) (tdB (tdOp fNe (tdVar 11) (tdVar 8))) (tdVar 11) [11])))
  (tdIf (tdNot (tdB (tdCall1 sc_law_spare (tdCons (tdVar 0) (tdCons (tdVar 1) (tdCons (tdVar 3) (tdCons (tdVar 9) (tdCons (tdTup (tdCons (tdVar 7) (tdCons (tdVar 8) tdNil))) (tdCons (tdVar 5) tdNil))))))))) (tdRet (tdC (.bool false))) tdNext))))
  (tdRet (td1 fAll (tdFz (tdLc (wdList (tdVar 6)) (.n 7) tdYes (tdOp fEq (tdCall0 sc_meeting (tdCons (tdVar 1) (tdCons (tdVar 3) (tdCons (tdOp fIx (tdVar 6) (tdC (.int 0))) (tdCons (tdVar 7) tdNil))))) (tdCall0 sc_meeting (tdCons (tdVar 1) (tdCons (tdVar 2) (tdCons (tdOp fIx (tdVar 6) (tdC (.int 0))) (tdCons (tdVar 7) tdNil)))))) [7])))))))
theorem b_law_twins_right (G : Gb K mg C) (h_together : HasK P w K mg base C "together" ["world", "book", "one", "other", "reach"] 4 ["reach"] 8 sc_together) (h_meeting : Has P w K mg base C "meeting" ["world", "book", "one", "other"] 8 0 sc_meeting) (h_ladder : Has P w K mg base C "ladder" ["world", "book"] 8 0 sc_ladder) (h_law_spare : Has P w K mg base C "_law_spare" ["_law_purse_here", "_law_home", "_law_more_here", "_law_others", "_law_both", "_law_wide"] 10 1 sc_law_spare) (cdv : Value) (A : Around) (outer : List PySem.Env) (s : Shared) (H : Hp) (E : XK) (hr : Room 10 (A.deeper (envOfC "_law_twins_right" (defScope s_law_twins_right) s.heap.objs.size f cdv))) :
    PSs (cxOf CX0 P w K mg base N_law_twins_right "_law_twins_right" (defScope s_law_twins_right) f cdv A outer s H E).nox (defBody s_law_twins_right) (uTS ⟨P, w, C⟩ td_law_twins_right) :=
  have nd := fs_law_twins_right.nd
  (js_cons (js_if (jt_cmp (op_neD hr.units) od_ne (jd_call0 h_ladder hr (by decide) rfl (ja_cons (jd_var (pe_var (i := 1) rfl (.inr (.inl rfl)))) (ja_cons (jd_var (pe_var (i := 3) rfl (.inr (.inl rfl)))) ja_nil))) (jd_call0 h_ladder hr (by decide) rfl (ja_cons (jd_var (pe_var (i := 1) rfl (.inr (.inl rfl)))) (ja_cons (jd_var (pe_var (i := 2) rfl (.inr (.inl rfl)))) ja_nil))) rfl) (js_one (js_ret jd_bl)) js_nil)
  (js_cons (js_set (i := 6) nd rfl (.inr rfl) (jd_fz (jl_lc (own := [("_law_pair", 10)]) (t := (.n 10)) rfl nd (ji_tup (jd_var (pe_var (i := 2) rfl (.inr (.inl rfl))))) (blkOk_by (N := N_law_twins_right) (sc := (defScope s_law_twins_right)) (by decide +kernel)) (by decide) (fun _ _ _ _ _ => (pg_name (i := 10) nd rfl (.inl rfl))) (fun _ _ _ _ _ => jts_nil) (fun _ _ _ _ _ => (jd_ix (jd_var (pe_var (i := 10) rfl (.inl rfl))) jd_int)))))
  (js_cons (js_for (t := (.t [7, 8])) PassesOwn.never rfl (ji_list (jd_var (pe_var (i := 4) rfl (.inl rfl)))) (pg_tup rfl (pgs_cons (pg_name (i := 7) nd rfl (.inl rfl)) (pgs_cons (pg_name (i := 8) nd rfl (.inr rfl)) pgs_nil))) (js_cons (js_if (PW.pt (jw_or (jt_cmp (op_neD hr.units) od_ne (jd_call0 h_meeting hr (by decide) rfl (ja_cons (jd_var (pe_var (i := 1) rfl (.inr (.inl rfl)))) (ja_cons (jd_var (pe_var (i := 3) rfl (.inr (.inl rfl)))) (ja_cons (jd_var (pe_var (i := 7) rfl (.inl rfl))) (ja_cons (jd_var (pe_var (i := 8) rfl (.inr (.inl rfl)))) ja_nil))))) jd_int rfl) (jw_or1 (jt_not (jt_val (jd_callK h_together hr (by decide) rfl (ja_cons (jd_var (pe_var (i := 1) rfl (.inr (.inl rfl)))) (ja_cons (jd_var (pe_var (i := 3) rfl (.inr (.inl rfl)))) (ja_cons (jd_var (pe_var (i := 7) rfl (.inl rfl))) (ja_cons (jd_var (pe_var (i := 8) rfl (.inr (.inl rfl)))) ja_nil)))) jd_int)))))) (js_one (js_ret jd_bl)) js_nil)
  (js_cons (js_setLcF (own := [("_law_own", 11)]) (i := 9) rfl nd rfl rfl (sw_true rfl rfl rfl (by decide +kernel)) (ji_list (jd_var (pe_var (i := 6) rfl (.inr (.inl rfl))))) (blkOk_by (N := N_law_twins_right) (sc := (defScope s_law_twins_right)) (by decide +kernel)) (by decide) (fun _ _ _ _ _ => (pg_name (i := 11) nd rfl (.inl rfl))) (fun _ _ _ _ _ => (jts_one (jt_cmp (op_neD hr.units) od_ne (jd_var (pe_var (i := 11) rfl (.inl rfl))) (jd_var (pe_var (i := 8) rfl (.inr (.inl rfl)))) rfl))) (fun _ _ _ _ _ => (jd_var (pe_var (i := 11) rfl (.inl rfl)))))
  (js_one (js_if (jt_not (jt_val (jd_call1 h_law_spare hr (by decide) rfl (ja_cons (jd_var (pe_var (i := 0) rfl (.inl rfl))) (ja_cons (jd_var (pe_var (i := 1) rfl (.inr (.inl rfl)))) (ja_cons (jd_var (pe_var (i := 3) rfl (.inr (.inl rfl)))) (ja_cons (jd_var (pe_var (i := 9) rfl (.inl rfl))) (ja_cons (jd_tup (ja_cons (jd_var (pe_var (i := 7) rfl (.inl rfl))) (ja_cons (jd_var (pe_var (i := 8) rfl (.inr (.inl rfl)))) ja_nil))) (ja_cons (jd_var (pe_var (i := 5) rfl (.inl rfl))) ja_nil))))))))) (js_one (js_ret jd_bl)) js_nil)))))
  (js_one (js_ret (jd_all rfl rfl G.all (jd_fz (jl_lc (own := [("_law_word", 7)]) (t := (.n 7)) rfl nd (ji_list (jd_var (pe_var (i := 6) rfl (.inr (.inl rfl))))) (blkOk_by (N := N_law_twins_right) (sc := (defScope s_law_twins_right)) (by decide +kernel)) (by decide) (fun _ _ _ _ _ => (pg_name (i := 7) nd rfl (.inl rfl))) (fun _ _ _ _ _ => jts_nil) (fun _ _ _ _ _ => (jd_cmp (op_eqD hr.units) od_eq (jd_call0 h_meeting hr (by decide) rfl (ja_cons (jd_var (pe_var (i := 1) rfl (.inr (.inl rfl)))) (ja_cons (jd_var (pe_var (i := 3) rfl (.inr (.inl rfl)))) (ja_cons (jd_ix (jd_var (pe_var (i := 6) rfl (.inr (.inl rfl)))) jd_int) (ja_cons (jd_var (pe_var (i := 7) rfl (.inl rfl))) ja_nil))))) (jd_call0 h_meeting hr (by decide) rfl (ja_cons (jd_var (pe_var (i := 1) rfl (.inr (.inl rfl)))) (ja_cons (jd_var (pe_var (i := 2) rfl (.inr (.inl rfl)))) (ja_cons (jd_ix (jd_var (pe_var (i := 6) rfl (.inr (.inl rfl)))) jd_int) (ja_cons (jd_var (pe_var (i := 7) rfl (.inl rfl))) ja_nil))))) rfl))))))))))
abbrev N_law_right : List Str := ["_law_purse_here", "_law_grove_here", "_law_roll", "_law_wide", "_law_home", "_law_twins", "_law_stood", "_law_more_here", "_law_fresh", "_law_words_more", "_law_ahead", "_law_found", "_law_piece_here", "_law_lot", "_law_word", "_law_mate", "_law_pair"]
theorem fs_law_right : FnScope N_law_right ["_law_purse_here"] (defScope s_law_right) := C8.fnScope_by (by decide +kernel)
def td_law_right : TSd := (tdSeq (tdAsg (.t [1, 2, 3]) (tdCall1 sc_law_scene (tdCons (tdVar 0) tdNil)))
  (tdSeq (tdPar 4 5 (tdMakeW sc_World_init (tdVar 1)) (tdOp fEq (tdCall1 sc_law_pick (tdCons (tdVar 0) (tdCons (tdC (.int 2)) tdNil))) (tdC (.int 0))))
  (tdSeq (tdSet 6 (tdCallK 2 sc_stand (tdCons (tdVar 4) (tdCons (tdVar 2) tdNil)) (tdVar 3)))
  (tdSeq (tdAsg (.t [7, 8]) (tdCall1 sc_law_more (tdCons (tdVar 0) (tdCons (tdVar 2) (tdCons (tdVar 6) (tdCons (tdVar 5) tdNil))))))
  (tdSeq (tdIf (tdB (tdOp fNe (tdCallK 2 sc_stand (tdCons (tdVar 4) (tdCons (tdVar 7) tdNil)) (tdVar 3)) (tdVar 6))) (tdRet (tdC (.bool false))) tdNext)
  (tdSeq (tdUnp [9, 10, 11] (tdCons (tdFz (tdLc (wdList (tdVar 8)) (.t [14, 15]) tdYes (tdVar 14) [14, 15])) (tdCons (tdOwn (tdLst tdNil)) (tdCons (tdOwn (tdLst tdNil)) tdNil))))
  (tdSeq (tdFor (wdTup (tdCallK 2 sc_lots (tdCons (tdVar 4) (tdCons (tdVar 7) tdNil)) (tdVar 3))) (.t [12, 13]) (tdSeq (tdDrop (tdM fApp (tdVar 10) (tdCons (tdTup (tdCons (tdVar 12) (tdCons (td1 fTupleOf (tdFz (tdLc (wdTup (tdVar 13)) (.n 14) (tdB (tdOp (fIn true) (tdVar 14) (tdVar 9))) (tdVar 14) [14]))) tdNil))) tdNil)))
  (tdDrop (tdM fExtT (tdVar 11) (tdCons (tdVar 13) tdNil)))))
  (tdSeq (tdIf (tdOr (tdB (tdOp fNe (td1 fTupleOf (tdVar 10)) (tdCallK 2 sc_lots (tdCons (tdVar 4) (tdCons (tdVar 2) tdNil)) (tdVar 3)))) (tdB (tdOp fNe (tdFz (tl1 fSorted (tdVar 11))) (tdFz (tl1 fSorted (tdFz (tdLc (wdTup (tdVar 7)) (.n 16) tdYes (tdOp fIx (tdVar 16) (tdC (.int 0))) [16]))))))) (tdRet (tdC (.bool false))) tdNext)
  (tdRet (tdOrV (tdNotV (tdVar 5)) (tdCall1 sc_law_twins_right (tdCons (tdVar 0) (tdCons (tdVar 4) (tdCons (tdVar 2) (tdCons (tdVar 7) (tdCons (tdVar 8) (tdCons (tdVar 3) tdNil)))))))))))))))))
theorem b_law_right (G : Gb K mg C) (h_World_init : HasW P w K mg base C ["self", "trees"] 4 sc_World_init) (h_stand : HasK P w K mg base C "stand" ["world", "book", "reach"] 2 ["reach"] 8 sc_stand) (h_lots : HasK P w K mg base C "lots" ["world", "book", "reach"] 2 ["reach"] 8 sc_lots) (h_law_pick : Has P w K mg base C "_law_pick" ["_law_purse_here", "_law_count"] 1 1 sc_law_pick) (h_law_scene : Has P w K mg base C "_law_scene" ["_law_purse_here"] 6 1 sc_law_scene) (h_law_more : Has P w K mg base C "_law_more" ["_law_purse_here", "_law_roll", "_law_stood", "_law_twins"] 3 1 sc_law_more) (h_law_twins_right : Has P w K mg base C "_law_twins_right" ["_law_purse_here", "_law_home", "_law_roll", "_law_more_here", "_law_fresh", "_law_wide"] 11 1 sc_law_twins_right) (cdv : Value) (A : Around) (outer : List PySem.Env) (s : Shared) (H : Hp) (E : XK) (hr : Room 11 (A.deeper (envOfC "_law_right" (defScope s_law_right) s.heap.objs.size f cdv))) :
    PSs (cxOf CX0 P w K mg base N_law_right "_law_right" (defScope s_law_right) f cdv A outer s H E).nox (defBody s_law_right) (uTS ⟨P, w, C⟩ td_law_right) :=
  have nd := fs_law_right.nd
  (js_cons (js_asg (t := (.t [1, 2, 3])) (jd_call1 h_law_scene hr (by decide) rfl (ja_cons (jd_var (pe_var (i := 0) rfl (.inl rfl))) ja_nil)) (pg_tup rfl (pgs_cons (pg_name (i := 1) nd rfl (.inl rfl)) (pgs_cons (pg_name (i := 2) nd rfl (.inl rfl)) (pgs_cons (pg_name (i := 3) nd rfl (.inl rfl)) pgs_nil)))))
  (js_cons (js_par (i := 4) (j := 5) rfl nd rfl rfl (by decide) rfl rfl (jd_makeW h_World_init hr (by decide) rfl G.World (jd_var (pe_var (i := 1) rfl (.inl rfl)))) (jd_cmp (op_eqD hr.units) od_eq (jd_call1 h_law_pick hr (by decide) rfl (ja_cons (jd_var (pe_var (i := 0) rfl (.inl rfl))) (ja_cons jd_int ja_nil))) jd_int rfl) rfl)
  (js_cons (js_set (i := 6) nd rfl (.inl rfl) (jd_callK h_stand hr (by decide) rfl (ja_cons (jd_var (pe_var (i := 4) rfl (.inl rfl))) (ja_cons (jd_var (pe_var (i := 2) rfl (.inl rfl))) ja_nil)) (jd_var (pe_var (i := 3) rfl (.inl rfl)))))
  (js_cons (js_asg (t := (.t [7, 8])) (jd_call1 h_law_more hr (by decide) rfl (ja_cons (jd_var (pe_var (i := 0) rfl (.inl rfl))) (ja_cons (jd_var (pe_var (i := 2) rfl (.inl rfl))) (ja_cons (jd_var (pe_var (i := 6) rfl (.inl rfl))) (ja_cons (jd_var (pe_var (i := 5) rfl (.inl rfl))) ja_nil))))) (pg_tup rfl (pgs_cons (pg_name (i := 7) nd rfl (.inl rfl)) (pgs_cons (pg_name (i := 8) nd rfl (.inl rfl)) pgs_nil))))
  (js_cons (js_if (jt_cmp (op_neD hr.units) od_ne (jd_callK h_stand hr (by decide) rfl (ja_cons (jd_var (pe_var (i := 4) rfl (.inl rfl))) (ja_cons (jd_var (pe_var (i := 7) rfl (.inl rfl))) ja_nil)) (jd_var (pe_var (i := 3) rfl (.inl rfl)))) (jd_var (pe_var (i := 6) rfl (.inl rfl))) rfl) (js_one (js_ret jd_bl)) js_nil)
  (js_cons (js_unp (is := [9, 10, 11]) (ja_cons (jd_fz (jl_lc (own := [("_law_word", 14), ("_law_mate", 15)]) (t := (.t [14, 15])) rfl nd (ji_list (jd_var (pe_var (i := 8) rfl (.inl rfl)))) (blkOk_by (N := N_law_right) (sc := (defScope s_law_right)) (by decide +kernel)) (by decide) (fun _ _ _ _ _ => (pg_tup rfl (pgs_cons (pg_name (i := 14) nd rfl (.inl rfl)) (pgs_cons (pg_name (i := 15) nd rfl (.inl rfl)) pgs_nil)))) (fun _ _ _ _ _ => jts_nil) (fun _ _ _ _ _ => (jd_var (pe_var (i := 14) rfl (.inl rfl)))))) (ja_cons (jd_own (jl_lst ja_nil)) (ja_cons (jd_own (jl_lst ja_nil)) ja_nil))) (pg_tup rfl (pgs_cons (pg_name (i := 9) nd rfl (.inr rfl)) (pgs_cons (pg_name (i := 10) nd rfl (.inl rfl)) (pgs_cons (pg_name (i := 11) nd rfl (.inl rfl)) pgs_nil)))))
  (js_cons (js_for (t := (.t [12, 13])) PassesOwn.never rfl (ji_tup (jd_callK h_lots hr (by decide) rfl (ja_cons (jd_var (pe_var (i := 4) rfl (.inl rfl))) (ja_cons (jd_var (pe_var (i := 7) rfl (.inl rfl))) ja_nil)) (jd_var (pe_var (i := 3) rfl (.inl rfl))))) (pg_tup rfl (pgs_cons (pg_name (i := 12) nd rfl (.inl rfl)) (pgs_cons (pg_name (i := 13) nd rfl (.inl rfl)) pgs_nil))) (js_cons (js_expr (jm_append (jd_var (pe_var (i := 10) rfl (.inl rfl))) (jd_tup (ja_cons (jd_var (pe_var (i := 12) rfl (.inl rfl))) (ja_cons (jd_tupleOf rfl G.tuple (jd_fz (jl_lc (own := [("_law_word", 14)]) (t := (.n 14)) rfl nd (ji_tup (jd_var (pe_var (i := 13) rfl (.inl rfl)))) (blkOk_by (N := N_law_right) (sc := (defScope s_law_right)) (by decide +kernel)) (by decide) (fun _ _ _ _ _ => (pg_name (i := 14) nd rfl (.inl rfl))) (fun _ _ _ _ _ => (jts_one (jt_cmp (op_notInA hr.u65) od_in (jd_var (pe_var (i := 14) rfl (.inl rfl))) (jd_var (pe_var (i := 9) rfl (.inr (.inl rfl)))) rfl))) (fun _ _ _ _ _ => (jd_var (pe_var (i := 14) rfl (.inl rfl))))))) ja_nil)))))
  (js_one (js_expr (jm_extT (jd_var (pe_var (i := 11) rfl (.inl rfl))) (jd_var (pe_var (i := 13) rfl (.inl rfl))))))))
  (js_cons (js_if (PW.pt (jw_or (jt_cmp (op_neD hr.units) od_ne (jd_tupleOf rfl G.tuple (jd_var (pe_var (i := 10) rfl (.inl rfl)))) (jd_callK h_lots hr (by decide) rfl (ja_cons (jd_var (pe_var (i := 4) rfl (.inl rfl))) (ja_cons (jd_var (pe_var (i := 2) rfl (.inl rfl))) ja_nil)) (jd_var (pe_var (i := 3) rfl (.inl rfl)))) rfl) (jw_or1 (jt_cmp (op_neD hr.units) od_ne (jd_fz (jl_sorted hr rfl G.sorted (jd_var (pe_var (i := 11) rfl (.inl rfl))))) (jd_fz (jl_sorted hr rfl G.sorted (jd_fz (jl_lc (own := [("_law_pair", 16)]) (t := (.n 16)) rfl nd (ji_tup (jd_var (pe_var (i := 7) rfl (.inl rfl)))) (blkOk_by (N := N_law_right) (sc := (defScope s_law_right)) (by decide +kernel)) (by decide) (fun _ _ _ _ _ => (pg_name (i := 16) nd rfl (.inl rfl))) (fun _ _ _ _ _ => jts_nil) (fun _ _ _ _ _ => (jd_ix (jd_var (pe_var (i := 16) rfl (.inl rfl))) jd_int)))))) rfl)))) (js_one (js_ret jd_bl)) js_nil)
  (js_one (js_ret (jd_or (jd_not (jd_var (pe_var (i := 5) rfl (.inl rfl)))) (jd_one (jd_call1 h_law_twins_right hr (by decide) rfl (ja_cons (jd_var (pe_var (i := 0) rfl (.inl rfl))) (ja_cons (jd_var (pe_var (i := 4) rfl (.inl rfl))) (ja_cons (jd_var (pe_var (i := 2) rfl (.inl rfl))) (ja_cons (jd_var (pe_var (i := 7) rfl (.inl rfl))) (ja_cons (jd_var (pe_var (i := 8) rfl (.inl rfl))) (ja_cons (jd_var (pe_var (i := 3) rfl (.inl rfl))) ja_nil)))))))))))))))))))
abbrev N_law : List Str := ["_law_script", "_law_k"]
theorem fs_law : FnScope N_law ["_law_script"] (defScope s_law) := C8.fnScope_by (by decide +kernel)
def td_law : TSd := (tdRet (td1 fAll (tdFz (tdLc (wdRng1 (tdCons (tdOp fMax2 (tdC (.int 2)) (tdOp fMin2 (td1 fLen (tdVar 0)) (tdC (.int 5)))) tdNil)) (.n 1) tdYes (tdCall1 sc_law_right (tdCons (tdPurse (tdCall0 sc_law_cell (tdCons (tdVar 0) (tdCons (tdVar 1) tdNil)))) tdNil)) [1]))))
theorem b_law (G : Gb K mg C) (h_law_cell : Has P w K mg base C "_law_cell" ["_law_script", "_law_k"] 1 0 sc_law_cell) (h_law_purse : HasP P w K mg base "_law_purse" ["_law_cell_here"] 1) (h_law_right : Has P w K mg base C "_law_right" ["_law_purse_here"] 12 1 sc_law_right) (cdv : Value) (A : Around) (outer : List PySem.Env) (s : Shared) (H : Hp) (E : XK) (hr : Room 12 (A.deeper (envOfC "law" (defScope s_law) s.heap.objs.size f cdv))) :
    PSs (cxOf CX0 P w K mg base N_law "law" (defScope s_law) f cdv A outer s H E).nox (defBody s_law) (uTS ⟨P, w, C⟩ td_law) :=
  have nd := fs_law.nd
  (js_one (js_ret (jd_all rfl rfl G.all (jd_fz (jl_lc (own := [("_law_k", 1)]) (t := (.n 1)) rfl nd (ji_rng1 rfl G.range (ja_cons (jd_max2 rfl rfl G.max jd_int (jd_min2 rfl rfl G.min (jd_len rfl G.len (jd_var (pe_var (i := 0) rfl (.inr (.inl rfl))))) jd_int)) ja_nil)) (blkOk_by (N := N_law) (sc := (defScope s_law)) (by decide +kernel)) (by decide) (fun _ _ _ _ _ => (pg_name (i := 1) nd rfl (.inl rfl))) (fun _ _ _ _ _ => jts_nil) (fun _ _ _ _ _ => (jd_call1 h_law_right hr (by decide) rfl (ja_cons (jd_purse h_law_purse hr (by decide) rfl (jd_call0 h_law_cell hr (by decide) rfl (ja_cons (jd_var (pe_var (i := 0) rfl (.inr (.inl rfl)))) (ja_cons (jd_var (pe_var (i := 1) rfl (.inl rfl))) ja_nil)))) ja_nil))))))))
end
end JR
set_option maxHeartbeats 1000000
/-! JS20: what the law's readings give: cells, picks. -/
namespace JR
open PySem PySem.Spec PyProof.Rows L2 JM PySem.W

theorem h_law_cell : ∀ dvs R, sc_law_cell dvs R → td_law_cell (endsOf 0 R) (startD N_law_cell.length dvs) [] := by
  rintro dvs R ⟨s, k, rfl, hk, h⟩
  refine ⟨_, rfl, _, rfl, .inl ⟨_, rfl, _, _, rfl, rfl, _, rfl, ?_⟩⟩
  by_cases hlt : k < s.length
  · refine ifT (decide_eq_true (by rw [List.length_map]; omega)) ?_
    refine ⟨_, rfl, _, rfl, _, _, .int s[k], rfl, rfl, atI_nat ?_, rt0 (h _)⟩
    rw [List.getElem?_map, List.getElem?_eq_getElem hlt]; rfl
  · refine ifF (decide_eq_false (by rw [List.length_map]; omega)) ?_
    refine ⟨_, rfl, _, rfl, _, _, rfl, rfl, .inl (by omega), _, rfl, _, _, rfl, rfl, .inl (by decide), _, _, rfl, rfl, _, _, rfl, rfl, _, _, rfl, rfl, .inl (by decide), _, _, rfl, rfl, (by show (0 : Int) < 1000000289; decide), ?_⟩
    refine ⟨_, rfl, _, rfl, _, rfl, ?_⟩
    have ec : ∃ c : List Int, cutD (s.map PyData.int) none (some 4) = c.map .int := by
      unfold cutD
      rw [← List.map_drop, ← List.map_take]
      exact ⟨_, rfl⟩
    obtain ⟨c, ec⟩ := ec
    rw [ec]
    refine ⟨_, rfl, ?_⟩
    refine forGo_inv PyData.int (fun rem ρ μ => ∃ (n : Int) (a3 : Option DV), ρ = [some (.d (.list (s.map .int))), some (.d (eI k)), some (.d (.int n)), a3] ∧ μ = []) (fun _ _ _ _ => rfl) ?_ ?_ c _ _ ⟨_, _, rfl, rfl⟩
    · rintro ρ μ ⟨n, a3, rfl, rfl⟩
      exact ⟨_, rfl, rt0 (h n)⟩
    · rintro x xs ρ μ K ⟨n, a3, rfl, rfl⟩ hK
      refine ⟨_, rfl, _, _, rfl, rfl, .inr (by decide), _, rfl, _, _, rfl, rfl, _, _, rfl, rfl, (by show (0 : Int) < 1000000289; decide), ?_⟩
      exact hK _ _ ⟨_, _, rfl, rfl⟩
theorem h_law_pick : ∀ dvs R, sc_law_pick dvs R → td_law_pick (endsOf 1 R) (startD N_law_pick.length dvs) [.p] := by
  rintro dvs R ⟨n, rfl, hn, hn2, h⟩
  have fin : ∀ x : Int, R (.int (x % n)) := fun x => by
    have h1 := Int.emod_nonneg x (show n ≠ 0 by omega)
    have h2 := Int.emod_lt_of_pos x hn
    have := h (x % n).toNat (by omega)
    unfold eI at this
    rw [Int.toNat_of_nonneg h1] at this
    exact this
  refine ⟨_, rfl, _, _, rfl, rfl, rfl, by decide, by decide, fun n2 => ?_⟩
  refine ⟨_, _, rfl, rfl, _, rfl, _, _, _, rfl, rfl, rfl, rfl, by decide, by decide, ?_⟩
  refine ⟨_, rfl, _, _, rfl, rfl, rfl, by decide, by decide, fun n0 => ?_⟩
  refine ⟨_, _, rfl, rfl, (by show (0 : Int) < 1000000289; decide), ?_⟩
  have b1 := Int.emod_nonneg n0 (show (1000000289 : Int) ≠ 0 by decide)
  have b2 := Int.emod_lt_of_pos n0 (show (0 : Int) < 1000000289 by decide)
  refine ⟨_, rfl, _, rfl, _, _, rfl, rfl, (by show (0 : Int) < 50021; decide), _, _, rfl, rfl, _, _, rfl, rfl, .inl ⟨by omega, by omega⟩, ?_⟩
  refine ⟨_, rfl, _, _, rfl, rfl, rfl, by decide, by decide, fun n3 => ?_⟩
  refine ⟨_, _, rfl, rfl, .inl (by decide), _, _, rfl, rfl, _, rfl, _, _, _, rfl, rfl, rfl, rfl, by decide, by decide, ?_⟩
  refine ⟨_, rfl, _, _, rfl, rfl, rfl, by decide, by decide, fun n1 => ?_⟩
  refine ⟨_, _, rfl, rfl, _, rfl, ?_⟩
  by_cases hp : 0 < n1
  · refine ifT (decide_eq_true hp) ?_
    refine ⟨_, rfl, _, _, rfl, rfl, rfl, by decide, by decide, fun m1 => ?_⟩
    refine ⟨_, rfl, _, _, rfl, rfl, hn, ?_⟩
    refine ⟨_, rfl, _, _, rfl, rfl, rfl, by decide, by decide, fun m2 => ?_⟩
    refine ⟨_, rfl, _, _, rfl, rfl, ⟨hn, by omega⟩, _, rfl, _, _, _, rfl, rfl, rfl, rfl, by decide, by decide, ?_⟩
    exact ⟨_, rfl, rt1 (fin m1) rfl⟩
  · refine ifF (decide_eq_false hp) ?_
    refine ⟨_, rfl, _, _, rfl, rfl, rfl, by decide, by decide, fun m0 => ?_⟩
    refine ⟨_, _, rfl, rfl, (by show (0 : Int) < 1000000289; decide), _, _, rfl, rfl, ⟨by decide, by decide⟩, _, rfl, _, _, rfl, rfl, hn, rt1 (fin _) rfl⟩
end JR
set_option maxHeartbeats 1000000
/-! JS21: what the law's readings give: woods, groves. -/
namespace JR
open PySem PySem.Spec PyProof.Rows L2 JM PySem.W

theorem rel_eT {F : Nat → Nat → Prop} : ∀ {ds : List PyData} {n : Nat}, Paired (fun k d => ∃ v, F k v ∧ d = eI v) (List.range n) ds → ∃ t : List Nat, ds = t.map eI ∧ t.length = n ∧ ∀ k, k < n → F k (t.getD k 0) := by
  have key : ∀ {ks : List Nat} {ds : List PyData}, Paired (fun k d => ∃ v, F k v ∧ d = eI v) ks ds → ∃ t : List Nat, ds = t.map eI ∧ t.length = ks.length ∧ ∀ i, (h : i < ks.length) → F ks[i] (t.getD i 0) := by
    intro ks ds h
    induction h with
    | nil => exact ⟨[], rfl, rfl, fun i h => by simp at h⟩
    | cons r _ ih =>
      obtain ⟨v, hv, rfl⟩ := r
      obtain ⟨t, e, hl, ht⟩ := ih
      refine ⟨v :: t, by rw [e]; rfl, by simp [hl], fun i hi => ?_⟩
      cases i with
      | zero => exact hv
      | succ i => exact ht i (by simpa using hi)
  intro ds n h
  obtain ⟨t, e, hl, ht⟩ := key h
  refine ⟨t, e, by rw [hl, List.length_range], fun k hk => ?_⟩
  have := ht k (by rw [List.length_range]; exact hk)
  rwa [List.getElem_range] at this
theorem h_law_wood : ∀ dvs R, sc_law_wood dvs R → td_law_wood (endsOf 1 R) (startD N_law_wood.length dvs) [.p] := by
  rintro dvs R ⟨n, rfl, hn, hn2, h⟩
  refine ⟨_, rfl, 0, _, rfl, rfl, rfl, 3, rfl, by decide, by decide, fun i hi => ?_⟩
  refine ⟨_, rfl, _, rfl, 0, _, rfl, rfl, rfl, (n : Int), rfl, by omega, by omega, fun j hj => ⟨_, _, rfl, rfl, ?_⟩⟩
  refine ⟨rfl, by simp, ?_⟩
  refine ⟨_, rfl, _, _, rfl, rfl, _, rfl, by omega, by omega, ?_⟩
  rw [rng_eI' (n := j) (by omega)]
  refine lcGo_rel eI (fun k d => ∃ v, v ≤ k ∧ d = eI v) trivial (List.range j) [] (by simp; omega) (fun k hk R1 h1 => ?_) fun ds hds => ?_
  · have hk' := List.mem_range.mp hk
    refine ⟨_, rfl, _, rfl, _, rfl, _, _, rfl, rfl, 0, _, rfl, rfl, rfl, (k : Int) + 1, rfl, by omega, by omega, fun v hv => ?_⟩
    refine ⟨_, rfl, by simp, _, rfl, ?_⟩
    have hi3 : i = 0 ∨ i = 1 ∨ i = 2 := by omega
    rcases hi3 with e | e | e <;> subst e
    · exact ⟨_, _, eI k, rfl, rfl, atI_nat (j := 0) rfl, h1 _ ⟨k, Nat.le_refl k, rfl⟩⟩
    · exact ⟨_, _, eI 0, rfl, rfl, atI_nat (j := 1) rfl, h1 _ ⟨0, Nat.zero_le k, rfl⟩⟩
    · exact ⟨_, _, eI v, rfl, rfl, atI_nat (j := 2) rfl, h1 _ ⟨v, by omega, rfl⟩⟩
  · obtain ⟨t, e, hl, ht⟩ := rel_eT hds
    rw [List.nil_append, e]
    refine ⟨_, rfl, rt1 (h t (fun k hk => ht k (by omega)) (by omega)) rfl⟩
end JR
set_option maxHeartbeats 1000000
/-! JS22: what the law's readings give: groves, points. -/
namespace JR
open PySem PySem.Spec PyProof.Rows L2 JM PySem.W

theorem rel_map {α β γ : Type} {f : β → PyData} {g : γ → β → Prop} : ∀ {ks : List γ} {ds : List PyData}, Paired (fun k d => ∃ v, g k v ∧ d = f v) ks ds → ∃ t : List β, ds = t.map f ∧ Paired g ks t
  | _, _, .nil => ⟨[], rfl, .nil⟩
  | _, _, .cons r t => by
    obtain ⟨v, hv, rfl⟩ := r
    obtain ⟨l, e, hl⟩ := rel_map (α := α) t
    exact ⟨v :: l, by rw [e]; rfl, .cons hv hl⟩
theorem paired_length {β γ : Type} {g : γ → β → Prop} : ∀ {ks : List γ} {t : List β}, Paired g ks t → t.length = ks.length
  | _, _, .nil => rfl
  | _, _, .cons _ t => congrArg Nat.succ (paired_length t)
theorem paired_all {β γ : Type} {g : γ → β → Prop} {p : β → Prop} (h : ∀ k v, g k v → p v) : ∀ {ks : List γ} {t : List β}, Paired g ks t → ∀ v ∈ t, p v
  | _, _, .nil, v, hv => by simp at hv
  | _, _, .cons r t, v, hv => by
    rcases List.mem_cons.mp hv with e | hv
    · rw [e]; exact h _ _ r
    · exact paired_all h t v hv
theorem h_law_grove : ∀ dvs R, sc_law_grove dvs R → td_law_grove (endsOf 1 R) (startD N_law_grove.length dvs) [.p] := by
  rintro dvs R ⟨u, n, rfl, hu, hu4, hn, hn2, h⟩
  refine ⟨_, rfl, _, rfl, 0, _, rfl, rfl, rfl, (u : Int), rfl, by omega, by omega, fun j hj => ⟨_, _, rfl, rfl, _, rfl, by omega, by omega, ?_⟩⟩
  rw [rng_eI' (n := j + 1) (by omega)]
  refine lcGo_rel eI (fun k d => ∃ v : List Nat, (TreeOk v ∧ v.length < n) ∧ d = eT v) trivial (List.range (j + 1)) [] (by simp; omega) (fun k hk R1 h1 => ?_) fun ds hds => ?_
  · exact ⟨_, rfl, _, rfl, 0, _, rfl, rfl, rfl, n, rfl, hn, hn2, fun t ht hl => h1 _ ⟨t, ⟨ht, hl⟩, rfl⟩⟩
  · obtain ⟨ts, e, hp⟩ := rel_map (α := Nat) (f := eT) (g := fun _ v => TreeOk v ∧ v.length < n) hds
    have hl := paired_length hp
    rw [List.length_range] at hl
    rw [List.nil_append, e]
    exact ⟨_, rfl, rt1 (h ts (by omega) (by omega) (paired_all (p := fun t => TreeOk t ∧ t.length < n) (fun _ _ q => q) hp)) rfl⟩
theorem h_law_alone : ∀ dvs R, sc_law_alone dvs R → td_law_alone (endsOf 0 R) (startD N_law_alone.length dvs) [] := by
  rintro dvs R ⟨xs, rfl, hl, h⟩
  refine ⟨_, rfl, _, rfl, ?_⟩
  refine lcGo_map eI (fun x => eT [x]) trivial xs (by omega) (fun x hx R1 k => ⟨_, rfl, _, rfl, by simp, k⟩) ?_
  refine ⟨_, rfl, rt0 ?_⟩
  have e : eP (xs.map fun x => [x]) = .tuple (xs.map fun x => eT [x]) := by unfold eP; rw [List.map_map]; rfl
  rw [← e]; exact h
theorem one_ok {t : List Nat} {x : Nat} (h : x ≤ t.length) : BrOk t [x] := ⟨by simp, by simp, fun y hy => by simp at hy; omega, fun y hy ⟨z, hz, hlt⟩ => by simp at hy hz; omega⟩
theorem h_law_point : ∀ dvs R, sc_law_point dvs R → td_law_point (endsOf 1 R) (startD N_law_point.length dvs) [.p] := by
  rintro dvs R ⟨ts, rfl, hw, h⟩
  have h4 := hw.le
  refine ⟨_, rfl, _, rfl, ?_⟩
  refine lcGo_rel eT (fun (t : List Nat) d => ∃ x : Nat, x ≤ t.length ∧ d = eI x) trivial ts [] (by simp; omega) (fun t ht R1 h1 => ?_) fun ds hds => ?_
  · have ht2 := (hw.tree t ht).2
    refine ⟨_, rfl, _, rfl, .inl ⟨_, rfl, _, _, rfl, rfl, 0, _, rfl, rfl, rfl, _, rfl, by rw [List.length_map]; omega, by rw [List.length_map]; omega, fun x hx => h1 _ ⟨x, ?_, rfl⟩⟩⟩
    rw [List.length_map] at hx
    omega
  · obtain ⟨xs, e, hp⟩ := rel_map (α := Nat) (f := eI) (g := fun (t : List Nat) x => x ≤ t.length) hds
    rw [List.nil_append, e]
    refine ⟨_, rfl, rt1 (h xs ?_) rfl⟩
    have key : ∀ {ts : List (List Nat)} {xs : List Nat}, Paired (fun (t : List Nat) x => x ≤ t.length) ts xs → PartOk ts (xs.map fun x => [x]) := by
      intro ts xs hp
      induction hp with
      | nil => trivial
      | cons r _ ih => exact ⟨one_ok r, ih⟩
    exact key hp
theorem h_law_some_piece : ∀ dvs R, sc_law_some_piece dvs R → td_law_some_piece (endsOf 1 R) (startD N_law_some_piece.length dvs) [.p] := by
  rintro dvs R ⟨ts, rfl, hw, h⟩
  have h4 := hw.le
  refine ⟨_, rfl, 0, _, rfl, rfl, rfl, 2, rfl, by decide, by decide, fun i hi => ⟨_, _, rfl, rfl, sh_int _, sh_int _, _, rfl, ?_⟩⟩
  rw [show PyData.eqv (eI i) (.int 0) = decide ((i : Int) = 0) from eqv_int _ _]
  by_cases e : ((i : Nat) : Int) = 0
  · refine ifT (decide_eq_true e) ?_
    refine ⟨_, rfl, _, rfl, 0, _, rfl, rfl, rfl, ts, rfl, hw, fun xs hxs => ⟨rfl, xs, rfl, ?_, rt1 (h _ hxs) rfl⟩⟩
    have := part_len hxs
    rw [List.length_map] at this
    omega
  · refine ifF (decide_eq_false e) ?_
    exact ⟨_, rfl, _, rfl, 0, _, rfl, rfl, rfl, ts, rfl, hw, fun p hp => rt1 (h p hp) rfl⟩
end JR
set_option maxHeartbeats 1000000
/-! JS23: what the law's readings give: its own gaps, limbs. -/
namespace JR
open PySem PySem.Spec PyProof.Rows L2 JM PySem.W

/-- the rows for the first n places -/
def rowN (t : List Nat) (n x : Nat) : PyData := eL ((List.range n).map fun y => dist t x y)
def gapN (t : List Nat) (n : Nat) : List PyData := (List.range n).map (rowN t n)
theorem zip2_same {α : Type} (f g : α → PyData) (ks : List α) : zip2D (ks.map f) (ks.map g) = ks.map fun k => .tuple [f k, g k] := by
  rw [zip2_map]
  induction ks with
  | nil => rfl
  | cons k ks ih => rw [List.zip_cons_cons, List.map_cons, List.map_cons, ih]
theorem range_snoc (n : Nat) {β : Type} (f : Nat → β) : (List.range (n + 1)).map f = (List.range n).map f ++ [f n] := by rw [List.range_succ, List.map_append]; rfl
theorem h_law_gaps : ∀ dvs R, sc_law_gaps dvs R → td_law_gaps (endsOf 0 R) (startD N_law_gaps.length dvs) [] := by
  rintro dvs R ⟨t, rfl, ht, h⟩
  have ht2 := ht.2
  refine ⟨_, rfl, by simp, _, rfl, by simp, ?_⟩
  refine ⟨_, rfl, _, rfl, ?_⟩
  refine forGo_inv eI (fun rem ρ μ => ∃ (n : Nat) (a2 a3 a4 a5 : Option DV), ρ = [some (.d (eT t)), some (.d (.list (gapN t (n + 1)))), a2, a3, a4, a5] ∧ μ = [] ∧ rem = t.drop n ∧ n ≤ t.length) (fun _ _ _ _ => trivial) ?_ ?_ t _ _ ⟨0, none, none, none, none, ?_, rfl, rfl, Nat.zero_le _⟩
  · rintro ρ μ ⟨n, a2, a3, a4, a5, rfl, rfl, e, hn⟩
    have hn2 : n = t.length := by
      have := congrArg List.length e
      simp at this
      omega
    subst hn2
    exact ⟨_, rfl, rt0 h⟩
  · rintro u xs ρ μ K ⟨n, a2, a3, a4, a5, rfl, rfl, e, hn⟩ hK
    have hlt : n < t.length := by
      have := congrArg List.length e
      simp at this
      omega
    rw [List.drop_eq_getElem_cons hlt, List.cons.injEq] at e
    have hu : u = pr t (n + 1) := by
      rw [pr_eq ht.1 (by omega) (by omega), e.1, List.getD_eq_getElem?_getD]
      simp [hlt]
    have hul : u ≤ n := by have := pr_lt (t := t) (x := n + 1) (by omega); omega
    refine ⟨_, rfl, _, rfl, _, _, rowN t (n + 1) u, rfl, rfl, atI_nat ?_, ?_⟩
    · unfold gapN
      rw [List.getElem?_map, List.getElem?_range (by omega)]; rfl
    refine ⟨_, rfl, ?_⟩
    refine lcGo_map eI (fun d => eI (d + 1)) (by rfl) ((List.range (n + 1)).map fun y => dist t u y) (by simp; omega) (fun y hy R1 h1 => ⟨_, rfl, _, _, rfl, rfl, h1⟩) ?_
    have e4 : (((List.range (n + 1)).map fun y => dist t u y).map fun d => eI (d + 1)) = (List.range (n + 1)).map fun y => eI (dist t u y + 1) := by rw [List.map_map]; rfl
    rw [e4]
    refine ⟨_, rfl, _, rfl, _, _, _, _, rfl, rfl, rfl, ?_⟩
    unfold gapN
    rw [zip2_same]
    refine lcGo_map _ (rowN t (n + 2)) ⟨rfl, rfl⟩ (List.range (n + 1)) (by simp; omega) (fun k hk R1 h1 => ?_) ?_
    · have hk' := List.mem_range.mp hk
      refine ⟨_, rfl, rfl, _, rfl, _, rfl, _, rfl, by simp, _, _, rfl, rfl, by simp; omega, ?_⟩
      have e2 : rowN t (n + 2) k = .list (((List.range (n + 1)).map fun y => dist t k y).map eI ++ [eI (dist t u k + 1)]) := by
        unfold rowN eL
        rw [range_snoc (n + 1), List.map_append]
        have e3 : dist t k (n + 1) = dist t u k + 1 := by rw [dist_lt (by omega), ← hu, dist_comm]
        rw [e3]; rfl
      rw [e2] at h1; exact h1
    · refine ⟨_, rfl, _, rfl, by simp, _, _, rfl, rfl, by simp; omega, _, rfl, by simp, _, _, rfl, rfl, by simp; omega, ?_⟩
      refine hK _ _ ⟨n + 1, some (.d (eI u)), some (.d (.list ((List.range (n + 1)).map fun y => eI (dist t u y + 1)))), a4, a5, ?_, rfl, e.2, by omega⟩
      have e5 : gapN t (n + 1 + 1) = (List.range (n + 1)).map (rowN t (n + 2)) ++ [.list (((List.range (n + 1)).map fun y => eI (dist t u y + 1)) ++ [.int 0])] := by
        unfold gapN
        rw [range_snoc (n + 1)]
        have e6 : rowN t (n + 1 + 1) (n + 1) = .list (((List.range (n + 1)).map fun y => eI (dist t u y + 1)) ++ [.int 0]) := by
          unfold rowN eL
          rw [range_snoc (n + 1), List.map_append, List.map_map, dist_self]
          congr 2
          refine List.map_congr_left fun y hy => ?_
          have hy' := List.mem_range.mp hy
          show eI (dist t (n + 1) y) = _
          rw [dist_gt (by omega), ← hu]
        rw [e6]
      rw [e5]; rfl
  · simp [gapN, rowN, eL, dist_self, eI]; rfl
end JR
set_option maxHeartbeats 1000000
/-! JS24: what the law's readings give: limbs, pieces. -/
namespace JR
open PySem PySem.Spec PyProof.Rows L2 JM PySem.W

theorem at_gap {t : List Nat} {x y : Nat} (hx : x ≤ t.length) (hy : y ≤ t.length) : atI ((List.range (t.length + 1)).map (eGr t)) (x : Int) = some (eGr t x) ∧ atI (((List.range (t.length + 1)).map fun y => dist t x y).map eI) (y : Int) = some (eI (dist t x y)) := by
  refine ⟨atI_nat ?_, atI_nat ?_⟩
  · rw [List.getElem?_map, List.getElem?_range (by omega)]; rfl
  · rw [List.getElem?_map, List.getElem?_map, List.getElem?_range (by omega)]; rfl
theorem h_law_between_two : ∀ dvs R, sc_law_between_two dvs R → td_law_between_two (endsOf 0 R) (startD N_law_between_two.length dvs) [] := by
  rintro dvs R ⟨t, x, y, rfl, ht, hx, hy, h⟩
  have ht2 := ht.2
  refine ⟨_, rfl, .inl ⟨_, rfl, _, rfl, by simp; omega, by simp; omega, ?_⟩⟩
  rw [rng_eI' (n := t.length + 1) (by simp)]
  refine lcGo_fm eI (fun z => decide (dist t x z + dist t z y = dist t x y)) eI trivial (List.range (t.length + 1)) [] (by simp; omega) (fun z hz R1 R2 k => ?_) ?_
  · have hz' : z ≤ t.length := by have := List.mem_range.mp hz; omega
    refine ⟨_, rfl, _, rfl, _, _, _, rfl, rfl, (at_gap hx hx).1, _, rfl, _, _, _, rfl, rfl, (at_gap hx hz').2, ?_⟩
    refine ⟨_, rfl, _, rfl, _, _, _, rfl, rfl, (at_gap hz' hx).1, _, rfl, _, _, _, rfl, rfl, (at_gap hz' hy).2, _, _, rfl, rfl, ?_⟩
    refine ⟨_, rfl, _, rfl, _, _, _, rfl, rfl, (at_gap hx hx).1, _, rfl, _, _, _, rfl, rfl, (at_gap hx hy).2, ?_⟩
    refine ⟨_, _, rfl, rfl, sh_int _, sh_int _, _, rfl, ?_⟩
    rw [show PyData.eqv (.int ((dist t x z : Nat) + (dist t z y : Nat) : Int)) (eI (dist t x y)) = decide (((dist t x z : Nat) + (dist t z y : Nat) : Int) = (dist t x y : Nat)) from eqv_int _ _]
    by_cases e : dist t x z + dist t z y = dist t x y
    · rw [if_pos (decide_eq_true e)] at k
      exact ifT (decide_eq_true (by omega)) ⟨_, rfl, k⟩
    · rw [if_neg (by simpa using e)] at k
      exact ifF (decide_eq_false (by omega)) k
  · rw [List.nil_append]
    refine rt0 (h _ (fun z => ?_) ?_)
    · rw [List.mem_filter, List.mem_range, decide_eq_true_iff, between]
      constructor
      · exact fun q => q.2
      · intro q
        have := stp_le q
        exact ⟨by omega, q⟩
    · have := List.length_filter_le (fun z => decide (dist t x z + dist t z y = dist t x y)) (List.range (t.length + 1))
      rw [List.length_range] at this
      omega
end JR
set_option maxHeartbeats 1000000
/-! JS25: what the law's readings give: limbs. -/
namespace JR
open PySem PySem.Spec PyProof.Rows L2 JM PySem.W

theorem h_law_limb : ∀ dvs R, sc_law_limb dvs R → td_law_limb (endsOf 0 R) (startD N_law_limb.length dvs) [] := by
  rintro dvs R ⟨t, s, rfl, ht, hs, hsl, hle, h⟩
  have ht2 := ht.2
  obtain ⟨f, o, rfl⟩ := List.exists_cons_of_ne_nil hs
  have hf := hle f (by simp)
  have ho : ∀ x ∈ o, x ≤ t.length := fun x hx => hle x (List.mem_cons_of_mem _ hx)
  refine ⟨_, rfl, rfl, t, rfl, ht, ?_⟩
  refine ⟨_, rfl, by simp, ?_⟩
  refine ⟨_, rfl, _, rfl, ?_⟩
  refine forGo_inv eI (fun rem ρ μ => ∃ (l d : List Nat) (a4 : Option DV), ρ = [some (.d (eT t)), some (.d (eL (f :: o))), some (.d (eG t)), some (.d (eL l)), a4] ∧ μ = [] ∧ d ++ rem = f :: o ∧ (∀ z, z ∈ l ↔ ∃ x ∈ d, z ∈ stp t f x) ∧ l.length ≤ 12 * d.length) (fun _ _ _ _ => rfl) ?_ ?_ (f :: o) _ _ ⟨[], [], none, rfl, rfl, rfl, by simp, by simp⟩
  · rintro ρ μ ⟨l, d, a4, rfl, rfl, e, hm, hl⟩
    have e' : d = f :: o := by simpa using e
    subst e'
    refine ⟨_, rfl, l.map fun n : Nat => (n : Int), by show some (l.map eI) = _; rw [int_eI], by rw [List.length_map]; omega, ?_⟩
    have hlt : ∀ z ∈ l, z ≤ t.length := fun z hz => by
      obtain ⟨x, hx, hz⟩ := (hm z).mp hz
      have := stp_le hz
      have := hle x hx
      omega
    refine ⟨_, (List.range (t.length + 1)).map fun n : Nat => (n : Int), rfl, by simp; omega, fun k hk => ?_, fun ns hns => ?_⟩
    · obtain ⟨z, hz, rfl⟩ := List.mem_map.mp hk
      exact List.mem_map.mpr ⟨z, List.mem_range.mpr (by have := hlt z hz; omega), rfl⟩
    · refine ⟨_, rfl, rt0 ?_⟩
      rw [ris_nat (hullB_up t (f :: o)) (fun k => ?_) hns]
      · exact h _ (hullB_ok (by simp) hle).1
      · rw [List.mem_map]
        constructor
        · rintro ⟨z, hz, rfl⟩
          obtain ⟨x, hx, hz⟩ := (hm z).mp hz
          refine ⟨z, (hullB_mem hf ho).mpr ?_, rfl⟩
          rcases List.mem_cons.mp hx with e | hx
          · rw [e, stp_self] at hz
            exact .inl (by simpa using hz)
          · exact .inr ⟨x, hx, hz⟩
        · rintro ⟨z, hz, rfl⟩
          refine ⟨z, (hm z).mpr ?_, rfl⟩
          rcases (hullB_mem hf ho).mp hz with e | ⟨x, hx, hz⟩
          · exact ⟨f, by simp, by rw [e, stp_self]; simp⟩
          · exact ⟨x, List.mem_cons_of_mem _ hx, hz⟩
  · rintro x xs ρ μ K ⟨l, d, a4, rfl, rfl, e, hm, hl⟩ hK
    have hx : x ∈ f :: o := by rw [← e]; simp
    have hdl : d.length ≤ 10 := by
      have := congrArg List.length e
      simp at this hsl
      omega
    refine ⟨_, rfl, _, rfl, _, rfl, _, _, eI f, rfl, rfl, atI_nat (j := 0) rfl, _, rfl, rfl, t, f, x, rfl, ht, hf, hle x hx, fun m hm2 hml => ?_⟩
    refine ⟨_, _, rfl, rfl, by rw [List.length_map, List.length_map]; omega, ?_⟩
    refine hK _ _ ⟨l ++ m, d ++ [x], some (.d (eI x)), ?_, rfl, by rw [List.append_assoc]; exact e, fun z => ?_, by rw [List.length_append, List.length_append, List.length_singleton]; omega⟩
    · unfold eL
      rw [List.map_append]; rfl
    · rw [List.mem_append, hm, hm2]
      constructor
      · rintro (⟨y, hy, hz⟩ | hz)
        · exact ⟨y, by simp [hy], hz⟩
        · exact ⟨x, by simp, hz⟩
      · rintro ⟨y, hy, hz⟩
        rcases List.mem_append.mp hy with q | q
        · exact .inl ⟨y, q, hz⟩
        · have e2 : y = x := by simpa using q
          rw [e2] at hz
          exact .inr hz
end JR
set_option maxHeartbeats 1000000
/-! JS26: what the law's readings give: pieces, inner parts. -/
namespace JR
open PySem PySem.Spec PyProof.Rows L2 JM PySem.W

theorem h_law_piece : ∀ dvs R, sc_law_piece dvs R → td_law_piece (endsOf 1 R) (startD N_law_piece.length dvs) [.p] := by
  rintro dvs R ⟨ts, rfl, hw, h⟩
  have h4 := hw.le
  refine ⟨_, rfl, by simp, ?_⟩
  refine ⟨_, rfl, _, rfl, ?_⟩
  refine forGo_inv eT (fun rem ρ μ => ∃ (dn : List (List Nat)) (ds : Part) (a3 a4 a5 : Option DV), ρ = [some (.c 0), some (.d (eP ts)), some (.c 1), a3, a4, a5] ∧ μ = [.p, .l (ds.map eT)] ∧ dn ++ rem = ts ∧ PartOk dn ds) (fun _ _ _ _ => trivial) ?_ ?_ ts _ _ ⟨[], [], _, _, _, rfl, rfl, rfl, trivial⟩
  · rintro ρ μ ⟨dn, ds, a3, a4, a5, rfl, rfl, e, hp⟩
    have e' : dn = ts := by simpa using e
    subst e'
    exact ⟨_, rfl, _, rfl, rt1 (h ds hp) rfl⟩
  · rintro t xs ρ μ K ⟨dn, ds, a3, a4, a5, rfl, rfl, e, hp⟩ hK
    have htm : t ∈ ts := by rw [← e]; simp
    have ht := hw.tree t htm
    have ht2 := ht.2
    have hdl : ds.length ≤ 4 := by
      have := part_len hp
      have := congrArg List.length e
      simp at this
      omega
    refine ⟨_, rfl, 0, _, rfl, rfl, rfl, 3, rfl, by decide, by decide, fun j hj => ⟨_, _, rfl, rfl, _, rfl, by omega, by omega, ?_⟩⟩
    rw [rng_eI' (n := j + 1) (by omega)]
    refine lcGo_rel eI (fun k d => ∃ v : Nat, v ≤ t.length ∧ d = eI v) trivial (List.range (j + 1)) [] (by simp; omega) (fun k hk R1 h1 => ?_) fun es hes => ?_
    · refine ⟨_, rfl, _, rfl, .inl ⟨_, rfl, _, _, rfl, rfl, 0, _, rfl, rfl, rfl, _, rfl, by rw [List.length_map]; omega, by rw [List.length_map]; omega, fun v hv => h1 _ ⟨v, ?_, rfl⟩⟩⟩
      rw [List.length_map] at hv
      omega
    · obtain ⟨s, es', hps⟩ := rel_map (α := Nat) (f := eI) (g := fun _ v => v ≤ t.length) hes
      have hl := paired_length hps
      rw [List.length_range] at hl
      rw [List.nil_append, es']
      refine ⟨_, rfl, ⟨_, rfl⟩, _, rfl, _, rfl, rfl, t, s, rfl, ht, fun q => by rw [q] at hl; simp at hl, by omega, paired_all (p := fun v => v ≤ t.length) (fun _ _ q => q) hps, fun b hb => ?_⟩
      refine ⟨1, _, _, rfl, rfl, rfl, by rw [List.length_map]; omega, ?_⟩
      refine hK _ _ ⟨dn ++ [t], ds ++ [b], _, _, _, rfl, by simp, by rw [List.append_assoc]; exact e, ?_⟩
      have key : ∀ {dn : List (List Nat)} {ds : Part}, PartOk dn ds → PartOk (dn ++ [t]) (ds ++ [b]) := by
        intro dn
        induction dn with
        | nil =>
          intro ds hp
          cases ds with
          | nil => exact ⟨hb, trivial⟩
          | cons _ _ => exact hp.elim
        | cons u dn ih =>
          intro ds hp
          cases ds with
          | nil => exact hp.elim
          | cons c ds => exact ⟨hp.1, ih hp.2⟩
      exact key hp
theorem h_law_inner : ∀ dvs R, sc_law_inner dvs R → td_law_inner (endsOf 1 R) (startD N_law_inner.length dvs) [.p] := by
  rintro dvs R ⟨ts, m, rfl, hw, hm, h⟩
  have h4 := hw.le
  have hml := part_len hm
  have hbl : ∀ b ∈ m, b ≠ [] ∧ b.length ≤ 12 := by
    have key : ∀ {ts : List (List Nat)} {m : Part}, (∀ t ∈ ts, TOk t) → PartOk ts m → ∀ b ∈ m, b ≠ [] ∧ b.length ≤ 12 := by
      intro ts
      induction ts with
      | nil =>
        intro m ht hm b hb
        cases m with
        | nil => simp at hb
        | cons _ _ => exact hm.elim
      | cons t ts ih =>
        intro m ht hm b hb
        cases m with
        | nil => exact hm.elim
        | cons c m =>
          rcases List.mem_cons.mp hb with e | hb
          · rw [e]
            have := le12 hm.1.up hm.1.le
            have := (ht t (by simp)).2
            exact ⟨hm.1.ne, by omega⟩
          · exact ih (fun u hu => ht u (List.mem_cons_of_mem _ hu)) hm.2 b hb
    exact key hw.tree hm
  refine ⟨_, rfl, _, rfl, ?_⟩
  refine lcGo_rel eT (fun (b : List Nat) d => ∃ x : Nat, x ∈ b ∧ d = eT [x]) trivial m [] (by simp; omega) (fun b hb R1 h1 => ?_) fun ds hds => ?_
  · obtain ⟨hne, hle⟩ := hbl b hb
    have hpos := List.length_pos_iff.mpr hne
    refine ⟨_, rfl, _, rfl, _, rfl, .inl ⟨_, rfl, 0, _, rfl, rfl, rfl, _, rfl, by rw [List.length_map]; omega, by rw [List.length_map]; omega, fun i hi => ?_⟩⟩
    have hi' : i < b.length := by rw [List.length_map] at hi; omega
    refine ⟨_, _, _, rfl, rfl, at_eT hi', _, rfl, by simp, h1 _ ⟨b.getD i 0, ?_, rfl⟩⟩
    rw [List.getD_eq_getElem?_getD, List.getElem?_eq_getElem hi']
    exact List.getElem_mem hi'
  · obtain ⟨xs, e, hp⟩ := rel_map (α := Nat) (f := fun x => eT [x]) (g := fun (b : List Nat) x => x ∈ b) hds
    rw [List.nil_append, e]
    have ee : eP (xs.map fun x => [x]) = .tuple (xs.map fun x => eT [x]) := by unfold eP; rw [List.map_map]; rfl
    have key : ∀ {ts : List (List Nat)} {m : Part} {xs : List Nat}, PartOk ts m → Paired (fun (b : List Nat) x => x ∈ b) m xs → PartOk ts (xs.map fun x => [x]) ∧ PSub (xs.map fun x => [x]) m := by
      intro ts
      induction ts with
      | nil =>
        intro m xs hm hp
        cases hp with
        | nil => exact ⟨trivial, trivial⟩
        | cons _ _ => exact hm.elim
      | cons t ts ih =>
        intro m xs hm hp
        cases hp with
        | nil => exact hm.elim
        | cons r hp =>
          obtain ⟨a1, a2⟩ := ih hm.2 hp
          exact ⟨⟨one_ok (hm.1.le _ r), a1⟩, ⟨fun y hy => by simp at hy; rw [hy]; exact r, a2⟩⟩
    obtain ⟨a1, a2⟩ := key hm hp
    refine ⟨_, rfl, rt1 ?_ rfl⟩
    rw [← ee]
    exact h _ a1 a2
end JR
set_option maxHeartbeats 1000000
/-! JS27: what the law's readings give: names. -/
namespace JR
open PySem PySem.Spec PyProof.Rows L2 JM PySem.W

def nameB (n : Str) : Bool := decide (0 < n.length) && decide (n.length ≤ 8) && n.cps.toList.all fun c => decide (97 ≤ c ∧ c ≤ 122)
theorem nameB_ok {n : Str} (h : nameB n = true) : NameOk n := by
  unfold nameB at h
  simp only [Bool.and_eq_true, decide_eq_true_eq, List.all_eq_true] at h
  exact ⟨h.1.1, h.1.2, h.2⟩
def ows : List Str := ["put", "strike", "move", "reach", "back", "stand", "lots", "beside", "meeting", "ladder", "none", "paper"]
theorem ows_ok : ∀ w ∈ ows, NameOk w := fun w hw => nameB_ok (List.all_eq_true.mp (show ows.all nameB = true by decide +kernel) w hw)
theorem ows_nd : ows.Nodup := by decide +kernel
theorem ows_len : ows.length = 12 := rfl
theorem qk_all : (List.range 9).all (fun k => decide (qk k ∉ ows) && decide ((qk k).length = k) && (nameB (qk k) || decide (k = 0))) = true := by decide +kernel
theorem qk_at {k : Nat} (h : k ≤ 8) : qk k ∉ ows ∧ (qk k).length = k ∧ (1 ≤ k → NameOk (qk k)) := by
  have := List.all_eq_true.mp qk_all k (List.mem_range.mpr (by omega))
  simp only [Bool.and_eq_true, Bool.or_eq_true, decide_eq_true_eq] at this
  refine ⟨this.1.1, this.1.2, fun h1 => ?_⟩
  rcases this.2 with q | q
  · exact nameB_ok q
  · omega
theorem qfew_ows {ws : List Str} (h : ∀ w ∈ ws, w ∈ ows) : QFew ws := fun k j h1 h8 _ _ hk _ => absurd (h _ hk) (qk_at h8).1
theorem qfew_len {ws : List Str} {m : Nat} (h : ∀ w ∈ ws, w.length = m) : QFew ws := fun k j h1 h8 h2 h9 hk hj => by
  have a := h _ hk
  have b := h _ hj
  rw [(qk_at h8).2.1] at a
  rw [(qk_at h9).2.1] at b
  omega
/-- the steps -/
def sts : List Nat := [1, 5, 7, 11]
theorem at_sts {j : Nat} (h : j < 4) : atI [PyData.int 1, .int 5, .int 7, .int 11] (j : Int) = some (eI (sts.getD j 0)) := by
  have : j = 0 ∨ j = 1 ∨ j = 2 ∨ j = 3 := by omega
  rcases this with e | e | e | e <;> subst e <;> exact atI_nat rfl
theorem sts_in {j : Nat} (h : j < 4) : sts.getD j 0 = 1 ∨ sts.getD j 0 = 5 ∨ sts.getD j 0 = 7 ∨ sts.getD j 0 = 11 := by
  have : j = 0 ∨ j = 1 ∨ j = 2 ∨ j = 3 := by omega
  rcases this with e | e | e | e <;> subst e <;> simp [sts]
theorem turn_inj {m f st a b : Nat} (hm : m = 12 ∨ m = 26) (hs : st = 1 ∨ st = 5 ∨ st = 7 ∨ st = 11) (ha : a < 12) (hb : b < 12) (h : (f + st * a) % m = (f + st * b) % m) : a = b := by
  rcases hm with e | e <;> subst e <;> rcases hs with e | e | e | e <;> subst e <;> omega
theorem nodup_range {β : Type} {f : Nat → β} : ∀ {n : Nat}, (∀ a b, a < n → b < n → f a = f b → a = b) → ((List.range n).map f).Nodup := fun {n} h => by
  refine List.pairwise_map.mpr ((List.pairwise_lt_range (n := n)).imp_of_mem fun {a b} ha hb hlt e => ?_)
  have := h a b (List.mem_range.mp ha) (List.mem_range.mp hb) e
  omega
/-! ### signs -/
def sg (c : Nat) : Str := ⟨#[c]⟩
def tx (cs : List Nat) : Str := ⟨cs.toArray⟩
theorem str_ext {a b : Str} (h : a.cps.toList = b.cps.toList) : a = b := by
  cases a; cases b
  congr
  exact Array.toList_inj.mp h
theorem tx_len (cs : List Nat) : (tx cs).length = cs.length := by simp [tx, Str.length]
theorem tx_app (a b : List Nat) : tx a ++ tx b = tx (a ++ b) := str_ext (by
  show (a.toArray ++ b.toArray).toList = _
  simp [tx])
theorem join_sg : ∀ cs : List Nat, Txt.join "" (cs.map sg) = tx cs := fun cs => by
  show Builtin.Str.glued "" (cs.map sg) = _
  rw [StrLaws.glued_eq_join]
  have key : ∀ cs : List Nat, (Str.join "" (cs.map sg)).cps.toList = cs := by
    intro cs
    induction cs with
    | nil => rfl
    | cons a r ih =>
      cases r with
      | nil => rfl
      | cons b r =>
        show ((sg a).cps ++ #[] ++ (Str.join "" ((b :: r).map sg)).cps).toList = _
        rw [Array.toList_append, ih]
        simp [sg]
  exact str_ext (key cs)
theorem cut_lo (cs : List Nat) (k : Nat) : cutS (tx cs) none (some (k : Int)) = tx (cs.take k) := str_ext (by
  show (((tx cs).cps.toList.drop (HT.sIx (tx cs).length 0 none)).take (HT.sIx (tx cs).length (tx cs).length (some (k : Int)) - HT.sIx (tx cs).length 0 none)).toArray.toList = _
  rw [HT.sIx_none, HT.sIx_nat, tx_len]
  simp only [tx, List.drop_zero, Nat.sub_zero]
  by_cases h : k ≤ cs.length
  · rw [Nat.min_eq_left h]
  · rw [Nat.min_eq_right (by omega), List.take_of_length_le (Nat.le_refl _), List.take_of_length_le (by omega)])
theorem cut_hi (cs : List Nat) {k : Nat} (h : k ≤ cs.length) : cutS (tx cs) (some (k : Int)) none = tx (cs.drop k) := str_ext (by
  show (((tx cs).cps.toList.drop (HT.sIx (tx cs).length 0 (some (k : Int)))).take (HT.sIx (tx cs).length (tx cs).length none - HT.sIx (tx cs).length 0 (some (k : Int)))).toArray.toList = _
  rw [HT.sIx_none, HT.sIx_nat, tx_len, Nat.min_eq_left h]
  simp only [tx]
  exact List.take_of_length_le (by simp))
theorem at_az {i : Nat} (h : i < 26) : atI ("abcdefghijklmnopqrstuvwxyz" : Str).cps.toList (i : Int) = some (i + 97) := by
  rw [az_list]
  exact atI_nat (by rw [List.getElem?_map, List.getElem?_range h]; rfl)
theorem az_small : ("abcdefghijklmnopqrstuvwxyz" : Str).length ≤ sizeLine := by rw [sizeLine_eq]; decide +kernel
theorem small_len {n : Nat} (h : n ≤ 1000) : n ≤ sizeLine := by rw [sizeLine_eq]; omega
theorem mod_nat (f st k m : Nat) : ((f : Int) + (st : Int) * (k : Int)) % (m : Int) = (((f + st * k) % m : Nat) : Int) := by
  rw [Int.natCast_emod, Int.natCast_add, Int.natCast_mul]
/-- a word with one sign put in -/
def wd (cs : List Nat) (cut c : Nat) : Str := tx (cs.take cut ++ c :: cs.drop cut)
theorem wd_len {cs : List Nat} {cut c : Nat} : (wd cs cut c).length = cs.length + 1 := by
  unfold wd
  rw [tx_len, List.length_append, List.length_cons, List.length_take, List.length_drop]
  omega
theorem wd_ok {cs : List Nat} {cut c : Nat} (hl : cs.length ≤ 7) (h : ∀ x ∈ cs, 97 ≤ x ∧ x ≤ 122) (hc : 97 ≤ c ∧ c ≤ 122) : NameOk (wd cs cut c) := by
  refine ⟨by rw [wd_len]; omega, by rw [wd_len]; omega, fun x hx => ?_⟩
  have hx' : x ∈ cs.take cut ++ c :: cs.drop cut := by simpa [wd, tx] using hx
  rcases List.mem_append.mp hx' with q | q
  · exact h x (List.mem_of_mem_take q)
  · rcases List.mem_cons.mp q with e | q
    · rw [e]; exact hc
    · exact h x (List.mem_of_mem_drop q)
theorem wd_inj {cs : List Nat} {cut c d : Nat} (h : wd cs cut c = wd cs cut d) : c = d := by
  have e : (wd cs cut c).cps.toList = (wd cs cut d).cps.toList := by rw [h]
  have e2 : cs.take cut ++ c :: cs.drop cut = cs.take cut ++ d :: cs.drop cut := by simpa [wd, tx] using e
  have := List.append_cancel_left e2
  exact (List.cons.inj this).1
theorem h_words_stem {R : PyData → Prop} {n f st : Nat} (hn : n ≤ 12) (hst : st = 1 ∨ st = 5 ∨ st = 7 ∨ st = 11) (h : ∀ ws : List Str, ws.length = n → ws.Nodup → (∀ w ∈ ws, NameOk w) → QFew ws → R (eS ws)) {dv : DV} :
  tdSeq (tdSet 5 (tdC (.str "abcdefghijklmnopqrstuvwxyz")))
    (tdSeq (tdSet 6 (tdJoin (tdC (.str "")) (tdFz (tdLc (wdRng1 (tdCons (tdCall1 sc_law_pick (tdCons (tdVar 0) (tdCons (tdC (.int 8)) tdNil))) tdNil)) (.n 9) tdYes (tdOp fIxS (tdVar 5) (tdCall1 sc_law_pick (tdCons (tdVar 0) (tdCons (tdC (.int 26)) tdNil)))) [9]))))
    (tdSeq (tdUnp [7, 8] (tdCons (tdCall1 sc_law_pick (tdCons (tdVar 0) (tdCons (tdOp fAdd (td1 fLen (tdVar 6)) (tdC (.int 1))) tdNil))) (tdCons (tdCall1 sc_law_pick (tdCons (tdVar 0) (tdCons (tdC (.int 26)) tdNil))) tdNil)))
    (tdRet (tdFz (tdLc (wdRng1 (tdCons (tdVar 1) tdNil)) (.n 9) tdYes (tdOp fCatS (tdOp fCatS (tdSlS (tdVar 6) tdNoPart (tdPart (tdVar 7))) (tdOp fIxS (tdVar 5) (tdOp fMod (tdOp fAdd (tdVar 8) (tdOp fMul (tdVar 4) (tdVar 9))) (tdC (.int 26))))) (tdSlS (tdVar 6) (tdPart (tdVar 7)) tdNoPart)) [9])))))
    (endsOf 1 R) [some (.c 0), some (.d (eI n)), some dv, some (.d (eI f)), some (.d (eI st)), none, none, none, none, none] [.p] := by
    have hst12 : st ≤ 11 := by omega
    refine ⟨_, rfl, _, rfl, 0, _, rfl, rfl, rfl, 8, rfl, by decide, by decide, fun m hm => ?_⟩
    refine ⟨_, rfl, by omega, by omega, ?_⟩
    rw [rng_eI' (n := m) rfl]
    refine lcGo_rel eI (fun _ d => ∃ c : Nat, (97 ≤ c ∧ c ≤ 122) ∧ d = .str (sg c)) trivial (List.range m) [] (by simp; omega) (fun k hk R1 h1 => ?_) fun ds hds => ?_
    · refine ⟨_, rfl, _, rfl, 0, _, rfl, rfl, rfl, 26, rfl, by decide, by decide, fun v hv => ?_⟩
      exact ⟨_, _, v + 97, rfl, rfl, az_small, at_az (by omega), h1 _ ⟨v + 97, ⟨by omega, by omega⟩, rfl⟩⟩
    · obtain ⟨cs, e, hp⟩ := rel_map (α := Nat) (f := fun c => PyData.str (sg c)) (g := fun _ c => 97 ≤ c ∧ c ≤ 122) hds
      have hl := paired_length hp
      have hc := paired_all (p := fun c => 97 ≤ c ∧ c ≤ 122) (fun _ _ q => q) hp
      rw [List.length_range] at hl
      have hl7 : cs.length ≤ 7 := by omega
      rw [List.nil_append, e]
      refine ⟨cs.map sg, by rw [List.map_map]; rfl, ?_, ?_⟩
      · have e1 : ((cs.map sg).map (·.length)).sum = cs.length := by
          rw [List.map_map]
          clear e hp hl hc hl7 hds
          induction cs with
          | nil => rfl
          | cons a r ih =>
            rw [List.map_cons, List.sum_cons, ih, List.length_cons]
            show 1 + r.length = _
            omega
        rw [e1, show ("" : Str).length = 0 from rfl]
        omega
      · rw [join_sg]
        clear e hp hl hds
        refine ⟨_, rfl, _, rfl, .inr ⟨_, rfl, by rw [tx_len]; exact small_len (by omega), _, _, rfl, rfl, ?_⟩⟩
        rw [tx_len]
        refine ⟨0, _, rfl, rfl, rfl, _, rfl, by omega, by omega, fun cut hcut => ?_⟩
        refine ⟨_, rfl, 0, _, rfl, rfl, rfl, 26, rfl, by decide, by decide, fun g hg => ?_⟩
        refine ⟨rfl, by simp, ?_⟩
        have hcut' : cut ≤ cs.length := by omega
        refine ⟨_, rfl, _, rfl, by omega, by omega, ?_⟩
        rw [rng_eI' (n := n) rfl]
        have hlt : ∀ k, (g + st * k) % 26 < 26 := fun k => Nat.mod_lt _ (by decide)
        refine lcGo_map eI (fun k => .str (wd cs cut ((g + st * k) % 26 + 97))) trivial (List.range n) (by simp; omega) (fun k hk R1 h1 => ?_) ?_
        · have hk' := List.mem_range.mp hk
          refine ⟨_, rfl, _, rfl, _, rfl, _, rfl, by rw [tx_len]; exact small_len (by omega), ?_⟩
          rw [cut_lo]
          refine ⟨_, rfl, _, rfl, _, rfl, _, rfl, _, _, rfl, rfl, .inl ⟨by omega, by omega⟩, _, _, rfl, rfl, _, _, rfl, rfl, (by show (0 : Int) < 26; decide), ?_⟩
          refine ⟨_, _, (g + st * k) % 26 + 97, rfl, rfl, az_small, ?_, ?_⟩
          · have := mod_nat g st k 26
            rw [show ((26 : Nat) : Int) = 26 from rfl] at this
            show atI ("abcdefghijklmnopqrstuvwxyz" : Str).cps.toList ((((g : Nat) : Int) + ((st : Nat) : Int) * ((k : Nat) : Int)) % 26) = _
            rw [this]
            exact at_az (hlt k)
          refine ⟨_, _, rfl, rfl, ?_, ?_⟩
          · rw [tx_len, List.length_take, show (⟨#[(g + st * k) % 26 + 97]⟩ : Str).length = 1 from rfl]
            exact small_len (by omega)
          refine ⟨_, rfl, _, rfl, _, rfl, _, rfl, by rw [tx_len]; exact small_len (by omega), ?_⟩
          rw [cut_hi cs hcut']
          have e1 : (tx (cs.take cut) ++ (⟨#[(g + st * k) % 26 + 97]⟩ : Str)) = tx (cs.take cut ++ [(g + st * k) % 26 + 97]) := tx_app _ [_]
          refine ⟨_, _, rfl, rfl, ?_, ?_⟩
          · rw [e1, tx_len, tx_len, List.length_append, List.length_take, List.length_drop, List.length_singleton]
            exact small_len (by omega)
          · rw [e1, tx_app, List.append_assoc]
            exact h1
        · have e2 : ((List.range n).map fun k => PyData.str (wd cs cut ((g + st * k) % 26 + 97))) = ((List.range n).map fun k => wd cs cut ((g + st * k) % 26 + 97)).map .str := by rw [List.map_map]; rfl
          rw [e2]
          refine rt1 (h _ (by simp) (nodup_range fun a b ha hb q => ?_) (fun w hw => ?_) (qfew_len (m := cs.length + 1) fun w hw => ?_)) rfl
          · have := wd_inj q
            exact turn_inj (f := g) (.inr rfl) hst (by omega) (by omega) (by omega)
          · obtain ⟨k, hk, rfl⟩ := List.mem_map.mp hw
            have := hlt k
            exact wd_ok hl7 hc ⟨by omega, by omega⟩
          · obtain ⟨k, hk, rfl⟩ := List.mem_map.mp hw
            exact wd_len
theorem h_law_words : ∀ dvs R, sc_law_words dvs R → td_law_words (endsOf 1 R) (startD N_law_words.length dvs) [.p] := by
  rintro dvs R ⟨n, rfl, hn, h⟩
  refine ⟨ows.map .str, rfl, by simp [ows], ?_⟩
  refine ⟨_, rfl, 0, _, rfl, rfl, rfl, 12, rfl, by decide, by decide, fun f hf => ?_⟩
  refine ⟨_, rfl, by simp, _, rfl, 0, _, rfl, rfl, rfl, 4, rfl, by decide, by decide, fun j hj => ?_⟩
  have hj4 : j < 4 := by omega
  have hst := sts_in hj4
  refine ⟨_, _, eI (sts.getD j 0), rfl, rfl, at_sts hj4, ?_⟩
  generalize sts.getD j 0 = st at hst ⊢
  refine ⟨rfl, by simp, ?_⟩
  have hst12 : st ≤ 11 := by omega
  refine ⟨_, rfl, 0, _, rfl, rfl, rfl, 4, rfl, by decide, by decide, fun i hi => ?_⟩
  refine ⟨_, _, rfl, rfl, sh_int _, sh_int _, _, rfl, ?_⟩
  rw [show PyData.eqv (eI i) (.int 1) = decide ((i : Int) = 1) from eqv_int _ _]
  by_cases e : ((i : Nat) : Int) = 1
  · rw [decide_eq_true e]
    refine ifT rfl ?_
    refine ⟨_, rfl, _, _, rfl, rfl, _, rfl, ?_⟩
    refine ifT (decide_eq_true (by omega)) ?_
    refine ⟨_, rfl, _, rfl, by omega, by omega, ?_⟩
    rw [rng_eI' (n := n) rfl]
    have hlt : ∀ k, (f + st * k) % 12 < ows.length := fun k => Nat.mod_lt _ (by decide)
    refine lcGo_map eI (fun k => PyData.str (ows.getD ((f + st * k) % 12) "")) trivial (List.range n) (by simp; omega) (fun k hk R1 h1 => ?_) ?_
    · refine ⟨_, rfl, _, rfl, _, rfl, _, rfl, _, _, rfl, rfl, .inl ⟨by omega, by omega⟩, _, _, rfl, rfl, _, _, rfl, rfl, (by show (0 : Int) < 12; decide), ?_⟩
      refine ⟨_, _, PyData.str (ows.getD ((f + st * k) % 12) ""), rfl, rfl, ?_, h1⟩
      have := mod_nat f st k 12
      rw [show ((12 : Nat) : Int) = 12 from rfl] at this
      show atI (ows.map PyData.str) ((((f : Nat) : Int) + ((st : Nat) : Int) * ((k : Nat) : Int)) % 12) = _
      rw [this]
      refine atI_nat ?_
      rw [List.getElem?_map, List.getD_eq_getElem?_getD, List.getElem?_eq_getElem (hlt k)]; rfl
    · have e2 : ((List.range n).map fun k => PyData.str (ows.getD ((f + st * k) % 12) "")) = ((List.range n).map fun k => ows.getD ((f + st * k) % 12) "").map PyData.str := by rw [List.map_map]; rfl
      rw [e2]
      have hin : ∀ w ∈ (List.range n).map fun k => ows.getD ((f + st * k) % 12) "", w ∈ ows := fun w hw => by
        obtain ⟨k, hk, rfl⟩ := List.mem_map.mp hw
        rw [List.getD_eq_getElem?_getD, List.getElem?_eq_getElem (hlt k)]
        exact List.getElem_mem (hlt k)
      refine rt1 (h _ (by simp) (nodup_range fun a b ha hb q => ?_) (fun w hw => ows_ok w (hin w hw)) (qfew_ows hin)) rfl
      have g : ∀ i (h : i < ows.length), ows[i]? = some (ows.getD i "") := fun i h => by
        rw [List.getD_eq_getElem?_getD, List.getElem?_eq_getElem h]; rfl
      have := (List.getElem?_inj (hlt a) ows_nd (j := (f + st * b) % 12)).mp (by rw [g _ (hlt a), g _ (hlt b), q])
      exact turn_inj (.inl rfl) hst (by omega) (by omega) this
  · rw [decide_eq_false e]
    refine ifF rfl ?_
    refine ifF rfl ?_
    exact h_words_stem hn hst h
end JR
set_option maxHeartbeats 1000000
/-! JS28: what the law's readings give: a strange name, scenes. -/
namespace JR
open PySem PySem.Spec PyProof.Rows L2 JM PySem.W

theorem mulok_q {k : Nat} (h : k ≤ 8) : MulOk "q" (k : Int) := by
  have : ∀ k ∈ List.range 9, MulOk "q" ((k : Nat) : Int) := by unfold MulOk; decide +kernel
  exact this k (List.mem_range.mpr (by omega))
theorem h_law_strange : ∀ dvs R, sc_law_strange dvs R → td_law_strange (endsOf 0 R) (startD N_law_strange.length dvs) [] := by
  rintro dvs R ⟨ws, rfl, hws, ⟨k0, h1, h8, h0⟩, h⟩
  refine ⟨1, 9, rfl, ⟨by omega, by omega, by omega, by omega⟩, ?_⟩
  rw [show rngD 1 ((9 : Int) - 1).toNat = (List.range 8).map (fun i : Nat => PyData.int (1 + (i : Int))) from rfl]
  refine lcGo_map (fun i : Nat => PyData.int (1 + (i : Int))) (fun i => .str (qk (i + 1))) trivial (List.range 8) (by simp) (fun i hi R1 k1 => ?_) ?_
  · have hi' := List.mem_range.mp hi
    have e : (1 : Int) + (i : Int) = ((i + 1 : Nat) : Int) := by omega
    rw [e]
    exact ⟨_, rfl, _, _, rfl, rfl, mulok_q (by omega), k1⟩
  · refine ⟨_, rfl, ?_⟩
    have e2 : ((List.range 8).map fun i => PyData.str (qk (i + 1))) = ((List.range 8).map fun i => qk (i + 1)).map .str := by rw [List.map_map]; rfl
    rw [e2]
    refine lcGo_fm PyData.str (fun s => decide (s ∉ ws)) PyData.str (by rfl) _ [] (by simp) (fun s hs R1 R2 k1 => ?_) ?_
    · obtain ⟨i, hi, rfl⟩ := List.mem_map.mp hs
      have hi' := List.mem_range.mp hi
      have os := (qk_at (k := i + 1) (by omega)).2.2 (by omega)
      refine ⟨_, rfl, _, rfl, _, _, rfl, rfl, sh_str os, sh_strs hws, _, rfl, ?_⟩
      rw [any_str hws os]
      by_cases e : qk (i + 1) ∈ ws
      · rw [if_neg (by simpa using e)] at k1
        exact ifF (by simp [e]) k1
      · rw [if_pos (decide_eq_true e)] at k1
        exact ifT (by simp [e]) ⟨_, rfl, k1⟩
    · rw [List.nil_append]
      have hne : ((List.range 8).map fun i => qk (i + 1)).filter (fun s => decide (s ∉ ws)) ≠ [] :=
        List.ne_nil_of_mem (a := qk k0) (List.mem_filter.mpr ⟨List.mem_map.mpr ⟨k0 - 1, List.mem_range.mpr (by omega), by rw [show k0 - 1 + 1 = k0 by omega]⟩, decide_eq_true h0⟩)
      obtain ⟨s, r, e⟩ := List.exists_cons_of_ne_nil hne
      obtain ⟨hm, hd⟩ := List.mem_filter.mp (show s ∈ ((List.range 8).map fun i => qk (i + 1)).filter (fun s => decide (s ∉ ws)) by rw [e]; simp)
      obtain ⟨i, hi, rfl⟩ := List.mem_map.mp hm
      have hi' := List.mem_range.mp hi
      rw [e]
      exact ⟨_, _, .str (qk (i + 1)), rfl, rfl, atI_nat (j := 0) rfl, rt0 (h (i + 1) (by omega) (by omega) (of_decide_eq_true hd))⟩
theorem nm_snoc (b : Bk) (w : Str) (p : Part) : nmB (b ++ [(w, p)]) = nmB b ++ [w] := by unfold nmB; rw [List.map_append]; rfl
theorem eQ_snoc (b : Bk) (w : Str) (p : Part) : (b ++ [(w, p)]).map eQ = b.map eQ ++ [.tuple [.str w, eP p]] := by rw [List.map_append]; rfl
theorem scn_bk {ts : List (List Nat)} {b : Bk} {ws : List Str} (e : nmB b = ws) (hl : ws.length ≤ 24) (hnd : ws.Nodup) (hok : ∀ w ∈ ws, NameOk w) (hp : ∀ q ∈ b, PartOk ts q.2) : BkOk ts b := by
  subst e
  exact ⟨by unfold nmB at hl; rw [List.length_map] at hl; exact hl, hnd, fun q hq => hok q.1 (List.mem_map.mpr ⟨q, hq, rfl⟩), hp⟩
theorem h_law_scene : ∀ dvs R, sc_law_scene dvs R → td_law_scene (endsOf 1 R) (startD N_law_scene.length dvs) [.p] := by
  rintro dvs R ⟨rfl, h⟩
  refine ⟨_, rfl, 0, _, rfl, rfl, rfl, 2, rfl, by decide, by decide, fun i hi => ⟨_, _, rfl, rfl, sh_int _, sh_int _, _, rfl, ?_⟩⟩
  rw [show PyData.eqv (eI i) (.int 0) = decide ((i : Int) = 0) from eqv_int _ _]
  by_cases e : ((i : Nat) : Int) = 0
  · refine ifT (decide_eq_true e) ?_
    exact ⟨_, rfl, 0, _, rfl, rfl, rfl, rfl, fun ts b r hs => rt1 (h ts b r hs) rfl⟩
  · refine ifF (decide_eq_false e) ?_
    refine ⟨_, rfl, 0, _, rfl, rfl, rfl, 3, 6, rfl, by decide, by decide, by decide, by decide, fun ts h1 h2 h3 => ?_⟩
    have hw : WOk ts := ⟨h1, by omega, fun t ht => ⟨(h3 t ht).1, by have := (h3 t ht).2; omega⟩⟩
    refine ⟨_, rfl, by simp, ?_⟩
    refine ⟨_, rfl, _, rfl, 0, _, rfl, rfl, rfl, 7, rfl, by decide, by decide, fun j hj => ⟨_, _, rfl, rfl, 0, _, rfl, rfl, rfl, 2 + j, rfl, by omega, fun ws wl wnd wok wq => ?_⟩⟩
    refine ⟨_, rfl, ?_⟩
    refine forGo_inv PyData.str (fun rem ρ μ => ∃ (b : Bk) (a3 : Option DV), ρ = [some (.c 0), some (.d (eP ts)), some (.c 1), a3] ∧ μ = [.p, .l (b.map eQ)] ∧ nmB b ++ rem = ws ∧ ∀ q ∈ b, PartOk ts q.2) (fun _ _ _ _ => rfl) ?_ ?_ ws _ _ ⟨[], none, rfl, rfl, rfl, fun q hq => by simp at hq⟩
    · rintro ρ μ ⟨b, a3, rfl, rfl, e2, hp⟩
      rw [List.append_nil] at e2
      have hbl : b.length = 2 + j := by rw [← wl, ← e2]; unfold nmB; rw [List.length_map]
      refine ⟨_, rfl, _, rfl, _, rfl, _, rfl, 0, _, rfl, rfl, rfl, 4, rfl, by decide, by decide, fun r hr => ⟨_, rfl, by simp, rt1 (h ts b r ⟨hw, scn_bk e2 (by omega) wnd wok hp, by omega, by omega, by rw [e2]; exact wq, by omega⟩) rfl⟩⟩
    · rintro w xs ρ μ K ⟨b, a3, rfl, rfl, e2, hp⟩ hK
      have hbl : b.length ≤ 2 + j := by
        have := congrArg List.length e2
        unfold nmB at this
        simp at this
        omega
      refine ⟨_, rfl, ⟨_, rfl⟩, _, rfl, _, rfl, _, rfl, 0, _, rfl, rfl, rfl, ts, rfl, hw, fun p hpp => ⟨_, rfl, by simp, 1, _, _, rfl, rfl, rfl, by rw [List.length_map]; omega, ?_⟩⟩
      refine hK _ _ ⟨b ++ [(w, p)], _, rfl, by rw [eQ_snoc]; rfl, by rw [nm_snoc, List.append_assoc]; exact e2, fun q hq => ?_⟩
      rcases List.mem_append.mp hq with z | z
      · exact hp q z
      · have : q = (w, p) := by simpa using z
        rw [this]; exact hpp
end JR
set_option maxHeartbeats 1000000
/-! JS29: what the law's readings give: scenes along a path. -/
namespace JR
open PySem PySem.Spec PyProof.Rows L2 JM PySem.W

theorem cutD_take {β : Type} (xs : List β) (k : Nat) : cutD xs none (some (k : Int)) = xs.take k := by
  unfold cutD
  rw [HT.sIx_none, HT.sIx_nat, List.drop_zero, Nat.sub_zero]
  by_cases h : k ≤ xs.length
  · rw [Nat.min_eq_left h]
  · rw [Nat.min_eq_right (by omega), List.take_of_length_le (Nat.le_refl _), List.take_of_length_le (by omega)]
theorem erase_map {α β : Type} (f : α → β) : ∀ (l : List α) (i : Nat), (l.map f).eraseIdx i = (l.eraseIdx i).map f
  | [], _ => rfl
  | _ :: _, 0 => rfl
  | a :: l, i + 1 => by rw [List.map_cons, List.eraseIdx_cons_succ, List.eraseIdx_cons_succ, List.map_cons, erase_map f l i]
theorem zeros_ok : ∀ ts : List (List Nat), PartOk ts (List.replicate ts.length [0])
  | [] => trivial
  | t :: ts => ⟨one_ok (Nat.zero_le _), zeros_ok ts⟩
theorem path_ok : TreeOk (List.range 11) := fun k hk => by
  rw [List.getD_eq_getElem?_getD, List.getElem?_range (by simpa using hk)]
  exact Nat.le_refl k
theorem rng_cases {wi : Nat} (h : wi < 3) : ∃ n, 4 ≤ n ∧ n ≤ 12 ∧ RgC 0 12 (1 + (wi : Int)) n ∧ ∀ i, i < n → i * (1 + wi) ≤ 11 := by
  have : wi = 0 ∨ wi = 1 ∨ wi = 2 := by omega
  rcases this with e | e | e <;> subst e
  · exact ⟨12, by omega, by omega, ⟨by decide, by decide, by decide +kernel, by decide +kernel⟩, fun i hi => by omega⟩
  · exact ⟨6, by omega, by omega, ⟨by decide, by decide, by decide +kernel, by decide +kernel⟩, fun i hi => by omega⟩
  · exact ⟨4, by omega, by omega, ⟨by decide, by decide, by decide +kernel, by decide +kernel⟩, fun i hi => by omega⟩
theorem h_law_along : ∀ dvs R, sc_law_along dvs R → td_law_along (endsOf 1 R) (startD N_law_along.length dvs) [.p] := by
  rintro dvs R ⟨rfl, h⟩
  refine ⟨_, rfl, 0, _, rfl, rfl, rfl, 3, rfl, by decide, by decide, fun wi hwi => ⟨_, _, rfl, rfl, ?_⟩⟩
  refine ⟨_, rfl, 0, _, rfl, rfl, rfl, 6, rfl, by decide, by decide, fun co hco => ⟨_, _, rfl, rfl, ?_⟩⟩
  refine ⟨11, rfl, by unfold RgOk; omega, _, rfl, by simp, ?_⟩
  refine ⟨_, rfl, 0, _, rfl, rfl, rfl, 2, 3, rfl, by decide, by decide, by decide, by decide, fun ts0 g1 g2 g3 => ?_⟩
  refine ⟨_, rfl, 0, _, rfl, rfl, rfl, 3, rfl, by decide, by decide, fun c hc => ⟨_, rfl, _, rfl, ?_⟩⟩
  rw [cutD_take, ← List.map_take, show rngD 0 (11 : Int).toNat = (List.range 11).map eI from rng_eI' rfl]
  have htl : (ts0.take c).length ≤ 2 := by rw [List.length_take]; omega
  have htk : ∀ t ∈ ts0.take c, TreeOk t ∧ t.length < 3 := fun t ht => g3 t (List.mem_of_mem_take ht)
  generalize ts0.take c = tl at htl htk ⊢
  have hw : WOk (List.range 11 :: tl) := ⟨by simp, by simp; omega, fun t ht => by
    rcases List.mem_cons.mp ht with e | ht
    · rw [e]; exact ⟨path_ok, by simp⟩
    · exact ⟨(htk t ht).1, by have := (htk t ht).2; omega⟩⟩
  refine ⟨_, _, rfl, rfl, by simp; omega, ?_⟩
  have ets : PyData.tuple ([.tuple ((List.range 11).map eI)] ++ tl.map eT) = eP (List.range 11 :: tl) := rfl
  rw [ets]
  obtain ⟨n, hn4, hn12, hrg, hin⟩ := rng_cases (wi := wi) (by omega)
  refine ⟨_, rfl, 0, 12, _, n, rfl, hrg, ?_⟩
  rw [show rngC 0 (1 + (wi : Int)) n = (List.range n).map (fun i : Nat => PyData.int (0 + (i : Int) * (1 + (wi : Int)))) from rfl]
  refine lcGo_map (fun i : Nat => PyData.int (0 + (i : Int) * (1 + (wi : Int)))) (fun i => eP ([i * (1 + wi)] :: List.replicate tl.length [0])) trivial (List.range n) (by simp; omega) (fun i hi R1 k1 => ?_) ?_
  · have ei : (0 : Int) + (i : Int) * (1 + (wi : Int)) = ((i * (1 + wi) : Nat) : Int) := by
      rw [Int.zero_add, Int.natCast_mul, Int.natCast_add]; rfl
    rw [ei]
    refine ⟨_, rfl, _, rfl, by simp, _, rfl, by simp, _, rfl, by simp, _, rfl, by simp, _, rfl, .inl ⟨_, rfl, _, _, rfl, rfl, ?_⟩⟩
    refine ⟨_, tl.length, rfl, ?_, by simp, by omega, by simp, ?_⟩
    · show DV.d (.int ((((List.range 11 :: tl).map eT).length : Int) - 1)) = _
      rw [List.length_map, List.length_cons]
      congr 2
      omega
    refine ⟨_, _, rfl, rfl, by simp; omega, ?_⟩
    have e2 : PyData.tuple ([.tuple [.int ((i * (1 + wi) : Nat) : Int)]] ++ (List.replicate tl.length [PyData.tuple [.int 0]]).flatten) = eP ([i * (1 + wi)] :: List.replicate tl.length [0]) := by
      rw [List.flatten_replicate_singleton]
      unfold eP
      rw [List.map_cons, List.map_replicate]; rfl
    rw [e2]
    exact k1
  · refine ⟨_, rfl, _, rfl, _, rfl, ?_⟩
    rw [show (2 : Int) + (co : Int) = ((2 + co : Nat) : Int) by omega, cutD_take]
    have eA : (((List.range n).map fun i => eP ([i * (1 + wi)] :: List.replicate tl.length [0])).take (2 + co)) = (((List.range n).map fun i => ([i * (1 + wi)] :: List.replicate tl.length [0] : Part)).take (2 + co)).map eP := by
      rw [List.map_take, List.map_map]; rfl
    rw [eA]
    have hAok : AllOk (List.range 11 :: tl) (((List.range n).map fun i => ([i * (1 + wi)] :: List.replicate tl.length [0] : Part)).take (2 + co)) := fun q hq => by
      obtain ⟨i, hi, rfl⟩ := List.mem_map.mp (List.mem_of_mem_take hq)
      exact ⟨one_ok (by rw [List.length_range]; exact hin i (List.mem_range.mp hi)), zeros_ok tl⟩
    have hAl : 2 ≤ (((List.range n).map fun i => ([i * (1 + wi)] :: List.replicate tl.length [0] : Part)).take (2 + co)).length ∧ (((List.range n).map fun i => ([i * (1 + wi)] :: List.replicate tl.length [0] : Part)).take (2 + co)).length ≤ 8 := by
      rw [List.length_take, List.length_map, List.length_range]; omega
    generalize (((List.range n).map fun i => ([i * (1 + wi)] :: List.replicate tl.length [0] : Part)).take (2 + co)) = A0 at hAok hAl ⊢
    generalize List.range 11 :: tl = ts at hw hAok ⊢
    refine ⟨_, rfl, _, rfl, 0, _, rfl, rfl, rfl, 4, rfl, by decide, by decide, fun j hj => ⟨_, rfl, by omega, by omega, ?_⟩⟩
    rw [rng_eI' (n := j) rfl]
    refine lcGo_rel eI (fun _ d => ∃ p : Part, PartOk ts p ∧ d = eP p) trivial (List.range j) [] (by simp; omega) (fun k hk R1 h1 => ⟨_, rfl, _, rfl, 0, _, rfl, rfl, rfl, ts, rfl, hw, fun p hp => h1 _ ⟨p, hp, rfl⟩⟩) fun ds hds => ?_
    obtain ⟨B0, e, hp⟩ := rel_map (α := Nat) (f := eP) (g := fun _ p => PartOk ts p) hds
    have hBl := paired_length hp
    rw [List.length_range] at hBl
    have hBok := paired_all (p := fun p => PartOk ts p) (fun _ _ q => q) hp
    rw [List.nil_append, e]
    refine ⟨_, _, rfl, rfl, by rw [List.length_map, List.length_map]; omega, ?_⟩
    rw [← List.map_append]
    have hCok : AllOk ts (A0 ++ B0) := fun q hq => (List.mem_append.mp hq).elim (hAok q) (hBok q)
    have hCl : 2 ≤ (A0 ++ B0).length ∧ (A0 ++ B0).length ≤ 12 := by rw [List.length_append]; omega
    clear hp e hds hBok hBl hAok
    generalize A0 ++ B0 = C0 at hCok hCl ⊢
    refine ⟨_, rfl, by simp, ?_⟩
    refine ⟨_, rfl, _, rfl, .inl ⟨_, rfl, 0, _, rfl, rfl, rfl, C0.length, by rw [List.length_map]; rfl, hCl.2, fun ws wl wnd wok wq => ⟨_, rfl, ?_⟩⟩⟩
    refine forGo_inv PyData.str (fun rem ρ μ => ∃ (b : Bk) (A : List Part) (c1 : Cell) (a2 a6 : Option DV), ρ = [some (.c 0), some (.d (.int (1 + (wi : Int)))), a2, some (.d (eP ts)), some (.c 2), some (.c 3), a6, none, none] ∧ μ = [.p, c1, .l (A.map eP), .l (b.map eQ)] ∧ nmB b ++ rem = ws ∧ AllOk ts A ∧ (∀ q ∈ b, PartOk ts q.2) ∧ A.length = rem.length) (fun _ _ _ _ => rfl) ?_ ?_ ws _ _ ⟨[], C0, _, _, none, rfl, rfl, rfl, hCok, fun q hq => by simp at hq, wl.symm⟩
    · rintro ρ μ ⟨b, A, c1, a2, a6, rfl, rfl, e2, -, hp, -⟩
      rw [List.append_nil] at e2
      have hbl : b.length = C0.length := by rw [← wl, ← e2]; unfold nmB; rw [List.length_map]
      refine ⟨_, rfl, _, rfl, _, rfl, _, rfl, _, rfl, by simp, rt1 (h ts b (1 + wi) ⟨hw, scn_bk e2 (by omega) wnd wok hp, by omega, by omega, by rw [e2]; exact wq, by omega⟩) rfl⟩
    · rintro w xs ρ μ K ⟨b, A, c1, a2, a6, rfl, rfl, e2, hA, hp, hl⟩ hK
      have hbl : b.length + A.length ≤ 12 := by
        have := congrArg List.length e2
        unfold nmB at this
        simp at this hl
        omega
      rw [List.length_cons] at hl
      refine ⟨_, rfl, ⟨_, rfl⟩, _, rfl, _, rfl, ⟨_, rfl⟩, _, rfl, _, rfl, .inl ⟨_, rfl, 0, _, rfl, rfl, rfl, _, rfl, by rw [List.length_map]; omega, by rw [List.length_map]; omega, fun i hi => ?_⟩⟩
      rw [List.length_map] at hi
      have hi' : i < A.length := by omega
      refine ⟨2, _, eP A[i], i, rfl, rfl, rfl, by omega, by rw [List.getElem?_map, List.getElem?_eq_getElem hi']; rfl, ?_⟩
      refine ⟨_, rfl, by simp, 3, _, _, rfl, rfl, rfl, by rw [List.length_map]; omega, ?_⟩
      refine hK _ _ ⟨b ++ [(w, A[i])], A.eraseIdx i, c1, a2, some (.d (.str w)), rfl, ?_, by rw [nm_snoc, List.append_assoc]; exact e2, fun q hq => hA q (List.mem_of_mem_eraseIdx hq), fun q hq => ?_, by rw [List.length_eraseIdx_of_lt hi']; omega⟩
      · rw [eQ_snoc, ← erase_map]; rfl
      · rcases List.mem_append.mp hq with z | z
        · exact hp q z
        · have : q = (w, A[i]) := by simpa using z
          rw [this]; exact hA _ (List.getElem_mem hi')
end JR
set_option maxHeartbeats 1000000
/-! JS30: what the law's readings give: names more. -/
namespace JR
open PySem PySem.Spec PyProof.Rows L2 JM PySem.W

theorem free_q {ws us : List Str} (hq : QFew ws) (hl : us.length ≤ 2) : ∃ k, 1 ≤ k ∧ k ≤ 8 ∧ qk k ∉ ws ++ us := by
  have hb : ∃ kb, ∀ k, 1 ≤ k → k ≤ 8 → qk k ∈ ws → k = kb := by
    by_cases e : ∃ kb, 1 ≤ kb ∧ kb ≤ 8 ∧ qk kb ∈ ws
    · obtain ⟨kb, b1, b8, bm⟩ := e
      exact ⟨kb, fun k h1 h8 hm => hq k kb h1 h8 b1 b8 hm bm⟩
    · exact ⟨0, fun k h1 h8 hm => absurd ⟨k, h1, h8, hm⟩ e⟩
  have hu : ∃ lu lv, ∀ k, k ≤ 8 → qk k ∈ us → k = lu ∨ k = lv := by
    match us, hl with
    | [], _ => exact ⟨0, 0, fun k _ hm => by simp at hm⟩
    | [u], _ => exact ⟨u.length, 0, fun k h8 hm => by
        have e : qk k = u := by simpa using hm
        have := (qk_at h8).2.1
        rw [e] at this
        exact .inl this.symm⟩
    | [u, v], _ => exact ⟨u.length, v.length, fun k h8 hm => by
        have e : qk k = u ∨ qk k = v := by simpa using hm
        have := (qk_at h8).2.1
        rcases e with e | e <;> rw [e] at this
        · exact .inl this.symm
        · exact .inr this.symm⟩
    | _ :: _ :: _ :: _, h => simp at h
  obtain ⟨kb, hb⟩ := hb
  obtain ⟨lu, lv, hu⟩ := hu
  apply Classical.byContradiction
  intro hn
  have key : ∀ k, 1 ≤ k → k ≤ 8 → k = kb ∨ k = lu ∨ k = lv := fun k h1 h8 => by
    have hm : qk k ∈ ws ++ us := Classical.byContradiction fun q => hn ⟨k, h1, h8, q⟩
    rcases List.mem_append.mp hm with q | q
    · exact .inl (hb k h1 h8 q)
    · exact .inr (hu k h8 q)
  have k1 := key 1 (by omega) (by omega)
  have k2 := key 2 (by omega) (by omega)
  have k3 := key 3 (by omega) (by omega)
  have k4 := key 4 (by omega) (by omega)
  omega
/-- a row put in at a place -/
def ins (b : Bk) (i : Nat) (w : Str) (p : Part) : Bk := b.take i ++ (w, p) :: b.drop i
theorem ins_perm (b : Bk) (i : Nat) (w : Str) (p : Part) : (ins b i w p).Perm ((w, p) :: b) := by
  unfold ins
  refine List.perm_middle.trans ?_
  rw [List.take_append_drop]
theorem mem_ins {b : Bk} {i : Nat} {w : Str} {p : Part} {q : Str × Part} : q ∈ ins b i w p ↔ q = (w, p) ∨ q ∈ b := by
  rw [(ins_perm b i w p).mem_iff, List.mem_cons]
theorem more_nm {ts : List (List Nat)} {b b' : Bk} {M : List Part} {tw : Bool} {fr : Fr} (h : MoreOk ts b M tw b' fr) {w : Str} (hw : w ∉ nmB b ++ fr.map (·.1)) : ∀ q ∈ b', q.1 ≠ w := fun q hq e => by
  by_cases hm : q.1 ∈ fr.map (·.1)
  · exact hw (List.mem_append_right _ (e ▸ hm))
  · have : q ∈ b := by
      rw [← h.back]
      exact List.mem_filter.mpr ⟨hq, decide_eq_true hm⟩
    exact hw (List.mem_append_left _ (e ▸ List.mem_map.mpr ⟨q, this, rfl⟩))
theorem more_ins {ts : List (List Nat)} {b b' : Bk} {M : List Part} {tw : Bool} {fr : Fr} (h : MoreOk ts b M tw b' fr) {w : Str} {p : Part} {mo : Option Str} (i : Nat) (hl : b'.length < 24) (hf : fr.length < 3) (hn : NameOk w) (hw : w ∉ nmB b ++ fr.map (·.1)) (hp : PartOk ts p)
    (hc : if tw = true then ∃ m, mo = some m ∧ (m, p) ∈ b else ∃ m ∈ M, PSub p m) : MoreOk ts b M tw (ins b' i w p) (fr ++ [(w, mo)]) := by
  have hne := more_nm h hw
  have hfm : (fr ++ [(w, mo)]).map (·.1) = fr.map (·.1) ++ [w] := by rw [List.map_append]; rfl
  refine ⟨⟨?_, ?_, fun q hq => ?_, fun q hq => ?_⟩, ?_, fun x hx => ?_, fun q hq hm => ?_, fun ht x hx => ?_, by rw [List.length_append, List.length_singleton]; omega, fun x hx => ?_⟩
  · rw [(ins_perm b' i w p).length_eq, List.length_cons]; omega
  · have hp' : (nmB (ins b' i w p)).Perm (w :: nmB b') := (ins_perm b' i w p).map _
    rw [hp'.nodup_iff]
    refine List.nodup_cons.mpr ⟨fun hm => ?_, h.ok.nd⟩
    obtain ⟨q, hq, e⟩ := List.mem_map.mp hm
    exact hne q hq e
  · rcases mem_ins.mp hq with e | hq
    · rw [e]; exact hn
    · exact h.ok.nm q hq
  · rcases mem_ins.mp hq with e | hq
    · rw [e]; exact hp
    · exact h.ok.pt q hq
  · rw [hfm]
    unfold ins
    rw [List.filter_append, List.filter_cons, if_neg (by simp), ← List.filter_append, List.take_append_drop]
    refine Eq.trans ?_ h.back
    refine List.filter_congr fun q hq => ?_
    have := hne q hq
    simp [this]
  · rcases List.mem_append.mp hx with z | z
    · exact h.new x z
    · have e : x = (w, mo) := by simpa using z
      rw [e]
      exact fun hm => hw (List.mem_append_left _ hm)
  · rcases mem_ins.mp hq with e | hq
    · rw [e]
      cases tw with
      | true =>
        rw [if_pos rfl] at hc ⊢
        obtain ⟨m, _, hm⟩ := hc
        exact ⟨m, hm⟩
      | false =>
        rw [if_neg Bool.false_ne_true] at hc ⊢
        exact hc
    · rw [hfm] at hm
      rcases List.mem_append.mp hm with z | z
      · exact h.part q hq z
      · have e : q.1 = w := by simpa using z
        exact absurd e (hne q hq)
  · rcases List.mem_append.mp hx with z | z
    · obtain ⟨m, p', h1, h2, h3⟩ := h.mate ht x z
      exact ⟨m, p', h1, mem_ins.mpr (.inr h2), h3⟩
    · have e : x = (w, mo) := by simpa using z
      rw [if_pos ht] at hc
      obtain ⟨m, h1, h2⟩ := hc
      rw [e]
      exact ⟨m, p, h1, mem_ins.mpr (.inl rfl), h2⟩
  · rcases List.mem_append.mp hx with z | z
    · exact h.fnm x z
    · have e : x = (w, mo) := by simpa using z
      rw [e]; exact hn
theorem more_start {ts : List (List Nat)} {b : Bk} {M : List Part} {tw : Bool} (hb : BkOk ts b) : MoreOk ts b M tw b [] :=
  ⟨hb, List.filter_eq_self.mpr fun q _ => by simp, fun x hx => by simp at hx, fun q _ hm => by simp at hm, fun _ x hx => by simp at hx, by simp, fun x hx => by simp at hx⟩
theorem eQ_ins (b : Bk) (i : Nat) (w : Str) (p : Part) : (b.map eQ).take i ++ .tuple [.str w, eP p] :: (b.map eQ).drop i = (ins b i w p).map eQ := by
  unfold ins
  rw [List.map_append, List.map_cons, List.map_take, List.map_drop]; rfl
theorem h_law_more : ∀ dvs R, sc_law_more dvs R → td_law_more (endsOf 1 R) (startD N_law_more.length dvs) [.p] := by
  rintro dvs R ⟨ts, b, M, tw, rfl, hw, hb, hb2, hb12, hqf, hM, hMl, hMok, h⟩
  refine ⟨_, rfl, _, rfl, _, rfl, _, rfl, ?_⟩
  refine lcGo_map eQ (fun q => .str q.1) trivial b (by omega) (fun q hq R1 k => ⟨_, rfl, _, _, .str q.1, rfl, rfl, atI_nat (j := 0) rfl, k⟩) ?_
  refine ⟨_, rfl, by simp, ?_⟩
  refine ⟨3, rfl, by omega, by omega, ?_⟩
  rw [show rngD 0 (Int.toNat 3) = (List.range 3).map eI from rng_eI' rfl]
  refine forGo_inv eI (fun rem ρ μ => ∃ (b' : Bk) (fr : Fr) (a7 a8 a9 a10 : Option DV), ρ = [some (.c 0), some (.d (eB b)), some (.d (eM M)), some (.d (.bool tw)), some (.c 1), some (.c 2), some (.c 3), a7, a8, a9, a10, none] ∧ μ = [.p, .l (b'.map eQ), .l ((nmB b ++ fr.map (·.1)).map .str), .l (fr.map eFr)] ∧ MoreOk ts b M tw b' fr ∧ fr.length + rem.length = 3 ∧ b'.length = b.length + fr.length ∧ ∀ x ∈ fr, NameOk x.1)
    (fun _ _ _ _ => trivial) ?_ ?_ (List.range 3) _ _ ⟨b, [], none, none, none, none, rfl, ?_, more_start hb, rfl, rfl, fun x hx => by simp at hx⟩
  · rintro ρ μ ⟨b', fr, a7, a8, a9, a10, rfl, rfl, hm, hl, hbl, -⟩
    exact ⟨_, rfl, _, rfl, _, rfl, 3, _, rfl, rfl, _, rfl, by simp, rt1 (h b' fr hm) rfl⟩
  · rintro k0 xs ρ μ K ⟨b', fr, a7, a8, a9, a10, rfl, rfl, hm, hl, hbl, hfn⟩ hK
    have hfl : fr.length ≤ 2 := by rw [List.length_cons] at hl; omega
    have hfl' : (fr.map (·.1)).length ≤ 2 := by rw [List.length_map]; exact hfl
    have hkn : ∀ s ∈ nmB b ++ fr.map (·.1), NameOk s := fun s hs => by
      rcases List.mem_append.mp hs with z | z
      · exact nmB_ok hb s z
      · obtain ⟨x, hx, rfl⟩ := List.mem_map.mp z
        exact hfn x hx
    refine ⟨_, rfl, 2, _, rfl, rfl, nmB b ++ fr.map (·.1), rfl, hkn, free_q hqf hfl', fun k h1 h8 hn => ⟨_, rfl, ?_⟩⟩
    have hnk := (qk_at h8).2.2 h1
    generalize qk k = w at hn hnk ⊢
    refine ⟨_, rfl, _, rfl, _, rfl, .inl ⟨_, rfl, 0, _, rfl, rfl, rfl, _, rfl, by rw [List.length_map]; omega, by rw [List.length_map]; omega, fun i hi => ?_⟩⟩
    rw [List.length_map] at hi
    have hi' : i < b.length := by omega
    refine ⟨_, _, eQ b[i], rfl, rfl, atI_nat (by rw [List.getElem?_map, List.getElem?_eq_getElem hi']; rfl), _, rfl, _, rfl, rfl, ?_⟩
    have hbm : b[i] ∈ b := List.getElem_mem hi'
    generalize b[i] = q at hbm ⊢
    refine ⟨_, rfl, _, rfl, ?_⟩
    have rest : ∀ (mo : Option Str) (p : Part) (j : Nat), j ≤ b'.length → PartOk ts p → (if tw = true then ∃ m, mo = some m ∧ (m, p) ∈ b else ∃ m ∈ M, PSub p m) → ∀ a7 a8 a9 a10, K [some (.c 0), some (.d (eB b)), some (.d (eM M)), some (.d (.bool tw)), some (.c 1), some (.c 2), some (.c 3), a7, a8, a9, a10, none] [.p, .l ((ins b' j w p).map eQ), .l ((nmB b ++ (fr ++ [(w, mo)]).map (·.1)).map .str), .l ((fr ++ [(w, mo)]).map eFr)] := fun mo p j hj hp hc a7 a8 a9 a10 => by
      refine hK _ _ ⟨_, _, a7, a8, a9, a10, rfl, rfl, more_ins hm j (by omega) (by omega) hnk hn hp hc, ?_, ?_, fun x hx => ?_⟩
      · rw [List.length_append, List.length_singleton]
        rw [List.length_cons] at hl
        omega
      · rw [(ins_perm b' j w p).length_eq, List.length_cons, List.length_append, List.length_singleton]; omega
      · rcases List.mem_append.mp hx with z | z
        · exact hfn x z
        · have e : x = (w, mo) := by simpa using z
          rw [e]; exact hnk
    have ek : ∀ mo : Option Str, (nmB b ++ fr.map (·.1)).map PyData.str ++ [.str w] = (nmB b ++ (fr ++ [(w, mo)]).map (·.1)).map .str := fun mo => by
      rw [List.map_append (l₁ := fr), ← List.append_assoc, List.map_append (l₁ := nmB b ++ fr.map (·.1))]; rfl
    have ef : ∀ mo : Option Str, fr.map eFr ++ [.tuple [.str w, eO mo]] = (fr ++ [(w, mo)]).map eFr := fun mo => by
      rw [List.map_append]; rfl
    have hnl : (nmB b).length = b.length := by unfold nmB; rw [List.length_map]
    cases tw with
    | true =>
      refine ifF rfl ?_
      refine ⟨_, rfl, ⟨_, rfl⟩, _, rfl, _, rfl, .inl ⟨_, rfl, _, _, rfl, rfl, 0, _, rfl, rfl, rfl, _, rfl, by rw [List.length_map]; omega, by rw [List.length_map]; omega, fun j hj => ?_⟩⟩
      rw [List.length_map] at hj
      refine ⟨_, rfl, _, rfl, _, rfl, by simp, 1, _, _, j, rfl, rfl, rfl, by omega, by rw [List.length_map]; omega, ?_⟩
      refine ⟨_, rfl, ⟨_, rfl⟩, _, rfl, 2, _, _, rfl, rfl, rfl, by simp; omega, ?_⟩
      refine ⟨_, rfl, ⟨_, rfl⟩, _, rfl, _, rfl, _, rfl, by simp, 3, _, _, rfl, rfl, rfl, by simp; omega, ?_⟩
      have := rest (some q.1) q.2 j (by omega) (hb.pt q hbm) (by rw [if_pos rfl]; exact ⟨q.1, rfl, hbm⟩)
      rw [← eQ_ins, ← ek (some q.1), ← ef (some q.1)] at this
      exact this _ _ _ _
    | false =>
      refine ifT rfl ?_
      refine ⟨_, rfl, _, rfl, _, rfl, _, rfl, .inl ⟨_, rfl, 0, _, rfl, rfl, rfl, _, rfl, ?_, by rw [List.length_map]; omega, fun m hm' => ?_⟩⟩
      · rw [List.length_map]
        have := List.length_pos_iff.mpr hM
        omega
      rw [List.length_map] at hm'
      have hm2 : m < M.length := by omega
      refine ⟨_, _, eP M[m], rfl, rfl, atI_nat (by rw [List.getElem?_map, List.getElem?_eq_getElem hm2]; rfl), 0, _, rfl, rfl, rfl, ts, M[m], rfl, hw, hMok _ (List.getElem_mem hm2), fun p hp hs => ?_⟩
      refine ⟨_, rfl, ⟨_, rfl⟩, _, rfl, _, rfl, .inl ⟨_, rfl, _, _, rfl, rfl, 0, _, rfl, rfl, rfl, _, rfl, by rw [List.length_map]; omega, by rw [List.length_map]; omega, fun j hj => ?_⟩⟩
      rw [List.length_map] at hj
      refine ⟨_, rfl, _, rfl, _, rfl, by simp, 1, _, _, j, rfl, rfl, rfl, by omega, by rw [List.length_map]; omega, ?_⟩
      refine ⟨_, rfl, ⟨_, rfl⟩, _, rfl, 2, _, _, rfl, rfl, rfl, by simp; omega, ?_⟩
      refine ⟨_, rfl, ⟨_, rfl⟩, _, rfl, _, rfl, _, rfl, by simp, 3, _, _, rfl, rfl, rfl, by simp; omega, ?_⟩
      have := rest none p j (by omega) hp (by rw [if_neg Bool.false_ne_true]; exact ⟨M[m], List.getElem_mem hm2, hs⟩)
      rw [← eQ_ins, ← ek none, ← ef none] at this
      exact this _ _ _ _
  · rw [List.map_nil, List.append_nil]
    unfold nmB
    rw [List.map_map]; rfl
end JR
set_option maxHeartbeats 1000000
/-! JP2: the plain law: what is closed is one; lots; ladders; twins. -/
namespace JR
open PySem PySem.Spec PyProof.Rows L2 JM PySem.W

theorem map_eP_inj : ∀ {l m : List Part}, l.map eP = m.map eP → l = m
  | [], [], _ => rfl
  | [], _ :: _, h => by simp at h
  | _ :: _, [], h => by simp at h
  | a :: l, b :: m, h => by
    rw [List.map_cons, List.map_cons, List.cons.injEq] at h
    rw [eP_inj.mp h.1, map_eP_inj h.2]
theorem nodup_perm {α : Type} [BEq α] [LawfulBEq α] {l m : List α} (hl : l.Nodup) (hm : m.Nodup) (h : ∀ x, x ∈ l ↔ x ∈ m) : l.Perm m := by
  induction l generalizing m with
  | nil =>
    cases m with
    | nil => exact .nil
    | cons a m => exact absurd ((h a).mpr (by simp)) (by simp)
  | cons a l ih =>
    have hl' := List.nodup_cons.mp hl
    have ha : a ∈ m := (h a).mp (by simp)
    refine (List.Perm.cons a (ih hl'.2 (hm.erase a) fun x => ?_)).trans (List.perm_cons_erase ha).symm
    rw [hm.mem_erase_iff, ← h x, List.mem_cons]
    constructor
    · intro hx
      exact ⟨fun e => hl'.1 (e ▸ hx), .inr hx⟩
    · rintro ⟨hne, e | hx⟩
      · exact absurd e hne
      · exact hx
/-- what is closed is one -/
theorem cl_one {ts : List (List Nat)} {ps qs : List Part} {r : Nat} {M N : List Part} (hM : Cl ts ps r M) (hN : Cl ts qs r N) (h : ∀ p ∈ ps, Cov N p) (k : ∀ q ∈ qs, Cov M q) : M = N := by
  refine map_eP_inj (ups_uniq hM.ups hN.ups ((nodup_perm (apart_nodup hM.fin.apart hM.fin.ok) (apart_nodup hN.fin.apart hN.fin.ok) fun x => ⟨fin_sub hM.fin hN.fin h k x, fin_sub hN.fin hM.fin k h x⟩).map eP) (allAlike_eP M) fun a ha => (pd_ePs M a ha).1)
theorem cl_det {ts : List (List Nat)} {ps : List Part} {r : Nat} {M N : List Part} (hM : Cl ts ps r M) (hN : Cl ts ps r N) : M = N := cl_one hM hN hN.fin.cov hM.fin.cov
/-- same places in the end: the same parts, or such as lie within -/
theorem cl_same {ts : List (List Nat)} {ps qs : List Part} {r : Nat} {M N : List Part} (hM : Cl ts ps r M) (hN : Cl ts qs r N) (h : ∀ p ∈ ps, p ∈ qs) (k : ∀ q ∈ qs, Cov M q) : M = N := cl_one hM hN (fun p hp => hN.fin.cov p (h p hp)) k
theorem rs_det {ts : List (List Nat)} {r : Nat} {M : List Part} {L : List Rung} (h : Rs ts r M L) : ∀ {L' : List Rung}, Rs ts r M L' → L = L' := by
  induction h with
  | last h =>
    intro L' h'
    cases h' with
    | last _ => rfl
    | step h2 _ _ _ => omega
  | @step r r1 M M1 L h hr hM t ih =>
    intro L' h'
    cases h' with
    | last h2 => omega
    | @step _ r1' _ M1' L1' _ hr' hM' t' =>
      have e : r1 = r1' := by
        obtain ⟨⟨i, j, p, q, hij, hi, hj, e1⟩, l1⟩ := hr
        obtain ⟨⟨i', j', p', q', hij', hi', hj', e2⟩, l2⟩ := hr'
        have a1 := l1 i' j' p' q' hij' hi' hj'
        have a2 := l2 i j p q hij hi hj
        omega
      subst e
      have e := cl_det hM hM'
      subst e
      rw [ih t']
theorem rg_same {ts : List (List Nat)} {ps qs : List Part} {L L' : List Rung} (h : Rg ts ps L) (h' : Rg ts qs L') (k1 : ∀ p ∈ ps, p ∈ qs) (k2 : ∀ q ∈ qs, q ∈ ps) : L = L' := by
  obtain ⟨M, hM, hL⟩ := h
  obtain ⟨N, hN, hL'⟩ := h'
  have e := cl_same hM hN k1 fun q hq => hM.fin.cov q (k2 q hq)
  subst e
  exact rs_det hL hL'
theorem rs_head {ts : List (List Nat)} {r : Nat} {M : List Part} {L : List Rung} (h : Rs ts r M L) : ∃ L', L = (r, M) :: L' := by
  cases h with
  | last h => exact ⟨[], rfl⟩
  | step _ _ _ _ => exact ⟨_, rfl⟩
theorem meet_twin {ts : List (List Nat)} {ps : List Part} {L : List Rung} {p : Part} (h : Rg ts ps L) (hp : p ∈ ps) : meetN L p p = 0 := by
  obtain ⟨M, hM, hL⟩ := h
  obtain ⟨L', e⟩ := rs_head hL
  obtain ⟨m, hm, hs⟩ := hM.fin.cov p hp
  have : (0 : Nat) ∈ L.flatMap fun x => (x.2.filter fun m => psubB p m && psubB p m).map fun _ => x.1 := by
    rw [e, List.mem_flatMap]
    exact ⟨(0, M), by simp, List.mem_map.mpr ⟨m, List.mem_filter.mpr ⟨hm, by rw [psubB_iff.mpr hs]; rfl⟩, rfl⟩⟩
  have := minL_le this
  unfold meetN
  omega
theorem tog_twin {ts : List (List Nat)} {ps : List Part} {r : Nat} {M : List Part} {p : Part} (h : Cl ts ps r M) (hp : p ∈ ps) : togB M p p = true := by
  obtain ⟨m, hm, hs⟩ := h.fin.cov p hp
  unfold togB
  rw [List.any_eq_true]
  exact ⟨m, hm, by rw [psubB_iff.mpr hs]; rfl⟩
/-! ### in just one -/
theorem flatMap_congr {α β : Type} {f g : β → List α} : ∀ {M : List β}, (∀ m ∈ M, f m = g m) → M.flatMap f = M.flatMap g
  | [], _ => rfl
  | m :: M, h => by rw [List.flatMap_cons, List.flatMap_cons, h m (by simp), flatMap_congr fun x hx => h x (List.mem_cons_of_mem _ hx)]
theorem flat_perm {α β : Type} (P : α → β → Bool) : ∀ {M : List β} {b : List α}, M.Nodup → (∀ q ∈ b, ∃ m ∈ M, P q m = true) → (∀ q ∈ b, ∀ m ∈ M, ∀ m' ∈ M, P q m = true → P q m' = true → m = m') → (M.flatMap fun m => b.filter fun q => P q m).Perm b
  | [], b, _, h, _ => by
    cases b with
    | nil => exact .nil
    | cons q b =>
      obtain ⟨m, hm, _⟩ := h q (by simp)
      simp at hm
  | m :: M, b, hn, h, hu => by
    have hn' := List.nodup_cons.mp hn
    rw [List.flatMap_cons]
    have e : (M.flatMap fun m' => b.filter fun q => P q m') = M.flatMap fun m' => (b.filter fun q => !P q m).filter fun q => P q m' := by
      refine flatMap_congr fun m' hm' => ?_
      rw [List.filter_filter]
      refine List.filter_congr fun q hq => ?_
      cases e1 : P q m' with
      | false => rfl
      | true =>
        cases e2 : P q m with
        | false => rfl
        | true =>
          have := hu q hq m (by simp) m' (List.mem_cons_of_mem _ hm') e2 e1
          exact absurd hm' (this ▸ hn'.1)
    rw [e]
    refine (List.Perm.append_left _ (flat_perm P hn'.2 (fun q hq => ?_) fun q hq m1 h1 m2 h2 => hu q (List.mem_filter.mp hq).1 m1 (List.mem_cons_of_mem _ h1) m2 (List.mem_cons_of_mem _ h2))).trans (List.filter_append_perm (fun q => P q m) b)
    obtain ⟨hq1, hq2⟩ := List.mem_filter.mp hq
    obtain ⟨m1, h1, h2⟩ := h q hq1
    rcases List.mem_cons.mp h1 with e | h1
    · rw [e] at h2
      rw [h2] at hq2
      cases hq2
    · exact ⟨m1, h1, h2⟩
theorem one_home {ts : List (List Nat)} {r : Nat} {M : List Part} (h : Apart ts r M) (ok : AllOk ts M) {p m m' : Part} (hp : PartOk ts p) (h1 : m ∈ M) (h2 : m' ∈ M) (s1 : PSub p m) (s2 : PSub p m') : m = m' := by
  refine apart_two h ok h1 h2 ?_
  have := far_mono hp hp s1 s2
  rw [far_sub hp (psub_refl p)] at this
  omega
theorem home_perm {α : Type} (f : α → Part) {ts : List (List Nat)} {r : Nat} {M : List Part} {b : List α} (h : Apart ts r M) (ok : AllOk ts M) (hb : ∀ q ∈ b, PartOk ts (f q)) (hc : ∀ q ∈ b, Cov M (f q)) : (M.flatMap fun m => b.filter fun q => psubB (f q) m).Perm b := by
  refine flat_perm (fun q m => psubB (f q) m) (apart_nodup h ok) (fun q hq => ?_) fun q hq m hm m' hm' h1 h2 => one_home h ok (hb q hq) hm hm' (psubB_iff.mp h1) (psubB_iff.mp h2)
  obtain ⟨m, hm, s⟩ := hc q hq
  exact ⟨m, hm, psubB_iff.mpr s⟩
/-- each of what is closed has something -/
theorem fin_has {ts : List (List Nat)} {ps : List Part} {r : Nat} {M : List Part} (h : Fin ts ps r M) : ∀ m ∈ M, ∃ p ∈ ps, PSub p m := by
  intro m hm
  have hsub : ∀ q ∈ M.filter (fun m => ps.any fun p => psubB p m), q ∈ M := fun q hq => (List.mem_filter.mp hq).1
  obtain ⟨n, hn, s⟩ := h.least (M.filter fun m => ps.any fun p => psubB p m) (fun q hq => h.ok q (hsub q hq)) (List.Pairwise.filter _ h.apart) (fun p hp => by
    obtain ⟨q, hq, s⟩ := h.cov p hp
    exact ⟨q, List.mem_filter.mpr ⟨hq, List.any_eq_true.mpr ⟨p, hp, psubB_iff.mpr s⟩⟩, s⟩) m hm
  have e : m = n := apart_two h.apart h.ok hm (hsub n hn) (by rw [far_sub (h.ok m hm) s]; exact Nat.zero_le _)
  obtain ⟨p, hp, hs⟩ := List.any_eq_true.mp (List.mem_filter.mp hn).2
  rw [e]
  exact ⟨p, hp, psubB_iff.mp hs⟩
theorem flat_len {α β : Type} {f : β → List α} : ∀ {M : List β}, (∀ m ∈ M, f m ≠ []) → M.length ≤ (M.flatMap f).length
  | [], _ => Nat.zero_le _
  | m :: M, h => by
    rw [List.flatMap_cons, List.length_append, List.length_cons]
    have a := List.length_pos_iff.mpr (h m (by simp))
    have b := flat_len (f := f) fun x hx => h x (List.mem_cons_of_mem _ hx)
    omega
theorem fin_len {ts : List (List Nat)} {ps : List Part} {r : Nat} {M : List Part} (h : Fin ts ps r M) (hp : AllOk ts ps) : M.length ≤ ps.length := by
  have p := home_perm id h.apart h.ok hp h.cov
  have a := flat_len (M := M) (f := fun m => ps.filter fun q => psubB (id q) m) fun m hm e => by
    obtain ⟨q, hq, s⟩ := fin_has h m hm
    have : q ∈ ps.filter fun q => psubB (id q) m := List.mem_filter.mpr ⟨hq, psubB_iff.mpr s⟩
    rw [e] at this
    simp at this
  rw [p.length_eq] at a
  exact a
theorem fin_ne {ts : List (List Nat)} {ps : List Part} {r : Nat} {M : List Part} (h : Fin ts ps r M) (hp : ps ≠ []) : M ≠ [] := by
  obtain ⟨p, hp⟩ := List.exists_mem_of_ne_nil ps hp
  obtain ⟨m, hm, _⟩ := h.cov p hp
  exact List.ne_nil_of_mem hm
/-! ### names more -/
section
variable {ts : List (List Nat)} {b b' : Bk} {M : List Part} {tw : Bool} {fr : Fr}
theorem more_sub (h : MoreOk ts b M tw b' fr) : ∀ q ∈ b, q ∈ b' := fun q hq => by
  rw [← h.back] at hq
  exact (List.mem_filter.mp hq).1
theorem more_psub (h : MoreOk ts b M tw b' fr) : ∀ p ∈ psB b, p ∈ psB b' := fun p hp => by
  obtain ⟨q, hq, rfl⟩ := List.mem_map.mp hp
  exact List.mem_map.mpr ⟨q, more_sub h q hq, rfl⟩
theorem more_old (h : MoreOk ts b M tw b' fr) {q : Str × Part} (hq : q ∈ b') (hn : q.1 ∉ fr.map (·.1)) : q ∈ b := by
  rw [← h.back]
  exact List.mem_filter.mpr ⟨hq, decide_eq_true hn⟩
theorem more_cov {r : Nat} (h : MoreOk ts b M tw b' fr) (hM : Cl ts (psB b) r M) : ∀ q ∈ b', Cov M q.2 := fun q hq => by
  by_cases hn : q.1 ∈ fr.map (·.1)
  · have := h.part q hq hn
    cases tw with
    | true =>
      rw [if_pos rfl] at this
      obtain ⟨m, hm⟩ := this
      exact hM.fin.cov _ (List.mem_map.mpr ⟨(m, q.2), hm, rfl⟩)
    | false =>
      rw [if_neg Bool.false_ne_true] at this
      obtain ⟨m, hm, s⟩ := this
      exact ⟨m, hm, s⟩
  · exact hM.fin.cov _ (List.mem_map.mpr ⟨q, more_old h hq hn, rfl⟩)
theorem more_stand {r : Nat} {N : List Part} (h : MoreOk ts b M tw b' fr) (hM : Cl ts (psB b) r M) (hN : Cl ts (psB b') r N) : M = N := cl_same hM hN (more_psub h) fun p hp => by
  obtain ⟨q, hq, rfl⟩ := List.mem_map.mp hp
  exact more_cov h hM q hq
theorem twin_back (h : MoreOk ts b M true b' fr) : ∀ p ∈ psB b', p ∈ psB b := fun p hp => by
  obtain ⟨q, hq, rfl⟩ := List.mem_map.mp hp
  by_cases hn : q.1 ∈ fr.map (·.1)
  · have := h.part q hq hn
    rw [if_pos rfl] at this
    obtain ⟨m, hm⟩ := this
    exact List.mem_map.mpr ⟨(m, q.2), hm, rfl⟩
  · exact List.mem_map.mpr ⟨q, more_old h hq hn, rfl⟩
theorem lot_back (h : MoreOk ts b M tw b' fr) (m : Part) : (lotOf b' m).filter (fun s => decide (s ∉ fr.map (·.1))) = lotOf b m := by
  unfold lotOf
  rw [← h.back, List.filter_map, List.filter_filter, List.filter_filter]
  congr 1
  refine List.filter_congr fun q hq => ?_
  rw [Bool.and_comm]; rfl
end
/-- one of two alike is left out: the same stands -/
theorem spare_same {ts : List (List Nat)} {b : Bk} {r : Nat} {v m : Str} {p : Part} {M N : List Part} (hb : BkOk ts b) (hv : (v, p) ∈ b) (hm : (m, p) ∈ b) (hne : v ≠ m) (hM : Cl ts (psB b) r M) (hN : Cl ts (psB (b.filter fun y => decide (y.1 ≠ v))) r N) : N = M := by
  refine cl_one hN hM (fun q hq => hM.fin.cov q ?_) fun q hq => hN.fin.cov q ?_
  · obtain ⟨z, hz, rfl⟩ := List.mem_map.mp hq
    exact List.mem_map.mpr ⟨z, (List.mem_filter.mp hz).1, rfl⟩
  · obtain ⟨z, hz, rfl⟩ := List.mem_map.mp hq
    by_cases e : z.1 = v
    · have e2 : z.2 = p := by
        have f := filter_one hb.nd hv
        have hz' : z ∈ b.filter fun q => decide (q.1 = v) := List.mem_filter.mpr ⟨hz, decide_eq_true e⟩
        rw [f] at hz'
        have : z = (v, p) := by simpa using hz'
        rw [this]
      rw [e2]
      exact List.mem_map.mpr ⟨(m, p), List.mem_filter.mpr ⟨hm, decide_eq_true (Ne.symm hne)⟩, rfl⟩
    · exact List.mem_map.mpr ⟨z, List.mem_filter.mpr ⟨hz, decide_eq_true e⟩, rfl⟩
end JR
set_option maxHeartbeats 1000000
/-! JS31: what the law's readings give: neither of two alike is needed. -/
namespace JR
open PySem PySem.Spec PyProof.Rows L2 JM PySem.W

theorem nm_get {b : Bk} {n : Str} (h : n ∈ nmB b) : ∃ p, (n, p) ∈ b := by
  obtain ⟨q, hq, rfl⟩ := List.mem_map.mp h
  exact ⟨q.2, hq⟩
theorem h_law_spare : ∀ dvs R, sc_law_spare dvs R → td_law_spare (endsOf 1 R) (startD N_law_spare.length dvs) [.p] := by
  rintro dvs R ⟨ts, b, os, v, m, p, r, rfl, hw, hb, hne, hol, hos, hvm, hv, hm, hr, h⟩
  have hpos := List.length_pos_iff.mpr hne
  have hat : ∀ {i : Nat} (hi : i < os.length), atI (os.map PyData.str) (i : Int) = some (.str os[i]) := fun {i} hi => atI_nat (by rw [List.getElem?_map, List.getElem?_eq_getElem hi]; rfl)
  refine ⟨_, rfl, _, rfl, _, rfl, .inl ⟨_, rfl, 0, _, rfl, rfl, rfl, _, rfl, by rw [List.length_map]; omega, by rw [List.length_map]; omega, fun i hi => ?_⟩⟩
  rw [List.length_map] at hi
  have hi' : i < os.length := by omega
  refine ⟨_, _, _, rfl, rfl, hat hi', ?_⟩
  refine ⟨_, rfl, _, rfl, _, rfl, .inl ⟨_, rfl, 0, _, rfl, rfl, rfl, _, rfl, by rw [List.length_map]; omega, by rw [List.length_map]; omega, fun j hj => ?_⟩⟩
  rw [List.length_map] at hj
  have hj' : j < os.length := by omega
  refine ⟨_, _, _, rfl, rfl, hat hj', ?_⟩
  have o1 := hos _ (List.getElem_mem hi')
  have o2 := hos _ (List.getElem_mem hj')
  generalize os[i] = n1 at o1 ⊢
  generalize os[j] = n2 at o2 ⊢
  obtain ⟨p1, h1⟩ := nm_get o1.1
  obtain ⟨p2, h2⟩ := nm_get o2.1
  refine ⟨_, rfl, _, rfl, _, rfl, _, rfl, _, rfl, rfl, rfl, ts, b, n1, n2, p1, p2, r, rfl, hw, hb, h1, h2, hr, fun M hM => ⟨_, rfl, ?_⟩⟩
  cases et : togB M p1 p2 with
  | false => exact ifT rfl (rt1 h rfl)
  | true =>
    refine ifF rfl ?_
    refine ⟨_, rfl, _, rfl, _, rfl, _, rfl, _, rfl, rfl, rfl, ts, b, n1, n2, p1, p2, r, rfl, hw, hb, h1, h2, hr, fun N hN => by rw [← cl_det hM hN]; exact et, fun fs hfs => ?_⟩
    have hfn : ∀ s ∈ fs, NameOk s := fun s hs => nmB_ok hb s (hfs s hs).1
    have hno : ∀ s ∈ [v, m], s ∉ fs := fun s hs hf => by
      obtain ⟨_, _, _, N, hN, e⟩ := hfs s hf
      have eN : N = M := by
        simp at hs
        rcases hs with rfl | rfl
        · exact spare_same hb hv hm hvm hM hN
        · exact spare_same hb hm hv (Ne.symm hvm) hM hN
      rw [eN, et] at e
      cases e
    have hnn : ∀ s ∈ [v, m], NameOk s := fun s hs => by
      simp at hs
      rcases hs with rfl | rfl
      · exact hb.nm _ hv
      · exact hb.nm _ hm
    refine ⟨_, rfl, _, rfl, ?_⟩
    refine lcGo_map PyData.str (fun _ => .bool false) trivial [v, m] (by simp) (fun s hs R1 k1 => ?_) ?_
    · refine ⟨_, rfl, _, rfl, _, _, rfl, rfl, sh_str (hnn s hs), sh_strs hfn, ?_⟩
      rw [any_str hfn (hnn s hs), decide_eq_false (hno s hs)]
      exact k1
    · exact ⟨[false, false], rfl, _, rfl, rt1 h rfl⟩
end JR
set_option maxHeartbeats 1000000
/-! JS32: what the law's readings give: twins. -/
namespace JR
open PySem PySem.Spec PyProof.Rows L2 JM PySem.W

theorem pd_eM (M : List Part) : Pd 3 (eM M) := pd_tuple (pd_ePs M)
theorem pd_rungs (L : List Rung) : Pd 5 (.tuple (L.map eR)) := pd_tuple fun x hx => by
  obtain ⟨y, _, rfl⟩ := List.mem_map.mp hx
  refine pd_tuple fun z hz => ?_
  have : z = eI y.1 ∨ z = eM y.2 := by simpa using hz
  rcases this with e | e <;> rw [e]
  · exact pd_int _
  · exact pd_eM _
theorem other_ne {b : Bk} (h : 2 ≤ b.length) (hn : (nmB b).Nodup) (m : Str) : ((nmB b).filter fun s => decide (s ≠ m)) ≠ [] := by
  match b, h with
  | q1 :: q2 :: r, _ =>
    have h' := List.nodup_cons.mp (show (q1.1 :: q2.1 :: nmB r).Nodup from hn)
    by_cases e : q1.1 = m
    · refine List.ne_nil_of_mem (a := q2.1) (List.mem_filter.mpr ⟨by simp [nmB], decide_eq_true fun e2 => h'.1 ?_⟩)
      rw [e, ← e2]; simp
    · exact List.ne_nil_of_mem (a := q1.1) (List.mem_filter.mpr ⟨by simp [nmB], decide_eq_true e⟩)
theorem h_law_twins_right : ∀ dvs R, sc_law_twins_right dvs R → td_law_twins_right (endsOf 1 R) (startD N_law_twins_right.length dvs) [.p] := by
  rintro dvs R ⟨ts, b, b', fr, M, r, rfl, hw, hb, hb2, hr, hmo, h⟩
  have hb' := hmo.ok
  have hbl := hb.le
  have hnl : (nmB b).length ≤ 24 := by unfold nmB; rw [List.length_map]; exact hbl
  have hnm := nmB_ok hb
  have hrg : ∀ L' L, Rg ts (psB b') L' → Rg ts (psB b) L → L' = L := fun L' L h1 h2 => rg_same h1 h2 (twin_back hmo) (more_psub hmo)
  refine ⟨_, rfl, _, rfl, rfl, ts, b', rfl, hw, hb', fun L' hL' => ⟨_, rfl, _, rfl, rfl, ts, b, rfl, hw, hb, fun L hL => ?_⟩⟩
  have eL := hrg L' L hL' hL
  subst eL
  refine ⟨_, _, rfl, rfl, pd_shaped (pd_rungs _) (by decide), pd_shaped (pd_rungs _) (by decide), _, rfl, ?_⟩
  refine ifF (by rw [eqv_self (pd_rungs _).1]; rfl) ?_
  refine ⟨_, rfl, _, rfl, ?_⟩
  refine lcGo_map eQ (fun q => .str q.1) trivial b (by omega) (fun q hq R1 k => ⟨_, rfl, _, _, .str q.1, rfl, rfl, atI_nat (j := 0) rfl, k⟩) ?_
  have en : (b.map fun q => PyData.str q.1) = (nmB b).map .str := by unfold nmB; rw [List.map_map]; rfl
  rw [en]
  refine ⟨_, rfl, _, rfl, ?_⟩
  refine forGo_inv eFr (fun rem ρ μ => ∃ a7 a8 a9 : Option DV, ρ = [some (.c 0), some (wld ts), some (.d (eB b)), some (.d (eB b')), some (.d (.list (fr.map eFr))), some (.d (eI r)), some (.d (eS (nmB b))), a7, a8, a9, none, none] ∧ μ = [.p] ∧ ∀ x ∈ rem, x ∈ fr) (fun _ _ _ _ => rfl) ?_ ?_ fr _ _ ⟨none, none, none, rfl, rfl, fun x hx => hx⟩
  · rintro ρ μ ⟨a7, a8, a9, rfl, rfl, -⟩
    obtain ⟨q0, br, eb⟩ : ∃ q0 br, b = q0 :: br := by
      cases b with
      | nil => simp at hb2
      | cons q0 br => exact ⟨q0, br, rfl⟩
    have hq0 : (q0.1, q0.2) ∈ b := by rw [eb]; simp
    have h0 : atI ((nmB b).map PyData.str) ((0 : Nat) : Int) = some (.str q0.1) := atI_nat (by rw [eb]; rfl)
    refine ⟨_, rfl, _, rfl, ?_⟩
    refine lc_all PyData.str (by rfl) (nmB b) (by omega) (fun n hn R1 k1 => ?_) ?_
    · obtain ⟨p, hp⟩ := nm_get hn
      refine ⟨_, rfl, _, rfl, _, rfl, _, _, _, rfl, rfl, h0, _, rfl, rfl, ts, b', q0.1, n, q0.2, p, rfl, hw, hb', more_sub hmo _ hq0, more_sub hmo _ hp, fun L1 hL1 => ?_⟩
      refine ⟨_, rfl, _, rfl, _, rfl, _, _, _, rfl, rfl, h0, _, rfl, rfl, ts, b, q0.1, n, q0.2, p, rfl, hw, hb, hq0, hp, fun L2 hL2 => ?_⟩
      have eL := hrg L1 L2 hL1 hL2
      subst eL
      refine ⟨_, _, rfl, rfl, sh_int _, sh_int _, ?_⟩
      rw [eqv_self (show pl (eI (meetN L1 q0.2 p)) = true from rfl)]
      exact k1
    · refine ⟨_, rfl, rt1 ?_ rfl⟩
      rw [all_true]; exact h
  · rintro ⟨w, mo⟩ xs ρ μ K ⟨a7, a8, a9, rfl, rfl, hx⟩ hK
    have hxf := hx (w, mo) (by simp)
    obtain ⟨m, p, e, hwp, hmp⟩ := hmo.mate rfl _ hxf
    have e2 : mo = some m := e
    subst e2
    have hmp' := more_sub hmo _ hmp
    have hwn := hmo.new _ hxf
    have hmn : m ∈ nmB b := nm_mem hmp
    have hwm : w ≠ m := fun e => hwn (by show w ∈ nmB b; rw [e]; exact hmn)
    have om := hb.nm _ hmp
    have hpp : p ∈ psB b' := List.mem_map.mpr ⟨(w, p), hwp, rfl⟩
    refine ⟨_, rfl, rfl, ?_⟩
    refine ⟨_, rfl, _, rfl, _, rfl, _, rfl, rfl, ts, b', w, m, p, p, rfl, hw, hb', hwp, hmp', fun L1 hL1 => ?_⟩
    rw [meet_twin hL1 hpp]
    refine ⟨_, _, rfl, rfl, sh_int _, sh_int _, _, rfl, ?_⟩
    refine ifF (by rw [show PyData.eqv (eI 0) (.int 0) = true from rfl]; rfl) ?_
    refine ⟨_, rfl, _, rfl, _, rfl, _, rfl, rfl, rfl, ts, b', w, m, p, p, 0, rfl, hw, hb', hwp, hmp', by omega, fun M0 hM0 => ⟨_, rfl, ?_⟩⟩
    rw [tog_twin hM0 hpp]
    refine ifF rfl ?_
    refine ⟨_, rfl, _, rfl, ?_⟩
    refine lcGo_fm PyData.str (fun y => decide (y ≠ m)) PyData.str (by rfl) (nmB b) [] (by simp; omega) (fun y hy R1 R2 k => ?_) ?_
    · refine ⟨_, rfl, _, rfl, _, _, rfl, rfl, sh_str (hnm y hy), sh_str om, _, rfl, ?_⟩
      rw [show PyData.eqv (.str y) (eO ((w, some m) : Str × Option Str).snd) = decide (y = m) from eqv_str (hnm y hy) om]
      by_cases e : y = m
      · rw [if_neg (by simpa using e)] at k
        exact ifF (by simp [e]) k
      · rw [if_pos (decide_eq_true e)] at k
        exact ifT (by simp [e]) ⟨_, rfl, k⟩
    · rw [List.nil_append]
      refine ⟨_, rfl, _, rfl, _, rfl, _, rfl, _, rfl, _, rfl, _, rfl, by simp, _, rfl, 0, _, rfl, rfl, rfl, ts, b', (nmB b).filter fun y => decide (y ≠ m), w, m, p, r, rfl, hw, hb', other_ne hb2 hb.nd m, ?_, fun x hx => ?_, hwm, hwp, hmp', hr, ⟨_, rfl, ifF rfl ?_⟩⟩
      · exact Nat.le_trans (List.length_filter_le ..) (by omega)
      · obtain ⟨h1, h2⟩ := List.mem_filter.mp hx
        obtain ⟨px, hpx⟩ := nm_get h1
        exact ⟨nm_mem (more_sub hmo _ hpx), fun e => hwn (by show w ∈ nmB b; rw [← e]; exact h1), of_decide_eq_true h2⟩
      · exact hK _ _ ⟨_, _, _, rfl, rfl, fun x hx' => hx x (List.mem_cons_of_mem _ hx')⟩
end JR
set_option maxHeartbeats 1000000
/-! JS33: what the law's readings give: the law. -/
namespace JR
open PySem PySem.Spec PyProof.Rows L2 JM PySem.W

theorem lot_ok {ts : List (List Nat)} {b : Bk} (hb : BkOk ts b) (m : Part) : (∀ s ∈ lotOf b m, NameOk s) ∧ (lotOf b m).length ≤ 24 := by
  refine ⟨fun s hs => ?_, ?_⟩
  · obtain ⟨q, hq, rfl⟩ := List.mem_map.mp hs
    exact hb.nm q (List.mem_filter.mp hq).1
  · unfold lotOf
    rw [List.length_map]
    exact Nat.le_trans (List.length_filter_le ..) hb.le
theorem pd_lot {ts : List (List Nat)} {b : Bk} (hb : BkOk ts b) (m : Part) : Pd 4 (eLot b m) := pd_tuple fun x hx => by
  have : x = eP m ∨ x = .tuple (srt ((lotOf b m).map .str)) := by simpa using hx
  rcases this with e | e <;> rw [e]
  · exact (pd_eP m).up (by decide)
  · refine (pd_tuple (n := 0) fun y hy => ?_).up (by decide)
    exact pd_strs (lot_ok hb m).1 y ((srt_perm _).mem_iff.mp hy)
theorem pd_lots {ts : List (List Nat)} {b : Bk} (hb : BkOk ts b) (M : List Part) : Pd 5 (.tuple (M.map (eLot b))) := pd_tuple fun x hx => by
  obtain ⟨m, _, rfl⟩ := List.mem_map.mp hx
  exact pd_lot hb m
theorem pls {l : List Str} (h : ∀ s ∈ l, NameOk s) : ∀ x ∈ l.map PyData.str, pl x = true := fun x hx => (pd_strs (k := 0) h x hx).1
/-- sorted texts are texts -/
theorem srt_str (l : List Str) : ∃ S : List Str, srt (l.map .str) = S.map .str ∧ S.Perm l := by
  obtain ⟨S, hS, e⟩ := perm_map PyData.str (srt_perm (l.map .str)) rfl
  exact ⟨S, e, hS⟩
theorem lot_less {ts : List (List Nat)} {b b' : Bk} {M : List Part} {tw : Bool} {fr : Fr} (h : MoreOk ts b M tw b' fr) {m : Part} {S : List Str} (e : srt ((lotOf b' m).map .str) = S.map .str) (hS : S.Perm (lotOf b' m)) (hb : BkOk ts b) :
    .tuple [eP m, .tuple ((S.filter fun s => decide (s ∉ fr.map (·.1))).map .str)] = eLot b m := by
  have hu : Ups ((S.filter fun s => decide (s ∉ fr.map (·.1))).map .str) := by
    have := srt_ups ((lotOf b' m).map .str)
    rw [e] at this
    exact List.Pairwise.sublist (List.Sublist.map _ List.filter_sublist) this
  have hp : ((lotOf b m).map PyData.str).Perm ((S.filter fun s => decide (s ∉ fr.map (·.1))).map .str) := by
    rw [← lot_back h m]
    exact ((hS.filter _).map _).symm
  unfold eLot
  rw [srt_of hu hp (allAlike_str _) (pls (lot_ok hb m).1)]
/-- all names of the lots -/
theorem lots_names {b : Bk} : ∀ (M : List Part), ∃ F : List Str, (M.flatMap fun m => srt ((lotOf b m).map PyData.str)) = F.map .str ∧ F.Perm (M.flatMap fun m => lotOf b m)
  | [] => ⟨[], rfl, .nil⟩
  | m :: M => by
    obtain ⟨S, e, hS⟩ := srt_str (lotOf b m)
    obtain ⟨F, e2, hF⟩ := lots_names (b := b) M
    exact ⟨S ++ F, by rw [List.flatMap_cons, e, e2, List.map_append], by rw [List.flatMap_cons]; exact hS.append hF⟩
theorem names_perm {ts : List (List Nat)} {b : Bk} {M : List Part} {r : Nat} (hb : BkOk ts b) (hM : Fin ts (psB b) r M) : (M.flatMap fun m => lotOf b m).Perm (nmB b) := by
  have h := home_perm (fun q : Str × Part => q.2) (b := b) hM.apart hM.ok (fun q hq => hb.pt q hq) fun q hq => hM.cov _ (List.mem_map.mpr ⟨q, hq, rfl⟩)
  have h2 := h.map (·.1)
  rw [List.map_flatMap] at h2
  exact h2
theorem h_law_right : ∀ dvs R, sc_law_right dvs R → td_law_right (endsOf 1 R) (startD N_law_right.length dvs) [.p] := by
  rintro dvs R ⟨rfl, h⟩
  refine ⟨_, rfl, 0, _, rfl, rfl, rfl, rfl, fun ts b r hs => ⟨_, rfl, _, rfl, rfl, ?_⟩⟩
  have hw := hs.wo
  have hb := hs.bo
  have hbl := hb.le
  have hr := hs.ro
  have hb2 := hs.two
  refine ⟨_, rfl, _, rfl, ts, rfl, hw, _, rfl, 0, _, rfl, rfl, rfl, 2, rfl, by decide, by decide, fun i hi => ⟨_, _, rfl, rfl, sh_int _, sh_int _, ?_⟩⟩
  generalize PyData.eqv (eI i) (.int 0) = tw
  refine ⟨_, rfl, _, rfl, _, rfl, rfl, rfl, ts, b, r, rfl, hw, hb, hr, fun M hM => ?_⟩
  have hMl : M.length ≤ 24 := Nat.le_trans (fin_len hM.fin (psB_ok hb)) (psB_len hb)
  have hMn : M ≠ [] := fin_ne hM.fin fun e => by
    have q : (psB b).length = b.length := by unfold psB; rw [List.length_map]
    rw [e] at q
    have q2 : 0 = b.length := q
    omega
  refine ⟨_, rfl, _, rfl, _, rfl, _, rfl, 0, _, rfl, rfl, rfl, ts, b, M, tw, rfl, hw, hb, hb2, hs.few, hs.qf, hMn, by omega, hM.fin.ok, fun b' fr hmo => ⟨_, rfl, _, rfl, rfl, ?_⟩⟩
  have hb' := hmo.ok
  have hbl' := hb'.le
  have hfl := hmo.few
  have hst : ∀ N, Cl ts (psB b') r N → N = M := fun N hN => (more_stand hmo hM hN).symm
  refine ⟨_, rfl, _, rfl, _, rfl, rfl, rfl, ts, b', r, rfl, hw, hb', hr, fun N hN => ?_⟩
  have eN := hst N hN
  subst eN
  refine ⟨_, rfl, _, _, rfl, rfl, pd_shaped (pd_eM _) (by decide), pd_shaped (pd_eM _) (by decide), _, rfl, ?_⟩
  refine ifF (by rw [eqv_self (pd_eM _).1]; rfl) ?_
  refine ⟨_, rfl, _, rfl, ?_⟩
  refine lcGo_map eFr (fun x => .str x.1) (by rfl) fr (by omega) (fun x hx R1 k => ⟨_, rfl, rfl, _, rfl, k⟩) ?_
  refine ⟨_, rfl, by simp, _, rfl, by simp, ?_⟩
  refine ⟨rfl, by simp, ?_⟩
  have ew : (fr.map fun x => PyData.str x.1) = (fr.map (·.1)).map .str := by rw [List.map_map]; rfl
  rw [ew]
  have hwn : ∀ s ∈ fr.map (·.1), NameOk s := fun s hs => by
    obtain ⟨x, hx, rfl⟩ := List.mem_map.mp hs
    exact hmo.fnm x hx
  refine ⟨_, rfl, _, rfl, _, rfl, rfl, rfl, ts, b', r, rfl, hw, hb', hr, fun N2 hN2 => ⟨_, rfl, ?_⟩⟩
  have eN := hst N2 hN2
  subst eN
  refine forGo_inv (eLot b') (fun rem ρ μ => ∃ (dn : List Part) (a12 a13 : Option DV), ρ = [some (.c 0), some (.d (eP ts)), some (.d (eB b)), some (.d (eI r)), some (wld ts), some (.d (.bool tw)), some (.d (eM N2)), some (.d (eB b')), some (.d (.list (fr.map eFr))), some (.d (.list ((fr.map (·.1)).map .str))), some (.c 1), some (.c 2), a12, a13, none, none, none] ∧ μ = [.p, .l (dn.map (eLot b)), .l (dn.flatMap fun m => srt ((lotOf b' m).map .str))] ∧ dn ++ rem = N2 ∧ (dn.flatMap fun m => srt ((lotOf b' m).map PyData.str)).length ≤ 24 * dn.length) (fun _ _ _ _ => trivial) ?_ ?_ N2 _ _ ⟨[], none, none, rfl, rfl, rfl, by simp⟩
  · rintro ρ μ ⟨dn, a12, a13, rfl, rfl, e, hl⟩
    rw [List.append_nil] at e
    subst e
    obtain ⟨F, eF, hF⟩ := lots_names (b := b') dn
    have hFp : F.Perm (nmB b') := hF.trans (names_perm hb' hN2.fin)
    rw [eF]
    refine ⟨_, rfl, _, rfl, _, rfl, _, rfl, _, rfl, rfl, rfl, ts, b, r, rfl, hw, hb, hr, fun N3 hN3 => ?_⟩
    have eN := cl_det hM hN3
    subst eN
    refine ⟨_, _, rfl, rfl, pd_shaped (pd_lots hb _) (by decide), pd_shaped (pd_lots hb _) (by decide), _, rfl, ?_⟩
    refine ifF (by rw [eqv_self (pd_lots hb _).1]; rfl) ?_
    have hFn : ∀ s ∈ F, NameOk s := fun s hs => nmB_ok hb' s (hFp.mem_iff.mp hs)
    refine ⟨_, rfl, _, rfl, allAlike_str _, sortable_str _, depth_str _, ?_⟩
    refine ⟨_, rfl, _, rfl, ?_⟩
    refine lcGo_map eQ (fun q => .str q.1) trivial b' (by omega) (fun q hq R1 k => ⟨_, rfl, _, _, .str q.1, rfl, rfl, atI_nat (j := 0) rfl, k⟩) ?_
    have en : (b'.map fun q => PyData.str q.1) = (nmB b').map .str := by unfold nmB; rw [List.map_map]; rfl
    rw [en]
    refine ⟨_, rfl, allAlike_str _, sortable_str _, depth_str _, ?_⟩
    have es : srt ((nmB b').map .str) = srt (F.map .str) := srt_eq (hFp.symm.map _) (allAlike_str _) (pls (nmB_ok hb'))
    rw [es]
    have hsh : Pd 1 (.list (srt (F.map PyData.str))) := pd_list fun x hx => pd_strs hFn x ((srt_perm _).mem_iff.mp hx)
    refine ⟨_, _, rfl, rfl, pd_shaped hsh (by decide), pd_shaped hsh (by decide), _, rfl, ?_⟩
    refine ifF (by rw [eqv_self hsh.1]; rfl) ?_
    refine ⟨_, rfl, _, rfl, _, rfl, ?_⟩
    cases tw with
    | false => exact ifT rfl (rt1 h rfl)
    | true =>
      refine ifF rfl ?_
      exact ⟨_, rfl, _, rfl, _, rfl, _, rfl, _, rfl, _, rfl, 0, _, rfl, rfl, rfl, ts, b, b', fr, _, r, rfl, hw, hb, hb2, hr, hmo, rt1 h rfl⟩
  · rintro m xs ρ μ K ⟨dn, a12, a13, rfl, rfl, e, hl⟩ hK
    have hdl : dn.length ≤ 24 := by
      have := congrArg List.length e
      simp at this
      omega
    obtain ⟨S, eS', hS⟩ := srt_str (lotOf b' m)
    have hSn : ∀ s ∈ S, NameOk s := fun s hs => (lot_ok hb' m).1 s (hS.mem_iff.mp hs)
    have hSl : S.length ≤ 24 := by rw [hS.length_eq]; exact (lot_ok hb' m).2
    have et := lot_less hmo eS' hS hb
    refine ⟨_, rfl, rfl, ?_⟩
    refine ⟨_, rfl, ⟨_, rfl⟩, _, rfl, _, rfl, _, rfl, ?_⟩
    rw [eS']
    refine lcGo_fm PyData.str (fun s => decide (s ∉ fr.map (·.1))) PyData.str trivial S [] (by simp; omega) (fun s hs R1 R2 k => ?_) ?_
    · refine ⟨_, rfl, _, rfl, _, _, rfl, rfl, sh_str (hSn s hs), sh_strs hwn, _, rfl, ?_⟩
      rw [any_str hwn (hSn s hs)]
      by_cases e : s ∈ fr.map (·.1)
      · rw [if_neg (by simpa using e)] at k
        exact ifF (by rw [decide_eq_true e]; rfl) k
      · rw [if_pos (decide_eq_true e)] at k
        exact ifT (by rw [decide_eq_false e]; rfl) ⟨_, rfl, k⟩
    · rw [List.nil_append]
      refine ⟨_, rfl, _, rfl, by simp, 1, _, _, rfl, rfl, rfl, by rw [List.length_map]; omega, ?_⟩
      refine ⟨_, rfl, ⟨_, rfl⟩, _, rfl, 2, _, _, _, rfl, rfl, rfl, rfl, by rw [List.length_map]; omega, ?_⟩
      rw [et, ← eS']
      refine hK _ _ ⟨dn ++ [m], _, _, rfl, ?_, by rw [List.append_assoc]; exact e, ?_⟩
      · rw [List.map_append, List.flatMap_append, List.flatMap_cons, List.flatMap_nil, List.append_nil]; rfl
      · rw [List.flatMap_append, List.flatMap_cons, List.flatMap_nil, List.append_nil, List.length_append, eS', List.length_map, List.length_append, List.length_singleton]
        omega
theorem lc_any {α : Type} {t : Tg} {te : TD} {ρw : Env} {stay : Sto → Prop} {R : List PyData → Sto → Prop} (en : α → PyData) (hst : ∀ μ, stay μ) : ∀ (xs : List α) (acc : List Bool) (μ : Sto), acc.length + xs.length ≤ 100000 →
    (∀ x ∈ xs, ∀ (μ : Sto) (R1 : DV → Sto → Prop), (∀ μ', R1 (.d (.bool true)) μ') → tgD t (en x) ρw fun ρ1 => te ρ1 μ R1) →
    (∀ μ', R ((acc ++ xs.map fun _ => true).map .bool) μ') → lcGo t tdYes te ρw stay R (xs.map en) (acc.map .bool) μ
  | [], acc, μ, _, _, h => ⟨hst μ, by simpa using h μ⟩
  | x :: xs, acc, μ, hl, hx, h => by
    have hl2 : acc.length + (xs.length + 1) ≤ 100000 := by simpa using hl
    refine ⟨hst μ, tgD_mono (fun ρ1 z => ?_) (hx x (List.mem_cons_self ..) μ (fun dv μ3 => ∃ d, dv = .d d ∧ (acc.map PyData.bool).length < 100000 ∧ lcGo t tdYes te ρw stay R (xs.map en) (acc.map .bool ++ [d]) μ3) fun μ' => ?_)⟩
    · refine iteT (B := lcGo t tdYes te ρw stay R (xs.map en) (acc.map .bool) μ) ?_
      exact z
    · refine ⟨_, rfl, by rw [List.length_map]; omega, ?_⟩
      have e : acc.map PyData.bool ++ [.bool true] = (acc ++ [true]).map .bool := by rw [List.map_append]; rfl
      rw [e]
      refine lc_any en hst xs _ μ' (by rw [List.length_append, List.length_singleton]; omega) (fun y hy => hx y (List.mem_cons_of_mem _ hy)) fun μ2 => ?_
      rw [List.append_assoc]
      exact h μ2
theorem h_law : ∀ dvs R, sc_law dvs R → td_law (endsOf 0 R) (startD N_law.length dvs) [] := by
  rintro dvs R ⟨s, rfl, h⟩
  refine ⟨_, rfl, .inl ⟨_, rfl, _, _, rfl, rfl, _, _, rfl, rfl, ?_⟩⟩
  generalize ((s.map PyData.int).length : Int) = sl
  have hn : ∃ n : Nat, n ≤ 5 ∧ (if (if (5 : Int) < sl then (5 : Int) else sl) > 2 then (if (5 : Int) < sl then (5 : Int) else sl) else 2) = (n : Int) := by
    refine ⟨(if (if (5 : Int) < sl then (5 : Int) else sl) > 2 then (if (5 : Int) < sl then (5 : Int) else sl) else 2).toNat, ?_, ?_⟩ <;> split <;> (try split) <;> omega
  obtain ⟨n, hn5, en⟩ := hn
  refine ⟨(n : Int), ?_, by omega, by omega, ?_⟩
  · show [DV.d (.int (if (if (5 : Int) < sl then (5 : Int) else sl) > 2 then (if (5 : Int) < sl then (5 : Int) else sl) else 2))] = _
    rw [en]
  rw [rng_eI' (n := n) rfl]
  refine lc_any eI (fun _ => trivial) (List.range n) [] _ (by simp; omega) (fun k hk μ R1 k1 => ?_) fun μ' => ?_
  · have hk' := List.mem_range.mp hk
    refine ⟨_, rfl, _, rfl, rfl, s, k, rfl, by omega, fun c => ⟨⟨_, rfl⟩, μ.length, _, rfl, ?_, rfl, rfl, k1 _⟩⟩
    simp
  · rw [List.nil_append]
    refine ⟨_, rfl, ⟨⟨_, rfl, ?_⟩, fun k hk => absurd hk (Nat.not_lt_zero k)⟩⟩
    rw [all_true]; exact h
end JR
set_option maxHeartbeats 1000000
/-! JK: printed by gen_join.py: each def keeps its promise. -/
namespace JR
open PySem PySem.Spec PyProof.Rows L2 JM PySem.W
theorem h_law_purse : ∀ i : Int, td_law_purse endsP (startD N_law_purse.length [.d (.int i)]) [] := by
  intro i
  refine ⟨_, rfl, _, _, rfl, rfl, (by show (0 : Int) < 1000000289; decide), _, _, rfl, rfl, .inr (by decide), _, _, rfl, rfl, ?_⟩
  refine ⟨_, rfl, _, rfl, by simp, ?_⟩
  refine ⟨_, rfl, _, _, rfl, rfl, ⟨by decide, by decide, by decide⟩, _, _, rfl, rfl, _, rfl, ?_⟩
  by_cases e : (10 : Int) ^ (18 : Int).toNat ≤ i
  · exact ⟨_, _, .int i, rfl, rfl, by rw [decide_eq_true e]; exact atI_nat (j := 1) rfl, _, rfl, by simp, ⟨_, _, _, rfl⟩, _, rfl, rfl⟩
  · exact ⟨_, _, .int 0, rfl, rfl, by rw [decide_eq_false e]; exact atI_nat (j := 0) rfl, _, rfl, by simp, ⟨_, _, _, rfl⟩, _, rfl, rfl⟩
section
variable {P : Program} {w : World} {K : PySem.W.Frag} {mg : Str → Option Value} {base : Heap} {C : Addr} {x qual : Str} {params : Arguments} {body : List Stmt} {scope : Scope} {kws : List (Str × V)} {f : Addr} {fd : FuncData} {N ps : List Str} {k n : Nat} {sc : Sc}
/-- the rule for a def over data, its code's object at hand -/
theorem okDk (F : FunD K x qual params body scope [] kws f fd) (S : FnScope N ps scope) (hlen : ∀ dvs R, sc dvs R → dvs.length = ps.length) (td : TSd)
    (hbody : ∀ (cdv : Value), PySem.W.kdsCode K cdv = true → ∀ (A : Around) (outer : List PySem.Env) (s : Shared) (H : Hp) (E : XK), Room k (A.deeper (envOfC qual scope s.heap.objs.size f cdv)) → PSs (cxOf CX0 P w K mg base N qual scope f cdv A outer s H E).nox body (uTS ⟨P, w, C⟩ td))
    (hsem : ∀ dvs R, sc dvs R → td (endsOf n R) (startD N.length dvs) (List.replicate n Cell.p)) : FnOk P w K mg base CX0 (k + 1) f fd ps (spD ⟨P, w, C⟩ n sc) := by
  obtain ⟨oc, od, dV, kV, doc, pm, an, cdv, ct, osl, rfl, lk, hcd, _, _⟩ := F.ex
  have hk := JC.kds_of hcd
  refine fn_of lk hcd S (fun vs H Q E h => ?_) (fun A outer s H vs Q E hr h => ?_)
  · obtain ⟨α, H0, dvs, R, S0, hp, hsc, _⟩ := h
    rw [paired_len hp]
    exact hlen dvs R hsc
  · refine ⟨_, (hbody cdv hk A outer s H E hr).nox, ?_⟩
    obtain ⟨α, H0, dvs, R, S0, hp, hsc, kk⟩ := h
    refine ⟨α, H0, _, _, _, start_ok S0 hp, hsem dvs R hsc, ⟨fun α' H0' ρ' μ' σ' H' S1 p1 h1 => ?_, fun α' H0' ρ' μ' σ' H' v dv S1 p1 rv ⟨⟨x, e, h1⟩, h2⟩ => ?_, fun _ _ _ _ _ _ _ _ h => h.elim, fun _ _ _ _ _ _ _ _ h => h.elim⟩⟩
    · exact kk α' H0' μ' H' .non .none ⟨S1.ext, S1.nd, S1.len, S1.cel, S1.liv, rfl, fun i dv h => by simp at h⟩ p1 h1.2 .non h1.1
    · subst e
      exact kk α' H0' μ' H' v x ⟨S1.ext, S1.nd, S1.len, S1.cel, S1.liv, rfl, fun i dv h => by simp at h⟩ p1 h2 rv h1
end
section
variable {P : Program} {w : World} {K : PySem.W.Frag} {mg : Str → Option Value} {base : Heap} {C f : Addr} {fd : FuncData}
theorem k_is_whole (G : Gb K mg C) (hm : mg "is_whole" = some (.ref f)) (F : FunD K "is_whole" "is_whole" (defArgs s_is_whole) (defBody s_is_whole) (defScope s_is_whole) [] [] f fd) : Has P w K mg base C "is_whole" ["thing"] 1 0 sc_is_whole :=
  ⟨⟨f, fd, hm, F.kp, (F.bindsN fun _ _ _ _ _ _ us hl => match us, hl with | [_], _ => rfl), okD F fs_is_whole (fun dvs R h => by repeat (first | (obtain ⟨e, _⟩ := h; subst e; rfl) | (obtain ⟨_, h⟩ := h))) td_is_whole (fun cdv A outer s H E hr => b_is_whole G cdv A outer s H E hr) h_is_whole⟩⟩
theorem k_is_within (G : Gb K mg C) (g_is_whole : Has P w K mg base C "is_whole" ["thing"] 1 0 sc_is_whole) (hm : mg "is_within" = some (.ref f)) (F : FunD K "is_within" "is_within" (defArgs s_is_within) (defBody s_is_within) (defScope s_is_within) [] [] f fd) : Has P w K mg base C "is_within" ["thing", "low", "high"] 2 0 sc_is_within :=
  ⟨⟨f, fd, hm, F.kp, (F.bindsN fun _ _ _ _ _ _ us hl => match us, hl with | [_, _, _], _ => rfl), okD F fs_is_within (fun dvs R h => by repeat (first | (obtain ⟨e, _⟩ := h; subst e; rfl) | (obtain ⟨_, h⟩ := h))) td_is_within (fun cdv A outer s H E hr => b_is_within G g_is_whole cdv A outer s H E hr) h_is_within⟩⟩
theorem k_is_tree (G : Gb K mg C) (g_is_within : Has P w K mg base C "is_within" ["thing", "low", "high"] 2 0 sc_is_within) (hm : mg "is_tree" = some (.ref f)) (F : FunD K "is_tree" "is_tree" (defArgs s_is_tree) (defBody s_is_tree) (defScope s_is_tree) [] [] f fd) : Has P w K mg base C "is_tree" ["thing"] 3 0 sc_is_tree :=
  ⟨⟨f, fd, hm, F.kp, (F.bindsN fun _ _ _ _ _ _ us hl => match us, hl with | [_], _ => rfl), okD F fs_is_tree (fun dvs R h => by repeat (first | (obtain ⟨e, _⟩ := h; subst e; rfl) | (obtain ⟨_, h⟩ := h))) td_is_tree (fun cdv A outer s H E hr => b_is_tree G g_is_within cdv A outer s H E hr) h_is_tree⟩⟩
theorem k_downward (G : Gb K mg C) (hm : mg "downward" = some (.ref f)) (F : FunD K "downward" "downward" (defArgs s_downward) (defBody s_downward) (defScope s_downward) [] [] f fd) : Has P w K mg base C "downward" ["tree", "place"] 1 0 sc_downward :=
  ⟨⟨f, fd, hm, F.kp, (F.bindsN fun _ _ _ _ _ _ us hl => match us, hl with | [_, _], _ => rfl), okD F fs_downward (fun dvs R h => by repeat (first | (obtain ⟨e, _⟩ := h; subst e; rfl) | (obtain ⟨_, h⟩ := h))) td_downward (fun cdv A outer s H E hr => b_downward G cdv A outer s H E hr) h_downward⟩⟩
theorem k_steps_between (G : Gb K mg C) (g_downward : Has P w K mg base C "downward" ["tree", "place"] 1 0 sc_downward) (hm : mg "steps_between" = some (.ref f)) (F : FunD K "steps_between" "steps_between" (defArgs s_steps_between) (defBody s_steps_between) (defScope s_steps_between) [] [] f fd) : Has P w K mg base C "steps_between" ["tree", "one", "other"] 2 0 sc_steps_between :=
  ⟨⟨f, fd, hm, F.kp, (F.bindsN fun _ _ _ _ _ _ us hl => match us, hl with | [_, _, _], _ => rfl), okD F fs_steps_between (fun dvs R h => by repeat (first | (obtain ⟨e, _⟩ := h; subst e; rfl) | (obtain ⟨_, h⟩ := h))) td_steps_between (fun cdv A outer s H E hr => b_steps_between G g_downward cdv A outer s H E hr) h_steps_between⟩⟩
theorem k_gaps (G : Gb K mg C) (g_steps_between : Has P w K mg base C "steps_between" ["tree", "one", "other"] 2 0 sc_steps_between) (hm : mg "gaps" = some (.ref f)) (F : FunD K "gaps" "gaps" (defArgs s_gaps) (defBody s_gaps) (defScope s_gaps) [] [] f fd) : Has P w K mg base C "gaps" ["tree"] 3 0 sc_gaps :=
  ⟨⟨f, fd, hm, F.kp, (F.bindsN fun _ _ _ _ _ _ us hl => match us, hl with | [_], _ => rfl), okD F fs_gaps (fun dvs R h => by repeat (first | (obtain ⟨e, _⟩ := h; subst e; rfl) | (obtain ⟨_, h⟩ := h))) td_gaps (fun cdv A outer s H E hr => b_gaps G g_steps_between cdv A outer s H E hr) h_gaps⟩⟩
theorem k_hangs_together (G : Gb K mg C) (g_is_within : Has P w K mg base C "is_within" ["thing", "low", "high"] 2 0 sc_is_within) (hm : mg "hangs_together" = some (.ref f)) (F : FunD K "hangs_together" "hangs_together" (defArgs s_hangs_together) (defBody s_hangs_together) (defScope s_hangs_together) [] [] f fd) : Has P w K mg base C "hangs_together" ["tree", "thing"] 3 0 sc_hangs_together :=
  ⟨⟨f, fd, hm, F.kp, (F.bindsN fun _ _ _ _ _ _ us hl => match us, hl with | [_, _], _ => rfl), okD F fs_hangs_together (fun dvs R h => by repeat (first | (obtain ⟨e, _⟩ := h; subst e; rfl) | (obtain ⟨_, h⟩ := h))) td_hangs_together (fun cdv A outer s H E hr => b_hangs_together G g_is_within cdv A outer s H E hr) h_hangs_together⟩⟩
theorem k_branch_around (G : Gb K mg C) (g_steps_between : Has P w K mg base C "steps_between" ["tree", "one", "other"] 2 0 sc_steps_between) (hm : mg "branch_around" = some (.ref f)) (F : FunD K "branch_around" "branch_around" (defArgs s_branch_around) (defBody s_branch_around) (defScope s_branch_around) [] [] f fd) : Has P w K mg base C "branch_around" ["tree", "some"] 3 0 sc_branch_around :=
  ⟨⟨f, fd, hm, F.kp, (F.bindsN fun _ _ _ _ _ _ us hl => match us, hl with | [_, _], _ => rfl), okDk F fs_branch_around (fun dvs R h => by repeat (first | (obtain ⟨e, _⟩ := h; subst e; rfl) | (obtain ⟨_, h⟩ := h))) td_branch_around (fun cdv hcd A outer s H E hr => b_branch_around G g_steps_between cdv hcd A outer s H E hr) h_branch_around⟩⟩
theorem k_least_gap (G : Gb K mg C) (hm : mg "least_gap" = some (.ref f)) (F : FunD K "least_gap" "least_gap" (defArgs s_least_gap) (defBody s_least_gap) (defScope s_least_gap) [] [] f fd) : Has P w K mg base C "least_gap" ["rows", "one", "other"] 1 0 sc_least_gap :=
  ⟨⟨f, fd, hm, F.kp, (F.bindsN fun _ _ _ _ _ _ us hl => match us, hl with | [_, _, _], _ => rfl), okD F fs_least_gap (fun dvs R h => by repeat (first | (obtain ⟨e, _⟩ := h; subst e; rfl) | (obtain ⟨_, h⟩ := h))) td_least_gap (fun cdv A outer s H E hr => b_least_gap G cdv A outer s H E hr) h_least_gap⟩⟩
theorem k_World_init (G : Gb K mg C) (g_is_tree : Has P w K mg base C "is_tree" ["thing"] 3 0 sc_is_tree) (g_gaps : Has P w K mg base C "gaps" ["tree"] 3 0 sc_gaps) (hm : Mk K C f) (F : FunD K "__init__" "World.__init__" (defArgs s_World_init) (defBody s_World_init) (defScope s_World_init) [] [] f fd) : HasW P w K mg base C ["self", "trees"] 4 sc_World_init :=
  ⟨⟨f, fd, hm, (F.bindsN fun _ _ _ _ _ _ us hl => match us, hl with | [_, _], _ => rfl), okW F fs_World_init rfl td_World_init (fun cdv A outer s H E hr => b_World_init G g_is_tree g_gaps cdv A outer s H E hr) h_World_init⟩⟩
theorem k_check_world (G : Gb K mg C) (hm : mg "check_world" = some (.ref f)) (F : FunD K "check_world" "check_world" (defArgs s_check_world) (defBody s_check_world) (defScope s_check_world) [] [] f fd) : Has P w K mg base C "check_world" ["thing"] 1 0 sc_check_world :=
  ⟨⟨f, fd, hm, F.kp, (F.bindsN fun _ _ _ _ _ _ us hl => match us, hl with | [_], _ => rfl), okD F fs_check_world (fun dvs R h => by repeat (first | (obtain ⟨e, _⟩ := h; subst e; rfl) | (obtain ⟨_, h⟩ := h))) td_check_world (fun cdv A outer s H E hr => b_check_world G cdv A outer s H E hr) h_check_world⟩⟩
theorem k_makes_part (G : Gb K mg C) (g_hangs_together : Has P w K mg base C "hangs_together" ["tree", "thing"] 3 0 sc_hangs_together) (hm : mg "makes_part" = some (.ref f)) (F : FunD K "makes_part" "makes_part" (defArgs s_makes_part) (defBody s_makes_part) (defScope s_makes_part) [] [] f fd) : Has P w K mg base C "makes_part" ["world", "thing"] 4 0 sc_makes_part :=
  ⟨⟨f, fd, hm, F.kp, (F.bindsN fun _ _ _ _ _ _ us hl => match us, hl with | [_, _], _ => rfl), okD F fs_makes_part (fun dvs R h => by repeat (first | (obtain ⟨e, _⟩ := h; subst e; rfl) | (obtain ⟨_, h⟩ := h))) td_makes_part (fun cdv A outer s H E hr => b_makes_part G g_hangs_together cdv A outer s H E hr) h_makes_part⟩⟩
theorem k_is_part (G : Gb K mg C) (g_check_world : Has P w K mg base C "check_world" ["thing"] 1 0 sc_check_world) (g_makes_part : Has P w K mg base C "makes_part" ["world", "thing"] 4 0 sc_makes_part) (hm : mg "is_part" = some (.ref f)) (F : FunD K "is_part" "is_part" (defArgs s_is_part) (defBody s_is_part) (defScope s_is_part) [] [] f fd) : Has P w K mg base C "is_part" ["world", "thing"] 5 0 sc_is_part :=
  ⟨⟨f, fd, hm, F.kp, (F.bindsN fun _ _ _ _ _ _ us hl => match us, hl with | [_, _], _ => rfl), okD F fs_is_part (fun dvs R h => by repeat (first | (obtain ⟨e, _⟩ := h; subst e; rfl) | (obtain ⟨_, h⟩ := h))) td_is_part (fun cdv A outer s H E hr => b_is_part G g_check_world g_makes_part cdv A outer s H E hr) h_is_part⟩⟩
theorem k_part_in (G : Gb K mg C) (hm : mg "part_in" = some (.ref f)) (F : FunD K "part_in" "part_in" (defArgs s_part_in) (defBody s_part_in) (defScope s_part_in) [] [] f fd) : Has P w K mg base C "part_in" ["one", "other"] 1 0 sc_part_in :=
  ⟨⟨f, fd, hm, F.kp, (F.bindsN fun _ _ _ _ _ _ us hl => match us, hl with | [_, _], _ => rfl), okD F fs_part_in (fun dvs R h => by repeat (first | (obtain ⟨e, _⟩ := h; subst e; rfl) | (obtain ⟨_, h⟩ := h))) td_part_in (fun cdv A outer s H E hr => b_part_in G cdv A outer s H E hr) h_part_in⟩⟩
theorem k_part_far (G : Gb K mg C) (g_least_gap : Has P w K mg base C "least_gap" ["rows", "one", "other"] 1 0 sc_least_gap) (hm : mg "part_far" = some (.ref f)) (F : FunD K "part_far" "part_far" (defArgs s_part_far) (defBody s_part_far) (defScope s_part_far) [] [] f fd) : Has P w K mg base C "part_far" ["world", "one", "other"] 2 0 sc_part_far :=
  ⟨⟨f, fd, hm, F.kp, (F.bindsN fun _ _ _ _ _ _ us hl => match us, hl with | [_, _, _], _ => rfl), okD F fs_part_far (fun dvs R h => by repeat (first | (obtain ⟨e, _⟩ := h; subst e; rfl) | (obtain ⟨_, h⟩ := h))) td_part_far (fun cdv A outer s H E hr => b_part_far G g_least_gap cdv A outer s H E hr) h_part_far⟩⟩
theorem k_part_hull (G : Gb K mg C) (g_branch_around : Has P w K mg base C "branch_around" ["tree", "some"] 3 0 sc_branch_around) (hm : mg "part_hull" = some (.ref f)) (F : FunD K "part_hull" "part_hull" (defArgs s_part_hull) (defBody s_part_hull) (defScope s_part_hull) [] [] f fd) : Has P w K mg base C "part_hull" ["world", "one", "other"] 4 0 sc_part_hull :=
  ⟨⟨f, fd, hm, F.kp, (F.bindsN fun _ _ _ _ _ _ us hl => match us, hl with | [_, _, _], _ => rfl), okD F fs_part_hull (fun dvs R h => by repeat (first | (obtain ⟨e, _⟩ := h; subst e; rfl) | (obtain ⟨_, h⟩ := h))) td_part_hull (fun cdv A outer s H E hr => b_part_hull G g_branch_around cdv A outer s H E hr) h_part_hull⟩⟩
theorem k_is_name (G : Gb K mg C) (hm : mg "is_name" = some (.ref f)) (F : FunD K "is_name" "is_name" (defArgs s_is_name) (defBody s_is_name) (defScope s_is_name) [] [] f fd) : Has P w K mg base C "is_name" ["thing"] 1 0 sc_is_name :=
  ⟨⟨f, fd, hm, F.kp, (F.bindsN fun _ _ _ _ _ _ us hl => match us, hl with | [_], _ => rfl), okD F fs_is_name (fun dvs R h => by repeat (first | (obtain ⟨e, _⟩ := h; subst e; rfl) | (obtain ⟨_, h⟩ := h))) td_is_name (fun cdv A outer s H E hr => b_is_name G cdv A outer s H E hr) h_is_name⟩⟩
theorem k_first_wrong (G : Gb K mg C) (g_is_part : Has P w K mg base C "is_part" ["world", "thing"] 5 0 sc_is_part) (g_is_name : Has P w K mg base C "is_name" ["thing"] 1 0 sc_is_name) (hm : mg "first_wrong" = some (.ref f)) (F : FunD K "first_wrong" "first_wrong" (defArgs s_first_wrong) (defBody s_first_wrong) (defScope s_first_wrong) [] [] f fd) : Has P w K mg base C "first_wrong" ["world", "rows"] 6 0 sc_first_wrong :=
  ⟨⟨f, fd, hm, F.kp, (F.bindsN fun _ _ _ _ _ _ us hl => match us, hl with | [_, _], _ => rfl), okD F fs_first_wrong (fun dvs R h => by repeat (first | (obtain ⟨e, _⟩ := h; subst e; rfl) | (obtain ⟨_, h⟩ := h))) td_first_wrong (fun cdv A outer s H E hr => b_first_wrong G g_is_part g_is_name cdv A outer s H E hr) h_first_wrong⟩⟩
theorem k_check_book (G : Gb K mg C) (g_first_wrong : Has P w K mg base C "first_wrong" ["world", "rows"] 6 0 sc_first_wrong) (hm : mg "check_book" = some (.ref f)) (F : FunD K "check_book" "check_book" (defArgs s_check_book) (defBody s_check_book) (defScope s_check_book) [] [] f fd) : Has P w K mg base C "check_book" ["world", "thing"] 7 0 sc_check_book :=
  ⟨⟨f, fd, hm, F.kp, (F.bindsN fun _ _ _ _ _ _ us hl => match us, hl with | [_, _], _ => rfl), okD F fs_check_book (fun dvs R h => by repeat (first | (obtain ⟨e, _⟩ := h; subst e; rfl) | (obtain ⟨_, h⟩ := h))) td_check_book (fun cdv A outer s H E hr => b_check_book G g_first_wrong cdv A outer s H E hr) h_check_book⟩⟩
theorem k_part_of (G : Gb K mg C) (g_is_name : Has P w K mg base C "is_name" ["thing"] 1 0 sc_is_name) (hm : mg "part_of" = some (.ref f)) (F : FunD K "part_of" "part_of" (defArgs s_part_of) (defBody s_part_of) (defScope s_part_of) [] [] f fd) : Has P w K mg base C "part_of" ["book", "name"] 2 0 sc_part_of :=
  ⟨⟨f, fd, hm, F.kp, (F.bindsN fun _ _ _ _ _ _ us hl => match us, hl with | [_, _], _ => rfl), okD F fs_part_of (fun dvs R h => by repeat (first | (obtain ⟨e, _⟩ := h; subst e; rfl) | (obtain ⟨_, h⟩ := h))) td_part_of (fun cdv A outer s H E hr => b_part_of G g_is_name cdv A outer s H E hr) h_part_of⟩⟩
theorem k_check_reach (G : Gb K mg C) (g_is_within : Has P w K mg base C "is_within" ["thing", "low", "high"] 2 0 sc_is_within) (hm : mg "check_reach" = some (.ref f)) (F : FunD K "check_reach" "check_reach" (defArgs s_check_reach) (defBody s_check_reach) (defScope s_check_reach) [] [] f fd) : Has P w K mg base C "check_reach" ["thing"] 3 0 sc_check_reach :=
  ⟨⟨f, fd, hm, F.kp, (F.bindsN fun _ _ _ _ _ _ us hl => match us, hl with | [_], _ => rfl), okD F fs_check_reach (fun dvs R h => by repeat (first | (obtain ⟨e, _⟩ := h; subst e; rfl) | (obtain ⟨_, h⟩ := h))) td_check_reach (fun cdv A outer s H E hr => b_check_reach G g_is_within cdv A outer s H E hr) h_check_reach⟩⟩
theorem k_closed (G : Gb K mg C) (g_part_far : Has P w K mg base C "part_far" ["world", "one", "other"] 2 0 sc_part_far) (g_part_hull : Has P w K mg base C "part_hull" ["world", "one", "other"] 4 0 sc_part_hull) (hm : mg "closed" = some (.ref f)) (F : FunD K "closed" "closed" (defArgs s_closed) (defBody s_closed) (defScope s_closed) [] [] f fd) : Has P w K mg base C "closed" ["world", "parts", "reach"] 5 0 sc_closed :=
  ⟨⟨f, fd, hm, F.kp, (F.bindsN fun _ _ _ _ _ _ us hl => match us, hl with | [_, _, _], _ => rfl), okD F fs_closed (fun dvs R h => by repeat (first | (obtain ⟨e, _⟩ := h; subst e; rfl) | (obtain ⟨_, h⟩ := h))) td_closed (fun cdv A outer s H E hr => b_closed G g_part_far g_part_hull cdv A outer s H E hr) h_closed⟩⟩
theorem k_lots_of (G : Gb K mg C) (g_part_in : Has P w K mg base C "part_in" ["one", "other"] 1 0 sc_part_in) (g_closed : Has P w K mg base C "closed" ["world", "parts", "reach"] 5 0 sc_closed) (hm : mg "lots_of" = some (.ref f)) (F : FunD K "lots_of" "lots_of" (defArgs s_lots_of) (defBody s_lots_of) (defScope s_lots_of) [] [] f fd) : Has P w K mg base C "lots_of" ["world", "book", "reach"] 6 0 sc_lots_of :=
  ⟨⟨f, fd, hm, F.kp, (F.bindsN fun _ _ _ _ _ _ us hl => match us, hl with | [_, _, _], _ => rfl), okD F fs_lots_of (fun dvs R h => by repeat (first | (obtain ⟨e, _⟩ := h; subst e; rfl) | (obtain ⟨_, h⟩ := h))) td_lots_of (fun cdv A outer s H E hr => b_lots_of G g_part_in g_closed cdv A outer s H E hr) h_lots_of⟩⟩
theorem k_stand (G : Gb K mg C) (g_check_world : Has P w K mg base C "check_world" ["thing"] 1 0 sc_check_world) (g_check_book : Has P w K mg base C "check_book" ["world", "thing"] 7 0 sc_check_book) (g_check_reach : Has P w K mg base C "check_reach" ["thing"] 3 0 sc_check_reach) (g_closed : Has P w K mg base C "closed" ["world", "parts", "reach"] 5 0 sc_closed) (hm : mg "stand" = some (.ref f)) (F : FunD K "stand" "stand" (defArgs s_stand) (defBody s_stand) (defScope s_stand) [] [("reach", .int 1)] f fd) : HasK P w K mg base C "stand" ["world", "book", "reach"] 2 ["reach"] 8 sc_stand :=
  ⟨⟨f, fd, hm, F.kp, (kb_all F fun _ _ _ _ _ _ us ws h1 h2 => match us, ws, h1, h2 with | [_, _], [_], _, _ => rfl), okD F fs_stand (fun dvs R h => by repeat (first | (obtain ⟨e, _⟩ := h; subst e; rfl) | (obtain ⟨_, h⟩ := h))) td_stand (fun cdv A outer s H E hr => b_stand G g_check_world g_check_book g_check_reach g_closed cdv A outer s H E hr) h_stand⟩⟩
theorem k_lots (G : Gb K mg C) (g_check_world : Has P w K mg base C "check_world" ["thing"] 1 0 sc_check_world) (g_check_book : Has P w K mg base C "check_book" ["world", "thing"] 7 0 sc_check_book) (g_check_reach : Has P w K mg base C "check_reach" ["thing"] 3 0 sc_check_reach) (g_lots_of : Has P w K mg base C "lots_of" ["world", "book", "reach"] 6 0 sc_lots_of) (hm : mg "lots" = some (.ref f)) (F : FunD K "lots" "lots" (defArgs s_lots) (defBody s_lots) (defScope s_lots) [] [("reach", .int 1)] f fd) : HasK P w K mg base C "lots" ["world", "book", "reach"] 2 ["reach"] 8 sc_lots :=
  ⟨⟨f, fd, hm, F.kp, (kb_all F fun _ _ _ _ _ _ us ws h1 h2 => match us, ws, h1, h2 with | [_, _], [_], _, _ => rfl), okD F fs_lots (fun dvs R h => by repeat (first | (obtain ⟨e, _⟩ := h; subst e; rfl) | (obtain ⟨_, h⟩ := h))) td_lots (fun cdv A outer s H E hr => b_lots G g_check_world g_check_book g_check_reach g_lots_of cdv A outer s H E hr) h_lots⟩⟩
theorem k_together (G : Gb K mg C) (g_check_world : Has P w K mg base C "check_world" ["thing"] 1 0 sc_check_world) (g_part_in : Has P w K mg base C "part_in" ["one", "other"] 1 0 sc_part_in) (g_check_book : Has P w K mg base C "check_book" ["world", "thing"] 7 0 sc_check_book) (g_part_of : Has P w K mg base C "part_of" ["book", "name"] 2 0 sc_part_of) (g_check_reach : Has P w K mg base C "check_reach" ["thing"] 3 0 sc_check_reach) (g_closed : Has P w K mg base C "closed" ["world", "parts", "reach"] 5 0 sc_closed) (hm : mg "together" = some (.ref f)) (F : FunD K "together" "together" (defArgs s_together) (defBody s_together) (defScope s_together) [] [("reach", .int 1)] f fd) : HasK P w K mg base C "together" ["world", "book", "one", "other", "reach"] 4 ["reach"] 8 sc_together :=
  ⟨⟨f, fd, hm, F.kp, (kb_all F fun _ _ _ _ _ _ us ws h1 h2 => match us, ws, h1, h2 with | [_, _, _, _], [_], _, _ => rfl), okD F fs_together (fun dvs R h => by repeat (first | (obtain ⟨e, _⟩ := h; subst e; rfl) | (obtain ⟨_, h⟩ := h))) td_together (fun cdv A outer s H E hr => b_together G g_check_world g_part_in g_check_book g_part_of g_check_reach g_closed cdv A outer s H E hr) h_together⟩⟩
theorem k_rungs (G : Gb K mg C) (g_part_far : Has P w K mg base C "part_far" ["world", "one", "other"] 2 0 sc_part_far) (g_closed : Has P w K mg base C "closed" ["world", "parts", "reach"] 5 0 sc_closed) (hm : mg "rungs" = some (.ref f)) (F : FunD K "rungs" "rungs" (defArgs s_rungs) (defBody s_rungs) (defScope s_rungs) [] [] f fd) : Has P w K mg base C "rungs" ["world", "book"] 6 0 sc_rungs :=
  ⟨⟨f, fd, hm, F.kp, (F.bindsN fun _ _ _ _ _ _ us hl => match us, hl with | [_, _], _ => rfl), okD F fs_rungs (fun dvs R h => by repeat (first | (obtain ⟨e, _⟩ := h; subst e; rfl) | (obtain ⟨_, h⟩ := h))) td_rungs (fun cdv A outer s H E hr => b_rungs G g_part_far g_closed cdv A outer s H E hr) h_rungs⟩⟩
theorem k_meeting (G : Gb K mg C) (g_check_world : Has P w K mg base C "check_world" ["thing"] 1 0 sc_check_world) (g_part_in : Has P w K mg base C "part_in" ["one", "other"] 1 0 sc_part_in) (g_check_book : Has P w K mg base C "check_book" ["world", "thing"] 7 0 sc_check_book) (g_part_of : Has P w K mg base C "part_of" ["book", "name"] 2 0 sc_part_of) (g_rungs : Has P w K mg base C "rungs" ["world", "book"] 6 0 sc_rungs) (hm : mg "meeting" = some (.ref f)) (F : FunD K "meeting" "meeting" (defArgs s_meeting) (defBody s_meeting) (defScope s_meeting) [] [] f fd) : Has P w K mg base C "meeting" ["world", "book", "one", "other"] 8 0 sc_meeting :=
  ⟨⟨f, fd, hm, F.kp, (F.bindsN fun _ _ _ _ _ _ us hl => match us, hl with | [_, _, _, _], _ => rfl), okD F fs_meeting (fun dvs R h => by repeat (first | (obtain ⟨e, _⟩ := h; subst e; rfl) | (obtain ⟨_, h⟩ := h))) td_meeting (fun cdv A outer s H E hr => b_meeting G g_check_world g_part_in g_check_book g_part_of g_rungs cdv A outer s H E hr) h_meeting⟩⟩
theorem k_ladder (G : Gb K mg C) (g_check_world : Has P w K mg base C "check_world" ["thing"] 1 0 sc_check_world) (g_check_book : Has P w K mg base C "check_book" ["world", "thing"] 7 0 sc_check_book) (g_rungs : Has P w K mg base C "rungs" ["world", "book"] 6 0 sc_rungs) (hm : mg "ladder" = some (.ref f)) (F : FunD K "ladder" "ladder" (defArgs s_ladder) (defBody s_ladder) (defScope s_ladder) [] [] f fd) : Has P w K mg base C "ladder" ["world", "book"] 8 0 sc_ladder :=
  ⟨⟨f, fd, hm, F.kp, (F.bindsN fun _ _ _ _ _ _ us hl => match us, hl with | [_, _], _ => rfl), okD F fs_ladder (fun dvs R h => by repeat (first | (obtain ⟨e, _⟩ := h; subst e; rfl) | (obtain ⟨_, h⟩ := h))) td_ladder (fun cdv A outer s H E hr => b_ladder G g_check_world g_check_book g_rungs cdv A outer s H E hr) h_ladder⟩⟩
theorem k_together_by (G : Gb K mg C) (g_part_in : Has P w K mg base C "part_in" ["one", "other"] 1 0 sc_part_in) (g_closed : Has P w K mg base C "closed" ["world", "parts", "reach"] 5 0 sc_closed) (hm : mg "together_by" = some (.ref f)) (F : FunD K "together_by" "together_by" (defArgs s_together_by) (defBody s_together_by) (defScope s_together_by) [] [] f fd) : Has P w K mg base C "together_by" ["world", "book", "names", "one", "other", "reach"] 6 0 sc_together_by :=
  ⟨⟨f, fd, hm, F.kp, (F.bindsN fun _ _ _ _ _ _ us hl => match us, hl with | [_, _, _, _, _, _], _ => rfl), okD F fs_together_by (fun dvs R h => by repeat (first | (obtain ⟨e, _⟩ := h; subst e; rfl) | (obtain ⟨_, h⟩ := h))) td_together_by (fun cdv A outer s H E hr => b_together_by G g_part_in g_closed cdv A outer s H E hr) h_together_by⟩⟩
theorem k_check_both (G : Gb K mg C) (g_check_world : Has P w K mg base C "check_world" ["thing"] 1 0 sc_check_world) (g_check_book : Has P w K mg base C "check_book" ["world", "thing"] 7 0 sc_check_book) (g_part_of : Has P w K mg base C "part_of" ["book", "name"] 2 0 sc_part_of) (g_check_reach : Has P w K mg base C "check_reach" ["thing"] 3 0 sc_check_reach) (g_together_by : Has P w K mg base C "together_by" ["world", "book", "names", "one", "other", "reach"] 6 0 sc_together_by) (hm : mg "check_both" = some (.ref f)) (F : FunD K "check_both" "check_both" (defArgs s_check_both) (defBody s_check_both) (defScope s_check_both) [] [] f fd) : Has P w K mg base C "check_both" ["world", "book", "one", "other", "reach"] 8 0 sc_check_both :=
  ⟨⟨f, fd, hm, F.kp, (F.bindsN fun _ _ _ _ _ _ us hl => match us, hl with | [_, _, _, _, _], _ => rfl), okD F fs_check_both (fun dvs R h => by repeat (first | (obtain ⟨e, _⟩ := h; subst e; rfl) | (obtain ⟨_, h⟩ := h))) td_check_both (fun cdv A outer s H E hr => b_check_both G g_check_world g_check_book g_part_of g_check_reach g_together_by cdv A outer s H E hr) h_check_both⟩⟩
theorem k_needed (G : Gb K mg C) (g_together_by : Has P w K mg base C "together_by" ["world", "book", "names", "one", "other", "reach"] 6 0 sc_together_by) (g_check_both : Has P w K mg base C "check_both" ["world", "book", "one", "other", "reach"] 8 0 sc_check_both) (hm : mg "needed" = some (.ref f)) (F : FunD K "needed" "needed" (defArgs s_needed) (defBody s_needed) (defScope s_needed) [] [("reach", .int 1)] f fd) : HasK P w K mg base C "needed" ["world", "book", "one", "other", "reach"] 4 ["reach"] 9 sc_needed :=
  ⟨⟨f, fd, hm, F.kp, (kb_all F fun _ _ _ _ _ _ us ws h1 h2 => match us, ws, h1, h2 with | [_, _, _, _], [_], _, _ => rfl), okD F fs_needed (fun dvs R h => by repeat (first | (obtain ⟨e, _⟩ := h; subst e; rfl) | (obtain ⟨_, h⟩ := h))) td_needed (fun cdv A outer s H E hr => b_needed G g_together_by g_check_both cdv A outer s H E hr) h_needed⟩⟩
theorem k_law_cell (G : Gb K mg C) (hm : mg "_law_cell" = some (.ref f)) (F : FunD K "_law_cell" "_law_cell" (defArgs s_law_cell) (defBody s_law_cell) (defScope s_law_cell) [] [] f fd) : Has P w K mg base C "_law_cell" ["_law_script", "_law_k"] 1 0 sc_law_cell :=
  ⟨⟨f, fd, hm, F.kp, (F.bindsN fun _ _ _ _ _ _ us hl => match us, hl with | [_, _], _ => rfl), okD F fs_law_cell (fun dvs R h => by repeat (first | (obtain ⟨e, _⟩ := h; subst e; rfl) | (obtain ⟨_, h⟩ := h))) td_law_cell (fun cdv A outer s H E hr => b_law_cell G cdv A outer s H E hr) h_law_cell⟩⟩
theorem k_law_purse (G : Gb K mg C) (hm : mg "_law_purse" = some (.ref f)) (F : FunD K "_law_purse" "_law_purse" (defArgs s_law_purse) (defBody s_law_purse) (defScope s_law_purse) [] [] f fd) : HasP P w K mg base "_law_purse" ["_law_cell_here"] 1 :=
  ⟨⟨f, fd, hm, F.kp, (F.bindsN fun _ _ _ _ _ _ us hl => match us, hl with | [_], _ => rfl), okP (C := C) F fs_law_purse rfl td_law_purse (fun cdv A outer s H E hr => b_law_purse G cdv A outer s H E hr) h_law_purse⟩⟩
theorem k_law_pick (G : Gb K mg C) (hm : mg "_law_pick" = some (.ref f)) (F : FunD K "_law_pick" "_law_pick" (defArgs s_law_pick) (defBody s_law_pick) (defScope s_law_pick) [] [] f fd) : Has P w K mg base C "_law_pick" ["_law_purse_here", "_law_count"] 1 1 sc_law_pick :=
  ⟨⟨f, fd, hm, F.kp, (F.bindsN fun _ _ _ _ _ _ us hl => match us, hl with | [_, _], _ => rfl), okD F fs_law_pick (fun dvs R h => by repeat (first | (obtain ⟨e, _⟩ := h; subst e; rfl) | (obtain ⟨_, h⟩ := h))) td_law_pick (fun cdv A outer s H E hr => b_law_pick G cdv A outer s H E hr) h_law_pick⟩⟩
theorem k_law_wood (G : Gb K mg C) (g_law_pick : Has P w K mg base C "_law_pick" ["_law_purse_here", "_law_count"] 1 1 sc_law_pick) (hm : mg "_law_wood" = some (.ref f)) (F : FunD K "_law_wood" "_law_wood" (defArgs s_law_wood) (defBody s_law_wood) (defScope s_law_wood) [] [] f fd) : Has P w K mg base C "_law_wood" ["_law_purse_here", "_law_most"] 2 1 sc_law_wood :=
  ⟨⟨f, fd, hm, F.kp, (F.bindsN fun _ _ _ _ _ _ us hl => match us, hl with | [_, _], _ => rfl), okD F fs_law_wood (fun dvs R h => by repeat (first | (obtain ⟨e, _⟩ := h; subst e; rfl) | (obtain ⟨_, h⟩ := h))) td_law_wood (fun cdv A outer s H E hr => b_law_wood G g_law_pick cdv A outer s H E hr) h_law_wood⟩⟩
theorem k_law_grove (G : Gb K mg C) (g_law_pick : Has P w K mg base C "_law_pick" ["_law_purse_here", "_law_count"] 1 1 sc_law_pick) (g_law_wood : Has P w K mg base C "_law_wood" ["_law_purse_here", "_law_most"] 2 1 sc_law_wood) (hm : mg "_law_grove" = some (.ref f)) (F : FunD K "_law_grove" "_law_grove" (defArgs s_law_grove) (defBody s_law_grove) (defScope s_law_grove) [] [] f fd) : Has P w K mg base C "_law_grove" ["_law_purse_here", "_law_upto", "_law_most"] 3 1 sc_law_grove :=
  ⟨⟨f, fd, hm, F.kp, (F.bindsN fun _ _ _ _ _ _ us hl => match us, hl with | [_, _, _], _ => rfl), okD F fs_law_grove (fun dvs R h => by repeat (first | (obtain ⟨e, _⟩ := h; subst e; rfl) | (obtain ⟨_, h⟩ := h))) td_law_grove (fun cdv A outer s H E hr => b_law_grove G g_law_pick g_law_wood cdv A outer s H E hr) h_law_grove⟩⟩
theorem k_law_gaps (G : Gb K mg C) (hm : mg "_law_gaps" = some (.ref f)) (F : FunD K "_law_gaps" "_law_gaps" (defArgs s_law_gaps) (defBody s_law_gaps) (defScope s_law_gaps) [] [] f fd) : Has P w K mg base C "_law_gaps" ["_law_wood_here"] 1 0 sc_law_gaps :=
  ⟨⟨f, fd, hm, F.kp, (F.bindsN fun _ _ _ _ _ _ us hl => match us, hl with | [_], _ => rfl), okD F fs_law_gaps (fun dvs R h => by repeat (first | (obtain ⟨e, _⟩ := h; subst e; rfl) | (obtain ⟨_, h⟩ := h))) td_law_gaps (fun cdv A outer s H E hr => b_law_gaps G cdv A outer s H E hr) h_law_gaps⟩⟩
theorem k_law_between_two (G : Gb K mg C) (hm : mg "_law_between_two" = some (.ref f)) (F : FunD K "_law_between_two" "_law_between_two" (defArgs s_law_between_two) (defBody s_law_between_two) (defScope s_law_between_two) [] [] f fd) : Has P w K mg base C "_law_between_two" ["_law_rows", "_law_first", "_law_last"] 1 0 sc_law_between_two :=
  ⟨⟨f, fd, hm, F.kp, (F.bindsN fun _ _ _ _ _ _ us hl => match us, hl with | [_, _, _], _ => rfl), okD F fs_law_between_two (fun dvs R h => by repeat (first | (obtain ⟨e, _⟩ := h; subst e; rfl) | (obtain ⟨_, h⟩ := h))) td_law_between_two (fun cdv A outer s H E hr => b_law_between_two G cdv A outer s H E hr) h_law_between_two⟩⟩
theorem k_law_limb (G : Gb K mg C) (g_law_gaps : Has P w K mg base C "_law_gaps" ["_law_wood_here"] 1 0 sc_law_gaps) (g_law_between_two : Has P w K mg base C "_law_between_two" ["_law_rows", "_law_first", "_law_last"] 1 0 sc_law_between_two) (hm : mg "_law_limb" = some (.ref f)) (F : FunD K "_law_limb" "_law_limb" (defArgs s_law_limb) (defBody s_law_limb) (defScope s_law_limb) [] [] f fd) : Has P w K mg base C "_law_limb" ["_law_wood_here", "_law_some"] 2 0 sc_law_limb :=
  ⟨⟨f, fd, hm, F.kp, (F.bindsN fun _ _ _ _ _ _ us hl => match us, hl with | [_, _], _ => rfl), okD F fs_law_limb (fun dvs R h => by repeat (first | (obtain ⟨e, _⟩ := h; subst e; rfl) | (obtain ⟨_, h⟩ := h))) td_law_limb (fun cdv A outer s H E hr => b_law_limb G g_law_gaps g_law_between_two cdv A outer s H E hr) h_law_limb⟩⟩
theorem k_law_piece (G : Gb K mg C) (g_law_pick : Has P w K mg base C "_law_pick" ["_law_purse_here", "_law_count"] 1 1 sc_law_pick) (g_law_limb : Has P w K mg base C "_law_limb" ["_law_wood_here", "_law_some"] 2 0 sc_law_limb) (hm : mg "_law_piece" = some (.ref f)) (F : FunD K "_law_piece" "_law_piece" (defArgs s_law_piece) (defBody s_law_piece) (defScope s_law_piece) [] [] f fd) : Has P w K mg base C "_law_piece" ["_law_purse_here", "_law_grove_here"] 3 1 sc_law_piece :=
  ⟨⟨f, fd, hm, F.kp, (F.bindsN fun _ _ _ _ _ _ us hl => match us, hl with | [_, _], _ => rfl), okD F fs_law_piece (fun dvs R h => by repeat (first | (obtain ⟨e, _⟩ := h; subst e; rfl) | (obtain ⟨_, h⟩ := h))) td_law_piece (fun cdv A outer s H E hr => b_law_piece G g_law_pick g_law_limb cdv A outer s H E hr) h_law_piece⟩⟩
theorem k_law_point (G : Gb K mg C) (g_law_pick : Has P w K mg base C "_law_pick" ["_law_purse_here", "_law_count"] 1 1 sc_law_pick) (hm : mg "_law_point" = some (.ref f)) (F : FunD K "_law_point" "_law_point" (defArgs s_law_point) (defBody s_law_point) (defScope s_law_point) [] [] f fd) : Has P w K mg base C "_law_point" ["_law_purse_here", "_law_grove_here"] 2 1 sc_law_point :=
  ⟨⟨f, fd, hm, F.kp, (F.bindsN fun _ _ _ _ _ _ us hl => match us, hl with | [_, _], _ => rfl), okD F fs_law_point (fun dvs R h => by repeat (first | (obtain ⟨e, _⟩ := h; subst e; rfl) | (obtain ⟨_, h⟩ := h))) td_law_point (fun cdv A outer s H E hr => b_law_point G g_law_pick cdv A outer s H E hr) h_law_point⟩⟩
theorem k_law_alone (G : Gb K mg C) (hm : mg "_law_alone" = some (.ref f)) (F : FunD K "_law_alone" "_law_alone" (defArgs s_law_alone) (defBody s_law_alone) (defScope s_law_alone) [] [] f fd) : Has P w K mg base C "_law_alone" ["_law_point_here"] 1 0 sc_law_alone :=
  ⟨⟨f, fd, hm, F.kp, (F.bindsN fun _ _ _ _ _ _ us hl => match us, hl with | [_], _ => rfl), okD F fs_law_alone (fun dvs R h => by repeat (first | (obtain ⟨e, _⟩ := h; subst e; rfl) | (obtain ⟨_, h⟩ := h))) td_law_alone (fun cdv A outer s H E hr => b_law_alone G cdv A outer s H E hr) h_law_alone⟩⟩
theorem k_law_words (G : Gb K mg C) (g_law_pick : Has P w K mg base C "_law_pick" ["_law_purse_here", "_law_count"] 1 1 sc_law_pick) (hm : mg "_law_words" = some (.ref f)) (F : FunD K "_law_words" "_law_words" (defArgs s_law_words) (defBody s_law_words) (defScope s_law_words) [] [] f fd) : Has P w K mg base C "_law_words" ["_law_purse_here", "_law_count"] 2 1 sc_law_words :=
  ⟨⟨f, fd, hm, F.kp, (F.bindsN fun _ _ _ _ _ _ us hl => match us, hl with | [_, _], _ => rfl), okD F fs_law_words (fun dvs R h => by repeat (first | (obtain ⟨e, _⟩ := h; subst e; rfl) | (obtain ⟨_, h⟩ := h))) td_law_words (fun cdv A outer s H E hr => b_law_words G g_law_pick cdv A outer s H E hr) h_law_words⟩⟩
theorem k_law_strange (G : Gb K mg C) (hm : mg "_law_strange" = some (.ref f)) (F : FunD K "_law_strange" "_law_strange" (defArgs s_law_strange) (defBody s_law_strange) (defScope s_law_strange) [] [] f fd) : Has P w K mg base C "_law_strange" ["_law_words_here"] 1 0 sc_law_strange :=
  ⟨⟨f, fd, hm, F.kp, (F.bindsN fun _ _ _ _ _ _ us hl => match us, hl with | [_], _ => rfl), okD F fs_law_strange (fun dvs R h => by repeat (first | (obtain ⟨e, _⟩ := h; subst e; rfl) | (obtain ⟨_, h⟩ := h))) td_law_strange (fun cdv A outer s H E hr => b_law_strange G cdv A outer s H E hr) h_law_strange⟩⟩
theorem k_law_some_piece (G : Gb K mg C) (g_law_pick : Has P w K mg base C "_law_pick" ["_law_purse_here", "_law_count"] 1 1 sc_law_pick) (g_law_piece : Has P w K mg base C "_law_piece" ["_law_purse_here", "_law_grove_here"] 3 1 sc_law_piece) (g_law_point : Has P w K mg base C "_law_point" ["_law_purse_here", "_law_grove_here"] 2 1 sc_law_point) (g_law_alone : Has P w K mg base C "_law_alone" ["_law_point_here"] 1 0 sc_law_alone) (hm : mg "_law_some_piece" = some (.ref f)) (F : FunD K "_law_some_piece" "_law_some_piece" (defArgs s_law_some_piece) (defBody s_law_some_piece) (defScope s_law_some_piece) [] [] f fd) : Has P w K mg base C "_law_some_piece" ["_law_purse_here", "_law_grove_here"] 4 1 sc_law_some_piece :=
  ⟨⟨f, fd, hm, F.kp, (F.bindsN fun _ _ _ _ _ _ us hl => match us, hl with | [_, _], _ => rfl), okD F fs_law_some_piece (fun dvs R h => by repeat (first | (obtain ⟨e, _⟩ := h; subst e; rfl) | (obtain ⟨_, h⟩ := h))) td_law_some_piece (fun cdv A outer s H E hr => b_law_some_piece G g_law_pick g_law_piece g_law_point g_law_alone cdv A outer s H E hr) h_law_some_piece⟩⟩
theorem k_law_along (G : Gb K mg C) (g_law_pick : Has P w K mg base C "_law_pick" ["_law_purse_here", "_law_count"] 1 1 sc_law_pick) (g_law_grove : Has P w K mg base C "_law_grove" ["_law_purse_here", "_law_upto", "_law_most"] 3 1 sc_law_grove) (g_law_words : Has P w K mg base C "_law_words" ["_law_purse_here", "_law_count"] 2 1 sc_law_words) (g_law_some_piece : Has P w K mg base C "_law_some_piece" ["_law_purse_here", "_law_grove_here"] 4 1 sc_law_some_piece) (hm : mg "_law_along" = some (.ref f)) (F : FunD K "_law_along" "_law_along" (defArgs s_law_along) (defBody s_law_along) (defScope s_law_along) [] [] f fd) : Has P w K mg base C "_law_along" ["_law_purse_here"] 5 1 sc_law_along :=
  ⟨⟨f, fd, hm, F.kp, (F.bindsN fun _ _ _ _ _ _ us hl => match us, hl with | [_], _ => rfl), okD F fs_law_along (fun dvs R h => by repeat (first | (obtain ⟨e, _⟩ := h; subst e; rfl) | (obtain ⟨_, h⟩ := h))) td_law_along (fun cdv A outer s H E hr => b_law_along G g_law_pick g_law_grove g_law_words g_law_some_piece cdv A outer s H E hr) h_law_along⟩⟩
theorem k_law_scene (G : Gb K mg C) (g_law_pick : Has P w K mg base C "_law_pick" ["_law_purse_here", "_law_count"] 1 1 sc_law_pick) (g_law_grove : Has P w K mg base C "_law_grove" ["_law_purse_here", "_law_upto", "_law_most"] 3 1 sc_law_grove) (g_law_words : Has P w K mg base C "_law_words" ["_law_purse_here", "_law_count"] 2 1 sc_law_words) (g_law_some_piece : Has P w K mg base C "_law_some_piece" ["_law_purse_here", "_law_grove_here"] 4 1 sc_law_some_piece) (g_law_along : Has P w K mg base C "_law_along" ["_law_purse_here"] 5 1 sc_law_along) (hm : mg "_law_scene" = some (.ref f)) (F : FunD K "_law_scene" "_law_scene" (defArgs s_law_scene) (defBody s_law_scene) (defScope s_law_scene) [] [] f fd) : Has P w K mg base C "_law_scene" ["_law_purse_here"] 6 1 sc_law_scene :=
  ⟨⟨f, fd, hm, F.kp, (F.bindsN fun _ _ _ _ _ _ us hl => match us, hl with | [_], _ => rfl), okD F fs_law_scene (fun dvs R h => by repeat (first | (obtain ⟨e, _⟩ := h; subst e; rfl) | (obtain ⟨_, h⟩ := h))) td_law_scene (fun cdv A outer s H E hr => b_law_scene G g_law_pick g_law_grove g_law_words g_law_some_piece g_law_along cdv A outer s H E hr) h_law_scene⟩⟩
theorem k_law_inner (G : Gb K mg C) (g_law_pick : Has P w K mg base C "_law_pick" ["_law_purse_here", "_law_count"] 1 1 sc_law_pick) (hm : mg "_law_inner" = some (.ref f)) (F : FunD K "_law_inner" "_law_inner" (defArgs s_law_inner) (defBody s_law_inner) (defScope s_law_inner) [] [] f fd) : Has P w K mg base C "_law_inner" ["_law_purse_here", "_law_piece_here"] 2 1 sc_law_inner :=
  ⟨⟨f, fd, hm, F.kp, (F.bindsN fun _ _ _ _ _ _ us hl => match us, hl with | [_, _], _ => rfl), okD F fs_law_inner (fun dvs R h => by repeat (first | (obtain ⟨e, _⟩ := h; subst e; rfl) | (obtain ⟨_, h⟩ := h))) td_law_inner (fun cdv A outer s H E hr => b_law_inner G g_law_pick cdv A outer s H E hr) h_law_inner⟩⟩
theorem k_law_more (G : Gb K mg C) (g_law_pick : Has P w K mg base C "_law_pick" ["_law_purse_here", "_law_count"] 1 1 sc_law_pick) (g_law_strange : Has P w K mg base C "_law_strange" ["_law_words_here"] 1 0 sc_law_strange) (g_law_inner : Has P w K mg base C "_law_inner" ["_law_purse_here", "_law_piece_here"] 2 1 sc_law_inner) (hm : mg "_law_more" = some (.ref f)) (F : FunD K "_law_more" "_law_more" (defArgs s_law_more) (defBody s_law_more) (defScope s_law_more) [] [] f fd) : Has P w K mg base C "_law_more" ["_law_purse_here", "_law_roll", "_law_stood", "_law_twins"] 3 1 sc_law_more :=
  ⟨⟨f, fd, hm, F.kp, (F.bindsN fun _ _ _ _ _ _ us hl => match us, hl with | [_, _, _, _], _ => rfl), okD F fs_law_more (fun dvs R h => by repeat (first | (obtain ⟨e, _⟩ := h; subst e; rfl) | (obtain ⟨_, h⟩ := h))) td_law_more (fun cdv A outer s H E hr => b_law_more G g_law_pick g_law_strange g_law_inner cdv A outer s H E hr) h_law_more⟩⟩
theorem k_law_spare (G : Gb K mg C) (g_together : HasK P w K mg base C "together" ["world", "book", "one", "other", "reach"] 4 ["reach"] 8 sc_together) (g_needed : HasK P w K mg base C "needed" ["world", "book", "one", "other", "reach"] 4 ["reach"] 9 sc_needed) (g_law_pick : Has P w K mg base C "_law_pick" ["_law_purse_here", "_law_count"] 1 1 sc_law_pick) (hm : mg "_law_spare" = some (.ref f)) (F : FunD K "_law_spare" "_law_spare" (defArgs s_law_spare) (defBody s_law_spare) (defScope s_law_spare) [] [] f fd) : Has P w K mg base C "_law_spare" ["_law_purse_here", "_law_home", "_law_more_here", "_law_others", "_law_both", "_law_wide"] 10 1 sc_law_spare :=
  ⟨⟨f, fd, hm, F.kp, (F.bindsN fun _ _ _ _ _ _ us hl => match us, hl with | [_, _, _, _, _, _], _ => rfl), okD F fs_law_spare (fun dvs R h => by repeat (first | (obtain ⟨e, _⟩ := h; subst e; rfl) | (obtain ⟨_, h⟩ := h))) td_law_spare (fun cdv A outer s H E hr => b_law_spare G g_together g_needed g_law_pick cdv A outer s H E hr) h_law_spare⟩⟩
theorem k_law_twins_right (G : Gb K mg C) (g_together : HasK P w K mg base C "together" ["world", "book", "one", "other", "reach"] 4 ["reach"] 8 sc_together) (g_meeting : Has P w K mg base C "meeting" ["world", "book", "one", "other"] 8 0 sc_meeting) (g_ladder : Has P w K mg base C "ladder" ["world", "book"] 8 0 sc_ladder) (g_law_spare : Has P w K mg base C "_law_spare" ["_law_purse_here", "_law_home", "_law_more_here", "_law_others", "_law_both", "_law_wide"] 10 1 sc_law_spare) (hm : mg "_law_twins_right" = some (.ref f)) (F : FunD K "_law_twins_right" "_law_twins_right" (defArgs s_law_twins_right) (defBody s_law_twins_right) (defScope s_law_twins_right) [] [] f fd) : Has P w K mg base C "_law_twins_right" ["_law_purse_here", "_law_home", "_law_roll", "_law_more_here", "_law_fresh", "_law_wide"] 11 1 sc_law_twins_right :=
  ⟨⟨f, fd, hm, F.kp, (F.bindsN fun _ _ _ _ _ _ us hl => match us, hl with | [_, _, _, _, _, _], _ => rfl), okD F fs_law_twins_right (fun dvs R h => by repeat (first | (obtain ⟨e, _⟩ := h; subst e; rfl) | (obtain ⟨_, h⟩ := h))) td_law_twins_right (fun cdv A outer s H E hr => b_law_twins_right G g_together g_meeting g_ladder g_law_spare cdv A outer s H E hr) h_law_twins_right⟩⟩
theorem k_law_right (G : Gb K mg C) (g_World_init : HasW P w K mg base C ["self", "trees"] 4 sc_World_init) (g_stand : HasK P w K mg base C "stand" ["world", "book", "reach"] 2 ["reach"] 8 sc_stand) (g_lots : HasK P w K mg base C "lots" ["world", "book", "reach"] 2 ["reach"] 8 sc_lots) (g_law_pick : Has P w K mg base C "_law_pick" ["_law_purse_here", "_law_count"] 1 1 sc_law_pick) (g_law_scene : Has P w K mg base C "_law_scene" ["_law_purse_here"] 6 1 sc_law_scene) (g_law_more : Has P w K mg base C "_law_more" ["_law_purse_here", "_law_roll", "_law_stood", "_law_twins"] 3 1 sc_law_more) (g_law_twins_right : Has P w K mg base C "_law_twins_right" ["_law_purse_here", "_law_home", "_law_roll", "_law_more_here", "_law_fresh", "_law_wide"] 11 1 sc_law_twins_right) (hm : mg "_law_right" = some (.ref f)) (F : FunD K "_law_right" "_law_right" (defArgs s_law_right) (defBody s_law_right) (defScope s_law_right) [] [] f fd) : Has P w K mg base C "_law_right" ["_law_purse_here"] 12 1 sc_law_right :=
  ⟨⟨f, fd, hm, F.kp, (F.bindsN fun _ _ _ _ _ _ us hl => match us, hl with | [_], _ => rfl), okD F fs_law_right (fun dvs R h => by repeat (first | (obtain ⟨e, _⟩ := h; subst e; rfl) | (obtain ⟨_, h⟩ := h))) td_law_right (fun cdv A outer s H E hr => b_law_right G g_World_init g_stand g_lots g_law_pick g_law_scene g_law_more g_law_twins_right cdv A outer s H E hr) h_law_right⟩⟩
end
end JR
set_option maxHeartbeats 0
/-! JEnd: printed by gen_join.py: the facts of the head, the law. -/
namespace JR
open PySem PySem.Spec PyProof.Rows L2 JM PySem.W
theorem exB_ok {K : PySem.W.Frag} (h : exB K = true) (c : Cls K (He.ga K "World")) : C8.InsC K (He.ga K "World") ∧ (K.all fun p => noL p.2) = true := by
  obtain ⟨h1, h⟩ := He.ba h
  obtain ⟨h2, h⟩ := He.ba h
  obtain ⟨h3, h⟩ := He.ba h
  obtain ⟨h4, h⟩ := He.ba h
  obtain ⟨h5, h6⟩ := He.ba h
  exact ⟨⟨c, He.eqO_ok h1, He.eqO_ok h2, of_decide_eq_true h3, of_decide_eq_true h4, of_decide_eq_true h5⟩, h6⟩
theorem mem_lookup {K : PySem.W.Frag} {a : Addr} {o : Obj} (h : K.lookup a = some o) : (a, o) ∈ K := by
  induction K with
  | nil => cases h
  | cons p K ih =>
    obtain ⟨b, u⟩ := p
    have h2 : (match a == b with | true => some u | false => K.lookup a) = some o := h
    cases q : (a == b) with
    | true =>
      rw [q] at h2
      rw [beq_iff_eq.mp q, Option.some.inj h2]
      simp
    | false =>
      rw [q] at h2
      exact List.mem_cons_of_mem _ (ih h2)
theorem no_list {K : PySem.W.Frag} (h : (K.all fun p => noL p.2) = true) {H : Hp} {a : Addr} {xs : List V} (k : SqL K H a xs) : SqL KZ H a xs := by
  rcases k with k | ⟨o, its, n, e, hc, _⟩
  · exact .inl k
  · have q := List.all_eq_true.mp h _ (mem_lookup e)
    unfold noL at q
    rw [hc] at q
    simp at q
theorem law_start {P : Program} {w : World} {K : PySem.W.Frag} {C : Addr} (h : (K.all fun p => noL p.2) = true) {H : Hp} {a : Addr} {ns : List Int} (hS : SqL K H a (ns.map V.int)) : spD ⟨P, w, C⟩ 0 sc_law [.ref a] H (fun v _ => v = .bl true) fun _ _ _ => False := by
  refine ⟨[], H, [.d (.list (ns.map .int))], fun x => x = .bool true, ⟨Same.refl _, List.nodup_nil, rfl, fun k a c h => by simp at h, fun a h => by simp at h, rfl, fun i dv h => by simp at h⟩, .cons (.lst (no_list h hS) (dps_of (fun i => .int i) ns)) .nil, ⟨ns, rfl, rfl⟩, fun α' H0' μ' H' v x _ _ _ hv hx => ?_⟩
  subst hx
  cases hv
  rfl
theorem facts {P : Program} {w : World} {K : PySem.W.Frag} {h : Heap} {mg : Str → Option Value} {f : Addr} (X : K.In h) (G0 : h.Ns mainGlobals mg) (hfa : mg ("law" : Str) = some (.ref f)) (c : He.SaysD fa fn K) (ce : exB K = true) :
    ∃ fd : FuncData, (K.all fun p => noL p.2) = true ∧ (∀ (s : Shared) (v : Value), BindsTo s fd ⟨[v], []⟩ [("_law_script", v)]) ∧ ∀ base : Heap, K.In base → base.Ns mainGlobals mg → FnOk P w K mg base CX0 13 f fd ["_law_script"] (spD ⟨P, w, He.ga K "World"⟩ 0 sc_law) := by
  obtain ⟨fd0, F0⟩ := c.def_ 0 (d := d_is_whole) rfl
  obtain ⟨fd1, F1⟩ := c.def_ 1 (d := d_is_within) rfl
  obtain ⟨fd2, F2⟩ := c.def_ 2 (d := d_is_tree) rfl
  obtain ⟨fd3, F3⟩ := c.def_ 3 (d := d_downward) rfl
  obtain ⟨fd4, F4⟩ := c.def_ 4 (d := d_steps_between) rfl
  obtain ⟨fd5, F5⟩ := c.def_ 5 (d := d_gaps) rfl
  obtain ⟨fd6, F6⟩ := c.def_ 6 (d := d_hangs_together) rfl
  obtain ⟨fd7, F7⟩ := c.def_ 7 (d := d_branch_around) rfl
  obtain ⟨fd8, F8⟩ := c.def_ 8 (d := d_least_gap) rfl
  obtain ⟨fd9, F9⟩ := c.def_ 9 (d := d_World_init) rfl
  obtain ⟨fd10, F10⟩ := c.def_ 10 (d := d_check_world) rfl
  obtain ⟨fd11, F11⟩ := c.def_ 11 (d := d_makes_part) rfl
  obtain ⟨fd12, F12⟩ := c.def_ 12 (d := d_is_part) rfl
  obtain ⟨fd13, F13⟩ := c.def_ 13 (d := d_part_in) rfl
  obtain ⟨fd14, F14⟩ := c.def_ 14 (d := d_part_far) rfl
  obtain ⟨fd15, F15⟩ := c.def_ 15 (d := d_part_hull) rfl
  obtain ⟨fd16, F16⟩ := c.def_ 16 (d := d_is_name) rfl
  obtain ⟨fd17, F17⟩ := c.def_ 17 (d := d_first_wrong) rfl
  obtain ⟨fd18, F18⟩ := c.def_ 18 (d := d_check_book) rfl
  obtain ⟨fd19, F19⟩ := c.def_ 19 (d := d_part_of) rfl
  obtain ⟨fd20, F20⟩ := c.def_ 20 (d := d_check_reach) rfl
  obtain ⟨fd21, F21⟩ := c.def_ 21 (d := d_closed) rfl
  obtain ⟨fd22, F22⟩ := c.def_ 22 (d := d_lots_of) rfl
  obtain ⟨fd23, F23⟩ := c.def_ 23 (d := d_stand) rfl
  obtain ⟨fd24, F24⟩ := c.def_ 24 (d := d_lots) rfl
  obtain ⟨fd25, F25⟩ := c.def_ 25 (d := d_together) rfl
  obtain ⟨fd26, F26⟩ := c.def_ 26 (d := d_rungs) rfl
  obtain ⟨fd27, F27⟩ := c.def_ 27 (d := d_meeting) rfl
  obtain ⟨fd28, F28⟩ := c.def_ 28 (d := d_ladder) rfl
  obtain ⟨fd29, F29⟩ := c.def_ 29 (d := d_together_by) rfl
  obtain ⟨fd30, F30⟩ := c.def_ 30 (d := d_check_both) rfl
  obtain ⟨fd31, F31⟩ := c.def_ 31 (d := d_needed) rfl
  obtain ⟨fd32, F32⟩ := c.def_ 32 (d := d_law_cell) rfl
  obtain ⟨fd33, F33⟩ := c.def_ 33 (d := d_law_purse) rfl
  obtain ⟨fd34, F34⟩ := c.def_ 34 (d := d_law_pick) rfl
  obtain ⟨fd35, F35⟩ := c.def_ 35 (d := d_law_wood) rfl
  obtain ⟨fd36, F36⟩ := c.def_ 36 (d := d_law_grove) rfl
  obtain ⟨fd37, F37⟩ := c.def_ 37 (d := d_law_gaps) rfl
  obtain ⟨fd38, F38⟩ := c.def_ 38 (d := d_law_between_two) rfl
  obtain ⟨fd39, F39⟩ := c.def_ 39 (d := d_law_limb) rfl
  obtain ⟨fd40, F40⟩ := c.def_ 40 (d := d_law_piece) rfl
  obtain ⟨fd41, F41⟩ := c.def_ 41 (d := d_law_point) rfl
  obtain ⟨fd42, F42⟩ := c.def_ 42 (d := d_law_alone) rfl
  obtain ⟨fd43, F43⟩ := c.def_ 43 (d := d_law_words) rfl
  obtain ⟨fd44, F44⟩ := c.def_ 44 (d := d_law_strange) rfl
  obtain ⟨fd45, F45⟩ := c.def_ 45 (d := d_law_some_piece) rfl
  obtain ⟨fd46, F46⟩ := c.def_ 46 (d := d_law_along) rfl
  obtain ⟨fd47, F47⟩ := c.def_ 47 (d := d_law_scene) rfl
  obtain ⟨fd48, F48⟩ := c.def_ 48 (d := d_law_inner) rfl
  obtain ⟨fd49, F49⟩ := c.def_ 49 (d := d_law_more) rfl
  obtain ⟨fd50, F50⟩ := c.def_ 50 (d := d_law_spare) rfl
  obtain ⟨fd51, F51⟩ := c.def_ 51 (d := d_law_twins_right) rfl
  obtain ⟨fd52, F52⟩ := c.def_ 52 (d := d_law_right) rfl
  obtain ⟨fd53, F53⟩ := c.def_ 53 (d := d_law) rfl
  have cW := He.cls_ok (c.fact 54 (f := .cls "World") rfl)
  obtain ⟨ic, nl⟩ := exB_ok ce cW
  have G : Gb K mg (He.ga K "World") := ⟨He.free_ok X G0 (c.fact 59 (f := .free "isinstance") rfl), He.free_ok X G0 (c.fact 60 (f := .free "int") rfl), He.free_ok X G0 (c.fact 61 (f := .free "bool") rfl), He.free_ok X G0 (c.fact 62 (f := .free "tuple") rfl), He.free_ok X G0 (c.fact 63 (f := .free "str") rfl), He.free_ok X G0 (c.fact 64 (f := .free "len") rfl), He.free_ok X G0 (c.fact 65 (f := .free "all") rfl), He.free_ok X G0 (c.fact 66 (f := .free "any") rfl), He.free_ok X G0 (c.fact 67 (f := .free "enumerate") rfl), He.free_ok X G0 (c.fact 68 (f := .free "range") rfl), He.free_ok X G0 (c.fact 69 (f := .free "list") rfl), He.free_ok X G0 (c.fact 70 (f := .free "sorted") rfl), He.free_ok X G0 (c.fact 71 (f := .free "set") rfl), He.free_ok X G0 (c.fact 72 (f := .free "zip") rfl), He.free_ok X G0 (c.fact 73 (f := .free "min") rfl), He.free_ok X G0 (c.fact 74 (f := .free "max") rfl), He.int_ok X G0 (c.fact 76 (f := .int "MOST_REACH" 48) rfl), He.int_ok X G0 (c.fact 77 (f := .int "MOST_PLACES" 12) rfl), He.int_ok X G0 (c.fact 78 (f := .int "MOST_TREES" 4) rfl), He.int_ok X G0 (c.fact 79 (f := .int "MOST_NAMES" 24) rfl), He.int_ok X G0 (c.fact 80 (f := .int "MOST_SIGNS" 8) rfl), He.str_ok X G0 (c.fact 81 (f := .str "SIGNS" "abcdefghijklmnopqrstuvwxyz") rfl), He.glo_ok X G0 (c.fact 53 (f := .glo "World") rfl), cW, ic, He.noat_ok (c.fact 56 (f := .noat "World" "trees") rfl), He.noat_ok (c.fact 57 (f := .noat "World" "tables") rfl)⟩
  have e := hfa.symm.trans (He.glo_ok X G0 (c.fact 52 (f := .glo "law") rfl))
  cases e
  have b := FunD.bindsA (ps := ["_law_script"]) F53 fun _ _ _ _ _ _ us hl => match us, hl with | [_], _ => rfl
  refine ⟨fd53, nl, fun s v => b s [v] rfl, fun base _ _ => ?_⟩
  have g_is_whole := k_is_whole (P := P) (w := w) (base := base) G (He.glo_ok X G0 (c.fact 0 (f := .glo "is_whole") rfl)) F0
  have g_is_within := k_is_within (P := P) (w := w) (base := base) G g_is_whole (He.glo_ok X G0 (c.fact 1 (f := .glo "is_within") rfl)) F1
  have g_is_tree := k_is_tree (P := P) (w := w) (base := base) G g_is_within (He.glo_ok X G0 (c.fact 2 (f := .glo "is_tree") rfl)) F2
  have g_downward := k_downward (P := P) (w := w) (base := base) G (He.glo_ok X G0 (c.fact 3 (f := .glo "downward") rfl)) F3
  have g_steps_between := k_steps_between (P := P) (w := w) (base := base) G g_downward (He.glo_ok X G0 (c.fact 4 (f := .glo "steps_between") rfl)) F4
  have g_gaps := k_gaps (P := P) (w := w) (base := base) G g_steps_between (He.glo_ok X G0 (c.fact 5 (f := .glo "gaps") rfl)) F5
  have g_hangs_together := k_hangs_together (P := P) (w := w) (base := base) G g_is_within (He.glo_ok X G0 (c.fact 6 (f := .glo "hangs_together") rfl)) F6
  have g_branch_around := k_branch_around (P := P) (w := w) (base := base) G g_steps_between (He.glo_ok X G0 (c.fact 7 (f := .glo "branch_around") rfl)) F7
  have g_least_gap := k_least_gap (P := P) (w := w) (base := base) G (He.glo_ok X G0 (c.fact 8 (f := .glo "least_gap") rfl)) F8
  have g_World_init := k_World_init (P := P) (w := w) (base := base) G g_is_tree g_gaps (He.mkr_ok (c.fact 55 (f := .mkr "World") rfl)) F9
  have g_check_world := k_check_world (P := P) (w := w) (base := base) G (He.glo_ok X G0 (c.fact 9 (f := .glo "check_world") rfl)) F10
  have g_makes_part := k_makes_part (P := P) (w := w) (base := base) G g_hangs_together (He.glo_ok X G0 (c.fact 10 (f := .glo "makes_part") rfl)) F11
  have g_is_part := k_is_part (P := P) (w := w) (base := base) G g_check_world g_makes_part (He.glo_ok X G0 (c.fact 11 (f := .glo "is_part") rfl)) F12
  have g_part_in := k_part_in (P := P) (w := w) (base := base) G (He.glo_ok X G0 (c.fact 12 (f := .glo "part_in") rfl)) F13
  have g_part_far := k_part_far (P := P) (w := w) (base := base) G g_least_gap (He.glo_ok X G0 (c.fact 13 (f := .glo "part_far") rfl)) F14
  have g_part_hull := k_part_hull (P := P) (w := w) (base := base) G g_branch_around (He.glo_ok X G0 (c.fact 14 (f := .glo "part_hull") rfl)) F15
  have g_is_name := k_is_name (P := P) (w := w) (base := base) G (He.glo_ok X G0 (c.fact 15 (f := .glo "is_name") rfl)) F16
  have g_first_wrong := k_first_wrong (P := P) (w := w) (base := base) G g_is_part g_is_name (He.glo_ok X G0 (c.fact 16 (f := .glo "first_wrong") rfl)) F17
  have g_check_book := k_check_book (P := P) (w := w) (base := base) G g_first_wrong (He.glo_ok X G0 (c.fact 17 (f := .glo "check_book") rfl)) F18
  have g_part_of := k_part_of (P := P) (w := w) (base := base) G g_is_name (He.glo_ok X G0 (c.fact 18 (f := .glo "part_of") rfl)) F19
  have g_check_reach := k_check_reach (P := P) (w := w) (base := base) G g_is_within (He.glo_ok X G0 (c.fact 19 (f := .glo "check_reach") rfl)) F20
  have g_closed := k_closed (P := P) (w := w) (base := base) G g_part_far g_part_hull (He.glo_ok X G0 (c.fact 20 (f := .glo "closed") rfl)) F21
  have g_lots_of := k_lots_of (P := P) (w := w) (base := base) G g_part_in g_closed (He.glo_ok X G0 (c.fact 21 (f := .glo "lots_of") rfl)) F22
  have g_stand := k_stand (P := P) (w := w) (base := base) G g_check_world g_check_book g_check_reach g_closed (He.glo_ok X G0 (c.fact 22 (f := .glo "stand") rfl)) F23
  have g_lots := k_lots (P := P) (w := w) (base := base) G g_check_world g_check_book g_check_reach g_lots_of (He.glo_ok X G0 (c.fact 23 (f := .glo "lots") rfl)) F24
  have g_together := k_together (P := P) (w := w) (base := base) G g_check_world g_part_in g_check_book g_part_of g_check_reach g_closed (He.glo_ok X G0 (c.fact 24 (f := .glo "together") rfl)) F25
  have g_rungs := k_rungs (P := P) (w := w) (base := base) G g_part_far g_closed (He.glo_ok X G0 (c.fact 25 (f := .glo "rungs") rfl)) F26
  have g_meeting := k_meeting (P := P) (w := w) (base := base) G g_check_world g_part_in g_check_book g_part_of g_rungs (He.glo_ok X G0 (c.fact 26 (f := .glo "meeting") rfl)) F27
  have g_ladder := k_ladder (P := P) (w := w) (base := base) G g_check_world g_check_book g_rungs (He.glo_ok X G0 (c.fact 27 (f := .glo "ladder") rfl)) F28
  have g_together_by := k_together_by (P := P) (w := w) (base := base) G g_part_in g_closed (He.glo_ok X G0 (c.fact 28 (f := .glo "together_by") rfl)) F29
  have g_check_both := k_check_both (P := P) (w := w) (base := base) G g_check_world g_check_book g_part_of g_check_reach g_together_by (He.glo_ok X G0 (c.fact 29 (f := .glo "check_both") rfl)) F30
  have g_needed := k_needed (P := P) (w := w) (base := base) G g_together_by g_check_both (He.glo_ok X G0 (c.fact 30 (f := .glo "needed") rfl)) F31
  have g_law_cell := k_law_cell (P := P) (w := w) (base := base) G (He.glo_ok X G0 (c.fact 31 (f := .glo "_law_cell") rfl)) F32
  have g_law_purse := k_law_purse (P := P) (w := w) (base := base) G (He.glo_ok X G0 (c.fact 32 (f := .glo "_law_purse") rfl)) F33
  have g_law_pick := k_law_pick (P := P) (w := w) (base := base) G (He.glo_ok X G0 (c.fact 33 (f := .glo "_law_pick") rfl)) F34
  have g_law_wood := k_law_wood (P := P) (w := w) (base := base) G g_law_pick (He.glo_ok X G0 (c.fact 34 (f := .glo "_law_wood") rfl)) F35
  have g_law_grove := k_law_grove (P := P) (w := w) (base := base) G g_law_pick g_law_wood (He.glo_ok X G0 (c.fact 35 (f := .glo "_law_grove") rfl)) F36
  have g_law_gaps := k_law_gaps (P := P) (w := w) (base := base) G (He.glo_ok X G0 (c.fact 36 (f := .glo "_law_gaps") rfl)) F37
  have g_law_between_two := k_law_between_two (P := P) (w := w) (base := base) G (He.glo_ok X G0 (c.fact 37 (f := .glo "_law_between_two") rfl)) F38
  have g_law_limb := k_law_limb (P := P) (w := w) (base := base) G g_law_gaps g_law_between_two (He.glo_ok X G0 (c.fact 38 (f := .glo "_law_limb") rfl)) F39
  have g_law_piece := k_law_piece (P := P) (w := w) (base := base) G g_law_pick g_law_limb (He.glo_ok X G0 (c.fact 39 (f := .glo "_law_piece") rfl)) F40
  have g_law_point := k_law_point (P := P) (w := w) (base := base) G g_law_pick (He.glo_ok X G0 (c.fact 40 (f := .glo "_law_point") rfl)) F41
  have g_law_alone := k_law_alone (P := P) (w := w) (base := base) G (He.glo_ok X G0 (c.fact 41 (f := .glo "_law_alone") rfl)) F42
  have g_law_words := k_law_words (P := P) (w := w) (base := base) G g_law_pick (He.glo_ok X G0 (c.fact 42 (f := .glo "_law_words") rfl)) F43
  have g_law_strange := k_law_strange (P := P) (w := w) (base := base) G (He.glo_ok X G0 (c.fact 43 (f := .glo "_law_strange") rfl)) F44
  have g_law_some_piece := k_law_some_piece (P := P) (w := w) (base := base) G g_law_pick g_law_piece g_law_point g_law_alone (He.glo_ok X G0 (c.fact 44 (f := .glo "_law_some_piece") rfl)) F45
  have g_law_along := k_law_along (P := P) (w := w) (base := base) G g_law_pick g_law_grove g_law_words g_law_some_piece (He.glo_ok X G0 (c.fact 45 (f := .glo "_law_along") rfl)) F46
  have g_law_scene := k_law_scene (P := P) (w := w) (base := base) G g_law_pick g_law_grove g_law_words g_law_some_piece g_law_along (He.glo_ok X G0 (c.fact 46 (f := .glo "_law_scene") rfl)) F47
  have g_law_inner := k_law_inner (P := P) (w := w) (base := base) G g_law_pick (He.glo_ok X G0 (c.fact 47 (f := .glo "_law_inner") rfl)) F48
  have g_law_more := k_law_more (P := P) (w := w) (base := base) G g_law_pick g_law_strange g_law_inner (He.glo_ok X G0 (c.fact 48 (f := .glo "_law_more") rfl)) F49
  have g_law_spare := k_law_spare (P := P) (w := w) (base := base) G g_together g_needed g_law_pick (He.glo_ok X G0 (c.fact 49 (f := .glo "_law_spare") rfl)) F50
  have g_law_twins_right := k_law_twins_right (P := P) (w := w) (base := base) G g_together g_meeting g_ladder g_law_spare (He.glo_ok X G0 (c.fact 50 (f := .glo "_law_twins_right") rfl)) F51
  have g_law_right := k_law_right (P := P) (w := w) (base := base) G g_World_init g_stand g_lots g_law_pick g_law_scene g_law_more g_law_twins_right (He.glo_ok X G0 (c.fact 51 (f := .glo "_law_right") rfl)) F52
  exact okD F53 fs_law (fun dvs R h => by repeat (first | (obtain ⟨e, _⟩ := h; subst e; rfl) | (obtain ⟨_, h⟩ := h))) td_law (fun cdv A outer s H E hr => b_law G g_law_cell g_law_purse g_law_right cdv A outer s H E hr) h_law
end JR
open PySem PySem.W PySem.Calls PyProof.Rows
theorem PySem.Challenge.cw_joinreach_k81_whole_alike_names_more_holds : PySem.Challenge.rw_joinreach_k81_whole_alike_names_more.Holds := by
  w_on; o_law
  refine HandSHeadRun.head_any (r := OpenLaw.row PySem.Challenge.rw_joinreach_k81_whole_alike_names_more) (q := view (OpenLaw.row PySem.Challenge.rw_joinreach_k81_whole_alike_names_more).prog [77]) (H := JR.hookJ) (ob := JR.ob) (M := 20000) (loose := JR.loose) (d := HandSHeadRun.topDef (OpenLaw.row PySem.Challenge.rw_joinreach_k81_whole_alike_names_more).prog 77) (kwd := []) JR.ob_eq
    (by kernel_rfl) (fun s => by kernel_rfl) JR.run (by kernel_rfl) (by kernel_rfl) (by kernel_rfl) (by rfl) (by first | assumption | decide +kernel) (by decide +kernel) ⟨rfl, rfl, rfl, rfl, rfl, by decide +kernel⟩ ?hw ?hc
  case hw => w_witness2
  case hc =>
    refine L2.walk_ofE (l := PySem.Challenge.rw_joinreach_k81_whole_alike_names_more) (n := 63) (k := 13) (x := "_law_script") (CX := L2.CX0) rfl (by decide) (by kernel_rfl) ⟨rfl, by decide, by decide⟩ ?F (fun _ _ _ _ z => z)
    intro w mg fa h Y G hmg0
    obtain ⟨K, KX, c, ce⟩ := Y
    have hmg : mg ("law" : PySem.Str) = some (.ref fa) := by
      have e : (HandSHeadRun.topDef (OpenLaw.row PySem.Challenge.rw_joinreach_k81_whole_alike_names_more).prog 77).name = ("law" : PySem.Str) := by kernel_rfl
      rw [← e]
      exact hmg0
    obtain ⟨fd, nl, hb, hF⟩ := JR.facts (P := (PySem.Challenge.rw_joinreach_k81_whole_alike_names_more).prog) (w := w) KX G hmg c ce
    exact ⟨K, fd, JR.spD ⟨(PySem.Challenge.rw_joinreach_k81_whole_alike_names_more).prog, w, He.ga K "World"⟩ 0 JR.sc_law, KX, hb, fun H a ns hl _ hS => JR.law_start nl hS, hF⟩
