import PyProof.Rows.All
import HandS.HeadHook4
import HandS.Head3
import PyProof.Rows.StrMeet
import Wide.All
import OpenK.AllK
import Wide.FinOn
import HandS.ForMost
import HandS.Exc
import HandS.Codes
import HandS.TryOnly
import HandS.Lambda
import HandS.Defaults
import HandS.Gcd
import HandS.Wide
import HandS.Nested
import HandS.Property
import HandS.MakeKwOnly
import HandS.TupAny
import HandS.IsInst
import HandS.TupSets
import HandS.Strs
import HandS.Conv
import HandS.Star
import HandS.DictComp
import HandS.HeadHook1
import PySem.Challenge.RW_missingmiles_k20_whole_rows_of_steps
import HandS.Sort
import HandS.Text
import KE.KSortTupG
import HandS.Style
import KE.GoesEnum
import KE.KUnpackStar
import HandS.More
import PyProof.DictDisplay
import PyProof.DictUpdate
import PyProof.ReprRoads
import PyProof.Rows.RegStrFacts
import HandS.HeadWalk
import Lean
set_option Elab.async false
set_option linter.all false

/-! ## Hd -/
section
set_option maxRecDepth 100000
set_option maxHeartbeats 0
namespace Dl
open PySem PySem.Spec PyProof.Rows L2
def top (i : Nat) : Stmt := PySem.Challenge.pw_missingmiles_k20_whole_rows_of_steps.main.body.getD i (.Pass ⟨0, 0, 0, 0⟩)
/-- the j-th statement of the class at i -/
def mtop (i j : Nat) : Stmt := inClass (top i) j
abbrev ga := He.ga
abbrev ma := He.ma
/-! ### the head: what it leaves, by names -/
def pgA (K : PySem.W.Frag) (f : Str) : Addr := match PySem.W.recIn K (ma K (ga K "World") f) "property" with
  | some (.ref g :: _) => g
  | _ => 0
def fnAtW (K : PySem.W.Frag) (g : Addr) : He.FnW := match K.lookup g with
  | some ⟨_, _, .func fd, _⟩ => some (fd.name, fd.qualname, fd.params, fd.body, fd.scope, fd.globals, fd.closure, fd.builtins)
  | _ => none
def prB (K : PySem.W.Frag) (f qual : Str) : Bool := He.eqO (PySem.W.findIn K (.ref (ga K "World")) f) (some (some (.ref (ma K (ga K "World") f)))) && (He.eqO (PySem.W.specialIn K (.ref (ma K (ga K "World") f)) "__get__") (some (some (.builtin "property.__get__"))) &&
  (decide (PySem.W.takesIn K (.ref (ma K (ga K "World") f)) = some true) && ((match PySem.W.recIn K (ma K (ga K "World") f) "property" with
    | some (.ref _ :: _) => true
    | _ => false) && (PySem.W.keepIn K (.ref (pgA K f)) && (match K.lookup (pgA K f) with
    | some ⟨_, _, .func fd, _⟩ => PySem.W.codeIn K fd.code qual && (He.dflB K fd.defaults [] && He.kwdB K fd.kwdefaults [])
    | _ => false)))))
def prV (f qual : Str) (st : Stmt) : He.FnW := some (f, qual, defArgs st, .stmts (defBody st), defScope st, mainGlobals, [], builtinsNs)
def hfn0 : List He.DefD := [⟨("is_whole", none), "is_whole", "is_whole", defArgs (top 17), defBody (top 17), defScope (top 17), [], []⟩,
  ⟨("is_number", none), "is_number", "is_number", defArgs (top 18), defBody (top 18), defScope (top 18), [], []⟩,
  ⟨("is_ratio", none), "is_ratio", "is_ratio", defArgs (top 19), defBody (top 19), defScope (top 19), [], []⟩,
  ⟨("is_valued", none), "is_valued", "is_valued", defArgs (top 20), defBody (top 20), defScope (top 20), [], []⟩,
  ⟨("lowest", none), "lowest", "lowest", defArgs (top 21), defBody (top 21), defScope (top 21), [], []⟩,
  ⟨("ratio_of", none), "ratio_of", "ratio_of", defArgs (top 22), defBody (top 22), defScope (top 22), [], []⟩,
  ⟨("plus", none), "plus", "plus", defArgs (top 23), defBody (top 23), defScope (top 23), [], []⟩,
  ⟨("times", none), "times", "times", defArgs (top 24), defBody (top 24), defScope (top 24), [], []⟩,
  ⟨("below", none), "below", "below", defArgs (top 25), defBody (top 25), defScope (top 25), [], []⟩,
  ⟨("lesser", none), "lesser", "lesser", defArgs (top 26), defBody (top 26), defScope (top 26), [], []⟩,
  ⟨("is_name", none), "is_name", "is_name", defArgs (top 31), defBody (top 31), defScope (top 31), [], []⟩,
  ⟨("is_layer", none), "is_layer", "is_layer", defArgs (top 32), defBody (top 32), defScope (top 32), [.int 2], []⟩]
def hfn1 : List He.DefD := [⟨("is_square", none), "is_square", "is_square", defArgs (top 36), defBody (top 36), defScope (top 36), [], []⟩,
  ⟨("first_fault", none), "first_fault", "first_fault", defArgs (top 37), defBody (top 37), defScope (top 37), [], []⟩,
  ⟨("checked_table", none), "checked_table", "checked_table", defArgs (top 38), defBody (top 38), defScope (top 38), [], []⟩,
  ⟨("checked_places", none), "checked_places", "checked_places", defArgs (top 39), defBody (top 39), defScope (top 39), [], []⟩,
  ⟨("fits", none), "fits", "fits", defArgs (top 43), defBody (top 43), defScope (top 43), [], []⟩,
  ⟨("is_leaf", none), "is_leaf", "is_leaf", defArgs (top 44), defBody (top 44), defScope (top 44), [.int 2], []⟩,
  ⟨("names_in", none), "names_in", "names_in", defArgs (top 45), defBody (top 45), defScope (top 45), [], []⟩,
  ⟨("ways_in", none), "ways_in", "ways_in", defArgs (top 48), defBody (top 48), defScope (top 48), [], []⟩,
  ⟨("world_of", none), "world_of", "world_of", defArgs (top 49), defBody (top 49), defScope (top 49), [], []⟩,
  ⟨("names_behind", none), "names_behind", "names_behind", defArgs (top 50), defBody (top 50), defScope (top 50), [], []⟩,
  ⟨("changed", none), "changed", "changed", defArgs (top 51), defBody (top 51), defScope (top 51), [], []⟩,
  ⟨("_law_source", none), "_law_source", "_law_source", defArgs (top 53), defBody (top 53), defScope (top 53), [], []⟩]
def hfn2 : List He.DefD := [⟨("_law_draw", none), "_law_draw", "_law_draw", defArgs (top 54), defBody (top 54), defScope (top 54), [], []⟩,
  ⟨("_law_of", none), "_law_of", "_law_of", defArgs (top 55), defBody (top 55), defScope (top 55), [], []⟩,
  ⟨("_law_mixed", none), "_law_mixed", "_law_mixed", defArgs (top 56), defBody (top 56), defScope (top 56), [], []⟩,
  ⟨("_law_same", none), "_law_same", "_law_same", defArgs (top 57), defBody (top 57), defScope (top 57), [], []⟩,
  ⟨("_law_low", none), "_law_low", "_law_low", defArgs (top 58), defBody (top 58), defScope (top 58), [], []⟩,
  ⟨("_law_plus", none), "_law_plus", "_law_plus", defArgs (top 59), defBody (top 59), defScope (top 59), [], []⟩,
  ⟨("_law_times", none), "_law_times", "_law_times", defArgs (top 60), defBody (top 60), defScope (top 60), [], []⟩,
  ⟨("_law_less", none), "_law_less", "_law_less", defArgs (top 61), defBody (top 61), defScope (top 61), [], []⟩,
  ⟨("_law_total", none), "_law_total", "_law_total", defArgs (top 62), defBody (top 62), defScope (top 62), [], []⟩,
  ⟨("_law_least", none), "_law_least", "_law_least", defArgs (top 63), defBody (top 63), defScope (top 63), [], []⟩,
  ⟨("_law_names", none), "_law_names", "_law_names", defArgs (top 64), defBody (top 64), defScope (top 64), [], []⟩,
  ⟨("_law_length", none), "_law_length", "_law_length", defArgs (top 65), defBody (top 65), defScope (top 65), [], []⟩]
def hfn3 : List He.DefD := [⟨("_law_bare", none), "_law_bare", "_law_bare", defArgs (top 66), defBody (top 66), defScope (top 66), [], []⟩,
  ⟨("_law_closed", none), "_law_closed", "_law_closed", defArgs (top 67), defBody (top 67), defScope (top 67), [], []⟩,
  ⟨("_law_table", none), "_law_table", "_law_table", defArgs (top 68), defBody (top 68), defScope (top 68), [], []⟩,
  ⟨("_law_made", none), "_law_made", "_law_made", defArgs (top 69), defBody (top 69), defScope (top 69), [], []⟩,
  ⟨("_law_told", none), "_law_told", "_law_told", defArgs (top 70), defBody (top 70), defScope (top 70), [], []⟩,
  ⟨("_law_places_of", none), "_law_places_of", "_law_places_of", defArgs (top 71), defBody (top 71), defScope (top 71), [], []⟩,
  ⟨("_law_is_way", none), "_law_is_way", "_law_is_way", defArgs (top 72), defBody (top 72), defScope (top 72), [], []⟩,
  ⟨("_law_spot", none), "_law_spot", "_law_spot", defArgs (top 73), defBody (top 73), defScope (top 73), [], []⟩,
  ⟨("_law_roads", none), "_law_roads", "_law_roads", defArgs (top 74), defBody (top 74), defScope (top 74), [], []⟩,
  ⟨("_law_pair", none), "_law_pair", "_law_pair", defArgs (top 75), defBody (top 75), defScope (top 75), [], []⟩,
  ⟨("_law_put_in", none), "_law_put_in", "_law_put_in", defArgs (top 76), defBody (top 76), defScope (top 76), [], []⟩,
  ⟨("_law_on", none), "_law_on", "_law_on", defArgs (top 77), defBody (top 77), defScope (top 77), [], []⟩]
def hfn4 : List He.DefD := [⟨("_law_layer_step", none), "_law_layer_step", "_law_layer_step", defArgs (top 78), defBody (top 78), defScope (top 78), [], []⟩,
  ⟨("_law_leaf", none), "_law_leaf", "_law_leaf", defArgs (top 79), defBody (top 79), defScope (top 79), [], []⟩,
  ⟨("_law_layer", none), "_law_layer", "_law_layer", defArgs (top 80), defBody (top 80), defScope (top 80), [], []⟩,
  ⟨("_law_some_step", none), "_law_some_step", "_law_some_step", defArgs (top 81), defBody (top 81), defScope (top 81), [], []⟩,
  ⟨("_law_spread_plan", none), "_law_spread_plan", "_law_spread_plan", defArgs (top 82), defBody (top 82), defScope (top 82), [], []⟩,
  ⟨("_law_plain_step", none), "_law_plain_step", "_law_plain_step", defArgs (top 83), defBody (top 83), defScope (top 83), [], []⟩,
  ⟨("law", none), "law", "law", defArgs (top 84), defBody (top 84), defScope (top 84), [], []⟩,
  ⟨("World", some "__init__"), "__init__", "World.__init__", defArgs (mtop 40 1), defBody (mtop 40 1), defScope (mtop 40 1), [], [("cart", .non)]⟩,
  ⟨("World", some "names"), "names", "World.names", defArgs (mtop 40 4), defBody (mtop 40 4), defScope (mtop 40 4), [], []⟩,
  ⟨("World", some "place"), "place", "World.place", defArgs (mtop 40 5), defBody (mtop 40 5), defScope (mtop 40 5), [], []⟩,
  ⟨("World", some "table"), "table", "World.table", defArgs (mtop 40 6), defBody (mtop 40 6), defScope (mtop 40 6), [.str "foot"], []⟩,
  ⟨("World", some "rows_of"), "rows_of", "World.rows_of", defArgs (mtop 40 7), defBody (mtop 40 7), defScope (mtop 40 7), [], []⟩]
def hfn5 : List He.DefD := [⟨("World", some "__contains__"), "__contains__", "World.__contains__", defArgs (mtop 40 13), defBody (mtop 40 13), defScope (mtop 40 13), [], []⟩,
  ⟨("Exact", some "joined"), "joined", "Exact.joined", defArgs (mtop 46 0), defBody (mtop 46 0), defScope (mtop 46 0), [], []⟩,
  ⟨("Exact", some "least"), "least", "Exact.least", defArgs (mtop 46 1), defBody (mtop 46 1), defScope (mtop 46 1), [], []⟩,
  ⟨("Exact", some "scaled"), "scaled", "Exact.scaled", defArgs (mtop 46 2), defBody (mtop 46 2), defScope (mtop 46 2), [], []⟩,
  ⟨("Exact", some "fixed"), "fixed", "Exact.fixed", defArgs (mtop 46 3), defBody (mtop 46 3), defScope (mtop 46 3), [], []⟩,
  ⟨("Ways", some "__init__"), "__init__", "Ways.__init__", defArgs (mtop 47 0), defBody (mtop 47 0), defScope (mtop 47 0), [], []⟩,
  ⟨("Ways", some "road"), "road", "Ways.road", defArgs (mtop 47 1), defBody (mtop 47 1), defScope (mtop 47 1), [], []⟩,
  ⟨("Ways", some "put"), "put", "Ways.put", defArgs (mtop 47 2), defBody (mtop 47 2), defScope (mtop 47 2), [], []⟩,
  ⟨("Ways", some "turn"), "turn", "Ways.turn", defArgs (mtop 47 3), defBody (mtop 47 3), defScope (mtop 47 3), [], []⟩,
  ⟨("Ways", some "each"), "each", "Ways.each", defArgs (mtop 47 4), defBody (mtop 47 4), defScope (mtop 47 4), [], []⟩,
  ⟨("Ways", some "step"), "step", "Ways.step", defArgs (mtop 47 5), defBody (mtop 47 5), defScope (mtop 47 5), [], []⟩,
  ⟨("Ways", some "layer_step"), "layer_step", "Ways.layer_step", defArgs (mtop 47 6), defBody (mtop 47 6), defScope (mtop 47 6), [], []⟩]
def hfnAll : List He.DefD := hfn0 ++ (hfn1 ++ (hfn2 ++ (hfn3 ++ (hfn4 ++ (hfn5)))))
def hfa0 : List He.Fa := [.glo "is_whole",
  .glo "is_number",
  .glo "is_ratio",
  .glo "is_valued",
  .glo "lowest",
  .glo "ratio_of",
  .glo "plus",
  .glo "times",
  .glo "below",
  .glo "lesser",
  .glo "is_name",
  .glo "is_layer"]
def hfa1 : List He.Fa := [.glo "is_square",
  .glo "first_fault",
  .glo "checked_table",
  .glo "checked_places",
  .glo "fits",
  .glo "is_leaf",
  .glo "names_in",
  .glo "ways_in",
  .glo "world_of",
  .glo "names_behind",
  .glo "changed",
  .glo "_law_source"]
def hfa2 : List He.Fa := [.glo "_law_draw",
  .glo "_law_of",
  .glo "_law_mixed",
  .glo "_law_same",
  .glo "_law_low",
  .glo "_law_plus",
  .glo "_law_times",
  .glo "_law_less",
  .glo "_law_total",
  .glo "_law_least",
  .glo "_law_names",
  .glo "_law_length"]
def hfa3 : List He.Fa := [.glo "_law_bare",
  .glo "_law_closed",
  .glo "_law_table",
  .glo "_law_made",
  .glo "_law_told",
  .glo "_law_places_of",
  .glo "_law_is_way",
  .glo "_law_spot",
  .glo "_law_roads",
  .glo "_law_pair",
  .glo "_law_put_in",
  .glo "_law_on"]
def hfa4 : List He.Fa := [.glo "_law_layer_step",
  .glo "_law_leaf",
  .glo "_law_layer",
  .glo "_law_some_step",
  .glo "_law_spread_plan",
  .glo "_law_plain_step",
  .glo "law",
  .glo "ZERO",
  .glo "LAYERS",
  .glo "FORMS",
  .glo "World",
  .glo "Ways"]
def hfa5 : List He.Fa := [.glo "Exact",
  .free "len",
  .free "range",
  .free "isinstance",
  .free "int",
  .free "bool",
  .free "str",
  .free "list",
  .free "tuple",
  .free "dict",
  .free "sorted",
  .free "zip"]
def hfa6 : List He.Fa := [.free "all",
  .free "any",
  .free "abs",
  .free "repr",
  .int "MOST_NAMED" 5,
  .int "MOST_PLACES" 9,
  .str "LETTERS" "abcdefghijklmnopqrstuvwxyz",
  .cls "World",
  .cls "Ways",
  .cls "Exact",
  .noat "World" "own_tables",
  .noat "World" "own_names"]
def hfa7 : List He.Fa := [.noat "Ways" "reckoner",
  .noat "Ways" "spots",
  .noat "Ways" "tables",
  .meth "World" "__init__",
  .meth "World" "names",
  .meth "World" "place",
  .meth "World" "table",
  .meth "World" "rows_of",
  .meth "World" "__contains__",
  .meth "Exact" "joined",
  .meth "Exact" "least",
  .meth "Exact" "scaled"]
def hfa8 : List He.Fa := [.meth "Exact" "fixed",
  .meth "Ways" "__init__",
  .meth "Ways" "road",
  .meth "Ways" "put",
  .meth "Ways" "turn",
  .meth "Ways" "each",
  .meth "Ways" "step",
  .meth "Ways" "layer_step",
  .mkr "World",
  .mkr "Ways"]
def hfaAll : List He.Fa := hfa0 ++ (hfa1 ++ (hfa2 ++ (hfa3 ++ (hfa4 ++ (hfa5 ++ (hfa6 ++ (hfa7 ++ (hfa8))))))))
def hadr0 : List Addr := [3,
  286,
  293,
  300,
  307,
  314,
  321,
  328,
  335,
  342,
  349,
  356,
  357,
  362,
  370,
  382,
  387,
  392,
  397,
  530]
def hadr1 : List Addr := [535,
  542,
  548,
  553,
  591,
  650,
  659,
  664,
  669,
  674,
  681,
  688,
  695,
  702,
  709,
  716,
  723,
  730,
  737,
  744]
def hadr2 : List Addr := [751,
  756,
  763,
  770,
  775,
  780,
  785,
  790,
  797,
  802,
  809,
  814,
  821,
  826,
  831,
  838,
  843,
  850,
  857,
  862]
def hadr3 : List Addr := [867,
  872,
  292,
  299,
  306,
  313,
  320,
  327,
  334,
  341,
  348,
  355,
  361,
  369,
  363,
  381,
  386,
  391,
  396,
  529]
def hadr4 : List Addr := [541,
  547,
  543,
  552,
  590,
  649,
  658,
  663,
  668,
  673,
  680,
  687,
  694,
  701,
  708,
  715,
  722,
  729,
  736,
  743]
def hadr5 : List Addr := [750,
  755,
  762,
  769,
  774,
  779,
  784,
  789,
  796,
  801,
  808,
  813,
  820,
  825,
  830,
  837,
  842,
  849,
  856,
  861]
def hadr6 : List Addr := [866,
  871,
  412,
  420,
  428,
  435,
  442,
  448,
  455,
  499,
  567,
  574,
  581,
  588,
  609,
  616,
  623,
  628,
  633,
  640]
def hadr7 : List Addr := [647,
  411,
  405,
  419,
  427,
  434,
  441,
  447,
  443,
  454,
  498,
  566,
  573,
  580,
  587,
  608,
  615,
  622,
  627,
  632]
def hadr8 : List Addr := [639,
  646,
  418,
  426]
def hadrAll : List Addr := hadr0 ++ (hadr1 ++ (hadr2 ++ (hadr3 ++ (hadr4 ++ (hadr5 ++ (hadr6 ++ (hadr7 ++ (hadr8))))))))
def hts : List He.Tab := [((fun K => ga K "FORMS"), ["road", "place", "same", "forget", "cap", "scale", "turn", "round", "ride"])]
def htf : List He.Defn := [("_law_layer_step", none), ("Ways", some "layer_step")]
def hmarks : List (Str × He.Dv) := [("road", .str "lnnk"), ("place", .str "nnkk"), ("same", .str "nn"), ("forget", .str "n"), ("cap", .str "lk"), ("scale", .str "lq"), ("turn", .str ""), ("round", .str "l"), ("ride", .str "lnnk")]
def hex (K : PySem.W.Frag) : Bool := He.eqO (PySem.W.nsIn K mainGlobals "gcd") (some (some (.builtin "math.gcd"))) && (He.tupB K "ZERO" [.int 0, .int 1] && (He.tupB K "LAYERS" [.str "foot", .str "cart"] && ((match K.lookup (ga K "LAYERS") with
    | some ⟨.type c, none, _, _⟩ => decide (c = "tuple")
    | _ => false) && (He.valsB K (ga K "FORMS") hmarks && (PySem.W.makesIn K (ga K "Exact") && (He.eqO (PySem.W.findIn K (.ref (ga K "Exact")) "__init__") (some (some (.builtin "object.__init__"))) && (PySem.W.keepIn K (.ref (ga K "Exact")) &&
    (prB K "size" "World.size" && (prB K "layers" "World.layers" && decide ((He.cT K ("_law_layer_step", none)).2 ≠ (He.cT K ("Ways", some "layer_step")).2))))))))))
def hpr (K : PySem.W.Frag) : List He.FnW := [fnAtW K (pgA K "size"), fnAtW K (pgA K "layers")]
def hprV : List He.FnW := [prV "size" "World.size" (mtop 40 2), prV "layers" "World.layers" (mtop 40 3)]
/-- what is told of a heap -/
def Told (w : World) (h : Heap) (K : PySem.W.Frag) : Prop := He.SaysX hfaAll hfnAll hts htf hex w h K ∧ hpr K = hprV
def obsK (K : PySem.W.Frag) (t : Bool) : He.AlX × List He.FnW := ((He.obsT hfaAll hfnAll hts K, hex K && t), hpr K)
def obsH (g : Addr → Option Obj) : He.AlX × List He.FnW := (fun K => obsK K (He.tabsB g htf K)) (He.frT g hadrAll)
theorem told_of {w : World} {h : Heap} (e : obsH h.get? = (He.valX hfnAll hts w, hprV)) : Told w h (He.frT h.get? hadrAll) := by
  generalize hK : He.frT h.get? hadrAll = K
  have e0 : obsK K (He.tabsB h.get? htf K) = (He.valX hfnAll hts w, hprV) := by rw [← hK]; exact e
  have e1 : He.obsT hfaAll hfnAll hts K = He.valT hfnAll hts w := congrArg (fun z : He.AlX × List He.FnW => z.1.1) e0
  have e2 : (hex K && He.tabsB h.get? htf K) = true := congrArg (fun z : He.AlX × List He.FnW => z.1.2) e0
  have e3 : hpr K = hprV := congrArg (fun z : He.AlX × List He.FnW => z.2) e0
  obtain ⟨h1, h2⟩ := He.ba e2
  have key : ∀ p ∈ htf, PySem.W.codeHdIn K (He.cT K p).1 (He.cT K p).2 = true ∧ ∃ o, h.get? (He.cT K p).2 = some o ∧ He.emptyTab o = true := fun p hp => by
    obtain ⟨h3, h4⟩ := He.ba (List.all_eq_true.mp h2 p hp)
    refine ⟨h3, ?_⟩
    cases q : h.get? (He.cT K p).2 with
    | none =>
      rw [q] at h4
      cases h4
    | some o =>
      rw [q] at h4
      exact ⟨o, rfl, h4⟩
  refine ⟨⟨e1, h1, fun p hp => (key p hp).1, fun p hp => ?_, fun p hp => ?_⟩, e3⟩
  · obtain ⟨_, o, q, z⟩ := key p hp
    rw [← hK] at q ⊢
    exact He.frT_none q z
  · obtain ⟨_, o, q, z⟩ := key p hp
    rw [q, He.emptyTab_eq z]
def hkH : PySem.W.Hook where
  α := He.AlX × List He.FnW
  obs := fun s => obsH s.heap.get?
  val := fun w => (He.valX hfnAll hts w, hprV)
  says := fun w h => ∃ K : PySem.W.Frag, K.In h ∧ Told w h K
  of := fun _ _ e => ⟨_, He.frT_in, told_of e⟩
  keeps := fun _ _ _ ⟨K, hK, c, c2⟩ k => ⟨K, PySem.W.Frag.In.keeps hK k, ⟨c.t, c.more, c.hd, c.out, fun p hp => k _ _ (c.empty p hp)⟩, c2⟩
def obH (s : PySem.W.SharedT) : He.AlX × List He.FnW := obsH (HandSHeadRun.getT s)
theorem obH_eq (s : PySem.W.SharedT) : obH s = hkH.obs s.abs := by
  have e : HandSHeadRun.getT s = s.abs.heap.get? := funext (HandSHeadRun.getT_eq s)
  show obsH _ = obsH _
  rw [e]
abbrev RowH : PySem.W.OpenRow := PySem.W.OpenLaw.row PySem.Challenge.rw_missingmiles_k20_whole_rows_of_steps

def hl0 : List Str := ["_wall", "MilesError", "Missing", "InvalidRatio", "InvalidName", "DuplicateName", "InvalidLayer", "InvalidTable", "InvalidWay", "InvalidPlace", "InvalidStep", "TooMany", "UnknownName"]
def hl1 : List Str := ["ZERO", "is_whole", "is_number", "is_ratio", "is_valued", "lowest", "ratio_of", "plus", "times", "below", "lesser", "LETTERS", "LAYERS", "MOST_NAMED"]
def hl2 : List Str := ["is_name", "is_layer", "names_text", "MOST_PLACES", "is_square", "first_fault", "checked_table", "checked_places", "World", "FORMS", "fits", "is_leaf", "names_in", "Exact"]
def hl3 : List Str := ["Ways", "ways_in", "world_of", "names_behind", "changed", "_law_source", "_law_draw", "_law_of", "_law_mixed", "_law_same", "_law_low", "_law_plus", "_law_times", "_law_less"]
def hl4 : List Str := ["_law_total", "_law_least", "_law_names", "_law_length", "_law_bare", "_law_closed", "_law_table", "_law_made", "_law_told", "_law_places_of", "_law_is_way", "_law_spot", "_law_roads", "_law_pair"]
def hl5 : List Str := ["_law_put_in", "_law_on", "_law_layer_step", "_law_leaf", "_law_layer", "_law_some_step", "_law_spread_plan", "_law_plain_step"]
def hloose : List Str := hl0 ++ (hl1 ++ (hl2 ++ (hl3 ++ (hl4 ++ hl5))))

end Dl
end
/-! ## HdRfalse -/
section
set_option maxRecDepth 100000
set_option maxHeartbeats 0
namespace Dl
open PySem PySem.Spec PyProof.Rows L2
theorem run_false (w : World) : HandSHeadRun.RunEqI RowH (PySem.W.view RowH.prog [0, 84]) hkH obH 8000 hloose (w.withFollow "special-get-raises" false) := by
  unfold HandSHeadRun.RunEqI
  kernel_rfl
end Dl
end
/-! ## HdRtrue -/
section
set_option maxRecDepth 100000
set_option maxHeartbeats 0
namespace Dl
open PySem PySem.Spec PyProof.Rows L2
theorem run_true (w : World) : HandSHeadRun.RunEqI RowH (PySem.W.view RowH.prog [0, 84]) hkH obH 8000 hloose (w.withFollow "special-get-raises" true) := by
  unfold HandSHeadRun.RunEqI
  kernel_rfl
end Dl
end
/-! ## Kt1 -/
section
/-! ratios -/
namespace Mx
theorem log2_mono {a b : Nat} (h : a ≤ b) : a.log2 ≤ b.log2 := by
  by_cases ha : a = 0
  · subst ha; exact Nat.zero_le _
  · have hb : b ≠ 0 := by omega
    have h1 := Nat.log2_self_le ha
    have h2 : 2 ^ a.log2 ≤ b := Nat.le_trans h1 h
    exact (Nat.le_log2 hb).mpr h2
theorem log2_mul (a b : Nat) : (a * b).log2 ≤ a.log2 + b.log2 + 1 := by
  by_cases h : a * b = 0
  · rw [h]; exact Nat.zero_le _
  · have ha : a ≠ 0 := fun z => h (by rw [z, Nat.zero_mul])
    have hb : b ≠ 0 := fun z => h (by rw [z, Nat.mul_zero])
    have h1 : a < 2 ^ (a.log2 + 1) := Nat.lt_log2_self
    have h2 : b < 2 ^ (b.log2 + 1) := Nat.lt_log2_self
    have h3 : a * b < 2 ^ (a.log2 + 1) * 2 ^ (b.log2 + 1) := Nat.mul_lt_mul'' h1 h2
    rw [← Nat.pow_add] at h3
    have h4 := (Nat.log2_lt h).mpr h3
    omega
theorem log2_add (a b : Nat) : (a + b).log2 ≤ a.log2 + b.log2 + 1 := by
  by_cases h : a + b = 0
  · rw [h]; exact Nat.zero_le _
  · have h1 : a < 2 ^ (a.log2 + 1) := Nat.lt_log2_self
    have h2 : b < 2 ^ (b.log2 + 1) := Nat.lt_log2_self
    have h5 : 2 ^ (a.log2 + 1) ≤ 2 ^ (a.log2 + b.log2 + 1) := Nat.pow_le_pow_right (by omega) (by omega)
    have h6 : 2 ^ (b.log2 + 1) ≤ 2 ^ (a.log2 + b.log2 + 1) := Nat.pow_le_pow_right (by omega) (by omega)
    have h3 : a + b < 2 ^ (a.log2 + b.log2 + 2) := by
      rw [Nat.pow_succ]
      omega
    have h4 := (Nat.log2_lt h).mpr h3
    omega
/-- the size of a ratio's numbers -/
def Fit (q : Rat) : Prop := q.num.natAbs.log2 < 1000 ∧ q.den.log2 < 1000
theorem fit_zero : Fit 0 := by constructor <;> decide
theorem log2_imul (a b : Int) : (a * b).natAbs.log2 ≤ a.natAbs.log2 + b.natAbs.log2 + 1 := by
  rw [Int.natAbs_mul]
  exact log2_mul _ _
theorem log2_iadd (a b : Int) : (a + b).natAbs.log2 ≤ a.natAbs.log2 + b.natAbs.log2 + 1 :=
  Nat.le_trans (log2_mono (Int.natAbs_add_le a b)) (log2_add _ _)
/-- the pair of a top and a bottom in lowest terms -/
theorem low_num (t b : Int) (hb : 0 < b) : (mkRat t b.toNat).num = t / ((Nat.gcd t.natAbs b.natAbs : Nat) : Int) := by
  rw [Rat.num_mkRat, if_neg (by omega), Nat.gcd_comm]
  rw [show b.toNat = b.natAbs by omega]
theorem low_den (t b : Int) (hb : 0 < b) : ((mkRat t b.toNat).den : Int) = b / ((Nat.gcd t.natAbs b.natAbs : Nat) : Int) := by
  rw [Rat.den_mkRat, if_neg (by omega), Nat.gcd_comm, show b.toNat = b.natAbs by omega]
  rw [Int.natCast_ediv]
  congr 1
  omega
theorem add_eq (p q : Rat) : p + q = mkRat (p.num * q.den + q.num * p.den) ((p.den : Int) * q.den).toNat := by
  rw [Rat.add_def']
  congr 1
theorem mul_eq (p q : Rat) : p * q = mkRat (p.num * q.num) ((p.den : Int) * q.den).toNat := by
  rw [Rat.mul_def']
  congr 1
theorem den_pos (q : Rat) : (0 : Int) < q.den := by
  have := q.den_pos
  omega
/-- with one bottom -/
theorem add_same (p q : Rat) (h : p.den = q.den) : p + q = mkRat (p.num + q.num) p.den := by
  rw [Rat.add_def']
  rw [← h]
  have := Rat.mkRat_mul_right (n := p.num + q.num) (d := p.den) (a := p.den) (Nat.pos_iff_ne_zero.mp p.den_pos)
  rw [← this]
  congr 1
  rw [Int.add_mul]
theorem mk_one (t : Int) : (mkRat t 1).num = t ∧ (mkRat t 1).den = 1 := by
  rw [Rat.num_mkRat, Rat.den_mkRat]
  simp
theorem gcd_div (t b : Int) (hb : 0 < b) : (0 : Int) < ((Nat.gcd t.natAbs b.natAbs : Nat) : Int) ∧ (Nat.gcd t.natAbs b.natAbs) ≤ b.natAbs := by
  have h1 : 0 < b.natAbs := by omega
  have h2 := Nat.gcd_pos_of_pos_right t.natAbs h1
  have h3 := Nat.gcd_le_right t.natAbs h1
  omega
theorem ofNat_num (t : Int) : (mkRat t 1).num = t := (mk_one t).1
theorem lt_dec (p q : Rat) : decide (p.num * q.den < q.num * p.den) = decide (p < q) := by
  rw [decide_eq_decide]
  exact (Rat.lt_iff p q).symm
theorem fit_add_num {p q : Rat} (hp : Fit p) (hq : Fit q) : ((p.num * q.den + q.num * p.den).natAbs).log2 < 9000 := by
  have h1 := log2_iadd (p.num * q.den) (q.num * p.den)
  have h2 := log2_imul p.num q.den
  have h3 := log2_imul q.num p.den
  have := hp.1; have := hp.2; have := hq.1; have := hq.2
  simp only [Int.natAbs_natCast] at h2 h3
  omega
theorem fit_den {p q : Rat} (hp : Fit p) (hq : Fit q) : (((p.den : Int) * q.den).natAbs).log2 < 9000 := by
  have h2 := log2_imul p.den q.den
  have := hp.2; have := hq.2
  simp only [Int.natAbs_natCast] at h2
  omega
theorem den_mul_pos (p q : Rat) : (0 : Int) < (p.den : Int) * q.den := Int.mul_pos (den_pos p) (den_pos q)
/-- a product may be formed -/
theorem fit_nd {p q : Rat} (hp : Fit p) (hq : Fit q) : (p.num.natAbs).log2 + ((q.den : Int).natAbs).log2 < 1000000 := by
  have := hp.1; have := hq.2
  simp only [Int.natAbs_natCast]
  omega
theorem fit_dd {p q : Rat} (hp : Fit p) (hq : Fit q) : ((p.den : Int).natAbs).log2 + ((q.den : Int).natAbs).log2 < 1000000 := by
  have := hp.2; have := hq.2
  simp only [Int.natAbs_natCast]
  omega
theorem fit_nn {p q : Rat} (hp : Fit p) (hq : Fit q) : (p.num.natAbs).log2 + (q.num.natAbs).log2 < 1000000 := by
  have := hp.1; have := hq.1
  omega
end Mx
end
/-! ## Kt2 -/
section
namespace Mx
/-- a length of level l: in sixtieths and so on, not too long -/
def lvN (l : Nat) : Nat := 60 * 6 ^ l
def Lv (l : Nat) (q : Rat) : Prop := ∃ z : Nat, q * (lvN l : Rat) = (z : Rat) ∧ z ≤ 10 ^ (10 + 2 * l)
theorem lvN_pos (l : Nat) : 0 < lvN l := Nat.mul_pos (by decide) (Nat.pow_pos (by decide))
theorem lvN_succ (l : Nat) : lvN (l + 1) = 6 * lvN l := by unfold lvN; rw [Nat.pow_succ]; omega
theorem lvN_ne (l : Nat) : (lvN l : Rat) ≠ 0 := by
  have := lvN_pos l
  intro h
  have h2 : ((lvN l : Nat) : Rat) = ((0 : Nat) : Rat) := by rw [h]; rfl
  have := Rat.natCast_inj.mp h2
  omega
theorem lv_mk {l : Nat} {q : Rat} {z : Nat} (h : q * (lvN l : Rat) = (z : Rat)) : q = mkRat (z : Int) (lvN l) := by
  rw [Rat.mkRat_eq_div]
  have := lvN_ne l
  have e : ((z : Int) : Rat) = (z : Rat) := rfl
  have e2 : ((lvN l : Int) : Rat) = (lvN l : Rat) := rfl
  grind
theorem lv_fit {l : Nat} {q : Rat} (h : Lv l q) (hl : l ≤ 30) : Fit q := by
  obtain ⟨z, h, hz⟩ := h
  have e := lv_mk h
  have hb : (0 : Int) < (lvN l : Int) := by have := lvN_pos l; omega
  have hn : lvN l ≤ 2 ^ 250 := by
    unfold lvN
    exact Nat.le_trans (Nat.mul_le_mul_left 60 (Nat.pow_le_pow_right (by decide) hl)) (by decide +kernel)
  have hz' : z ≤ 2 ^ 250 := Nat.le_trans hz (Nat.le_trans (Nat.pow_le_pow_right (by decide) (show 10 + 2 * l ≤ 70 by omega)) (by decide +kernel))
  have l9 : (2 ^ 250 : Nat).log2 < 1000 := by rw [Nat.log2_two_pow]; decide
  have e1 := low_num (z : Int) (lvN l : Int) hb
  have e2 := low_den (z : Int) (lvN l : Int) hb
  rw [Int.toNat_natCast] at e1 e2
  constructor
  · rw [e, e1, Int.natAbs_natCast, Int.natAbs_natCast, ← Int.natCast_ediv, Int.natAbs_natCast]
    exact Nat.lt_of_le_of_lt (log2_mono (Nat.le_trans (Nat.div_le_self _ _) hz')) l9
  · rw [Int.natAbs_natCast, Int.natAbs_natCast, ← Int.natCast_ediv] at e2
    rw [e, Int.ofNat_inj.mp e2]
    exact Nat.lt_of_le_of_lt (log2_mono (Nat.le_trans (Nat.div_le_self _ _) hn)) l9
theorem lv_nonneg {l : Nat} {q : Rat} (h : Lv l q) : 0 ≤ q := by
  obtain ⟨z, h, _⟩ := h
  have h1 : (0 : Rat) < (lvN l : Rat) := Rat.natCast_pos.mpr (lvN_pos l)
  have h2 : (0 : Rat) ≤ (z : Rat) := Rat.natCast_nonneg
  rw [← h] at h2
  false_or_by_contra
  rename_i hq
  have hq' : q < 0 := by grind
  have : q * (lvN l : Rat) < 0 * (lvN l : Rat) := (Rat.mul_lt_mul_right h1).mpr hq'
  grind
theorem p10 (l : Nat) : 10 ^ (10 + 2 * (l + 1)) = 100 * 10 ^ (10 + 2 * l) := by
  rw [show 10 + 2 * (l + 1) = (10 + 2 * l) + 2 by omega, Nat.pow_add]
  omega
theorem lv_succ {l : Nat} {q : Rat} (h : Lv l q) : Lv (l + 1) q := by
  obtain ⟨z, h, hz⟩ := h
  refine ⟨6 * z, ?_, ?_⟩
  · rw [lvN_succ, Rat.natCast_mul, Rat.natCast_mul, ← h]
    grind
  · rw [p10]; omega
theorem lv_mono {l m : Nat} {q : Rat} (h : Lv l q) (hm : l ≤ m) : Lv m q := by
  induction hm with
  | refl => exact h
  | step _ ih => exact lv_succ ih
theorem lv_add {l : Nat} {p q : Rat} (h : Lv l p) (k : Lv l q) : Lv (l + 1) (p + q) := by
  obtain ⟨z, h, hz⟩ := h
  obtain ⟨y, k, hy⟩ := k
  refine ⟨6 * (z + y), ?_, ?_⟩
  · rw [lvN_succ, Rat.natCast_mul, Rat.natCast_mul, Rat.natCast_add, ← h, ← k]
    grind
  · rw [p10]; omega
theorem lv_zero (l : Nat) : Lv l 0 := ⟨0, by simp, Nat.zero_le _⟩
theorem lv_mul {l : Nat} {p t : Rat} {y : Nat} (h : Lv l p) (ht : t * 6 = (y : Rat)) (hy : y ≤ 30) : Lv (l + 1) (p * t) := by
  obtain ⟨z, h, hz⟩ := h
  refine ⟨z * y, ?_, ?_⟩
  · rw [lvN_succ, Rat.natCast_mul, Rat.natCast_mul, ← h, ← ht]
    show p * t * ((6 : Nat) * (lvN l : Rat)) = _
    have : ((6 : Nat) : Rat) = 6 := rfl
    rw [this]
    grind
  · rw [p10]
    have := Nat.mul_le_mul hz hy
    omega
def Ml (l : Nat) (q : Rat) : Prop := ∃ z : Nat, q * (lvN l : Rat) = (z : Rat)
theorem Lv.ml {l : Nat} {q : Rat} (h : Lv l q) : Ml l q := by
  obtain ⟨z, h, _⟩ := h
  exact ⟨z, h⟩
theorem ml_add {l : Nat} {p q : Rat} (h : Ml l p) (k : Ml l q) : Ml l (p + q) := by
  obtain ⟨z, h⟩ := h
  obtain ⟨y, k⟩ := k
  exact ⟨z + y, by rw [Rat.natCast_add, ← h, ← k]; grind⟩
def lesR (p q : Rat) : Rat := if q < p then q else p
theorem lv_les {l : Nat} {p q : Rat} (h : Lv l p) (k : Lv l q) : Lv l (lesR p q) := by
  unfold lesR
  split
  · exact k
  · exact h
theorem lv_les_ml {l : Nat} {p q : Rat} (h : Lv l p) (k : Ml l q) : Lv l (lesR p q) := by
  unfold lesR
  split
  · rename_i hq
    obtain ⟨z, h, hz⟩ := h
    obtain ⟨y, k⟩ := k
    refine ⟨y, k, Nat.le_trans (Nat.le_of_lt ?_) hz⟩
    have h1 : (0 : Rat) < (lvN l : Rat) := Rat.natCast_pos.mpr (lvN_pos l)
    have h2 := (Rat.mul_lt_mul_right h1).mpr hq
    rw [h, k] at h2
    exact Rat.natCast_lt_natCast.mp h2
  · exact h
theorem les_le1 (p q : Rat) : lesR p q ≤ p := by unfold lesR; split <;> grind
theorem les_le2 (p q : Rat) : lesR p q ≤ q := by unfold lesR; split <;> grind
theorem le_les {a p q : Rat} (h : a ≤ p) (k : a ≤ q) : a ≤ lesR p q := by unfold lesR; split <;> assumption
theorem les_cases (p q : Rat) : lesR p q = p ∨ lesR p q = q := by unfold lesR; split <;> simp

/-! ### tables -/
abbrev Tab : Type := Nat → Nat → Rat
def LvM (l n : Nat) (f : Tab) : Prop := ∀ i < n, ∀ j < n, Lv l (f i j)
/-- the roads that pass by b -/
def viaT (b : Nat) (f : Tab) : Tab := fun i j => lesR (f i j) (f i b + f b j)
def fwT (f : Tab) : Nat → Tab
  | 0 => f
  | k + 1 => viaT k (fwT f k)
theorem LvM.mono {l m n : Nat} {f : Tab} (h : LvM l n f) (k : l ≤ m) : LvM m n f := fun i hi j hj => lv_mono (h i hi j hj) k
structure Met (n : Nat) (f : Tab) : Prop where
  dg : ∀ i < n, f i i = 0
  nn : ∀ i < n, ∀ j < n, 0 ≤ f i j
  tri : ∀ i < n, ∀ b < n, ∀ j < n, f i j ≤ f i b + f b j
end Mx
end
/-! ## Kt3 -/
section
namespace Mx
theorem les_eq1 {p q : Rat} (h : p ≤ q) : lesR p q = p := by unfold lesR; split <;> grind
/-- new ways, by way of one road -/
def roadT (s g : Nat) (len : Rat) (f : Tab) : Tab := fun i j => lesR (f i j) (f i s + len + f g j)
def capT (c : Rat) (f : Tab) : Tab := fun i j => lesR (f i j) c
def mulT (t : Rat) (f : Tab) : Tab := fun i j => f i j * t
def sumT (f : Tab) : Tab := fun i j => f i j + f j i
def turnT (f : Tab) : Tab := fun i j => f j i
def putT (n b : Nat) (x y : Rat) (f : Tab) : Tab := fun i j => if i < n then (if j < n then f i j else f i b + x) else (if j < n then y + f b j else 0)
section
variable {n l : Nat} {f : Tab}
theorem via_road (b : Nat) (i j : Nat) : viaT b f i j = roadT b b 0 f i j := by unfold viaT roadT; congr 1; grind
/-- f is a way through the places below m -/
def TriB (m n : Nat) (f : Tab) : Prop := ∀ i < n, ∀ b < m, ∀ j < n, f i j ≤ f i b + f b j
theorem fw_step {m : Nat} (hm : m < n) (dg : ∀ i < n, f i i = 0) (nn : ∀ i < n, ∀ j < n, 0 ≤ f i j) (tri : TriB m n f) : (∀ i < n, viaT m f i i = 0) ∧ (∀ i < n, ∀ j < n, 0 ≤ viaT m f i j) ∧ TriB (m + 1) n (viaT m f) := by
  refine ⟨fun i hi => ?_, fun i hi j hj => ?_, fun i hi b hb j hj => ?_⟩
  · unfold viaT
    rw [dg i hi, les_eq1]
    have := nn i hi m hm
    have := nn m hm i hi
    grind
  · unfold viaT
    refine le_les (nn i hi j hj) ?_
    have := nn i hi m hm
    have := nn m hm j hj
    grind
  · have hmm := dg m hm
    have a1 := les_le1 (f i j) (f i m + f m j)
    have a2 := les_le2 (f i j) (f i m + f m j)
    have n1 := nn i hi m hm
    have n2 := nn m hm j hj
    by_cases hbm : b = m
    · subst hbm
      show lesR _ _ ≤ lesR _ _ + lesR _ _
      rw [les_eq1 (show f i b ≤ f i b + f b b by grind), les_eq1 (show f b j ≤ f b b + f b j by grind)]
      exact a2
    · have hb' : b < m := by omega
      have hbn : b < n := by omega
      have t1 := tri i hi b hb' j hj
      have t2 := tri m hm b hb' j hj
      have t3 := tri i hi b hb' m hm
      have n3 := nn m hm b hbn
      have n4 := nn b hbn m hm
      show lesR _ _ ≤ lesR _ _ + lesR _ _
      rcases les_cases (f i b) (f i m + f m b) with e | e <;> rcases les_cases (f b j) (f b m + f m j) with e' | e' <;> rw [e, e'] <;> grind
theorem fw_met (dg : ∀ i < n, f i i = 0) (nn : ∀ i < n, ∀ j < n, 0 ≤ f i j) : Met n (fwT f n) := by
  have h : ∀ m, m ≤ n → (∀ i < n, fwT f m i i = 0) ∧ (∀ i < n, ∀ j < n, 0 ≤ fwT f m i j) ∧ TriB m n (fwT f m) := by
    intro m
    induction m with
    | zero => exact fun _ => ⟨dg, nn, fun _ _ b hb => by omega⟩
    | succ m ih =>
      intro hm
      obtain ⟨h1, h2, h3⟩ := ih (by omega)
      exact fw_step (by omega) h1 h2 h3
  obtain ⟨h1, h2, h3⟩ := h n (Nat.le_refl _)
  exact ⟨h1, h2, h3⟩
theorem fw_lv (h : LvM l n f) : ∀ m, m ≤ n → LvM l n (fwT f m)
  | 0, _ => h
  | m + 1, hm => fun i hi j hj => by
    have ih := fw_lv h m (by omega)
    exact lv_les_ml (ih i hi j hj) (ml_add (ih i hi m (by omega)).ml (ih m (by omega) j hj).ml)
theorem road_met {s g : Nat} {len : Rat} (h : Met n f) (hs : s < n) (hg : g < n) (hl : 0 ≤ len) : Met n (roadT s g len f) := by
  refine ⟨fun i hi => ?_, fun i hi j hj => ?_, fun i hi b hb j hj => ?_⟩
  · unfold roadT
    rw [h.dg i hi, les_eq1]
    have := h.nn i hi s hs
    have := h.nn g hg i hi
    grind
  · unfold roadT
    refine le_les (h.nn i hi j hj) ?_
    have := h.nn i hi s hs
    have := h.nn g hg j hj
    grind
  · have a1 := les_le1 (f i j) (f i s + len + f g j)
    have a2 := les_le2 (f i j) (f i s + len + f g j)
    have t1 := h.tri i hi b hb j hj
    have t2 := h.tri g hg b hb j hj
    have t3 := h.tri i hi b hb s hs
    have n3 := h.nn g hg b hb
    have n4 := h.nn b hb s hs
    show lesR _ _ ≤ lesR _ _ + lesR _ _
    rcases les_cases (f i b) (f i s + len + f g b) with e | e <;> rcases les_cases (f b j) (f b s + len + f g j) with e' | e' <;> rw [e, e'] <;> grind
theorem road_lv {s g : Nat} {len : Rat} (h : LvM l n f) (hs : s < n) (hg : g < n) (hl : Lv l len) : LvM l n (roadT s g len f) := fun i hi j hj =>
  lv_les_ml (h i hi j hj) (ml_add (ml_add (h i hi s hs).ml hl.ml) (h g hg j hj).ml)
theorem road_dg {s g : Nat} {len : Rat} (h : Met n f) (hs : s < n) (hg : g < n) (hl : 0 ≤ len) {i : Nat} (hi : i < n) : roadT s g len f i i = f i i := by
  rw [(road_met h hs hg hl).dg i hi, h.dg i hi]
theorem cap_met {c : Rat} (h : Met n f) (hc : 0 ≤ c) : Met n (capT c f) := by
  refine ⟨fun i hi => ?_, fun i hi j hj => le_les (h.nn i hi j hj) hc, fun i hi b hb j hj => ?_⟩
  · unfold capT
    rw [h.dg i hi, les_eq1 hc]
  · have a1 := les_le1 (f i j) c
    have a2 := les_le2 (f i j) c
    have t1 := h.tri i hi b hb j hj
    have n1 := h.nn i hi b hb
    have n2 := h.nn b hb j hj
    show lesR _ _ ≤ lesR _ _ + lesR _ _
    rcases les_cases (f i b) c with e | e <;> rcases les_cases (f b j) c with e' | e' <;> rw [e, e'] <;> grind
theorem cap_lv {c : Rat} (h : LvM l n f) (hc : Lv l c) : LvM l n (capT c f) := fun i hi j hj => lv_les (h i hi j hj) hc
theorem mul_met {t : Rat} (h : Met n f) (ht : 0 < t) : Met n (mulT t f) := by
  refine ⟨fun i hi => ?_, fun i hi j hj => ?_, fun i hi b hb j hj => ?_⟩
  · unfold mulT
    rw [h.dg i hi]
    grind
  · exact Rat.mul_nonneg (h.nn i hi j hj) (by grind)
  · show f i j * t ≤ f i b * t + f b j * t
    have := Rat.mul_le_mul_of_nonneg_right (h.tri i hi b hb j hj) (show 0 ≤ t by grind)
    grind
theorem mul_lv {t : Rat} {y : Nat} (h : LvM l n f) (ht : t * 6 = (y : Rat)) (hy : y ≤ 30) : LvM (l + 1) n (mulT t f) := fun i hi j hj => lv_mul (h i hi j hj) ht hy
theorem sum_met (h : Met n f) : Met n (sumT f) := by
  refine ⟨fun i hi => ?_, fun i hi j hj => ?_, fun i hi b hb j hj => ?_⟩
  · unfold sumT
    rw [h.dg i hi]
    grind
  · have := h.nn i hi j hj
    have := h.nn j hj i hi
    show 0 ≤ f i j + f j i
    grind
  · have := h.tri i hi b hb j hj
    have := h.tri j hj b hb i hi
    show f i j + f j i ≤ f i b + f b i + (f b j + f j b)
    grind
theorem sum_lv (h : LvM l n f) : LvM (l + 1) n (sumT f) := fun i hi j hj => lv_add (h i hi j hj) (h j hj i hi)
theorem turn_met (h : Met n f) : Met n (turnT f) := ⟨h.dg, fun i hi j hj => h.nn j hj i hi, fun i hi b hb j hj => by
  have := h.tri j hj b hb i hi
  show f j i ≤ f b i + f j b
  grind⟩
theorem turn_lv (h : LvM l n f) : LvM l n (turnT f) := fun i hi j hj => h j hj i hi
theorem put_met {b : Nat} {x y : Rat} (h : Met n f) (hb : b < n) (hx : 0 ≤ x) (hy : 0 ≤ y) : Met (n + 1) (putT n b x y f) := by
  refine ⟨fun i hi => ?_, fun i hi j hj => ?_, fun i hi c hc j hj => ?_⟩
  · unfold putT
    by_cases h1 : i < n
    · rw [if_pos h1, if_pos h1]; exact h.dg i h1
    · rw [if_neg h1, if_neg h1]
  · unfold putT
    by_cases h1 : i < n <;> by_cases h2 : j < n
    · rw [if_pos h1, if_pos h2]; exact h.nn i h1 j h2
    · rw [if_pos h1, if_neg h2]; have := h.nn i h1 b hb; grind
    · rw [if_neg h1, if_pos h2]; have := h.nn b hb j h2; grind
    · rw [if_neg h1, if_neg h2]; grind
  · unfold putT
    by_cases h1 : i < n <;> by_cases h2 : j < n <;> by_cases h3 : c < n
    · simp only [h1, h2, h3, ↓reduceIte]; exact h.tri i h1 c h3 j h2
    · simp only [h1, h2, h3, ↓reduceIte]; have := h.tri i h1 b hb j h2; grind
    · simp only [h1, h2, h3, ↓reduceIte]; have := h.tri i h1 c h3 b hb; grind
    · simp only [h1, h2, h3, ↓reduceIte]; grind
    · simp only [h1, h2, h3, ↓reduceIte]; have := h.tri b hb c h3 j h2; grind
    · simp only [h1, h2, h3, ↓reduceIte]; grind
    · simp only [h1, h2, h3, ↓reduceIte]; have := h.nn b hb c h3; have := h.nn c h3 b hb; grind
    · simp only [h1, h2, h3, ↓reduceIte]; grind
theorem put_lv {b : Nat} {x y : Rat} (h : LvM l n f) (hb : b < n) (hx : Lv l x) (hy : Lv l y) : LvM (l + 1) (n + 1) (putT n b x y f) := fun i hi j hj => by
  unfold putT
  by_cases h1 : i < n <;> by_cases h2 : j < n
  · rw [if_pos h1, if_pos h2]; exact lv_succ (h i h1 j h2)
  · rw [if_pos h1, if_neg h2]; exact lv_add (h i h1 b hb) hx
  · rw [if_neg h1, if_pos h2]; exact lv_add hy (h b hb j h2)
  · rw [if_neg h1, if_neg h2]; exact lv_zero _
end
end Mx
end
/-! ## KtS -/
section
namespace Mx
open PySem PySem.Spec PyProof.Rows
def leS (a b : Str) : Prop := ltCps b.cps.toList a.cps.toList = false
theorem leS_iff {a b : Str} : leS a b ↔ a.cps.toList ≤ b.cps.toList := by
  unfold leS
  rw [ltCps_eq, decide_eq_false_iff_not]
  exact List.not_lt
theorem leS_trans {a b c : Str} (h : leS a b) (k : leS b c) : leS a c := leS_iff.mpr (List.le_trans (leS_iff.mp h) (leS_iff.mp k))
theorem leS_anti {a b : Str} (h : leS a b) (k : leS b a) : a = b := by
  have e := List.le_antisymm (leS_iff.mp h) (leS_iff.mp k)
  cases a; cases b
  congr 1
  exact Array.toList_inj.mp e
theorem rising_pw : ∀ (p : Str) (l : List Str), risingS p l = true → (p :: l).Pairwise leS
  | p, [], _ => by simp
  | p, x :: r, h => by
    obtain ⟨h1, h2⟩ := Bool.and_eq_true_iff.mp (show (!ltCps x.cps.toList p.cps.toList && risingS x r) = true from h)
    have ih := rising_pw x r h2
    have hpx : leS p x := by unfold leS; simpa using h1
    refine List.pairwise_cons.mpr ⟨fun y hy => ?_, ih⟩
    rcases List.mem_cons.mp hy with rfl | hy
    · exact hpx
    · exact leS_trans hpx ((List.pairwise_cons.mp ih).1 y hy)
theorem sorted_pw (l : List Str) (h : sortedS l = true) : l.Pairwise leS := by
  cases l with
  | nil => simp
  | cons x r => exact rising_pw x r h
theorem sorted_of_pw (l : List Str) (h : l.Pairwise leS) : sortedS l = true := sortedS_of_pairwise l h
theorem pw_uniq {α : Type} (le : α → α → Prop) (anti : ∀ a b, le a b → le b a → a = b) : ∀ {xs ys : List α}, xs.Perm ys → xs.Pairwise le → ys.Pairwise le → xs = ys
  | [], ys, p, _, _ => by rw [List.nil_perm.mp p]
  | x :: xs, [], p, _, _ => by simp at p
  | x :: xs, y :: ys, p, hx, hy => by
    obtain ⟨h1, h2⟩ := List.pairwise_cons.mp hx
    obtain ⟨k1, k2⟩ := List.pairwise_cons.mp hy
    have e : x = y := by
      have a : x ∈ y :: ys := p.mem_iff.mp List.mem_cons_self
      have b : y ∈ x :: xs := p.mem_iff.mpr List.mem_cons_self
      rcases List.mem_cons.mp a with e | a
      · exact e
      · rcases List.mem_cons.mp b with e | b
        · exact e.symm
        · exact anti _ _ (h1 y b) (k1 x a)
    subst e
    rw [pw_uniq le anti (List.Perm.cons_inv p) h2 k2]
theorem sorted_uniq {xs ys : List Str} (p : xs.Perm ys) (hx : sortedS xs = true) (hy : sortedS ys = true) : xs = ys := pw_uniq leS (fun _ _ => leS_anti) p (sorted_pw xs hx) (sorted_pw ys hy)
/-- names and where they lie -/
abbrev Nm : Type := List (Str × Nat)
def lettersL : List Nat := "abcdefghijklmnopqrstuvwxyz".toList.map Char.toNat
structure GoodN (s : Str) : Prop where
  lo : 1 ≤ s.length
  hi : s.length ≤ 5
  al : ∀ c ∈ s.cps.toList, c ∈ lettersL
structure NmOk (n : Nat) (nm : Nm) : Prop where
  so : sortedS (nm.map (·.1)) = true
  nd : (nm.map (·.1)).Nodup
  pl : ∀ p ∈ nm, p.2 < n
  pd : (nm.map (·.2)).Nodup
  ln : nm.length ≤ 5
  gd : ∀ p ∈ nm, GoodN p.1
def placeN (nm : Nm) (x : Str) : Option Nat := (nm.find? fun p => decide (p.1 = x)).map (·.2)
theorem place_mem {nm : Nm} (hn : (nm.map (·.1)).Nodup) {p : Str × Nat} (h : p ∈ nm) : placeN nm p.1 = some p.2 := by
  induction nm with
  | nil => simp at h
  | cons q nm ih =>
    rw [List.map_cons, List.nodup_cons] at hn
    unfold placeN
    rw [List.find?_cons]
    rcases List.mem_cons.mp h with rfl | h
    · simp
    · have hne : ¬ q.1 = p.1 := fun e => hn.1 (by rw [e]; exact List.mem_map.mpr ⟨p, h, rfl⟩)
      rw [decide_eq_false hne]
      exact ih hn.2 h
theorem place_of {nm : Nm} {x : Str} {k : Nat} (h : placeN nm x = some k) : (x, k) ∈ nm := by
  unfold placeN at h
  obtain ⟨p, e, rfl⟩ := Option.map_eq_some_iff.mp h
  have := List.find?_some e
  have e2 : p.1 = x := of_decide_eq_true this
  rw [← e2]
  exact List.mem_of_find?_eq_some e
theorem place_none {nm : Nm} {x : Str} : placeN nm x = none ↔ x ∉ nm.map (·.1) := by
  unfold placeN
  rw [Option.map_eq_none_iff, List.find?_eq_none]
  simp
  exact ⟨fun h b hb => h x b hb rfl, fun h a b hm e => h b (e ▸ hm)⟩
end Mx
end
/-! ## DL1 -/
section
set_option maxRecDepth 100000
/-! the data layer: values as data, no heap in sight -/
namespace Dl
open PySem PySem.Spec PyProof.Rows L2

/-- the function that a lambda has made -/
def LamO (f : Addr) (F : NdefX.NF) (b : Expr) : HO := .ext fun h => ∃ pm ctv : Value, h.get? f = some (PySem.W.kla_obj F.name F.qual F.params b F.scope F.cl pm F.c ctv)
/-- data: what a value is worth, whatever stands where. tp: a tuple that the run has made -/
inductive D where
  | non | bl (b : Bool) | int (i : Int) | str (s : Str) | ty (n : String)
  | tup (ds : List D) | tp (ds : List D) | lst (ds : List D) | ll (ds : List D)
  | dK (p : Addr) (ks : List Key) (ds : List D) | dT (p : Addr) (ks : List (List Key)) (ds : List D)
  | ins (C : Addr) (ns : List Str) (ds : List D)
  | ptr (a : Addr)
  | fn (f : Addr) (F : NdefX.NF) (b : Expr) (ws : List (Option V)) (ds : List D)

mutual
def At (K : PySem.W.Frag) (I : Hp) : D → V → Prop
  | .non, v => v = .non
  | .bl b, v => v = .bl b
  | .int i, v => v = .int i
  | .str s, v => v = .str s
  | .ty n, v => v = .ty n
  | .tup ds, v => ∃ p vs, v = .ref p ∧ SqT K I p vs ∧ AtL K I ds vs
  | .tp ds, v => ∃ p vs, v = .ref p ∧ I p = some (.tup vs) ∧ AtL K I ds vs
  | .lst ds, v => ∃ p vs, v = .ref p ∧ I p = some (.lst vs) ∧ AtL K I ds vs
  | .ll ds, v => ∃ p vs, v = .ref p ∧ SqL K I p vs ∧ AtL K I ds vs
  | .dK p ks ds, v => ∃ vs, v = .ref p ∧ I p = some (.dK (ks.zip vs)) ∧ ks.length = ds.length ∧ AtL K I ds vs
  | .dT p ks ds, v => ∃ vs, v = .ref p ∧ I p = some (.dT (ks.zip vs)) ∧ ks.length = ds.length ∧ AtL K I ds vs
  | .ins C ns ds, v => ∃ p dx vs, v = .ref p ∧ I p = some (.ins C dx (ns.zip vs)) ∧ ns.length = ds.length ∧ AtL K I ds vs
  | .ptr a, v => v = .ref a
  | .fn f F b ws ds, v => ∃ us, v = .ref f ∧ I f = some (LamO f F b) ∧ I F.c = some (LamX.CodeO F.c F.qual) ∧ ws = us.map some ∧ AtL K I ds us
def AtL (K : PySem.W.Frag) (I : Hp) : List D → List V → Prop
  | [], vs => vs = []
  | d :: ds, vs => ∃ v r, vs = v :: r ∧ At K I d v ∧ AtL K I ds r
end

abbrev Ex (I I' : Hp) : Prop := ∀ b u, I b = some u → I' b = some u
theorem Ex.refl (I : Hp) : Ex I I := fun _ _ h => h
theorem Ex.trans {I I1 I2 : Hp} (a : Ex I I1) (b : Ex I1 I2) : Ex I I2 := fun c u h => b c u (a c u h)
theorem Ex.rd {I I' : Hp} (e : Ex I I') {a : Addr} {u : HO} (h : Rd I a u) : Rd I' a u := by
  rcases h with h | ⟨o, h⟩
  · exact .inl (e _ _ h)
  · exact .inr ⟨o, e _ _ h⟩
theorem Ex.sqL {K : PySem.W.Frag} {I I' : Hp} (e : Ex I I') {a : Addr} {xs : List V} (h : SqL K I a xs) : SqL K I' a xs := by
  rcases h with h | h
  · exact .inl (e.rd h)
  · exact .inr h
theorem Ex.sqT {K : PySem.W.Frag} {I I' : Hp} (e : Ex I I') {a : Addr} {xs : List V} (h : SqT K I a xs) : SqT K I' a xs := by
  rcases h with h | h
  · exact .inl (e.rd h)
  · exact .inr h

mutual
theorem At.mono {K : PySem.W.Frag} {I I' : Hp} (e : Ex I I') : ∀ (d : D) (v : V), At K I d v → At K I' d v
  | .non, v, h => by unfold At at h ⊢; exact h
  | .bl b, v, h => by unfold At at h ⊢; exact h
  | .int i, v, h => by unfold At at h ⊢; exact h
  | .str s, v, h => by unfold At at h ⊢; exact h
  | .ty n, v, h => by unfold At at h ⊢; exact h
  | .tup ds, v, h => by
    unfold At at h ⊢
    obtain ⟨p, vs, h1, h2, h3⟩ := h
    exact ⟨p, vs, h1, e.sqT h2, AtL.mono e ds vs h3⟩
  | .tp ds, v, h => by
    unfold At at h ⊢
    obtain ⟨p, vs, h1, h2, h3⟩ := h
    exact ⟨p, vs, h1, e _ _ h2, AtL.mono e ds vs h3⟩
  | .lst ds, v, h => by
    unfold At at h ⊢
    obtain ⟨p, vs, h1, h2, h3⟩ := h
    exact ⟨p, vs, h1, e _ _ h2, AtL.mono e ds vs h3⟩
  | .ll ds, v, h => by
    unfold At at h ⊢
    obtain ⟨p, vs, h1, h2, h3⟩ := h
    exact ⟨p, vs, h1, e.sqL h2, AtL.mono e ds vs h3⟩
  | .dK p ks ds, v, h => by
    unfold At at h ⊢
    obtain ⟨vs, h1, h2, h3, h4⟩ := h
    exact ⟨vs, h1, e _ _ h2, h3, AtL.mono e ds vs h4⟩
  | .dT p ks ds, v, h => by
    unfold At at h ⊢
    obtain ⟨vs, h1, h2, h3, h4⟩ := h
    exact ⟨vs, h1, e _ _ h2, h3, AtL.mono e ds vs h4⟩
  | .ins C ns ds, v, h => by
    unfold At at h ⊢
    obtain ⟨p, dx, vs, h1, h2, h3, h4⟩ := h
    exact ⟨p, dx, vs, h1, e _ _ h2, h3, AtL.mono e ds vs h4⟩
  | .ptr a, v, h => by unfold At at h ⊢; exact h
  | .fn f F b ws ds, v, h => by
    unfold At at h ⊢
    obtain ⟨us, h1, h2, h3, h4, h5⟩ := h
    exact ⟨us, h1, e _ _ h2, e _ _ h3, h4, AtL.mono e ds us h5⟩
theorem AtL.mono {K : PySem.W.Frag} {I I' : Hp} (e : Ex I I') : ∀ (ds : List D) (vs : List V), AtL K I ds vs → AtL K I' ds vs
  | [], vs, h => by unfold AtL at h ⊢; exact h
  | d :: ds, vs, h => by
    unfold AtL at h ⊢
    obtain ⟨v, r, h1, h2, h3⟩ := h
    exact ⟨v, r, h1, At.mono e d v h2, AtL.mono e ds r h3⟩
end

section
variable {K : PySem.W.Frag} {I : Hp} {d : D} {v : V} {ds es : List D} {vs ws : List V}
theorem atL_nil : AtL K I [] [] := by unfold AtL; rfl
theorem atL_cons (h : At K I d v) (t : AtL K I ds vs) : AtL K I (d :: ds) (v :: vs) := by
  unfold AtL; exact ⟨v, vs, rfl, h, t⟩
theorem AtL.len : ∀ {ds : List D} {vs : List V}, AtL K I ds vs → vs.length = ds.length
  | [], vs, h => by unfold AtL at h; rw [h]; rfl
  | d :: ds, vs, h => by
    unfold AtL at h
    obtain ⟨v, r, rfl, _, h⟩ := h
    rw [List.length_cons, List.length_cons, AtL.len h]
theorem AtL.get : ∀ {ds : List D} {vs : List V} {i : Nat} {d : D}, AtL K I ds vs → ds[i]? = some d → ∃ v, vs[i]? = some v ∧ At K I d v
  | [], _, _, _, _, e => by simp at e
  | d :: ds, vs, i, d', h, e => by
    unfold AtL at h
    obtain ⟨v, r, rfl, h1, h⟩ := h
    cases i with
    | zero =>
      have e' : d = d' := by simpa using e
      subst e'
      exact ⟨v, rfl, h1⟩
    | succ i =>
      obtain ⟨v', q1, q2⟩ := AtL.get (i := i) h (by simpa using e)
      exact ⟨v', by simpa using q1, q2⟩
theorem AtL.append : ∀ {ds es : List D} {vs ws : List V}, AtL K I ds vs → AtL K I es ws → AtL K I (ds ++ es) (vs ++ ws)
  | [], _, vs, _, h, t => by unfold AtL at h; subst h; exact t
  | d :: ds, es, vs, ws, h, t => by
    unfold AtL at h
    obtain ⟨v, r, rfl, h1, h⟩ := h
    exact atL_cons h1 (AtL.append h t)
theorem AtL.take : ∀ {ds : List D} {vs : List V} (n : Nat), AtL K I ds vs → AtL K I (ds.take n) (vs.take n)
  | _, _, 0, _ => atL_nil
  | [], vs, n + 1, h => by unfold AtL at h; subst h; exact atL_nil
  | d :: ds, vs, n + 1, h => by
    unfold AtL at h
    obtain ⟨v, r, rfl, h1, h⟩ := h
    exact atL_cons h1 (AtL.take n h)
theorem AtL.drop : ∀ {ds : List D} {vs : List V} (n : Nat), AtL K I ds vs → AtL K I (ds.drop n) (vs.drop n)
  | _, _, 0, h => h
  | [], vs, n + 1, h => by unfold AtL at h; subst h; exact atL_nil
  | d :: ds, vs, n + 1, h => by
    unfold AtL at h
    obtain ⟨v, r, rfl, h1, h⟩ := h
    exact AtL.drop n h
theorem at_tup_of_tp (h : At K I (.tp ds) v) : At K I (.tup ds) v := by
  unfold At at h ⊢
  obtain ⟨p, vs, h1, h2, h3⟩ := h
  exact ⟨p, vs, h1, .of h2, h3⟩
theorem at_ll_of_lst (h : At K I (.lst ds) v) : At K I (.ll ds) v := by
  unfold At at h ⊢
  obtain ⟨p, vs, h1, h2, h3⟩ := h
  exact ⟨p, vs, h1, .of h2, h3⟩
end

/-- what a mutable object holds -/
inductive MD where
  | lst (ds : List D) | dK (ks : List Key) (ds : List D) | dT (ks : List (List Key)) (ds : List D)
  | ins (C : Addr) (ns : List Str) (ds : List D)
  | src
/-- the mutable objects; the dicts that are walked -/
structure MS where
  m : List (Addr × MD)
  lk : List Addr

def norm : Option HO → Option HO
  | some (.tbl _) => none
  | some (.frz _ (.dK k)) => some (.dK k)
  | some (.frz _ (.dT k)) => some (.dT k)
  | o => o
/-- the immutable part of a heap: without what is hidden, without the mutable objects, the locks not seen -/
def imm (X : List Addr) (M : MS) (H : Hp) : Hp := fun b => if b ∈ X ∨ b ∈ M.m.map (·.1) then none else norm (H b)

def MdOk (K : PySem.W.Frag) (I : Hp) (o : Option HO) : MD → Prop
  | .lst ds => ∃ vs, o = some (.lst vs) ∧ AtL K I ds vs
  | .dK ks ds => ∃ vs, o = some (.dK (ks.zip vs)) ∧ ks.length = ds.length ∧ AtL K I ds vs
  | .dT ks ds => ∃ vs, o = some (.dT (ks.zip vs)) ∧ ks.length = ds.length ∧ AtL K I ds vs
  | .ins C ns ds => ∃ dx vs, o = some (.ins C dx (ns.zip vs)) ∧ ns.length = ds.length ∧ AtL K I ds vs
  | .src => ∃ (c : Addr) (i r s n : Int) (ns : List Int), o = some (.lst [.ref c, .int i, .int r, .int s, .int n]) ∧ SqL K I c (ns.map V.int) ∧ 0 ≤ i ∧ 0 ≤ r ∧ 0 ≤ s ∧ s < 2147483648 ∧ 0 ≤ n
theorem MdOk.mono {K : PySem.W.Frag} {I I' : Hp} {o : Option HO} (e : Ex I I') : ∀ {m : MD}, MdOk K I o m → MdOk K I' o m
  | .lst ds, h => by obtain ⟨vs, h1, h2⟩ := h; exact ⟨vs, h1, h2.mono e⟩
  | .dK ks ds, h => by obtain ⟨vs, h1, h2, h3⟩ := h; exact ⟨vs, h1, h2, h3.mono e⟩
  | .dT ks ds, h => by obtain ⟨vs, h1, h2, h3⟩ := h; exact ⟨vs, h1, h2, h3.mono e⟩
  | .ins C ns ds, h => by obtain ⟨dx, vs, h1, h2, h3⟩ := h; exact ⟨dx, vs, h1, h2, h3.mono e⟩
  | .src, h => by obtain ⟨c, i, r, s, n, ns, h1, h2, h3⟩ := h; exact ⟨c, i, r, s, n, ns, h1, e.sqL h2, h3⟩
theorem MdOk.ne {K : PySem.W.Frag} {I : Hp} : ∀ {m : MD}, ¬ MdOk K I none m
  | .lst ds, h => by obtain ⟨vs, h1, h2⟩ := h; cases h1
  | .dK ks ds, h => by obtain ⟨vs, h1, h2, h3⟩ := h; cases h1
  | .dT ks ds, h => by obtain ⟨vs, h1, h2, h3⟩ := h; cases h1
  | .ins C ns ds, h => by obtain ⟨dx, vs, h1, h2, h3⟩ := h; cases h1
  | .src, h => by obtain ⟨c, i, r, s, n, ns, h1, h2, h3⟩ := h; cases h1

/-- lists, dicts, instances -/
def datHO : HO → Bool
  | .lst _ => true
  | .dK _ => true
  | .dT _ => true
  | .ins _ _ _ => true
  | _ => false
abbrev Tb : Type := List (Addr × Str)
structure Ok (K : PySem.W.Frag) (T : Tb) (X : List Addr) (M : MS) (H : Hp) : Prop where
  nd : (M.m.map (·.1)).Nodup
  ax : ∀ a ∈ M.m.map (·.1), a ∉ X
  hd : ∀ a ∈ X, ∃ u, H a = some u ∧ datHO u = true
  md : ∀ p ∈ M.m, MdOk K (imm X M H) (norm (H p.1)) p.2
  lk : ∀ b o k, (H b = some (.frz o (.dK k)) → b ∈ M.lk)
  lt : ∀ b o k, (H b = some (.frz o (.dT k)) → b ∈ M.lk)
  lz : ∀ b ∈ M.lk, ∃ o u, H b = some (.frz o u)
  tb : LamX.Tabs T H
structure Ev (X : List Addr) (M : MS) (H : Hp) (M' : MS) (H' : Hp) : Prop where
  ex : Ex (imm X M H) (imm X M' H')
  fx : ∀ a ∈ X, H' a = H a
  lk : M'.lk = M.lk
  lf : ∀ a ∈ M.lk, H' a = H a
theorem Ev.refl (X : List Addr) (M : MS) (H : Hp) : Ev X M H M H := ⟨Ex.refl _, fun _ _ => rfl, rfl, fun _ _ => rfl⟩
theorem Ev.trans {X : List Addr} {M M1 M2 : MS} {H H1 H2 : Hp} (a : Ev X M H M1 H1) (b : Ev X M1 H1 M2 H2) : Ev X M H M2 H2 :=
  ⟨a.ex.trans b.ex, fun c h => (b.fx c h).trans (a.fx c h), b.lk.trans a.lk, fun c h => (b.lf c (by rw [a.lk]; exact h)).trans (a.lf c h)⟩

abbrev Sl : Type := List (Option D)
def Slots (K : PySem.W.Frag) (I : Hp) (σ : L2.St) (Γ : Sl) : Prop := σ.length = Γ.length ∧ ∀ (i : Nat) (d : D), Γ[i]? = some (some d) → ∃ v, σ[i]? = some (some v) ∧ At K I d v
theorem Slots.mono {K : PySem.W.Frag} {I I' : Hp} {σ : L2.St} {Γ : Sl} (h : Slots K I σ Γ) (e : Ex I I') : Slots K I' σ Γ :=
  ⟨h.1, fun i d q => let ⟨v, a, b⟩ := h.2 i d q; ⟨v, a, b.mono e⟩⟩
theorem Slots.set {K : PySem.W.Frag} {I : Hp} {σ : L2.St} {Γ : Sl} (h : Slots K I σ Γ) (i : Nat) {d : D} {v : V} (a : At K I d v) : Slots K I (σ.set i (some v)) (Γ.set i (some d)) := by
  refine ⟨by rw [List.length_set, List.length_set]; exact h.1, fun j d' q => ?_⟩
  by_cases e : i = j
  · subst e
    by_cases hi : i < Γ.length
    · rw [List.getElem?_set_self hi] at q
      cases q
      exact ⟨v, List.getElem?_set_self (by rw [h.1]; exact hi), a⟩
    · rw [List.getElem?_eq_none (by rw [List.length_set]; omega)] at q
      cases q
  · rw [List.getElem?_set_ne e] at q
    obtain ⟨v', a1, a2⟩ := h.2 j d' q
    exact ⟨v', by rw [List.getElem?_set_ne e]; exact a1, a2⟩
theorem Slots.clear {K : PySem.W.Frag} {I : Hp} {σ : L2.St} {Γ : Sl} (h : Slots K I σ Γ) (i : Nat) : Slots K I (σ.set i none) (Γ.set i none) := by
  refine ⟨by rw [List.length_set, List.length_set]; exact h.1, fun j d' q => ?_⟩
  by_cases e : i = j
  · subst e
    by_cases hi : i < Γ.length
    · rw [List.getElem?_set_self hi] at q
      cases q
    · rw [List.getElem?_eq_none (by rw [List.length_set]; omega)] at q
      cases q
  · rw [List.getElem?_set_ne e] at q
    obtain ⟨v', a1, a2⟩ := h.2 j d' q
    exact ⟨v', by rw [List.getElem?_set_ne e]; exact a1, a2⟩
def wipeD (Γ : Sl) : List Nat → Sl
  | [] => Γ
  | v :: vs => (wipeD Γ vs).set v none
theorem Slots.wipe {K : PySem.W.Frag} {I : Hp} {σ : L2.St} {Γ : Sl} (h : Slots K I σ Γ) : ∀ vs : List Nat, Slots K I (wipe σ vs) (wipeD Γ vs)
  | [] => h
  | v :: vs => (h.wipe vs).clear v

/-! ### heaps -/
theorem Ok.hx {K : PySem.W.Frag} {T : Tb} {X : List Addr} {M : MS} {H : Hp} (ok : Ok K T X M H) : ∀ a ∈ X, H a ≠ none := fun b hb z => by
  obtain ⟨u, e, _⟩ := ok.hd b hb
  rw [z] at e
  cases e
theorem Ok.lh {K : PySem.W.Frag} {T : Tb} {X : List Addr} {M : MS} {H : Hp} (ok : Ok K T X M H) : ∀ b ∈ M.lk, H b ≠ none := fun b hb z => by
  obtain ⟨o, u, e⟩ := ok.lz b hb
  rw [z] at e
  cases e
section
variable {K : PySem.W.Frag} {T : Tb} {X : List Addr} {M M' : MS} {H H' : Hp} {p : Addr} {o u : HO}
theorem imm_of {b : Addr} (h : imm X M H b = some u) : b ∉ X ∧ b ∉ M.m.map (·.1) ∧ norm (H b) = some u := by
  unfold imm at h
  split at h
  · cases h
  · rename_i n
    exact ⟨fun z => n (.inl z), fun z => n (.inr z), h⟩
theorem imm_mk {b : Addr} (h1 : b ∉ X) (h2 : b ∉ M.m.map (·.1)) : imm X M H b = norm (H b) := by
  unfold imm
  rw [if_neg (by rintro (z | z); exact h1 z; exact h2 z)]
def plainHO : HO → Bool
  | .tbl _ => false
  | .frz _ (.dK _) => false
  | .frz _ (.dT _) => false
  | _ => true
theorem norm_plain {o : HO} (h : plainHO o = true) : norm (some o) = some o := by
  unfold norm
  split <;> first | rfl | (rename_i e; cases e; cases h) | rfl
theorem norm_some {o : Option HO} (h : norm o = some u) : o = some u ∨ (∃ q, o = some (.frz q u)) := by
  unfold norm at h
  split at h
  · cases h
  · cases h; exact .inr ⟨_, rfl⟩
  · cases h; exact .inr ⟨_, rfl⟩
  · exact .inl h
theorem norm_ne {o : Option HO} (h : o = none) : norm o = none := by rw [h]; rfl
theorem imm_rd {b : Addr} (h : imm X M H b = some u) : Rd H b u := by
  obtain ⟨_, _, e⟩ := imm_of h
  rcases norm_some e with e | ⟨q, e⟩
  · exact .inl e
  · exact .inr ⟨q, e⟩
/-- what is no dict stands as it is seen -/
theorem imm_at {b : Addr} (h : imm X M H b = some u) (n1 : ∀ k, u ≠ .dK k) (n2 : ∀ k, u ≠ .dT k) : H b = some u := by
  obtain ⟨_, _, e⟩ := imm_of h
  unfold norm at e
  split at e
  · cases e
  · cases e; exact absurd rfl (n1 _)
  · cases e; exact absurd rfl (n2 _)
  · exact e
theorem imm_sqL {a : Addr} {xs : List V} (h : SqL K (imm X M H) a xs) : SqL K H a xs := by
  rcases h with (h | ⟨o, h⟩) | h
  · exact .inl (.inl (imm_at h (fun _ z => nomatch z) fun _ z => nomatch z))
  · exact .inl (.inr ⟨o, imm_at h (fun _ z => nomatch z) fun _ z => nomatch z⟩)
  · exact .inr h
theorem imm_sqT {a : Addr} {xs : List V} (h : SqT K (imm X M H) a xs) : SqT K H a xs := by
  rcases h with (h | ⟨o, h⟩) | h
  · exact .inl (.inl (imm_at h (fun _ z => nomatch z) fun _ z => nomatch z))
  · exact .inl (.inr ⟨o, imm_at h (fun _ z => nomatch z) fun _ z => nomatch z⟩)
  · exact .inr h
theorem Ok.there (ok : Ok K T X M H) {a : Addr} (h : a ∈ M.m.map (·.1)) : H a ≠ none := fun z => by
  obtain ⟨q, hq, e⟩ := List.mem_map.mp h
  have := ok.md q hq
  rw [e, norm_ne z] at this
  exact MdOk.ne this
theorem Ok.new (ok : Ok K T X M H) (hp : H p = none) : p ∉ X ∧ p ∉ M.m.map (·.1) := ⟨fun z => ok.hx p z hp, fun z => ok.there z hp⟩
theorem ex_new (ok : Ok K T X M H) (hp : H p = none) : Ex (imm X M H) (imm X M (upd H p o)) := fun b v h => by
  obtain ⟨h1, h2, h3⟩ := imm_of h
  rw [imm_mk h1 h2, upd_ne, h3]
  rintro rfl
  rw [hp] at h3
  cases h3
theorem ev_new (ok : Ok K T X M H) (hp : H p = none) : Ev X M H M (upd H p o) := ⟨ex_new ok hp, fun a ha => by
  rw [upd_ne]
  rintro rfl
  exact ok.hx _ ha hp, rfl, fun a ha => by
  rw [upd_ne]
  rintro rfl
  exact ok.lh _ ha hp⟩
theorem tabs_new {T : Tb} (h : LamX.Tabs T H) (hp : H p = none) : LamX.Tabs T (upd H p o) := h.ext fun b x e => by
  rw [upd_ne (ne_of_none e hp)]; exact e
theorem ok_new (ok : Ok K T X M H) (hp : H p = none) (pl : plainHO o = true) : Ok K T X M (upd H p o) := by
  refine ⟨ok.nd, ok.ax, fun a ha => ?_, fun q hq => ?_, fun b x k h => ?_, fun b x k h => ?_, fun b h => ?_, tabs_new ok.tb hp⟩
  · rw [upd_ne (fun (z : a = p) => ok.hx a ha (by rw [z]; exact hp))]
    exact ok.hd a ha
  · have hn : q.1 ≠ p := fun z => ok.there (List.mem_map.mpr ⟨q, hq, rfl⟩) (by rw [z]; exact hp)
    rw [upd_ne hn]
    exact (ok.md q hq).mono (ex_new ok hp)
  · by_cases e : b = p
    · subst e; rw [upd_same] at h; cases h; cases pl
    · rw [upd_ne e] at h; exact ok.lk b x k h
  · by_cases e : b = p
    · subst e; rw [upd_same] at h; cases h; cases pl
    · rw [upd_ne e] at h; exact ok.lt b x k h
  · rw [upd_ne (fun (z : b = p) => ok.lh b h (by rw [z]; exact hp))]
    exact ok.lz b h
theorem tabs_upd {T : Tb} {o : HO} (h : LamX.Tabs T H) (hu : H p = some u) (hd : datHO u = true) : LamX.Tabs T (upd H p o) := fun q hq => by
  obtain ⟨ps, h1, h2, h3⟩ := h q hq
  refine ⟨ps, ?_, h2, fun pos cv hc => ?_⟩
  · rw [upd_ne]
    · exact h1
    · intro z
      rw [z, hu] at h1
      cases h1
      cases hd
  · obtain ⟨c, e1, e2⟩ := h3 pos cv hc
    refine ⟨c, e1, ?_⟩
    rw [upd_ne]
    · exact e2
    · intro z
      rw [z, hu] at e2
      cases e2
      cases hd
theorem imm_new (ok : Ok K T X M H) (hp : H p = none) (pl : plainHO o = true) : imm X M (upd H p o) p = some o := by
  rw [imm_mk (ok.new hp).1 (ok.new hp).2, upd_same, norm_plain pl]
end
end Dl
end
/-! ## DL2 -/
section
set_option maxRecDepth 100000
namespace Dl
open PySem PySem.Spec PyProof.Rows L2
/-! ### judgements by data -/
/-- what is wanted behind a statement -/
structure DE where
  nx : Sl → MS → Prop
  rt : D → MS → Prop
  bk : Sl → MS → Prop := fun _ _ => False
  ct : Sl → MS → Prop := fun _ _ => False

section
variable (K : PySem.W.Frag) (T : Tb)
/-- from H, M one has come to H', M' -/
structure To (X : List Addr) (M : MS) (H : Hp) (M' : MS) (H' : Hp) : Prop where
  ok : Ok K T X M' H'
  ev : Ev X M H M' H'
def WE (te : TE) (G : Sl) (M : MS) (R : D → MS → Prop) : Prop := ∀ (X : List Addr) (σ : L2.St) (H : Hp) (Q : VK), Ok K T X M H → Slots K (imm X M H) σ G →
  (∀ v H' M' d, R d M' → To K T X M H M' H' → At K (imm X M' H') d v → Q v H') → te σ H Q
def WT (tt : TT) (G : Sl) (M : MS) (R : Bool → MS → Prop) : Prop := ∀ (X : List Addr) (σ : L2.St) (H : Hp) (Q : Bool → Hp → Prop), Ok K T X M H → Slots K (imm X M H) σ G →
  (∀ b H' M', R b M' → To K T X M H M' H' → Q b H') → tt σ H Q
def WA (ta : TA) (G : Sl) (M : MS) (R : List D → MS → Prop) : Prop := ∀ (X : List Addr) (σ : L2.St) (H : Hp) (Q : List V → Hp → Prop), Ok K T X M H → Slots K (imm X M H) σ G →
  (∀ vs H' M' ds, R ds M' → To K T X M H M' H' → AtL K (imm X M' H') ds vs → Q vs H') → ta σ H Q
def WO (to : TO) (G : Sl) (M : MS) (R : Option Int → MS → Prop) : Prop := ∀ (X : List Addr) (σ : L2.St) (H : Hp) (Q : Option Int → Hp → Prop), Ok K T X M H → Slots K (imm X M H) σ G →
  (∀ o H' M', R o M' → To K T X M H M' H' → Q o H') → to σ H Q
def WG (g : TG) (d : D) (G : Sl) (M : MS) (R : Sl → MS → Prop) : Prop := ∀ (X : List Addr) (v : V) (σ : L2.St) (H : Hp) (Q : L2.St → Hp → Prop), Ok K T X M H → Slots K (imm X M H) σ G → At K (imm X M H) d v →
  (∀ σ' H' G' M', R G' M' → To K T X M H M' H' → Slots K (imm X M' H') σ' G' → Q σ' H') → g v σ H Q
def WGs (g : TGs) (ds : List D) (G : Sl) (M : MS) (R : Sl → MS → Prop) : Prop := ∀ (X : List Addr) (vs : List V) (σ : L2.St) (H : Hp) (Q : L2.St → Hp → Prop), Ok K T X M H → Slots K (imm X M H) σ G → AtL K (imm X M H) ds vs →
  (∀ σ' H' G' M', R G' M' → To K T X M H M' H' → Slots K (imm X M' H') σ' G' → Q σ' H') → g vs σ H Q
def WS (ts : TS) (G : Sl) (M : MS) (R : DE) : Prop := ∀ (X : List Addr) (σ : L2.St) (H : Hp) (E : Ends), Ok K T X M H → Slots K (imm X M H) σ G →
  (∀ σ' H' G' M', R.nx G' M' → To K T X M H M' H' → Slots K (imm X M' H') σ' G' → E.nx σ' H') →
  (∀ v H' M' d, R.rt d M' → To K T X M H M' H' → At K (imm X M' H') d v → E.rt v H') →
  (∀ σ' H' G' M', R.bk G' M' → To K T X M H M' H' → Slots K (imm X M' H') σ' G' → E.bk σ' H') →
  (∀ σ' H' G' M', R.ct G' M' → To K T X M H M' H' → Slots K (imm X M' H') σ' G' → E.ct σ' H') → ts E σ H
/-- an operator, a call, by data -/
def OpD (r : R2) (d e : D) (M : MS) (R : D → MS → Prop) : Prop := ∀ (X : List Addr) (v u : V) (H : Hp) (Q : VK), Ok K T X M H → At K (imm X M H) d v → At K (imm X M H) e u →
  (∀ v H' M' d, R d M' → To K T X M H M' H' → At K (imm X M' H') d v → Q v H') → r v u H Q
def UnD (r : V → Hp → VK → Prop) (d : D) (M : MS) (R : D → MS → Prop) : Prop := ∀ (X : List Addr) (v : V) (H : Hp) (Q : VK), Ok K T X M H → At K (imm X M H) d v →
  (∀ v H' M' d, R d M' → To K T X M H M' H' → At K (imm X M' H') d v → Q v H') → r v H Q
def CaD (r : List V → Hp → VK → Prop) (ds : List D) (M : MS) (R : D → MS → Prop) : Prop := ∀ (X : List Addr) (vs : List V) (H : Hp) (Q : VK), Ok K T X M H → AtL K (imm X M H) ds vs →
  (∀ v H' M' d, R d M' → To K T X M H M' H' → At K (imm X M' H') d v → Q v H') → r vs H Q
/-- a def's promise by data -/
abbrev Pre : Type := List D → MS → (D → MS → Prop) → Prop
def SpD (pre : Pre) : Sp := fun vs H Q _ => ∃ (X : List Addr) (ds : List D) (M : MS) (R : D → MS → Prop), Ok K T X M H ∧ AtL K (imm X M H) ds vs ∧ pre ds M R ∧
  ∀ v H' M' d, R d M' → To K T X M H M' H' → At K (imm X M' H') d v → Q v H'
end

section
variable {K : PySem.W.Frag} {T : Tb} {X : List Addr} {M M1 M2 : MS} {H H1 H2 : Hp} {G : Sl} {R : D → MS → Prop} {RT : Bool → MS → Prop} {RA : List D → MS → Prop} {RG : Sl → MS → Prop} {RS : DE}
theorem To.refl (ok : Ok K T X M H) : To K T X M H M H := ⟨ok, Ev.refl _ _ _⟩
theorem To.trans (a : To K T X M H M1 H1) (b : To K T X M1 H1 M2 H2) : To K T X M H M2 H2 := ⟨b.ok, a.ev.trans b.ev⟩
theorem To.new {p : Addr} {o : HO} (ok : Ok K T X M H) (hp : H p = none) (pl : plainHO o = true) : To K T X M H M (upd H p o) := ⟨ok_new ok hp pl, ev_new ok hp⟩
theorem At.to {d : D} {v : V} (a : At K (imm X M H) d v) (t : To K T X M H M1 H1) : At K (imm X M1 H1) d v := At.mono t.ev.ex d v a
theorem AtL.to {d : List D} {v : List V} (a : AtL K (imm X M H) d v) (t : To K T X M H M1 H1) : AtL K (imm X M1 H1) d v := AtL.mono t.ev.ex d v a
theorem Slots.to {σ : L2.St} (a : Slots K (imm X M H) σ G) (t : To K T X M H M1 H1) : Slots K (imm X M1 H1) σ G := a.mono t.ev.ex

/-! ### consequence -/
theorem WE.imp {te : TE} {R' : D → MS → Prop} (h : WE K T te G M R) (i : ∀ d M', R d M' → R' d M') : WE K T te G M R' := fun X σ H Q ok sl q => h X σ H Q ok sl fun v H' M' d r t a => q v H' M' d (i _ _ r) t a
theorem WA.imp {te : TA} {R' : List D → MS → Prop} (h : WA K T te G M RA) (i : ∀ d M', RA d M' → R' d M') : WA K T te G M R' := fun X σ H Q ok sl q => h X σ H Q ok sl fun v H' M' d r t a => q v H' M' d (i _ _ r) t a
theorem WT.imp {te : TT} {R' : Bool → MS → Prop} (h : WT K T te G M RT) (i : ∀ d M', RT d M' → R' d M') : WT K T te G M R' := fun X σ H Q ok sl q => h X σ H Q ok sl fun v H' M' r t => q v H' M' (i _ _ r) t

/-! ### names, constants -/
theorem we_var {i : Nat} {d : D} (h : G[i]? = some (some d)) (q : R d M) : WE K T (tVar i) G M R := fun X σ H Q ok sl k => by
  obtain ⟨v, e, a⟩ := sl.2 i d h
  exact ⟨v, e, k v H M d q (To.refl ok) a⟩
theorem we_int {i : Int} (q : R (.int i) M) : WE K T (tC (.int i)) G M R := fun X σ H Q ok sl k => k _ H M _ q (To.refl ok) (by unfold At; rfl)
theorem we_str {i : Str} (q : R (.str i) M) : WE K T (tC (.str i)) G M R := fun X σ H Q ok sl k => k _ H M _ q (To.refl ok) (by unfold At; rfl)
theorem we_bl {i : Bool} (q : R (.bl i) M) : WE K T (tC (.bl i)) G M R := fun X σ H Q ok sl k => k _ H M _ q (To.refl ok) (by unfold At; rfl)
theorem we_ty {i : String} (q : R (.ty i) M) : WE K T (tC (.ty i)) G M R := fun X σ H Q ok sl k => k _ H M _ q (To.refl ok) (by unfold At; rfl)
theorem we_non (q : R .non M) : WE K T (tC .non) G M R := fun X σ H Q ok sl k => k _ H M _ q (To.refl ok) (by unfold At; rfl)
/-- a constant of the written part -/
theorem we_con {v : V} {d : D} (a : ∀ I : Hp, At K I d v) (q : R d M) : WE K T (tC v) G M R := fun X σ H Q ok sl k => k _ H M _ q (To.refl ok) (a _)

/-! ### operators -/
theorem we_op {r : R2} {ta tb : TE} (h : WE K T ta G M fun d M1 => WE K T tb G M1 fun e M2 => OpD K T r d e M2 R) : WE K T (tOp r ta tb) G M R := fun X σ H Q ok sl k =>
  h X σ H _ ok sl fun v H1 M1 d h1 t1 a1 => h1 X σ H1 _ t1.ok (sl.to t1) fun u H2 M2 e h2 t2 a2 =>
    h2 X v u H2 Q t2.ok (a1.to t2) a2 fun z H3 M3 dz q t3 a3 => k z H3 M3 dz q ((t1.trans t2).trans t3) a3
theorem we_un {r : V → Hp → VK → Prop} {ta : TE} (h : WE K T ta G M fun d M1 => UnD K T r d M1 R) : WE K T (tUn r ta) G M R := fun X σ H Q ok sl k =>
  h X σ H _ ok sl fun v H1 M1 d h1 t1 a1 => h1 X v H1 Q t1.ok a1 fun z H3 M3 dz q t3 a3 => k z H3 M3 dz q (t1.trans t3) a3
/-- of two ints, a value that no heap bears -/
theorem opd_i0 {g : Int → Int → V} {i j : Int} {d : D} (hg : ∀ I, At K I d (g i j)) (q : R d M) : OpD K T (rI0 g) (.int i) (.int j) M R := fun X v u H Q ok a b k => by
  unfold At at a b
  exact ⟨i, j, a, b, k _ H M d q (To.refl ok) (hg _)⟩
theorem opd_i {C : Int → Int → Prop} {g : Int → Int → V} {i j : Int} {d : D} (hc : C i j) (hg : ∀ I, At K I d (g i j)) (q : R d M) : OpD K T (rI C g) (.int i) (.int j) M R := fun X v u H Q ok a b k => by
  unfold At at a b
  exact ⟨i, j, a, b, hc, k _ H M d q (To.refl ok) (hg _)⟩
theorem opd_add {i j : Int} (q : R (.int (i + j)) M) : OpD K T (rI0 fun i j => .int (i + j)) (.int i) (.int j) M R := opd_i0 (fun _ => by unfold At; rfl) q
theorem opd_sub {i j : Int} (q : R (.int (i - j)) M) : OpD K T (rI0 fun i j => .int (i - j)) (.int i) (.int j) M R := opd_i0 (fun _ => by unfold At; rfl) q
theorem opd_mul {i j : Int} (hc : CMul i j) (q : R (.int (i * j)) M) : OpD K T (rI CMul fun i j => .int (i * j)) (.int i) (.int j) M R := opd_i hc (fun _ => by unfold At; rfl) q
theorem opd_modN {i j : Int} (hc : j ≠ 0) (q : R (.int (i.fmod j)) M) : OpD K T (rI (fun _ j => j ≠ 0) fun i j => .int (i.fmod j)) (.int i) (.int j) M R := opd_i hc (fun _ => by unfold At; rfl) q
theorem opd_mod {i j : Int} (hc : 0 < j) (q : R (.int (i % j)) M) : OpD K T (rI (fun _ j => 0 < j) fun i j => .int (i % j)) (.int i) (.int j) M R := opd_i hc (fun _ => by unfold At; rfl) q
theorem opd_fdivN {i j : Int} (hc : CDivN i j) (q : R (.int (i.fdiv j)) M) : OpD K T (rI CDivN fun i j => .int (i.fdiv j)) (.int i) (.int j) M R := opd_i hc (fun _ => by unfold At; rfl) q
theorem opd_fdiv {i j : Int} (hc : CDiv i j) (q : R (.int (i / j)) M) : OpD K T (rI CDiv fun i j => .int (i / j)) (.int i) (.int j) M R := opd_i hc (fun _ => by unfold At; rfl) q
theorem opd_pow {i j : Int} (hc : CPow i j) (q : R (.int (i ^ j.toNat)) M) : OpD K T (rI CPow fun i j => .int (i ^ j.toNat)) (.int i) (.int j) M R := opd_i hc (fun _ => by unfold At; rfl) q
theorem opd_lt {i j : Int} (q : R (.bl (decide (i < j))) M) : OpD K T (rI0 fun i j => .bl (decide (i < j))) (.int i) (.int j) M R := opd_i0 (fun _ => by unfold At; rfl) q
theorem opd_le {i j : Int} (q : R (.bl (decide (i ≤ j))) M) : OpD K T (rI0 fun i j => .bl (decide (i ≤ j))) (.int i) (.int j) M R := opd_i0 (fun _ => by unfold At; rfl) q
theorem opd_gt {i j : Int} (q : R (.bl (decide (j < i))) M) : OpD K T (rI0 fun i j => .bl (decide (j < i))) (.int i) (.int j) M R := opd_i0 (fun _ => by unfold At; rfl) q
theorem opd_ge {i j : Int} (q : R (.bl (decide (j ≤ i))) M) : OpD K T (rI0 fun i j => .bl (decide (j ≤ i))) (.int i) (.int j) M R := opd_i0 (fun _ => by unfold At; rfl) q
/-- == of scalars -/
theorem opd_eqI {i j : Int} (q : R (.bl (decide (i = j))) M) : OpD K T rEq (.int i) (.int j) M R := fun X v u H Q ok a b k => by
  unfold At at a b
  subst a b
  refine ⟨rfl, k _ H M _ q (To.refl ok) ?_⟩
  unfold At
  simp
theorem opd_eqS {i j : Str} (q : R (.bl (decide (i = j))) M) : OpD K T rEq (.str i) (.str j) M R := fun X v u H Q ok a b k => by
  unfold At at a b
  subst a b
  refine ⟨rfl, k _ H M _ q (To.refl ok) ?_⟩
  unfold At
  simp
theorem opd_neI {i j : Int} (q : R (.bl (!decide (i = j))) M) : OpD K T rNe (.int i) (.int j) M R := fun X v u H Q ok a b k => by
  unfold At at a b
  subst a b
  refine ⟨rfl, k _ H M _ q (To.refl ok) ?_⟩
  unfold At
  simp
theorem opd_neS {i j : Str} (q : R (.bl (!decide (i = j))) M) : OpD K T rNe (.str i) (.str j) M R := fun X v u H Q ok a b k => by
  unfold At at a b
  subst a b
  refine ⟨rfl, k _ H M _ q (To.refl ok) ?_⟩
  unfold At
  simp
theorem opd_addS {i j : Str} (hz : i.length + j.length ≤ sizeLine) (q : R (.str (i ++ j)) M) : OpD K T (fun x y H Q => ∃ i j, x = .str i ∧ y = .str j ∧ i.length + j.length ≤ sizeLine ∧ Q (.str (i ++ j)) H) (.str i) (.str j) M R := fun X v u H Q ok a b k => by
  unfold At at a b
  exact ⟨i, j, a, b, hz, k _ H M _ q (To.refl ok) (by unfold At; rfl)⟩
/-- t[i] -/
theorem opd_ixT {ds : List D} {i : Int} {d : D} (hi : atI ds i = some d) (q : R d M) : OpD K T (rIxT K) (.tup ds) (.int i) M R := fun X v u H Q ok a b k => by
  unfold At at a b
  obtain ⟨p, vs, h1, h2, h3⟩ := a
  unfold atI at hi
  obtain ⟨j, hj, hd⟩ := Option.bind_eq_some_iff.mp hi
  obtain ⟨v', e, av⟩ := h3.get hd
  exact ⟨p, vs, i, v', h1, b, imm_sqT h2, by unfold atI; rw [h3.len, hj]; exact e, k _ H M d q (To.refl ok) av⟩
theorem opd_ixP {ds : List D} {i : Int} {d : D} (hi : atI ds i = some d) (q : R d M) : OpD K T (rIxT K) (.tp ds) (.int i) M R := fun X v u H Q ok a b k => opd_ixT hi q X v u H Q ok (at_tup_of_tp a) b k
theorem opd_ixL {ds : List D} {i : Int} {d : D} (hi : atI ds i = some d) (q : R d M) : OpD K T (rIxL K) (.lst ds) (.int i) M R := fun X v u H Q ok a b k => by
  unfold At at a b
  obtain ⟨p, vs, h1, h2, h3⟩ := a
  unfold atI at hi
  obtain ⟨j, hj, hd⟩ := Option.bind_eq_some_iff.mp hi
  obtain ⟨v', e, av⟩ := h3.get hd
  exact ⟨p, vs, i, v', h1, b, imm_sqL (.of h2), by unfold atI; rw [h3.len, hj]; exact e, k _ H M d q (To.refl ok) av⟩
theorem opd_ixS {z : Str} {i : Int} {c : Nat} (hz : z.length ≤ sizeLine) (hi : atI z.cps.toList i = some c) (q : R (.str ⟨#[c]⟩) M) : OpD K T rIxS (.str z) (.int i) M R := fun X v u H Q ok a b k => by
  unfold At at a b
  exact ⟨z, i, c, a, b, hz, hi, k _ H M _ q (To.refl ok) (by unfold At; rfl)⟩

/-! ### tests -/
theorem wt_test {te : TE} (h : WE K T te G M fun d M1 => ∃ b, d = .bl b ∧ RT b M1) : WT K T (tTest te) G M RT := fun X σ H Q ok sl k =>
  h X σ H _ ok sl fun v H1 M1 d h1 t1 a1 => by
    obtain ⟨b, rfl, q⟩ := h1
    unfold At at a1
    exact ⟨b, a1, k b H1 M1 q t1⟩
theorem wt_B {te : TE} (h : WE K T te G M fun d M1 => ∃ b, d = .bl b ∧ RT b M1) : WT K T (tB te) G M RT := fun X σ H Q ok sl k =>
  h X σ H _ ok sl fun v H1 M1 d h1 t1 a1 => by
    obtain ⟨b, rfl, q⟩ := h1
    unfold At at a1
    exact ⟨b, a1, k b H1 M1 q t1⟩
theorem wt_and {t u : TT} (h : WT K T t G M fun b M1 => if b = true then WT K T u G M1 RT else RT false M1) : WT K T (tAnd t u) G M RT := fun X σ H Q ok sl k =>
  h X σ H _ ok sl fun b H1 M1 h1 t1 => by
    cases b with
    | true =>
      rw [if_pos rfl] at h1 ⊢
      exact h1 X σ H1 Q t1.ok (sl.to t1) fun b H2 M2 q t2 => k b H2 M2 q (t1.trans t2)
    | false =>
      rw [if_neg Bool.false_ne_true] at h1 ⊢
      exact k false H1 M1 h1 t1
theorem wt_or {t u : TT} (h : WT K T t G M fun b M1 => if b = true then RT true M1 else WT K T u G M1 RT) : WT K T (tOr t u) G M RT := fun X σ H Q ok sl k =>
  h X σ H _ ok sl fun b H1 M1 h1 t1 => by
    cases b with
    | true =>
      rw [if_pos rfl] at h1 ⊢
      exact k true H1 M1 h1 t1
    | false =>
      rw [if_neg Bool.false_ne_true] at h1 ⊢
      exact h1 X σ H1 Q t1.ok (sl.to t1) fun b H2 M2 q t2 => k b H2 M2 q (t1.trans t2)
theorem wt_not {t : TT} (h : WT K T t G M fun b M1 => RT (!b) M1) : WT K T (tNot t) G M RT := fun X σ H Q ok sl k => h X σ H _ ok sl fun b H1 M1 h1 t1 => k _ H1 M1 h1 t1
theorem wt_yes (q : RT true M) : WT K T tYes G M RT := fun X σ H Q ok sl k => k _ H M q (To.refl ok)
theorem we_if {t : TT} {ta tb : TE} (h : WT K T t G M fun b M1 => if b = true then WE K T ta G M1 R else WE K T tb G M1 R) : WE K T (tIf t ta tb) G M R := fun X σ H Q ok sl k =>
  h X σ H _ ok sl fun b H1 M1 h1 t1 => by
    cases b with
    | true =>
      rw [if_pos rfl] at h1 ⊢
      exact h1 X σ H1 Q t1.ok (sl.to t1) fun v H2 M2 d q t2 a => k v H2 M2 d q (t1.trans t2) a
    | false =>
      rw [if_neg Bool.false_ne_true] at h1 ⊢
      exact h1 X σ H1 Q t1.ok (sl.to t1) fun v H2 M2 d q t2 a => k v H2 M2 d q (t1.trans t2) a
theorem we_and {ta tb : TE} (h : WE K T ta G M fun d M1 => ∃ b, d = .bl b ∧ if b = true then WE K T tb G M1 R else R (.bl false) M1) : WE K T (tAndV ta tb) G M R := fun X σ H Q ok sl k =>
  h X σ H _ ok sl fun v H1 M1 d h1 t1 a1 => by
    obtain ⟨b, rfl, h1⟩ := h1
    unfold At at a1
    refine ⟨b, a1, ?_⟩
    cases b with
    | true =>
      rw [if_pos rfl] at h1 ⊢
      exact h1 X σ H1 Q t1.ok (sl.to t1) fun v H2 M2 d q t2 a => k v H2 M2 d q (t1.trans t2) a
    | false =>
      rw [if_neg Bool.false_ne_true] at h1 ⊢
      exact k _ H1 M1 _ h1 t1 (by unfold At; rfl)
theorem we_or {ta tb : TE} (h : WE K T ta G M fun d M1 => ∃ b, d = .bl b ∧ if b = true then R (.bl true) M1 else WE K T tb G M1 R) : WE K T (tOrV ta tb) G M R := fun X σ H Q ok sl k =>
  h X σ H _ ok sl fun v H1 M1 d h1 t1 a1 => by
    obtain ⟨b, rfl, h1⟩ := h1
    unfold At at a1
    refine ⟨b, a1, ?_⟩
    cases b with
    | false =>
      rw [if_neg Bool.false_ne_true] at h1 ⊢
      exact h1 X σ H1 Q t1.ok (sl.to t1) fun v H2 M2 d q t2 a => k v H2 M2 d q (t1.trans t2) a
    | true =>
      rw [if_pos rfl] at h1 ⊢
      exact k _ H1 M1 _ h1 t1 (by unfold At; rfl)
theorem we_not {ta : TE} (h : WE K T ta G M fun d M1 => ∃ b, d = .bl b ∧ R (.bl (!b)) M1) : WE K T (tNotV ta) G M R := fun X σ H Q ok sl k =>
  h X σ H _ ok sl fun v H1 M1 d h1 t1 a1 => by
    obtain ⟨b, rfl, h1⟩ := h1
    unfold At at a1
    exact ⟨b, a1, k _ H1 M1 _ h1 t1 (by unfold At; rfl)⟩
/-- a op b op' c -/
theorem we_chain {r r' : R2} {ta tb tc : TE} (h : WE K T ta G M fun d1 M1 => WE K T tb G M1 fun d2 M2 => OpD K T r d1 d2 M2 fun d M3 => ∃ b, d = .bl b ∧ if b = true then WE K T tc G M3 fun d3 M4 => OpD K T r' d2 d3 M4 R else R (.bl false) M3) :
    WE K T (tChain r r' ta tb tc) G M R := fun X σ H Q ok sl k =>
  h X σ H _ ok sl fun v H1 M1 d h1 t1 a1 => h1 X σ H1 _ t1.ok (sl.to t1) fun u H2 M2 e h2 t2 a2 =>
    h2 X v u H2 _ t2.ok (a1.to t2) a2 fun z H3 M3 dz q t3 a3 => by
      obtain ⟨b, rfl, q⟩ := q
      unfold At at a3
      refine ⟨b, a3, ?_⟩
      cases b with
      | true =>
        rw [if_pos rfl] at q ⊢
        exact q X σ H3 _ t3.ok (sl.to ((t1.trans t2).trans t3)) fun w H4 M4 f h4 t4 a4 => h4 X u w H4 Q t4.ok ((a2.to t3).to t4) a4 fun z H5 M5 dz q t5 a5 => k z H5 M5 dz q ((((t1.trans t2).trans t3).trans t4).trans t5) a5
      | false =>
        rw [if_neg Bool.false_ne_true] at q ⊢
        exact k _ H3 M3 _ q ((t1.trans t2).trans t3) (by unfold At; rfl)

/-! ### arguments, tuples, lists -/
theorem wa_nil (q : RA [] M) : WA K T tNil G M RA := fun X σ H Q ok sl k => k _ H M _ q (To.refl ok) atL_nil
theorem wa_cons {ta : TE} {tr : TA} (h : WE K T ta G M fun d M1 => WA K T tr G M1 fun ds M2 => RA (d :: ds) M2) : WA K T (tCons ta tr) G M RA := fun X σ H Q ok sl k =>
  h X σ H _ ok sl fun v H1 M1 d h1 t1 a1 => h1 X σ H1 _ t1.ok (sl.to t1) fun vs H2 M2 ds q t2 a2 => k _ H2 M2 _ q (t1.trans t2) (atL_cons (a1.to t2) a2)
theorem we_tp {t : TA} (h : WA K T t G M fun ds M1 => ds.length ≤ sizeLine ∧ R (.tp ds) M1) : WE K T (tTup t) G M R := fun X σ H Q ok sl k =>
  h X σ H _ ok sl fun vs H1 M1 ds h1 t1 a1 => ⟨by rw [a1.len]; exact h1.1, fun p hp => by
    have t2 := To.new (o := .tup vs) t1.ok hp rfl
    refine k _ _ M1 _ h1.2 (t1.trans t2) ?_
    unfold At
    exact ⟨p, vs, rfl, imm_new t1.ok hp rfl, a1.to t2⟩⟩
theorem we_tup {t : TA} (h : WA K T t G M fun ds M1 => ds.length ≤ sizeLine ∧ R (.tup ds) M1) : WE K T (tTup t) G M R := fun X σ H Q ok sl k =>
  we_tp (R := fun d M => ∃ ds, d = .tp ds ∧ R (.tup ds) M) (h.imp fun ds M' q => ⟨q.1, ds, rfl, q.2⟩) X σ H Q ok sl fun v H' M' d q t a => by
    obtain ⟨ds, rfl, q⟩ := q
    exact k v H' M' _ q t (at_tup_of_tp a)
theorem we_lst {t : TA} (h : WA K T t G M fun ds M1 => ds.length ≤ sizeLine ∧ R (.lst ds) M1) : WE K T (tLst t) G M R := fun X σ H Q ok sl k =>
  h X σ H _ ok sl fun vs H1 M1 ds h1 t1 a1 => ⟨by rw [a1.len]; exact h1.1, fun p hp => by
    have t2 := To.new (o := .lst vs) t1.ok hp rfl
    refine k _ _ M1 _ h1.2 (t1.trans t2) ?_
    unfold At
    exact ⟨p, vs, rfl, imm_new t1.ok hp rfl, a1.to t2⟩⟩

/-! ### calls -/
theorem we_cb {r : List V → Hp → VK → Prop} {t : TA} (h : WA K T t G M fun ds M1 => CaD K T r ds M1 R) : WE K T (tCB r t) G M R := fun X σ H Q ok sl k =>
  h X σ H _ ok sl fun vs H1 M1 ds h1 t1 a1 => h1 X vs H1 Q t1.ok a1 fun z H3 M3 dz q t3 a3 => k z H3 M3 dz q (t1.trans t3) a3
theorem we_call {pre : Pre} {E : XK} {t : TA} (h : WA K T t G M fun ds M1 => pre ds M1 R) : WE K T (tCall (SpD K T pre) [] E t) G M R := fun X σ H Q ok sl k =>
  h X σ H _ ok sl fun vs H1 M1 ds h1 t1 a1 => by
    refine ⟨X, ds, M1, R, t1.ok, ?_, h1, fun v H' M' d q t a => k v H' M' d q (t1.trans t) a⟩
    rw [List.append_nil]
    exact a1
theorem we_callD {pre : Pre} {E : XK} {t : TA} {dvs : List V} {dds : List D} (hd : ∀ I : Hp, AtL K I dds dvs) (h : WA K T t G M fun ds M1 => pre (ds ++ dds) M1 R) : WE K T (tCall (SpD K T pre) dvs E t) G M R := fun X σ H Q ok sl k =>
  h X σ H _ ok sl fun vs H1 M1 ds h1 t1 a1 => ⟨X, ds ++ dds, M1, R, t1.ok, a1.append (hd _), h1, fun v H' M' d q t a => k v H' M' d q (t1.trans t) a⟩

/-! ### statements -/
theorem ws_nx (q : RS.nx G M) : WS K T tNext G M RS := fun X σ H E ok sl k1 _ _ _ => k1 _ _ _ _ q (To.refl ok) sl
theorem ws_seq {t u : TS} (h : WS K T t G M { RS with nx := fun G' M' => WS K T u G' M' RS }) : WS K T (tSeq t u) G M RS := fun X σ H E ok sl k1 k2 k3 k4 =>
  h X σ H { E with nx := u E } ok sl (fun σ' H' G' M' h1 t1 s1 => h1 X σ' H' E t1.ok s1 (fun a b c d q t s => k1 a b c d q (t1.trans t) s) (fun a b c d q t s => k2 a b c d q (t1.trans t) s)
    (fun a b c d q t s => k3 a b c d q (t1.trans t) s) fun a b c d q t s => k4 a b c d q (t1.trans t) s) k2 k3 k4
theorem ws_never (h : False) : WS K T tNever G M RS := h.elim
theorem ws_asg {te : TE} {g : TG} (h : WE K T te G M fun d M1 => WG K T g d G M1 RS.nx) : WS K T (tAsg te g) G M RS := fun X σ H E ok sl k1 _ _ _ =>
  h X σ H _ ok sl fun v H1 M1 d h1 t1 a1 => h1 X v σ H1 _ t1.ok (sl.to t1) a1 fun a b c d q t s => k1 a b c d q (t1.trans t) s
theorem wg_name {i : Nat} {d : D} (q : RG (G.set i (some d)) M) : WG K T (gName i) d G M RG := fun X v σ H Q ok sl a k => k _ H _ M q (To.refl ok) (sl.set i a)
theorem wgs_nil (q : RG G M) : WGs K T gNil [] G M RG := fun X vs σ H Q ok sl a k => by
  unfold AtL at a
  exact ⟨a, k _ _ _ _ q (To.refl ok) sl⟩
theorem wgs_cons {t : TG} {u : TGs} {d : D} {ds : List D} (h : WG K T t d G M fun G1 M1 => WGs K T u ds G1 M1 RG) : WGs K T (gCons t u) (d :: ds) G M RG := fun X vs σ H Q ok sl a k => by
  unfold AtL at a
  obtain ⟨v, r, e, h1, h2⟩ := a
  exact ⟨v, r, e, h X v σ H _ ok sl h1 fun σ1 H1 G1 M1 q t1 s1 => q X r σ1 H1 Q t1.ok s1 (h2.to t1) fun a b c d q t s => k a b c d q (t1.trans t) s⟩
theorem wg_tup {n : Nat} {t : TGs} {ds : List D} (hn : ds.length = n) (h : WGs K T t ds G M RG) : WG K T (gTup K n t) (.tup ds) G M RG := fun X v σ H Q ok sl a k => by
  unfold At at a
  obtain ⟨p, vs, h1, h2, h3⟩ := a
  exact ⟨p, vs, h1, imm_sqT h2, by rw [h3.len]; exact hn, h X vs σ H Q ok sl h3 k⟩
theorem wg_tp {n : Nat} {t : TGs} {ds : List D} (hn : ds.length = n) (h : WGs K T t ds G M RG) : WG K T (gTup K n t) (.tp ds) G M RG := fun X v σ H Q ok sl a k => wg_tup hn h X v σ H Q ok sl (at_tup_of_tp a) k
theorem ws_ret {te : TE} (h : WE K T te G M RS.rt) : WS K T (tRet te) G M RS := fun X σ H E ok sl _ k2 _ _ => h X σ H _ ok sl k2
theorem ws_expr {te : TE} (h : WE K T te G M fun _ M1 => RS.nx G M1) : WS K T (tDrop te) G M RS := fun X σ H E ok sl k1 _ _ _ => h X σ H _ ok sl fun v H1 M1 d q t a => k1 _ _ _ _ q t (sl.to t)
theorem ws_if {c : TT} {t u : TS} (h : WT K T c G M fun b M1 => if b = true then WS K T t G M1 RS else WS K T u G M1 RS) : WS K T (tIfS c t u) G M RS := fun X σ H E ok sl k1 k2 k3 k4 =>
  h X σ H _ ok sl fun b H1 M1 h1 t1 => by
    cases b with
    | true =>
      rw [if_pos rfl] at h1 ⊢
      exact h1 X σ H1 E t1.ok (sl.to t1) (fun a b c d q t s => k1 a b c d q (t1.trans t) s) (fun a b c d q t s => k2 a b c d q (t1.trans t) s) (fun a b c d q t s => k3 a b c d q (t1.trans t) s) fun a b c d q t s => k4 a b c d q (t1.trans t) s
    | false =>
      rw [if_neg Bool.false_ne_true] at h1 ⊢
      exact h1 X σ H1 E t1.ok (sl.to t1) (fun a b c d q t s => k1 a b c d q (t1.trans t) s) (fun a b c d q t s => k2 a b c d q (t1.trans t) s) (fun a b c d q t s => k3 a b c d q (t1.trans t) s) fun a b c d q t s => k4 a b c d q (t1.trans t) s
/-- a, b = x, y -/
theorem ws_par {i j : Nat} {ta : TA} (h : WA K T ta G M fun ds M1 => ∃ d e, ds = [d, e] ∧ RS.nx ((G.set i (some d)).set j (some e)) M1) : WS K T (tPar i j ta) G M RS := fun X σ H E ok sl k1 _ _ _ =>
  h X σ H _ ok sl fun vs H1 M1 ds h1 t1 a1 => by
    obtain ⟨d, e, rfl, q⟩ := h1
    unfold AtL at a1
    obtain ⟨v, r, rfl, b1, a1⟩ := a1
    unfold AtL at a1
    obtain ⟨u, r, rfl, b2, a1⟩ := a1
    unfold AtL at a1
    subst a1
    exact ⟨v, u, rfl, k1 _ H1 _ M1 q t1 (((sl.to t1).set i b1).set j b2)⟩
end
end Dl
end
/-! ## DL3 -/
section
set_option maxRecDepth 100000
namespace Dl
open PySem PySem.Spec PyProof.Rows L2
section
variable (K : PySem.W.Frag) (T : Tb)
/-- what is walked, by data; L, H1: the locked dicts as they stood -/
def ItOk (J : It) (I1 : Hp) (L : List Addr) (H1 : Hp) (ds : List D) : Prop := ∀ (X : List Addr) (M : MS) (H : Hp), Ok K T X M H → Ex I1 (imm X M H) → (∀ b ∈ L, H b = H1 b) → ∀ i : Nat,
  (∀ d, ds[i]? = some d → J.go i H ∧ ∀ x H', J.yld i H x H' → To K T X M H M H' ∧ At K (imm X M H') d x) ∧ (ds.length ≤ i → J.stop i H)
def WI (wi : TI) (G : Sl) (M : MS) (R : List D → MS → Prop) : Prop := ∀ (X : List Addr) (σ : L2.St) (H : Hp) (Q : It → Hp → Prop), Ok K T X M H → Slots K (imm X M H) σ G →
  (∀ J H' M' ds, R ds M' → To K T X M H M' H' → ItOk K T J (imm X M' H') M'.lk H' ds → Q J H') → wi σ H Q
/-- a target within a comprehension -/
def WGv (vs : List Nat) (g : TG) (d : D) (G : Sl) (M : MS) (R : Sl → MS → Prop) : Prop := ∀ (X : List Addr) (v : V) (σ : L2.St) (H : Hp) (Q : L2.St → Hp → Prop), Ok K T X M H → Slots K (imm X M H) σ G → At K (imm X M H) d v →
  (∀ σ' H' G' M', wipe σ' vs = wipe σ vs → R G' M' → To K T X M H M' H' → Slots K (imm X M' H') σ' G' → Q σ' H') → g v σ H Q
def WGsv (vs : List Nat) (g : TGs) (ds : List D) (G : Sl) (M : MS) (R : Sl → MS → Prop) : Prop := ∀ (X : List Addr) (us : List V) (σ : L2.St) (H : Hp) (Q : L2.St → Hp → Prop), Ok K T X M H → Slots K (imm X M H) σ G → AtL K (imm X M H) ds us →
  (∀ σ' H' G' M', wipe σ' vs = wipe σ vs → R G' M' → To K T X M H M' H' → Slots K (imm X M' H') σ' G' → Q σ' H') → g us σ H Q
end

theorem wipe_get (σ : L2.St) (i : Nat) : ∀ vs : List Nat, (wipe σ vs)[i]? = if i ∈ vs then (if i < σ.length then some none else none) else σ[i]?
  | [] => by simp [wipe]
  | v :: vs => by
    unfold wipe
    by_cases e : v = i
    · subst e
      rw [if_pos List.mem_cons_self]
      by_cases hl : v < σ.length
      · rw [if_pos hl, List.getElem?_set_self (by rw [wipe_length]; exact hl)]
      · rw [if_neg hl, List.getElem?_eq_none (by rw [List.length_set, wipe_length]; omega)]
    · rw [List.getElem?_set_ne e, wipe_get σ i vs]
      by_cases hm : i ∈ vs
      · rw [if_pos hm, if_pos (List.mem_cons_of_mem _ hm)]
      · rw [if_neg hm, if_neg]
        rintro z
        rcases List.mem_cons.mp z with z | z
        · exact e z.symm
        · exact hm z
theorem wipe_idem (σ : L2.St) (vs : List Nat) : wipe (wipe σ vs) vs = wipe σ vs := by
  apply List.ext_getElem?
  intro i
  rw [wipe_get, wipe_get, wipe_length]
  by_cases hm : i ∈ vs
  · rw [if_pos hm, if_pos hm]
  · rw [if_neg hm, if_neg hm]
theorem wipe_set {σ : L2.St} {i : Nat} {x : Option V} {vs : List Nat} (h : i ∈ vs) : wipe (σ.set i x) vs = wipe σ vs := by
  apply List.ext_getElem?
  intro j
  rw [wipe_get, wipe_get, List.length_set]
  by_cases hm : j ∈ vs
  · rw [if_pos hm, if_pos hm]
  · rw [if_neg hm, if_neg hm, List.getElem?_set_ne]
    rintro rfl
    exact hm h

section
variable {K : PySem.W.Frag} {T : Tb} {X : List Addr} {M M1 M2 : MS} {H H1 H2 : Hp} {G : Sl} {R : D → MS → Prop} {RT : Bool → MS → Prop} {RA : List D → MS → Prop} {RG : Sl → MS → Prop} {RS : DE}
theorem wgv_name {vs : List Nat} {i : Nat} {d : D} (hi : i ∈ vs) (q : RG (G.set i (some d)) M) : WGv K T vs (gName i) d G M RG := fun X v σ H Q ok sl a k => k _ H _ M (wipe_set hi) q (To.refl ok) (sl.set i a)
theorem wgsv_nil {vs : List Nat} (q : RG G M) : WGsv K T vs gNil [] G M RG := fun X us σ H Q ok sl a k => by
  unfold AtL at a
  exact ⟨a, k _ _ _ _ rfl q (To.refl ok) sl⟩
theorem wgsv_cons {vs : List Nat} {t : TG} {u : TGs} {d : D} {ds : List D} (h : WGv K T vs t d G M fun G1 M1 => WGsv K T vs u ds G1 M1 RG) : WGsv K T vs (gCons t u) (d :: ds) G M RG := fun X us σ H Q ok sl a k => by
  unfold AtL at a
  obtain ⟨v, r, e, h1, h2⟩ := a
  exact ⟨v, r, e, h X v σ H _ ok sl h1 fun σ1 H1 G1 M1 w1 q t1 s1 => q X r σ1 H1 Q t1.ok s1 (h2.to t1) fun a b c d w2 q t s => k a b c d (w2.trans w1) q (t1.trans t) s⟩
theorem wgv_tup {vs : List Nat} {n : Nat} {t : TGs} {ds : List D} (hn : ds.length = n) (h : WGsv K T vs t ds G M RG) : WGv K T vs (gTup K n t) (.tup ds) G M RG := fun X v σ H Q ok sl a k => by
  unfold At at a
  obtain ⟨p, us, h1, h2, h3⟩ := a
  exact ⟨p, us, h1, imm_sqT h2, by rw [h3.len]; exact hn, h X us σ H Q ok sl h3 k⟩
theorem wgv_tp {vs : List Nat} {n : Nat} {t : TGs} {ds : List D} (hn : ds.length = n) (h : WGsv K T vs t ds G M RG) : WGv K T vs (gTup K n t) (.tp ds) G M RG := fun X v σ H Q ok sl a k => wgv_tup hn h X v σ H Q ok sl (at_tup_of_tp a) k

/-! ### what is walked -/
theorem wi_list {tl : TE} (h : WE K T tl G M fun d M1 => ∃ ds, d = .lst ds ∧ RA ds M1) : WI K T (iList K tl) G M RA := fun X σ H Q ok sl k =>
  h X σ H _ ok sl fun v H1 M1 d h1 t1 a1 => by
    obtain ⟨ds, rfl, q⟩ := h1
    unfold At at a1
    obtain ⟨p, vs, rfl, hs, al⟩ := a1
    refine ⟨p, rfl, ⟨vs, imm_sqL (.of hs)⟩, k _ H1 M1 ds q t1 fun X' M' H' ok' ex _ i => ⟨fun d hd => ?_, fun hl => ?_⟩⟩
    · obtain ⟨x, e, ax⟩ := al.get hd
      refine ⟨⟨vs, x, imm_sqL (.of (ex _ _ hs)), e⟩, fun y H'' hy => ?_⟩
      obtain ⟨rfl, hy⟩ := hy
      have e' := hy vs (imm_sqL (.of (ex _ _ hs)))
      rw [e] at e'
      cases e'
      exact ⟨To.refl ok', ax.mono ex⟩
    · exact ⟨vs, imm_sqL (.of (ex _ _ hs)), by rw [al.len]; exact hl⟩
theorem wi_ll {tl : TE} (h : WE K T tl G M fun d M1 => ∃ ds, d = .ll ds ∧ RA ds M1) : WI K T (iList K tl) G M RA := fun X σ H Q ok sl k =>
  h X σ H _ ok sl fun v H1 M1 d h1 t1 a1 => by
    obtain ⟨ds, rfl, q⟩ := h1
    unfold At at a1
    obtain ⟨p, vs, rfl, hs, al⟩ := a1
    refine ⟨p, rfl, ⟨vs, imm_sqL hs⟩, k _ H1 M1 ds q t1 fun X' M' H' ok' ex _ i => ⟨fun d hd => ?_, fun hl => ?_⟩⟩
    · obtain ⟨x, e, ax⟩ := al.get hd
      refine ⟨⟨vs, x, imm_sqL (ex.sqL hs), e⟩, fun y H'' hy => ?_⟩
      obtain ⟨rfl, hy⟩ := hy
      have e' := hy vs (imm_sqL (ex.sqL hs))
      rw [e] at e'
      cases e'
      exact ⟨To.refl ok', ax.mono ex⟩
    · exact ⟨vs, imm_sqL (ex.sqL hs), by rw [al.len]; exact hl⟩
theorem wi_tup {tl : TE} (h : WE K T tl G M fun d M1 => ∃ ds, d = .tup ds ∧ RA ds M1) : WI K T (iTup K tl) G M RA := fun X σ H Q ok sl k =>
  h X σ H _ ok sl fun v H1 M1 d h1 t1 a1 => by
    obtain ⟨ds, rfl, q⟩ := h1
    unfold At at a1
    obtain ⟨p, vs, rfl, hs, al⟩ := a1
    refine ⟨p, rfl, ⟨vs, imm_sqT hs⟩, k _ H1 M1 ds q t1 fun X' M' H' ok' ex _ i => ⟨fun d hd => ?_, fun hl => ?_⟩⟩
    · obtain ⟨x, e, ax⟩ := al.get hd
      refine ⟨⟨vs, x, imm_sqT (ex.sqT hs), e⟩, fun y H'' hy => ?_⟩
      obtain ⟨rfl, hy⟩ := hy
      have e' := hy vs (imm_sqT (ex.sqT hs))
      rw [e] at e'
      cases e'
      exact ⟨To.refl ok', ax.mono ex⟩
    · exact ⟨vs, imm_sqT (ex.sqT hs), by rw [al.len]; exact hl⟩
/-- 0, 1, .. -/
def intsD (n : Nat) : List D := (List.range n).map fun i => D.int (i : Nat)
theorem intsD_len (n : Nat) : (intsD n).length = n := by unfold intsD; simp
theorem intsD_get {n i : Nat} {d : D} (h : (intsD n)[i]? = some d) : d = .int (i : Nat) ∧ i < n := by
  unfold intsD at h
  rw [List.getElem?_map] at h
  obtain ⟨j, e1, e2⟩ := Option.map_eq_some_iff.mp h
  obtain ⟨hl, e3⟩ := List.getElem?_eq_some_iff.mp e1
  rw [List.getElem_range] at e3
  rw [List.length_range] at hl
  exact ⟨by rw [← e2, e3], hl⟩
theorem wi_rng {ta : TA} (h : WA K T ta G M fun ds M1 => ∃ n : Nat, ds = [.int (n : Nat)] ∧ n < 1000000 ∧ RA (intsD n) M1) : WI K T (iRng1 ta) G M RA := fun X σ H Q ok sl k =>
  h X σ H _ ok sl fun vs H1 M1 ds h1 t1 a1 => by
    obtain ⟨n, rfl, hn, q⟩ := h1
    unfold AtL at a1
    obtain ⟨v, r, rfl, b1, a1⟩ := a1
    unfold At at b1
    unfold AtL at a1
    subst b1 a1
    refine ⟨(n : Nat), rfl, by omega, by omega, k _ H1 M1 _ q t1 fun X' M' H' ok' ex _ i => ⟨fun d hd => ?_, fun hl => ?_⟩⟩
    · obtain ⟨rfl, hi⟩ := intsD_get hd
      refine ⟨by show i < ((n : Nat) : Int).toNat; omega, fun x H'' hy => ?_⟩
      obtain ⟨rfl, rfl⟩ := hy
      refine ⟨To.refl ok', ?_⟩
      unfold At
      rw [Int.zero_add]
    · rw [intsD_len] at hl
      show ((n : Nat) : Int).toNat ≤ i
      omega
theorem wi_str {te : TE} (h : WE K T te G M fun d M1 => ∃ z : Str, d = .str z ∧ RA (z.cps.toList.map fun c => .str ⟨#[c]⟩) M1) : WI K T (iStr te) G M RA := fun X σ H Q ok sl k =>
  h X σ H _ ok sl fun v H1 M1 d h1 t1 a1 => by
    obtain ⟨z, rfl, q⟩ := h1
    unfold At at a1
    refine ⟨z, a1, k _ H1 M1 _ q t1 fun X' M' H' ok' ex _ i => ⟨fun d hd => ?_, fun hl => ?_⟩⟩
    · rw [List.getElem?_map] at hd
      obtain ⟨c, e1, rfl⟩ := Option.map_eq_some_iff.mp hd
      rw [Array.getElem?_toList] at e1
      refine ⟨(Array.getElem?_eq_some_iff.mp e1).1, fun x H'' hy => ?_⟩
      obtain ⟨rfl, c', e2, rfl⟩ := hy
      rw [e1] at e2
      cases e2
      exact ⟨To.refl ok', by unfold At; rfl⟩
    · rw [List.length_map, Array.length_toList] at hl
      exact hl

/-! ### for -/
theorem ws_for {wi : TI} {g : TG} {tb : TS} (h : WI K T wi G M fun ds M1 => ∃ P : Nat → Sl → MS → Prop, P 0 G M1 ∧
      (∀ (i : Nat) (d : D) (G1 : Sl) (M2 : MS), ds[i]? = some d → P i G1 M2 → WG K T g d G1 M2 fun G2 M3 => WS K T tb G2 M3 { nx := P (i + 1), ct := P (i + 1), bk := RS.nx, rt := RS.rt }) ∧
      ∀ G1 M2, P ds.length G1 M2 → RS.nx G1 M2) : WS K T (tFor wi g tb) G M RS := fun X σ H E ok sl k1 k2 _ _ =>
  h X σ H _ ok sl fun J H1 M1 ds h1 t1 it => by
    obtain ⟨P, p0, turn, done⟩ := h1
    refine ⟨fun i m σ' H' => m = ds.length - i ∧ i ≤ ds.length ∧ ∃ G' M', P i G' M' ∧ To K T X M1 H1 M' H' ∧ Slots K (imm X M' H') σ' G', ⟨ds.length, by omega, Nat.zero_le _, G, M1, p0, To.refl t1.ok, sl.to t1⟩, ?_⟩
    rintro i m σ' H' ⟨rfl, hi, G', M', p, t, s⟩
    have J1 := it X M' H' t.ok t.ev.ex t.ev.lf i
    by_cases hlt : i < ds.length
    · obtain ⟨go, yl⟩ := J1.1 ds[i] (List.getElem?_eq_getElem hlt)
      refine .inr ⟨go, fun σ2 H2 => ∃ G2 M2, P (i + 1) G2 M2 ∧ To K T X M1 H1 M2 H2 ∧ Slots K (imm X M2 H2) σ2 G2, fun σ2 H2 q => ⟨ds.length - (i + 1), by omega, rfl, hlt, q⟩, fun x H2 hy => ?_⟩
      obtain ⟨t2, a2⟩ := yl x H2 hy
      refine turn i ds[i] G' M' (List.getElem?_eq_getElem hlt) p X x σ' H2 _ t2.ok (s.to t2) a2 fun σ3 H3 G3 M3 q t3 s3 => ?_
      have t4 := (t.trans t2).trans t3
      refine q X σ3 H3 _ t3.ok s3 (fun a b c d q t s => ⟨c, d, q, t4.trans t, s⟩) (fun a b c d q t s => ?_) (fun a b c d q t s => ?_) fun a b c d q t s => ⟨c, d, q, t4.trans t, s⟩
      · exact k2 a b c d q ((t1.trans t4).trans t) s
      · exact k1 a b c d q ((t1.trans t4).trans t) s
    · have e : i = ds.length := by omega
      subst e
      exact .inl ⟨J1.2 (Nat.le_refl _), k1 σ' H' G' M' (done G' M' p) (t1.trans t) s⟩
/-- while -/
theorem ws_while {c : TT} {tb : TS} (P : Sl → MS → Prop) (mu : Sl → Nat) (p0 : P G M)
    (turn : ∀ G1 M1, P G1 M1 → WT K T c G1 M1 fun b M2 => if b = true then WS K T tb G1 M2 { nx := fun G2 M3 => P G2 M3 ∧ mu G2 < mu G1, ct := fun G2 M3 => P G2 M3 ∧ mu G2 < mu G1, bk := RS.nx, rt := RS.rt } else RS.nx G1 M2) :
    WS K T (tWhile c tb) G M RS := fun X σ H E ok sl k1 k2 _ _ => by
  refine ⟨fun m σ' H' => ∃ G' M', m = mu G' ∧ P G' M' ∧ To K T X M H M' H' ∧ Slots K (imm X M' H') σ' G', ⟨_, G, M, rfl, p0, To.refl ok, sl⟩, ?_⟩
  rintro m σ' H' ⟨G', M', rfl, p, t, s⟩
  refine turn G' M' p X σ' H' _ t.ok s fun b H1 M1 q t1 => ?_
  cases b with
  | true =>
    rw [if_pos rfl] at q ⊢
    refine ⟨fun σ2 H2 => ∃ G2 M2, (P G2 M2 ∧ mu G2 < mu G') ∧ To K T X M H M2 H2 ∧ Slots K (imm X M2 H2) σ2 G2, fun σ2 H2 ⟨G2, M2, ⟨p2, l2⟩, t2, s2⟩ => ⟨_, l2, G2, M2, rfl, p2, t2, s2⟩, ?_⟩
    have t4 := t.trans t1
    refine q X σ' H1 _ t1.ok (s.to t1) (fun a b c d q t s => ⟨c, d, q, t4.trans t, s⟩) (fun a b c d q t s => ?_) (fun a b c d q t s => ?_) fun a b c d q t s => ⟨c, d, q, t4.trans t, s⟩
    · exact k2 a b c d q (t4.trans t) s
    · exact k1 a b c d q (t4.trans t) s
  | false =>
    rw [if_neg Bool.false_ne_true] at q ⊢
    exact k1 σ' H1 G' M1 q (t.trans t1) (s.to t1)

/-! ### hidden objects -/
theorem imm_hide {D' : Addr} : Ex (imm (D' :: X) M H) (imm X M H) := fun b u h => by
  obtain ⟨h1, h2, h3⟩ := imm_of h
  rw [imm_mk (fun z => h1 (List.mem_cons_of_mem _ z)) h2, h3]
theorem Ok.hide {p : Addr} {o : HO} (ok : Ok K T X M H) (hp : H p = none) (pl : plainHO o = true) (dt : datHO o = true) : Ok K T (p :: X) M (upd H p o) ∧ Ex (imm X M H) (imm (p :: X) M (upd H p o)) := by
  have n := ok.new hp
  have ex : Ex (imm X M H) (imm (p :: X) M (upd H p o)) := fun b u h => by
    obtain ⟨h1, h2, h3⟩ := imm_of h
    have hb : b ≠ p := by
      rintro rfl
      rw [norm_ne hp] at h3
      cases h3
    rw [imm_mk (by rintro z; rcases List.mem_cons.mp z with z | z; exact hb z; exact h1 z) h2, upd_ne hb, h3]
  have ok' := ok_new ok hp pl
  refine ⟨⟨ok.nd, fun a ha z => ?_, fun a ha => ?_, fun q hq => ?_, ok'.lk, ok'.lt, ok'.lz, ok'.tb⟩, ex⟩
  · rcases List.mem_cons.mp z with z | z
    · exact n.2 (by rw [← z]; exact ha)
    · exact ok.ax a ha z
  · rcases List.mem_cons.mp ha with z | z
    · exact ⟨o, by rw [z, upd_same], dt⟩
    · exact ok'.hd a z
  · have hn : q.1 ≠ p := fun z => n.2 (by rw [← z]; exact List.mem_map.mpr ⟨q, hq, rfl⟩)
    rw [upd_ne hn]
    exact (ok.md q hq).mono ex
theorem Ok.show_ {p : Addr} (ok : Ok K T (p :: X) M H) : Ok K T X M H :=
  ⟨ok.nd, fun a ha z => ok.ax a ha (List.mem_cons_of_mem _ z), fun a ha => ok.hd a (List.mem_cons_of_mem _ ha), fun q hq => (ok.md q hq).mono imm_hide, ok.lk, ok.lt, ok.lz, ok.tb⟩
/-- a hidden object is written -/
theorem Ok.poke {p : Addr} {o u : HO} (ok : Ok K T (p :: X) M H) (hu : H p = some u) (hd : datHO u = true) (pl : plainHO o = true) (dt : datHO o = true) (hl : p ∉ M.lk) : Ok K T (p :: X) M (upd H p o) ∧ imm (p :: X) M (upd H p o) = imm (p :: X) M H := by
  have e : imm (p :: X) M (upd H p o) = imm (p :: X) M H := by
    funext b
    unfold imm
    by_cases hb : b = p
    · rw [hb, if_pos (.inl List.mem_cons_self), if_pos (.inl List.mem_cons_self)]
    · rw [upd_ne hb]
  have nb : ∀ q ∈ M.m, q.1 ≠ p := fun q hq z => ok.ax q.1 (List.mem_map.mpr ⟨q, hq, rfl⟩) (by rw [z]; exact List.mem_cons_self)
  refine ⟨⟨ok.nd, ok.ax, fun a ha => ?_, fun q hq => ?_, fun b x k h => ?_, fun b x k h => ?_, fun b hb => ?_, ?_⟩, e⟩
  · by_cases hb : a = p
    · exact ⟨o, by rw [hb, upd_same], dt⟩
    · rw [upd_ne hb]; exact ok.hd a ha
  · rw [e, upd_ne (nb q hq)]
    exact ok.md q hq
  · by_cases hb : b = p
    · rw [hb, upd_same] at h; cases h; cases pl
    · rw [upd_ne hb] at h; exact ok.lk b x k h
  · by_cases hb : b = p
    · rw [hb, upd_same] at h; cases h; cases pl
    · rw [upd_ne hb] at h; exact ok.lt b x k h
  · rw [upd_ne (fun z => hl (by rw [← z]; exact hb))]
    exact ok.lz b hb
  · exact tabs_upd ok.tb hu hd

/-- a hidden object L is being filled -/
structure Mid (K : PySem.W.Frag) (T : Tb) (X : List Addr) (L : Addr) (M : MS) (H : Hp) (M' : MS) (H' : Hp) : Prop where
  ok : Ok K T (L :: X) M' H'
  ex : Ex (imm X M H) (imm (L :: X) M' H')
  fx : ∀ a ∈ X, H' a = H a
  lk : M'.lk = M.lk
  lf : ∀ a ∈ M.lk, H' a = H a
  nl : L ∉ M.lk
  nx : L ∉ X
theorem Mid.start {L : Addr} {o : HO} (ok : Ok K T X M H) (hL : H L = none) (pl : plainHO o = true) (dt : datHO o = true) : Mid K T X L M H M (upd H L o) := by
  obtain ⟨ok0, ex0⟩ := ok.hide (o := o) hL pl dt
  have n0 := ok.new hL
  have nl : L ∉ M.lk := fun z => ok.lh L z hL
  exact ⟨ok0, ex0, fun a ha => upd_ne fun z => n0.1 (by rw [← z]; exact ha), rfl, fun b hb => upd_ne (fun z => nl (by rw [← z]; exact hb)), nl, n0.1⟩
theorem Mid.to {L : Addr} (m : Mid K T X L M H M1 H1) (t : To K T (L :: X) M1 H1 M2 H2) : Mid K T X L M H M2 H2 :=
  ⟨t.ok, m.ex.trans t.ev.ex, fun a ha => (t.ev.fx a (List.mem_cons_of_mem _ ha)).trans (m.fx a ha), t.ev.lk.trans m.lk, fun a ha => (t.ev.lf a (by rw [m.lk]; exact ha)).trans (m.lf a ha), m.nl, m.nx⟩
theorem Mid.poke {L : Addr} {o u : HO} (m : Mid K T X L M H M1 H1) (hu : H1 L = some u) (hd : datHO u = true) (pl : plainHO o = true) (dt : datHO o = true) : Mid K T X L M H M1 (upd H1 L o) ∧ imm (L :: X) M1 (upd H1 L o) = imm (L :: X) M1 H1 := by
  obtain ⟨ok6, e6⟩ := m.ok.poke (o := o) hu hd pl dt (by rw [m.lk]; exact m.nl)
  refine ⟨⟨ok6, by rw [e6]; exact m.ex, fun a ha => ?_, m.lk, fun a ha => ?_, m.nl, m.nx⟩, e6⟩
  · rw [upd_ne (fun z => m.nx (by rw [← z]; exact ha))]; exact m.fx a ha
  · rw [upd_ne (fun z => m.nl (by rw [← z]; exact ha))]; exact m.lf a ha
theorem Mid.out {L : Addr} (m : Mid K T X L M H M1 H1) : To K T X M H M1 H1 := ⟨m.ok.show_, ⟨m.ex.trans imm_hide, m.fx, m.lk, m.lf⟩⟩
theorem Mid.see {L : Addr} (m : Mid K T X L M H M1 H1) {o : HO} (h : H1 L = some o) (pl : plainHO o = true) : imm X M1 H1 L = some o := by
  rw [imm_mk m.nx (fun z => m.ok.ax L z List.mem_cons_self), h, norm_plain pl]

/-! ### list comprehensions -/
theorem we_lc {wi : TI} {g : TG} {tt : TT} {te : TE} {vs : List Nat} (h : WI K T wi G M fun ds M1 => ds.length ≤ sizeLine ∧ ∃ P : Nat → List D → MS → Prop, P 0 [] M1 ∧
      (∀ (i : Nat) (acc : List D) (d : D) (M2 : MS), ds[i]? = some d → acc.length ≤ i → P i acc M2 → WGv K T vs g d (wipeD G vs) M2 fun G2 M3 => WT K T tt G2 M3 fun b M4 => if b = true then WE K T te G2 M4 fun y M5 => P (i + 1) (acc ++ [y]) M5 else P (i + 1) acc M4) ∧
      ∀ acc M2, P ds.length acc M2 → R (.lst acc) M2) : WE K T (tLc wi g tt te vs) G M R := fun X σ H Q ok sl k =>
  h X σ H _ ok sl fun J H1 M1 ds h1 t1 it => by
    obtain ⟨hz, P, p0, turn, done⟩ := h1
    intro L hL
    refine ⟨fun i m H' => m = ds.length - i ∧ i ≤ ds.length ∧ ∃ acc us M', acc.length ≤ i ∧ P i acc M' ∧ Mid K T X L M1 H1 M' H' ∧ H' L = some (.lst us) ∧ AtL K (imm (L :: X) M' H') acc us,
      ⟨ds.length, by omega, Nat.zero_le _, [], [], M1, Nat.le_refl _, p0, Mid.start t1.ok hL rfl rfl, upd_same, atL_nil⟩, ?_⟩
    rintro i m H' ⟨rfl, hi, acc, us, M', hacc, p, t, hL', al⟩
    have J1 := it (L :: X) M' H' t.ok t.ex t.lf i
    by_cases hlt : i < ds.length
    · obtain ⟨go, yl⟩ := J1.1 ds[i] (List.getElem?_eq_getElem hlt)
      refine .inr ⟨go, fun H2 => ∃ acc us M2, acc.length ≤ i + 1 ∧ P (i + 1) acc M2 ∧ Mid K T X L M1 H1 M2 H2 ∧ H2 L = some (.lst us) ∧ AtL K (imm (L :: X) M2 H2) acc us, fun H2 q => ⟨ds.length - (i + 1), by omega, rfl, hlt, q⟩, fun x H2 hy => ?_⟩
      obtain ⟨t2, a2⟩ := yl x H2 hy
      have sl2 : Slots K (imm (L :: X) M' H2) (wipe σ vs) (wipeD G vs) := (((sl.to t1).mono t.ex).to t2).wipe vs
      refine turn i acc ds[i] M' (List.getElem?_eq_getElem hlt) hacc p (L :: X) x _ H2 _ t2.ok sl2 a2 fun σ3 H3 G3 M3 w3 q3 t3 s3 => ⟨w3.trans (wipe_idem σ vs), ?_⟩
      refine q3 (L :: X) σ3 H3 _ t3.ok s3 fun b H4 M4 q4 t4 => ?_
      have t04 := ((t.to t2).to t3).to t4
      have hL4 : H4 L = some (.lst us) := by
        rw [t4.ev.fx L List.mem_cons_self, t3.ev.fx L List.mem_cons_self, t2.ev.fx L List.mem_cons_self]; exact hL'
      have al4 : AtL K (imm (L :: X) M4 H4) acc us := ((al.to t2).to t3).to t4
      cases b with
      | true =>
        rw [if_pos rfl] at q4 ⊢
        refine q4 (L :: X) σ3 H4 _ t4.ok (s3.to t4) fun y H5 M5 dy q5 t5 a5 => ?_
        have hL5 : H5 L = some (.lst us) := by rw [t5.ev.fx L List.mem_cons_self]; exact hL4
        obtain ⟨t06, e6⟩ := (t04.to t5).poke (o := .lst (us ++ [y])) hL5 rfl rfl rfl
        refine ⟨us, hL5, by rw [al4.len]; omega, acc ++ [dy], us ++ [y], M5, by simp; omega, q5, t06, upd_same, ?_⟩
        rw [e6]
        exact (al4.to t5).append (atL_cons a5 atL_nil)
      | false =>
        rw [if_neg Bool.false_ne_true] at q4 ⊢
        exact ⟨acc, us, M4, by omega, q4, t04, hL4, al4⟩
    · have e : i = ds.length := by omega
      subst e
      refine .inl ⟨J1.2 (Nat.le_refl _), k _ H' M' _ (done acc M' p) (t1.trans t.out) ?_⟩
      unfold At
      exact ⟨L, us, rfl, t.see hL' rfl, al.mono imm_hide⟩
end
end Dl
end
/-! ## DL4 -/
section
set_option maxRecDepth 100000
namespace Dl
open PySem PySem.Spec PyProof.Rows L2
/-! ### the mutable objects by address -/
def getM (M : MS) (a : Addr) : Option MD := M.m.lookup a
def setM (M : MS) (a : Addr) (x : MD) : MS := { M with m := M.m.map fun q => if q.1 = a then (a, x) else q }
def addM (M : MS) (a : Addr) (x : MD) : MS := { M with m := (a, x) :: M.m }
def domM (M : MS) : List Addr := M.m.map (·.1)
theorem getM_mem {M : MS} {a : Addr} {x : MD} (h : getM M a = some x) : (a, x) ∈ M.m := by
  unfold getM at h
  obtain ⟨m, l⟩ := M
  revert h
  show m.lookup a = some x → (a, x) ∈ m
  induction m with
  | nil => intro h; cases h
  | cons q r ih =>
    intro h
    rw [show q = (q.1, q.2) from rfl, List.lookup_cons] at h
    by_cases e : a = q.1
    · subst e
      simp at h
      subst h
      exact List.mem_cons_self
    · have hb : (a == q.1) = false := beq_eq_false_iff_ne.mpr e
      rw [hb] at h
      exact List.mem_cons_of_mem _ (ih h)
theorem setM_dom (M : MS) (a : Addr) (x : MD) : (setM M a x).m.map (·.1) = M.m.map (·.1) := by
  unfold setM
  simp only [List.map_map]
  apply List.map_congr_left
  intro q hq
  simp only [Function.comp]
  split
  · rename_i e; exact e.symm
  · rfl
theorem setM_nin {m : List (Addr × MD)} {a : Addr} {x : MD} (h : a ∉ m.map (·.1)) : (m.map fun q => if q.1 = a then (a, x) else q) = m := by
  induction m with
  | nil => rfl
  | cons q r ih =>
    rw [List.map_cons, List.mem_cons, not_or] at h
    rw [List.map_cons, if_neg (fun z => h.1 z.symm), ih h.2]
theorem setM_head {m : List (Addr × MD)} {l : List Addr} {a : Addr} {x y : MD} (h : a ∉ m.map (·.1)) : setM ⟨(a, x) :: m, l⟩ a y = ⟨(a, y) :: m, l⟩ := by
  unfold setM
  rw [List.map_cons, if_pos rfl, setM_nin h]
theorem setM_add {M : MS} {a : Addr} {x y : MD} (h : a ∉ domM M) : setM (addM M a x) a y = addM M a y := setM_head h
theorem getM_add {M : MS} {a : Addr} {x : MD} : getM (addM M a x) a = some x := by
  unfold getM addM
  simp
theorem getM_addN {M : MS} {a b : Addr} {x : MD} (h : b ≠ a) : getM (addM M a x) b = getM M b := by
  unfold getM addM
  rw [List.lookup_cons, beq_eq_false_iff_ne.mpr h]
theorem getM_dom {M : MS} {a : Addr} {x : MD} (h : getM M a = some x) : a ∈ domM M := List.mem_map.mpr ⟨_, getM_mem h, rfl⟩
theorem getM_ne {M : MS} {a b : Addr} {x : MD} (h : getM M a = some x) (hb : b ∉ domM M) : a ≠ b := fun e => hb (e ▸ getM_dom h)

section
variable {K : PySem.W.Frag} {T : Tb} {X : List Addr} {M M1 M2 : MS} {H H1 H2 : Hp} {G : Sl} {R : D → MS → Prop} {RT : Bool → MS → Prop} {RA : List D → MS → Prop} {RG : Sl → MS → Prop} {RS : DE}
theorem imm_setM {a : Addr} {x : MD} : imm X (setM M a x) H = imm X M H := by
  funext b
  unfold imm
  rw [setM_dom]
/-- a mutable object is written -/
theorem To.write {a : Addr} {x y : MD} {o u : HO} (ok : Ok K T X M H) (hg : getM M a = some x) (hu : H a = some u) (hd : datHO u = true) (pl : plainHO o = true) (hl : a ∉ M.lk) (new : MdOk K (imm X M H) (some o) y) :
    To K T X M H (setM M a y) (upd H a o) := by
  have ha : a ∈ M.m.map (·.1) := getM_dom hg
  have ei : imm X (setM M a y) (upd H a o) = imm X M H := by
    funext b
    unfold imm
    rw [setM_dom]
    by_cases hb : b = a
    · rw [hb, if_pos (.inr ha), if_pos (.inr ha)]
    · rw [upd_ne hb]
  refine ⟨⟨by rw [setM_dom]; exact ok.nd, by rw [setM_dom]; exact ok.ax, fun b hb => ?_, fun q hq => ?_, fun b z k h => ?_, fun b z k h => ?_, fun b hb => ?_, tabs_upd ok.tb hu hd⟩, ⟨by rw [ei]; exact Ex.refl _, fun b hb => ?_, rfl, fun b hb => ?_⟩⟩
  · rw [upd_ne (fun z => ok.ax a ha (by rw [← z]; exact hb))]; exact ok.hd b hb
  · rw [ei]
    obtain ⟨p, hp, e⟩ := List.mem_map.mp hq
    by_cases hb : p.1 = a
    · rw [if_pos hb] at e
      rw [← e]
      show MdOk K (imm X M H) (norm (upd H a o a)) y
      rw [upd_same, norm_plain pl]
      exact new
    · rw [if_neg hb] at e
      rw [← e, upd_ne hb]
      exact ok.md p hp
  · by_cases hb : b = a
    · rw [hb, upd_same] at h; cases h; cases pl
    · rw [upd_ne hb] at h; exact ok.lk b z k h
  · by_cases hb : b = a
    · rw [hb, upd_same] at h; cases h; cases pl
    · rw [upd_ne hb] at h; exact ok.lt b z k h
  · rw [upd_ne (fun z => hl (by rw [← z]; exact hb))]; exact ok.lz b hb
  · rw [upd_ne (fun z => ok.ax a ha (by rw [← z]; exact hb))]
  · rw [upd_ne (fun z => hl (by rw [← z]; exact hb))]
/-- a new mutable object -/
theorem To.newM {p : Addr} {o : HO} {y : MD} (ok : Ok K T X M H) (hp : H p = none) (pl : plainHO o = true) (new : MdOk K (imm X M H) (some o) y) : To K T X M H (addM M p y) (upd H p o) ∧ p ∉ domM M := by
  have n := ok.new hp
  have ok' := ok_new ok hp pl
  have ex : Ex (imm X M H) (imm X (addM M p y) (upd H p o)) := fun b u h => by
    obtain ⟨h1, h2, h3⟩ := imm_of h
    have hb : b ≠ p := by
      rintro rfl
      rw [norm_ne hp] at h3
      cases h3
    have e : b ∉ (addM M p y).m.map (·.1) := by
      show b ∉ p :: M.m.map (·.1)
      rintro z
      rcases List.mem_cons.mp z with z | z
      · exact hb z
      · exact h2 z
    rw [imm_mk h1 e, upd_ne hb, h3]
  refine ⟨⟨⟨List.nodup_cons.mpr ⟨n.2, ok.nd⟩, fun a ha => ?_, ok'.hd, fun q hq => ?_, ok'.lk, ok'.lt, ok'.lz, ok'.tb⟩, ⟨ex, (ev_new ok hp).fx, rfl, (ev_new ok hp).lf⟩⟩, n.2⟩
  · have ha' : a ∈ p :: M.m.map (·.1) := ha
    rcases List.mem_cons.mp ha' with z | z
    · rw [z]; exact n.1
    · exact ok.ax a z
  · have hq' : q ∈ (p, y) :: M.m := hq
    rcases List.mem_cons.mp hq' with z | z
    · rw [z]
      show MdOk K _ (norm (upd H p o p)) y
      rw [upd_same, norm_plain pl]
      exact new.mono ex
    · have hn : q.1 ≠ p := fun e => n.2 (by rw [← e]; exact List.mem_map.mpr ⟨q, z, rfl⟩)
      rw [upd_ne hn]
      exact (ok.md q z).mono ex
/-- a mutable object is mutable no more -/
theorem To.freeze {p : Addr} {y : MD} {m : MS} (ok : Ok K T X (addM m p y) H) : To K T X (addM m p y) H m H ∧ imm X m H p = norm (H p) ∧ p ∉ X := by
  have nd : p ∉ m.m.map (·.1) ∧ (m.m.map (·.1)).Nodup := List.nodup_cons.mp (show (p :: m.m.map (·.1)).Nodup from ok.nd)
  have pX : p ∉ X := ok.ax p (show p ∈ p :: m.m.map (·.1) from List.mem_cons_self)
  have ex : Ex (imm X (addM m p y) H) (imm X m H) := fun b u h => by
    obtain ⟨h1, h2, h3⟩ := imm_of h
    rw [imm_mk h1 (fun z => h2 (show b ∈ p :: m.m.map (·.1) from List.mem_cons_of_mem _ z)), h3]
  exact ⟨⟨⟨nd.2, fun a ha => ok.ax a (show a ∈ p :: m.m.map (·.1) from List.mem_cons_of_mem _ ha), ok.hd, fun q hq => (ok.md q (show q ∈ (p, y) :: m.m from List.mem_cons_of_mem _ hq)).mono ex, ok.lk, ok.lt, ok.lz, ok.tb⟩, ⟨ex, fun _ _ => rfl, rfl, fun _ _ => rfl⟩⟩, imm_mk pX nd.1, pX⟩
/-- what a mutable object is worth when it is mutable no more -/
def frD (p : Addr) : MD → Option D
  | .lst ds => some (.lst ds)
  | .dK ks ds => some (.dK p ks ds)
  | .dT ks ds => some (.dT p ks ds)
  | .ins C ns ds => some (.ins C ns ds)
  | .src => none
theorem at_freeze {p : Addr} {y : MD} {d : D} {m : MS} (ok : Ok K T X (addM m p y) H) (hf : frD p y = some d) : To K T X (addM m p y) H m H ∧ At K (imm X m H) d (.ref p) := by
  obtain ⟨t, e, _⟩ := To.freeze ok
  refine ⟨t, ?_⟩
  have md := (ok.md (p, y) (show (p, y) ∈ (p, y) :: m.m from List.mem_cons_self)).mono t.ev.ex
  rw [← e] at md
  cases y with
  | lst ds =>
    cases hf
    obtain ⟨vs, h1, h2⟩ := md
    unfold At
    exact ⟨p, vs, rfl, h1, h2⟩
  | dK ks ds =>
    cases hf
    obtain ⟨vs, h1, h2, h3⟩ := md
    unfold At
    exact ⟨vs, rfl, h1, h2, h3⟩
  | dT ks ds =>
    cases hf
    obtain ⟨vs, h1, h2, h3⟩ := md
    unfold At
    exact ⟨vs, rfl, h1, h2, h3⟩
  | ins C ns ds =>
    cases hf
    obtain ⟨dx, vs, h1, h2, h3⟩ := md
    unfold At
    exact ⟨p, dx, vs, rfl, h1, h2, h3⟩
  | src => cases hf
/-- the value of an expression is a mutable object, from here on mutable no more -/
theorem we_freeze {te : TE} (h : WE K T te G M fun d M1 => ∃ p y m e, d = .ptr p ∧ M1 = addM m p y ∧ frD p y = some e ∧ R e m) : WE K T te G M R := fun X σ H Q ok sl k =>
  h X σ H Q ok sl fun v H1 M1 d h1 t1 a1 => by
    obtain ⟨p, y, m, e, rfl, rfl, hf, q⟩ := h1
    unfold At at a1
    subst a1
    obtain ⟨t2, a2⟩ := at_freeze t1.ok hf
    exact k _ H1 m e q (t1.trans t2) a2
/-- a slot's object is mutable no more -/
theorem slots_freeze {p : Addr} {y : MD} {d : D} {m : MS} {σ : L2.St} {i : Nat} (ok : Ok K T X (addM m p y) H) (hf : frD p y = some d) (sl : Slots K (imm X (addM m p y) H) σ G) (hi : G[i]? = some (some (.ptr p))) : Slots K (imm X m H) σ (G.set i (some d)) := by
  obtain ⟨t2, a2⟩ := at_freeze ok hf
  have sl2 := sl.to t2
  refine ⟨by rw [List.length_set]; exact sl2.1, fun j e q => ?_⟩
  by_cases hj : i = j
  · subst hj
    rw [List.getElem?_set_self (List.getElem?_eq_some_iff.mp hi).1] at q
    cases q
    obtain ⟨v, e1, e2⟩ := sl2.2 i _ hi
    unfold At at e2
    subst e2
    exact ⟨_, e1, a2⟩
  · rw [List.getElem?_set_ne hj] at q
    exact sl2.2 j e q
theorem ws_freeze {ts : TS} {p : Addr} {y : MD} {d : D} {m : MS} {i : Nat} (hf : frD p y = some d) (hi : G[i]? = some (some (.ptr p))) (h : WS K T ts (G.set i (some d)) m RS) : WS K T ts G (addM m p y) RS := fun X σ H E ok sl k1 k2 k3 k4 => by
  have t := (To.freeze ok).1
  exact h X σ H E t.ok (slots_freeze ok hf sl hi) (fun a b c d q t' s => k1 a b c d q (t.trans t') s) (fun a b c d q t' s => k2 a b c d q (t.trans t') s) (fun a b c d q t' s => k3 a b c d q (t.trans t') s) fun a b c d q t' s => k4 a b c d q (t.trans t') s
/-- a slot is forgotten -/
theorem Slots.drop {I : Hp} {σ : L2.St} (h : Slots K I σ G) (i : Nat) : Slots K I σ (G.set i none) := by
  refine ⟨by rw [List.length_set]; exact h.1, fun j d q => ?_⟩
  by_cases e : i = j
  · subst e
    by_cases hi : i < G.length
    · rw [List.getElem?_set_self hi] at q; cases q
    · rw [List.getElem?_eq_none (by rw [List.length_set]; omega)] at q; cases q
  · rw [List.getElem?_set_ne e] at q
    exact h.2 j d q

/-! ### new mutable objects -/
theorem we_lstM {t : TA} (h : WA K T t G M fun ds M1 => ds.length ≤ sizeLine ∧ ∀ p, p ∉ domM M1 → R (.ptr p) (addM M1 p (.lst ds))) : WE K T (tLst t) G M R := fun X σ H Q ok sl k =>
  h X σ H _ ok sl fun vs H1 M1 ds h1 t1 a1 => ⟨by rw [a1.len]; exact h1.1, fun p hp => by
    obtain ⟨t2, n⟩ := To.newM (o := .lst vs) (y := .lst ds) t1.ok hp rfl ⟨vs, rfl, a1⟩
    exact k _ _ _ _ (h1.2 p n) (t1.trans t2) (by unfold At; rfl)⟩
theorem we_dnK (h : ∀ p, p ∉ domM M → R (.ptr p) (addM M p (.dK [] []))) : WE K T tDNewK G M R := fun X σ H Q ok sl k p hp => by
  obtain ⟨t2, n⟩ := To.newM (o := .dK []) (y := .dK [] []) ok hp rfl ⟨[], rfl, rfl, atL_nil⟩
  exact k _ _ _ _ (h p n) t2 (by unfold At; rfl)
theorem we_dnT (h : ∀ p, p ∉ domM M → R (.ptr p) (addM M p (.dT [] []))) : WE K T tDNewT G M R := fun X σ H Q ok sl k p hp => by
  obtain ⟨t2, n⟩ := To.newM (o := .dT []) (y := .dT [] []) ok hp rfl ⟨[], rfl, rfl, atL_nil⟩
  exact k _ _ _ _ (h p n) t2 (by unfold At; rfl)

/-! ### instances -/
def lookD (ns : List Str) (ds : List D) (f : Str) : Option D := (ns.zip ds).lookup f
theorem look_at {I : Hp} {f : Str} {d : D} : ∀ {ns : List Str} {ds : List D} {vs : List V}, AtL K I ds vs → lookD ns ds f = some d → ∃ v, (ns.zip vs).lookup f = some v ∧ At K I d v
  | [], ds, vs, _, h => by
    unfold lookD at h
    cases h
  | n :: ns, [], vs, _, h => by
    unfold lookD at h
    cases h
  | n :: ns, e :: ds, vs, a, h => by
    unfold AtL at a
    obtain ⟨v, r, rfl, a1, a2⟩ := a
    unfold lookD at h
    rw [List.zip_cons_cons, List.lookup_cons] at h ⊢
    cases hb : (f == n) with
    | true =>
      rw [hb] at h
      cases h
      exact ⟨v, rfl, a1⟩
    | false =>
      rw [hb] at h
      exact look_at a2 h
theorem look_none {ns : List Str} {f : Str} (h : f ∉ ns) (vs : List V) : (ns.zip vs).lookup f = none := by
  induction ns generalizing vs with
  | nil => rfl
  | cons n ns ih =>
    cases vs with
    | nil => rfl
    | cons v vs =>
      rw [List.mem_cons, not_or] at h
      rw [List.zip_cons_cons, List.lookup_cons, beq_eq_false_iff_ne.mpr h.1]
      exact ih h.2 vs
/-- d is an instance of C with these attributes -/
def InsD (d : D) (M : MS) (C : Addr) (ns : List Str) (ds : List D) : Prop := d = .ins C ns ds ∨ ∃ a, d = .ptr a ∧ getM M a = some (.ins C ns ds)
theorem ins_at {d : D} {v : V} {C : Addr} {ns : List Str} {ds : List D} (ok : Ok K T X M H) (h : InsD d M C ns ds) (a : At K (imm X M H) d v) : ∃ p dx vs, v = .ref p ∧ H p = some (.ins C dx (ns.zip vs)) ∧ AtL K (imm X M H) ds vs := by
  rcases h with rfl | ⟨p, rfl, hg⟩
  · unfold At at a
    obtain ⟨p, dx, vs, h1, h2, _, h3⟩ := a
    exact ⟨p, dx, vs, h1, imm_at h2 (fun _ z => nomatch z) (fun _ z => nomatch z), h3⟩
  · unfold At at a
    obtain ⟨dx, vs, h1, _, h3⟩ := ok.md _ (getM_mem hg)
    refine ⟨p, dx, vs, a, ?_, h3⟩
    unfold norm at h1
    split at h1
    · cases h1
    · cases h1
    · cases h1
    · exact h1
theorem we_fld {ta : TE} {f : Str} (h : WE K T ta G M fun d M1 => ∃ C ns ds e, InsD d M1 C ns ds ∧ Cls K C ∧ NoAttr K C f ∧ lookD ns ds f = some e ∧ R e M1) : WE K T (tFld K ta f) G M R := fun X σ H Q ok sl k =>
  h X σ H _ ok sl fun v H1 M1 d h1 t1 a1 => by
    obtain ⟨C, ns, ds, e, hi, c, na, hl, q⟩ := h1
    obtain ⟨p, dx, vs, rfl, hp, al⟩ := ins_at t1.ok hi a1
    obtain ⟨u, hu, au⟩ := look_at al hl
    exact ⟨p, C, dx, _, u, rfl, hp, c, na, hu, k u H1 M1 e q t1 au⟩
theorem putF_new {f : Str} {x : V} : ∀ {ns : List Str} {vs : List V}, f ∉ ns → ns.length = vs.length → putF f x (ns.zip vs) = (ns ++ [f]).zip (vs ++ [x])
  | [], [], _, _ => rfl
  | [], _ :: _, _, h => by cases h
  | _ :: _, [], _, h => by cases h
  | n :: ns, v :: vs, hn, hl => by
    rw [List.mem_cons, not_or] at hn
    show putF f x ((n, v) :: ns.zip vs) = (n, v) :: (ns ++ [f]).zip (vs ++ [x])
    unfold putF
    rw [if_neg (fun z => hn.1 z.symm), putF_new hn.2 (by simpa using hl)]
theorem putF_old {f : Str} {x : V} : ∀ {ns : List Str} {vs : List V} {i : Nat}, ns.Nodup → ns[i]? = some f → ns.length = vs.length → putF f x (ns.zip vs) = ns.zip (vs.set i x)
  | [], _, i, _, h, _ => by simp at h
  | _ :: _, [], _, _, _, h => by cases h
  | n :: ns, v :: vs, 0, _, h, hl => by
    have e : n = f := by simpa using h
    show putF f x ((n, v) :: ns.zip vs) = (n, x) :: ns.zip vs
    unfold putF
    rw [if_pos e]
  | n :: ns, v :: vs, i + 1, hd, h, hl => by
    have h' : ns[i]? = some f := by simpa using h
    have hd' := List.nodup_cons.mp hd
    have hne : ¬ n = f := fun z => hd'.1 (z ▸ List.mem_of_getElem? h')
    show putF f x ((n, v) :: ns.zip vs) = (n, v) :: ns.zip (vs.set i x)
    unfold putF
    rw [if_neg hne, putF_old hd'.2 h' (by simpa using hl)]
theorem AtL.set {I : Hp} {d : D} {v : V} (a : At K I d v) : ∀ {ds : List D} {vs : List V} (i : Nat), AtL K I ds vs → AtL K I (ds.set i d) (vs.set i v)
  | [], vs, i, h => by
    unfold AtL at h
    subst h
    exact atL_nil
  | e :: ds, vs, i, h => by
    unfold AtL at h
    obtain ⟨u, r, rfl, h1, h2⟩ := h
    cases i with
    | zero => exact atL_cons a h2
    | succ i => exact atL_cons h1 (AtL.set a i h2)
/-- o.f = e, f a new attribute -/
theorem ws_fldN {ta tv : TE} {f : Str} (h : WE K T tv G M fun e M1 => WE K T ta G M1 fun d M2 => ∃ a C ns ds, d = .ptr a ∧ getM M2 a = some (.ins C ns ds) ∧ Cls K C ∧ NoAttr K C f ∧ ns.length < 1000 ∧ f ∉ ns ∧ a ∉ M2.lk ∧ RS.nx G (setM M2 a (.ins C (ns ++ [f]) (ds ++ [e])))) : WS K T (sFld K ta tv f) G M RS := fun X σ H E ok sl k1 _ _ _ =>
  h X σ H _ ok sl fun y H1 M1 e h1 t1 ay => h1 X σ H1 _ t1.ok (sl.to t1) fun x H2 M2 d h2 t2 ax => by
    obtain ⟨a, C, ns, ds, rfl, hg, c, na, hz, hn, hl, q⟩ := h2
    unfold At at ax
    obtain ⟨p, dx, vs, hp, hH, al⟩ := ins_at (d := .ptr a) t2.ok (.inr ⟨a, rfl, hg⟩) (by unfold At; rfl)
    cases hp
    have hnl : ns.length = ds.length := by
      obtain ⟨_, _, _, z, _⟩ := t2.ok.md _ (getM_mem hg)
      exact z
    have hlv : ns.length = vs.length := by rw [al.len]; exact hnl
    refine ⟨a, C, dx, _, ax, hH, c, na, by rw [List.length_zip]; omega, ?_⟩
    have t3 := To.write (o := .ins C dx (putF f y (ns.zip vs))) (y := .ins C (ns ++ [f]) (ds ++ [e])) t2.ok hg hH rfl rfl hl ⟨dx, vs ++ [y], by rw [putF_new hn hlv], by simp [hnl], al.append (atL_cons (ay.to t2) atL_nil)⟩
    exact k1 _ _ _ _ q ((t1.trans t2).trans t3) (sl.to ((t1.trans t2).trans t3))
/-- o.f = e, f an attribute that is there -/
theorem ws_fldO {ta tv : TE} {f : Str} (h : WE K T tv G M fun e M1 => WE K T ta G M1 fun d M2 => ∃ a C ns ds i, d = .ptr a ∧ getM M2 a = some (.ins C ns ds) ∧ Cls K C ∧ NoAttr K C f ∧ ns.length < 1000 ∧ ns.Nodup ∧ ns[i]? = some f ∧ a ∉ M2.lk ∧ RS.nx G (setM M2 a (.ins C ns (ds.set i e)))) : WS K T (sFld K ta tv f) G M RS := fun X σ H E ok sl k1 _ _ _ =>
  h X σ H _ ok sl fun y H1 M1 e h1 t1 ay => h1 X σ H1 _ t1.ok (sl.to t1) fun x H2 M2 d h2 t2 ax => by
    obtain ⟨a, C, ns, ds, i, rfl, hg, c, na, hz, hn, hi, hl, q⟩ := h2
    unfold At at ax
    obtain ⟨p, dx, vs, hp, hH, al⟩ := ins_at (d := .ptr a) t2.ok (.inr ⟨a, rfl, hg⟩) (by unfold At; rfl)
    cases hp
    have hnl : ns.length = ds.length := by
      obtain ⟨_, _, _, z, _⟩ := t2.ok.md _ (getM_mem hg)
      exact z
    have hlv : ns.length = vs.length := by rw [al.len]; exact hnl
    refine ⟨a, C, dx, _, ax, hH, c, na, by rw [List.length_zip]; omega, ?_⟩
    have t3 := To.write (o := .ins C dx (putF f y (ns.zip vs))) (y := .ins C ns (ds.set i e)) t2.ok hg hH rfl rfl hl ⟨dx, vs.set i y, by rw [putF_old hn hi hlv], by simp [hnl], AtL.set (ay.to t2) i al⟩
    exact k1 _ _ _ _ q ((t1.trans t2).trans t3) (sl.to ((t1.trans t2).trans t3))
/-- o.m(..) -/
theorem we_meth {C : Addr} {m : Str} {pre : Pre} {E : XK} {ta : TE} {t : TA} (h : WE K T ta G M fun d M1 => ∃ ns ds, InsD d M1 C ns ds ∧ m ∉ ns ∧ WA K T t G M1 fun es M2 => pre (d :: es) M2 R) : WE K T (tMeth C m (SpD K T pre) [] E ta t) G M R := fun X σ H Q ok sl k =>
  h X σ H _ ok sl fun v H1 M1 d h1 t1 a1 => by
    obtain ⟨ns, ds, hi, hm, h2⟩ := h1
    obtain ⟨p, dx, vs, rfl, hp, al⟩ := ins_at t1.ok hi a1
    refine ⟨p, dx, _, rfl, hp, look_none hm vs, h2 X σ H1 _ t1.ok (sl.to t1) fun us H2 M2 es q t2 a2 => ?_⟩
    refine ⟨X, d :: es, M2, R, t2.ok, ?_, q, fun v H' M' d q t a => k v H' M' d q ((t1.trans t2).trans t) a⟩
    rw [List.append_nil]
    exact atL_cons (a1.to t2) a2
theorem we_methD {C : Addr} {m : Str} {pre : Pre} {E : XK} {ta : TE} {t : TA} {dvs : List V} {dds : List D} (hd : ∀ I : Hp, AtL K I dds dvs) (h : WE K T ta G M fun d M1 => ∃ ns ds, InsD d M1 C ns ds ∧ m ∉ ns ∧ WA K T t G M1 fun es M2 => pre (d :: (es ++ dds)) M2 R) : WE K T (tMeth C m (SpD K T pre) dvs E ta t) G M R := fun X σ H Q ok sl k =>
  h X σ H _ ok sl fun v H1 M1 d h1 t1 a1 => by
    obtain ⟨ns, ds, hi, hm, h2⟩ := h1
    obtain ⟨p, dx, vs, rfl, hp, al⟩ := ins_at t1.ok hi a1
    refine ⟨p, dx, _, rfl, hp, look_none hm vs, h2 X σ H1 _ t1.ok (sl.to t1) fun us H2 M2 es q t2 a2 => ?_⟩
    exact ⟨X, d :: (es ++ dds), M2, R, t2.ok, atL_cons (a1.to t2) (a2.append (hd _)), q, fun v H' M' d q t a => k v H' M' d q ((t1.trans t2).trans t) a⟩
theorem we_prop {C : Addr} {pre : Pre} {E : XK} {ta : TE} (h : WE K T ta G M fun d M1 => ∃ ns ds, InsD d M1 C ns ds ∧ pre [d] M1 R) : WE K T (tProp C (SpD K T pre) [] E ta) G M R := fun X σ H Q ok sl k =>
  h X σ H _ ok sl fun v H1 M1 d h1 t1 a1 => by
    obtain ⟨ns, ds, hi, q⟩ := h1
    obtain ⟨p, dx, vs, rfl, hp, al⟩ := ins_at t1.ok hi a1
    exact ⟨p, dx, _, rfl, hp, X, [d], M1, R, t1.ok, atL_cons a1 atL_nil, q, fun v H' M' d q t a => k v H' M' d q (t1.trans t) a⟩
/-- a new instance, ahead of its __init__ -/
theorem To.made {x dx C : Addr} (ok : Ok K T X M H) (hx : H x = none) (hdx : H dx = none) (ne : dx ≠ x) : To K T X M H (addM M x (.ins C [] [])) (upd (upd H dx (.own x)) x (.ins C dx [])) ∧ x ∉ domM M := by
  have t1 : To K T X M H M (upd H dx (.own x)) := To.new ok hdx rfl
  have hx' : upd H dx (.own x) x = none := by rw [upd_ne (fun z => ne z.symm)]; exact hx
  obtain ⟨t2, n⟩ := To.newM (o := .ins C dx []) (y := .ins C [] []) t1.ok hx' rfl ⟨dx, [], rfl, rfl, atL_nil⟩
  exact ⟨t1.trans t2, n⟩
theorem we_make {C : Addr} {pre : Pre} {E : XK} {t : TA} (h : WA K T t G M fun es M1 => ∀ x, x ∉ domM M1 → pre (.ptr x :: es) (addM M1 x (.ins C [] [])) fun d M2 => d = .non ∧ R (.ptr x) M2) : WE K T (tMake C (SpD K T pre) [] E t) G M R := fun X σ H Q ok sl k =>
  h X σ H _ ok sl fun us H1 M1 es h1 t1 a1 x dx hx hdx ne => by
    obtain ⟨t2, n⟩ := To.made (C := C) t1.ok hx hdx ne
    refine ⟨X, .ptr x :: es, _, _, t2.ok, ?_, h1 x n, fun v H' M' d q t a => ?_⟩
    · rw [List.append_nil]
      exact atL_cons (by unfold At; rfl) (a1.to t2)
    · obtain ⟨rfl, q⟩ := q
      unfold At at a
      exact ⟨a, k _ H' M' _ q ((t1.trans t2).trans t) (by unfold At; rfl)⟩
theorem we_makeK {C : Addr} {n m : Nat} {pre : Pre} {E : XK} {t tk : TA} {gV : List V → List V → List V} {gD : List D → List D → List D} (hg : ∀ {I : Hp} {ds es : List D} {vs us : List V}, AtL K I ds vs → AtL K I es us → AtL K I (gD ds es) (gV vs us))
    (h : WA K T t G M fun es M1 => WA K T tk G M1 fun fs M2 => es.length = n ∧ fs.length = m ∧ ∀ x, x ∉ domM M2 → pre (gD (.ptr x :: es) fs) (addM M2 x (.ins C [] [])) fun d M3 => d = .non ∧ R (.ptr x) M3) : WE K T (tMakeK C n m (SpD K T pre) gV E t tk) G M R := fun X σ H Q ok sl k =>
  h X σ H _ ok sl fun us H1 M1 es h1 t1 a1 => h1 X σ H1 _ t1.ok (sl.to t1) fun ws H2 M2 fs h2 t2 a2 => by
    obtain ⟨l1, l2, h3⟩ := h2
    refine ⟨by rw [a1.len]; exact l1, by rw [a2.len]; exact l2, fun x dx hx hdx ne => ?_⟩
    obtain ⟨t3, nx⟩ := To.made (C := C) t2.ok hx hdx ne
    refine ⟨X, _, _, _, t3.ok, hg (atL_cons (d := .ptr x) (by unfold At; rfl) ((a1.to t2).to t3)) (a2.to t3), h3 x nx, fun v H' M' d q t a => ?_⟩
    obtain ⟨rfl, q⟩ := q
    unfold At at a
    exact ⟨a, k _ H' M' _ q (((t1.trans t2).trans t3).trans t) (by unfold At; rfl)⟩
end
end Dl
end
/-! ## DL5 -/
section
set_option maxRecDepth 100000
namespace Dl
open PySem PySem.Spec PyProof.Rows L2
section
variable {K : PySem.W.Frag} {T : Tb} {X : List Addr} {M M1 M2 : MS} {H H1 H2 : Hp} {G : Sl} {R : D → MS → Prop} {RT : Bool → MS → Prop} {RA : List D → MS → Prop} {RG : Sl → MS → Prop} {RS : DE} {RO : Option Int → MS → Prop}
/-! ### slices -/
theorem wo_no (q : RO none M) : WO K T tNoPart G M RO := fun X σ H Q ok sl k => k _ H M q (To.refl ok)
theorem wo_some {te : TE} (h : WE K T te G M fun d M1 => ∃ i, d = .int i ∧ RO (some i) M1) : WO K T (tPart te) G M RO := fun X σ H Q ok sl k =>
  h X σ H _ ok sl fun v H1 M1 d h1 t1 a1 => by
    obtain ⟨i, rfl, q⟩ := h1
    unfold At at a1
    exact ⟨i, a1, k _ H1 M1 q t1⟩
def SlD (K : PySem.W.Frag) (T : Tb) (r : V → Option Int → Option Int → Hp → VK → Prop) (d : D) (lo hi : Option Int) (M : MS) (R : D → MS → Prop) : Prop := ∀ (X : List Addr) (v : V) (H : Hp) (Q : VK), Ok K T X M H → At K (imm X M H) d v →
  (∀ v H' M' d, R d M' → To K T X M H M' H' → At K (imm X M' H') d v → Q v H') → r v lo hi H Q
theorem we_sl {r : V → Option Int → Option Int → Hp → VK → Prop} {te : TE} {tl th : TO} (h : WE K T te G M fun d M1 => WO K T tl G M1 fun lo M2 => WO K T th G M2 fun hi M3 => SlD K T r d lo hi M3 R) : WE K T (tSl r te tl th) G M R := fun X σ H Q ok sl k =>
  h X σ H _ ok sl fun v H1 M1 d h1 t1 a1 => h1 X σ H1 _ t1.ok (sl.to t1) fun lo H2 M2 h2 t2 => h2 X σ H2 _ t2.ok ((sl.to t1).to t2) fun hi H3 M3 h3 t3 =>
    h3 X v H3 Q t3.ok ((a1.to t2).to t3) fun z H4 M4 d q t4 a4 => k z H4 M4 d q (((t1.trans t2).trans t3).trans t4) a4
def cutD (ds : List D) (lo hi : Option Int) : List D := (ds.drop (HT.sIx ds.length 0 lo)).take (HT.sIx ds.length ds.length hi - HT.sIx ds.length 0 lo)
theorem cut_at {I : Hp} {ds : List D} {vs : List V} (a : AtL K I ds vs) (lo hi : Option Int) : AtL K I (cutD ds lo hi) (cutV vs lo hi) := by
  unfold cutD cutV
  rw [a.len]
  exact (a.drop _).take _
theorem sld_lst {ds : List D} {lo hi : Option Int} (q : R (.lst (cutD ds lo hi)) M) : SlD K T (rSlL K) (.lst ds) lo hi M R := fun X v H Q ok a k => by
  unfold At at a
  obtain ⟨p, vs, rfl, h2, h3⟩ := a
  refine ⟨p, vs, rfl, imm_sqL (.of h2), fun c hc => ?_⟩
  have t := To.new (o := .lst (cutV vs lo hi)) ok hc rfl
  refine k _ _ M _ q t ?_
  unfold At
  exact ⟨c, _, rfl, imm_new ok hc rfl, (cut_at h3 lo hi).to t⟩
theorem sld_ll {ds : List D} {lo hi : Option Int} (q : R (.lst (cutD ds lo hi)) M) : SlD K T (rSlL K) (.ll ds) lo hi M R := fun X v H Q ok a k => by
  unfold At at a
  obtain ⟨p, vs, rfl, h2, h3⟩ := a
  refine ⟨p, vs, rfl, imm_sqL h2, fun c hc => ?_⟩
  have t := To.new (o := .lst (cutV vs lo hi)) ok hc rfl
  refine k _ _ M _ q t ?_
  unfold At
  exact ⟨c, _, rfl, imm_new ok hc rfl, (cut_at h3 lo hi).to t⟩
theorem sld_tup {ds : List D} {lo hi : Option Int} (q : R (.tup (cutD ds lo hi)) M) : SlD K T (rSlA K) (.tup ds) lo hi M R := fun X v H Q ok a k => by
  have a' := a
  unfold At at a
  obtain ⟨p, vs, rfl, h2, h3⟩ := a
  refine ⟨p, vs, rfl, imm_sqT h2, fun hw => ?_, fun hw c hc => ?_⟩
  · have e : cutD ds lo hi = ds := by
      unfold cutD
      rw [h3.len] at hw
      rw [hw.1, hw.2]
      simp
    rw [e] at q
    exact k _ H M _ q (To.refl ok) a'
  · have t := To.new (o := .tup (cutV vs lo hi)) ok hc rfl
    refine k _ _ M _ q t ?_
    unfold At
    exact ⟨c, _, rfl, .of (imm_new ok hc rfl), (cut_at h3 lo hi).to t⟩
theorem sld_tp {ds : List D} {lo hi : Option Int} (q : R (.tup (cutD ds lo hi)) M) : SlD K T (rSlA K) (.tp ds) lo hi M R := fun X v H Q ok a k => sld_tup q X v H Q ok (at_tup_of_tp a) k
theorem sld_str {z : Str} {lo hi : Option Int} (hz : z.length ≤ sizeLine) (q : R (.str (cutS z lo hi)) M) : SlD K T rSlS (.str z) lo hi M R := fun X v H Q ok a k => by
  unfold At at a
  exact ⟨z, a, hz, k _ H M _ q (To.refl ok) (by unfold At; rfl)⟩
theorem cutD_to (ds : List D) (n : Nat) : cutD ds none (some (n : Int)) = ds.take n := by
  unfold cutD
  rw [HT.sIx_none, HT.sIx_nat, List.drop_zero, Nat.sub_zero]
  by_cases h : n ≤ ds.length
  · rw [Nat.min_eq_left h]
  · rw [Nat.min_eq_right (by omega), List.take_of_length_le (by omega), List.take_of_length_le (by omega)]
theorem cutD_from (ds : List D) (n : Nat) : cutD ds (some (n : Int)) none = ds.drop n := by
  unfold cutD
  rw [HT.sIx_none, HT.sIx_nat]
  by_cases h : n ≤ ds.length
  · rw [Nat.min_eq_left h, List.take_of_length_le (by rw [List.length_drop]; omega)]
  · rw [Nat.min_eq_right (by omega), List.take_of_length_le (by rw [List.length_drop]; omega), List.drop_of_length_le (by omega), List.drop_of_length_le (by omega)]
theorem cutD_mid (ds : List D) (m n : Nat) : cutD ds (some (m : Int)) (some (n : Int)) = (ds.take n).drop m := by
  unfold cutD
  rw [HT.sIx_nat, HT.sIx_nat, List.drop_take]
  by_cases h : m ≤ ds.length
  · rw [Nat.min_eq_left h]
    by_cases h2 : n ≤ ds.length
    · rw [Nat.min_eq_left h2]
    · rw [Nat.min_eq_right (by omega), List.take_of_length_le (by rw [List.length_drop]; omega), List.take_of_length_le (by rw [List.length_drop]; omega)]
  · rw [Nat.min_eq_right (show ds.length ≤ m by omega), List.drop_of_length_le (Nat.le_refl _), List.drop_of_length_le (show ds.length ≤ m by omega), List.take_nil, List.take_nil]

/-! ### built-in calls -/
theorem cad_one {r : List V → Hp → VK → Prop} {d : D} (h : ∀ (X : List Addr) (v : V) (H : Hp) (Q : VK), Ok K T X M H → At K (imm X M H) d v → (∀ v H' M' d, R d M' → To K T X M H M' H' → At K (imm X M' H') d v → Q v H') → r [v] H Q) : CaD K T r [d] M R := fun X vs H Q ok a k => by
  unfold AtL at a
  obtain ⟨v, r', rfl, a1, a2⟩ := a
  unfold AtL at a2
  subst a2
  exact h X v H Q ok a1 k
theorem cad_lenL {ds : List D} (q : R (.int (ds.length : Nat)) M) : CaD K T (fun xs H Q => ∃ p ys, xs = [V.ref p] ∧ (SqL K H p ys ∨ SqT K H p ys) ∧ Q (.int ys.length) H) [.lst ds] M R := cad_one fun X v H Q ok a k => by
  unfold At at a
  obtain ⟨p, vs, rfl, h2, h3⟩ := a
  exact ⟨p, vs, rfl, .inl (imm_sqL (.of h2)), k _ H M _ q (To.refl ok) (by unfold At; rw [h3.len])⟩
theorem cad_lenT {ds : List D} (q : R (.int (ds.length : Nat)) M) : CaD K T (fun xs H Q => ∃ p ys, xs = [V.ref p] ∧ (SqL K H p ys ∨ SqT K H p ys) ∧ Q (.int ys.length) H) [.tup ds] M R := cad_one fun X v H Q ok a k => by
  unfold At at a
  obtain ⟨p, vs, rfl, h2, h3⟩ := a
  exact ⟨p, vs, rfl, .inr (imm_sqT h2), k _ H M _ q (To.refl ok) (by unfold At; rw [h3.len])⟩
/-- len of a mutable list -/
theorem cad_lenM {a : Addr} {ds : List D} (hg : getM M a = some (.lst ds)) (q : R (.int (ds.length : Nat)) M) : CaD K T (fun xs H Q => ∃ p ys, xs = [V.ref p] ∧ (SqL K H p ys ∨ SqT K H p ys) ∧ Q (.int ys.length) H) [.ptr a] M R := cad_one fun X v H Q ok b k => by
  unfold At at b
  subst b
  obtain ⟨vs, h1, h2⟩ := ok.md _ (getM_mem hg)
  refine ⟨a, vs, rfl, .inl (.of ?_), k _ H M _ q (To.refl ok) (by unfold At; rw [h2.len])⟩
  unfold norm at h1
  split at h1
  · cases h1
  · cases h1
  · cases h1
  · exact h1
theorem cad_lenS {z : Str} (hz : z.length ≤ sizeLine) (q : R (.int (z.length : Nat)) M) : CaD K T (fun xs H Q => ∃ x n, xs = [x] ∧ LenV K x H n ∧ Q (.int n) H) [.str z] M R := cad_one fun X v H Q ok a k => by
  unfold At at a
  subst a
  exact ⟨_, z.length, rfl, ⟨hz, rfl⟩, k _ H M _ q (To.refl ok) (by unfold At; rfl)⟩
theorem cad_int1 {i : Int} (q : R (.int i) M) : CaD K T (fun xs H Q => (∃ i, xs = [V.int i] ∧ Q (.int i) H) ∨ ∃ k, xs = [V.bl k] ∧ Q (.int (if k then 1 else 0)) H) [.int i] M R := cad_one fun X v H Q ok a k => by
  unfold At at a
  subst a
  exact .inl ⟨i, rfl, k _ H M _ q (To.refl ok) (by unfold At; rfl)⟩
theorem cad_intB {b : Bool} (q : R (.int (if b then 1 else 0)) M) : CaD K T (fun xs H Q => (∃ i, xs = [V.int i] ∧ Q (.int i) H) ∨ ∃ k, xs = [V.bl k] ∧ Q (.int (if k then 1 else 0)) H) [.bl b] M R := cad_one fun X v H Q ok a k => by
  unfold At at a
  subst a
  exact .inr ⟨b, rfl, k _ H M _ q (To.refl ok) (by unfold At; rfl)⟩
theorem cad_abs {i : Int} (q : R (.int (if i < 0 then -i else i)) M) : CaD K T (fun xs H Q => ∃ i, xs = [V.int i] ∧ Q (.int (if i < 0 then -i else i)) H) [.int i] M R := cad_one fun X v H Q ok a k => by
  unfold At at a
  subst a
  exact ⟨i, rfl, k _ H M _ q (To.refl ok) (by unfold At; rfl)⟩
theorem cad_gcd {i j : Int} (q : R (.int ((Nat.gcd i.natAbs j.natAbs : Nat) : Int)) M) : CaD K T rGcd [.int i, .int j] M R := fun X vs H Q ok a k => by
  unfold AtL at a
  obtain ⟨v, r, rfl, a1, a⟩ := a
  unfold AtL at a
  obtain ⟨u, r, rfl, a2, a⟩ := a
  unfold AtL at a
  unfold At at a1 a2
  subst a a1 a2
  exact ⟨i, j, rfl, k _ H M _ q (To.refl ok) (by unfold At; rfl)⟩
theorem cad_list {ds : List D} (q : R (.lst ds) M) : CaD K T (fun xs H Q => ∃ p ys, xs = [V.ref p] ∧ (SqL K H p ys ∨ SqT K H p ys) ∧ ∀ l, H l = none → Q (.ref l) (upd H l (.lst ys))) [.lst ds] M R := cad_one fun X v H Q ok a k => by
  unfold At at a
  obtain ⟨p, vs, rfl, h2, h3⟩ := a
  refine ⟨p, vs, rfl, .inl (imm_sqL (.of h2)), fun c hc => ?_⟩
  have t := To.new (o := .lst vs) ok hc rfl
  refine k _ _ M _ q t ?_
  unfold At
  exact ⟨c, _, rfl, imm_new ok hc rfl, h3.to t⟩
theorem bls_of {I : Hp} : ∀ {bs : List Bool} {vs : List V}, AtL K I (bs.map D.bl) vs → vs = bs.map V.bl
  | [], vs, h => by unfold List.map AtL at h; exact h
  | b :: bs, vs, h => by
    rw [List.map_cons] at h
    unfold AtL at h
    obtain ⟨v, r, rfl, h1, h2⟩ := h
    unfold At at h1
    rw [h1, bls_of h2, List.map_cons]
theorem strs_of {I : Hp} : ∀ {bs : List Str} {vs : List V}, AtL K I (bs.map D.str) vs → vs = bs.map V.str
  | [], vs, h => by unfold List.map AtL at h; exact h
  | b :: bs, vs, h => by
    rw [List.map_cons] at h
    unfold AtL at h
    obtain ⟨v, r, rfl, h1, h2⟩ := h
    unfold At at h1
    rw [h1, strs_of h2, List.map_cons]
theorem ints_of {I : Hp} : ∀ {bs : List Int} {vs : List V}, AtL K I (bs.map D.int) vs → vs = bs.map V.int
  | [], vs, h => by unfold List.map AtL at h; exact h
  | b :: bs, vs, h => by
    rw [List.map_cons] at h
    unfold AtL at h
    obtain ⟨v, r, rfl, h1, h2⟩ := h
    unfold At at h1
    rw [h1, ints_of h2, List.map_cons]
theorem of_strs {I : Hp} : ∀ bs : List Str, AtL K I (bs.map D.str) (bs.map V.str)
  | [] => atL_nil
  | b :: bs => atL_cons (by unfold At; rfl) (of_strs bs)
theorem of_ints {I : Hp} : ∀ bs : List Int, AtL K I (bs.map D.int) (bs.map V.int)
  | [] => atL_nil
  | b :: bs => atL_cons (by unfold At; rfl) (of_ints bs)
theorem cad_all {bs : List Bool} (q : R (.bl (bs.all id)) M) : CaD K T (rAll K) [.lst (bs.map D.bl)] M R := cad_one fun X v H Q ok a k => by
  unfold At at a
  obtain ⟨p, vs, rfl, h2, h3⟩ := a
  rw [bls_of h3] at h2
  exact ⟨p, bs, rfl, imm_sqL (.of h2), k _ H M _ q (To.refl ok) (by unfold At; rfl)⟩
theorem cad_any {bs : List Bool} (q : R (.bl (bs.any id)) M) : CaD K T (rAny K) [.lst (bs.map D.bl)] M R := cad_one fun X v H Q ok a k => by
  unfold At at a
  obtain ⟨p, vs, rfl, h2, h3⟩ := a
  rw [bls_of h3] at h2
  exact ⟨p, bs, rfl, imm_sqL (.of h2), k _ H M _ q (To.refl ok) (by unfold At; rfl)⟩
theorem cad_sortedS {xs : List Str} (hz : xs.length < 64) (q : ∀ ys : List Str, ys.Perm xs → sortedS ys = true → R (.lst (ys.map D.str)) M) : CaD K T (rSortedS K) [.lst (xs.map D.str)] M R := cad_one fun X v H Q ok a k => by
  unfold At at a
  obtain ⟨p, vs, rfl, h2, h3⟩ := a
  rw [strs_of h3] at h2
  refine ⟨p, xs, rfl, imm_sqL (.of h2), hz, fun ys c hp hs hc => ?_⟩
  have t := To.new (o := .lst (ys.map V.str)) ok hc rfl
  refine k _ _ M _ (q ys hp hs) t ?_
  unfold At
  exact ⟨c, _, rfl, imm_new ok hc rfl, of_strs ys⟩

/-! ### dicts -/
def keyD : Key → D
  | .inl i => .int i
  | .inr x => .str x
theorem key_at {I : Hp} {k : Key} {v : V} (a : At K I (keyD k) v) : v = kV k := by
  cases k with
  | inl i => unfold keyD At at a; exact a
  | inr x => unfold keyD At at a; exact a
theorem keys_at {I : Hp} : ∀ {ks : List Key} {vs : List V}, AtL K I (ks.map keyD) vs → vs = ks.map kV
  | [], vs, h => by unfold List.map AtL at h; exact h
  | b :: bs, vs, h => by
    rw [List.map_cons] at h
    unfold AtL at h
    obtain ⟨v, r, rfl, h1, h2⟩ := h
    rw [key_at h1, keys_at h2, List.map_cons]
theorem of_key {I : Hp} (k : Key) : At K I (keyD k) (kV k) := by
  cases k with
  | inl i => unfold keyD At; rfl
  | inr x => unfold keyD At; rfl
theorem of_keys {I : Hp} : ∀ ks : List Key, AtL K I (ks.map keyD) (ks.map kV)
  | [] => atL_nil
  | b :: bs => atL_cons (of_key b) (of_keys bs)
def dval {κ : Type} [DecidableEq κ] (ks : List κ) (ds : List D) (k : κ) : Option D := ((ks.zip ds).find? fun kv => decide (kv.1 = k)).map (·.2)
theorem dval_at {κ : Type} [DecidableEq κ] {I : Hp} {k : κ} : ∀ {ks : List κ} {ds : List D} {vs : List V}, AtL K I ds vs → (∀ d, dval ks ds k = some d → ∃ v, valV (ks.zip vs) k = some v ∧ At K I d v) ∧ (dval ks ds k = none → valV (ks.zip vs) k = none)
  | [], ds, vs, _ => ⟨fun d h => by unfold dval at h; simp at h, fun _ => rfl⟩
  | n :: ks, [], vs, a => ⟨fun d h => by unfold dval at h; simp at h, fun _ => by
    unfold AtL at a
    subst a
    rfl⟩
  | n :: ks, e :: ds, vs, a => by
    unfold AtL at a
    obtain ⟨v, r, rfl, a1, a2⟩ := a
    obtain ⟨i1, i2⟩ := dval_at (k := k) (ks := ks) a2
    unfold dval valV at *
    rw [List.zip_cons_cons, List.zip_cons_cons, List.find?_cons, List.find?_cons]
    by_cases hb : n = k
    · rw [decide_eq_true hb]
      refine ⟨fun d h => ⟨v, rfl, ?_⟩, fun h => by simp at h⟩
      have e' : e = d := by simpa using h
      rw [← e']
      exact a1
    · rw [decide_eq_false hb]
      exact ⟨i1, i2⟩
/-- d is a dict with these keys -/
def DicD (d : D) (M : MS) (p : Addr) (ks : List Key) (ds : List D) : Prop := d = .dK p ks ds ∨ (d = .ptr p ∧ getM M p = some (.dK ks ds))
def DicT (d : D) (M : MS) (p : Addr) (ks : List (List Key)) (ds : List D) : Prop := d = .dT p ks ds ∨ (d = .ptr p ∧ getM M p = some (.dT ks ds))
theorem norm_rd {o : Option HO} {u : HO} {a : Addr} (h : norm (H a) = some u) : Rd H a u := by
  rcases norm_some h with e | ⟨q, e⟩
  · exact .inl e
  · exact .inr ⟨q, e⟩
theorem dic_at {p : Addr} {d : D} {v : V} {ks : List Key} {ds : List D} (ok : Ok K T X M H) (h : DicD d M p ks ds) (a : At K (imm X M H) d v) : ∃ vs, v = .ref p ∧ norm (H p) = some (.dK (ks.zip vs)) ∧ ks.length = ds.length ∧ AtL K (imm X M H) ds vs := by
  rcases h with rfl | ⟨rfl, hg⟩
  · unfold At at a
    obtain ⟨vs, h1, h2, h4, h3⟩ := a
    exact ⟨vs, h1, (imm_of h2).2.2, h4, h3⟩
  · unfold At at a
    obtain ⟨vs, h1, h4, h3⟩ := ok.md _ (getM_mem hg)
    exact ⟨vs, a, h1, h4, h3⟩
theorem dit_at {p : Addr} {d : D} {v : V} {ks : List (List Key)} {ds : List D} (ok : Ok K T X M H) (h : DicT d M p ks ds) (a : At K (imm X M H) d v) : ∃ vs, v = .ref p ∧ norm (H p) = some (.dT (ks.zip vs)) ∧ ks.length = ds.length ∧ AtL K (imm X M H) ds vs := by
  rcases h with rfl | ⟨rfl, hg⟩
  · unfold At at a
    obtain ⟨vs, h1, h2, h4, h3⟩ := a
    exact ⟨vs, h1, (imm_of h2).2.2, h4, h3⟩
  · unfold At at a
    obtain ⟨vs, h1, h4, h3⟩ := ok.md _ (getM_mem hg)
    exact ⟨vs, a, h1, h4, h3⟩
theorem we_dget {td ty : TE} (h : WE K T td G M fun d M1 => WE K T ty G M1 fun e M2 => ∃ p ks ds k f, DicD d M2 p ks ds ∧ e = keyD k ∧ dval ks ds k = some f ∧ R f M2) : WE K T (tDGet td ty) G M R := fun X σ H Q ok sl k =>
  h X σ H _ ok sl fun v H1 M1 d h1 t1 a1 => h1 X σ H1 _ t1.ok (sl.to t1) fun u H2 M2 e h2 t2 a2 => by
    obtain ⟨p, ks, ds, key, f, hd, rfl, hv, q⟩ := h2
    obtain ⟨vs, rfl, hp, _, al⟩ := dic_at t2.ok hd (a1.to t2)
    obtain ⟨w, e1, e2⟩ := (dval_at al).1 f hv
    exact ⟨p, w, rfl, .inl ⟨_, key, norm_rd (o := none) hp, key_at a2, e1.symm⟩, k _ H2 M2 f q (t1.trans t2) e2⟩
theorem we_dgetT {td ty : TE} (h : WE K T td G M fun d M1 => WE K T ty G M1 fun e M2 => ∃ p ks ds k f, DicT d M2 p ks ds ∧ e = .tp (k.map keyD) ∧ dval ks ds k = some f ∧ R f M2) : WE K T (tDGet td ty) G M R := fun X σ H Q ok sl k =>
  h X σ H _ ok sl fun v H1 M1 d h1 t1 a1 => h1 X σ H1 _ t1.ok (sl.to t1) fun u H2 M2 e h2 t2 a2 => by
    obtain ⟨p, ks, ds, key, f, hd, rfl, hv, q⟩ := h2
    obtain ⟨vs, rfl, hp, _, al⟩ := dit_at t2.ok hd (a1.to t2)
    obtain ⟨w, e1, e2⟩ := (dval_at al).1 f hv
    unfold At at a2
    obtain ⟨b, us, rfl, hb, bl⟩ := a2
    rw [keys_at bl] at hb
    exact ⟨p, w, rfl, .inr ⟨_, key, b, norm_rd (o := none) hp, rfl, imm_at hb (fun _ z => nomatch z) (fun _ z => nomatch z), e1.symm⟩, k _ H2 M2 f q (t1.trans t2) e2⟩
theorem we_din {td ty : TE} (h : WE K T ty G M fun e M1 => WE K T td G M1 fun d M2 => ∃ p ks ds k, DicD d M2 p ks ds ∧ e = keyD k ∧ R (.bl (dval ks ds k).isSome) M2) : WE K T (tDIn ty td) G M R := fun X σ H Q ok sl k =>
  h X σ H _ ok sl fun u H1 M1 e h1 t1 a1 => h1 X σ H1 _ t1.ok (sl.to t1) fun v H2 M2 d h2 t2 a2 => by
    obtain ⟨p, ks, ds, key, hd, rfl, q⟩ := h2
    obtain ⟨vs, rfl, hp, _, al⟩ := dic_at t2.ok hd a2
    refine ⟨p, _, rfl, .inl ⟨_, key, norm_rd (o := none) hp, key_at a1, rfl⟩, k _ H2 M2 _ q (t1.trans t2) ?_⟩
    unfold At
    obtain ⟨i1, i2⟩ := dval_at (k := key) (ks := ks) al
    cases e : dval ks ds key with
    | none => rw [i2 e]; rfl
    | some f =>
      obtain ⟨w, e1, _⟩ := i1 f e
      rw [e1]; rfl
theorem we_dnotin {td ty : TE} (h : WE K T ty G M fun e M1 => WE K T td G M1 fun d M2 => ∃ p ks ds k, DicD d M2 p ks ds ∧ e = keyD k ∧ R (.bl (!(dval ks ds k).isSome)) M2) : WE K T (tDNotIn ty td) G M R := fun X σ H Q ok sl k =>
  h X σ H _ ok sl fun u H1 M1 e h1 t1 a1 => h1 X σ H1 _ t1.ok (sl.to t1) fun v H2 M2 d h2 t2 a2 => by
    obtain ⟨p, ks, ds, key, hd, rfl, q⟩ := h2
    obtain ⟨vs, rfl, hp, _, al⟩ := dic_at t2.ok hd a2
    refine ⟨p, _, rfl, .inl ⟨_, key, norm_rd (o := none) hp, key_at a1, rfl⟩, k _ H2 M2 _ q (t1.trans t2) ?_⟩
    unfold At
    obtain ⟨i1, i2⟩ := dval_at (k := key) (ks := ks) al
    cases e : dval ks ds key with
    | none => rw [i2 e]; rfl
    | some f =>
      obtain ⟨w, e1, _⟩ := i1 f e
      rw [e1]; rfl
theorem zip_any {κ : Type} [DecidableEq κ] {k : κ} {ks : List κ} {vs : List V} (hl : ks.length = vs.length) : ((ks.zip vs).any fun kv => decide (kv.1 = k)) = decide (k ∈ ks) := by
  have e : (ks.zip vs).map (·.1) = ks := List.map_fst_zip (by omega)
  rw [show (ks.zip vs).any (fun kv => decide (kv.1 = k)) = ((ks.zip vs).map (·.1)).any (fun z => decide (z = k)) by rw [List.any_map]; rfl, e]
  by_cases h : k ∈ ks
  · rw [decide_eq_true h]
    exact List.any_eq_true.mpr ⟨k, h, by simp⟩
  · rw [decide_eq_false h]
    refine List.any_eq_false.mpr fun z hz => ?_
    simp only [decide_eq_true_eq]
    rintro rfl
    exact h hz
theorem zip_put {κ : Type} [DecidableEq κ] {k : κ} {v : V} : ∀ {ks : List κ} {vs : List V}, k ∉ ks → (ks.zip vs).map (fun kv => if kv.1 = k then (kv.1, v) else kv) = ks.zip vs
  | [], vs, _ => rfl
  | n :: ks, [], _ => rfl
  | n :: ks, u :: vs, h => by
    rw [List.mem_cons, not_or] at h
    rw [List.zip_cons_cons, List.map_cons, if_neg (fun z => h.1 z.symm), zip_put h.2]
theorem putK_new {κ : Type} [DecidableEq κ] {k : κ} {v : V} {ks : List κ} {vs : List V} (hl : ks.length = vs.length) (h : k ∉ ks) : putK (ks.zip vs) k v = (ks ++ [k]).zip (vs ++ [v]) := by
  unfold putK
  rw [zip_any hl, decide_eq_false h, if_neg Bool.false_ne_true, List.zip_append hl]
  rfl
theorem putK_old {κ : Type} [DecidableEq κ] {k : κ} {v : V} {ks : List κ} {vs : List V} {i : Nat} (hl : ks.length = vs.length) (hn : ks.Nodup) (h : ks[i]? = some k) : putK (ks.zip vs) k v = ks.zip (vs.set i v) := by
  unfold putK
  rw [zip_any hl, decide_eq_true (List.mem_of_getElem? h), if_pos rfl]
  induction ks generalizing vs i with
  | nil => simp at h
  | cons n ks ih =>
    cases vs with
    | nil => cases hl
    | cons u vs =>
      have hn' := List.nodup_cons.mp hn
      cases i with
      | zero =>
        have e : n = k := by simpa using h
        rw [List.zip_cons_cons, List.map_cons, if_pos e, zip_put (by rw [← e]; exact hn'.1)]
        rfl
      | succ i =>
        have h' : ks[i]? = some k := by simpa using h
        have hne : ¬ n = k := fun z => hn'.1 (z ▸ List.mem_of_getElem? h')
        rw [List.zip_cons_cons, List.map_cons, if_neg hne, ih (by simpa using hl) hn'.2 h']
        rfl
theorem mdk_at {a : Addr} {ks : List Key} {ds : List D} (ok : Ok K T X M H) (hg : getM M a = some (.dK ks ds)) (hl : a ∉ M.lk) : ∃ vs, H a = some (.dK (ks.zip vs)) ∧ ks.length = ds.length ∧ AtL K (imm X M H) ds vs := by
  obtain ⟨vs, h1, h2, h3⟩ := ok.md _ (getM_mem hg)
  refine ⟨vs, ?_, h2, h3⟩
  rcases norm_some h1 with e | ⟨q, e⟩
  · exact e
  · exact absurd (ok.lk a q _ e) hl
theorem mdt_at {a : Addr} {ks : List (List Key)} {ds : List D} (ok : Ok K T X M H) (hg : getM M a = some (.dT ks ds)) (hl : a ∉ M.lk) : ∃ vs, H a = some (.dT (ks.zip vs)) ∧ ks.length = ds.length ∧ AtL K (imm X M H) ds vs := by
  obtain ⟨vs, h1, h2, h3⟩ := ok.md _ (getM_mem hg)
  refine ⟨vs, ?_, h2, h3⟩
  rcases norm_some h1 with e | ⟨q, e⟩
  · exact e
  · exact absurd (ok.lt a q _ e) hl
/-- d[k] = v: a new key; an old one -/
theorem ws_dputN {td ty tv : TE} (h : WE K T tv G M fun f M1 => WE K T td G M1 fun d M2 => WE K T ty G M2 fun e M3 => ∃ a ks ds k, d = .ptr a ∧ getM M3 a = some (.dK ks ds) ∧ e = keyD k ∧ k ∉ ks ∧ ks.length < 1000 ∧ a ∉ M3.lk ∧ RS.nx G (setM M3 a (.dK (ks ++ [k]) (ds ++ [f])))) :
    WS K T (sDPut td ty tv) G M RS := fun X σ H E ok sl k1 _ _ _ =>
  h X σ H _ ok sl fun w H1 M1 f h1 t1 aw => h1 X σ H1 _ t1.ok (sl.to t1) fun v H2 M2 d h2 t2 av => h2 X σ H2 _ t2.ok ((sl.to t1).to t2) fun u H3 M3 e h3 t3 au => by
    obtain ⟨a, ks, ds, key, rfl, hg, rfl, hn, hz, hl, q⟩ := h3
    unfold At at av
    obtain ⟨vs, hH, hk, al⟩ := mdk_at t3.ok hg hl
    have hlv : ks.length = vs.length := by rw [al.len]; exact hk
    refine ⟨a, _, av, .inl ⟨_, key, hH, key_at au, by rw [List.length_zip]; exact Nat.lt_of_le_of_lt (Nat.min_le_left _ _) (small1000 (by omega)), rfl⟩, ?_⟩
    have t4 := To.write (o := .dK (putK (ks.zip vs) key w)) (y := .dK (ks ++ [key]) (ds ++ [f])) t3.ok hg hH rfl rfl hl ⟨vs ++ [w], by rw [putK_new hlv hn], by simp [hk], al.append (atL_cons ((aw.to t2).to t3) atL_nil)⟩
    have tt := ((t1.trans t2).trans t3).trans t4
    exact k1 _ _ _ _ q tt (sl.to tt)
theorem ws_dputO {td ty tv : TE} (h : WE K T tv G M fun f M1 => WE K T td G M1 fun d M2 => WE K T ty G M2 fun e M3 => ∃ a ks ds k i, d = .ptr a ∧ getM M3 a = some (.dK ks ds) ∧ e = keyD k ∧ ks.Nodup ∧ ks[i]? = some k ∧ ks.length < 1000 ∧ a ∉ M3.lk ∧ RS.nx G (setM M3 a (.dK ks (ds.set i f)))) :
    WS K T (sDPut td ty tv) G M RS := fun X σ H E ok sl k1 _ _ _ =>
  h X σ H _ ok sl fun w H1 M1 f h1 t1 aw => h1 X σ H1 _ t1.ok (sl.to t1) fun v H2 M2 d h2 t2 av => h2 X σ H2 _ t2.ok ((sl.to t1).to t2) fun u H3 M3 e h3 t3 au => by
    obtain ⟨a, ks, ds, key, i, rfl, hg, rfl, hn, hi, hz, hl, q⟩ := h3
    unfold At at av
    obtain ⟨vs, hH, hk, al⟩ := mdk_at t3.ok hg hl
    have hlv : ks.length = vs.length := by rw [al.len]; exact hk
    refine ⟨a, _, av, .inl ⟨_, key, hH, key_at au, by rw [List.length_zip]; exact Nat.lt_of_le_of_lt (Nat.min_le_left _ _) (small1000 (by omega)), rfl⟩, ?_⟩
    have t4 := To.write (o := .dK (putK (ks.zip vs) key w)) (y := .dK ks (ds.set i f)) t3.ok hg hH rfl rfl hl ⟨vs.set i w, by rw [putK_old hlv hn hi], by simp [hk], AtL.set ((aw.to t2).to t3) i al⟩
    have tt := ((t1.trans t2).trans t3).trans t4
    exact k1 _ _ _ _ q tt (sl.to tt)
theorem ws_dputT {td ty tv : TE} (h : WE K T tv G M fun f M1 => WE K T td G M1 fun d M2 => WE K T ty G M2 fun e M3 => ∃ a ks ds k, d = .ptr a ∧ getM M3 a = some (.dT ks ds) ∧ e = .tp (k.map keyD) ∧ k ∉ ks ∧ ks.length < 1000 ∧ a ∉ M3.lk ∧ RS.nx G (setM M3 a (.dT (ks ++ [k]) (ds ++ [f])))) :
    WS K T (sDPut td ty tv) G M RS := fun X σ H E ok sl k1 _ _ _ =>
  h X σ H _ ok sl fun w H1 M1 f h1 t1 aw => h1 X σ H1 _ t1.ok (sl.to t1) fun v H2 M2 d h2 t2 av => h2 X σ H2 _ t2.ok ((sl.to t1).to t2) fun u H3 M3 e h3 t3 au => by
    obtain ⟨a, ks, ds, key, rfl, hg, rfl, hn, hz, hl, q⟩ := h3
    unfold At at av au
    obtain ⟨b, us, rfl, hb, bl⟩ := au
    rw [keys_at bl] at hb
    obtain ⟨vs, hH, hk, al⟩ := mdt_at t3.ok hg hl
    have hlv : ks.length = vs.length := by rw [al.len]; exact hk
    refine ⟨a, _, av, .inr ⟨_, key, b, hH, rfl, imm_at hb (fun _ z => nomatch z) (fun _ z => nomatch z), by rw [List.length_zip]; exact Nat.lt_of_le_of_lt (Nat.min_le_left _ _) (small1000 (by omega)), rfl⟩, ?_⟩
    have t4 := To.write (o := .dT (putK (ks.zip vs) key w)) (y := .dT (ks ++ [key]) (ds ++ [f])) t3.ok hg hH rfl rfl hl ⟨vs ++ [w], by rw [putK_new hlv hn], by simp [hk], al.append (atL_cons ((aw.to t2).to t3) atL_nil)⟩
    have tt := ((t1.trans t2).trans t3).trans t4
    exact k1 _ _ _ _ q tt (sl.to tt)
/-! ### a mutable list's methods -/
theorem ml_at {a : Addr} {ds : List D} (ok : Ok K T X M H) (hg : getM M a = some (.lst ds)) : ∃ vs, H a = some (.lst vs) ∧ AtL K (imm X M H) ds vs := by
  obtain ⟨vs, h1, h2⟩ := ok.md _ (getM_mem hg)
  refine ⟨vs, ?_, h2⟩
  unfold norm at h1
  split at h1
  · cases h1
  · cases h1
  · cases h1
  · exact h1
abbrev rInsert : V → List V → Hp → VK → Prop := fun x vs H Q => ∃ (l : Addr) (xs : List V) (i : Int) (y : V), x = .ref l ∧ vs = [.int i, y] ∧ H l = some (.lst xs) ∧ xs.length < sizeLine ∧ 0 ≤ i ∧ i < 2 ^ 63 ∧
    Q .non (upd H l (.lst (xs.take i.toNat ++ [y] ++ xs.drop i.toNat)))
theorem we_insert {to : TE} {t : TA} (h : WE K T to G M fun d M1 => ∃ a ds0, d = .ptr a ∧ getM M1 a = some (.lst ds0) ∧ WA K T t G M1 fun es M2 => ∃ (i : Nat) (e : D) (ds : List D), es = [.int (i : Nat), e] ∧ getM M2 a = some (.lst ds) ∧ ds.length < 1000 ∧ i < 1000 ∧ a ∉ M2.lk ∧ R .non (setM M2 a (.lst (ds.take i ++ [e] ++ ds.drop i)))) :
    WE K T (tBM K "list" rInsert to t) G M R := fun X σ H Q ok sl k =>
  h X σ H _ ok sl fun v H1 M1 d h1 t1 a1 => by
    obtain ⟨a, ds0, rfl, hg0, h2⟩ := h1
    unfold At at a1
    subst a1
    obtain ⟨vs0, hH0, _⟩ := ml_at t1.ok hg0
    refine ⟨.inl ⟨rfl, _, .of hH0⟩, h2 X σ H1 _ t1.ok (sl.to t1) fun us H2 M2 es h3 t2 a2 => ?_⟩
    obtain ⟨i, e, ds, rfl, hg, hz, hi, hl, q⟩ := h3
    unfold AtL at a2
    obtain ⟨v1, r, rfl, b1, a2⟩ := a2
    unfold AtL at a2
    obtain ⟨v2, r, rfl, b2, a2⟩ := a2
    unfold AtL at a2
    unfold At at b1
    subst a2 b1
    obtain ⟨vs, hH, al⟩ := ml_at t2.ok hg
    refine ⟨a, vs, _, v2, rfl, rfl, hH, by rw [al.len]; exact small1000 (by omega), by omega, by omega, ?_⟩
    rw [Int.toNat_natCast]
    have t3 := To.write (o := .lst (vs.take i ++ [v2] ++ vs.drop i)) (y := .lst (ds.take i ++ [e] ++ ds.drop i)) t2.ok hg hH rfl rfl hl ⟨_, rfl, ((al.take i).append (atL_cons b2 atL_nil)).append (al.drop i)⟩
    exact k _ _ _ _ q ((t1.trans t2).trans t3) (by unfold At; rfl)
theorem we_append {to : TE} {t : TA} (h : WE K T to G M fun d M1 => ∃ a ds0, d = .ptr a ∧ getM M1 a = some (.lst ds0) ∧ WA K T t G M1 fun es M2 => ∃ (e : D) (ds : List D), es = [e] ∧ getM M2 a = some (.lst ds) ∧ ds.length < 1000 ∧ a ∉ M2.lk ∧ R .non (setM M2 a (.lst (ds ++ [e])))) :
    WE K T (tBM K "list" rAppend to t) G M R := fun X σ H Q ok sl k =>
  h X σ H _ ok sl fun v H1 M1 d h1 t1 a1 => by
    obtain ⟨a, ds0, rfl, hg0, h2⟩ := h1
    unfold At at a1
    subst a1
    obtain ⟨vs0, hH0, _⟩ := ml_at t1.ok hg0
    refine ⟨.inl ⟨rfl, _, .of hH0⟩, h2 X σ H1 _ t1.ok (sl.to t1) fun us H2 M2 es h3 t2 a2 => ?_⟩
    obtain ⟨e, ds, rfl, hg, hz, hl, q⟩ := h3
    unfold AtL at a2
    obtain ⟨v2, r, rfl, b2, a2⟩ := a2
    unfold AtL at a2
    subst a2
    obtain ⟨vs, hH, al⟩ := ml_at t2.ok hg
    refine ⟨a, vs, v2, rfl, rfl, hH, by rw [al.len]; exact small1000 (by omega), ?_⟩
    have t3 := To.write (o := .lst (vs ++ [v2])) (y := .lst (ds ++ [e])) t2.ok hg hH rfl rfl hl ⟨_, rfl, al.append (atL_cons b2 atL_nil)⟩
    exact k _ _ _ _ q ((t1.trans t2).trans t3) (by unfold At; rfl)
/-! ### the lock of a dict that is walked -/
theorem To.lock {d : Addr} {u : HO} {od : Obj} (ok : Ok K T X M H) (hd : H d = some u) (hu : (∃ k, u = .dK k) ∨ ∃ k, u = .dT k) (hX : d ∉ X) :
    Ok K T X { M with lk := d :: M.lk } (upd H d (.frz od u)) ∧ imm X { M with lk := d :: M.lk } (upd H d (.frz od u)) = imm X M H := by
  have en : norm (some (.frz od u)) = norm (some u) := by
    rcases hu with ⟨k, rfl⟩ | ⟨k, rfl⟩ <;> rfl
  have eb : ∀ b, norm (upd H d (.frz od u) b) = norm (H b) := fun b => by
    by_cases hb : b = d
    · rw [hb, upd_same, hd, en]
    · rw [upd_ne hb]
  have ei : imm X { M with lk := d :: M.lk } (upd H d (.frz od u)) = imm X M H := by
    funext b
    unfold imm
    rw [eb]
  have du : datHO u = true := by rcases hu with ⟨k, rfl⟩ | ⟨k, rfl⟩ <;> rfl
  refine ⟨⟨ok.nd, ok.ax, fun a ha => ?_, fun q hq => ?_, fun b z k h => ?_, fun b z k h => ?_, fun b hb => ?_, tabs_upd ok.tb hd du⟩, ei⟩
  · rw [upd_ne (fun z => hX (by rw [← z]; exact ha))]; exact ok.hd a ha
  · rw [ei, eb]
    exact ok.md q hq
  · by_cases hb : b = d
    · rw [hb]; exact List.mem_cons_self
    · rw [upd_ne hb] at h; exact List.mem_cons_of_mem _ (ok.lk b z k h)
  · by_cases hb : b = d
    · rw [hb]; exact List.mem_cons_self
    · rw [upd_ne hb] at h; exact List.mem_cons_of_mem _ (ok.lt b z k h)
  · by_cases hb' : b = d
    · exact ⟨_, _, by rw [hb', upd_same]⟩
    · rw [upd_ne hb']
      rcases List.mem_cons.mp hb with z | z
      · exact absurd z hb'
      · exact ok.lz b z
theorem To.unlock {d : Addr} {u : HO} {od : Obj} {l : List Addr} (ok : Ok K T X M1 H1) (hd : H1 d = some (.frz od u)) (hu : (∃ k, u = .dK k) ∨ ∃ k, u = .dT k) (hX : d ∉ X) (hl : M1.lk = d :: l) (hn : d ∉ l) :
    Ok K T X { M1 with lk := l } (upd H1 d u) ∧ imm X { M1 with lk := l } (upd H1 d u) = imm X M1 H1 := by
  have en : norm (some (.frz od u)) = norm (some u) := by
    rcases hu with ⟨k, rfl⟩ | ⟨k, rfl⟩ <;> rfl
  have eb : ∀ b, norm (upd H1 d u b) = norm (H1 b) := fun b => by
    by_cases hb : b = d
    · rw [hb, upd_same, hd, en]
    · rw [upd_ne hb]
  have ei : imm X { M1 with lk := l } (upd H1 d u) = imm X M1 H1 := by
    funext b
    unfold imm
    rw [eb]
  have nf : ∀ o w, u ≠ .frz o w := by rcases hu with ⟨k, rfl⟩ | ⟨k, rfl⟩ <;> exact fun _ _ z => nomatch z
  refine ⟨⟨ok.nd, ok.ax, fun a ha => ?_, fun q hq => ?_, fun b z k h => ?_, fun b z k h => ?_, fun b hb => ?_, ?_⟩, ei⟩
  · rw [upd_ne (fun z => hX (by rw [← z]; exact ha))]; exact ok.hd a ha
  · rw [ei, eb]
    exact ok.md q hq
  · by_cases hb : b = d
    · rw [hb, upd_same] at h
      exact absurd (Option.some.inj h) (nf _ _)
    · rw [upd_ne hb] at h
      have := ok.lk b z k h
      rw [hl] at this
      rcases List.mem_cons.mp this with q | q
      · exact absurd q hb
      · exact q
  · by_cases hb : b = d
    · rw [hb, upd_same] at h
      exact absurd (Option.some.inj h) (nf _ _)
    · rw [upd_ne hb] at h
      have := ok.lt b z k h
      rw [hl] at this
      rcases List.mem_cons.mp this with q | q
      · exact absurd q hb
      · exact q
  · have hb' : b ≠ d := fun z => hn (by rw [← z]; exact hb)
    rw [upd_ne hb']
    exact ok.lz b (by rw [hl]; exact List.mem_cons_of_mem _ hb)
  · intro q hq
    obtain ⟨ps, h1, h2, h3⟩ := ok.tb q hq
    refine ⟨ps, ?_, h2, fun pos cv hc => ?_⟩
    · rw [upd_ne]
      · exact h1
      · intro z
        rw [z, hd] at h1
        cases h1
    · obtain ⟨c, e1, e2⟩ := h3 pos cv hc
      refine ⟨c, e1, ?_⟩
      rw [upd_ne]
      · exact e2
      · intro z
        rw [z, hd] at e2
        cases e2
end
end Dl
end
/-! ## DL6 -/
section
set_option maxRecDepth 100000
namespace Dl
open PySem PySem.Spec PyProof.Rows L2
section
variable {K : PySem.W.Frag} {T : Tb} {X : List Addr} {M M1 M2 : MS} {H H1 H2 : Hp} {G : Sl} {R : D → MS → Prop} {RT : Bool → MS → Prop} {RA : List D → MS → Prop} {RG : Sl → MS → Prop} {RS : DE} {RO : Option Int → MS → Prop}
/-! ### a dict walked under its lock -/
/-- the dict at p is seen from the slots -/
def Loc (K : PySem.W.Frag) (T : Tb) (G : Sl) (M : MS) (p : Addr) : Prop := ∀ (X : List Addr) (σ : L2.St) (H : Hp), Ok K T X M H → Slots K (imm X M H) σ G → p ∉ X ∧ ∃ u, norm (H p) = some u ∧ ((∃ k, u = .dK k) ∨ ∃ k, u = .dT k)
theorem loc_dK {i : Nat} {p : Addr} {ks : List Key} {ds : List D} (h : G[i]? = some (some (.dK p ks ds))) : Loc K T G M p := fun X σ H ok sl => by
  obtain ⟨v, _, a⟩ := sl.2 i _ h
  unfold At at a
  obtain ⟨vs, _, h2, _⟩ := a
  obtain ⟨a1, _, a3⟩ := imm_of h2
  exact ⟨a1, _, a3, .inl ⟨_, rfl⟩⟩
theorem loc_dT {i : Nat} {p : Addr} {ks : List (List Key)} {ds : List D} (h : G[i]? = some (some (.dT p ks ds))) : Loc K T G M p := fun X σ H ok sl => by
  obtain ⟨v, _, a⟩ := sl.2 i _ h
  unfold At at a
  obtain ⟨vs, _, h2, _⟩ := a
  obtain ⟨a1, _, a3⟩ := imm_of h2
  exact ⟨a1, _, a3, .inr ⟨_, rfl⟩⟩
theorem loc_mK {p : Addr} {ks : List Key} {ds : List D} (h : getM M p = some (.dK ks ds)) : Loc K T G M p := fun X σ H ok sl => by
  obtain ⟨vs, h1, _⟩ := ok.md _ (getM_mem h)
  exact ⟨ok.ax p (getM_dom h), _, h1, .inl ⟨_, rfl⟩⟩
theorem loc_mT {p : Addr} {ks : List (List Key)} {ds : List D} (h : getM M p = some (.dT ks ds)) : Loc K T G M p := fun X σ H ok sl => by
  obtain ⟨vs, h1, _⟩ := ok.md _ (getM_mem h)
  exact ⟨ok.ax p (getM_dom h), _, h1, .inr ⟨_, rfl⟩⟩
def lockM (M : MS) (p : Addr) : MS := { M with lk := p :: M.lk }
def freeM (M : MS) : MS := { M with lk := [] }
theorem we_lock {t : TE} {p : Addr} (hp : Loc K T G M p) (hl : M.lk = []) (h : WE K T t G (lockM M p) fun d M' => R d (freeM M')) : WE K T (tLockE t) G M R := fun X σ H Q ok sl k => by
  obtain ⟨pX, u, hu, hk⟩ := hp X σ H ok sl
  have hH : H p = some u := by
    rcases norm_some hu with e | ⟨q, e⟩
    · exact e
    · rcases hk with ⟨k', rfl⟩ | ⟨k', rfl⟩
      · have := ok.lk p q k' e
        rw [hl] at this
        cases this
      · have := ok.lt p q k' e
        rw [hl] at this
        cases this
  have mu : Mut (some u) := by rcases hk with ⟨k', rfl⟩ | ⟨k', rfl⟩ <;> exact True.intro
  refine ⟨p, u, hH, mu, fun od => ?_⟩
  obtain ⟨ok1, e1⟩ := To.lock (od := od) ok hH hk pX
  refine h X σ _ _ ok1 (by rw [show lockM M p = { M with lk := p :: M.lk } from rfl, e1]; exact sl) fun v H' M' d q t a => ?_
  have hp' : H' p = some (.frz od u) := (t.ev.lf p List.mem_cons_self).trans upd_same
  have hlk : M'.lk = p :: [] := by
    have := t.ev.lk
    rw [this]
    show p :: M.lk = _
    rw [hl]
  refine ⟨hp', ?_⟩
  obtain ⟨ok2, e2⟩ := To.unlock t.ok hp' hk pX hlk (by simp)
  have ex : Ex (imm X M H) (imm X (freeM M') (upd H' p u)) := by
    have := t.ev.ex
    rw [show lockM M p = { M with lk := p :: M.lk } from rfl, e1] at this
    rw [show freeM M' = { M' with lk := [] } from rfl, e2]
    exact this
  refine k v _ (freeM M') d q ⟨ok2, ⟨ex, fun a ha => ?_, ?_, fun a ha => ?_⟩⟩ ?_
  · have n : a ≠ p := fun z => pX (by rw [← z]; exact ha)
    rw [upd_ne n, t.ev.fx a ha, upd_ne n]
  · show ([] : List Addr) = M.lk
    rw [hl]
  · rw [hl] at ha
    cases ha
  · rw [show freeM M' = { M' with lk := [] } from rfl, e2]
    exact a
theorem zip_get {κ : Type} {ks : List κ} {vs : List V} {i : Nat} {k : κ} (hl : ks.length = vs.length) (h : ks[i]? = some k) : ∃ v, (ks.zip vs)[i]? = some (k, v) := by
  obtain ⟨hi, e⟩ := List.getElem?_eq_some_iff.mp h
  exact ⟨vs[i]'(by omega), by rw [List.getElem?_zip_eq_some]; exact ⟨h, List.getElem?_eq_getElem _⟩⟩
theorem tup_ndom {q : Addr} {vs : List V} (ok : Ok K T X M H) (h : H q = some (.tup vs)) : q ∉ M.m.map (·.1) := fun z => by
  obtain ⟨e, he, rfl⟩ := List.mem_map.mp z
  have md := ok.md e he
  rw [h, norm_plain rfl] at md
  obtain ⟨a, x⟩ := e
  cases x with
  | lst ds => obtain ⟨_, h1, _⟩ := md; cases h1
  | dK ks ds => obtain ⟨_, h1, _⟩ := md; cases h1
  | dT ks ds => obtain ⟨_, h1, _⟩ := md; cases h1
  | ins C ns ds => obtain ⟨_, _, h1, _⟩ := md; cases h1
  | src => obtain ⟨_, _, _, _, _, _, h1, _⟩ := md; cases h1
/-- for k in d, the dict locked -/
theorem wi_keys {td : TE} (h : WE K T td G M fun d M1 => ∃ p ks ds, DicD d M1 p ks ds ∧ p ∈ M1.lk ∧ RA (ks.map keyD) M1) : WI K T (iKeys td) G M RA := fun X σ H Q ok sl k =>
  h X σ H _ ok sl fun v H1 M1 d h1 t1 a1 => by
    obtain ⟨p, ks, ds, hd, hm, q⟩ := h1
    obtain ⟨vs, rfl, hp, hk, al⟩ := dic_at t1.ok hd a1
    obtain ⟨o, u, hf⟩ := t1.ok.lz p hm
    have hH : H1 p = some (.frz o (.dK (ks.zip vs))) := by
      rw [hf] at hp
      unfold norm at hp
      split at hp
      · cases hp
      · rename_i e; cases e; cases hp; exact hf
      · rename_i e; cases e; cases hp
      · rename_i n1 n2 n3; cases hp
    have hlv : ks.length = vs.length := by rw [al.len]; exact hk
    refine ⟨p, o, rfl, .inl ⟨_, hH, k _ H1 M1 _ q t1 fun X' M' H' ok' ex lf i => ⟨fun e he => ?_, fun hl => ?_⟩⟩⟩
    · have hH' : H' p = some (.frz o (.dK (ks.zip vs))) := (lf p hm).trans hH
      rw [List.getElem?_map] at he
      obtain ⟨key, e1, rfl⟩ := Option.map_eq_some_iff.mp he
      obtain ⟨w, ew⟩ := zip_get hlv e1
      refine ⟨⟨hH', (List.getElem?_eq_some_iff.mp ew).1⟩, fun x H'' hy => ?_⟩
      obtain ⟨rfl, k', v', e2, rfl⟩ := hy
      rw [ew] at e2
      cases e2
      exact ⟨To.refl ok', of_key _⟩
    · rw [List.length_map] at hl
      exact ⟨(lf p hm).trans hH, by rw [List.length_zip]; omega⟩
theorem wi_keysT {td : TE} (h : WE K T td G M fun d M1 => ∃ p ks ds, DicT d M1 p ks ds ∧ p ∈ M1.lk ∧ RA (ks.map fun k => .tp (k.map keyD)) M1) : WI K T (iKeys td) G M RA := fun X σ H Q ok sl k =>
  h X σ H _ ok sl fun v H1 M1 d h1 t1 a1 => by
    obtain ⟨p, ks, ds, hd, hm, q⟩ := h1
    obtain ⟨vs, rfl, hp, hk, al⟩ := dit_at t1.ok hd a1
    obtain ⟨o, u, hf⟩ := t1.ok.lz p hm
    have hH : H1 p = some (.frz o (.dT (ks.zip vs))) := by
      rw [hf] at hp
      unfold norm at hp
      split at hp
      · cases hp
      · rename_i e; cases e; cases hp
      · rename_i e; cases e; cases hp; exact hf
      · rename_i n1 n2 n3; cases hp
    have hlv : ks.length = vs.length := by rw [al.len]; exact hk
    refine ⟨p, o, rfl, .inr ⟨_, hH, k _ H1 M1 _ q t1 fun X' M' H' ok' ex lf i => ⟨fun e he => ?_, fun hl => ?_⟩⟩⟩
    · have hH' : H' p = some (.frz o (.dT (ks.zip vs))) := (lf p hm).trans hH
      rw [List.getElem?_map] at he
      obtain ⟨key, e1, rfl⟩ := Option.map_eq_some_iff.mp he
      obtain ⟨w, ew⟩ := zip_get hlv e1
      refine ⟨⟨hH', (List.getElem?_eq_some_iff.mp ew).1⟩, fun x H'' hy => ?_⟩
      obtain ⟨rfl, k', v', q', e2, rfl, e3⟩ := hy
      rw [ew] at e2
      cases e2
      refine ⟨To.refl ok', ?_⟩
      unfold At
      refine ⟨q', _, rfl, ?_, of_keys _⟩
      rw [imm_mk, e3]
      · rfl
      · intro z
        obtain ⟨u, eu, du⟩ := ok'.hd q' z
        rw [e3] at eu
        cases eu
        cases du
      · exact fun z => tup_ndom ok' e3 z
    · rw [List.length_map] at hl
      exact ⟨(lf p hm).trans hH, by rw [List.length_zip]; omega⟩
end
end Dl
end
/-! ## DL7 -/
section
set_option maxRecDepth 100000
namespace Dl
open PySem PySem.Spec PyProof.Rows L2
section
variable {K : PySem.W.Frag} {T : Tb} {X : List Addr} {M M1 M2 : MS} {H H1 H2 : Hp} {G : Sl} {R : D → MS → Prop} {RT : Bool → MS → Prop} {RA : List D → MS → Prop} {RG : Sl → MS → Prop} {RS : DE} {RO : Option Int → MS → Prop}
/-- {k: v for ..}: keys that come once -/
theorem we_dc {wi : TI} {g : TG} {tt : TT} {tk tv : TE} {vs : List Nat} (h : WI K T wi G M fun ds M1 => ds.length ≤ 1000 ∧ ∃ P : Nat → List Key → List D → MS → Prop, P 0 [] [] M1 ∧
      (∀ (i : Nat) (ks : List Key) (acc : List D) (d : D) (M2 : MS), ds[i]? = some d → P i ks acc M2 → WGv K T vs g d (wipeD G vs) M2 fun G2 M3 => WT K T tt G2 M3 fun b M4 => if b = true then WE K T tk G2 M4 fun e M5 => WE K T tv G2 M5 fun y M6 => ∃ k, e = keyD k ∧ k ∉ ks ∧ P (i + 1) (ks ++ [k]) (acc ++ [y]) M6 else P (i + 1) ks acc M4) ∧
      ∀ p ks acc M2, P ds.length ks acc M2 → ks.length = acc.length → R (.dK p ks acc) M2) : WE K T (tDc wi g tt tk tv vs) G M R := fun X σ H Q ok sl k =>
  h X σ H _ ok sl fun J H1 M1 ds h1 t1 it => by
    obtain ⟨hz, P, p0, turn, done⟩ := h1
    intro L hL
    refine ⟨fun i m H' => m = ds.length - i ∧ i ≤ ds.length ∧ ∃ ks acc us M', ks.length ≤ i ∧ ks.length = acc.length ∧ P i ks acc M' ∧ Mid K T X L M1 H1 M' H' ∧ H' L = some (.dK (ks.zip us)) ∧ AtL K (imm (L :: X) M' H') acc us,
      ⟨ds.length, by omega, Nat.zero_le _, [], [], [], M1, Nat.le_refl _, rfl, p0, Mid.start t1.ok hL rfl rfl, upd_same, atL_nil⟩, ?_⟩
    rintro i m H' ⟨rfl, hi, ks, acc, us, M', hks, hka, p, t, hL', al⟩
    have J1 := it (L :: X) M' H' t.ok t.ex t.lf i
    by_cases hlt : i < ds.length
    · obtain ⟨go, yl⟩ := J1.1 ds[i] (List.getElem?_eq_getElem hlt)
      refine .inr ⟨go, fun H2 => ∃ ks acc us M2, ks.length ≤ i + 1 ∧ ks.length = acc.length ∧ P (i + 1) ks acc M2 ∧ Mid K T X L M1 H1 M2 H2 ∧ H2 L = some (.dK (ks.zip us)) ∧ AtL K (imm (L :: X) M2 H2) acc us, fun H2 q => ⟨ds.length - (i + 1), by omega, rfl, hlt, q⟩, fun x H2 hy => ?_⟩
      obtain ⟨t2, a2⟩ := yl x H2 hy
      have sl2 : Slots K (imm (L :: X) M' H2) (wipe σ vs) (wipeD G vs) := (((sl.to t1).mono t.ex).to t2).wipe vs
      refine turn i ks acc ds[i] M' (List.getElem?_eq_getElem hlt) p (L :: X) x _ H2 _ t2.ok sl2 a2 fun σ3 H3 G3 M3 w3 q3 t3 s3 => ⟨w3.trans (wipe_idem σ vs), ?_⟩
      refine q3 (L :: X) σ3 H3 _ t3.ok s3 fun b H4 M4 q4 t4 => ?_
      have t04 := ((t.to t2).to t3).to t4
      have hL4 : H4 L = some (.dK (ks.zip us)) := by
        rw [t4.ev.fx L List.mem_cons_self, t3.ev.fx L List.mem_cons_self, t2.ev.fx L List.mem_cons_self]; exact hL'
      have al4 : AtL K (imm (L :: X) M4 H4) acc us := ((al.to t2).to t3).to t4
      cases b with
      | true =>
        rw [if_pos rfl] at q4 ⊢
        refine q4 (L :: X) σ3 H4 _ t4.ok (s3.to t4) fun y H5 M5 dy q5 t5 a5 => ?_
        refine q5 (L :: X) σ3 H5 _ t5.ok ((s3.to t4).to t5) fun z H6 M6 dz q6 t6 a6 => ?_
        obtain ⟨key, rfl, hn, q6⟩ := q6
        have hL6 : H6 L = some (.dK (ks.zip us)) := by rw [t6.ev.fx L List.mem_cons_self, t5.ev.fx L List.mem_cons_self]; exact hL4
        have al6 := (al4.to t5).to t6
        have hlu : ks.length = us.length := by rw [al6.len]; exact hka
        obtain ⟨t07, e7⟩ := ((t04.to t5).to t6).poke (o := .dK (putK (ks.zip us) key z)) hL6 rfl rfl rfl
        refine ⟨_, key, key_at a5, hL6, by rw [List.length_zip]; exact Nat.lt_of_le_of_lt (Nat.min_le_left _ _) (small1000 (by omega)), ks ++ [key], acc ++ [dz], us ++ [z], M6, by simp; omega, by simp [hka], q6, t07, ?_, ?_⟩
        · rw [upd_same, putK_new hlu hn]
        · rw [e7]
          exact al6.append (atL_cons a6 atL_nil)
      | false =>
        rw [if_neg Bool.false_ne_true] at q4 ⊢
        exact ⟨ks, acc, us, M4, by omega, hka, q4, t04, hL4, al4⟩
    · have e : i = ds.length := by omega
      subst e
      refine .inl ⟨J1.2 (Nat.le_refl _), k _ H' M' _ (done L ks acc M' p hka) (t1.trans t.out) ?_⟩
      unfold At
      exact ⟨us, rfl, t.see hL' rfl, hka, al.mono imm_hide⟩

/-! ### more calls -/
theorem zip_keys {κ : Type} {ks : List κ} {vs : List V} (hl : ks.length = vs.length) : (ks.zip vs).map (·.1) = ks := List.map_fst_zip (by omega)
theorem cad_sortedD {p : Addr} {d : D} {ks : List Str} {ds : List D} (hd : DicD d M p (ks.map Sum.inr) ds) (hz : ks.length < 64) (q : ∀ ys : List Str, ys.Perm ks → sortedS ys = true → R (.lst (ys.map D.str)) M) :
    CaD K T (fun xs H Q => ∃ (a : Addr) (kvs : List (Key × V)) (ks : List Str), xs = [V.ref a] ∧ Rd H a (.dK kvs) ∧ kvs.map (·.1) = ks.map Sum.inr ∧ ks.length < 64 ∧ ∀ ys p, ys.Perm ks → sortedS ys = true → H p = none → Q (.ref p) (upd H p (.lst (ys.map V.str)))) [d] M R := cad_one fun X v H Q ok a k => by
  obtain ⟨vs, rfl, hp, hk, al⟩ := dic_at ok hd a
  refine ⟨p, _, ks, rfl, norm_rd (o := none) hp, zip_keys (by rw [al.len]; exact hk), hz, fun ys c hpm hs hc => ?_⟩
  have t := To.new (o := .lst (ys.map V.str)) ok hc rfl
  refine k _ _ M _ (q ys hpm hs) t ?_
  unfold At
  exact ⟨c, _, rfl, imm_new ok hc rfl, of_strs ys⟩
theorem cad_listD {p : Addr} {d : D} {ks : List Key} {ds : List D} (hd : DicD d M p ks ds) (q : R (.lst (ks.map keyD)) M) :
    CaD K T (fun xs H Q => ∃ (a : Addr) (kvs : List (Key × V)), xs = [V.ref a] ∧ Rd H a (.dK kvs) ∧ ∀ p, H p = none → Q (.ref p) (upd H p (.lst (kvs.map fun kv => kV kv.1)))) [d] M R := cad_one fun X v H Q ok a k => by
  obtain ⟨vs, rfl, hp, hk, al⟩ := dic_at ok hd a
  refine ⟨p, _, rfl, norm_rd (o := none) hp, fun c hc => ?_⟩
  have t := To.new (o := .lst ((ks.zip vs).map fun kv => kV kv.1)) ok hc rfl
  refine k _ _ M _ q t ?_
  unfold At
  refine ⟨c, _, rfl, imm_new ok hc rfl, ?_⟩
  have e : ((ks.zip vs).map fun kv => kV kv.1) = ks.map kV := by
    rw [show ((ks.zip vs).map fun kv => kV kv.1) = ((ks.zip vs).map (·.1)).map kV by rw [List.map_map]; rfl, zip_keys (by rw [al.len]; exact hk)]
  rw [e]
  exact of_keys ks
theorem cad_lenD {p : Addr} {d : D} {ks : List Key} {ds : List D} (hd : d = .dK p ks ds) (hk0 : M.lk = []) (q : R (.int (ks.length : Nat)) M) :
    CaD K T (fun xs H Q => ∃ a kvs, xs = [V.ref a] ∧ H a = some (.dK kvs) ∧ Q (.int kvs.length) H) [d] M R := cad_one fun X v H Q ok a k => by
  subst hd
  obtain ⟨vs, rfl, hp, hk, al⟩ := dic_at ok (.inl rfl) a
  refine ⟨p, ks.zip vs, rfl, ?_, k _ H M _ q (To.refl ok) ?_⟩
  · rcases norm_some hp with e | ⟨q, e⟩
    · exact e
    · have := ok.lk p q _ e
      rw [hk0] at this
      cases this
  · unfold At
    rw [List.length_zip, al.len, ← hk, Nat.min_self]
/-- flat data -/
def flatD : D → Bool
  | .non => true
  | .bl _ => true
  | .int _ => true
  | .str _ => true
  | _ => false
def vOf : D → V
  | .non => .non
  | .bl b => .bl b
  | .int i => .int i
  | .str s => .str s
  | _ => .non
theorem flat_at {I : Hp} {d : D} {v : V} (hf : flatD d = true) (a : At K I d v) : v = vOf d ∧ flatV v = true := by
  cases d with
  | non => unfold At at a; subst a; exact ⟨rfl, rfl⟩
  | bl b => unfold At at a; subst a; exact ⟨rfl, rfl⟩
  | int b => unfold At at a; subst a; exact ⟨rfl, rfl⟩
  | str b => unfold At at a; subst a; exact ⟨rfl, rfl⟩
  | _ => cases hf
theorem flats_at {I : Hp} : ∀ {ds : List D} {vs : List V}, ds.all flatD = true → AtL K I ds vs → vs = ds.map vOf ∧ vs.all flatV = true
  | [], vs, _, a => by unfold AtL at a; subst a; exact ⟨rfl, rfl⟩
  | d :: ds, vs, h, a => by
    unfold AtL at a
    obtain ⟨v, r, rfl, a1, a2⟩ := a
    obtain ⟨h1, h2⟩ := Bool.and_eq_true_iff.mp (show (flatD d && ds.all flatD) = true from h)
    obtain ⟨e1, f1⟩ := flat_at h1 a1
    obtain ⟨e2, f2⟩ := flats_at h2 a2
    refine ⟨by rw [e1, e2, List.map_cons], ?_⟩
    show (flatV v && r.all flatV) = true
    rw [f1, f2]
    rfl
theorem opd_inL {neg : Bool} {d : D} {ds : List D} (hf : flatD d = true) (hs : ds.all flatD = true) (q : R (.bl (if neg then !inV (vOf d) (ds.map vOf) else inV (vOf d) (ds.map vOf))) M) : OpD K T (rIn K neg) d (.lst ds) M R := fun X v u H Q ok a b k => by
  unfold At at b
  obtain ⟨p, vs, rfl, h2, h3⟩ := b
  obtain ⟨e1, f1⟩ := flat_at hf a
  obtain ⟨e2, f2⟩ := flats_at hs h3
  refine ⟨p, vs, rfl, .inl (imm_sqL (.of h2)), f1, f2, k _ H M _ q (To.refl ok) ?_⟩
  unfold At
  rw [e1, e2]
theorem opd_inT {neg : Bool} {d : D} {ds : List D} (hf : flatD d = true) (hs : ds.all flatD = true) (q : R (.bl (if neg then !inV (vOf d) (ds.map vOf) else inV (vOf d) (ds.map vOf))) M) : OpD K T (rIn K neg) d (.tup ds) M R := fun X v u H Q ok a b k => by
  unfold At at b
  obtain ⟨p, vs, rfl, h2, h3⟩ := b
  obtain ⟨e1, f1⟩ := flat_at hf a
  obtain ⟨e2, f2⟩ := flats_at hs h3
  refine ⟨p, vs, rfl, .inr (imm_sqT h2), f1, f2, k _ H M _ q (To.refl ok) ?_⟩
  unfold At
  rw [e1, e2]
/-- a sign in a text -/
theorem opd_sign {c : Nat} {z : Str} (q : R (.bl (decide (c ∈ z.cps.toList))) M) : OpD K T (fun x y H Q => ∃ (c : Nat) (z : Str), x = .str ⟨#[c]⟩ ∧ y = .str z ∧ Q (.bl (decide (c ∈ z.cps.toList))) H) (.str ⟨#[c]⟩) (.str z) M R := fun X v u H Q ok a b k => by
  unfold At at a b
  exact ⟨c, z, a, b, k _ H M _ q (To.refl ok) (by unfold At; rfl)⟩
/-- lists glued -/
theorem opd_cat {ds es : List D} (hz : ds.length + es.length ≤ 1000) (q : R (.lst (ds ++ es)) M) : OpD K T rCat (.lst ds) (.lst es) M R := fun X v u H Q ok a b k => by
  unfold At at a b
  obtain ⟨p, xs, rfl, hp, al⟩ := a
  obtain ⟨q', ys, rfl, hq', bl⟩ := b
  refine ⟨p, q', xs, ys, rfl, rfl, imm_at hp (fun _ z => nomatch z) (fun _ z => nomatch z), imm_at hq' (fun _ z => nomatch z) (fun _ z => nomatch z), Nat.le_of_lt (by rw [al.len, bl.len]; exact small1000 hz), fun c hc => ?_⟩
  have t := To.new (o := .lst (xs ++ ys)) ok hc rfl
  refine k _ _ M _ q t ?_
  unfold At
  exact ⟨c, _, rfl, imm_new ok hc rfl, (al.append bl).to t⟩

/-! ### data that == and repr know -/
mutual
def py : D → PyData
  | .non => .none
  | .bl b => .bool b
  | .int i => .int i
  | .str s => .str s
  | .tup ds => .tuple (pyL ds)
  | .tp ds => .tuple (pyL ds)
  | .lst ds => .list (pyL ds)
  | _ => .none
def pyL : List D → List PyData
  | [] => []
  | d :: ds => py d :: pyL ds
end
mutual
def isPy : D → Bool
  | .non => true
  | .bl _ => true
  | .int _ => true
  | .str _ => true
  | .tup ds => isPyL ds
  | .tp ds => isPyL ds
  | .lst ds => isPyL ds
  | _ => false
def isPyL : List D → Bool
  | [] => true
  | d :: ds => isPy d && isPyL ds
end
mutual
theorem at_dp (I : Hp) (ok : ∀ a xs, (SqL K I a xs → SqL K H a xs) ∧ (SqT K I a xs → SqT K H a xs)) : ∀ (d : D) (v : V), isPy d = true → At K I d v → Dp K H v (py d)
  | .non, v, _, a => by unfold At at a; subst a; unfold py; exact .non
  | .bl b, v, _, a => by unfold At at a; subst a; unfold py; exact .bl b
  | .int b, v, _, a => by unfold At at a; subst a; unfold py; exact .int b
  | .str b, v, _, a => by unfold At at a; subst a; unfold py; exact .str b
  | .tup ds, v, h, a => by
    unfold At at a
    obtain ⟨p, vs, rfl, h2, h3⟩ := a
    unfold py
    unfold isPy at h
    exact .tup ((ok _ _).2 h2) (at_dpL I ok ds vs h h3)
  | .tp ds, v, h, a => by
    unfold At at a
    obtain ⟨p, vs, rfl, h2, h3⟩ := a
    unfold py
    unfold isPy at h
    exact .tup ((ok _ _).2 (.of h2)) (at_dpL I ok ds vs h h3)
  | .lst ds, v, h, a => by
    unfold At at a
    obtain ⟨p, vs, rfl, h2, h3⟩ := a
    unfold py
    unfold isPy at h
    exact .lst ((ok _ _).1 (.of h2)) (at_dpL I ok ds vs h h3)
  | .ll _, _, h, _ => by unfold isPy at h; cases h
  | .ty _, _, h, _ => by unfold isPy at h; cases h
  | .dK _ _ _, _, h, _ => by unfold isPy at h; cases h
  | .dT _ _ _, _, h, _ => by unfold isPy at h; cases h
  | .ins _ _ _, _, h, _ => by unfold isPy at h; cases h
  | .ptr _, _, h, _ => by unfold isPy at h; cases h
  | .fn _ _ _ _ _, _, h, _ => by unfold isPy at h; cases h
theorem at_dpL (I : Hp) (ok : ∀ a xs, (SqL K I a xs → SqL K H a xs) ∧ (SqT K I a xs → SqT K H a xs)) : ∀ (ds : List D) (vs : List V), isPyL ds = true → AtL K I ds vs → DpAll K H vs (pyL ds)
  | [], vs, _, a => by unfold AtL at a; subst a; unfold pyL; exact .nil
  | d :: ds, vs, h, a => by
    unfold AtL at a
    obtain ⟨v, r, rfl, a1, a2⟩ := a
    unfold pyL
    unfold isPyL at h
    obtain ⟨h1, h2⟩ := Bool.and_eq_true_iff.mp h
    exact .cons (at_dp I ok d v h1 a1) (at_dpL I ok ds r h2 a2)
end
theorem dp_of {d : D} {v : V} (h : isPy d = true) (a : At K (imm X M H) d v) : Dp K H v (py d) := at_dp _ (fun _ _ => ⟨imm_sqL, imm_sqT⟩) d v h a
theorem opd_eqD {d e : D} (hd : isPy d = true) (he : isPy e = true) (sd : SeqAt.shaped (py d) = true) (se : SeqAt.shaped (py e) = true) (q : R (.bl (PyData.eqv (py d) (py e))) M) : OpD K T (rEqD K) d e M R := fun X v u H Q ok a b k =>
  ⟨_, _, dp_of hd a, dp_of he b, sd, se, k _ H M _ q (To.refl ok) (by unfold At; rfl)⟩
theorem opd_neD {d e : D} (hd : isPy d = true) (he : isPy e = true) (sd : SeqAt.shaped (py d) = true) (se : SeqAt.shaped (py e) = true) (q : R (.bl (!PyData.eqv (py d) (py e))) M) : OpD K T (rNeD K) d e M R := fun X v u H Q ok a b k =>
  ⟨_, _, dp_of hd a, dp_of he b, sd, se, k _ H M _ q (To.refl ok) (by unfold At; rfl)⟩

/-! ### isinstance -/
def tyN : D → Option String
  | .non => some "NoneType"
  | .bl _ => some "bool"
  | .int _ => some "int"
  | .str _ => some "str"
  | .tup _ => some "tuple"
  | .tp _ => some "tuple"
  | .lst _ => some "list"
  | _ => none
theorem tyx_at {d : D} {v : V} {n : String} (h : tyN d = some n) (a : At K (imm X M H) d v) : TyX K H v (.type n) := by
  cases d with
  | non => cases h; unfold At at a; subst a; exact .base .non
  | bl b => cases h; unfold At at a; subst a; exact .base (.bl b)
  | int b => cases h; unfold At at a; subst a; exact .base (.int b)
  | str b => cases h; unfold At at a; subst a; exact .base (.str b)
  | tup ds =>
    cases h
    unfold At at a
    obtain ⟨p, vs, rfl, h2, _⟩ := a
    rcases imm_sqT h2 with (e | ⟨o, e⟩) | ⟨o, its, n, e, c, _⟩
    · exact .base (.tup e)
    · exact .fTuple e
    · exact .kTuple e c
  | tp ds =>
    cases h
    unfold At at a
    obtain ⟨p, vs, rfl, h2, _⟩ := a
    exact .base (.tup (imm_at h2 (fun _ z => nomatch z) (fun _ z => nomatch z)))
  | lst ds =>
    cases h
    unfold At at a
    obtain ⟨p, vs, rfl, h2, _⟩ := a
    exact .base (.lst (imm_at h2 (fun _ z => nomatch z) (fun _ z => nomatch z)))
  | _ => cases h
theorem cad_isi {d : D} {n c : String} {b : Bool} (hn : tyN d = some n) (hk : kitB n c = some b) (q : R (.bl b) M) : CaD K T (rIsi K) [d, .ty c] M R := fun X vs H Q ok a k => by
  unfold AtL at a
  obtain ⟨v, r, rfl, a1, a⟩ := a
  unfold AtL at a
  obtain ⟨u, r, rfl, a2, a⟩ := a
  unfold AtL at a
  unfold At at a2
  subst a a2
  exact ⟨v, .ty c, .type n, .type c, b, rfl, .ty c, tyx_at hn a1, kit_ty hk, k _ H M _ q (To.refl ok) (by unfold At; rfl)⟩
theorem cad_isi2 {d : D} {n c1 c2 : String} {b1 b2 : Bool} (hn : tyN d = some n) (h1 : kitB n c1 = some b1) (h2 : kitB n c2 = some b2) (q : R (.bl (b1 || b2)) M) : CaD K T (rIsiT K) [d, .tp [.ty c1, .ty c2]] M R := fun X vs H Q ok a k => by
  unfold AtL at a
  obtain ⟨v, r, rfl, a1, a⟩ := a
  unfold AtL at a
  obtain ⟨u, r, rfl, a2, a⟩ := a
  unfold AtL at a
  unfold At at a2
  obtain ⟨p, us, rfl, hp, al⟩ := a2
  unfold AtL at al
  obtain ⟨w1, r1, rfl, b1', al⟩ := al
  unfold AtL at al
  obtain ⟨w2, r2, rfl, b2', al⟩ := al
  unfold AtL at al
  unfold At at b1' b2'
  subst a al b1' b2'
  refine ⟨v, p, [.ty c1, .ty c2], .type n, [.type c1, .type c2], b1 || b2, rfl, imm_at hp (fun _ z => nomatch z) (fun _ z => nomatch z), .cons (.ty c1) (.cons (.ty c2) .nil), tyx_at hn a1, ?_, k _ H M _ q (To.refl ok) (by unfold At; rfl)⟩
  refine kitAny_cons (kit_ty h1) (fun e => kitAny_cons (kit_ty h2) (fun e2 => ?_) fun e2 => by rw [e2, Bool.or_true]) fun e => by rw [e, Bool.true_or]
  rw [e, e2]
  exact kitAny_nil

/-! ### texts, tuples of the written part -/
theorem we_join {to te : TE} (h : WE K T to G M fun d M1 => ∃ a, d = .str a ∧ WE K T te G M1 fun e M2 => ∃ ys : List Str, e = .lst (ys.map D.str) ∧ (ys.map (·.length)).sum + ys.length * a.length ≤ 16777216 ∧ R (.str (Txt.join a ys)) M2) :
    WE K T (tM1 (fun x xs H Q => ∃ a p, ∃ ys : List Str, x = .str a ∧ xs = [V.ref p] ∧ (SqL K H p (ys.map V.str) ∨ SqT K H p (ys.map V.str)) ∧ (ys.map (·.length)).sum + ys.length * a.length ≤ 16777216 ∧ Q (.str (Txt.join a ys)) H) to te) G M R := fun X σ H Q ok sl k =>
  h X σ H _ ok sl fun v H1 M1 d h1 t1 a1 => by
    obtain ⟨a, rfl, h1⟩ := h1
    unfold At at a1
    refine ⟨⟨a, a1⟩, h1 X σ H1 _ t1.ok (sl.to t1) fun u H2 M2 e h2 t2 a2 => ?_⟩
    obtain ⟨ys, rfl, hz, q⟩ := h2
    unfold At at a2
    obtain ⟨p, vs, rfl, h3, h4⟩ := a2
    rw [strs_of h4] at h3
    exact ⟨a, p, ys, a1, rfl, .inl (imm_sqL (.of h3)), hz, k _ H2 M2 _ q (t1.trans t2) (by unfold At; rfl)⟩
theorem wa_star {te : TE} {t : TA} (h : WE K T te G M fun d M1 => ∃ ds, (d = .lst ds ∨ d = .tup ds) ∧ WA K T t G M1 fun es M2 => RA (ds ++ es) M2) : WA K T (StX.tStar K te t) G M RA := fun X σ H Q ok sl k =>
  h X σ H _ ok sl fun v H1 M1 d h1 t1 a1 => by
    obtain ⟨ds, hd, h2⟩ := h1
    rcases hd with rfl | rfl
    · unfold At at a1
      obtain ⟨p, vs, rfl, h3, h4⟩ := a1
      exact ⟨p, vs, rfl, .inr (imm_sqL (.of h3)), h2 X σ H1 _ t1.ok (sl.to t1) fun us H2 M2 es q t2 a2 => k _ H2 M2 _ q (t1.trans t2) ((h4.to t2).append a2)⟩
    · unfold At at a1
      obtain ⟨p, vs, rfl, h3, h4⟩ := a1
      exact ⟨p, vs, rfl, .inl (imm_sqT h3), h2 X σ H1 _ t1.ok (sl.to t1) fun us H2 M2 es q t2 a2 => k _ H2 M2 _ q (t1.trans t2) ((h4.to t2).append a2)⟩
end

/-! ### a def keeps its promise -/
def startD (N : List Str) (ds : List D) : Sl := ds.map some ++ List.replicate (N.length - ds.length) none
theorem slots_start {K : PySem.W.Frag} {I : Hp} {N : List Str} {ds : List D} {vs : List V} (a : AtL K I ds vs) : Slots K I (L2.start N vs) (startD N ds) := by
  unfold L2.start startD
  refine ⟨by simp [a.len], fun i d h => ?_⟩
  by_cases hi : i < ds.length
  · rw [List.getElem?_append_left (by simpa using hi), List.getElem?_map, List.getElem?_eq_getElem hi] at h
    have e : ds[i] = d := by simpa using h
    obtain ⟨v, e1, e2⟩ := a.get (List.getElem?_eq_getElem hi)
    refine ⟨v, ?_, by rw [← e]; exact e2⟩
    rw [List.getElem?_append_left (by rw [List.length_map, a.len]; exact hi), List.getElem?_map, e1]
    rfl
  · rw [List.getElem?_append_right (by simpa using hi), List.getElem?_replicate] at h
    split at h <;> cases h
def ends (R : D → MS → Prop) : DE := { nx := fun _ M => R .non M, rt := R }
section
variable {P : Program} {w : World} {K : PySem.W.Frag} {T : Tb} {mg : Str → Option Value} {base : Heap} {x qual : Str} {params : Arguments} {body : List Stmt} {scope : Scope} {dvs : List V} {kws : List (Str × V)} {f : Addr} {fd : FuncData}
theorem ws_end {ts : TS} {N : List Str} {ds : List D} {M : MS} {R : D → MS → Prop} {X : List Addr} {H : Hp} {vs : List V} {Q : VK} (h : WS K T ts (startD N ds) M (ends R)) (ok : Ok K T X M H) (a : AtL K (imm X M H) ds vs)
    (k : ∀ v H' M' d, R d M' → To K T X M H M' H' → At K (imm X M' H') d v → Q v H') : ts { nx := fun _ H' => Q .non H', rt := Q } (L2.start N vs) H :=
  h X (L2.start N vs) H _ ok (slots_start a) (fun σ' H' G' M' q t s => k _ H' M' _ q t (by unfold At; rfl)) k (fun _ _ _ _ z => z.elim) fun _ _ _ _ z => z.elim
/-- THE RULE of a def by data -/
theorem fn_d {N ps : List Str} {k : Nat} {pre : Pre} (F : FunD K x qual params body scope dvs kws f fd) (S : FnScope N ps scope) (len : ∀ ds M R, pre ds M R → ds.length = ps.length)
    (hbody : ∀ (cdv : Value) (A : Around) (outer : List PySem.Env) (s : Shared) (H : Hp) (E : XK), Room k (A.deeper (envOfC qual scope s.heap.objs.size f cdv)) →
      ∃ t, PSs (cxOf CX0 P w K mg base N qual scope f cdv A outer s H E).nox body t ∧ ∀ ds M R, pre ds M R → WS K T t (startD N ds) M (ends R)) : FnOk P w K mg base CX0 (k + 1) f fd ps (SpD K T pre) := by
  refine F.ok S (fun vs H Q E h => ?_) fun cdv A outer s H vs Q E hr h => ?_
  · obtain ⟨X, ds, M, R, ok, a, p, _⟩ := h
    rw [a.len]
    exact len ds M R p
  · obtain ⟨t, ht, hw⟩ := hbody cdv A outer s H E hr
    obtain ⟨X, ds, M, R, ok, a, p, q⟩ := h
    exact ⟨t, ht.nox, ws_end (hw ds M R p) ok a q⟩
end
end Dl
end
/-! ## DL8 -/
section
set_option maxRecDepth 100000
namespace Dl
open PySem PySem.Spec PyProof.Rows L2
/-! ### the text -/
/-- a def of the top as the head leaves it -/
def FnAt (K : PySem.W.Frag) (mg : Str → Option Value) (x : Str) (st : Stmt) : Prop := (∃ fd, FunD K x x (defArgs st) (defBody st) (defScope st) [] [] (ga K x) fd) ∧ mg x = some (.ref (ga K x))
/-- .. with defaults -/
def FnAtD (K : PySem.W.Frag) (mg : Str → Option Value) (x : Str) (st : Stmt) (dvs : List V) : Prop := (∃ fd, FunD K x x (defArgs st) (defBody st) (defScope st) dvs [] (ga K x) fd) ∧ mg x = some (.ref (ga K x))
/-- a method -/
def MeAt (K : PySem.W.Frag) (C m qual : Str) (st : Stmt) (dvs : List V) (kws : List (Str × V)) : Prop := (∃ fd, FunD K m qual (defArgs st) (defBody st) (defScope st) dvs kws (ma K (ga K C) m) fd) ∧ Meth K (ga K C) m (ma K (ga K C) m) ∧ Cls K (ga K C)
section
variable (P : Program) (w : World) (K : PySem.W.Frag) (T : Tb) (mg : Str → Option Value) (base : Heap)
/-- a def and its promise, as its callers see it -/
def Cal (x : Str) (k : Nat) (ps : List Str) (pre : Pre) : Prop := ∃ fd, FnOk P w K mg base CX0 k (ga K x) fd ps (SpD K T pre) ∧ mg x = some (.ref (ga K x)) ∧ PySem.W.keepIn K (.ref (ga K x)) = true ∧ Binds K fd ps []
def CalD (x : Str) (k : Nat) (ps : List Str) (dvs : List V) (pre : Pre) : Prop := ∃ fd ds, FnOk P w K mg base CX0 k (ga K x) fd ps (SpD K T pre) ∧ mg x = some (.ref (ga K x)) ∧ PySem.W.keepIn K (.ref (ga K x)) = true ∧ Binds K fd ps ds ∧ Vals dvs ds
def CalM (C m : Str) (k : Nat) (ps : List Str) (dvs : List V) (pre : Pre) : Prop := ∃ fd ds, FnOk P w K mg base CX0 k (ma K (ga K C) m) fd ps (SpD K T pre) ∧ Meth K (ga K C) m (ma K (ga K C) m) ∧ Cls K (ga K C) ∧ Binds K fd ps ds ∧ Vals dvs ds
end
section
variable {X : Cx} {K : PySem.W.Frag} {T : Tb} {mg : Str → Option Value} {base : Heap} {P : Program} {w : World} {x C m : Str} {k j : Nat} {ps : List Str} {pre : Pre} {p apos pos : Pos} {e o : Expr} {es : List Expr} {t : TA} {ta : TE} {dvs : List V}
/-- X stands on this ground -/
def On (X : Cx) (P : Program) (w : World) (K : PySem.W.Frag) (mg : Str → Option Value) (base : Heap) : Prop := X.prog = P ∧ X.w = w ∧ X.K = K ∧ X.mg = mg ∧ X.base = base
theorem pe_cal (c : Cal P w K T mg base x k ps pre) (hr : Room k X.A) (hg : Gl X x) (ha : PA X (e :: es) t) (on : On X P w K mg base := by exact ⟨rfl, rfl, rfl, rfl, rfl⟩) (hd : (x == ("__debug__" : Str)) = false := by decide)
    (he : starEach (e :: es) X.env = (false, eval e X.env) :: starEach es X.env := by rfl) (hpl : (backTo pos (starEach es X.env)).any (·.1) = false := by rfl) :
    PE X (.Call (.Name x p) (e :: es) [] pos) (tCall (SpD K T pre) [] E0 t) := by
  obtain ⟨rfl, rfl, rfl, rfl, rfl⟩ := on
  obtain ⟨fd, F, hm, kp, b⟩ := c
  exact pe_call F hr hg hm kp b .nil pass0 ha hd he hpl
/-- .. the defaults fill up -/
theorem pe_calD (c : CalD P w K T mg base x k ps dvs pre) (hr : Room k X.A) (hg : Gl X x) (ha : PA X (e :: es) t) (on : On X P w K mg base := by exact ⟨rfl, rfl, rfl, rfl, rfl⟩) (hd : (x == ("__debug__" : Str)) = false := by decide)
    (he : starEach (e :: es) X.env = (false, eval e X.env) :: starEach es X.env := by rfl) (hpl : (backTo pos (starEach es X.env)).any (·.1) = false := by rfl) :
    PE X (.Call (.Name x p) (e :: es) [] pos) (tCall (SpD K T pre) dvs E0 t) := by
  obtain ⟨rfl, rfl, rfl, rfl, rfl⟩ := on
  obtain ⟨fd, ds, F, hm, kp, b, hv⟩ := c
  exact pe_call F hr hg hm kp b hv pass0 ha hd he hpl
theorem pe_calM {pl : Sem Bool} (c : CalM P w K T mg base C m k ps dvs pre) (ho : PE X o ta) (hr : Room k X.A) (ha : PA X (e :: es) t) (on : On X P w K mg base := by exact ⟨rfl, rfl, rfl, rfl, rfl⟩)
    (hst : starEach (e :: es) X.env = (false, eval e X.env) :: starEach es X.env := by rfl) (hpl : (backTo pos (starEach es X.env)).any (·.1) = false := by rfl)
    (ht : eval (.Call (.Attribute o m apos) (e :: es) [] pos) X.env = (do
      let ov ← eval o X.env
      standAt apos.atName
      let (f, first) ← holding [ov] (getMethod ov m pl)
      callWith pos f first (backTo pos (starEach (e :: es) X.env)) (backToKw pos (keywordEach [] X.env))) := by rfl) :
    PE X (.Call (.Attribute o m apos) (e :: es) [] pos) (tMeth (ga K C) m (SpD K T pre) dvs E0 ta t) := by
  obtain ⟨rfl, rfl, rfl, rfl, rfl⟩ := on
  obtain ⟨fd, ds, F, hm, hc, b, hv⟩ := c
  exact pe_meth ho hc hm F hr b hv pass0 ha hst hpl ht
theorem pe_calM0 {pl : Sem Bool} (c : CalM P w K T mg base C m k ps dvs pre) (ho : PE X o ta) (hr : Room k X.A) (on : On X P w K mg base := by exact ⟨rfl, rfl, rfl, rfl, rfl⟩)
    (ht : eval (.Call (.Attribute o m apos) [] [] pos) X.env = (do
      let ov ← eval o X.env
      standAt apos.atName
      let (f, first) ← holding [ov] (getMethod ov m pl)
      callWith pos f first (backTo pos (starEach [] X.env)) (backToKw pos (keywordEach [] X.env))) := by rfl) :
    PE X (.Call (.Attribute o m apos) [] [] pos) (tMeth (ga K C) m (SpD K T pre) dvs E0 ta tNil) := by
  obtain ⟨rfl, rfl, rfl, rfl, rfl⟩ := on
  obtain ⟨fd, ds, F, hm, hc, b, hv⟩ := c
  exact pe_meth0 ho hc hm F hr b hv pass0 ht
end
section
variable {X : Cx} {K : PySem.W.Frag} {pos : Pos}
/-! ### the same rules, the ground named: for what stands within a comprehension -/
theorem ix_listK (h : X.K = K := by rfl) : IxR X (rIxL K) := by subst h; exact ix_list
theorem ix_tupK (h : X.K = K := by rfl) : IxR X (rIxT K) := by subst h; exact ix_tup
theorem ix_seqK (h : X.K = K := by rfl) : IxR X (rIx K) := by subst h; exact ix_seq
theorem sl_listK (h : X.K = K := by rfl) : SlR X (rSlL K) := by subst h; exact sl_list
theorem sl_tupAK (h : X.K = K := by rfl) : SlR X (rSlA K) := by subst h; exact sl_tupA
theorem call_lenK (h : X.K = K := by rfl) : CallR X (.builtin "len") (fun xs H Q => ∃ x n, xs = [x] ∧ LenV K x H n ∧ Q (.int n) H) := by subst h; exact call_len
theorem call_len_seqK (h : X.K = K := by rfl) : CallR X (.builtin "len") (fun xs H Q => ∃ p ys, xs = [V.ref p] ∧ (SqL K H p ys ∨ SqT K H p ys) ∧ Q (.int ys.length) H) := by subst h; exact call_len_seq
theorem call_list_ofK (h : X.K = K := by rfl) : CallR X (.type "list") (fun xs H Q => ∃ p ys, xs = [V.ref p] ∧ (SqL K H p ys ∨ SqT K H p ys) ∧ ∀ l, H l = none → Q (.ref l) (upd H l (.lst ys))) := by subst h; exact call_list_of
theorem cr_allK (hc : X.calm = true) (h : X.K = K := by rfl) : CallR X (.builtin "all") (rAll K) := by subst h; exact cr_all hc
theorem cr_anyK (hc : X.calm = true) (h : X.K = K := by rfl) : CallR X (.builtin "any") (rAny K) := by subst h; exact cr_any hc
theorem cr_sortedSK (h : X.K = K := by rfl) : CallR X (.builtin "sorted") (rSortedS K) := by subst h; exact cr_sortedS
theorem call_isiK (h : X.K = K := by rfl) : CallR X (.builtin "isinstance") (rIsi K) := by subst h; exact call_isi
theorem call_isiTK (h : X.K = K := by rfl) : CallR X (.builtin "isinstance") (rIsiT K) := by subst h; exact call_isiT
theorem call_dictPK (hc : X.calm = true) (h : X.K = K := by rfl) : CallR X (.type "dict") (fun xs H Q => ∃ (a : Addr) (ps : List Addr) (kvs : List (Key × V)), xs = [V.ref a] ∧ SqL K H a (ps.map V.ref) ∧ Paired (fun p kv => SqT K H p [kV kv.1, kv.2]) ps kvs ∧
    ∀ p, H p = none → Q (.ref p) (upd H p (.dK (mergeK [] kvs)))) := by subst h; exact call_dictP hc
theorem op_eqDK (hu : X.A.units + 64 < cLine) (h : X.K = K := by rfl) : OpR X (compareOp .Eq) (rEqD K) := by subst h; exact op_eqD hu
theorem op_neDK (hu : X.A.units + 64 < cLine) (h : X.K = K := by rfl) : OpR X (compareOp .NotEq) (rNeD K) := by subst h; exact op_neD hu
theorem op_in_seqK (h : X.K = K := by rfl) : OpR X (compareOp .In) (rIn K false) := by subst h; exact op_in_seq
theorem op_notIn_seqK (h : X.K = K := by rfl) : OpR X (compareOp .NotIn) (rIn K true) := by subst h; exact op_notIn_seq
theorem pi_listK {tg l : Expr} {tl : TE} (hl : PE X l tl) (h : X.K = K := by rfl) : PI X tg l (iList K tl) := by subst h; exact pi_list hl
theorem pi_tupK {tg l : Expr} {tl : TE} (hl : PE X l tl) (h : X.K = K := by rfl) : PI X tg l (iTup K tl) := by subst h; exact pi_tup hl
theorem pg_tupK {es : List Expr} {k : Nat} {t : TGs} {n : Nat} (hc : X.calm = true) (h : PGs X es t) (hk : X.K = K := by rfl)
    (hn : (assignEach es X.env).length = n := by rfl) (hst : (assignEach es X.env).findIdx? (·.1) = none := by rfl) : PG X (.Tuple es k pos) (gTup K n t) := by subst hk; exact pg_tup hc h hn hst
theorem pe_fldK {e : Expr} {f : Str} {ta : TE} (he : PE X e ta) (hb : attributeBase e f X.env (eval e X.env) = eval e X.env) (h : X.K = K := by rfl) : PE X (.Attribute e f pos) (tFld K ta f) := by subst h; exact pe_fld he hb
theorem pa_starK {e : Expr} {p : Pos} {te : TE} {es : List Expr} {t : TA} (he : PE X e te) (hr : PA X es t) (h : X.K = K := by rfl) (hs : starEach (.Starred e p :: es) X.env = (true, eval e X.env) :: starEach es X.env := by rfl) : PA X (.Starred e p :: es) (StX.tStar K te t) := by subst h; exact StX.pa_star he hr hs
end
end Dl
end
/-! ## DL9 -/
section
set_option maxRecDepth 100000
namespace Dl
open PySem PySem.Spec PyProof.Rows L2
/-! ### what the top leaves: names that are built in, constants -/
structure Lib (K : PySem.W.Frag) (mg : Str → Option Value) : Prop where
  len_ : mg "len" = none
  range_ : mg "range" = none
  isinstance_ : mg "isinstance" = none
  int_ : mg "int" = none
  bool_ : mg "bool" = none
  str_ : mg "str" = none
  list_ : mg "list" = none
  tuple_ : mg "tuple" = none
  dict_ : mg "dict" = none
  sorted_ : mg "sorted" = none
  zip_ : mg "zip" = none
  all_ : mg "all" = none
  any_ : mg "any" = none
  abs_ : mg "abs" = none
  repr_ : mg "repr" = none
  gcd_ : mg "gcd" = some (.builtin "math.gcd")
  gZERO : mg "ZERO" = some (.ref (ga K "ZERO"))
  zero : ∀ I : Hp, At K I (.tup [.int 0, .int 1]) (.ref (ga K "ZERO"))
  gLAYERS : mg "LAYERS" = some (.ref (ga K "LAYERS"))
  layers : ∀ I : Hp, At K I (.tup [.str "foot", .str "cart"]) (.ref (ga K "LAYERS"))
  layersK : ∃ o, K.lookup (ga K "LAYERS") = some o ∧ o.cls = .type "tuple" ∧ o.dict = none
  gLETTERS : ∃ t, mg "LETTERS" = some (.str "abcdefghijklmnopqrstuvwxyz" t)
  gMOST_NAMED : ∃ t, mg "MOST_NAMED" = some (.int 5 t)
  gMOST_PLACES : ∃ t, mg "MOST_PLACES" = some (.int 9 t)
  gFORMS : mg "FORMS" = some (.ref (ga K "FORMS"))
section
variable {X : Cx} {x : Str} {pos : Pos}
theorem pe_gint {i : Int} (hg : Gl X x) (h : ∃ t, X.mg x = some (.int i t)) (hd : (x == ("__debug__" : Str)) = false := by decide) : PE X (.Name x pos) (tC (.int i)) := by
  obtain ⟨t, h⟩ := h
  exact pe_glob hg h ⟨t, rfl⟩ hd
theorem pe_gstr {i : Str} (hg : Gl X x) (h : ∃ t, X.mg x = some (.str i t)) (hd : (x == ("__debug__" : Str)) = false := by decide) : PE X (.Name x pos) (tC (.str i)) := by
  obtain ⟨t, h⟩ := h
  exact pe_glob hg h ⟨t, rfl⟩ hd
end
theorem pe_tyn {X : Cx} {x : Str} {pos : Pos} {n : String} (hg : Gl X x) (hm : X.mg x = none) (hv : bootBuiltins x = some (.type n)) (hn : x ≠ "__name__" := by decide) (hd : (x == ("__debug__" : Str)) = false := by decide) : PE X (.Name x pos) (tC (.ty n)) := pe_bltn hg hm hv rfl hn hd
theorem ite_t {p q : Prop} (h : p) : if true = true then p else q := by rw [if_pos rfl]; exact h
theorem ite_f {p q : Prop} (h : q) : if false = true then p else q := by rw [if_neg Bool.false_ne_true]; exact h
theorem hu64 {A : Around} {k : Nat} (hr : Room k A) : A.units + 64 < cLine := hr.units
section
variable {K : PySem.W.Frag} {T : Tb} {M : MS} {R : D → MS → Prop}
theorem opd_mulW {i j : Int} (hc : CMulW i j) (q : R (.int (i * j)) M) : OpD K T (rI CMulW fun i j => .int (i * j)) (.int i) (.int j) M R := opd_i hc (fun _ => by unfold At; rfl) q
theorem opd_fdivW {i j : Int} (hc : CDivW i j) (q : R (.int (i / j)) M) : OpD K T (rI CDivW fun i j => .int (i / j)) (.int i) (.int j) M R := opd_i hc (fun _ => by unfold At; rfl) q
end
theorem sz_ok {n : Nat} (h : Nat.ble n 1000 = true) : n ≤ sizeLine := Nat.le_of_lt (small1000 (Nat.le_of_ble_eq_true h))
/-- a ratio by data -/
abbrev ratD (q : Rat) : D := .tup [.int q.num, .int q.den]
section
variable {P : Program} {w : World} {K : PySem.W.Frag} {T : Tb} {mg : Str → Option Value} {base : Heap}
/-- a def of the top, by data -/
theorem cal_of {x : Str} {st : Stmt} {N ps : List Str} {k : Nat} {pre : Pre} (F : FnAt K mg x st) (S : FnScope N ps (defScope st)) (len : ∀ ds M R, pre ds M R → ds.length = ps.length)
    (hb : ∀ (kV doc pm : Value) (an : Option Addr) (cdv ct : Value) (us : List Value), us.length = ps.length → bindArgs (PySem.W.fnOf x x (defArgs st) (defBody st) (defScope st) .none kV doc pm an cdv ct) ⟨us, []⟩ = pure (ps.zip us))
    (hbody : ∀ (f : Addr) (cdv : Value) (A : Around) (outer : List PySem.Env) (s : Shared) (H : Hp) (E : XK), Room k (A.deeper (envOfC x (defScope st) s.heap.objs.size f cdv)) →
      ∃ t, PSs (cxOf CX0 P w K mg base N x (defScope st) f cdv A outer s H E).nox (defBody st) t ∧ ∀ ds M R, pre ds M R → WS K T t (startD N ds) M (ends R)) : Cal P w K T mg base x (k + 1) ps pre := by
  obtain ⟨⟨fd, F⟩, hm⟩ := F
  exact ⟨fd, fn_d F S len (fun cdv A outer s H E hr => hbody _ cdv A outer s H E hr), hm, F.kp, F.bindsN hb⟩
end
/-- a value given for a ratio -/
def valD (d : D) (q : Rat) : Prop := d = ratD q ∨ (∃ i : Int, d = .int i ∧ q = i)
end Dl
end
/-! ## P1 -/
section
set_option maxRecDepth 100000
set_option maxHeartbeats 1000000
namespace Dl
open PySem PySem.Spec PyProof.Rows L2 Mx
local macro_rules | `(tactic| walk_at "d1") => `(tactic| with_reducible first
  | refine ws_seq ?_ | refine ws_asgN ?_ | refine ws_asg ?_ | refine wg_name ?_ | refine ws_ret ?_ | refine ws_nx ?_ | refine ws_expr ?_
  | refine we_op ?_ | refine we_un ?_ | refine we_int ?_ | refine we_str ?_ | refine we_bl ?_ | refine we_non ?_ | refine we_ty ?_ | refine we_if ?_ | refine we_and ?_ | refine we_or ?_ | refine we_not ?_ | refine we_chain ?_
  | refine we_tup ?_ | refine we_lst ?_ | refine we_listRng ?_ | refine we_isi2 ?_ | refine we_cb ?_ | refine we_call ?_ | refine wa_cons ?_ | refine wa_nil ?_ | refine we_sl ?_ | refine wo_no ?_ | refine wo_some ?_
  | refine wt_test ?_ | refine wt_B ?_ | refine wt_and ?_ | refine wt_or ?_ | refine wt_not ?_ | refine wt_yes ?_
  | refine opd_add ?_ | refine opd_sub ?_ | refine opd_lt ?_ | refine opd_le ?_ | refine opd_gt ?_ | refine opd_ge ?_ | refine opd_eqI ?_ | refine opd_neI ?_ | refine opd_eqS ?_ | refine opd_neS ?_ | refine opd_isN ?_ | refine opd_notN ?_
  | refine opd_mulW ?_ ?_ | refine opd_mul ?_ ?_ | refine opd_pow ?_ ?_ | refine opd_fdivW ?_ ?_ | refine opd_modN ?_ ?_
  | refine cad_gcd ?_ | refine cad_int1 ?_ | refine cad_intB ?_ | refine cad_abs ?_ | refine cad_lenT ?_ | refine cad_lenL ?_ | refine cad_lenLL ?_ | refine cad_list ?_ | refine sld_lst ?_ | refine sld_tup ?_ | refine sld_tp ?_
  | refine we_fld ?_ | refine we_meth ?_ | refine we_prop ?_ | refine ws_par ?_ | refine ite_t ?_ | refine ite_f ?_ | fail)
local macro_rules | `(tactic| walk_at "d2") => `(tactic| first
  | refine we_var rfl ?_ | (with_reducible refine we_zero (by assumption) ?_) | (with_reducible refine we_layers (by assumption) ?_) | refine opd_ixT rfl ?_ | refine opd_ixP rfl ?_ | (with_reducible refine opd_ixL (atI_rng (by assumption)) ?_) | (with_reducible refine ws_asgN ?_) | fail)
local macro_rules | `(tactic| walk_at "d3") => `(tactic| first | (with_reducible refine ⟨_, rfl, ?_⟩) | (with_reducible refine ⟨sz_ok rfl, ?_⟩) | (with_reducible refine ⟨_, _, rfl, ?_⟩) | fail)
local macro_rules | `(tactic| walk_at "e") => `(tactic| repeat' (first | walk_at "d1" | walk_at "d2" | walk_at "d3" | fail))
local macro_rules | `(tactic| walk_at "d") => `(tactic| repeat' (first | walk_at "d1" | walk_at "d2" | walk_at "d3" | (with_reducible refine ws_if ?_) | fail))
section
variable {P : Program} {w : World} {K : PySem.W.Frag} {T : Tb} {mg : Str → Option Value} {base : Heap}
theorem rat_div (t b : Int) (hb : 0 < b) : ratD (mkRat t b.toNat) = .tup [.int (t / ((Nat.gcd t.natAbs b.natAbs : Nat) : Int)), .int (b / ((Nat.gcd t.natAbs b.natAbs : Nat) : Int))] := by
  rw [ratD, low_num t b hb, low_den t b hb]
theorem rat_int (i : Int) : ratD (i : Rat) = .tup [.int i, .int 1] := rfl
abbrev N_is_whole : List Str := ["value"]
theorem sc_is_whole : FnScope N_is_whole ["value"] (defScope (top 17)) := ⟨rfl, rfl, rfl, by decide +kernel, rfl, by decide +kernel, by decide +kernel⟩
def preWhole : Pre := fun ds M R => (∃ i : Int, ds = [.int i] ∧ R (.bl true) M) ∨ (∃ ts, ds = [.tup ts] ∧ R (.bl false) M)
theorem ok_is_whole (L : Lib K mg) (F : FnAt K mg "is_whole" (top 17)) : Cal P w K T mg base "is_whole" 1 ["value"] preWhole := by
  refine cal_of F sc_is_whole (fun ds M R h => by obtain ⟨t, rfl, _⟩ | ⟨t, rfl, _⟩ := h <;> rfl) (fun _ _ _ _ _ _ us hl => match us, hl with | [_], _ => rfl) fun f cdv A outer s H E hr => ⟨_, (pss_one (ps_ret (pe_and (pe_callB (call_isiK (K := K)) (by rfl) L.isinstance_ (by decide +kernel) (pa_cons (pv 0) (pa_cons (pe_tyn (n := "int") (by rfl) L.int_ (by decide +kernel)) pa_nil))) (pe_one (pe_not (pe_callB (call_isiK (K := K)) (by rfl) L.isinstance_ (by decide +kernel) (pa_cons (pv 0) (pa_cons (pe_tyn (n := "bool") (by rfl) L.bool_ (by decide +kernel)) pa_nil)))))))), fun ds M R h => ?_⟩
  rcases h with ⟨i, rfl, q⟩ | ⟨ts, rfl, q⟩
  · walk_at "d"
    refine cad_isi (b := true) rfl rfl ⟨_, rfl, ?_⟩
    walk_at "d"
    refine cad_isi (b := false) rfl rfl ?_
    walk_at "d"
    exact q
  · walk_at "d"
    refine cad_isi (b := false) rfl rfl ?_
    refine ⟨false, rfl, ?_⟩
    exact q
abbrev N_is_number : List Str := ["value", "least", "most"]
theorem sc_is_number : FnScope N_is_number ["value", "least", "most"] (defScope (top 18)) := ⟨rfl, rfl, rfl, by decide +kernel, rfl, by decide +kernel, by decide +kernel⟩
def preNumber : Pre := fun ds M R => ∃ v a b : Int, ds = [.int v, .int a, .int b] ∧ R (.bl (decide (a ≤ v ∧ v ≤ b))) M
theorem ok_is_number (L : Lib K mg) (F : FnAt K mg "is_number" (top 18)) (c_is_whole : Cal P w K T mg base "is_whole" 1 ["value"] preWhole) : Cal P w K T mg base "is_number" 2 ["value", "least", "most"] preNumber := by
  refine cal_of F sc_is_number (fun ds M R h => by obtain ⟨t, b, c, rfl, _⟩ := h; rfl) (fun _ _ _ _ _ _ us hl => match us, hl with | [_, _, _], _ => rfl) fun f cdv A outer s H E hr => ⟨_, (pss_one (ps_ret (pe_and (pe_cal c_is_whole (hr) (by rfl) (pa_cons (pv 0) pa_nil)) (pe_one (pe_chain op_le op_le (pv 1) (pv 0) (pv 2)))))), fun ds M R h => ?_⟩
  obtain ⟨v, a, b, rfl, q⟩ := h
  walk_at "d"
  refine .inl ⟨v, rfl, true, rfl, ?_⟩
  walk_at "d"
  by_cases h1 : a ≤ v
  · rw [if_pos (decide_eq_true h1)]
    walk_at "d"
    show R _ _
    rwa [show decide (a ≤ v ∧ v ≤ b) = decide (v ≤ b) from by simp [h1]] at q
  · rw [if_neg (by simp [h1])]
    show R _ _
    rwa [show decide (a ≤ v ∧ v ≤ b) = false from by simp [h1]] at q
abbrev N_is_ratio : List Str := ["value"]
theorem sc_is_ratio : FnScope N_is_ratio ["value"] (defScope (top 19)) := ⟨rfl, rfl, rfl, by decide +kernel, rfl, by decide +kernel, by decide +kernel⟩
def preRatio : Pre := fun ds M R => ∃ q : Rat, ds = [ratD q] ∧ R (.bl true) M
theorem ok_is_ratio (L : Lib K mg) (F : FnAt K mg "is_ratio" (top 19)) (c_is_whole : Cal P w K T mg base "is_whole" 1 ["value"] preWhole) : Cal P w K T mg base "is_ratio" 2 ["value"] preRatio := by
  refine cal_of F sc_is_ratio (fun ds M R h => by obtain ⟨t, rfl, _⟩ := h; rfl) (fun _ _ _ _ _ _ us hl => match us, hl with | [_], _ => rfl) fun f cdv A outer s H E hr => ⟨_, (pss_cons (ps_if (PW.pt (pw_or (pt_not (pt_val (pe_callB (call_isiK (K := K)) (by rfl) L.isinstance_ (by decide +kernel) (pa_cons (pv 0) (pa_cons (pe_tyn (n := "tuple") (by rfl) L.tuple_ (by decide +kernel)) pa_nil))))) (pw_or (pt_cmpR op_ne (pe_callB (call_len_seqK (K := K)) (by rfl) L.len_ boot_len (pa_cons (pv 0) pa_nil)) pe_int (nomark _)) (pw_or (pt_not (pt_val (pe_cal c_is_whole (hr) (by rfl) (pa_cons (pe_ix (ix_tupK (K := K)) (pv 0) pe_int (fun _ _ => rfl)) pa_nil)))) (pw_or1 (pt_not (pt_val (pe_cal c_is_whole (hr) (by rfl) (pa_cons (pe_ix (ix_tupK (K := K)) (pv 0) pe_int (fun _ _ => rfl)) pa_nil))))))))) (pss_one (ps_ret pe_bl)) pss_nil)
    (pss_one (ps_ret (pe_and (pe_cmpR op_ge (pe_ix (ix_tupK (K := K)) (pv 0) pe_int (fun _ _ => rfl)) pe_int (nomark _)) (pe_one (pe_cmpR op_eq (pe_callBfun cr_gcd (by rfl) L.gcd_ (pa_cons (pe_ix (ix_tupK (K := K)) (pv 0) pe_int (fun _ _ => rfl)) (pa_cons (pe_ix (ix_tupK (K := K)) (pv 0) pe_int (fun _ _ => rfl)) pa_nil))) pe_int (nomark _))))))), fun ds M R h => ?_⟩
  obtain ⟨p, rfl, q⟩ := h
  walk_at "d"
  refine cad_isi (b := true) rfl rfl ⟨_, rfl, ?_⟩
  refine ite2 (fun h => by cases h) fun _ => ?_
  walk_at "d"
  refine ite2 (fun h => by cases h) fun _ => ?_
  walk_at "d"
  refine .inl ⟨_, rfl, _, rfl, ?_⟩
  refine ite2 (fun h => by cases h) fun _ => ?_
  walk_at "d"
  refine .inl ⟨_, rfl, _, rfl, ?_⟩
  refine ite2 (fun h => by cases h) fun _ => ?_
  walk_at "d"
  refine ite2 (fun _ => ?_) fun h => absurd (decide_eq_true (show (1 : Int) ≤ p.den from den_pos p)) h
  walk_at "d"
  show R _ _
  rwa [show (Nat.gcd p.num.natAbs (p.den : Int).natAbs) = 1 from p.reduced]
abbrev N_is_valued : List Str := ["value"]
theorem sc_is_valued : FnScope N_is_valued ["value"] (defScope (top 20)) := ⟨rfl, rfl, rfl, by decide +kernel, rfl, by decide +kernel, by decide +kernel⟩
def preValued : Pre := fun ds M R => ∃ d q, ds = [d] ∧ valD d q ∧ R (.bl true) M
theorem ok_is_valued (L : Lib K mg) (F : FnAt K mg "is_valued" (top 20)) (c_is_whole : Cal P w K T mg base "is_whole" 1 ["value"] preWhole) (c_is_ratio : Cal P w K T mg base "is_ratio" 2 ["value"] preRatio) : Cal P w K T mg base "is_valued" 3 ["value"] preValued := by
  refine cal_of F sc_is_valued (fun ds M R h => by obtain ⟨t, _, rfl, _⟩ := h; rfl) (fun _ _ _ _ _ _ us hl => match us, hl with | [_], _ => rfl) fun f cdv A outer s H E hr => ⟨_, (pss_one (ps_ret (pe_or (pe_cal c_is_whole (hr.mono (by decide)) (by rfl) (pa_cons (pv 0) pa_nil)) (pe_one (pe_cal c_is_ratio (hr) (by rfl) (pa_cons (pv 0) pa_nil)))))), fun ds M R h => ?_⟩
  obtain ⟨d, q, rfl, hv, k⟩ := h
  walk_at "d"
  rcases hv with rfl | ⟨i, rfl, rfl⟩
  · refine .inr ⟨_, rfl, _, rfl, ?_⟩
    refine ite2 (fun h => by cases h) fun _ => ?_
    walk_at "d"
    exact ⟨q, rfl, k⟩
  · refine .inl ⟨_, rfl, _, rfl, ?_⟩
    exact k
abbrev N_ratio_of : List Str := ["value"]
theorem sc_ratio_of : FnScope N_ratio_of ["value"] (defScope (top 22)) := ⟨rfl, rfl, rfl, by decide +kernel, rfl, by decide +kernel, by decide +kernel⟩
def preRatioOf : Pre := fun ds M R => ∃ d q, ds = [d] ∧ valD d q ∧ R (ratD q) M
theorem ok_ratio_of (L : Lib K mg) (F : FnAt K mg "ratio_of" (top 22)) (c_is_whole : Cal P w K T mg base "is_whole" 1 ["value"] preWhole) (c_is_ratio : Cal P w K T mg base "is_ratio" 2 ["value"] preRatio) : Cal P w K T mg base "ratio_of" 3 ["value"] preRatioOf := by
  refine cal_of F sc_ratio_of (fun ds M R h => by obtain ⟨t, _, rfl, _⟩ := h; rfl) (fun _ _ _ _ _ _ us hl => match us, hl with | [_], _ => rfl) fun f cdv A outer s H E hr => ⟨_, (pss_cons (ps_if (pt_val (pe_cal c_is_whole (hr.mono (by decide)) (by rfl) (pa_cons (pv 0) pa_nil))) (pss_one (ps_ret (pe_tup (pa_cons (pv 0) (pa_cons pe_int pa_nil))))) pss_nil)
    (pss_cons (ps_if (pt_not (pt_val (pe_cal c_is_ratio (hr) (by rfl) (pa_cons (pv 0) pa_nil)))) (pss_one ps_never) pss_nil)
    (pss_one (ps_ret (pv 0))))), fun ds M R h => ?_⟩
  obtain ⟨d, q, rfl, hv, k⟩ := h
  walk_at "d"
  rcases hv with rfl | ⟨i, rfl, rfl⟩
  · refine .inr ⟨_, rfl, _, rfl, ?_⟩
    refine ite2 (fun h => by cases h) fun _ => ?_
    walk_at "d"
    refine ⟨q, rfl, _, rfl, ?_⟩
    refine ite2 (fun h => by cases h) fun _ => ?_
    walk_at "d"
    exact k
  · refine .inl ⟨_, rfl, _, rfl, ?_⟩
    refine ite2 (fun _ => ?_) fun h => absurd rfl h
    walk_at "d"
    exact k
abbrev N_lowest : List Str := ["top", "bottom", "by"]
theorem sc_lowest : FnScope N_lowest ["top", "bottom"] (defScope (top 21)) := ⟨rfl, rfl, rfl, by decide +kernel, rfl, by decide +kernel, by decide +kernel⟩
def preLowest : Pre := fun ds M R => ∃ t b : Int, ds = [.int t, .int b] ∧ 0 < b ∧ b.natAbs.log2 < 9000 ∧ R (ratD (mkRat t b.toNat)) M
theorem ok_lowest (L : Lib K mg) (F : FnAt K mg "lowest" (top 21)) : Cal P w K T mg base "lowest" 1 ["top", "bottom"] preLowest := by
  refine cal_of F sc_lowest (fun ds M R h => by obtain ⟨t, b, rfl, _⟩ := h; rfl) (fun _ _ _ _ _ _ us hl => match us, hl with | [_, _], _ => rfl) fun f cdv A outer s H E hr => ⟨_, (pss_cons (ps_set (i := 2) sc_lowest.nd rfl (by first | exact Or.inl rfl | exact Or.inr rfl) (pe_callBfun cr_gcd (by rfl) L.gcd_ (pa_cons (pv 0) (pa_cons (pv 1) pa_nil))))
    (pss_one (ps_ret (pe_tup (pa_cons (pe_op op_fdivW (pv 0) (pv 2)) (pa_cons (pe_op op_fdivW (pv 1) (pv 2)) pa_nil)))))), fun ds M R h => ?_⟩
  obtain ⟨t, b, rfl, hb, hl, q⟩ := h
  have hg := gcd_div t b hb
  have hd : ∀ i, CDivW i ((Nat.gcd t.natAbs b.natAbs : Nat) : Int) := fun i => ⟨hg.1, by rw [Int.natAbs_natCast]; exact Nat.lt_of_le_of_lt (log2_mono hg.2) hl⟩
  walk_at "d"
  · exact hd _
  · exact hd _
  · rw [rat_div t b hb] at q
    exact q
abbrev N_plus : List Str := ["one", "other"]
theorem sc_plus : FnScope N_plus ["one", "other"] (defScope (top 23)) := ⟨rfl, rfl, rfl, by decide +kernel, rfl, by decide +kernel, by decide +kernel⟩
def preRat2 (f : Rat → Rat → D) : Pre := fun ds M R => ∃ p q : Rat, ds = [ratD p, ratD q] ∧ Fit p ∧ Fit q ∧ R (f p q) M
theorem ok_plus (L : Lib K mg) (F : FnAt K mg "plus" (top 23)) (c_lowest : Cal P w K T mg base "lowest" 1 ["top", "bottom"] preLowest) : Cal P w K T mg base "plus" 2 ["one", "other"] (preRat2 fun p q => ratD (p + q)) := by
  refine cal_of F sc_plus (fun ds M R h => by obtain ⟨t, b, rfl, _⟩ := h; rfl) (fun _ _ _ _ _ _ us hl => match us, hl with | [_, _], _ => rfl) fun f cdv A outer s H E hr => ⟨_, (pss_cons (ps_if (pt_cmpR op_eq (pe_ix (ix_tupK (K := K)) (pv 0) pe_int (fun _ _ => rfl)) (pe_ix (ix_tupK (K := K)) (pv 1) pe_int (fun _ _ => rfl)) (nomark _)) (pss_one (ps_ret (pe_ifExp (pt_cmpR op_eq (pe_ix (ix_tupK (K := K)) (pv 0) pe_int (fun _ _ => rfl)) pe_int (nomark _)) (pe_tup (pa_cons (pe_op op_add (pe_ix (ix_tupK (K := K)) (pv 0) pe_int (fun _ _ => rfl)) (pe_ix (ix_tupK (K := K)) (pv 1) pe_int (fun _ _ => rfl))) (pa_cons pe_int pa_nil))) (pe_cal c_lowest (hr) (by rfl) (pa_cons (pe_op op_add (pe_ix (ix_tupK (K := K)) (pv 0) pe_int (fun _ _ => rfl)) (pe_ix (ix_tupK (K := K)) (pv 1) pe_int (fun _ _ => rfl))) (pa_cons (pe_ix (ix_tupK (K := K)) (pv 0) pe_int (fun _ _ => rfl)) pa_nil)))))) pss_nil)
    (pss_one (ps_ret (pe_cal c_lowest (hr) (by rfl) (pa_cons (pe_op op_add (pe_op op_mulW (pe_ix (ix_tupK (K := K)) (pv 0) pe_int (fun _ _ => rfl)) (pe_ix (ix_tupK (K := K)) (pv 1) pe_int (fun _ _ => rfl))) (pe_op op_mulW (pe_ix (ix_tupK (K := K)) (pv 1) pe_int (fun _ _ => rfl)) (pe_ix (ix_tupK (K := K)) (pv 0) pe_int (fun _ _ => rfl)))) (pa_cons (pe_op op_mulW (pe_ix (ix_tupK (K := K)) (pv 0) pe_int (fun _ _ => rfl)) (pe_ix (ix_tupK (K := K)) (pv 1) pe_int (fun _ _ => rfl))) pa_nil)))))), fun ds M R h => ?_⟩
  obtain ⟨p, q, rfl, hp, hq, k⟩ := h
  walk_at "d"
  refine ite2 (fun h1 => ?_) (fun h1 => ?_)
  · have e1 : p.den = q.den := by have := of_decide_eq_true h1; omega
    replace k : R (ratD (p + q)) M := k
    rw [add_same p q e1] at k
    walk_at "d"
    refine ite2 (fun h2 => ?_) (fun h2 => ?_)
    · walk_at "d"
      have e2 : p.den = 1 := by have := of_decide_eq_true h2; omega
      rw [e2, ratD, (mk_one _).1, (mk_one _).2] at k
      exact k
    · walk_at "d"
      refine ⟨_, _, rfl, den_pos p, ?_, k⟩
      rw [Int.natAbs_natCast]
      exact Nat.lt_trans hp.2 (by decide)
  · walk_at "d"
    · exact fit_nd hp hq
    · exact fit_nd hq hp
    · exact fit_dd hp hq
    · replace k : R (ratD (p + q)) M := k
      rw [add_eq p q] at k
      exact ⟨_, _, rfl, den_mul_pos p q, fit_den hp hq, k⟩
abbrev N_times : List Str := ["one", "other"]
theorem sc_times : FnScope N_times ["one", "other"] (defScope (top 24)) := ⟨rfl, rfl, rfl, by decide +kernel, rfl, by decide +kernel, by decide +kernel⟩
theorem ok_times (L : Lib K mg) (F : FnAt K mg "times" (top 24)) (c_lowest : Cal P w K T mg base "lowest" 1 ["top", "bottom"] preLowest) : Cal P w K T mg base "times" 2 ["one", "other"] (preRat2 fun p q => ratD (p * q)) := by
  refine cal_of F sc_times (fun ds M R h => by obtain ⟨t, b, rfl, _⟩ := h; rfl) (fun _ _ _ _ _ _ us hl => match us, hl with | [_, _], _ => rfl) fun f cdv A outer s H E hr => ⟨_, (pss_cons (ps_if (PW.pt (pw_and (pt_cmpR op_eq (pe_ix (ix_tupK (K := K)) (pv 0) pe_int (fun _ _ => rfl)) pe_int (nomark _)) (pw_and1 (pt_cmpR op_eq (pe_ix (ix_tupK (K := K)) (pv 1) pe_int (fun _ _ => rfl)) pe_int (nomark _))))) (pss_one (ps_ret (pe_tup (pa_cons (pe_op op_mulW (pe_ix (ix_tupK (K := K)) (pv 0) pe_int (fun _ _ => rfl)) (pe_ix (ix_tupK (K := K)) (pv 1) pe_int (fun _ _ => rfl))) (pa_cons pe_int pa_nil))))) pss_nil)
    (pss_one (ps_ret (pe_cal c_lowest (hr) (by rfl) (pa_cons (pe_op op_mulW (pe_ix (ix_tupK (K := K)) (pv 0) pe_int (fun _ _ => rfl)) (pe_ix (ix_tupK (K := K)) (pv 1) pe_int (fun _ _ => rfl))) (pa_cons (pe_op op_mulW (pe_ix (ix_tupK (K := K)) (pv 0) pe_int (fun _ _ => rfl)) (pe_ix (ix_tupK (K := K)) (pv 1) pe_int (fun _ _ => rfl))) pa_nil)))))), fun ds M R h => ?_⟩
  obtain ⟨p, q, rfl, hp, hq, k⟩ := h
  walk_at "d"
  replace k : R (ratD (p * q)) M := k
  refine ite2 (fun h1 => ?_) (fun h1 => ?_)
  · walk_at "d"
    refine ite2 (fun h2 => ?_) (fun h2 => ?_)
    · walk_at "d"
      · exact fit_nn hp hq
      · have e1 : p.den = 1 := by have := of_decide_eq_true h1; omega
        have e2 : q.den = 1 := by have := of_decide_eq_true h2; omega
        rw [mul_eq, e1, e2] at k
        replace k : R (ratD (mkRat (p.num * q.num) 1)) M := k
        rw [ratD, (mk_one _).1, (mk_one _).2] at k
        exact k
    · walk_at "d"
      · exact fit_nn hp hq
      · exact fit_dd hp hq
      · rw [mul_eq] at k
        exact ⟨_, _, rfl, den_mul_pos p q, fit_den hp hq, k⟩
  · walk_at "d"
    · exact fit_nn hp hq
    · exact fit_dd hp hq
    · rw [mul_eq] at k
      exact ⟨_, _, rfl, den_mul_pos p q, fit_den hp hq, k⟩
abbrev N_below : List Str := ["one", "other"]
theorem sc_below : FnScope N_below ["one", "other"] (defScope (top 25)) := ⟨rfl, rfl, rfl, by decide +kernel, rfl, by decide +kernel, by decide +kernel⟩
theorem ok_below (L : Lib K mg) (F : FnAt K mg "below" (top 25)) : Cal P w K T mg base "below" 1 ["one", "other"] (preRat2 fun p q => .bl (decide (p < q))) := by
  refine cal_of F sc_below (fun ds M R h => by obtain ⟨t, b, rfl, _⟩ := h; rfl) (fun _ _ _ _ _ _ us hl => match us, hl with | [_, _], _ => rfl) fun f cdv A outer s H E hr => ⟨_, (pss_one (ps_ret (pe_cmpR op_lt (pe_op op_mulW (pe_ix (ix_tupK (K := K)) (pv 0) pe_int (fun _ _ => rfl)) (pe_ix (ix_tupK (K := K)) (pv 1) pe_int (fun _ _ => rfl))) (pe_op op_mulW (pe_ix (ix_tupK (K := K)) (pv 1) pe_int (fun _ _ => rfl)) (pe_ix (ix_tupK (K := K)) (pv 0) pe_int (fun _ _ => rfl))) (nomark _)))), fun ds M R h => ?_⟩
  obtain ⟨p, q, rfl, hp, hq, k⟩ := h
  walk_at "d"
  · exact fit_nd hp hq
  · exact fit_nd hq hp
  · show R _ _
    rw [lt_dec]
    exact k
abbrev N_lesser : List Str := ["one", "other"]
theorem sc_lesser : FnScope N_lesser ["one", "other"] (defScope (top 26)) := ⟨rfl, rfl, rfl, by decide +kernel, rfl, by decide +kernel, by decide +kernel⟩
theorem ok_lesser (L : Lib K mg) (F : FnAt K mg "lesser" (top 26)) (c_below : Cal P w K T mg base "below" 1 ["one", "other"] (preRat2 fun p q => .bl (decide (p < q)))) : Cal P w K T mg base "lesser" 2 ["one", "other"] (preRat2 fun p q => ratD (lesR p q)) := by
  refine cal_of F sc_lesser (fun ds M R h => by obtain ⟨t, b, rfl, _⟩ := h; rfl) (fun _ _ _ _ _ _ us hl => match us, hl with | [_, _], _ => rfl) fun f cdv A outer s H E hr => ⟨_, (pss_one (ps_ret (pe_ifExp (pt_val (pe_cal c_below (hr) (by rfl) (pa_cons (pv 1) (pa_cons (pv 0) pa_nil)))) (pv 1) (pv 0)))), fun ds M R h => ?_⟩
  obtain ⟨p, q, rfl, hp, hq, k⟩ := h
  walk_at "d"
  refine ⟨q, p, rfl, hq, hp, _, rfl, ?_⟩
  refine ite2 (fun h1 => ?_) (fun h1 => ?_)
  · walk_at "d"
    replace k : R (ratD (lesR p q)) M := k
    rw [lesR, if_pos (of_decide_eq_true h1)] at k
    exact k
  · walk_at "d"
    replace k : R (ratD (lesR p q)) M := k
    rw [lesR, if_neg (fun z => h1 (decide_eq_true z))] at k
    exact k
end
end Dl
end
/-! ## P2 -/
section
set_option maxRecDepth 100000
set_option maxHeartbeats 1000000
namespace Dl
open PySem PySem.Spec PyProof.Rows L2 Mx
local macro_rules | `(tactic| walk_at "d1") => `(tactic| with_reducible first
  | refine ws_seq ?_ | refine ws_asgN ?_ | refine ws_asg ?_ | refine wg_name ?_ | refine ws_ret ?_ | refine ws_nx ?_ | refine ws_expr ?_
  | refine we_op ?_ | refine we_un ?_ | refine we_int ?_ | refine we_str ?_ | refine we_bl ?_ | refine we_non ?_ | refine we_ty ?_ | refine we_if ?_ | refine we_and ?_ | refine we_or ?_ | refine we_not ?_ | refine we_chain ?_
  | refine we_tup ?_ | refine we_lst ?_ | refine we_listRng ?_ | refine we_isi2 ?_ | refine we_cb ?_ | refine we_call ?_ | refine wa_cons ?_ | refine wa_nil ?_ | refine we_sl ?_ | refine wo_no ?_ | refine wo_some ?_
  | refine wt_test ?_ | refine wt_B ?_ | refine wt_and ?_ | refine wt_or ?_ | refine wt_not ?_ | refine wt_yes ?_
  | refine opd_add ?_ | refine opd_sub ?_ | refine opd_lt ?_ | refine opd_le ?_ | refine opd_gt ?_ | refine opd_ge ?_ | refine opd_eqI ?_ | refine opd_neI ?_ | refine opd_eqS ?_ | refine opd_neS ?_ | refine opd_isN ?_ | refine opd_notN ?_
  | refine opd_mulW ?_ ?_ | refine opd_mul ?_ ?_ | refine opd_pow ?_ ?_ | refine opd_fdivW ?_ ?_ | refine opd_modN ?_ ?_
  | refine cad_gcd ?_ | refine cad_int1 ?_ | refine cad_intB ?_ | refine cad_abs ?_ | refine cad_lenT ?_ | refine cad_lenL ?_ | refine cad_lenLL ?_ | refine cad_list ?_ | refine sld_lst ?_ | refine sld_tup ?_ | refine sld_tp ?_
  | refine we_fld ?_ | refine we_meth ?_ | refine we_prop ?_ | refine ws_par ?_ | refine ite_t ?_ | refine ite_f ?_ | fail)
local macro_rules | `(tactic| walk_at "d2") => `(tactic| first
  | refine we_var rfl ?_ | (with_reducible refine we_zero (by assumption) ?_) | (with_reducible refine we_layers (by assumption) ?_) | refine opd_ixT rfl ?_ | refine opd_ixP rfl ?_ | (with_reducible refine opd_ixL (atI_rng (by assumption)) ?_) | (with_reducible refine ws_asgN ?_) | fail)
local macro_rules | `(tactic| walk_at "d3") => `(tactic| first | (with_reducible refine ⟨_, rfl, ?_⟩) | (with_reducible refine ⟨sz_ok rfl, ?_⟩) | (with_reducible refine ⟨_, _, rfl, ?_⟩) | fail)
local macro_rules | `(tactic| walk_at "e") => `(tactic| repeat' (first | walk_at "d1" | walk_at "d2" | walk_at "d3" | fail))
local macro_rules | `(tactic| walk_at "d") => `(tactic| repeat' (first | walk_at "d1" | walk_at "d2" | walk_at "d3" | (with_reducible refine ws_if ?_) | fail))
section
variable {P : Program} {w : World} {K : PySem.W.Frag} {T : Tb} {mg : Str → Option Value} {base : Heap}
def natAt (i : Nat) (G : Sl) : Nat := match G[i]? with | some (some (.int b)) => b.toNat | _ => 0
abbrev N_law_low : List Str := ["_law_top", "_law_bottom", "_law_one", "_law_other"]
theorem sc_law_low : FnScope N_law_low ["_law_top", "_law_bottom"] (defScope (top 58)) := ⟨rfl, rfl, rfl, by decide +kernel, rfl, by decide +kernel, by decide +kernel⟩
theorem ok_law_low (L : Lib K mg) (F : FnAt K mg "_law_low" (top 58)) : Cal P w K T mg base "_law_low" 1 ["_law_top", "_law_bottom"] preLowest := by
  refine cal_of F sc_law_low (fun ds M R h => by obtain ⟨t, b, rfl, _⟩ := h; rfl) (fun _ _ _ _ _ _ us hl => match us, hl with | [_, _], _ => rfl) fun f cdv A outer s H E hr => ⟨_, (pss_cons (ps_par (i := 2) (j := 3) (by rfl) sc_law_low.nd rfl rfl (by decide) rfl rfl (pa_cons (pe_callB call_abs (by rfl) L.abs_ (by decide +kernel) (pa_cons (pv 0) pa_nil)) (pa_cons (pv 1) pa_nil)) (by rfl))
    (pss_cons (ps_while PassesOwn.never (pt_cmpR op_gt (pv 3) pe_int (nomark _)) (pss_one (ps_par (i := 2) (j := 3) (by rfl) sc_law_low.nd rfl rfl (by decide) rfl rfl (pa_cons (pv 3) (pa_cons (pe_op op_modN (pe_callTy call_int1 (by rfl) L.int_ (by decide +kernel) (pa_cons (pv 2) pa_nil)) (pv 3)) pa_nil)) (by rfl))))
    (pss_one (ps_ret (pe_tup (pa_cons (pe_op op_fdivW (pv 0) (pv 2)) (pa_cons (pe_op op_fdivW (pv 1) (pv 2)) pa_nil))))))), fun ds M R h => ?_⟩
  obtain ⟨t, b, rfl, hb, hl, q⟩ := h
  have hg := gcd_div t b hb
  have hd : ∀ i, CDivW i ((Nat.gcd t.natAbs b.natAbs : Nat) : Int) := fun i => ⟨hg.1, by rw [Int.natAbs_natCast]; exact Nat.lt_of_le_of_lt (log2_mono hg.2) hl⟩
  have eb : b = (b.natAbs : Int) := by omega
  walk_at "d"
  refine ws_while (fun G M' => M' = M ∧ ∃ x y : Nat, G = [some (.int t), some (.int b), some (.int x), some (.int y)] ∧ Nat.gcd x y = Nat.gcd t.natAbs b.natAbs) (natAt 3) ⟨rfl, t.natAbs, b.natAbs, ?_, rfl⟩ ?_
  · show [some (D.int t), some (D.int b), some (D.int (if t < 0 then -t else t)), some (D.int b)] = _
    rw [show (if t < 0 then -t else t) = (t.natAbs : Int) from by split <;> omega, ← eb]
  · rintro G1 M1 ⟨rfl, x, y, rfl, hxy⟩
    walk_at "d"
    refine ite2 (fun h => ?_) (fun h => ?_)
    · have hy : 0 < y := by have := of_decide_eq_true h; omega
      walk_at "d"
      · omega
      · refine ⟨⟨rfl, y, x % y, ?_, ?_⟩, ?_⟩
        · show [some (D.int t), some (D.int b), some (D.int (y : Nat)), some (D.int (Int.fmod (x : Nat) (y : Nat)))] = _
          rw [Int.fmod_eq_emod_of_nonneg _ (by omega), Int.natCast_emod]
        · rw [← hxy, Nat.gcd_comm, ← Nat.gcd_rec, Nat.gcd_comm]
        · show (Int.fmod (x : Nat) (y : Nat)).toNat < ((y : Nat) : Int).toNat
          rw [Int.fmod_eq_emod_of_nonneg _ (by omega), ← Int.natCast_emod]
          exact Nat.mod_lt _ hy
    · have hy : y = 0 := by
        have : ¬ (0 : Int) < y := fun z => h (decide_eq_true z)
        omega
      subst hy
      rw [Nat.gcd_zero_right] at hxy
      subst hxy
      show WS K T _ _ _ _
      walk_at "d"
      · exact hd _
      · exact hd _
      · rw [rat_div t b hb] at q
        exact q
abbrev N_law_plus : List Str := ["_law_one", "_law_other"]
theorem sc_law_plus : FnScope N_law_plus ["_law_one", "_law_other"] (defScope (top 59)) := ⟨rfl, rfl, rfl, by decide +kernel, rfl, by decide +kernel, by decide +kernel⟩
theorem ok_law_plus (L : Lib K mg) (F : FnAt K mg "_law_plus" (top 59)) (c_law_low : Cal P w K T mg base "_law_low" 1 ["_law_top", "_law_bottom"] preLowest) : Cal P w K T mg base "_law_plus" 2 ["_law_one", "_law_other"] (preRat2 fun p q => ratD (p + q)) := by
  refine cal_of F sc_law_plus (fun ds M R h => by obtain ⟨t, b, rfl, _⟩ := h; rfl) (fun _ _ _ _ _ _ us hl => match us, hl with | [_, _], _ => rfl) fun f cdv A outer s H E hr => ⟨_, (pss_one (ps_ret (pe_cal c_law_low (hr) (by rfl) (pa_cons (pe_op op_add (pe_op op_mulW (pe_ix (ix_tupK (K := K)) (pv 0) pe_int (fun _ _ => rfl)) (pe_ix (ix_tupK (K := K)) (pv 1) pe_int (fun _ _ => rfl))) (pe_op op_mulW (pe_ix (ix_tupK (K := K)) (pv 1) pe_int (fun _ _ => rfl)) (pe_ix (ix_tupK (K := K)) (pv 0) pe_int (fun _ _ => rfl)))) (pa_cons (pe_op op_mulW (pe_ix (ix_tupK (K := K)) (pv 0) pe_int (fun _ _ => rfl)) (pe_ix (ix_tupK (K := K)) (pv 1) pe_int (fun _ _ => rfl))) pa_nil))))), fun ds M R h => ?_⟩
  obtain ⟨p, q, rfl, hp, hq, k⟩ := h
  replace k : R (ratD (p + q)) M := k
  walk_at "d"
  · exact fit_nd hp hq
  · exact fit_nd hq hp
  · exact fit_dd hp hq
  · rw [add_eq p q] at k
    exact ⟨_, _, rfl, den_mul_pos p q, fit_den hp hq, k⟩
abbrev N_law_times : List Str := ["_law_one", "_law_other"]
theorem sc_law_times : FnScope N_law_times ["_law_one", "_law_other"] (defScope (top 60)) := ⟨rfl, rfl, rfl, by decide +kernel, rfl, by decide +kernel, by decide +kernel⟩
theorem ok_law_times (L : Lib K mg) (F : FnAt K mg "_law_times" (top 60)) (c_law_low : Cal P w K T mg base "_law_low" 1 ["_law_top", "_law_bottom"] preLowest) : Cal P w K T mg base "_law_times" 2 ["_law_one", "_law_other"] (preRat2 fun p q => ratD (p * q)) := by
  refine cal_of F sc_law_times (fun ds M R h => by obtain ⟨t, b, rfl, _⟩ := h; rfl) (fun _ _ _ _ _ _ us hl => match us, hl with | [_, _], _ => rfl) fun f cdv A outer s H E hr => ⟨_, (pss_one (ps_ret (pe_cal c_law_low (hr) (by rfl) (pa_cons (pe_op op_mulW (pe_ix (ix_tupK (K := K)) (pv 0) pe_int (fun _ _ => rfl)) (pe_ix (ix_tupK (K := K)) (pv 1) pe_int (fun _ _ => rfl))) (pa_cons (pe_op op_mulW (pe_ix (ix_tupK (K := K)) (pv 0) pe_int (fun _ _ => rfl)) (pe_ix (ix_tupK (K := K)) (pv 1) pe_int (fun _ _ => rfl))) pa_nil))))), fun ds M R h => ?_⟩
  obtain ⟨p, q, rfl, hp, hq, k⟩ := h
  replace k : R (ratD (p * q)) M := k
  walk_at "d"
  · exact fit_nn hp hq
  · exact fit_dd hp hq
  · rw [mul_eq p q] at k
    exact ⟨_, _, rfl, den_mul_pos p q, fit_den hp hq, k⟩
abbrev N_law_less : List Str := ["_law_one", "_law_other"]
theorem sc_law_less : FnScope N_law_less ["_law_one", "_law_other"] (defScope (top 61)) := ⟨rfl, rfl, rfl, by decide +kernel, rfl, by decide +kernel, by decide +kernel⟩
theorem ok_law_less (L : Lib K mg) (F : FnAt K mg "_law_less" (top 61)) : Cal P w K T mg base "_law_less" 1 ["_law_one", "_law_other"] (preRat2 fun p q => .bl (decide (p < q))) := by
  refine cal_of F sc_law_less (fun ds M R h => by obtain ⟨t, b, rfl, _⟩ := h; rfl) (fun _ _ _ _ _ _ us hl => match us, hl with | [_, _], _ => rfl) fun f cdv A outer s H E hr => ⟨_, (pss_one (ps_ret (pe_cmpR op_lt (pe_op op_mulW (pe_ix (ix_tupK (K := K)) (pv 0) pe_int (fun _ _ => rfl)) (pe_ix (ix_tupK (K := K)) (pv 1) pe_int (fun _ _ => rfl))) (pe_op op_mulW (pe_ix (ix_tupK (K := K)) (pv 1) pe_int (fun _ _ => rfl)) (pe_ix (ix_tupK (K := K)) (pv 0) pe_int (fun _ _ => rfl))) (nomark _)))), fun ds M R h => ?_⟩
  obtain ⟨p, q, rfl, hp, hq, k⟩ := h
  walk_at "d"
  · exact fit_nd hp hq
  · exact fit_nd hq hp
  · show R _ _
    rw [lt_dec]
    exact k
abbrev N_law_total : List Str := ["_law_pairs", "_law_found", "_law_pair_here"]
theorem sc_law_total : FnScope N_law_total ["_law_pairs"] (defScope (top 62)) := ⟨rfl, rfl, rfl, by decide +kernel, rfl, by decide +kernel, by decide +kernel⟩
def preTotal : Pre := fun ds M R => ∃ qs : List Rat, ds = [.lst (qs.map ratD)] ∧ (∀ q ∈ qs, Fit q) ∧ (∀ i, Fit ((qs.take i).foldl (· + ·) 0)) ∧ R (ratD (qs.foldl (· + ·) 0)) M
theorem ok_law_total (L : Lib K mg) (F : FnAt K mg "_law_total" (top 62)) (c_law_plus : Cal P w K T mg base "_law_plus" 2 ["_law_one", "_law_other"] (preRat2 fun p q => ratD (p + q))) : Cal P w K T mg base "_law_total" 3 ["_law_pairs"] preTotal := by
  refine cal_of F sc_law_total (fun ds M R h => by obtain ⟨t, rfl, _⟩ := h; rfl) (fun _ _ _ _ _ _ us hl => match us, hl with | [_], _ => rfl) fun f cdv A outer s H E hr => ⟨_, (pss_cons (ps_set (i := 1) sc_law_total.nd rfl (by first | exact Or.inl rfl | exact Or.inr rfl) (pe_tup (pa_cons pe_int (pa_cons pe_int pa_nil))))
    (pss_cons (ps_for PassesOwn.never rfl (pi_listK (K := K) (pv 0)) (pg_name (i := 2) sc_law_total.nd rfl (by first | exact Or.inl rfl | exact Or.inr rfl)) (pss_one (ps_set (i := 1) sc_law_total.nd rfl (by first | exact Or.inl rfl | exact Or.inr rfl) (pe_cal c_law_plus (hr) (by rfl) (pa_cons (pv 1) (pa_cons (pv 2) pa_nil))))))
    (pss_one (ps_ret (pv 1))))), fun ds M R h => ?_⟩
  obtain ⟨qs, rfl, hq, hs, k⟩ := h
  walk_at "d"
  refine ws_for (wi_list (we_var rfl ⟨_, rfl, fun i G M' => M' = M ∧ ∃ d, G = [some (.lst (qs.map ratD)), some (ratD ((qs.take i).foldl (· + ·) 0)), d], ⟨rfl, _, rfl⟩, ?_, ?_⟩))
  · rintro i d G1 M2 hd ⟨rfl, e, rfl⟩
    rw [List.getElem?_map] at hd
    obtain ⟨q, e1, rfl⟩ := Option.map_eq_some_iff.mp hd
    walk_at "d"
    refine ⟨_, q, rfl, hs i, hq q (List.mem_of_getElem? e1), ?_⟩
    walk_at "d"
    refine ⟨rfl, some (ratD q), ?_⟩
    rw [List.take_succ, e1]
    simp
  · rintro G1 M2 ⟨rfl, e, rfl⟩
    show WS K T _ _ _ _
    walk_at "d"
    rw [List.length_map, List.take_length]
    exact k
abbrev N_law_least : List Str := ["_law_pairs", "_law_found", "_law_pair_here"]
theorem sc_law_least : FnScope N_law_least ["_law_pairs"] (defScope (top 63)) := ⟨rfl, rfl, rfl, by decide +kernel, rfl, by decide +kernel, by decide +kernel⟩
def preLeast : Pre := fun ds M R => ∃ p q : Rat, ds = [.lst [ratD p, ratD q]] ∧ Fit p ∧ Fit q ∧ R (ratD (lesR p q)) M
theorem ok_law_least (L : Lib K mg) (F : FnAt K mg "_law_least" (top 63)) (c_law_less : Cal P w K T mg base "_law_less" 1 ["_law_one", "_law_other"] (preRat2 fun p q => .bl (decide (p < q)))) : Cal P w K T mg base "_law_least" 2 ["_law_pairs"] preLeast := by
  refine cal_of F sc_law_least (fun ds M R h => by obtain ⟨p, q, rfl, _⟩ := h; rfl) (fun _ _ _ _ _ _ us hl => match us, hl with | [_], _ => rfl) fun f cdv A outer s H E hr => ⟨_, (pss_cons (ps_set (i := 1) sc_law_least.nd rfl (by first | exact Or.inl rfl | exact Or.inr rfl) (pe_ix (ix_listK (K := K)) (pv 0) pe_int (fun _ _ => rfl)))
    (pss_cons (ps_for PassesOwn.never rfl (pi_listK (K := K) (pv 0)) (pg_name (i := 2) sc_law_least.nd rfl (by first | exact Or.inl rfl | exact Or.inr rfl)) (pss_one (ps_set (i := 1) sc_law_least.nd rfl (by first | exact Or.inl rfl | exact Or.inr rfl) (pe_ifExp (pt_val (pe_cal c_law_less (hr) (by rfl) (pa_cons (pv 2) (pa_cons (pv 1) pa_nil)))) (pv 2) (pv 1)))))
    (pss_one (ps_ret (pv 1))))), fun ds M R h => ?_⟩
  obtain ⟨p, q, rfl, hp, hq, k⟩ := h
  walk_at "d"
  refine opd_ixL rfl ?_
  walk_at "d"
  refine ws_for (wi_list (we_var rfl ⟨_, rfl, fun i G M' => M' = M ∧ ∃ d, G = [some (.lst [ratD p, ratD q]), some (ratD (if i < 2 then p else lesR p q)), d], ⟨rfl, _, rfl⟩, ?_, ?_⟩))
  · rintro i d G1 M2 hd ⟨rfl, e, rfl⟩
    match i, hd with
    | 0, hd =>
      cases hd
      walk_at "d"
      refine ⟨p, p, rfl, hp, hp, _, rfl, ?_⟩
      refine ite2 (fun h => ?_) (fun h => ?_)
      · walk_at "d"
        exact ⟨rfl, some (ratD p), rfl⟩
      · walk_at "d"
        exact ⟨rfl, some (ratD p), rfl⟩
    | 1, hd =>
      cases hd
      walk_at "d"
      refine ⟨q, p, rfl, hq, hp, _, rfl, ?_⟩
      refine ite2 (fun h => ?_) (fun h => ?_)
      · walk_at "d"
        refine ⟨rfl, some (ratD q), ?_⟩
        rw [if_neg (show ¬ (1 + 1 < 2) by omega), lesR, if_pos (of_decide_eq_true h)]
        rfl
      · walk_at "d"
        refine ⟨rfl, some (ratD q), ?_⟩
        rw [if_neg (show ¬ (1 + 1 < 2) by omega), lesR, if_neg (fun z => h (decide_eq_true z))]
        rfl
  · rintro G1 M2 ⟨rfl, e, rfl⟩
    show WS K T _ _ _ _
    walk_at "d"
    exact k
abbrev N_law_pair : List Str := ["_law_value"]
theorem sc_law_pair : FnScope N_law_pair ["_law_value"] (defScope (top 75)) := ⟨rfl, rfl, rfl, by decide +kernel, rfl, by decide +kernel, by decide +kernel⟩
theorem ok_law_pair (L : Lib K mg) (F : FnAt K mg "_law_pair" (top 75)) : Cal P w K T mg base "_law_pair" 1 ["_law_value"] preRatioOf := by
  refine cal_of F sc_law_pair (fun ds M R h => by obtain ⟨p, q, rfl, _⟩ := h; rfl) (fun _ _ _ _ _ _ us hl => match us, hl with | [_], _ => rfl) fun f cdv A outer s H E hr => ⟨_, (pss_one (ps_ret (pe_ifExp (pt_val (pe_callB (call_isiK (K := K)) (by rfl) L.isinstance_ (by decide +kernel) (pa_cons (pv 0) (pa_cons (pe_tyn (n := "int") (by rfl) L.int_ (by decide +kernel)) pa_nil)))) (pe_tup (pa_cons (pv 0) (pa_cons pe_int pa_nil))) (pv 0)))), fun ds M R h => ?_⟩
  obtain ⟨d, q, rfl, hv, k⟩ := h
  rcases hv with rfl | ⟨i, rfl, rfl⟩
  · walk_at "d"
    refine cad_isi (b := false) rfl rfl ⟨_, rfl, ?_⟩
    walk_at "d"
    exact k
  · walk_at "d"
    refine cad_isi (b := true) rfl rfl ⟨_, rfl, ?_⟩
    walk_at "d"
    exact k
end
end Dl
end
/-! ## DLA -/
section
set_option maxRecDepth 100000
namespace Dl
open PySem PySem.Spec PyProof.Rows L2 Mx
section
variable {K : PySem.W.Frag} {T : Tb} {X : List Addr} {M M1 M2 : MS} {H H1 H2 : Hp} {G : Sl} {R : D → MS → Prop} {RT : Bool → MS → Prop} {RA : List D → MS → Prop} {RG : Sl → MS → Prop} {RS : DE}
/-! ### comprehensions that leave the state as it is -/
theorem we_lcF {wi : TI} {te : TE} {i : Nat} (h : WI K T wi G M fun ds M1 => ds.length ≤ 1000 ∧ ∃ Φ : Nat → D → Prop, (∀ k d, ds[k]? = some d → WE K T te ((wipeD G [i]).set i (some d)) M1 fun y M' => Φ k y ∧ M' = M1) ∧
    ∀ acc : List D, acc.length = ds.length → (∀ k d, acc[k]? = some d → Φ k d) → R (.lst acc) M1) : WE K T (tLc wi (gName i) tYes te [i]) G M R := by
  refine we_lc fun X σ H Q ok sl k => h X σ H Q ok sl fun J H' M' ds r t it => k J H' M' ds ?_ t it
  obtain ⟨hz, Φ, he, hr⟩ := r
  refine ⟨Nat.le_of_lt (small1000 hz), fun n acc M2 => M2 = M' ∧ acc.length = n ∧ ∀ k d, acc[k]? = some d → Φ k d, ⟨rfl, rfl, fun k d h => by simp at h⟩, ?_, fun acc M2 ⟨e1, e2, e3⟩ => by rw [e1]; exact hr acc e2 e3⟩
  rintro n acc d M2 hd _ ⟨rfl, rfl, ha⟩
  refine wgv_name (by simp) (wt_yes (ite_t ((he _ d hd).imp fun y M3 q => ?_)))
  obtain ⟨q, rfl⟩ := q
  refine ⟨rfl, by simp, fun k d h => ?_⟩
  by_cases hk : k < acc.length
  · rw [List.getElem?_append_left hk] at h
    exact ha k d h
  · have e : k = acc.length := by
      have := (List.getElem?_eq_some_iff.mp h).1
      simp at this
      omega
    subst e
    rw [List.getElem?_append_right (Nat.le_refl _)] at h
    have e : y = d := by simpa using h
    rw [← e]
    exact q
theorem rng_ext {n : Nat} {f : Nat → D} {acc : List D} (hl : acc.length = n) (h : ∀ k d, acc[k]? = some d → d = f k) : acc = (List.range n).map f := by
  apply List.ext_getElem
  · simp [hl]
  · intro i h1 h2
    rw [List.getElem_map, List.getElem_range]
    exact h i _ (List.getElem?_eq_getElem h1)
theorem we_lcL {wi : TI} {te : TE} {i : Nat} (h : WI K T wi G M fun ds M1 => ds.length ≤ 1000 ∧ ∃ f : Nat → D, (∀ k d, ds[k]? = some d → WE K T te ((wipeD G [i]).set i (some d)) M1 fun y M' => y = f k ∧ M' = M1) ∧
    R (.lst ((List.range ds.length).map f)) M1) : WE K T (tLc wi (gName i) tYes te [i]) G M R := by
  refine we_lcF fun X σ H Q ok sl k => h X σ H Q ok sl fun J H' M' ds r t it => k J H' M' ds ?_ t it
  obtain ⟨hz, f, he, hr⟩ := r
  exact ⟨hz, fun k y => y = f k, he, fun acc hl ha => by rw [rng_ext hl ha]; exact hr⟩
theorem we_lcRF {ta : TA} {te : TE} {i : Nat} (h : WA K T ta G M fun ds M1 => ∃ n : Nat, ds = [.int n] ∧ n ≤ 1000 ∧ ∃ Φ : Nat → D → Prop, (∀ k < n, WE K T te ((wipeD G [i]).set i (some (.int (k : Nat)))) M1 fun y M' => Φ k y ∧ M' = M1) ∧
    ∀ acc : List D, acc.length = n → (∀ k d, acc[k]? = some d → Φ k d) → R (.lst acc) M1) : WE K T (tLc (iRng1 ta) (gName i) tYes te [i]) G M R := by
  refine we_lcF (wi_rng (h.imp fun ds M' q => ?_))
  obtain ⟨n, e, hz, Φ, he, hr⟩ := q
  refine ⟨n, e, by omega, by rw [intsD_len]; exact hz, Φ, fun k d hd => ?_, by rw [intsD_len]; exact hr⟩
  obtain ⟨rfl, hk⟩ := intsD_get hd
  exact he k hk
theorem we_lcR {ta : TA} {te : TE} {i : Nat} (h : WA K T ta G M fun ds M1 => ∃ n : Nat, ds = [.int n] ∧ n ≤ 1000 ∧ ∃ f : Nat → D, (∀ k < n, WE K T te ((wipeD G [i]).set i (some (.int (k : Nat)))) M1 fun y M' => y = f k ∧ M' = M1) ∧
    R (.lst ((List.range n).map f)) M1) : WE K T (tLc (iRng1 ta) (gName i) tYes te [i]) G M R := by
  refine we_lcRF (h.imp fun ds M' q => ?_)
  obtain ⟨n, e, hz, f, he, hr⟩ := q
  exact ⟨n, e, hz, fun k y => y = f k, he, fun acc hl ha => by rw [rng_ext hl ha]; exact hr⟩
theorem ws_ifF {c : TT} {t u : TS} (h : WT K T c G M fun b M1 => b = false ∧ M1 = M) (h2 : WS K T u G M RS) : WS K T (tIfS c t u) G M RS := ws_if (h.imp fun b M1 q => by
  obtain ⟨rfl, rfl⟩ := q
  exact ite_f h2)
theorem ws_ifT {c : TT} {t u : TS} (h : WT K T c G M fun b M1 => b = true ∧ M1 = M) (h2 : WS K T t G M RS) : WS K T (tIfS c t u) G M RS := ws_if (h.imp fun b M1 q => by
  obtain ⟨rfl, rfl⟩ := q
  exact ite_t h2)
def nonD : D → Bool
  | .non => true
  | _ => false
theorem non_at {I : Hp} {d : D} {v : V} (a : At K I d v) : decide (v = .non) = nonD d := by
  cases d <;> unfold At at a <;> first
    | (subst a; rfl)
    | (obtain ⟨_, _, rfl, _⟩ := a; rfl)
    | (obtain ⟨_, rfl, _⟩ := a; rfl)
    | (obtain ⟨_, _, _, rfl, _⟩ := a; rfl)
    | (obtain ⟨_, rfl, _⟩ := a; rfl)
theorem opd_isN {d : D} (q : R (.bl (nonD d)) M) : OpD K T (fun x y H Q => y = .non ∧ Q (.bl (decide (x = .non))) H) d .non M R := fun X v u H Q ok a b k => by
  unfold At at b
  exact ⟨b, k _ H M _ q (To.refl ok) (by unfold At; rw [non_at a])⟩
theorem opd_notN {d : D} (q : R (.bl (!nonD d)) M) : OpD K T (fun x y H Q => y = .non ∧ Q (.bl (!decide (x = .non))) H) d .non M R := fun X v u H Q ok a b k => by
  unfold At at b
  exact ⟨b, k _ H M _ q (To.refl ok) (by unfold At; rw [non_at a])⟩
theorem we_zero {mg : Str → Option Value} (L : Lib K mg) (q : R (.tup [.int 0, .int 1]) M) : WE K T (tC (.ref (ga K "ZERO"))) G M R := we_con L.zero q
theorem we_layers {mg : Str → Option Value} (L : Lib K mg) (q : R (.tup [.str "foot", .str "cart"]) M) : WE K T (tC (.ref (ga K "LAYERS"))) G M R := we_con L.layers q
theorem we_isi2 {ta : TE} {c1 c2 : String} (h : WE K T ta G M fun d M1 => ∃ n b1 b2, tyN d = some n ∧ kitB n c1 = some b1 ∧ kitB n c2 = some b2 ∧ R (.bl (b1 || b2)) M1) :
    WE K T (tCB (rIsiT K) (tCons ta (tCons (tTup (tCons (tC (.ty c1)) (tCons (tC (.ty c2)) tNil))) tNil))) G M R := by
  refine we_cb (wa_cons (h.imp fun d M1 q => ?_))
  obtain ⟨n, b1, b2, h1, h2, h3, q⟩ := q
  exact wa_cons (we_tp (wa_cons (we_ty (wa_cons (we_ty (wa_nil ⟨sz_ok rfl, wa_nil (cad_isi2 h1 h2 h3 q)⟩))))))
theorem opd_seqL {ds : List D} {i : Int} {d : D} (hi : atI ds i = some d) (q : R d M) : OpD K T (rIx K) (.lst ds) (.int i) M R := fun X v u H Q ok a b k => .inl (opd_ixL hi q X v u H Q ok a b k)
theorem opd_seqT {ds : List D} {i : Int} {d : D} (hi : atI ds i = some d) (q : R d M) : OpD K T (rIx K) (.tup ds) (.int i) M R := fun X v u H Q ok a b k => .inr (.inl (opd_ixT hi q X v u H Q ok a b k))
theorem opd_seqS {z : Str} {i : Int} {c : Nat} (hz : z.length ≤ sizeLine) (hi : atI z.cps.toList i = some c) (q : R (.str ⟨#[c]⟩) M) : OpD K T (rIx K) (.str z) (.int i) M R := fun X v u H Q ok a b k => .inr (.inr (opd_ixS hz hi q X v u H Q ok a b k))
theorem atI_head {α : Type} (d : α) (ds : List α) : atI (d :: ds) 0 = some d := by
  unfold atI ixN
  rw [if_pos (by omega), if_pos (by simp only [List.length_cons]; omega)]
  rfl
theorem ws_asgN {te : TE} {i : Nat} (h : WE K T te G M fun d M1 => RS.nx (G.set i (some d)) M1) : WS K T (tAsg te (gName i)) G M RS := ws_asg (h.imp fun d M1 q => wg_name q)
end
/-! ### tables -/
abbrev rowD (n : Nat) (g : Nat → Rat) : D := .lst ((List.range n).map fun j => ratD (g j))
abbrev matD (n : Nat) (f : Nat → Nat → Rat) : D := .lst ((List.range n).map fun i => rowD n (f i))
theorem atI_nat {α : Type} (xs : List α) (i : Nat) : atI xs (i : Int) = xs[i]? := by
  unfold atI ixN
  rw [if_pos (by omega)]
  by_cases h : i < xs.length
  · rw [if_pos (by omega)]
    rfl
  · rw [if_neg (by omega), List.getElem?_eq_none (by omega)]
    rfl
theorem atI_rng {n : Nat} {f : Nat → D} {i : Nat} (h : i < n) : atI ((List.range n).map f) (i : Int) = some (f i) := by
  rw [atI_nat, List.getElem?_map, List.getElem?_range h]
  rfl
theorem mat_congr {n : Nat} {f g : Nat → Nat → Rat} (h : ∀ i < n, ∀ j < n, f i j = g i j) : matD n f = matD n g := by
  unfold matD rowD
  congr 1
  apply List.map_congr_left
  intro i hi
  congr 1
  apply List.map_congr_left
  intro j hj
  rw [h i (List.mem_range.mp hi) j (List.mem_range.mp hj)]
end Dl
end
/-! ## DLB -/
section
set_option maxRecDepth 100000
namespace Dl
open PySem PySem.Spec PyProof.Rows L2 Mx
section
variable {P : Program} {w : World} {K : PySem.W.Frag} {T : Tb} {mg : Str → Option Value} {base : Heap}
theorem bindsF {x qual : Str} {params : Arguments} {body : List Stmt} {scope : Scope} {dvs : List V} {kws : List (Str × V)} {f : Addr} {fd : FuncData} {ps : List Str} (F : FunD K x qual params body scope dvs kws f fd) (hd : dvs ≠ [])
    (h : ∀ (T : Addr) (kV doc pm : Value) (an : Option Addr) (cdv ct : Value) (us its : List Value), us.length = ps.length → its.length = dvs.length →
      ∃ k, bindArgs (PySem.W.fnOf x qual params body scope (.ref T) kV doc pm an cdv ct) ⟨us, []⟩ = seqItems? (.ref T) >>= k ∧ k (some its.toArray) = pure (ps.zip us)) : Binds K fd ps [] := by
  obtain ⟨ds, hv, hb⟩ := F.binds1 (ps := ps) ps.length dvs.length hd (by omega) (fun T kV doc pm an cdv ct us its l1 l2 => by
    obtain ⟨k, e1, e2⟩ := h T kV doc pm an cdv ct us its l1 l2
    refine ⟨k, e1, ?_⟩
    rw [e2, ← l2, List.drop_length, List.append_nil])
  rw [List.drop_length] at hv
  cases hv
  exact hb
/-- a def of the top with defaults that is always called with all of them -/
theorem cal_ofF {x : Str} {st : Stmt} {N ps : List Str} {k : Nat} {pre : Pre} {dvs : List V} (F : FnAtD K mg x st dvs) (hd : dvs ≠ []) (S : FnScope N ps (defScope st)) (len : ∀ ds M R, pre ds M R → ds.length = ps.length)
    (hb : ∀ (T : Addr) (kV doc pm : Value) (an : Option Addr) (cdv ct : Value) (us its : List Value), us.length = ps.length → its.length = dvs.length →
      ∃ k, bindArgs (PySem.W.fnOf x x (defArgs st) (defBody st) (defScope st) (.ref T) kV doc pm an cdv ct) ⟨us, []⟩ = seqItems? (.ref T) >>= k ∧ k (some its.toArray) = pure (ps.zip us))
    (hbody : ∀ (f : Addr) (cdv : Value) (A : Around) (outer : List PySem.Env) (s : Shared) (H : Hp) (E : XK), Room k (A.deeper (envOfC x (defScope st) s.heap.objs.size f cdv)) →
      ∃ t, PSs (cxOf CX0 P w K mg base N x (defScope st) f cdv A outer s H E).nox (defBody st) t ∧ ∀ ds M R, pre ds M R → WS K T t (startD N ds) M (ends R)) : Cal P w K T mg base x (k + 1) ps pre := by
  obtain ⟨⟨fd, F⟩, hm⟩ := F
  exact ⟨fd, fn_d F S len (fun cdv A outer s H E hr => hbody _ cdv A outer s H E hr), hm, F.kp, bindsF F hd hb⟩
/-- a method without defaults -/
theorem calM_of {C m qual : Str} {st : Stmt} {N ps : List Str} {k : Nat} {pre : Pre} (F : MeAt K C m qual st [] []) (S : FnScope N ps (defScope st)) (len : ∀ ds M R, pre ds M R → ds.length = ps.length)
    (hb : ∀ (kV doc pm : Value) (an : Option Addr) (cdv ct : Value) (us : List Value), us.length = ps.length → bindArgs (PySem.W.fnOf m qual (defArgs st) (defBody st) (defScope st) .none kV doc pm an cdv ct) ⟨us, []⟩ = pure (ps.zip us))
    (hbody : ∀ (f : Addr) (cdv : Value) (A : Around) (outer : List PySem.Env) (s : Shared) (H : Hp) (E : XK), Room k (A.deeper (envOfC qual (defScope st) s.heap.objs.size f cdv)) →
      ∃ t, PSs (cxOf CX0 P w K mg base N qual (defScope st) f cdv A outer s H E).nox (defBody st) t ∧ ∀ ds M R, pre ds M R → WS K T t (startD N ds) M (ends R)) : CalM P w K T mg base C m (k + 1) ps [] pre := by
  obtain ⟨⟨fd, F⟩, hm, hc⟩ := F
  exact ⟨fd, [], fn_d F S len (fun cdv A outer s H E hr => hbody _ cdv A outer s H E hr), hm, hc, F.bindsN hb, .nil⟩
theorem calM_ofF {C m qual : Str} {st : Stmt} {N ps : List Str} {k : Nat} {pre : Pre} {dvs : List V} (F : MeAt K C m qual st dvs []) (hd : dvs ≠ []) (S : FnScope N ps (defScope st)) (len : ∀ ds M R, pre ds M R → ds.length = ps.length)
    (hb : ∀ (T : Addr) (kV doc pm : Value) (an : Option Addr) (cdv ct : Value) (us its : List Value), us.length = ps.length → its.length = dvs.length →
      ∃ k, bindArgs (PySem.W.fnOf m qual (defArgs st) (defBody st) (defScope st) (.ref T) kV doc pm an cdv ct) ⟨us, []⟩ = seqItems? (.ref T) >>= k ∧ k (some its.toArray) = pure (ps.zip us))
    (hbody : ∀ (f : Addr) (cdv : Value) (A : Around) (outer : List PySem.Env) (s : Shared) (H : Hp) (E : XK), Room k (A.deeper (envOfC qual (defScope st) s.heap.objs.size f cdv)) →
      ∃ t, PSs (cxOf CX0 P w K mg base N qual (defScope st) f cdv A outer s H E).nox (defBody st) t ∧ ∀ ds M R, pre ds M R → WS K T t (startD N ds) M (ends R)) : CalM P w K T mg base C m (k + 1) ps [] pre := by
  obtain ⟨⟨fd, F⟩, hm, hc⟩ := F
  exact ⟨fd, [], fn_d F S len (fun cdv A outer s H E hr => hbody _ cdv A outer s H E hr), hm, hc, bindsF F hd hb, .nil⟩
end
/-! ### layers, names -/
def lay : Nat → Str
  | 0 => "foot"
  | _ => "cart"
def keysN (nm : Nm) : List Key := nm.map fun p => .inr p.1
def valsN (nm : Nm) : List D := nm.map fun p => .int (p.2 : Nat)
def layK (k : Nat) : List Key := (List.range k).map fun i => .inr (lay i)
theorem dval_nm {nm : Nm} {x : Str} : dval (keysN nm) (valsN nm) (.inr x) = (placeN nm x).map fun k => .int (k : Nat) := by
  unfold dval keysN valsN placeN
  induction nm with
  | nil => rfl
  | cons p nm ih =>
    rw [List.map_cons, List.map_cons, List.zip_cons_cons, List.find?_cons, List.find?_cons]
    by_cases h : p.1 = x
    · rw [decide_eq_true h, decide_eq_true (show (Sum.inr p.1 : Key) = .inr x by rw [h])]
      rfl
    · rw [decide_eq_false h, decide_eq_false (show ¬ (Sum.inr p.1 : Key) = .inr x from fun z => h (Sum.inr.inj z))]
      exact ih
theorem str_len (s : Str) : s.length = s.cps.toList.length := by rw [Array.length_toList]; rfl
/-- one table or two, all of the same size -/
structure TabsOk (l n : Nat) (fs : List Tab) : Prop where
  n1 : 1 ≤ n
  n9 : n ≤ 9
  len : fs.length = 1 ∨ fs.length = 2
  l28 : l ≤ 28
  lv : ∀ f ∈ fs, LvM l n f
  met : ∀ f ∈ fs, Met n f
def tabsD (n : Nat) (fs : List Tab) : List D := fs.map (matD n)
end Dl
end
/-! ## DLC -/
section
set_option maxRecDepth 100000
namespace Dl
open PySem PySem.Spec PyProof.Rows L2 Mx
/-- a in o, by o's own def -/
def rInOwn (neg : Bool) (C : Addr) (sp : Sp) : R2 := fun x y H Q => ∃ a dx fs, y = .ref a ∧ H a = some (.ins C dx fs) ∧ sp [.ref a, x] H (fun v H' => ∃ b, v = .bl b ∧ Q (.bl (b != neg)) H') E0
section
variable {X : Cx} {K : PySem.W.Frag} {T : Tb} {mg : Str → Option Value} {base : Heap} {P : Program} {w : World} {C : Str} {k : Nat} {ps : List Str} {pre : Pre}
theorem op_in_own (c : CalM P w K T mg base C "__contains__" k ps [] pre) (hr : Room k X.A) (on : On X P w K mg base := by exact ⟨rfl, rfl, rfl, rfl, rfl⟩) : OpR X (compareOp .In) (rInOwn false (ga K C) (SpD K T pre)) := by
  obtain ⟨rfl, rfl, rfl, rfl, rfl⟩ := on
  obtain ⟨fd, ds, F, hm, hc, b, hv⟩ := c
  cases hv
  intro pins s σ H x y v u Q I rx ry h
  obtain ⟨a, dx, fs, rfl, ha, h⟩ := h
  cases ry
  obtain ⟨mA, O, r, _, _, _⟩ := ins_get I.hok ha
  obtain ⟨od, hi, _⟩ := O.look
  obtain ⟨m, F0⟩ := I.fr
  refine PySem.W.in_K F0 I.ok.mod.kin hi hm.at_ hm.fn (thn (run_fn (us := [.ref a, v]) (vs := [.ref a, x]) F hr b .nil pass0 I (.cons rfl (.cons rx .nil)) h) fun r s' hq => ?_)
  obtain ⟨z, H', I', rz, b, rfl, q⟩ := hq
  cases rz
  refine wpAny_truthy_bool ?_
  exact ⟨.bl b, H', I', rfl, by simpa using q⟩
theorem op_notin_own (c : CalM P w K T mg base C "__contains__" k ps [] pre) (hr : Room k X.A) (on : On X P w K mg base := by exact ⟨rfl, rfl, rfl, rfl, rfl⟩) : OpR X (compareOp .NotIn) (rInOwn true (ga K C) (SpD K T pre)) := by
  obtain ⟨rfl, rfl, rfl, rfl, rfl⟩ := on
  obtain ⟨fd, ds, F, hm, hc, b, hv⟩ := c
  cases hv
  intro pins s σ H x y v u Q I rx ry h
  obtain ⟨a, dx, fs, rfl, ha, h⟩ := h
  cases ry
  obtain ⟨mA, O, r, _, _, _⟩ := ins_get I.hok ha
  obtain ⟨od, hi, _⟩ := O.look
  obtain ⟨m, F0⟩ := I.fr
  refine PySem.W.notIn_K F0 I.ok.mod.kin hi hm.at_ hm.fn (thn (run_fn (us := [.ref a, v]) (vs := [.ref a, x]) F hr b .nil pass0 I (.cons rfl (.cons rx .nil)) h) fun r s' hq => ?_)
  obtain ⟨z, H', I', rz, b, rfl, q⟩ := hq
  cases rz
  refine wpAny_truthy_bool ?_
  exact ⟨.bl !b, H', I', rfl, by simpa using q⟩
/-- a property -/
def PrAt (K : PySem.W.Frag) (C f qual : Str) (st : Stmt) : Prop := ∃ p g fd, PropOf K (ga K C) f p g ∧ FunD K f qual (defArgs st) (defBody st) (defScope st) [] [] g fd ∧ Cls K (ga K C)
def CalP (P : Program) (w : World) (K : PySem.W.Frag) (T : Tb) (mg : Str → Option Value) (base : Heap) (C f : Str) (k : Nat) (pre : Pre) : Prop := ∃ p g fd, PropOf K (ga K C) f p g ∧ FnOk P w K mg base CX0 k g fd ["self"] (SpD K T pre) ∧ Cls K (ga K C) ∧ Binds K fd ["self"] []
theorem pe_propM {f : Str} {e : Expr} {ta : TE} {pos : Pos} (c : CalP P w K T mg base C f k pre) (he : PE X e ta) (hr : Room (k + 1) X.A) (on : On X P w K mg base := by exact ⟨rfl, rfl, rfl, rfl, rfl⟩)
    (hab : attributeBase e f X.env (eval e X.env) = eval e X.env := by rfl) : PE X (.Attribute e f pos) (tProp (ga K C) (SpD K T pre) [] E0 ta) := by
  obtain ⟨rfl, rfl, rfl, rfl, rfl⟩ := on
  obtain ⟨p, g, fd, hp, F, hc, b⟩ := c
  exact pe_prop he hc hp F hr b .nil pass0 hab
theorem calP_of {f qual : Str} {st : Stmt} {N : List Str} (F : PrAt K C f qual st) (S : FnScope N ["self"] (defScope st)) (len : ∀ ds M R, pre ds M R → ds.length = 1)
    (hb : ∀ (kV doc pm : Value) (an : Option Addr) (cdv ct : Value) (us : List Value), us.length = (["self"] : List Str).length → bindArgs (PySem.W.fnOf f qual (defArgs st) (defBody st) (defScope st) .none kV doc pm an cdv ct) ⟨us, []⟩ = pure ((["self"] : List Str).zip us))
    (hbody : ∀ (g : Addr) (cdv : Value) (A : Around) (outer : List PySem.Env) (s : Shared) (H : Hp) (E : XK), Room k (A.deeper (envOfC qual (defScope st) s.heap.objs.size g cdv)) →
      ∃ t, PSs (cxOf CX0 P w K mg base N qual (defScope st) g cdv A outer s H E).nox (defBody st) t ∧ ∀ ds M R, pre ds M R → WS K T t (startD N ds) M (ends R)) : CalP P w K T mg base C f (k + 1) pre := by
  obtain ⟨p, g, fd, hp, F, hc⟩ := F
  exact ⟨p, g, fd, hp, fn_d F S len (fun cdv A outer s H E hr => hbody _ cdv A outer s H E hr), hc, F.bindsN hb⟩
/-- a class that makes instances by its __init__ -/
def MkAt (K : PySem.W.Frag) (mg : Str → Option Value) (C : Str) : Prop := Mk K (ga K C) (ma K (ga K C) "__init__") ∧ mg C = some (.ref (ga K C))
def CalI (P : Program) (w : World) (K : PySem.W.Frag) (T : Tb) (mg : Str → Option Value) (base : Heap) (C : Str) (k : Nat) (ps : List Str) (pre : Pre) : Prop := CalM P w K T mg base C "__init__" k ps [] pre ∧ MkAt K mg C
theorem pe_makeI {x : Str} {p pos : Pos} {e : Expr} {es : List Expr} {t : TA} (c : CalI P w K T mg base x k ps pre) (hr : Room (k + 1) X.A) (hg : Gl X x) (ha : PA X (e :: es) t) (on : On X P w K mg base := by exact ⟨rfl, rfl, rfl, rfl, rfl⟩)
    (hdb : (x == ("__debug__" : Str)) = false := by decide) (he : starEach (e :: es) X.env = (false, eval e X.env) :: starEach es X.env := by rfl) (hpl : (backTo pos (starEach es X.env)).any (·.1) = false := by rfl) :
    PE X (.Call (.Name x p) (e :: es) [] pos) (tMake (ga K x) (SpD K T pre) [] E0 t) := by
  obtain ⟨rfl, rfl, rfl, rfl, rfl⟩ := on
  obtain ⟨⟨fd, ds, F, hm, hc, b, hv⟩, hk, hmg⟩ := c
  cases hv
  exact pe_make hk F hr hg hmg b .nil pass0 ha hdb he hpl
/-- .. with one keyword -/
def CalIK (P : Program) (w : World) (K : PySem.W.Frag) (T : Tb) (mg : Str → Option Value) (base : Heap) (C : Str) (k n : Nat) (kw : Str) (ps : List Str) (pre : Pre) : Prop :=
  (∃ fd, FnOk P w K mg base CX0 k (ma K (ga K C) "__init__") fd ps (SpD K T pre) ∧ KBn K fd ps (n + 1) [kw] (fun us ws => us ++ ws) (fun vs zs => vs ++ zs)) ∧ MkAt K mg C
theorem pe_makeIK {x kw : Str} {n : Nat} {p pos kpos : Pos} {e e2 : Expr} {es : List Expr} {t : TA} {tk : TE} (c : CalIK P w K T mg base x k n kw ps pre) (hr : Room (k + 1) X.A) (hg : Gl X x) (ha : PA X (e :: es) t) (hk2 : PE X e2 tk)
    (hall : (backToKw pos (keywordEach [⟨some kw, e2, kpos⟩] X.env)).all (·.1.isSome) = true := by rfl) (hks : (backToKw pos (keywordEach [⟨some kw, e2, kpos⟩] X.env)).filterMap (·.1) = [kw] := by rfl) (on : On X P w K mg base := by exact ⟨rfl, rfl, rfl, rfl, rfl⟩)
    (hdb : (x == ("__debug__" : Str)) = false := by decide) (he : starEach (e :: es) X.env = (false, eval e X.env) :: starEach es X.env := by rfl)
    (hpl : ((backTo pos (starEach (e :: es) X.env)).any (·.1) || (backToKw pos (keywordEach [⟨some kw, e2, kpos⟩] X.env)).any (·.1.isNone)) = false := by rfl) :
    PE X (.Call (.Name x p) (e :: es) [⟨some kw, e2, kpos⟩] pos) (tMakeK (ga K x) n 1 (SpD K T pre) (fun vs zs => vs ++ zs) E0 t (tCons tk tNil)) := by
  obtain ⟨rfl, rfl, rfl, rfl, rfl⟩ := on
  obtain ⟨⟨fd, F, b⟩, hk, hmg⟩ := c
  exact pe_makeK (ks := [kw]) hk F hr hg hmg b pass0 ha (pk_cons hk2 pk_nil) hall hks hdb he hpl
/-- a class without __init__ -/
structure Mk0 (K : PySem.W.Frag) (mg : Str → Option Value) (x : Str) : Prop where
  makes : PySem.W.makesIn K (ga K x) = true
  init : PySem.W.findIn K (.ref (ga K x)) "__init__" = some (some (.builtin "object.__init__"))
  kp : PySem.W.keepIn K (.ref (ga K x)) = true
  mg : mg x = some (.ref (ga K x))
def tMake0 (C : Addr) : TE := fun _ H Q => ∀ x dx, H x = none → H dx = none → dx ≠ x → Q (.ref x) (upd (upd H dx (.own x)) x (.ins C dx []))
theorem run_make0 {pins : List (Addr × Obj)} {σ : L2.St} {H : Hp} {s : Shared} {Q : VK} {C : Addr} (hm : PySem.W.makesIn X.K C = true) (hi : PySem.W.findIn X.K (.ref C) "__init__" = some (some (.builtin "object.__init__"))) (I : Inv X pins σ H s) (h : tMake0 C σ H Q) :
    wpAny (model X.prog X.w) X.A (call (.ref C) []) (EP X pins σ Q) X.xe s := by
  have hq := h (s.heap.objs.size + 1) s.heap.objs.size (I.hok.fresh (Nat.le_succ _)) (I.hok.fresh (Nat.le_refl _)) (Nat.ne_of_lt (Nat.lt_succ_self _))
  have I2 := Inv.made (C := C) I
  refine wpAny_call (make_map0 I.kIn hm hi (fun self => PySem.W.Looks.of_pure (PySem.W.oi_bind self)) ?_)
  have Y := PySem.W.makes_of (M := model X.prog X.w) I.kIn hm
  have e2 : ((s.heap.push PySem.W.emptyDict).push (PySem.W.instObj C s.heap.objs.size)).get? (s.heap.objs.size + 1) = some (PySem.W.instObj C s.heap.objs.size) := by
    have := Heap.get?_push_size (s.heap.push PySem.W.emptyDict) (o := PySem.W.instObj C s.heap.objs.size) rfl
    rwa [Heap.size_push] at this
  have t1 : PySem.W.Looks (model X.prog X.w) ((s.heap.push PySem.W.emptyDict).push (PySem.W.instObj C s.heap.objs.size)) (typeOf (.ref (s.heap.objs.size + 1))) (.ref C) := (PySem.W.Looks.ld e2).andThen .now
  have t2 : PySem.W.Looks (model X.prog X.w) ((s.heap.push PySem.W.emptyDict).push (PySem.W.instObj C s.heap.objs.size)) (isInstance (.ref (s.heap.objs.size + 1)) (.type "object")) true := t1.andThen (Y.top.keeps fun b o e => Heap.get?_push_of_some _ (Heap.get?_push_of_some _ e))
  refine codeAny_call_builtin PySem.W.oi_plain PySem.W.entry_oi (@PySem.W.check_slot (model X.prog X.w) _ _ _ "object.__init__" "object" "__init__" (.ref (s.heap.objs.size + 1)) [] [] _ PySem.W.oi_kind PySem.W.oi_split t2 (PySem.W.oi_args (.ref (s.heap.objs.size + 1))) ?_)
  rw [PySem.W.oi_run]
  exact wpAny_pure (And.intro rfl ⟨V.ref (s.heap.objs.size + 1), _, I2, rfl, hq⟩)
theorem pe_mkO {x : Str} {p pos : Pos} (c : Mk0 K mg x) (hg : Gl X x) (on : On X P w K mg base := by exact ⟨rfl, rfl, rfl, rfl, rfl⟩) (hdb : (x == ("__debug__" : Str)) = false := by decide) : PE X (.Call (.Name x p) [] [] pos) (tMake0 (ga K x)) := by
  obtain ⟨rfl, rfl, rfl, rfl, rfl⟩ := on
  refine ⟨fun pins s σ H Q I h => ?_⟩
  refine wpAny_Call_Name_kw (ld_glob I hg c.mg ?_ hdb)
  exact PySem.W.callWith_K0 I.kIn c.kp (run_make0 c.makes c.init I h)
end
section
variable {K : PySem.W.Frag} {T : Tb} {X : List Addr} {M M1 M2 : MS} {H H1 H2 : Hp} {G : Sl} {R : D → MS → Prop}
theorem opd_inOwn {neg : Bool} {C : Addr} {pre : Pre} {d e : D} {ns : List Str} {ds : List D} (h : InsD e M C ns ds) (q : pre [e, d] M fun r M' => ∃ b, r = .bl b ∧ R (.bl (b != neg)) M') : OpD K T (rInOwn neg C (SpD K T pre)) d e M R := fun X v u H Q ok a b k => by
  obtain ⟨p, dx, vs, rfl, hp, al⟩ := ins_at ok h b
  refine ⟨p, dx, _, rfl, hp, X, [e, d], M, _, ok, atL_cons b (atL_cons a atL_nil), q, fun v H' M' r q t a => ?_⟩
  obtain ⟨b, rfl, q⟩ := q
  unfold At at a
  exact ⟨b, a, k _ H' M' _ q t (by unfold At; rfl)⟩
theorem we_make0 {C : Addr} (h : ∀ x, x ∉ domM M → R (.ptr x) (addM M x (.ins C [] []))) : WE K T (tMake0 C) G M R := fun X σ H Q ok sl k x dx hx hdx ne => by
  obtain ⟨t2, n⟩ := To.made (C := C) ok hx hdx ne
  exact k _ _ _ _ (h x n) t2 (by unfold At; rfl)
end
section
variable {K : PySem.W.Frag} {T : Tb} {X : List Addr} {M M1 M2 : MS} {H H1 H2 : Hp} {G : Sl} {R : D → MS → Prop}
abbrev rTupIx (K : PySem.W.Frag) : V → List V → Hp → VK → Prop := fun x xs H Q => ∃ p, ∃ ys : List Str, ∃ z j, x = .ref p ∧ xs = [.str z] ∧ SqT K H p (ys.map V.str) ∧ ys[j]? = some z ∧ (∀ m, m < j → ys[m]? ≠ some z) ∧ Q (.int (j : Nat)) H
theorem we_layIx {mg : Str → Option Value} (L : Lib K mg) {t : TA} (h : WA K T t G M fun es M1 => ∃ a : Nat, a < 2 ∧ es = [.str (lay a)] ∧ R (.int a) M1) : WE K T (tBM K "tuple" (rTupIx K) (tC (.ref (ga K "LAYERS"))) t) G M R := fun X σ H Q ok sl k => by
  obtain ⟨o, lk, hc, hd⟩ := L.layersK
  refine ⟨.inr (.inl ⟨rfl, o, lk, hc, hd⟩), h X σ H _ ok sl fun us H1 M1 es h1 t1 a1 => ?_⟩
  obtain ⟨a, ha, rfl, q⟩ := h1
  unfold AtL at a1
  obtain ⟨v, r, rfl, b1, a1⟩ := a1
  unfold AtL at a1
  unfold At at b1
  subst a1 b1
  have al := L.layers (imm X M1 H1)
  unfold At at al
  obtain ⟨p, vs, e, h2, h3⟩ := al
  cases e
  have e3 := strs_of (bs := ["foot", "cart"]) h3
  subst e3
  refine ⟨_, ["foot", "cart"], lay a, a, rfl, rfl, imm_sqT h2, ?_, ?_, k _ H1 M1 _ q t1 (by unfold At; rfl)⟩
  · match a, ha with
    | 0, _ => rfl
    | 1, _ => rfl
  · intro m hm
    match a, ha with
    | 0, _ => omega
    | 1, _ =>
      match m, hm with
      | 0, _ => decide
end
/-! ### worlds -/
structure WFacts (K : PySem.W.Frag) : Prop where
  cls : Cls K (ga K "World")
  nt : NoAttr K (ga K "World") "own_tables"
  nn : NoAttr K (ga K "World") "own_names"
abbrev wD (K : PySem.W.Frag) (tabs : List D) (p : Addr) (nm : Nm) : D := .ins (ga K "World") ["own_tables", "own_names"] [.lst tabs, .dK p (keysN nm) (valsN nm)]
section
variable {K : PySem.W.Frag} {T : Tb} {M : MS} {G : Sl} {RS : DE}
theorem ws_cut {t : TS} (Φ : Sl → MS → Prop) (h : WS K T t G M { RS with nx := Φ }) (i : ∀ G' M', Φ G' M' → RS.nx G' M') : WS K T t G M RS := fun X σ H E ok sl k1 k2 k3 k4 =>
  h X σ H E ok sl (fun σ' H' G' M' q t s => k1 σ' H' G' M' (i G' M' q) t s) k2 k3 k4
end
end Dl
end
/-! ## DLD -/
section
set_option maxRecDepth 100000
namespace Dl
open PySem PySem.Spec PyProof.Rows L2 Mx
section
variable {K : PySem.W.Frag} {T : Tb} {X : List Addr} {M M1 M2 : MS} {H H1 H2 : Hp} {G : Sl} {R : D → MS → Prop} {RT : Bool → MS → Prop} {RA : List D → MS → Prop} {RG : Sl → MS → Prop} {RS : DE}
/-! ### a mutable object seen in another way -/
theorem To.recast {a : Addr} {x y : MD} (ok : Ok K T X M H) (hg : getM M a = some x) (new : MdOk K (imm X M H) (norm (H a)) y) : To K T X M H (setM M a y) H := by
  have ei : imm X (setM M a y) H = imm X M H := imm_setM
  refine ⟨⟨by rw [setM_dom]; exact ok.nd, by rw [setM_dom]; exact ok.ax, ok.hd, fun q hq => ?_, ok.lk, ok.lt, ok.lz, ok.tb⟩, ⟨by rw [ei]; exact Ex.refl _, fun _ _ => rfl, rfl, fun _ _ => rfl⟩⟩
  rw [ei]
  obtain ⟨z, hz, e⟩ := List.mem_map.mp hq
  by_cases hb : z.1 = a
  · rw [if_pos hb] at e
    rw [← e]
    exact new
  · rw [if_neg hb] at e
    rw [← e]
    exact ok.md z hz
/-- the numbers that are drawn from: the cells, the place, the rest, the seed, the count -/
abbrev srcL (ns : List Int) (i r s n : Int) : List D := [.ll (ns.map D.int), .int i, .int r, .int s, .int n]
def SrcOk (i r s n : Int) : Prop := 0 ≤ i ∧ 0 ≤ r ∧ 0 ≤ s ∧ s < 2147483648 ∧ 0 ≤ n
theorem src_open {a : Addr} (ok : Ok K T X M H) (hg : getM M a = some .src) : ∃ ns i r s n, SrcOk i r s n ∧ To K T X M H (setM M a (.lst (srcL ns i r s n))) H := by
  obtain ⟨c, i, r, s, n, ns, h1, h2, h3⟩ := ok.md _ (getM_mem hg)
  refine ⟨ns, i, r, s, n, h3, To.recast ok hg ⟨_, h1, ?_⟩⟩
  refine atL_cons ?_ (atL_cons (by unfold At; rfl) (atL_cons (by unfold At; rfl) (atL_cons (by unfold At; rfl) (atL_cons (by unfold At; rfl) atL_nil))))
  unfold At
  exact ⟨c, _, rfl, h2, of_ints ns⟩
theorem src_shut {a : Addr} {ns : List Int} {i r s n : Int} (ok : Ok K T X M H) (hg : getM M a = some (.lst (srcL ns i r s n))) (h : SrcOk i r s n) : To K T X M H (setM M a .src) H := by
  obtain ⟨vs, h1, h2⟩ := ok.md _ (getM_mem hg)
  refine To.recast ok hg ?_
  unfold AtL at h2
  obtain ⟨v, q, rfl, b1, h2⟩ := h2
  have e := ints_of (bs := [i, r, s, n]) h2
  subst e
  unfold At at b1
  obtain ⟨c, us, rfl, b2, b3⟩ := b1
  rw [ints_of b3] at b2
  exact ⟨c, i, r, s, n, ns, h1, b2, h⟩
theorem ws_open {a : Addr} {ts : TS} (hg : getM M a = some .src) (h : ∀ ns i r s n, SrcOk i r s n → WS K T ts G (setM M a (.lst (srcL ns i r s n))) RS) : WS K T ts G M RS := fun X σ H E ok sl k1 k2 k3 k4 => by
  obtain ⟨ns, i, r, s, n, hs, t⟩ := src_open ok hg
  exact h ns i r s n hs X σ H E t.ok (sl.to t) (fun a b c d q t' s => k1 a b c d q (t.trans t') s) (fun a b c d q t' s => k2 a b c d q (t.trans t') s) (fun a b c d q t' s => k3 a b c d q (t.trans t') s) fun a b c d q t' s => k4 a b c d q (t.trans t') s
theorem we_shut {te : TE} (h : WE K T te G M fun d M1 => ∃ a ns i r s n, getM M1 a = some (.lst (srcL ns i r s n)) ∧ SrcOk i r s n ∧ R d (setM M1 a .src)) : WE K T te G M R := fun X σ H Q ok sl k =>
  h X σ H Q ok sl fun v H1 M1 d h1 t1 a1 => by
    obtain ⟨a, ns, i, r, s, n, hg, hs, q⟩ := h1
    have t2 := src_shut t1.ok hg hs
    exact k v H1 _ d q (t1.trans t2) (a1.to t2)
/-- xs[i], xs a mutable list -/
theorem opd_ixM {a : Addr} {ds : List D} {i : Int} {d : D} (hg : getM M a = some (.lst ds)) (hi : atI ds i = some d) (q : R d M) : OpD K T (rIxL K) (.ptr a) (.int i) M R := fun X v u H Q ok av b k => by
  unfold At at av b
  subst av
  obtain ⟨vs, h1, h3⟩ := ml_at ok hg
  unfold atI at hi
  obtain ⟨j, hj, hd⟩ := Option.bind_eq_some_iff.mp hi
  obtain ⟨v', e, av⟩ := h3.get hd
  exact ⟨a, vs, i, v', rfl, b, .of h1, by unfold atI; rw [h3.len, hj]; exact e, k _ H M d q (To.refl ok) av⟩
/-- xs[i] = .. -/
theorem wg_subM {to ti : TE} {d : D} (h : WE K T to G M fun e M1 => WE K T ti G M1 fun f M2 => ∃ a ds i j, e = .ptr a ∧ f = .int i ∧ getM M2 a = some (.lst ds) ∧ ixN ds.length i = some j ∧ a ∉ M2.lk ∧ RG G (setM M2 a (.lst (ds.set j d)))) : WG K T (gSub to ti rSetL) d G M RG := fun X v σ H Q ok sl av k =>
  h X σ H _ ok sl fun o H1 M1 e h1 t1 a1 => h1 X σ H1 _ t1.ok (sl.to t1) fun u H2 M2 f h2 t2 a2 => by
    obtain ⟨a, ds, i, j, rfl, rfl, hg, hj, hl, q⟩ := h2
    have a1' := a1.to t2
    unfold At at a1' a2
    subst a1' a2
    obtain ⟨vs, hH, al⟩ := ml_at t2.ok hg
    refine ⟨a, vs, i, j, rfl, rfl, hH, by rw [al.len]; exact hj, ?_⟩
    have t3 := To.write (o := .lst (vs.set j v)) (y := .lst (ds.set j d)) t2.ok hg hH rfl rfl hl ⟨_, rfl, AtL.set ((av.to t1).to t2) j al⟩
    exact k _ _ _ _ q ((t1.trans t2).trans t3) (sl.to ((t1.trans t2).trans t3))
/-- a list whose items nobody changes, seen as one that the program has written -/
theorem we_loose {te : TE} (h : WE K T te G M fun d M1 => ∃ ds, d = .lst ds ∧ R (.ll ds) M1) : WE K T te G M R := fun X σ H Q ok sl k =>
  h X σ H Q ok sl fun v H1 M1 d h1 t1 a1 => by
    obtain ⟨ds, rfl, q⟩ := h1
    exact k v H1 M1 _ q t1 (at_ll_of_lst a1)
abbrev sM (p : Addr) : MS := ⟨[(p, .src)], []⟩
theorem opd_ixLL {ds : List D} {i : Int} {d : D} (hi : atI ds i = some d) (q : R d M) : OpD K T (rIxL K) (.ll ds) (.int i) M R := fun X v u H Q ok a b k => by
  unfold At at a b
  obtain ⟨p, vs, h1, h2, h3⟩ := a
  unfold atI at hi
  obtain ⟨j, hj, hd⟩ := Option.bind_eq_some_iff.mp hi
  obtain ⟨v', e, av⟩ := h3.get hd
  exact ⟨p, vs, i, v', h1, b, imm_sqL h2, by unfold atI; rw [h3.len, hj]; exact e, k _ H M d q (To.refl ok) av⟩
theorem cad_lenLL {ds : List D} (q : R (.int (ds.length : Nat)) M) : CaD K T (fun xs H Q => ∃ p ys, xs = [V.ref p] ∧ (SqL K H p ys ∨ SqT K H p ys) ∧ Q (.int ys.length) H) [.ll ds] M R := cad_one fun X v H Q ok a k => by
  unfold At at a
  obtain ⟨p, vs, rfl, h2, h3⟩ := a
  exact ⟨p, vs, rfl, .inl (imm_sqL h2), k _ H M _ q (To.refl ok) (by unfold At; rw [h3.len])⟩
theorem getM_at {l : List (Addr × MD)} {p : Addr} {y : MD} (h : p ∉ l.map (·.1)) : getM ⟨l ++ [(p, y)], []⟩ p = some y := by
  unfold getM
  show (l ++ [(p, y)]).lookup p = some y
  induction l with
  | nil => simp
  | cons q r ih =>
    rw [List.map_cons, List.mem_cons, not_or] at h
    rw [List.cons_append, List.lookup_cons, beq_eq_false_iff_ne.mpr h.1]
    exact ih h.2
theorem setM_at {l : List (Addr × MD)} {p : Addr} {y z : MD} (h : p ∉ l.map (·.1)) : setM ⟨l ++ [(p, y)], []⟩ p z = ⟨l ++ [(p, z)], []⟩ := by
  unfold setM
  show MS.mk ((l ++ [(p, y)]).map _) [] = _
  rw [List.map_append, setM_nin h]
  simp
theorem wg_subS {l : List (Addr × MD)} {p : Addr} {ds : List D} {v j : Nat} {i : Int} {d : D} (h : p ∉ l.map (·.1)) (hv : G[v]? = some (some (.ptr p))) (hj : ixN ds.length i = some j) (q : RG G ⟨l ++ [(p, .lst (ds.set j d))], []⟩) : WG K T (gSub (tVar v) (tC (.int i)) rSetL) d G ⟨l ++ [(p, .lst ds)], []⟩ RG :=
  wg_subM (we_var hv (we_int ⟨p, ds, i, j, rfl, rfl, getM_at h, hj, by simp, by rw [setM_at h]; exact q⟩))
theorem ws_shut {ts : TS} (h : WS K T ts G M { RS with rt := fun d M1 => ∃ a ns i r s n, getM M1 a = some (.lst (srcL ns i r s n)) ∧ SrcOk i r s n ∧ RS.rt d (setM M1 a .src) }) : WS K T ts G M RS := fun X σ H E ok sl k1 k2 k3 k4 =>
  h X σ H E ok sl k1 (fun v H1 M1 d h1 t1 a1 => by
    obtain ⟨a, ns, i, r, s, n, hg, hs, q⟩ := h1
    have t2 := src_shut t1.ok hg hs
    exact k2 v H1 _ d q (t1.trans t2) (a1.to t2)) k3 k4
end
end Dl
end
/-! ## DLE -/
section
set_option maxRecDepth 100000
namespace Dl
open PySem PySem.Spec PyProof.Rows L2 Mx
def rListStr : List V → Hp → VK → Prop := fun xs H Q => ∃ z : Str, xs = [V.str z] ∧ z.length ≤ sizeLine ∧ ∀ q, H q = none → Q (.ref q) (upd H q (.lst (z.cps.toList.map fun c => V.str ⟨#[c]⟩)))
def rRange1 : List V → Hp → VK → Prop := fun vs H Q => ∃ j : Int, vs = [V.int j] ∧ ∀ p, H p = none → Q (.ref p) (upd H p (.rng 0 j))
def rListRng : List V → Hp → VK → Prop := fun vs H Q => ∃ (p : Addr) (n : Nat), vs = [V.ref p] ∧ H p = some (.rng 0 n) ∧ n ≤ 1000 ∧ ∀ q, H q = none → Q (.ref q) (upd H q (.lst ((List.range n).map fun i => V.int (i : Nat))))
section
variable {X : Cx}
theorem call_listStr (hc : X.calm = true) : CallR X (.type "list") rListStr := by
  intro pins s σ H xs us Q I r h
  obtain ⟨z, rfl, hz, q⟩ := h
  obtain ⟨u, rfl, ru⟩ := vals1 r
  obtain ⟨t, rfl⟩ := ru
  refine call_list_str (hn := hz) (I.ok.hd hc) z t fun h' tk acc c' hk e hi => ?_
  have hl : (z.cps.toList.map fun c => V.str ⟨#[c]⟩).length = z.cps.size := by rw [List.length_map, Array.length_toList]
  refine ⟨.ref s.heap.objs.size, upd H s.heap.objs.size (.lst (z.cps.toList.map fun c => V.str ⟨#[c]⟩)), I.laid hk (Nat.le_refl _) ⟨by rw [hl]; exact hz, acc.toList, c', ?_, by rw [Array.toArray_toList]; exact e⟩, rfl, q _ (I.hok.fresh (Nat.le_refl _))⟩
  refine vals_of_idx _ _ (by rw [hl, Array.length_toList]; exact hi.1) fun j u hj => ?_
  have hs := hi.2 j u (by rw [← Array.getElem?_toList]; exact hj)
  unfold SignAt at hs
  obtain ⟨c, t', hc, rfl⟩ := hs
  exact ⟨.str ⟨#[c]⟩, by rw [List.getElem?_map, Array.getElem?_toList, hc]; rfl, ⟨_, rfl⟩⟩
theorem cr_range1 : CallR X (.type "range") rRange1 := by
  intro pins s σ H vs us Q I r h
  obtain ⟨j, rfl, q⟩ := h
  obtain ⟨u, rfl, ru⟩ := vals1 r
  obtain ⟨t, rfl⟩ := ru
  refine call_range_1 ⟨.ref s.heap.objs.size, upd H s.heap.objs.size (.rng 0 j), I.laid (t' := s.toks + 1 + 1) (fun b o e => Heap.get?_push_of_some _ e) (Nat.le_refl _) ?_, rfl, q _ (I.hok.fresh (Nat.le_refl _))⟩
  exact ⟨s.toks, t, s.toks + 1, Heap.get?_push_size _ rfl⟩
theorem call_listRng (hc : X.calm = true) : CallR X (.type "list") rListRng := by
  intro pins s σ H vs us Q I r h
  obtain ⟨p, n, rfl, hp, hn, q⟩ := h
  obtain ⟨u, rfl, ru⟩ := vals1 r
  obtain rfl : u = Value.ref p := ru
  obtain ⟨t, u, v, ho⟩ := I.hok _ _ hp
  have hl : ((List.range n).map fun i => V.int (i : Nat)).length = n := by rw [List.length_map, List.length_range]
  refine call_list_range (n := n) (I.ok.hd hc) ho ?_ ?_ (by omega) fun h' tk acc c' hk e hi => ?_
  · have e : Builtin.Range.rangeSize 0 (n : Int) 1 = n := by
      unfold Builtin.Range.rangeSize
      rw [if_pos (by decide)]
      split <;> omega
    unfold Builtin.Range.small
    rw [e]
    simp [Builtin.Range.rangeFitsLong]
    omega
  · unfold Builtin.Range.rangeSize
    rw [if_pos (by decide)]
    split <;> omega
  · refine ⟨.ref s.heap.objs.size, upd H s.heap.objs.size (.lst ((List.range n).map fun i => V.int (i : Nat))), I.laid hk (Nat.le_refl _) ⟨by rw [hl]; exact Nat.le_of_lt (small1000 hn), acc.toList, c', ?_, by rw [Array.toArray_toList]; exact e⟩, rfl, q _ (I.hok.fresh (Nat.le_refl _))⟩
    refine vals_of_idx _ _ (by rw [hl, Array.length_toList]; exact hi.1) fun j u hj => ?_
    obtain ⟨t', rfl⟩ := hi.2 j u (by rw [← Array.getElem?_toList]; exact hj)
    have hjn : j < n := by
      have := (List.getElem?_eq_some_iff.mp hj).1
      rw [Array.length_toList, hi.1] at this
      exact this
    exact ⟨.int (j : Nat), by rw [List.getElem?_map, List.getElem?_range hjn]; rfl, ⟨t', by simp⟩⟩
end
section
variable {K : PySem.W.Frag} {T : Tb} {X : List Addr} {M M1 M2 : MS} {H H1 H2 : Hp} {G : Sl} {R : D → MS → Prop}
theorem cad_listStr {z : Str} (hz : z.length ≤ sizeLine) (q : R (.lst (z.cps.toList.map fun c => .str ⟨#[c]⟩)) M) : CaD K T rListStr [.str z] M R := cad_one fun X v H Q ok a k => by
  unfold At at a
  refine ⟨z, by rw [a], hz, fun c hc => ?_⟩
  have t := To.new (o := .lst (z.cps.toList.map fun c => V.str ⟨#[c]⟩)) ok hc rfl
  refine k _ _ M _ q t ?_
  unfold At
  refine ⟨c, _, rfl, imm_new ok hc rfl, ?_⟩
  have e := of_strs (K := K) (I := imm X M (upd H c (.lst (z.cps.toList.map fun c => V.str ⟨#[c]⟩)))) (z.cps.toList.map fun c => (⟨#[c]⟩ : Str))
  rw [List.map_map, List.map_map] at e
  exact e
theorem we_listRng {ta : TA} (h : WA K T ta G M fun ds M1 => ∃ n : Nat, ds = [.int n] ∧ n ≤ 1000 ∧ R (.lst (intsD n)) M1) : WE K T (tCB rListRng (tCons (tCB rRange1 ta) tNil)) G M R := fun X σ H Q ok sl k =>
  h X σ H _ ok sl fun vs H1 M1 ds h1 t1 a1 => by
    obtain ⟨n, rfl, hn, q⟩ := h1
    unfold AtL at a1
    obtain ⟨v, r, rfl, b1, a1⟩ := a1
    unfold AtL at a1
    unfold At at b1
    subst a1 b1
    refine ⟨_, rfl, fun p hp => ?_⟩
    have t2 := To.new (o := .rng 0 (n : Nat)) t1.ok hp rfl
    refine ⟨p, n, rfl, upd_same, hn, fun c hc => ?_⟩
    have t3 := To.new (o := .lst ((List.range n).map fun i => V.int (i : Nat))) t2.ok hc rfl
    refine k _ _ M1 _ q ((t1.trans t2).trans t3) ?_
    unfold At
    refine ⟨c, _, rfl, imm_new t2.ok hc rfl, ?_⟩
    have e := of_ints (K := K) (I := imm X M1 (upd (upd H1 p (.rng 0 (n : Nat))) c (.lst ((List.range n).map fun i => V.int (i : Nat))))) ((List.range n).map fun i => ((i : Nat) : Int))
    rw [List.map_map, List.map_map] at e
    exact e
theorem cad_lenV {ds : List D} (q : R (.int (ds.length : Nat)) M) : CaD K T (fun xs H Q => ∃ x n, xs = [x] ∧ LenV K x H n ∧ Q (.int n) H) [.lst ds] M R := cad_one fun X v H Q ok a k => by
  unfold At at a
  obtain ⟨p, vs, rfl, h2, h3⟩ := a
  exact ⟨_, vs.length, rfl, .inl ⟨vs, imm_sqL (.of h2), rfl⟩, k _ H M _ q (To.refl ok) (by unfold At; rw [h3.len])⟩
theorem small_len {s : Str} (h : s.length ≤ 1000) : s.length ≤ sizeLine := Nat.le_of_lt (small1000 h)
end
end Dl
end
/-! ## DLF -/
section
set_option maxRecDepth 100000
namespace Dl
open PySem PySem.Spec PyProof.Rows L2 Mx
/-! ### texts -/
abbrev st (l : List Nat) : Str := ⟨l.toArray⟩
theorem st_len (l : List Nat) : (st l).length = l.length := by rw [str_len]
theorem st_eta (s : Str) : st s.cps.toList = s := by cases s; rfl
theorem join_st (cs : List Nat) : Txt.join "" (cs.map fun c => st [c]) = st cs := by
  have e : ∀ cs : List Nat, TL.joinL [] (cs.map fun c => [c]) = cs := by
    intro cs
    induction cs with
    | nil => rfl
    | cons c cs ih =>
      cases cs with
      | nil => rfl
      | cons d cs =>
        show [c] ++ ([] ++ TL.joinL [] ((d :: cs).map fun c => [c])) = _
        rw [ih]
        rfl
  have h := TL.tl_join "" (cs.map fun c => st [c])
  rw [← TL.join_eq] at h
  have h2 : (Txt.join "" (cs.map fun c => st [c])).cps.toList = cs := by
    have h3 : ((cs.map fun c => st [c]).map fun s : Str => s.cps.toList) = cs.map fun c => [c] := by rw [List.map_map]; rfl
    exact h.trans (by rw [show (cs.map fun c => st [c]).map TL.tl = cs.map fun c => [c] from h3]; exact e cs)
  rw [← st_eta (Txt.join "" (cs.map fun c => st [c])), h2]
theorem cutS_to (l : List Nat) (n : Nat) : cutS (st l) none (some (n : Int)) = st (l.take n) := by
  unfold cutS
  rw [HT.sIx_none, HT.sIx_nat, st_len, List.drop_zero, Nat.sub_zero]
  show st (l.take _) = _
  by_cases h : n ≤ l.length
  · rw [Nat.min_eq_left h]
  · rw [Nat.min_eq_right (by omega), List.take_of_length_le (by omega)]
    rw [List.take_of_length_le (by omega)]
theorem cutS_from (l : List Nat) (n : Nat) : cutS (st l) (some (n : Int)) none = st (l.drop n) := by
  unfold cutS
  rw [HT.sIx_none, HT.sIx_nat, st_len]
  show st ((l.drop _).take _) = _
  by_cases h : n ≤ l.length
  · rw [Nat.min_eq_left h, List.take_of_length_le (by rw [List.length_drop]; exact Nat.le_refl _)]
  · rw [Nat.min_eq_right (by omega)]
    rw [List.drop_of_length_le (show l.length ≤ n by omega), Nat.sub_self, List.take_zero]
theorem st_add (a b : List Nat) : st a ++ st b = st (a ++ b) := by
  show Str.mk (a.toArray ++ b.toArray) = _
  rw [List.append_toArray]
theorem letters_eq : ("abcdefghijklmnopqrstuvwxyz" : Str).cps.toList = lettersL := by decide
theorem letters_nd : lettersL.Nodup := by decide
/-! ### values that are there for each place -/
theorem pick {α : Type} [Inhabited α] {n : Nat} {acc : List D} {F : Nat → α → D} {P : Nat → α → Prop} (hl : acc.length = n) (h : ∀ k d, acc[k]? = some d → ∃ x, d = F k x ∧ P k x) : ∃ f : Nat → α, acc = (List.range n).map (fun k => F k (f k)) ∧ ∀ k < n, P k (f k) := by
  have h' : ∀ k, ∃ x, ∀ d, acc[k]? = some d → d = F k x ∧ P k x := fun k => by
    cases e : acc[k]? with
    | none => exact ⟨default, fun d z => by cases z⟩
    | some d =>
      obtain ⟨x, h1, h2⟩ := h k d e
      exact ⟨x, fun d' z => by cases z; exact ⟨h1, h2⟩⟩
  refine ⟨fun k => Classical.choose (h' k), rng_ext hl fun k d hd => (Classical.choose_spec (h' k) d hd).1, fun k hk => ?_⟩
  exact (Classical.choose_spec (h' k) acc[k] (List.getElem?_eq_getElem (by omega))).2
/-- lengths as they are drawn -/
theorem lv_int {k : Nat} (h : k ≤ 1000000) : Lv 0 ((k : Nat) : Rat) := by
  refine ⟨k * 60, ?_, by omega⟩
  rw [Rat.natCast_mul]
  rfl
theorem lv_low {t b : Nat} (ht : t ≤ 12) (hb : b ∈ [1, 2, 3, 4, 5]) : Lv 0 (mkRat (t : Int) b) := by
  have key : ∀ c : Nat, b * c = 60 → mkRat (t : Int) b * (60 : Rat) = ((t * c : Nat) : Rat) := fun c hc => by
    have hb0 : b ≠ 0 := by intro z; rw [z] at hc; omega
    have hb1 : (b : Rat) ≠ 0 := by
      intro h
      have h2 : ((b : Nat) : Rat) = ((0 : Nat) : Rat) := by rw [h]; rfl
      exact hb0 (Rat.natCast_inj.mp h2)
    rw [Rat.mkRat_eq_div, Rat.natCast_mul]
    have h60 : (60 : Rat) = (b : Rat) * (c : Rat) := by
      rw [← Rat.natCast_mul, hc]
      rfl
    rw [h60]
    have e : ((t : Int) : Rat) = (t : Rat) := rfl
    rw [e]
    grind
  have fin : ∀ c : Nat, b * c = 60 → c ≤ 60 → Lv 0 (mkRat (t : Int) b) := fun c hc h60 => ⟨t * c, key c hc, by
    have := Nat.mul_le_mul ht h60
    omega⟩
  simp only [List.mem_cons, List.not_mem_nil, or_false] at hb
  rcases hb with rfl | rfl | rfl | rfl | rfl
  · exact fin 60 rfl (by omega)
  · exact fin 30 rfl (by omega)
  · exact fin 20 rfl (by omega)
  · exact fin 15 rfl (by omega)
  · exact fin 12 rfl (by omega)
/-- the factors -/
theorem six_low {t b : Nat} (ht : 1 ≤ t) (ht2 : t ≤ 5) (hb : b ∈ [1, 2, 3]) : ∃ y : Nat, mkRat (t : Int) b * 6 = (y : Rat) ∧ y ≤ 30 ∧ 0 < mkRat (t : Int) b := by
  have key : ∀ c : Nat, b * c = 6 → c ≤ 6 → ∃ y : Nat, mkRat (t : Int) b * 6 = (y : Rat) ∧ y ≤ 30 ∧ 0 < mkRat (t : Int) b := fun c hc hc6 => by
    have hb0 : b ≠ 0 := by intro z; rw [z] at hc; omega
    have hb1 : (b : Rat) ≠ 0 := by
      intro h
      have h2 : ((b : Nat) : Rat) = ((0 : Nat) : Rat) := by rw [h]; rfl
      exact hb0 (Rat.natCast_inj.mp h2)
    have e6 : (6 : Rat) = (b : Rat) * (c : Rat) := by
      rw [← Rat.natCast_mul, hc]
      rfl
    have em : mkRat (t : Int) b * 6 = ((t * c : Nat) : Rat) := by
      rw [Rat.mkRat_eq_div, Rat.natCast_mul, e6]
      have e : ((t : Int) : Rat) = (t : Rat) := rfl
      rw [e]
      grind
    have hc0 : 0 < c := by
      rcases Nat.eq_zero_or_pos c with z | z
      · rw [z] at hc; omega
      · exact z
    have hp : (0 : Rat) < ((t * c : Nat) : Rat) := Rat.natCast_pos.mpr (Nat.mul_pos ht hc0)
    refine ⟨t * c, em, ?_, ?_⟩
    · have := Nat.mul_le_mul ht2 hc6
      omega
    · rw [← em] at hp
      grind
  simp only [List.mem_cons, List.not_mem_nil, or_false] at hb
  rcases hb with rfl | rfl | rfl
  · exact key 6 rfl (by omega)
  · exact key 3 rfl (by omega)
  · exact key 2 rfl (by omega)
end Dl
end
/-! ## DLG -/
section
set_option maxRecDepth 100000
namespace Dl
open PySem PySem.Spec PyProof.Rows L2 Mx
/-! ### plans -/
abbrev pairD (p : Str × Nat) : D := .tup [.str p.1, .int (p.2 : Nat)]
abbrev nmD (nm : Nm) : D := .lst (nm.map pairD)
section
variable {K : PySem.W.Frag} {T : Tb} {X : List Addr} {M M1 M2 : MS} {H H1 H2 : Hp} {G : Sl} {R : D → MS → Prop}
theorem pairs_at {I H : Hp} (ok : ∀ p vs, SqT K I p vs → SqT K H p vs) : ∀ {nm : Nm} {vs : List V}, AtL K I (nm.map pairD) vs → ∃ ps : List Addr, vs = ps.map V.ref ∧ Paired (fun p kv => SqT K H p [kV kv.1, kv.2]) ps (nm.map fun q => ((Sum.inr q.1 : Key), V.int (q.2 : Nat)))
  | [], vs, h => by
    unfold List.map AtL at h
    subst h
    exact ⟨[], rfl, .nil⟩
  | q :: nm, vs, h => by
    rw [List.map_cons] at h
    unfold AtL at h
    obtain ⟨v, r, rfl, h1, h2⟩ := h
    obtain ⟨ps, rfl, hp⟩ := pairs_at ok h2
    unfold At at h1
    obtain ⟨p, us, rfl, h3, h4⟩ := h1
    unfold AtL at h4
    obtain ⟨a, r, rfl, b1, h4⟩ := h4
    unfold AtL at h4
    obtain ⟨b, r, rfl, b2, h4⟩ := h4
    unfold AtL at h4
    unfold At at b1 b2
    subst h4 b1 b2
    exact ⟨p :: ps, rfl, .cons (ok _ _ h3) hp⟩
theorem merge_nd {kvs : List (Key × V)} (h : (kvs.map (·.1)).Nodup) : mergeK [] kvs = kvs := by
  have aux : ∀ (l acc : List (Key × V)), ((acc ++ l).map (·.1)).Nodup → mergeK acc l = acc ++ l := by
    intro l
    induction l with
    | nil => intro acc _; simp [mergeK]
    | cons q l ih =>
      intro acc hn
      have hk : q.1 ∉ acc.map (·.1) := by
        rw [List.map_append, List.map_cons] at hn
        intro z
        exact (List.nodup_append.mp hn).2.2 q.1 z q.1 List.mem_cons_self rfl
      have e : putK acc q.1 q.2 = acc ++ [q] := by
        unfold putK
        rw [if_neg]
        intro z
        obtain ⟨kv, h1, h2⟩ := List.any_eq_true.mp z
        exact hk (List.mem_map.mpr ⟨kv, h1, of_decide_eq_true h2⟩)
      show mergeK (putK acc q.1 q.2) l = _
      rw [e, ih (acc ++ [q]) (by simpa using hn)]
      simp
  simpa using aux kvs [] (by simpa using h)
theorem cad_dictP {nm : Nm} (hn : (nm.map (·.1)).Nodup) (q : ∀ p, R (.dK p (keysN nm) (valsN nm)) M) : CaD K T (fun xs H Q => ∃ (a : Addr) (ps : List Addr) (kvs : List (Key × V)), xs = [V.ref a] ∧ SqL K H a (ps.map V.ref) ∧ Paired (fun p kv => SqT K H p [kV kv.1, kv.2]) ps kvs ∧
    ∀ p, H p = none → Q (.ref p) (upd H p (.dK (mergeK [] kvs)))) [nmD nm] M R := cad_one fun X v H Q ok a k => by
  unfold At at a
  obtain ⟨c, vs, rfl, h2, h3⟩ := a
  obtain ⟨ps, rfl, hp⟩ := pairs_at (fun _ _ => imm_sqT) h3
  refine ⟨c, ps, _, rfl, imm_sqL (.of h2), hp, fun d hd => ?_⟩
  have hk : ((nm.map fun q => ((Sum.inr q.1 : Key), V.int (q.2 : Nat))).map (·.1)).Nodup := by
    have this : ((nm.map (·.1)).map (Sum.inr : Str → Key)).Nodup := List.pairwise_map.mpr (List.Pairwise.imp (fun {a b} (h : a ≠ b) (z : (Sum.inr a : Key) = .inr b) => h (Sum.inr.inj z)) hn)
    rw [List.map_map] at this ⊢
    exact this
  rw [merge_nd hk]
  have t := To.new (o := .dK (nm.map fun q => ((Sum.inr q.1 : Key), V.int (q.2 : Nat)))) ok hd rfl
  refine k _ _ M _ (q d) t ?_
  unfold At
  have e : (nm.map fun q => ((Sum.inr q.1 : Key), V.int (q.2 : Nat))) = (keysN nm).zip ((nm.map fun q => ((q.2 : Nat) : Int)).map V.int) := by
    unfold keysN
    rw [List.map_map, List.zip_map']
    rfl
  refine ⟨_, rfl, by rw [← e]; exact imm_new ok hd rfl, by unfold keysN valsN; simp, ?_⟩
  have e2 : valsN nm = (nm.map fun q => ((q.2 : Nat) : Int)).map D.int := by
    unfold valsN
    rw [List.map_map]
    rfl
  rw [e2]
  exact of_ints _
/-! ### comprehensions over a list of known items -/
theorem we_lcXF {wi : TI} {tt : TT} {te : TE} {i : Nat} (h : WI K T wi G M fun ds M1 => ∃ (α : Type) (xs : List α) (g g' : α → D) (p : α → Bool), ds = xs.map g ∧ xs.length ≤ 1000 ∧
    (∀ x ∈ xs, WT K T tt ((wipeD G [i]).set i (some (g x))) M1 fun b M' => b = p x ∧ M' = M1 ∧ (b = true → WE K T te ((wipeD G [i]).set i (some (g x))) M1 fun y M' => y = g' x ∧ M' = M1)) ∧ R (.lst ((xs.filter p).map g')) M1) : WE K T (tLc wi (gName i) tt te [i]) G M R := by
  refine we_lc fun X σ H Q ok sl k => h X σ H Q ok sl fun J H' M' ds r t it => k J H' M' ds ?_ t it
  obtain ⟨α, xs, g, g', p, rfl, hz, he, hr⟩ := r
  refine ⟨Nat.le_of_lt (small1000 (by rw [List.length_map]; exact hz)), fun n acc M2 => M2 = M' ∧ acc = ((xs.take n).filter p).map g', ⟨rfl, rfl⟩, ?_, fun acc M2 ⟨e1, e2⟩ => by rw [e1, e2, List.length_map, List.take_length]; exact hr⟩
  rintro n acc d M2 hd _ ⟨rfl, rfl⟩
  rw [List.getElem?_map] at hd
  obtain ⟨x, e1, rfl⟩ := Option.map_eq_some_iff.mp hd
  have hx : x ∈ xs := List.mem_of_getElem? e1
  refine wgv_name (by simp) ((he x hx).imp fun b M3 q => ?_)
  obtain ⟨rfl, rfl, q⟩ := q
  cases hp : p x with
  | true =>
    rw [hp] at q
    refine ite_t ((q rfl).imp fun y M4 q2 => ?_)
    obtain ⟨rfl, rfl⟩ := q2
    refine ⟨rfl, ?_⟩
    rw [List.take_succ, e1, List.filter_append, List.map_append]
    simp [hp]
  | false =>
    refine ite_f ⟨rfl, ?_⟩
    rw [List.take_succ, e1, List.filter_append, List.map_append]
    simp [hp]
theorem we_lcX {wi : TI} {te : TE} {i : Nat} (h : WI K T wi G M fun ds M1 => ∃ (α : Type) (xs : List α) (g g' : α → D), ds = xs.map g ∧ xs.length ≤ 1000 ∧
    (∀ x ∈ xs, WE K T te ((wipeD G [i]).set i (some (g x))) M1 fun y M' => y = g' x ∧ M' = M1) ∧ R (.lst (xs.map g')) M1) : WE K T (tLc wi (gName i) tYes te [i]) G M R := by
  refine we_lcXF fun X σ H Q ok sl k => h X σ H Q ok sl fun J H' M' ds r t it => k J H' M' ds ?_ t it
  obtain ⟨α, xs, g, g', e, hz, he, hr⟩ := r
  refine ⟨α, xs, g, g', fun _ => true, e, hz, fun x hx => wt_yes ⟨rfl, rfl, fun _ => he x hx⟩, ?_⟩
  rw [List.filter_eq_self.mpr (fun _ _ => rfl)]
  exact hr
/-- a copy of a table -/
theorem we_copy {tl : TE} {i : Nat} (h : WE K T tl G M fun d M1 => ∃ (n : Nat) (f : Nat → Nat → Rat), d = matD n f ∧ n ≤ 1000 ∧ R (matD n f) M1) (hi : i < G.length) :
    WE K T (tLc (iList K tl) (gName i) tYes (tCB (fun xs H Q => ∃ p ys, xs = [V.ref p] ∧ (SqL K H p ys ∨ SqT K H p ys) ∧ ∀ l, H l = none → Q (.ref l) (upd H l (.lst ys))) (tCons (tVar i) tNil)) [i]) G M R := by
  refine we_lcX (wi_list (h.imp fun d M1 q => ?_))
  obtain ⟨n, f, rfl, hn, q⟩ := q
  refine ⟨_, rfl, Nat, List.range n, fun i => rowD n (f i), fun i => rowD n (f i), rfl, by rw [List.length_range]; exact hn, fun j hj => ?_, q⟩
  refine we_cb (wa_cons (we_var (d := rowD n (f j)) ?_ (wa_nil (cad_list ⟨rfl, rfl⟩))))
  rw [List.getElem?_set_self]
  show i < (wipeD G [i]).length
  show i < (G.set i none).length
  rw [List.length_set]
  exact hi
end
end Dl
end
/-! ## DLH -/
section
set_option maxRecDepth 100000
namespace Dl
open PySem PySem.Spec PyProof.Rows PyProof.Rows.G L2 Mx
theorem perm_lift {α β : Type} (f : α → β) {xs ys : List β} (h : xs.Perm ys) : ∀ l : List α, ys = l.map f → ∃ l' : List α, l'.Perm l ∧ xs = l'.map f := by
  induction h with
  | nil =>
    intro l e
    have : l = [] := by simpa using e.symm
    exact ⟨[], by rw [this], rfl⟩
  | cons x _ ih =>
    intro l e
    cases l with
    | nil => cases e
    | cons a l =>
      rw [List.map_cons] at e
      obtain ⟨rfl, e2⟩ := List.cons.inj e
      obtain ⟨l', h1, rfl⟩ := ih l e2
      exact ⟨a :: l', h1.cons a, rfl⟩
  | swap x y _ =>
    intro l e
    match l, e with
    | a :: b :: l, e =>
      rw [List.map_cons, List.map_cons] at e
      obtain ⟨rfl, e2⟩ := List.cons.inj e
      obtain ⟨rfl, rfl⟩ := List.cons.inj e2
      exact ⟨b :: a :: l, .swap _ _ _, rfl⟩
  | trans _ _ ih1 ih2 =>
    intro l e
    obtain ⟨l1, h1, e1⟩ := ih2 l e
    obtain ⟨l2, h2, e2⟩ := ih1 l1 e1
    exact ⟨l2, h2.trans h1, e2⟩
/-- sorted of pairs, a text and a number -/
def rSortedNm (K : PySem.W.Frag) : List V → Hp → VK → Prop := fun vs H Q => ∃ (a : Addr) (l : List (Addr × (Str × Nat))), vs = [V.ref a] ∧ SqL K H a (l.map fun x => V.ref x.1) ∧ (∀ x ∈ l, SqT K H x.1 [.str x.2.1, .int (x.2.2 : Nat)]) ∧
  ∀ (l' : List (Addr × (Str × Nat))) (d : Addr), l'.Perm l → (l'.map (·.2.1)).Pairwise leS → H d = none → Q (.ref d) (upd H d (.lst (l'.map fun x => V.ref x.1)))
def shp : Nat → Bool := fun i => i == 0
section
variable {X : Cx}
theorem cr_sortedNm {K : PySem.W.Frag} (hK : X.K = K := by rfl) : CallR X (.builtin "sorted") (rSortedNm K) := by
  subst hK
  intro pins s σ H vs us Q I r h
  obtain ⟨a, l, rfl, hs, hx, q⟩ := h
  obtain ⟨its, rv, hl, hz⟩ := I.list hs
  obtain ⟨u, rfl, ru⟩ := vals1 r
  obtain rfl : u = Value.ref a := ru
  have rvl := rv.length
  have hits : its = l.map fun x => Value.ref x.1 := by
    clear q hx hs hz hl rvl
    induction l generalizing its with
    | nil =>
      rw [List.map_nil] at rv
      cases rv
      rfl
    | cons x l ih =>
      rw [List.map_cons] at rv
      cases rv with
      | cons r1 r2 =>
        cases r1
        rw [ih _ r2, List.map_cons]
  have key : ∀ x ∈ l, tupKeyC s.heap shp (.ref x.1) = some [Sum.inr x.2.1.cps.toList, Sum.inl (x.2.2 : Int)] ∧ ∃ f, TupOf s.heap shp (.ref x.1) f := fun x hm => by
    obtain ⟨ts, rt, p, _⟩ := I.tuple (hx x hm)
    obtain ⟨o, ho, hc, n, hd⟩ := p
    obtain ⟨u1, u2, rfl, r1, r2⟩ := vals2 rt
    obtain ⟨t1, rfl⟩ := r1
    obtain ⟨t2, rfl⟩ := r2
    refine ⟨?_, _, ⟨_, o, _, n, rfl, ho, hc, hd, rfl, fun e => absurd e (by decide), fun _ => ⟨_, _, rfl⟩⟩⟩
    unfold tupKeyC
    have e1 : isTupObj s.heap (.ref x.1) = true := by simp [isTupObj, ho, hc]
    rw [if_pos e1]
    simp only [tupKey, ho, hd]
    rfl
  have tups : ∃ fs, TupsOf s.heap shp its fs := by
    rw [hits]
    clear q hx hs hz hl rvl rv hits
    induction l with
    | nil => exact ⟨[], .nil⟩
    | cons x l ih =>
      obtain ⟨fs, h1⟩ := ih fun y hy => key y (List.mem_cons_of_mem _ hy)
      obtain ⟨_, f, h2⟩ := key x List.mem_cons_self
      exact ⟨f :: fs, .cons h2 h1⟩
  obtain ⟨fs, ht⟩ := tups
  refine sorted_tups hl.isList ht (fun v hv => ?_) (by rw [← rvl]; exact hz) fun st' hp hso _ => ?_
  · rw [hits] at hv
    obtain ⟨x, hm, rfl⟩ := List.mem_map.mp hv
    exact ⟨_, (key x hm).1⟩
  · have hpl : (arrOf st').toList.Perm (its.zip its) := by
      rw [← pairsOf_toList]
      exact Array.perm_iff_toList_perm.mp hp
    have e0 : its.zip its = l.map fun x => ((Value.ref x.1, Value.ref x.1) : Keyed) := by
      rw [hits, List.zip_map']
    obtain ⟨l', hl', earr⟩ := perm_lift (fun x : Addr × (Str × Nat) => ((Value.ref x.1, Value.ref x.1) : Keyed)) hpl l e0
    have hsize : (pairsOf its).size = l'.length := by
      rw [pairsOf_size, hits, List.length_map, hl'.length_eq]
    have kk : ∀ i x, l'[i]? = some x → KK (tupKindC s.heap shp) (arrOf st') i = [Sum.inr x.2.1.cps.toList, Sum.inl (x.2.2 : Int)] := fun i x hi => by
      have e1 : (arrOf st')[i]? = some ((Value.ref x.1, Value.ref x.1) : Keyed) := by
        rw [← Array.getElem?_toList, earr, List.getElem?_map, hi]
        rfl
      unfold KK
      rw [e1]
      show (tupKeyC s.heap shp (.ref x.1)).getD [] = _
      rw [(key x (hl'.mem_iff.mp (List.mem_of_getElem? hi))).1]
      rfl
    have hsorted : (l'.map (·.2.1)).Pairwise leS := by
      rw [List.pairwise_iff_getElem]
      intro i j hi hj hij
      rw [List.length_map] at hi hj
      have h1 := hso i j (Nat.le_of_lt hij) (by rw [hsize]; exact hj)
      rw [kk i l'[i] (List.getElem?_eq_getElem hi), kk j l'[j] (List.getElem?_eq_getElem hj)] at h1
      rw [List.getElem_map, List.getElem_map]
      have h2 : decide (l'[j].2.1.cps.toList < l'[i].2.1.cps.toList) = false := (Bool.or_eq_false_iff.mp h1).1
      unfold leS
      rw [ltCps_eq]
      exact h2
    have hout : (((arrOf st').map (·.2)).toList) = l'.map fun x => Value.ref x.1 := by
      rw [Array.toList_map, earr, List.map_map]
      rfl
    obtain ⟨e, he⟩ := sortedAll_at s.heap its ((arrOf st').map (·.2))
    have rl : ∀ z : List (Addr × (Str × Nat)), Vals (z.map fun x => V.ref x.1) (z.map fun x => Value.ref x.1) := fun z => by
      induction z with
      | nil => exact .nil
      | cons x z ih => exact .cons (show RelV (.ref x.1) (.ref x.1) from rfl) ih
    refine ⟨.ref (s.heap.objs.size + 1), upd H (s.heap.objs.size + 1) (.lst (l'.map fun x => V.ref x.1)), I.laid (t' := s.toks) (fun b o eb => sortedAll_old eb) (Nat.le_succ _) ⟨?_, l'.map (fun x => Value.ref x.1), e, rl l', ?_⟩, rfl, q l' _ hl' hsorted (I.hok.fresh (Nat.le_succ _))⟩
    · rw [List.length_map, hl'.length_eq]
      rw [List.length_map] at hz
      exact hz
    · rw [← hout, Array.toArray_toList]
      exact he
end
section
variable {K : PySem.W.Frag} {T : Tb} {X : List Addr} {M M1 M2 : MS} {H H1 H2 : Hp} {G : Sl} {R : D → MS → Prop}
theorem at_pairs {I : Hp} : ∀ {l : List (Addr × (Str × Nat))}, (∀ x ∈ l, SqT K I x.1 [.str x.2.1, .int (x.2.2 : Nat)]) → AtL K I ((l.map (·.2)).map pairD) (l.map fun x => V.ref x.1)
  | [], _ => atL_nil
  | x :: l, h => atL_cons (by unfold At; exact ⟨_, _, rfl, h x List.mem_cons_self, atL_cons (by unfold At; rfl) (atL_cons (by unfold At; rfl) atL_nil)⟩) (at_pairs fun y hy => h y (List.mem_cons_of_mem _ hy))
theorem pairs_list {I : Hp} : ∀ {nm : Nm} {vs : List V}, AtL K I (nm.map pairD) vs → ∃ l : List (Addr × (Str × Nat)), vs = l.map (fun x => V.ref x.1) ∧ l.map (·.2) = nm ∧ ∀ x ∈ l, SqT K I x.1 [.str x.2.1, .int (x.2.2 : Nat)]
  | [], vs, h => by
    unfold List.map AtL at h
    exact ⟨[], h, rfl, fun x hx => by cases hx⟩
  | q :: nm, vs, h => by
    rw [List.map_cons] at h
    unfold AtL at h
    obtain ⟨v, r, rfl, h1, h2⟩ := h
    obtain ⟨l, rfl, rfl, hp⟩ := pairs_list h2
    unfold At at h1
    obtain ⟨p, us, rfl, h3, h4⟩ := h1
    unfold AtL at h4
    obtain ⟨a, r, rfl, b1, h4⟩ := h4
    unfold AtL at h4
    obtain ⟨b, r, rfl, b2, h4⟩ := h4
    unfold AtL at h4
    unfold At at b1 b2
    subst h4 b1 b2
    refine ⟨(p, q) :: l, rfl, rfl, fun x hx => ?_⟩
    rcases List.mem_cons.mp hx with rfl | hx
    · exact h3
    · exact hp x hx
theorem cad_sortedNm {nm : Nm} (q : ∀ nm' : Nm, nm'.Perm nm → (nm'.map (·.1)).Pairwise leS → R (nmD nm') M) : CaD K T (rSortedNm K) [nmD nm] M R := cad_one fun X v H Q ok a k => by
  unfold At at a
  obtain ⟨c, vs, rfl, h2, h3⟩ := a
  obtain ⟨l, rfl, rfl, hp⟩ := pairs_list h3
  refine ⟨c, l, rfl, imm_sqL (.of h2), fun x hx => imm_sqT (hp x hx), fun l' d hl hs hd => ?_⟩
  have t := To.new (o := .lst (l'.map fun x => V.ref x.1)) ok hd rfl
  refine k _ _ M _ (q (l'.map (·.2)) (hl.map _) (by rw [List.map_map]; exact hs)) t ?_
  unfold At
  refine ⟨d, _, rfl, imm_new ok hd rfl, ?_⟩
  exact (at_pairs fun x hx => hp x (hl.mem_iff.mp hx)).to t
end
end Dl
end
/-! ## Kt4 -/
section
set_option maxRecDepth 100000
namespace Dl
open PySem PySem.Spec PyProof.Rows L2 Mx
/-- a step, with what is given for its lengths -/
inductive Stp where
  | road (a : Nat) (s g : Str) (v : D) (q : Rat)
  | ride (a : Nat) (s g : Str) (v : D) (q : Rat)
  | place (x b : Str) (v : D) (q : Rat) (v' : D) (q' : Rat)
  | same (a b : Str)
  | forget (a : Str)
  | cap (a : Nat) (v : D) (q : Rat)
  | scale (a : Nat) (v : D) (q : Rat)
  | turn
  | round (a : Nat)
abbrev stpD : Stp → D
  | .road a s g v _ => .tup [.str "road", .str (lay a), .str s, .str g, v]
  | .ride a s g v _ => .tup [.str "ride", .str (lay a), .str s, .str g, v]
  | .place x b v _ v' _ => .tup [.str "place", .str x, .str b, v, v']
  | .same a b => .tup [.str "same", .str a, .str b]
  | .forget a => .tup [.str "forget", .str a]
  | .cap a v _ => .tup [.str "cap", .str (lay a), v]
  | .scale a v _ => .tup [.str "scale", .str (lay a), v]
  | .turn => .tup [.str "turn"]
  | .round a => .tup [.str "round", .str (lay a)]
structure Pl where
  n : Nat
  fs : List Tab
  nm : Nm
abbrev Pl.f (p : Pl) (a : Nat) : Tab := p.fs.getD a fun _ _ => 0
def Pl.at (p : Pl) (x : Str) : Nat := (placeN p.nm x).getD 0
def Pl.has (p : Pl) (x : Str) : Prop := x ∈ p.nm.map (·.1)
def insN (p : Str × Nat) : Nm → Nm
  | [] => [p]
  | q :: r => if ltCps p.1.cps.toList q.1.cps.toList then p :: q :: r else q :: insN p r
def outN (x : Str) (nm : Nm) : Nm := nm.filter fun q => !decide (q.1 = x)
def ap (p : Pl) : Stp → Pl
  | .road a s g _ q => { p with fs := p.fs.set a (roadT (p.at s) (p.at g) q (p.f a)) }
  | .ride a s g _ q => { p with fs := p.fs.set a (roadT (p.at s) (p.at g) (q + p.f (1 - a) (p.at s) (p.at g)) (p.f a)) }
  | .place x b _ q _ q' => ⟨p.n + 1, p.fs.map (putT p.n (p.at b) q q'), insN (x, p.n) p.nm⟩
  | .same a b => { p with fs := p.fs.map fun f => roadT (p.at b) (p.at a) 0 (roadT (p.at a) (p.at b) 0 f), nm := outN b p.nm }
  | .forget a => { p with nm := outN a p.nm }
  | .cap a _ q => { p with fs := p.fs.set a (capT q (p.f a)) }
  | .scale a _ q => { p with fs := p.fs.set a (mulT q (p.f a)) }
  | .turn => { p with fs := p.fs.map turnT }
  | .round a => { p with fs := p.fs.set a (sumT (p.f a)) }
structure PlOk (l : Nat) (p : Pl) : Prop where
  t : TabsOk l p.n p.fs
  m : NmOk p.n p.nm
def StpOk (p : Pl) : Stp → Prop
  | .road a s g v q => a < p.fs.length ∧ p.has s ∧ p.has g ∧ valD v q ∧ Lv 0 q
  | .ride a s g v q => a < p.fs.length ∧ p.fs.length = 2 ∧ p.has s ∧ p.has g ∧ valD v q ∧ Lv 0 q
  | .place x b v q v' q' => GoodN x ∧ ¬ p.has x ∧ p.has b ∧ valD v q ∧ Lv 0 q ∧ valD v' q' ∧ Lv 0 q' ∧ p.nm.length ≤ 4 ∧ p.n ≤ 7
  | .same a b => p.has a ∧ p.has b ∧ a ≠ b
  | .forget a => p.has a
  | .cap a v q => a < p.fs.length ∧ valD v q ∧ Lv 0 q
  | .scale a v q => a < p.fs.length ∧ valD v q ∧ Lv 0 q ∧ 0 < q ∧ ∃ y : Nat, q * 6 = (y : Rat) ∧ y ≤ 30
  | .turn => True
  | .round a => a < p.fs.length
theorem ins_perm (p : Str × Nat) : ∀ nm : Nm, (insN p nm).Perm (nm ++ [p])
  | [] => .refl _
  | q :: r => by
    unfold insN
    split
    · exact (List.perm_append_comm (l₁ := [p]) (l₂ := q :: r))
    · exact (ins_perm p r).cons q
theorem ins_pw (p : Str × Nat) : ∀ nm : Nm, (nm.map (·.1)).Pairwise leS → ((insN p nm).map (·.1)).Pairwise leS
  | [], _ => by simp [insN]
  | q :: r, h => by
    rw [List.map_cons, List.pairwise_cons] at h
    unfold insN
    split
    · rename_i hlt
      have hpq : leS p.1 q.1 := by
        unfold leS
        rw [ltCps_eq] at hlt ⊢
        rw [decide_eq_false_iff_not]
        exact List.lt_asymm (of_decide_eq_true hlt)
      rw [List.map_cons, List.map_cons, List.pairwise_cons, List.pairwise_cons]
      refine ⟨fun y hy => ?_, h.1, h.2⟩
      rcases List.mem_cons.mp hy with rfl | hy
      · exact hpq
      · exact leS_trans hpq (h.1 y hy)
    · rename_i hlt
      have hqp : leS q.1 p.1 := by
        unfold leS
        exact Bool.eq_false_iff.mpr hlt
      rw [List.map_cons, List.pairwise_cons]
      refine ⟨fun y hy => ?_, ins_pw p r h.2⟩
      have hm := ((ins_perm p r).map (·.1)).mem_iff.mp hy
      rw [List.map_append, List.mem_append] at hm
      rcases hm with hm | hm
      · exact h.1 y hm
      · rw [List.map_singleton, List.mem_singleton] at hm
        rw [hm]
        exact hqp
theorem out_perm {x : Str} {nm : Nm} : ∀ q ∈ outN x nm, q ∈ nm ∧ q.1 ≠ x := fun q hq => by
  unfold outN at hq
  rw [List.mem_filter] at hq
  exact ⟨hq.1, by simpa using hq.2⟩
theorem out_sub (x : Str) (nm : Nm) : (outN x nm).Sublist nm := List.filter_sublist
theorem nm_out {n : Nat} {nm : Nm} (h : NmOk n nm) (x : Str) : NmOk n (outN x nm) :=
  ⟨sorted_of_pw _ ((sorted_pw _ h.so).sublist ((out_sub x nm).map _)), h.nd.sublist ((out_sub x nm).map _), fun p hp => h.pl p (out_perm p hp).1, h.pd.sublist ((out_sub x nm).map _),
    Nat.le_trans (out_sub x nm).length_le h.ln, fun p hp => h.gd p (out_perm p hp).1⟩
theorem nm_ins {n : Nat} {nm : Nm} (h : NmOk n nm) {x : Str} (hx : x ∉ nm.map (·.1)) (hg : GoodN x) (hl : nm.length ≤ 4) : NmOk (n + 1) (insN (x, n) nm) := by
  have hp := ins_perm (x, n) nm
  refine ⟨sorted_of_pw _ (ins_pw _ _ (sorted_pw _ h.so)), ?_, fun p hp' => ?_, ?_, ?_, fun p hp' => ?_⟩
  · rw [(hp.map (·.1)).nodup_iff, List.map_append]
    refine List.nodup_append.mpr ⟨h.nd, by simp, fun a ha b hb => ?_⟩
    rw [List.map_singleton, List.mem_singleton] at hb
    rintro rfl
    rw [hb] at ha
    exact hx ha
  · have := hp.mem_iff.mp hp'
    rw [List.mem_append, List.mem_singleton] at this
    rcases this with h1 | rfl
    · exact Nat.lt_succ_of_lt (h.pl p h1)
    · exact Nat.lt_succ_self _
  · rw [(hp.map (·.2)).nodup_iff, List.map_append]
    refine List.nodup_append.mpr ⟨h.pd, by simp, fun a ha b hb => ?_⟩
    rw [List.map_singleton, List.mem_singleton] at hb
    rintro rfl
    rw [hb] at ha
    obtain ⟨q, hq, e⟩ := List.mem_map.mp ha
    have := h.pl q hq
    omega
  · rw [hp.length_eq, List.length_append]
    show nm.length + 1 ≤ 5
    omega
  · have := hp.mem_iff.mp hp'
    rw [List.mem_append, List.mem_singleton] at this
    rcases this with h1 | rfl
    · exact h.gd p h1
    · exact hg
theorem at_of {p : Pl} {n : Nat} (h : NmOk n p.nm) {x : Str} (hx : p.has x) : placeN p.nm x = some (p.at x) ∧ p.at x < n := by
  obtain ⟨q, hq, rfl⟩ := List.mem_map.mp hx
  have e := place_mem h.nd hq
  unfold Pl.at
  rw [e]
  exact ⟨rfl, h.pl q hq⟩
theorem f_mem {p : Pl} {a : Nat} (h : a < p.fs.length) : p.f a ∈ p.fs := by
  show p.fs.getD a _ ∈ _
  rw [List.getD_eq_getElem?_getD, List.getElem?_eq_getElem h]
  exact List.getElem_mem h
theorem set_ok {l l' n : Nat} {fs : List Tab} (h : TabsOk l n fs) (hl : l ≤ l') (h28 : l' ≤ 28) {a : Nat} {g : Tab} (hm : Met n g) (hv : LvM l' n g) : TabsOk l' n (fs.set a g) := by
  refine ⟨h.n1, h.n9, by rw [List.length_set]; exact h.len, h28, fun f hf => ?_, fun f hf => ?_⟩
  · rcases List.mem_or_eq_of_mem_set hf with hf | rfl
    · exact (h.lv f hf).mono hl
    · exact hv
  · rcases List.mem_or_eq_of_mem_set hf with hf | rfl
    · exact h.met f hf
    · exact hm
theorem map_ok {l l' n n' : Nat} {fs : List Tab} (h : TabsOk l n fs) (h28 : l' ≤ 28) (h9 : n' ≤ 9) (h1 : 1 ≤ n') {F : Tab → Tab} (hm : ∀ f ∈ fs, Met n' (F f)) (hv : ∀ f ∈ fs, LvM l' n' (F f)) : TabsOk l' n' (fs.map F) := by
  refine ⟨h1, h9, by rw [List.length_map]; exact h.len, h28, fun f hf => ?_, fun f hf => ?_⟩
  · obtain ⟨g, hg, rfl⟩ := List.mem_map.mp hf
    exact hv g hg
  · obtain ⟨g, hg, rfl⟩ := List.mem_map.mp hf
    exact hm g hg
theorem ap_ok {l : Nat} {p : Pl} {s : Stp} (h : PlOk l p) (hs : StpOk p s) (hl : l ≤ 26) : PlOk (l + 1) (ap p s) := by
  obtain ⟨t, m⟩ := h
  cases s with
  | road a s g v q =>
    obtain ⟨ha, hs, hg, _, hq⟩ := hs
    have fm := f_mem ha
    have q' := lv_mono hq (Nat.zero_le l)
    exact ⟨set_ok t (by omega) (by omega) (road_met (t.met _ fm) (at_of m hs).2 (at_of m hg).2 (lv_nonneg hq)) ((road_lv (t.lv _ fm) (at_of m hs).2 (at_of m hg).2 q').mono (by omega)), m⟩
  | ride a s g v q =>
    obtain ⟨ha, h2, hs, hg, _, hq⟩ := hs
    have fm := f_mem ha
    have fm2 := f_mem (p := p) (a := 1 - a) (by omega)
    have q' := lv_mono hq (Nat.zero_le l)
    have q2 := lv_add q' (t.lv _ fm2 _ (at_of m hs).2 _ (at_of m hg).2)
    exact ⟨set_ok t (by omega) (by omega) (road_met (t.met _ fm) (at_of m hs).2 (at_of m hg).2 (lv_nonneg q2)) (road_lv ((t.lv _ fm).mono (by omega)) (at_of m hs).2 (at_of m hg).2 q2), m⟩
  | place x b v q v' q' =>
    obtain ⟨hg, hx, hb, _, hq, _, hq', h4, h7⟩ := hs
    exact ⟨map_ok (n' := p.n + 1) t (by omega) (by omega) (by omega) (fun f hf => put_met (t.met f hf) (at_of m hb).2 (lv_nonneg hq) (lv_nonneg hq')) fun f hf => put_lv (t.lv f hf) (at_of m hb).2 (lv_mono hq (Nat.zero_le l)) (lv_mono hq' (Nat.zero_le l)), nm_ins m hx hg h4⟩
  | same a b =>
    obtain ⟨ha, hb, _⟩ := hs
    have pa := (at_of m ha).2
    have pb := (at_of m hb).2
    exact ⟨map_ok t (by omega) t.n9 t.n1 (fun f hf => road_met (road_met (t.met f hf) pa pb (by grind)) pb pa (by grind)) fun f hf => (road_lv (road_lv (t.lv f hf) pa pb (lv_zero l)) pb pa (lv_zero l)).mono (by omega), nm_out m b⟩
  | forget a => exact ⟨⟨t.n1, t.n9, t.len, by omega, fun f hf => (t.lv f hf).mono (by omega), t.met⟩, nm_out m a⟩
  | cap a v q =>
    obtain ⟨ha, _, hq⟩ := hs
    have fm := f_mem ha
    exact ⟨set_ok t (by omega) (by omega) (cap_met (t.met _ fm) (lv_nonneg hq)) ((cap_lv (t.lv _ fm) (lv_mono hq (Nat.zero_le l))).mono (by omega)), m⟩
  | scale a v q =>
    obtain ⟨ha, _, _, hq, y, hy, hy2⟩ := hs
    have fm := f_mem ha
    exact ⟨set_ok t (by omega) (by omega) (mul_met (t.met _ fm) hq) (mul_lv (t.lv _ fm) hy hy2), m⟩
  | turn => exact ⟨map_ok t (by omega) t.n9 t.n1 (fun f hf => turn_met (t.met f hf)) fun f hf => (turn_lv (t.lv f hf)).mono (by omega), m⟩
  | round a => 
    have fm := f_mem (p := p) hs
    exact ⟨set_ok t (by omega) (by omega) (sum_met (t.met _ fm)) (sum_lv (t.lv _ fm)), m⟩
end Dl
end
/-! ## DLI -/
section
set_option maxRecDepth 100000
namespace Dl
open PySem PySem.Spec PyProof.Rows L2 Mx
/-! ### a heap of which only some things are kept -/
def onlyH (h : Heap) (p : Addr → Bool) : Heap := ⟨h.objs.mapIdx fun b o => if p b = true then o else ⟨.none, none, .freed, #[]⟩, h.life⟩
theorem onlyH_get (h : Heap) (p : Addr → Bool) (b : Addr) : (onlyH h p).get? b = if p b = true then h.get? b else none := by
  unfold onlyH Heap.get?
  rw [Array.getElem?_mapIdx]
  cases e : h.objs[b]? with
  | none => simp
  | some o =>
    by_cases hp : p b = true
    · simp [hp]
    · simp [hp]
theorem onlyH_size (h : Heap) (p : Addr → Bool) : (onlyH h p).objs.size = h.objs.size := by
  unfold onlyH
  rw [Array.size_mapIdx]
/-- base, and besides what stands in h at these places -/
def moreH (base h : Heap) (new : List Addr) : Heap := onlyH h fun b => (base.get? b).isSome || decide (b ∈ new)
section
variable {P : Program} {w : World} {K : PySem.W.Frag} {mg : Str → Option Value} {base : Heap} {A : Around} {outer : List PySem.Env} {s : Shared} {H : Hp} {new : List Addr}
theorem moreH_of {h : Heap} (k : ∀ b o, base.get? b = some o → h.get? b = some o) {b : Addr} {o : Obj} (e : base.get? b = some o) : (moreH base h new).get? b = some o := by
  unfold moreH
  rw [onlyH_get, e, if_pos (by simp)]
  exact k b o e
theorem moreH_new {h : Heap} {b : Addr} (e : b ∈ new) : (moreH base h new).get? b = h.get? b := by
  unfold moreH
  rw [onlyH_get, if_pos (by simp [e])]
theorem env0_more (e : Env0 P w K mg base A outer s H) (hn : ∀ b ∈ new, H b = none) (hf : ∀ b ∈ new, b ∉ frs outer) : Env0 P w K mg (moreH base s.heap new) A outer s H := by
  have kb : ∀ b o, base.get? b = some o → (moreH base s.heap new).get? b = some o := fun b o h => moreH_of (fun b o h => (e.bs b o h).1) h
  have m := e.mod
  obtain ⟨mb, hb, hbl⟩ := m.blt
  refine ⟨e.frames, ⟨m.kin.keeps kb, m.glob.keeps kb, ⟨mb, hb.keeps kb, hbl⟩, m.nolimit.keeps kb⟩, fun b o h => ?_, by unfold moreH; rw [onlyH_size]; exact Nat.le_refl _, ?_, e.frf, e.hok, e.bare⟩
  · unfold moreH at h
    rw [onlyH_get] at h
    split at h
    · rename_i hp
      refine ⟨h, ?_⟩
      rcases Bool.or_eq_true_iff.mp hp with z | z
      · obtain ⟨o', ho⟩ := Option.isSome_iff_exists.mp z
        exact (e.bs b o' ho).2
      · exact hn b (of_decide_eq_true z)
    · cases h
  · have aux : ∀ l : List PySem.Env, (∀ b ∈ frs l, b ∉ new) → s.heap.FunFrames base l → s.heap.FunFrames (moreH base s.heap new) l := by
      intro l
      induction l with
      | nil => exact fun _ _ => True.intro
      | cons env l ih =>
        intro hl h
        obtain ⟨h1, ⟨L, o, h2, h3, h4, h5⟩, h6⟩ := h
        refine ⟨h1, ⟨L, o, h2, ?_, h4, h5⟩, ih (fun b hb => hl b ?_) h6⟩
        · have hL : L ∉ new := hl L (by unfold frs; rw [List.filterMap_cons, h2]; exact List.mem_cons_self)
          unfold moreH
          rw [onlyH_get, h3, if_neg (by simp [hL])]
        · unfold frs at hb ⊢
          rw [List.filterMap_cons, h2]
          exact List.mem_cons_of_mem _ hb
    exact aux outer (fun b hb hm => hf b hm hb) e.funs
end
/-! ### lambdas -/
/-- its promise: the captured values ws, its body's reading tb -/
def spLam (f : Addr) (F : NdefX.NF) (b : Expr) (N : List Str) (np : Nat) (ws : List (Option V)) (tb : TE) : Sp := fun vs H Q _ => H f = some (LamO f F b) ∧ H F.c = some (LamX.CodeO F.c F.qual) ∧ vs.length = np ∧ tb (NdefX.startF N vs ws) H Q
section
variable {P : Program} {w : World} {K : PySem.W.Frag} {mg : Str → Option Value} {base : Heap}
theorem lam_fnr {f : Addr} {F : NdefX.NF} {b : Expr} {N ps fr : List Str} {ws : List (Option V)} {tb : TE} {k : Nat} (S : NdefX.NScope N ps fr F.scope)
    (hb : ∀ (pm ctv : Value) (us : List Value), us.length = ps.length → bindArgs (PySem.W.kla_fn F.name F.qual F.params b F.scope F.cl pm (.ref F.c) ctv) ⟨us, []⟩ = pure (ps.zip us))
    (hcell : ∀ (A : Around) (outer : List PySem.Env) (s : Shared) (H : Hp), Env0 P w K mg base A outer s H → NdefX.CellsAt F.cl fr ws s.heap H)
    (hbody : ∀ (A : Around) (outer : List PySem.Env) (s : Shared) (H : Hp) (E : XK), Room k (A.deeper (NdefX.envF F f s.heap.objs.size)) → PE (NdefX.ncx CX0 P w K mg base N F f A outer s H E) b tb) :
    FnR P w K mg base CX0 (k + 1) f (spLam f F b N ps.length ws tb) := by
  intro A outer s H us vs Q E hr e0 r hsp
  obtain ⟨hf, hc, hl, ht⟩ := hsp
  have lim : s.heap.NoLimit := e0.mod.nolimit.keeps fun b o e => (e0.bs b o e).1
  obtain ⟨⟨pm, ctv, ho⟩, _, _⟩ := e0.hok f _ hf
  obtain ⟨⟨oc, vv, t, hoc, hdc, hvc⟩, _, _⟩ := e0.hok F.c _ hc
  refine PySem.W.kla_callFunE hr.depth ho rfl S.co S.gen rfl ⟨F.c, oc, vv, t, rfl, hoc, hdc, hvc⟩ ?_
  rw [hb pm ctv us (by rw [← r.length]; exact hl)]
  refine wpAny_pure (wpAny_newFunctionEnv S.nocell (fun ⟨n, _⟩ hy => S.par n (List.of_mem_zip hy).1) (fun h₁ hns hsb => ⟨lim.fresh _ hsb, ?_⟩) S.kind)
  show codeAny _ _ (.expr b (NdefX.envF F f s.heap.objs.size)) _ _
  have kp : ∀ b o, s.heap.get? b = some o → h₁.get? b = some o := fun b o e => hsb.extBut b o (Nat.ne_of_lt (Heap.lt_size e)) (Heap.get?_push_of_some _ e)
  have J : Inv (NdefX.ncx CX0 P w K mg base N F f A outer s H E) [] (NdefX.startF N vs ws) H { s with heap := h₁, toks := s.toks + (ps.zip us).length } := NdefX.inv_startN S hr.hd e0 hl r (hcell A outer s H e0) hns kp
  refine PySem.W.kla_codeExpr (wpAny_mono ((hbody A outer s H E (hr.deeper _)).run [] _ _ H Q J ht) (fun v s' hq => ?_) fun e s' hq => hq)
  obtain ⟨z, H', J', rv, q⟩ := hq
  exact ⟨z, H', J'.os, J'.bare, J'.base, J'.hok, rv, q⟩
end
/-! ### the call of a function that was given -/
def tCallV (P : Program) (w : World) (K : PySem.W.Frag) (mg : Str → Option Value) (base : Heap) (k i : Nat) (t : TA) : TE := fun σ H Q => ∃ (f : Addr) (F : NdefX.NF) (b : Expr) (sp : Sp), σ[i]? = some (some (.ref f)) ∧ H f = some (LamO f F b) ∧ FnR P w K mg base CX0 k f sp ∧
  t σ H fun vs H1 => H1 f = some (LamO f F b) ∧ sp vs H1 Q E0
theorem lam_at {P : Program} {w : World} {H : Hp} {h : Heap} {f : Addr} {F : NdefX.NF} {b : Expr} (hok : HOk P w H h) (e : H f = some (LamO f F b)) : PySem.W.FnAt f h := by
  obtain ⟨⟨pm, ctv, ho⟩, _, _⟩ := hok f _ e
  exact ⟨_, _, _, _, ho⟩
section
variable {X : Cx} {P : Program} {w : World} {K : PySem.W.Frag} {mg : Str → Option Value} {base : Heap}
theorem run_R {k : Nat} {f : Addr} {sp : Sp} {pins : List (Addr × Obj)} {σ : L2.St} {H : Hp} {s : Shared} {Q : VK} {us : List Value} {vs : List V} (Fr : FnR X.prog X.w X.K X.mg X.base CX0 k f sp) (hr : Room k X.A) (I : Inv X pins σ H s) (r : Vals vs us) (h : sp vs H Q E0) :
    wpAny (model X.prog X.w) X.A (call (.ref f) us) (EP X pins σ Q) X.xe s :=
  wpAny_call (codeAny_mono (run_fnR Fr hr pass0 I r h) fun r s' hq => by
    cases r with
    | error e => exact hq
    | ok fl =>
      cases fl with
      | ret u => exact hq
      | next => exact hq.elim
      | brk => exact hq.elim
      | cont => exact hq.elim)
theorem pe_callV {k i : Nat} {x : Str} {e : Expr} {es : List Expr} {t : TA} {p pos : Pos} (hN : X.N[i]? = some x) (hv : Vis X.env.scope x) (hr : Room k X.A) (ha : PA X (e :: es) t) (on : On X P w K mg base := by exact ⟨rfl, rfl, rfl, rfl, rfl⟩)
    (hd : (x == ("__debug__" : Str)) = false := by decide) (hcd : (x == ("__classdict__" : Str)) = false := by decide)
    (he : starEach (e :: es) X.env = (false, eval e X.env) :: starEach es X.env := by rfl) (hpl : (backTo pos (starEach es X.env)).any (·.1) = false := by rfl) :
    PE X (.Call (.Name x p) (e :: es) [] pos) (tCallV P w K mg base k i t) := by
  obtain ⟨rfl, rfl, rfl, rfl, rfl⟩ := on
  refine ⟨fun pins s σ H Q I h => ?_⟩
  obtain ⟨f, F, b, sp, hs, hf, Fr, ht⟩ := h
  refine wpAny_Call_Name_kw (thn ((pe_var (pos := p) hN hv hd hcd).run pins s σ H (fun v H1 => v = .ref f ∧ H1 = H) I ⟨.ref f, hs, rfl, rfl⟩) fun u s1 ⟨v, H1, I1, r1, q1⟩ => ?_)
  obtain ⟨rfl, rfl⟩ := q1
  obtain rfl : u = Value.ref f := r1
  refine PySem.W.callWith_F (first := []) (lam_at I1.hok hf) (thn (ha.run pos pins s1 σ _ _ I1 ht) fun us s2 ⟨vs, H2, I2, r, h1, q⟩ => ⟨lam_at I2.hok h1, ?_⟩) he hpl
  exact run_R Fr hr I2 r q
/-! ### a lambda as a value -/
abbrev lamF (X : Cx) (params : Arguments) (scope : Scope) (c' : Addr) : NdefX.NF := ⟨"<lambda>", X.env.qual ++ "<lambda>", params, [], scope, cloFrom X.env.cells scope.names [], c'⟩
/-- what the making changes -/
def LamH (H : Hp) (B : Addr) (q : Str) (H1 : Hp) (c' : Addr) : Prop := H1 = H ∨ ∃ ps ps', H B = some (.tbl ps) ∧ H c' = none ∧ H1 = upd (upd H B (.tbl ps')) c' (LamX.CodeO c' q)
def tLamE (T : List (Addr × Str)) (B : Addr) (q : Str) (mk : Addr → NdefX.NF) (b : Expr) : TE := fun _ H Q => LamX.Tabs T H ∧ ∀ (f c' : Addr) (H1 : Hp), LamH H B q H1 c' → LamX.Tabs T H1 → H1 f = none → H1 c' = some (LamX.CodeO c' q) → Q (.ref f) (upd H1 f (LamO f (mk c') b))
theorem pe_lamE {T : List (Addr × Str)} {c B : Addr} {params : Arguments} {body : Expr} {scope : Scope} {pos : Pos} (TB : LamX.TabB X.base X.mg c B) (hcode : X.env.code = .ref c) (hm : (B, X.env.qual ++ "<lambda>") ∈ T) (hu : ∀ p ∈ T, p.1 = B → p.2 = X.env.qual ++ "<lambda>")
    (hdef : defaultsOf params X.env = ([], [])) (hfree : ∀ y ∈ scope.names, y.2 = .free → X.env.scope.names.lookup y.1 = some .cell ∨ X.env.scope.names.lookup y.1 = some .free) : PE X (.Lambda params body scope pos) (tLamE T B (X.env.qual ++ "<lambda>") (lamF X params scope) body) := by
  refine ⟨fun pins s σ H Q I h => ?_⟩
  obtain ⟨hT, h⟩ := h
  have hfr : ∀ y ∈ scope.names, y.2 = .free → ∃ c, X.env.cells.lookup y.1 = some c := fun y hy e => (hfree y hy e).elim (fun z => I.ok.has _ (.inl z)) fun z => I.ok.has _ (.inr z)
  obtain ⟨tab, hB, tri, each⟩ := hT _ hm
  have bAt : s.heap.BuiltinsAt X.mg B := TB.bm.keeps I.bk
  have oB : s.heap.get? B = some { cls := .none, data := .fields tab } := I.hok B _ hB
  refine PySem.W.kla_eval hdef ?_
  cases hc : codeAmong pos tab.toList with
  | none =>
    refine PySem.W.kla_makeFunction (mg := X.mg) (c := c) (P := B) (ps := tab) (closure_ok hfr) I.ok.glob (I.mod.glob.keeps I.bk) hcode (TB.code.keeps I.bk) oB tri hc TB.gP bAt fun c' ctv hp tk hx hge hlt hrec htb => ?_
    obtain ⟨c2, oc, vs, t, e2, hoc, hd, hv⟩ := hrec
    cases e2
    have fresh : H c' = none := I.hok.fresh hge
    have J := LamX.inv_table (t' := tk) (more := #[rawInt pos.line, rawInt pos.col, .ref c']) (h' := hp) I hB (fun b o hb e => hx b o hb e) htb hge ⟨oc, vs, t, hoc, hd, hv⟩
    have keepE : LamX.ExtN H (upd (upd H B (.tbl (tab ++ #[rawInt pos.line, rawInt pos.col, .ref c']))) c' (LamX.CodeO c' (X.env.qual ++ "<lambda>"))) := fun b o e n => by
      rw [upd_ne (ne_of_none e fresh)]
      have nb : b ≠ B := fun z => n tab (Option.some.inj (e.symm.trans (by rw [z]; exact hB)))
      rw [upd_ne nb]
      exact e
    have listed : (tab ++ #[rawInt pos.line, rawInt pos.col, .ref c']).toList = tab.toList ++ [rawInt pos.line, rawInt pos.col, .ref c'] := by simp
    have nf : (upd (upd H B (.tbl (tab ++ #[rawInt pos.line, rawInt pos.col, .ref c']))) c' (LamX.CodeO c' (X.env.qual ++ "<lambda>"))) hp.objs.size = none := by
      rw [upd_ne (Nat.ne_of_gt hlt), upd_ne (Nat.ne_of_gt (Heap.lt_size htb))]
      exact I.hok.fresh (Nat.le_trans hge (Nat.le_of_lt hlt))
    refine ⟨.ref hp.objs.size, _, J.laid (t' := tk) (a := hp.objs.size) (o := LamO hp.objs.size (lamF X params scope c') body) (fun b o e => Heap.get?_push_of_some _ e) (Nat.le_refl _) ⟨⟨_, ctv, Heap.get?_push_size _ rfl⟩, ⟨_, Heap.get?_push_size _ rfl⟩, fun h1 h2 ⟨pm, cv, e⟩ st => ⟨pm, cv, st _ e⟩⟩, rfl,
      h hp.objs.size c' _ (.inr ⟨tab, _, hB, fresh, rfl⟩) (fun p hm' => ?_) nf upd_same⟩
    by_cases hb : p.1 = B
    · rw [hu p hm' hb, hb]
      refine ⟨_, by rw [upd_ne (ne_of_none hB fresh), upd_same], by rw [listed]; exact PySem.TriplesOk_snoc _ _ _ _ tri, fun p' cv hcv => ?_⟩
      rw [listed] at hcv
      rcases LamX.among_app _ tri hcv with z | z
      · obtain ⟨c0, e1, e2⟩ := each p' cv z
        exact ⟨c0, e1, keepE _ _ e2 LamX.codeO_ne⟩
      · exact ⟨c', z, upd_same⟩
    · obtain ⟨tb2, a1, a2, a3⟩ := hT p hm'
      refine ⟨tb2, by rw [upd_ne (ne_of_none a1 fresh), upd_ne hb]; exact a1, a2, fun p' cv hcv => ?_⟩
      obtain ⟨c0, e1, e2⟩ := a3 p' cv hcv
      exact ⟨c0, e1, keepE _ _ e2 LamX.codeO_ne⟩
  | some cv =>
    obtain ⟨c', e, hco⟩ := each pos cv hc
    subst e
    refine PySem.W.kla_makeFunctionHit (mg := X.mg) (c := c) (P := B) (ps := tab) (closure_ok hfr) I.ok.glob (I.mod.glob.keeps I.bk) hcode (TB.code.keeps I.bk) oB tri hc bAt fun ctv hp tk hx hsz => ?_
    refine ⟨.ref hp.objs.size, _, I.laid (t' := tk) (a := hp.objs.size) (o := LamO hp.objs.size (lamF X params scope c') body) (fun b o e => Heap.get?_push_of_some _ (hx b o e)) hsz ⟨⟨_, ctv, Heap.get?_push_size _ rfl⟩, ⟨_, Heap.get?_push_size _ rfl⟩, fun h1 h2 ⟨pm, cv, e⟩ st => ⟨pm, cv, st _ e⟩⟩, rfl, h hp.objs.size c' H (.inl rfl) hT (I.hok.fresh hsz) hco⟩
end
end Dl
end
/-! ## DLJ -/
section
set_option maxRecDepth 100000
namespace Dl
open PySem PySem.Spec PyProof.Rows L2 Mx
/-- what the captured cells hold, in every state that stands on base -/
def CellFact (P : Program) (w : World) (K : PySem.W.Frag) (mg : Str → Option Value) (base : Heap) (cl : List (Str × Addr)) (fr : List Str) (ws : List (Option V)) : Prop :=
  ∀ (A : Around) (outer : List PySem.Env) (s : Shared) (H : Hp), Env0 P w K mg base A outer s H → NdefX.CellsAt cl fr ws s.heap H
def ownCells (X : Cx) : List Addr := X.env.cells.filterMap fun p => X.env.cells.lookup p.1
section
variable {X : Cx} {pins : List (Addr × Obj)} {σ : L2.St} {H : Hp} {s : Shared} {cl : List (Str × Addr)} {fr : List Str} {js : List Nat}
theorem own_of {c : Addr} (h : c ∈ ownCells X) : ∃ y, X.env.cells.lookup y = some c := by
  unfold ownCells at h
  obtain ⟨p, _, e⟩ := List.mem_filterMap.mp h
  exact ⟨p.1, e⟩
theorem of_own {y : Str} {c : Addr} (h : X.env.cells.lookup y = some c) : c ∈ ownCells X := by
  unfold ownCells
  exact List.mem_filterMap.mpr ⟨(y, c), PySem.mem_of_lookup h, h⟩
/-- the same state, on a ground that has the frame's cells -/
theorem big_env (I : Inv X pins σ H s) (hfn : ∀ x, X.fn x = true) : Env0 X.prog X.w X.K X.mg (moreH X.base s.heap (ownCells X)) X.A X.stack s H := by
  refine env0_more I.env0 (fun b hb => ?_) fun b hb hf => ?_
  · obtain ⟨y, e⟩ := own_of hb
    exact I.freeC y b e
  · obtain ⟨y, e⟩ := own_of hb
    rcases List.mem_cons.mp (I.stkSub b hf) with z | z
    · exact I.cne y b e z
    · have h1 := I.ok.cab y b (hfn y) e
      obtain ⟨_, o, ho, _⟩ := I.ok.funs.mem z
      exact absurd (Heap.lt_size ho) (Nat.not_lt.mpr h1)
theorem big_cells (I : Inv X pins σ H s) (cp : NdefX.Caps X cl fr js) : CellFact X.prog X.w X.K X.mg (moreH X.base s.heap (ownCells X)) cl fr (js.map (NdefX.slotAt σ)) := by
  have C := NdefX.cells_of I cp
  intro A outer s' H' e
  have back : ∀ {y : Str} {c : Addr} {v : Option Value}, cl.lookup y = some c → s.heap.IsCell c v → s'.heap.IsCell c v ∧ H' c = none := fun {y c v} hl hc => by
    obtain ⟨o, ho, hd⟩ := hc
    have hb : (moreH X.base s.heap (ownCells X)).get? c = some o := by
      rw [moreH_new (of_own (cp.sub y c hl))]
      exact ho
    obtain ⟨h1, h2⟩ := e.bs c o hb
    exact ⟨⟨o, h1, hd⟩, h2⟩
  refine ⟨C.len, fun y c hl => ?_, C.inj, fun i y hy => ?_⟩
  · obtain ⟨_, v, hc⟩ := C.all y c hl
    obtain ⟨h1, h2⟩ := back hl hc
    exact ⟨h2, v, h1⟩
  · obtain ⟨c, hl, hv⟩ := C.has i y hy
    refine ⟨c, hl, fun v hw => ?_⟩
    obtain ⟨u, ru, hu⟩ := hv v hw
    exact ⟨u, ru, (back hl hu).1⟩
theorem run_big {k : Nat} {g : Addr} {fd : FuncData} {ps : List Str} {sp : Heap → Sp} {Q : VK} {us : List Value} {vs : List V} (F : ∀ base, FnOk X.prog X.w X.K X.mg base CX0 k g fd ps (sp base)) (hr : Room k X.A) (hb : Binds X.K fd ps []) (hfn : ∀ x, X.fn x = true) (cp : NdefX.Caps X cl fr js)
    (I : Inv X pins σ H s) (r : Vals vs us) (h : ∀ base, CellFact X.prog X.w X.K X.mg base cl fr (js.map (NdefX.slotAt σ)) → sp base vs H Q E0) : wpAny (model X.prog X.w) X.A (call (.ref g) us) (EP X pins σ Q) X.xe s := by
  have hq := h _ (big_cells I cp)
  have F' := F (moreH X.base s.heap (ownCells X))
  have hl : (us ++ []).length = ps.length := by
    rw [List.append_nil, ← r.length]
    exact F'.len _ _ _ _ hq
  have r2 : Vals vs (us ++ []) := by
    rw [List.append_nil]
    exact r
  refine wpAny_call (codeAny_mono (F'.run X.A X.stack s H ⟨us, []⟩ (us ++ []) vs Q E0 hr (big_env I hfn) (hb s us I.kIn hl) r2 hq) fun r s' hq => ?_)
  cases r with
  | error e => exact (pass0 (X := X)) pins σ H s e s' I hq
  | ok fl =>
    cases fl with
    | ret u => exact I.after hq
    | next => exact hq.elim
    | brk => exact hq.elim
    | cont => exact hq.elim
end
def tCallBig (P : Program) (w : World) (K : PySem.W.Frag) (mg : Str → Option Value) (cl : List (Str × Addr)) (fr : List Str) (js : List Nat) (sp : Heap → Sp) (t : TA) : TE := fun σ H Q => t σ H fun vs H1 => ∀ base, CellFact P w K mg base cl fr (js.map (NdefX.slotAt σ)) → sp base vs H1 Q E0
def tMethBig (P : Program) (w : World) (K : PySem.W.Frag) (mg : Str → Option Value) (cl : List (Str × Addr)) (fr : List Str) (js : List Nat) (C : Addr) (m : Str) (sp : Heap → Sp) (ta : TE) (t : TA) : TE := fun σ H Q => ta σ H fun x H1 => ∃ a dx fs, x = .ref a ∧ H1 a = some (.ins C dx fs) ∧ fs.lookup m = none ∧
  t σ H1 fun vs H2 => ∀ base, CellFact P w K mg base cl fr (js.map (NdefX.slotAt σ)) → sp base (.ref a :: vs) H2 Q E0
section
variable {X : Cx} {P : Program} {w : World} {K : PySem.W.Frag} {T : Tb} {mg : Str → Option Value} {base : Heap} {cl : List (Str × Addr)} {fr : List Str} {js : List Nat} {x C m : Str} {k : Nat} {ps : List Str} {pre : Heap → Pre} {p apos pos : Pos} {e o : Expr} {es : List Expr} {t : TA} {ta : TE}
/-- a def that keeps its promise on every ground; a method that does -/
def CalB (P : Program) (w : World) (K : PySem.W.Frag) (T : Tb) (mg : Str → Option Value) (x : Str) (k : Nat) (ps : List Str) (pre : Heap → Pre) : Prop :=
  ∃ fd, (∀ base, FnOk P w K mg base CX0 k (ga K x) fd ps (SpD K T (pre base))) ∧ mg x = some (.ref (ga K x)) ∧ PySem.W.keepIn K (.ref (ga K x)) = true ∧ Binds K fd ps []
def CalMB (P : Program) (w : World) (K : PySem.W.Frag) (T : Tb) (mg : Str → Option Value) (C m : Str) (k : Nat) (ps : List Str) (pre : Heap → Pre) : Prop :=
  ∃ fd, (∀ base, FnOk P w K mg base CX0 k (ma K (ga K C) m) fd ps (SpD K T (pre base))) ∧ Meth K (ga K C) m (ma K (ga K C) m) ∧ Cls K (ga K C) ∧ Binds K fd ps []
theorem pe_callBig (c : CalB P w K T mg x k ps pre) (hr : Room k X.A) (hg : Gl X x) (hfn : ∀ x, X.fn x = true) (cp : X.Ok → NdefX.Caps X cl fr js) (ha : PA X (e :: es) t) (on : On X P w K mg base := by exact ⟨rfl, rfl, rfl, rfl, rfl⟩) (hd : (x == ("__debug__" : Str)) = false := by decide)
    (he : starEach (e :: es) X.env = (false, eval e X.env) :: starEach es X.env := by rfl) (hpl : (backTo pos (starEach es X.env)).any (·.1) = false := by rfl) :
    PE X (.Call (.Name x p) (e :: es) [] pos) (tCallBig P w K mg cl fr js (fun base => SpD K T (pre base)) t) := by
  obtain ⟨rfl, rfl, rfl, rfl, rfl⟩ := on
  obtain ⟨fd, F, hm, kp, b⟩ := c
  refine ⟨fun pins s σ H Q I h => ?_⟩
  refine wpAny_Call_Name_kw (ld_glob I hg hm ?_ hd)
  refine PySem.W.callWith_K (h₀ := X.base) I.ok.mod.kin kp (thn (ha.run pos pins s σ H _ I h) fun us s1 ⟨vs, H1, I1, r, q⟩ => ⟨I1.kIn, ?_⟩) he hpl
  exact run_big F hr b hfn (cp I1.ok) I1 r q
theorem pe_methBig {pl : Sem Bool} (c : CalMB P w K T mg C m k ps pre) (ho : PE X o ta) (hr : Room k X.A) (hfn : ∀ x, X.fn x = true) (cp : X.Ok → NdefX.Caps X cl fr js) (ha : PA X (e :: es) t) (on : On X P w K mg base := by exact ⟨rfl, rfl, rfl, rfl, rfl⟩)
    (hst : starEach (e :: es) X.env = (false, eval e X.env) :: starEach es X.env := by rfl) (hpl : (backTo pos (starEach es X.env)).any (·.1) = false := by rfl)
    (ht : eval (.Call (.Attribute o m apos) (e :: es) [] pos) X.env = (do
      let ov ← eval o X.env
      standAt apos.atName
      let (f, first) ← holding [ov] (getMethod ov m pl)
      callWith pos f first (backTo pos (starEach (e :: es) X.env)) (backToKw pos (keywordEach [] X.env))) := by rfl) :
    PE X (.Call (.Attribute o m apos) (e :: es) [] pos) (tMethBig P w K mg cl fr js (ga K C) m (fun base => SpD K T (pre base)) ta t) := by
  obtain ⟨rfl, rfl, rfl, rfl, rfl⟩ := on
  obtain ⟨fd, F, hm, hc, b⟩ := c
  refine ⟨fun pins s σ H Q I h => ?_⟩
  refine PySem.W.methodCall_KW (pl := pl) (thn (ho.run pins s σ H _ I h) fun u s1 ⟨y, H1, I1, ry, a, dx, fs, ex, ea, l, q⟩ => ?_) ht
  subst ex
  obtain rfl : u = Value.ref a := ry
  refine getmeth_ok I1 ea hc hm l ?_
  refine PySem.W.callWith_K (first := [.ref a]) (h₀ := X.base) I.ok.mod.kin hm.kp (thn (ha.run pos pins s1 σ H1 _ I1 q) fun us s2 ⟨vs, H2, I2, r, q2⟩ => ⟨I2.kIn, ?_⟩) hst hpl
  exact run_big (us := .ref a :: us) (vs := .ref a :: vs) F hr b hfn (cp I2.ok) I2 (.cons rfl r) q2
end
section
variable {X : Cx} {P : Program} {w : World} {K : PySem.W.Frag} {T : Tb} {mg : Str → Option Value} {base : Heap} {fr : List Str} {js : List Nat} {x C m : Str} {k : Nat} {ps : List Str} {pre : Heap → Pre} {p apos pos lpos : Pos} {e o body : Expr} {params : Arguments} {scope : Scope} {t : TA} {ta : TE}
theorem pe_callLam (c : CalB P w K T mg x k ps pre) (hr : Room k X.A) (hg : Gl X x) (hfn : ∀ x, X.fn x = true) (hnd : NdefX.ndefB X.env.scope scope fr = true) (hjs : js.map (fun j => X.N[j]?) = fr.map some) (ha : PA X [e, .Lambda params body scope lpos] t) (on : On X P w K mg base := by exact ⟨rfl, rfl, rfl, rfl, rfl⟩) (hd : (x == ("__debug__" : Str)) = false := by decide)
    (he : starEach [e, .Lambda params body scope lpos] X.env = (false, eval e X.env) :: starEach [.Lambda params body scope lpos] X.env := by rfl) (hpl : (backTo pos (starEach [.Lambda params body scope lpos] X.env)).any (·.1) = false := by rfl) :
    PE X (.Call (.Name x p) [e, .Lambda params body scope lpos] [] pos) (tCallBig P w K mg (cloFrom X.env.cells scope.names []) fr js (fun base => SpD K T (pre base)) t) :=
  pe_callBig c hr hg hfn (fun ok => NdefX.Caps.made ok (NdefX.ndef_free hnd) (NdefX.ndef_fr hnd) hjs) ha on hd he hpl
theorem pe_methLam {pl : Sem Bool} (c : CalMB P w K T mg C m k ps pre) (ho : PE X o ta) (hr : Room k X.A) (hfn : ∀ x, X.fn x = true) (hnd : NdefX.ndefB X.env.scope scope fr = true) (hjs : js.map (fun j => X.N[j]?) = fr.map some) (ha : PA X [e, .Lambda params body scope lpos] t) (on : On X P w K mg base := by exact ⟨rfl, rfl, rfl, rfl, rfl⟩)
    (hst : starEach [e, .Lambda params body scope lpos] X.env = (false, eval e X.env) :: starEach [.Lambda params body scope lpos] X.env := by rfl) (hpl : (backTo pos (starEach [.Lambda params body scope lpos] X.env)).any (·.1) = false := by rfl)
    (ht : eval (.Call (.Attribute o m apos) [e, .Lambda params body scope lpos] [] pos) X.env = (do
      let ov ← eval o X.env
      standAt apos.atName
      let (f, first) ← holding [ov] (getMethod ov m pl)
      callWith pos f first (backTo pos (starEach [e, .Lambda params body scope lpos] X.env)) (backToKw pos (keywordEach [] X.env))) := by rfl) :
    PE X (.Call (.Attribute o m apos) [e, .Lambda params body scope lpos] [] pos) (tMethBig P w K mg (cloFrom X.env.cells scope.names []) fr js (ga K C) m (fun base => SpD K T (pre base)) ta t) :=
  pe_methBig c ho hr hfn (fun ok => NdefX.Caps.made ok (NdefX.ndef_free hnd) (NdefX.ndef_fr hnd) hjs) ha on hst hpl ht
end
/-! ### by data -/
section
variable {P : Program} {w : World} {K : PySem.W.Frag} {T : Tb} {mg : Str → Option Value} {base : Heap} {X : List Addr} {M M1 M2 : MS} {H H1 H2 : Hp} {G : Sl} {R : D → MS → Prop} {cl : List (Str × Addr)} {fr : List Str} {js : List Nat}
/-- a code object is new, or none is -/
theorem To.coded {B c' : Addr} {q : Str} (ok : Ok K T X M H) (h : LamH H B q H1 c') (hT : LamX.Tabs T H1) : To K T X M H M H1 := by
  rcases h with rfl | ⟨ps, ps', hB, hc, rfl⟩
  · exact To.refl ok
  · have nBX : ∀ a ∈ X, a ≠ B ∧ a ≠ c' := fun a ha => by
      obtain ⟨u, e, d⟩ := ok.hd a ha
      refine ⟨fun z => ?_, fun z => ?_⟩
      · rw [z, hB] at e
        cases e
        cases d
      · rw [z, hc] at e
        cases e
    have nM : ∀ a ∈ M.m.map (·.1), a ≠ B ∧ a ≠ c' := fun a ha => by
      obtain ⟨p, hp, e⟩ := List.mem_map.mp ha
      have md := ok.md p hp
      refine ⟨fun z => ?_, fun z => ok.there ha (by rw [z]; exact hc)⟩
      rw [e, z, hB] at md
      exact MdOk.ne md
    have at_ : ∀ b, b ≠ B → b ≠ c' → upd (upd H B (.tbl ps')) c' (LamX.CodeO c' q) b = H b := fun b h1 h2 => by rw [upd_ne h2, upd_ne h1]
    have nL : ∀ a ∈ M.lk, a ≠ B ∧ a ≠ c' := fun a ha => by
      obtain ⟨o, u, e⟩ := ok.lz a ha
      refine ⟨fun z => ?_, fun z => ?_⟩
      · rw [z, hB] at e
        cases e
      · rw [z, hc] at e
        cases e
    have ex : Ex (imm X M H) (imm X M (upd (upd H B (.tbl ps')) c' (LamX.CodeO c' q))) := fun b u e => by
      obtain ⟨h1, h2, h3⟩ := imm_of e
      have b1 : b ≠ B := fun z => by
        rw [z, hB] at h3
        cases h3
      have b2 : b ≠ c' := fun z => by
        rw [z, norm_ne hc] at h3
        cases h3
      rw [imm_mk h1 h2, at_ b b1 b2]
      exact h3
    have frz : ∀ b o k, upd (upd H B (.tbl ps')) c' (LamX.CodeO c' q) b = some (.frz o k) → H b = some (.frz o k) := fun b o k e => by
      by_cases h2 : b = c'
      · rw [h2, upd_same] at e
        unfold LamX.CodeO at e
        cases e
      · rw [upd_ne h2] at e
        by_cases h1 : b = B
        · rw [h1, upd_same] at e
          cases e
        · rw [upd_ne h1] at e
          exact e
    refine ⟨⟨ok.nd, ok.ax, fun a ha => ?_, fun p hp => ?_, fun b o k e => ok.lk b o k (frz b o _ e), fun b o k e => ok.lt b o k (frz b o _ e), fun b hb => ?_, hT⟩, ⟨ex, fun a ha => at_ a (nBX a ha).1 (nBX a ha).2, rfl, fun a ha => at_ a (nL a ha).1 (nL a ha).2⟩⟩
    · rw [at_ a (nBX a ha).1 (nBX a ha).2]
      exact ok.hd a ha
    · have n := nM p.1 (List.mem_map.mpr ⟨p, hp, rfl⟩)
      rw [at_ p.1 n.1 n.2]
      exact (ok.md p hp).mono ex
    · rw [at_ b (nL b hb).1 (nL b hb).2]
      exact ok.lz b hb
theorem we_lamE {B : Addr} {q : Str} {mk : Addr → NdefX.NF} {b : Expr} (hc : ∀ c, (mk c).c = c ∧ (mk c).qual = q) (h : ∀ f c, R (.fn f (mk c) b [] []) M) : WE K T (tLamE T B q mk b) G M R := fun X σ H Q ok sl k => by
  refine ⟨ok.tb, fun f c' H1 hl hT hf hcc => ?_⟩
  have t1 := To.coded ok hl hT
  have t2 := To.new (o := LamO f (mk c') b) t1.ok hf rfl
  refine k _ _ M _ (h f c') (t1.trans t2) ?_
  unfold At
  have e1 := imm_new t1.ok hf (o := LamO f (mk c') b) rfl
  refine ⟨[], rfl, e1, ?_, rfl, atL_nil⟩
  rw [(hc c').1, (hc c').2]
  have n := t1.ok.new hf
  have hcx : c' ∉ X ∧ c' ∉ M.m.map (·.1) := by
    refine ⟨fun z => ?_, fun z => ?_⟩
    · obtain ⟨u, e, d⟩ := t1.ok.hd c' z
      rw [hcc] at e
      cases e
      cases d
    · obtain ⟨p, hp, e⟩ := List.mem_map.mp z
      have md := t1.ok.md p hp
      rw [e, hcc, norm_plain rfl] at md
      obtain ⟨a, x⟩ := p
      cases x with
      | lst ds => obtain ⟨_, h1, _⟩ := md; cases h1
      | dK ks ds => obtain ⟨_, h1, _⟩ := md; cases h1
      | dT ks ds => obtain ⟨_, h1, _⟩ := md; cases h1
      | ins C ns ds => obtain ⟨_, _, h1, _⟩ := md; cases h1
      | src => obtain ⟨_, _, _, _, _, _, h1, _⟩ := md; cases h1
  refine t2.ev.ex _ _ ?_
  rw [imm_mk hcx.1 hcx.2, hcc]
  exact norm_plain rfl
/-- the captured slots -/
theorem caps_at {I : Hp} {σ : L2.St} (sl : Slots K I σ G) : ∀ {js : List Nat} {cds : List D}, js.map (fun j => G[j]?) = cds.map (fun d => some (some d)) → ∃ us : List V, js.map (NdefX.slotAt σ) = us.map some ∧ AtL K I cds us
  | [], [], _ => ⟨[], rfl, atL_nil⟩
  | [], _ :: _, h => by cases h
  | _ :: _, [], h => by cases h
  | j :: js, d :: cds, h => by
    rw [List.map_cons, List.map_cons] at h
    obtain ⟨h1, h2⟩ := List.cons.inj h
    obtain ⟨us, e, a⟩ := caps_at sl h2
    obtain ⟨v, hv, av⟩ := sl.2 j d h1
    exact ⟨v :: us, by rw [List.map_cons, List.map_cons, e, NdefX.slotAt_of hv], atL_cons av a⟩
theorem fn_caps {I : Hp} {es : List D} {f : Addr} {F : NdefX.NF} {b : Expr} {vs us : List V} {cds : List D} (a : AtL K I (es ++ [.fn f F b [] []]) vs) (c : AtL K I cds us) : AtL K I (es ++ [.fn f F b (us.map some) cds]) vs := by
  induction es generalizing vs with
  | nil =>
    rw [List.nil_append] at a ⊢
    unfold AtL at a
    obtain ⟨v, r, rfl, a1, a2⟩ := a
    unfold AtL at a2
    subst a2
    unfold At at a1
    obtain ⟨_, h1, h2, h3, _, _⟩ := a1
    exact atL_cons (by unfold At; exact ⟨us, h1, h2, h3, rfl, c⟩) atL_nil
  | cons d es ih =>
    rw [List.cons_append] at a ⊢
    unfold AtL at a
    obtain ⟨v, r, rfl, a1, a2⟩ := a
    exact atL_cons a1 (ih a2)
theorem we_callBig {spre : Heap → Pre} {t : TA} {cds : List D} (hj : js.map (fun j => G[j]?) = cds.map fun d => some (some d))
    (h : WA K T t G M fun ds M1 => ∃ es f F b, ds = es ++ [.fn f F b [] []] ∧ ∀ base ws, CellFact P w K mg base cl fr ws → spre base (es ++ [.fn f F b ws cds]) M1 R) : WE K T (tCallBig P w K mg cl fr js (fun base => SpD K T (spre base)) t) G M R := fun X σ H Q ok sl k =>
  h X σ H _ ok sl fun vs H1 M1 ds h1 t1 a1 base cf => by
    obtain ⟨es, f, F, b, rfl, q⟩ := h1
    obtain ⟨us, e, ca⟩ := caps_at (sl.to t1) hj
    rw [e] at cf
    exact ⟨X, _, M1, R, t1.ok, fn_caps a1 ca, q base _ cf, fun v H' M' d q t a => k v H' M' d q (t1.trans t) a⟩
theorem we_methBig {C : Addr} {m : Str} {spre : Heap → Pre} {ta : TE} {t : TA} {cds : List D} (hj : js.map (fun j => G[j]?) = cds.map fun d => some (some d))
    (h : WE K T ta G M fun d M1 => ∃ ns ds, InsD d M1 C ns ds ∧ m ∉ ns ∧ WA K T t G M1 fun ds M2 => ∃ es f F b, ds = es ++ [.fn f F b [] []] ∧ ∀ base ws, CellFact P w K mg base cl fr ws → spre base (d :: (es ++ [.fn f F b ws cds])) M2 R) :
    WE K T (tMethBig P w K mg cl fr js C m (fun base => SpD K T (spre base)) ta t) G M R := fun X σ H Q ok sl k =>
  h X σ H _ ok sl fun v H1 M1 d h1 t1 a1 => by
    obtain ⟨ns, ds, hi, hm, h2⟩ := h1
    obtain ⟨p, dx, vs, rfl, hp, al⟩ := ins_at t1.ok hi a1
    refine ⟨p, dx, _, rfl, hp, look_none hm vs, h2 X σ H1 _ t1.ok (sl.to t1) fun us H2 M2 ds2 h3 t2 a2 base cf => ?_⟩
    obtain ⟨es, f, F, b, rfl, q⟩ := h3
    obtain ⟨cs, e, ca⟩ := caps_at ((sl.to t1).to t2) hj
    rw [e] at cf
    exact ⟨X, _, M2, R, t2.ok, atL_cons (a1.to t2) (fn_caps a2 ca), q base _ cf, fun v H' M' d q t a => k v H' M' d q ((t1.trans t2).trans t) a⟩
/-- the slots at a lambda's entry -/
def lamG (N : List Str) (ds cds : List D) : Sl := ds.map some ++ (cds.map some ++ List.replicate (N.length - ds.length - cds.length) none)
theorem lam_slots {I : Hp} {N : List Str} {ds cds : List D} {vs us : List V} (a : AtL K I ds vs) (c : AtL K I cds us) : Slots K I (NdefX.startF N vs (us.map some)) (lamG N ds cds) := by
  have ab := a.append c
  have e : NdefX.startF N vs (us.map some) = (vs ++ us).map some ++ List.replicate (N.length - vs.length - us.length) none := by
    unfold NdefX.startF
    rw [List.map_append, List.append_assoc, List.length_map]
  have e2 : lamG N ds cds = (ds ++ cds).map some ++ List.replicate (N.length - ds.length - cds.length) none := by
    unfold lamG
    rw [List.map_append, List.append_assoc]
  rw [e, e2]
  refine ⟨by simp [a.len, c.len], fun i d h => ?_⟩
  by_cases hi : i < (ds ++ cds).length
  · rw [List.getElem?_append_left (by rw [List.length_map]; exact hi), List.getElem?_map, List.getElem?_eq_getElem hi] at h
    have ed : (ds ++ cds)[i] = d := by simpa using h
    obtain ⟨v, e1, e2⟩ := ab.get (List.getElem?_eq_getElem hi)
    refine ⟨v, ?_, by rw [← ed]; exact e2⟩
    rw [List.getElem?_append_left (by rw [List.length_map, ab.len]; exact hi), List.getElem?_map, e1]
    rfl
  · rw [List.getElem?_append_right (by rw [List.length_map]; omega), List.getElem?_replicate] at h
    split at h <;> cases h
/-- x(..), x a name of a slot that holds a lambda's function -/
theorem we_callV {k i : Nat} {t : TA} (h : ∃ f F b ws cds N tb np, G[i]? = some (some (.fn f F b ws cds)) ∧ FnR P w K mg base CX0 k f (spLam f F b N np ws tb) ∧ WA K T t G M fun ds M1 => ds.length = np ∧ WE K T tb (lamG N ds cds) M1 R) :
    WE K T (tCallV P w K mg base k i t) G M R := fun X σ H Q ok sl kk => by
  obtain ⟨f, F, b, ws, cds, N, tb, np, hi, Fr, h⟩ := h
  obtain ⟨v, hv, av⟩ := sl.2 i _ hi
  have av0 := av
  unfold At at av
  obtain ⟨us, rfl, h2, h3, rfl, h5⟩ := av
  have keep : ∀ {M' : MS} {H' : Hp}, To K T X M H M' H' → H' f = some (LamO f F b) ∧ H' F.c = some (LamX.CodeO F.c F.qual) ∧ AtL K (imm X M' H') cds us := fun {M' H'} t' => by
    have z := av0.to t'
    unfold At at z
    obtain ⟨us', e1, z2, z3, z4, z5⟩ := z
    have e : us = us' := by
      have := z4
      exact List.map_inj_right (fun a b h => Option.some.inj h) |>.mp this
    subst e
    exact ⟨imm_at z2 (fun _ z => nomatch z) (fun _ z => nomatch z), imm_at z3 (fun _ z => nomatch z) (fun _ z => nomatch z), z5⟩
  refine ⟨f, F, b, _, hv, (keep (To.refl ok)).1, Fr, h X σ H _ ok sl fun vs H1 M1 ds h1 t1 a1 => ?_⟩
  obtain ⟨hl, hw⟩ := h1
  obtain ⟨k1, k2, k3⟩ := keep t1
  refine ⟨k1, k1, k2, by rw [a1.len]; exact hl, ?_⟩
  exact hw X _ H1 Q t1.ok (lam_slots a1 k3) fun z H' M' d q t a => kk z H' M' d q (t1.trans t) a
end
section
variable {P : Program} {w : World} {K : PySem.W.Frag} {T : Tb} {mg : Str → Option Value} {base : Heap}
theorem calB_of {x : Str} {st : Stmt} {N ps : List Str} {k : Nat} {pre : Heap → Pre} (F : FnAt K mg x st) (S : FnScope N ps (defScope st)) (len : ∀ base ds M R, pre base ds M R → ds.length = ps.length)
    (hb : ∀ (kV doc pm : Value) (an : Option Addr) (cdv ct : Value) (us : List Value), us.length = ps.length → bindArgs (PySem.W.fnOf x x (defArgs st) (defBody st) (defScope st) .none kV doc pm an cdv ct) ⟨us, []⟩ = pure (ps.zip us))
    (hbody : ∀ (base : Heap) (f : Addr) (cdv : Value) (A : Around) (outer : List PySem.Env) (s : Shared) (H : Hp) (E : XK), Room k (A.deeper (envOfC x (defScope st) s.heap.objs.size f cdv)) →
      ∃ t, PSs (cxOf CX0 P w K mg base N x (defScope st) f cdv A outer s H E).nox (defBody st) t ∧ ∀ ds M R, pre base ds M R → WS K T t (startD N ds) M (ends R)) : CalB P w K T mg x (k + 1) ps pre := by
  obtain ⟨⟨fd, F⟩, hm⟩ := F
  exact ⟨fd, fun base => fn_d F S (len base) (fun cdv A outer s H E hr => hbody base _ cdv A outer s H E hr), hm, F.kp, F.bindsN hb⟩
theorem calMB_of {C m qual : Str} {st : Stmt} {N ps : List Str} {k : Nat} {pre : Heap → Pre} (F : MeAt K C m qual st [] []) (S : FnScope N ps (defScope st)) (len : ∀ base ds M R, pre base ds M R → ds.length = ps.length)
    (hb : ∀ (kV doc pm : Value) (an : Option Addr) (cdv ct : Value) (us : List Value), us.length = ps.length → bindArgs (PySem.W.fnOf m qual (defArgs st) (defBody st) (defScope st) .none kV doc pm an cdv ct) ⟨us, []⟩ = pure (ps.zip us))
    (hbody : ∀ (base : Heap) (f : Addr) (cdv : Value) (A : Around) (outer : List PySem.Env) (s : Shared) (H : Hp) (E : XK), Room k (A.deeper (envOfC qual (defScope st) s.heap.objs.size f cdv)) →
      ∃ t, PSs (cxOf CX0 P w K mg base N qual (defScope st) f cdv A outer s H E).nox (defBody st) t ∧ ∀ ds M R, pre base ds M R → WS K T t (startD N ds) M (ends R)) : CalMB P w K T mg C m (k + 1) ps pre := by
  obtain ⟨⟨fd, F⟩, hm, hc⟩ := F
  exact ⟨fd, fun base => fn_d F S (len base) (fun cdv A outer s H E hr => hbody base _ cdv A outer s H E hr), hm, hc, F.bindsN hb⟩
/-- where a def's code and its table of code objects stand -/
abbrev tabA (K : PySem.W.Frag) (p : He.Defn) : Addr := (He.cT K p).2
theorem code_at {K : PySem.W.Frag} {p : He.Defn} {x qual : Str} {params : Arguments} {body : List Stmt} {scope : Scope} {dvs : List V} {kws : List (Str × V)} {fd : FuncData} (F : FunD K x qual params body scope dvs kws (He.fAd K p) fd) :
    ∃ oc od dV kV doc pm an ct osl, fd = PySem.W.fnOf x qual params body scope dV kV doc pm an (.ref (He.cT K p).1) ct ∧ K.lookup (He.fAd K p) = some ⟨oc, od, .func fd, osl⟩ ∧ PySem.W.codeIn K (.ref (He.cT K p).1) qual = true := by
  obtain ⟨oc, od, dV, kV, doc, pm, an, cdv, ct, osl, rfl, lk, hcd, _, _⟩ := F.ex
  obtain ⟨c, rfl⟩ := He.codeIn_ref hcd
  have e := He.codeOf_eq lk (c := c) rfl
  subst e
  exact ⟨oc, od, dV, kV, doc, pm, an, ct, osl, rfl, lk, hcd⟩
/-- the rule of a def by data, its code object known -/
theorem fn_dT {x qual : Str} {params : Arguments} {body : List Stmt} {scope : Scope} {dvs : List V} {kws : List (Str × V)} {p : He.Defn} {fd : FuncData} {N ps : List Str} {k : Nat} {pre : Pre} (F : FunD K x qual params body scope dvs kws (He.fAd K p) fd) (S : FnScope N ps scope) (len : ∀ ds M R, pre ds M R → ds.length = ps.length)
    (hbody : ∀ (A : Around) (outer : List PySem.Env) (s : Shared) (H : Hp) (E : XK), Room k (A.deeper (envOfC qual scope s.heap.objs.size (He.fAd K p) (.ref (He.cT K p).1))) →
      ∃ t, PSs (cxOf CX0 P w K mg base N qual scope (He.fAd K p) (.ref (He.cT K p).1) A outer s H E).nox body t ∧ ∀ ds M R, pre ds M R → WS K T t (startD N ds) M (ends R)) : FnOk P w K mg base CX0 (k + 1) (He.fAd K p) fd ps (SpD K T pre) := by
  obtain ⟨oc, od, dV, kV, doc, pm, an, ct, osl, rfl, lk, hcd⟩ := code_at F
  refine fn_of lk hcd S (fun vs H Q E h => ?_) fun A outer s H vs Q E hr h => ?_
  · obtain ⟨X, ds, M, R, ok, a, p, _⟩ := h
    rw [a.len]
    exact len ds M R p
  · obtain ⟨t, ht, hw⟩ := hbody A outer s H E hr
    obtain ⟨X, ds, M, R, ok, a, p, q⟩ := h
    exact ⟨t, ht.nox, ws_end (hw ds M R p) ok a q⟩
end
section
variable {K : PySem.W.Frag} {T : Tb} {M : MS} {G : Sl} {RS : DE}
theorem ws_par3 {i j l : Nat} {ta : TA} (h : WA K T ta G M fun ds M1 => ∃ d e f, ds = [d, e, f] ∧ RS.nx (((G.set i (some d)).set j (some e)).set l (some f)) M1) : WS K T (tPar3 i j l ta) G M RS := fun X σ H E ok sl k1 _ _ _ =>
  h X σ H _ ok sl fun vs H1 M1 ds h1 t1 a1 => by
    obtain ⟨d, e, f, rfl, q⟩ := h1
    unfold AtL at a1
    obtain ⟨v, r, rfl, b1, a1⟩ := a1
    unfold AtL at a1
    obtain ⟨u, r, rfl, b2, a1⟩ := a1
    unfold AtL at a1
    obtain ⟨z, r, rfl, b3, a1⟩ := a1
    unfold AtL at a1
    subst a1
    exact ⟨v, u, z, rfl, k1 _ H1 _ M1 q t1 ((((sl.to t1).set i b1).set j b2).set l b3)⟩
end
end Dl
end
/-! ## DLK -/
section
set_option maxRecDepth 100000
namespace Dl
open PySem PySem.Spec PyProof.Rows L2 Mx
/-- a method whose parameters are bound in their own way -/
def CalMR (P : Program) (w : World) (K : PySem.W.Frag) (T : Tb) (mg : Str → Option Value) (base : Heap) (C m : Str) (k : Nat) (pre : Pre) : Prop :=
  FnR P w K mg base CX0 k (ma K (ga K C) m) (SpD K T pre) ∧ Meth K (ga K C) m (ma K (ga K C) m) ∧ Cls K (ga K C)
section
variable {X : Cx} {P : Program} {w : World} {K : PySem.W.Frag} {T : Tb} {mg : Str → Option Value} {base : Heap} {C m : Str} {k : Nat} {pre : Pre} {apos pos : Pos} {e o : Expr} {es : List Expr} {t : TA} {ta : TE}
theorem pe_calMR {pl : Sem Bool} (c : CalMR P w K T mg base C m k pre) (ho : PE X o ta) (hr : Room k X.A) (ha : PA X (e :: es) t) (on : On X P w K mg base := by exact ⟨rfl, rfl, rfl, rfl, rfl⟩)
    (hst : starEach (e :: es) X.env = (false, eval e X.env) :: starEach es X.env := by rfl) (hpl : (backTo pos (starEach es X.env)).any (·.1) = false := by rfl)
    (ht : eval (.Call (.Attribute o m apos) (e :: es) [] pos) X.env = (do
      let ov ← eval o X.env
      standAt apos.atName
      let (f, first) ← holding [ov] (getMethod ov m pl)
      callWith pos f first (backTo pos (starEach (e :: es) X.env)) (backToKw pos (keywordEach [] X.env))) := by rfl) :
    PE X (.Call (.Attribute o m apos) (e :: es) [] pos) (tMethR (ga K C) m (SpD K T pre) E0 ta t) := by
  obtain ⟨rfl, rfl, rfl, rfl, rfl⟩ := on
  obtain ⟨F, hm, hc⟩ := c
  exact pe_methR ho hc hm F hr pass0 ha hst hpl ht
end
section
variable {P : Program} {w : World} {K : PySem.W.Frag} {T : Tb} {mg : Str → Option Value} {base : Heap} {M : MS} {G : Sl} {R : D → MS → Prop}
theorem we_methR {C : Addr} {m : Str} {pre : Pre} {ta : TE} {t : TA} (h : WE K T ta G M fun d M1 => ∃ ns ds, InsD d M1 C ns ds ∧ m ∉ ns ∧ WA K T t G M1 fun es M2 => pre (d :: es) M2 R) : WE K T (tMethR C m (SpD K T pre) E0 ta t) G M R := fun X σ H Q ok sl k =>
  h X σ H _ ok sl fun v H1 M1 d h1 t1 a1 => by
    obtain ⟨ns, ds, hi, hm, h2⟩ := h1
    obtain ⟨p, dx, vs, rfl, hp, al⟩ := ins_at t1.ok hi a1
    refine ⟨p, dx, _, rfl, hp, look_none hm vs, h2 X σ H1 _ t1.ok (sl.to t1) fun us H2 M2 es q t2 a2 => ?_⟩
    exact ⟨X, d :: es, M2, R, t2.ok, atL_cons (a1.to t2) a2, q, fun v H' M' d q t a => k v H' M' d q ((t1.trans t2).trans t) a⟩
/-- def m(self, *v) -/
theorem calMR_star {C m qual pv : Str} {st : Stmt} {N : List Str} {k : Nat} {pre : Pre} (F : MeAt K C m qual st [] []) (S : FnScope N ((["self"] : List Str) ++ [pv]) (defScope st))
    (hb : ∀ (kV doc pm : Value) (an : Option Addr) (cdv ct : Value) (us rest : List Value), us.length = (["self"] : List Str).length → bindArgs (PySem.W.fnOf m qual (defArgs st) (defBody st) (defScope st) .none kV doc pm an cdv ct) ⟨us ++ rest, []⟩ = (newTuple rest >>= fun t => pure ((["self"] : List Str).zip us ++ [(pv, t)])))
    (hbody : ∀ (cdv : Value) (A : Around) (outer : List PySem.Env) (s : Shared) (H : Hp) (E : XK), Room k (A.deeper (envOfC qual (defScope st) s.heap.objs.size (ma K (ga K C) m) cdv)) →
      ∃ t, PSs (cxOf CX0 P w K mg base N qual (defScope st) (ma K (ga K C) m) cdv A outer s H E).nox (defBody st) t ∧ ∀ ds M R, pre ds M R → WS K T t (startD N ds) M (ends R)) :
    CalMR P w K T mg base C m (k + 1) (fun ds M R => ∃ d rest, ds = d :: rest ∧ rest.length ≤ 1000 ∧ pre [d, .tup rest] M R) := by
  obtain ⟨⟨fd, F⟩, hm, hc⟩ := F
  obtain ⟨oc, od, dV, kV, doc, pm, an, cdv, ct, osl, rfl, lk, hcd, hD, _⟩ := F.ex
  rcases hD with ⟨_, rfl⟩ | ⟨e, _⟩
  · refine ⟨FnR.imp (StX.fn_star (CX := CX0) (ps := ["self"]) (pv := pv) lk hcd S StX.cxUp_none (hb kV doc pm an cdv ct) (sp := SpD K T pre) fun A outer s H vs Q E hr h => ?_) fun vs H Q E h => ?_, hm, hc⟩
    · obtain ⟨t, ht, hw⟩ := hbody cdv A outer s H E hr
      obtain ⟨X, ds, M, R, ok, a, p, q⟩ := h
      exact ⟨t, ht.nox, ws_end (hw ds M R p) ok a q⟩
    · obtain ⟨X, ds, M, R, ok, a, ⟨d, rest, rfl, hz, p⟩, q⟩ := h
      unfold AtL at a
      obtain ⟨v, us, rfl, a1, a2⟩ := a
      refine ⟨[v], us, rfl, rfl, by rw [a2.len]; exact Nat.le_of_lt (small1000 hz), fun c hp => ?_⟩
      have t := To.new (o := .tup us) ok hp rfl
      refine ⟨X, [d, .tup rest], M, R, t.ok, atL_cons (a1.to t) (atL_cons ?_ atL_nil), p, fun v' H' M' d' q' t' a' => q v' H' M' d' q' (t.trans t') a'⟩
      unfold At
      exact ⟨c, us, rfl, .of (imm_new ok hp rfl), a2.to t⟩
  · exact absurd rfl e
end
end Dl
end
/-! ## Kt5 -/
section
set_option maxRecDepth 100000
namespace Dl
open PySem PySem.Spec PyProof.Rows L2 Mx
/-! ### the program's tables: dicts by pairs of places -/
abbrev pk (i j : Nat) : List Key := [.inl (i : Nat), .inl (j : Nat)]
theorem pk_inj {i j k l : Nat} (h : pk i j = pk k l) : i = k ∧ j = l := by
  have h1 := (List.cons.inj h).1
  have h2 := (List.cons.inj (List.cons.inj h).2).1
  have e1 := Sum.inl.inj h1
  have e2 := Sum.inl.inj h2
  omega
/-- ks, ds: a table's keys and values, of the places below n -/
structure TabD (n : Nat) (f : Nat → Nat → Rat) (ks : List (List Key)) (ds : List D) : Prop where
  nd : ks.Nodup
  len : ks.length = ds.length
  sz : ks.length ≤ n * n
  key : ∀ k ∈ ks, ∃ i j, i < n ∧ j < n ∧ k = pk i j
  val : ∀ i < n, ∀ j < n, dval ks ds (pk i j) = some (ratD (f i j))
section
variable {κ : Type} [DecidableEq κ]
theorem dval_mem {ks : List κ} {ds : List D} {k : κ} {d : D} (h : dval ks ds k = some d) : k ∈ ks := by
  unfold dval at h
  obtain ⟨p, e, _⟩ := Option.map_eq_some_iff.mp h
  have h1 := of_decide_eq_true (List.find?_some (p := fun kv : κ × D => decide (kv.1 = k)) e)
  have h2 := List.of_mem_zip (List.mem_of_find?_eq_some e)
  rw [← h1]
  exact h2.1
theorem dval_none {ks : List κ} {ds : List D} {k : κ} (h : k ∉ ks) : dval ks ds k = none := by
  cases e : dval ks ds k with
  | none => rfl
  | some d => exact absurd (dval_mem e) h
theorem dval_app {ks : List κ} {ds : List D} {k : κ} {d : D} (hl : ks.length = ds.length) (k' : κ) : dval (ks ++ [k]) (ds ++ [d]) k' = (dval ks ds k').or (if k = k' then some d else none) := by
  unfold dval
  rw [List.zip_append hl, List.find?_append, Option.map_or]
  congr 1
  by_cases h : k = k'
  · simp [h]
  · simp [h]
theorem dval_new {ks : List κ} {ds : List D} {k : κ} {d : D} (hl : ks.length = ds.length) (h : k ∉ ks) : dval (ks ++ [k]) (ds ++ [d]) k = some d := by
  rw [dval_app hl, dval_none h]
  simp
theorem dval_old {ks : List κ} {ds : List D} {k k' : κ} {d d' : D} (hl : ks.length = ds.length) (h : dval ks ds k' = some d') : dval (ks ++ [k]) (ds ++ [d]) k' = some d' := by
  rw [dval_app hl, h]
  rfl
end
/-- a table being filled: the rows above r whole, of row r the first c -/
structure PartD (n : Nat) (f : Nat → Nat → Rat) (r c : Nat) (ks : List (List Key)) (ds : List D) : Prop where
  nd : ks.Nodup
  len : ks.length = ds.length
  sz : ks.length = r * n + c
  key : ∀ k ∈ ks, ∃ i j, i < n ∧ j < n ∧ k = pk i j ∧ (i < r ∨ (i = r ∧ j < c))
  val : ∀ i < n, ∀ j < n, (i < r ∨ (i = r ∧ j < c)) → dval ks ds (pk i j) = some (ratD (f i j))
theorem part_zero (n : Nat) (f : Nat → Nat → Rat) : PartD n f 0 0 [] [] := ⟨by simp, rfl, by simp, fun k h => by simp at h, fun i _ j _ h => by omega⟩
theorem part_step {n : Nat} {f : Nat → Nat → Rat} {r c : Nat} {ks : List (List Key)} {ds : List D} (h : PartD n f r c ks ds) (hr : r < n) (hc : c < n) : pk r c ∉ ks ∧ PartD n f r (c + 1) (ks ++ [pk r c]) (ds ++ [ratD (f r c)]) := by
  have hn : pk r c ∉ ks := fun hm => by
    obtain ⟨i, j, _, _, e, ho⟩ := h.key _ hm
    obtain ⟨e1, e2⟩ := pk_inj e
    omega
  refine ⟨hn, ?_, by simp [h.len], by rw [List.length_append, h.sz, List.length_singleton]; omega, fun k hk => ?_, fun i hi j hj ho => ?_⟩
  · refine List.nodup_append.mpr ⟨h.nd, by simp, fun a ha b hb => ?_⟩
    rw [List.mem_singleton] at hb
    rintro rfl
    rw [hb] at ha
    exact hn ha
  · rcases List.mem_append.mp hk with hk | hk
    · obtain ⟨i, j, h1, h2, h3, h4⟩ := h.key k hk
      exact ⟨i, j, h1, h2, h3, by omega⟩
    · rw [List.mem_singleton] at hk
      exact ⟨r, c, hr, hc, hk, by omega⟩
  · by_cases e : i = r ∧ j = c
    · obtain ⟨rfl, rfl⟩ := e
      exact dval_new h.len hn
    · exact dval_old h.len (h.val i hi j hj (by omega))
theorem part_row {n : Nat} {f : Nat → Nat → Rat} {r : Nat} {ks : List (List Key)} {ds : List D} (h : PartD n f r n ks ds) : PartD n f (r + 1) 0 ks ds := by
  refine ⟨h.nd, h.len, by rw [h.sz, Nat.add_mul]; omega, fun k hk => ?_, fun i hi j hj ho => h.val i hi j hj (by omega)⟩
  obtain ⟨i, j, h1, h2, h3, h4⟩ := h.key k hk
  exact ⟨i, j, h1, h2, h3, by omega⟩
theorem part_all {n : Nat} {f : Nat → Nat → Rat} {ks : List (List Key)} {ds : List D} (h : PartD n f n 0 ks ds) : TabD n f ks ds := by
  refine ⟨h.nd, h.len, by rw [h.sz]; omega, fun k hk => ?_, fun i hi j hj => h.val i hi j hj (by omega)⟩
  obtain ⟨i, j, h1, h2, h3, _⟩ := h.key k hk
  exact ⟨i, j, h1, h2, h3⟩
theorem tab_congr {n : Nat} {f g : Nat → Nat → Rat} {ks : List (List Key)} {ds : List D} (h : TabD n f ks ds) (e : ∀ i < n, ∀ j < n, f i j = g i j) : TabD n g ks ds :=
  ⟨h.nd, h.len, h.sz, h.key, fun i hi j hj => by rw [← e i hi j hj]; exact h.val i hi j hj⟩
/-! ### where a walk's objects stand above those that were there -/
def Up (M0 M : MS) : Prop := (∃ l, M.m = l ++ M0.m) ∧ M.lk = M0.lk
theorem Up.refl (M : MS) : Up M M := ⟨⟨[], rfl⟩, rfl⟩
theorem Up.add {M0 M : MS} (h : Up M0 M) (p : Addr) (y : MD) : Up M0 (addM M p y) := by
  obtain ⟨⟨l, e⟩, e2⟩ := h
  refine ⟨⟨(p, y) :: l, ?_⟩, e2⟩
  show (p, y) :: M.m = _
  rw [e]
  rfl
theorem Up.set {M0 M : MS} (h : Up M0 M) {p : Addr} (hp : p ∉ domM M0) (y : MD) : Up M0 (setM M p y) := by
  obtain ⟨⟨l, e⟩, e2⟩ := h
  refine ⟨⟨l.map fun q => if q.1 = p then (p, y) else q, ?_⟩, e2⟩
  unfold setM
  show M.m.map _ = _
  rw [e, List.map_append, setM_nin hp]
theorem look_set (a b : Addr) (y : MD) : ∀ m : List (Addr × MD), (m.map fun q => if q.1 = a then (a, y) else q).lookup b = if b = a then (m.lookup a).map (fun _ => y) else m.lookup b
  | [] => by simp
  | (q, z) :: r => by
    have ih := look_set a b y r
    rw [List.map_cons]
    by_cases hq : q = a
    · subst hq
      by_cases hb : b = q
      · subst hb; simp
      · have e := beq_eq_false_iff_ne.mpr hb
        simp only [if_true, List.lookup_cons, e, ih, if_neg hb]
    · have e1 := beq_eq_false_iff_ne.mpr (fun z => hq z.symm : a ≠ q)
      by_cases hb : b = q
      · subst hb
        simp only [if_neg hq, List.lookup_cons, beq_self_eq_true]
      · have e := beq_eq_false_iff_ne.mpr hb
        simp only [if_neg hq, List.lookup_cons, e, ih, e1]
theorem getM_set {M : MS} {a b : Addr} {y : MD} : getM (setM M a y) b = if b = a then (getM M a).map (fun _ => y) else getM M b := look_set a b y M.m
theorem Up.dom {M0 M : MS} (h : Up M0 M) {p : Addr} (hp : p ∉ domM M) : p ∉ domM M0 := fun z => by
  obtain ⟨⟨l, e⟩, _⟩ := h
  refine hp ?_
  unfold domM
  rw [e, List.map_append]
  exact List.mem_append_right _ z
end Dl
end
/-! ## DLL -/
section
set_option maxRecDepth 100000
namespace Dl
open PySem PySem.Spec PyProof.Rows L2 Mx
/-- a text x and what stands at b, sign by item -/
def ZsL (K : PySem.W.Frag) (z : Str) (b : Addr) (n : Nat) : It :=
  ⟨fun i H => i < z.cps.size ∧ ∃ (ys : List V) (y : V), SqL K H b ys ∧ ys.length = n ∧ ys[i]? = some y,
    fun i H v H' => ∃ p c y, v = .ref p ∧ H p = none ∧ H' = upd H p (.tup [.str ⟨#[c]⟩, y]) ∧ z.cps[i]? = some c ∧ ∀ ys, SqL K H b ys → ys[i]? = some y,
    fun i H => ∃ ys : List V, SqL K H b ys ∧ ys.length = n ∧ (z.cps.size ≤ i ∨ n ≤ i)⟩
theorem turn_zsL {P : Program} {w : World} {K : PySem.W.Frag} {elts : List Expr} {kk : Nat} {tpos : Pos} {x : Str} {tk0 : Tok} {b z TI TO i1 i2 : Addr} {n : Nat} (D : ZipSep2 z TI TO i1 i2 [i1] [i2, b]) (hb2 : b ≠ i2) :
    Turn P w K (.Tuple elts kk tpos) (ZsL K x b n) [z, TI, TO, i1, i2] z (fun i h => IsZip h z TI TO .none ∧ IsTupOf2 h TI (.ref i1) (.ref i2) ∧ (∃ u v, IsTupOf2 h TO u v) ∧ h.IsStrIter i1 (strIterType x) x tk0 i ∧ h.IsListIter i2 b i ∧ i ≤ x.cps.size ∧ i ≤ n) where
  mem := by simp
  obj := fun i h st c hc => by
    obtain ⟨hz, hTI, ⟨u, v, hTO⟩, ⟨o1, e1, _, d1⟩, ⟨o2, e2, _, d2⟩, _⟩ := st
    have mem : c = z ∨ c = TI ∨ c = TO ∨ c = i1 ∨ c = i2 := by simpa using hc
    rcases mem with rfl | rfl | rfl | rfl | rfl
    · exact ⟨_, hz, fun _ y => nomatch y⟩
    · exact ⟨_, hTI, fun _ y => nomatch y⟩
    · exact ⟨_, hTO, fun _ y => nomatch y⟩
    · exact ⟨o1, e1, fun _ y => by rw [d1] at y; cases y⟩
    · exact ⟨o2, e2, fun _ y => by rw [d2] at y; cases y⟩
  keep := fun i h h' st k => by
    obtain ⟨hz, hTI, ⟨u, v, hTO⟩, ⟨o1, e1, r1⟩, h2, le⟩ := st
    refine ⟨k z ?_ _ hz, k TI ?_ _ hTI, ⟨u, v, k TO ?_ _ hTO⟩, ⟨o1, k i1 ?_ _ e1, r1⟩, h2.at fun o y => k i2 ?_ o y, le⟩ <;> simp
  item := by
    intro X hP hw hK hc i pins s σ H E I hf st hg
    subst hP hw hK
    obtain ⟨hz, hTI, ⟨u0, v0, hTO⟩, h1, h2, _⟩ := st
    obtain ⟨hi, ys, y, hqy, hn, hy⟩ := hg
    obtain ⟨its, rv, p, _⟩ := I.list hqy
    obtain ⟨u2, hu2, ru2⟩ := rv.get hy
    have hj : i < its.toArray.size := by have := (List.getElem?_eq_some_iff.mp hu2).1; simpa using this
    have hh : X.A.in1.handled = none := I.ok.hd hc
    have zl : z < s.heap.objs.size := Heap.lt_size hz
    refine wpAny_pyNext_zipD2_item D (Draws.text hh i1 x tk0) (Draws.list hh i2 b hb2 its.toArray) hz hTI hTO h1 ⟨h2, p.isList⟩ hi hj fun x1 x2 h' tk y1 y2 z' TO' h1' h2' hT hsz hk => ?_
    obtain ⟨c, uk, ec, rfl⟩ := y1
    have e2 : x2 = u2 := by
      have : its[i]? = some x2 := by simpa using y2
      rw [this] at hu2
      exact Option.some.inj hu2
    subst e2
    refine ⟨_, rfl, wpAny_letOwnedTupleGo_zip (s := { s with heap := h', toks := tk }) z' fun h'' z'' sb => ?_⟩
    have hT2 : h''.get? s.heap.objs.size = some { cls := .type "tuple", data := .seq #[.str ⟨#[c]⟩ uk, x2] } := (sb.2 _ (Nat.ne_of_gt zl)).trans hT
    have new : ObjOk X.prog X.w (upd H s.heap.objs.size (.tup [.str ⟨#[c]⟩, y])) h'' s.heap.objs.size (.tup [.str ⟨#[c]⟩, y]) :=
      ⟨by show 2 ≤ sizeLine; decide, [.str ⟨#[c]⟩ uk, x2], .cons ⟨uk, rfl⟩ (.cons ru2 .nil), ⟨_, hT2, rfl, _, rfl⟩⟩
    have I1 : Inv X pins σ (upd H s.heap.objs.size (.tup [.str ⟨#[c]⟩, y])) { s with heap := h'', toks := tk } :=
      I.turnedNew (t' := tk) (ch := [z, TI, TO, i1, i2]) (fun d o hd g => by
        simp only [List.mem_cons, List.not_mem_nil, or_false, not_or] at hd
        exact (sb.2 d hd.1).trans (hk d o hd.1 hd.2.2.1 hd.2.2.2.1 hd.2.2.2.2 g)) hf (Nat.le_refl _) new
    refine ⟨.ref s.heap.objs.size, _, I1, rfl, ⟨_, c, y, rfl, I.hok.fresh (Nat.le_refl _), rfl, ec, fun l hl => by rw [I.list_inj hl hqy]; exact hy⟩, ⟨z'', ?_, ⟨.str ⟨#[c]⟩ uk, x2, ?_⟩, ?_, ?_, hi, by rw [← hn]; exact (List.getElem?_eq_some_iff.mp hy).1⟩, fun d hd => ?_⟩
    · exact (sb.2 _ D.TIz).trans (hk _ _ D.TIz D.TITO D.TIi1 D.TIi2 hTI)
    · exact (sb.2 _ D.TOz).trans TO'
    · obtain ⟨o, eo, ro⟩ := h1'
      exact ⟨o, (sb.2 _ D.zi1.symm).trans eo, ro⟩
    · exact h2'.1.at fun o g => (sb.2 _ D.zi2.symm).trans g
    · rw [upd_ne (fun q => ?_)]
      · exact (hf d hd).1
      · have mem : d = z ∨ d = TI ∨ d = TO ∨ d = i1 ∨ d = i2 := by simpa using hd
        have lt : ∀ {a : Addr} {o : Obj}, s.heap.get? a = some o → a ≠ s.heap.objs.size := fun g => Nat.ne_of_lt (Heap.lt_size g)
        rcases mem with rfl | rfl | rfl | rfl | rfl
        · exact lt hz q
        · exact lt hTI q
        · exact lt hTO q
        · exact h1.elim fun _ g => lt g.1 q
        · exact h2.elim fun _ g => lt g.1 q
  done := by
    intro X hP hw hK hc i pins s σ H E I hf st hg
    subst hP hw hK
    obtain ⟨hz, hTI, ⟨u0, v0, hTO⟩, h1, h2, hl1, hl2⟩ := st
    obtain ⟨ys, hqy, rfl, he⟩ := hg
    have he : i = x.cps.size ∨ i = ys.length := by omega
    obtain ⟨its, rv, p, _⟩ := I.list hqy
    have hlen : its.toArray.size = ys.length := by have := rv.length; simp; omega
    have hh : X.A.in1.handled = none := I.ok.hd hc
    refine wpAny_pyNext_zipD2_end D (Draws.text hh i1 x tk0) (Draws.list hh i2 b hb2 its.toArray) hz hTI hTO h1 ⟨h2, p.isList⟩ hl1 (by rw [hlen]; exact hl2) (by rw [hlen]; exact he) fun h' tk hk => ⟨rfl, I.turnedL (t' := tk) (ch := [z, TI, TO, i1, i2]) (fun d o hd g => ?_) hf⟩
    simp only [List.mem_cons, List.not_mem_nil, or_false, not_or] at hd
    exact hk d o hd.1 hd.2.2.1 hd.2.2.2.1 hd.2.2.2.2 g
  self := fun A i s Q E st h => wpAny_pyIter_zip st.1 h
/-- a text x and what stands at b, sign by item -/
def ZsT (K : PySem.W.Frag) (z : Str) (b : Addr) (n : Nat) : It :=
  ⟨fun i H => i < z.cps.size ∧ ∃ (ys : List V) (y : V), SqT K H b ys ∧ ys.length = n ∧ ys[i]? = some y,
    fun i H v H' => ∃ p c y, v = .ref p ∧ H p = none ∧ H' = upd H p (.tup [.str ⟨#[c]⟩, y]) ∧ z.cps[i]? = some c ∧ ∀ ys, SqT K H b ys → ys[i]? = some y,
    fun i H => ∃ ys : List V, SqT K H b ys ∧ ys.length = n ∧ (z.cps.size ≤ i ∨ n ≤ i)⟩
theorem turn_zsT {P : Program} {w : World} {K : PySem.W.Frag} {elts : List Expr} {kk : Nat} {tpos : Pos} {x : Str} {tk0 : Tok} {b z TI TO i1 i2 : Addr} {n : Nat} (D : ZipSep2 z TI TO i1 i2 [i1] [i2, b]) (hb2 : b ≠ i2) :
    Turn P w K (.Tuple elts kk tpos) (ZsT K x b n) [z, TI, TO, i1, i2] z (fun i h => IsZip h z TI TO .none ∧ IsTupOf2 h TI (.ref i1) (.ref i2) ∧ (∃ u v, IsTupOf2 h TO u v) ∧ h.IsStrIter i1 (strIterType x) x tk0 i ∧ h.IsTupleIter i2 b i ∧ i ≤ x.cps.size ∧ i ≤ n) where
  mem := by simp
  obj := fun i h st c hc => by
    obtain ⟨hz, hTI, ⟨u, v, hTO⟩, ⟨o1, e1, _, d1⟩, ⟨o2, e2, _, d2⟩, _⟩ := st
    have mem : c = z ∨ c = TI ∨ c = TO ∨ c = i1 ∨ c = i2 := by simpa using hc
    rcases mem with rfl | rfl | rfl | rfl | rfl
    · exact ⟨_, hz, fun _ y => nomatch y⟩
    · exact ⟨_, hTI, fun _ y => nomatch y⟩
    · exact ⟨_, hTO, fun _ y => nomatch y⟩
    · exact ⟨o1, e1, fun _ y => by rw [d1] at y; cases y⟩
    · exact ⟨o2, e2, fun _ y => by rw [d2] at y; cases y⟩
  keep := fun i h h' st k => by
    obtain ⟨hz, hTI, ⟨u, v, hTO⟩, ⟨o1, e1, r1⟩, h2, le⟩ := st
    refine ⟨k z ?_ _ hz, k TI ?_ _ hTI, ⟨u, v, k TO ?_ _ hTO⟩, ⟨o1, k i1 ?_ _ e1, r1⟩, h2.at fun o y => k i2 ?_ o y, le⟩ <;> simp
  item := by
    intro X hP hw hK hc i pins s σ H E I hf st hg
    subst hP hw hK
    obtain ⟨hz, hTI, ⟨u0, v0, hTO⟩, h1, h2, _⟩ := st
    obtain ⟨hi, ys, y, hqy, hn, hy⟩ := hg
    obtain ⟨its, rv, p, _⟩ := I.tuple hqy
    obtain ⟨u2, hu2, ru2⟩ := rv.get hy
    have hj : i < its.toArray.size := by have := (List.getElem?_eq_some_iff.mp hu2).1; simpa using this
    have hh : X.A.in1.handled = none := I.ok.hd hc
    have zl : z < s.heap.objs.size := Heap.lt_size hz
    refine wpAny_pyNext_zipD2_item D (Draws.text hh i1 x tk0) (Draws.tuple hh i2 b hb2 its.toArray) hz hTI hTO h1 ⟨h2, p⟩ hi hj fun x1 x2 h' tk y1 y2 z' TO' h1' h2' hT hsz hk => ?_
    obtain ⟨c, uk, ec, rfl⟩ := y1
    have e2 : x2 = u2 := by
      have : its[i]? = some x2 := by simpa using y2
      rw [this] at hu2
      exact Option.some.inj hu2
    subst e2
    refine ⟨_, rfl, wpAny_letOwnedTupleGo_zip (s := { s with heap := h', toks := tk }) z' fun h'' z'' sb => ?_⟩
    have hT2 : h''.get? s.heap.objs.size = some { cls := .type "tuple", data := .seq #[.str ⟨#[c]⟩ uk, x2] } := (sb.2 _ (Nat.ne_of_gt zl)).trans hT
    have new : ObjOk X.prog X.w (upd H s.heap.objs.size (.tup [.str ⟨#[c]⟩, y])) h'' s.heap.objs.size (.tup [.str ⟨#[c]⟩, y]) :=
      ⟨by show 2 ≤ sizeLine; decide, [.str ⟨#[c]⟩ uk, x2], .cons ⟨uk, rfl⟩ (.cons ru2 .nil), ⟨_, hT2, rfl, _, rfl⟩⟩
    have I1 : Inv X pins σ (upd H s.heap.objs.size (.tup [.str ⟨#[c]⟩, y])) { s with heap := h'', toks := tk } :=
      I.turnedNew (t' := tk) (ch := [z, TI, TO, i1, i2]) (fun d o hd g => by
        simp only [List.mem_cons, List.not_mem_nil, or_false, not_or] at hd
        exact (sb.2 d hd.1).trans (hk d o hd.1 hd.2.2.1 hd.2.2.2.1 hd.2.2.2.2 g)) hf (Nat.le_refl _) new
    refine ⟨.ref s.heap.objs.size, _, I1, rfl, ⟨_, c, y, rfl, I.hok.fresh (Nat.le_refl _), rfl, ec, fun l hl => by rw [I.tuple_inj hl hqy]; exact hy⟩, ⟨z'', ?_, ⟨.str ⟨#[c]⟩ uk, x2, ?_⟩, ?_, ?_, hi, by rw [← hn]; exact (List.getElem?_eq_some_iff.mp hy).1⟩, fun d hd => ?_⟩
    · exact (sb.2 _ D.TIz).trans (hk _ _ D.TIz D.TITO D.TIi1 D.TIi2 hTI)
    · exact (sb.2 _ D.TOz).trans TO'
    · obtain ⟨o, eo, ro⟩ := h1'
      exact ⟨o, (sb.2 _ D.zi1.symm).trans eo, ro⟩
    · exact h2'.1.at fun o g => (sb.2 _ D.zi2.symm).trans g
    · rw [upd_ne (fun q => ?_)]
      · exact (hf d hd).1
      · have mem : d = z ∨ d = TI ∨ d = TO ∨ d = i1 ∨ d = i2 := by simpa using hd
        have lt : ∀ {a : Addr} {o : Obj}, s.heap.get? a = some o → a ≠ s.heap.objs.size := fun g => Nat.ne_of_lt (Heap.lt_size g)
        rcases mem with rfl | rfl | rfl | rfl | rfl
        · exact lt hz q
        · exact lt hTI q
        · exact lt hTO q
        · exact h1.elim fun _ g => lt g.1 q
        · exact h2.elim fun _ g => lt g.1 q
  done := by
    intro X hP hw hK hc i pins s σ H E I hf st hg
    subst hP hw hK
    obtain ⟨hz, hTI, ⟨u0, v0, hTO⟩, h1, h2, hl1, hl2⟩ := st
    obtain ⟨ys, hqy, rfl, he⟩ := hg
    have he : i = x.cps.size ∨ i = ys.length := by omega
    obtain ⟨its, rv, p, _⟩ := I.tuple hqy
    have hlen : its.toArray.size = ys.length := by have := rv.length; simp; omega
    have hh : X.A.in1.handled = none := I.ok.hd hc
    refine wpAny_pyNext_zipD2_end D (Draws.text hh i1 x tk0) (Draws.tuple hh i2 b hb2 its.toArray) hz hTI hTO h1 ⟨h2, p⟩ hl1 (by rw [hlen]; exact hl2) (by rw [hlen]; exact he) fun h' tk hk => ⟨rfl, I.turnedL (t' := tk) (ch := [z, TI, TO, i1, i2]) (fun d o hd g => ?_) hf⟩
    simp only [List.mem_cons, List.not_mem_nil, or_false, not_or] at hd
    exact hk d o hd.1 hd.2.2.1 hd.2.2.2.1 hd.2.2.2.2 g
  self := fun A i s Q E st h => wpAny_pyIter_zip st.1 h
def iZs (K : PySem.W.Frag) (ta : TA) : TI := fun σ H R => ta σ H fun vs H1 => ∃ z b ys, vs = [.str z, .ref b] ∧ ((SqL K H1 b ys ∧ R (ZsL K z b ys.length) H1) ∨ (SqT K H1 b ys ∧ R (ZsT K z b ys.length) H1))
theorem pi_zipSL {K : PySem.W.Frag} {X : Cx} {e e2 : Expr} {ta : TA} {p pos tpos : Pos} {elts : List Expr} {kk : Nat} (hg : Gl X "zip") (hm : X.mg "zip" = none) (ha : PA X [e, e2] ta) (hK : X.K = K := by rfl)
    (hs : starEach [e, e2] X.env = (false, eval e X.env) :: starEach [e2] X.env := by rfl) (hpl : (backTo pos (starEach [e2] X.env)).any (·.1) = false := by rfl) :
    PI X (.Tuple elts kk tpos) (.Call (.Name "zip" p) [e, e2] [] pos) (iZs K ta) := by
  subst hK
  refine ⟨fun pins s σ H R I h => Call_ (ld_blt I hg hm PyProof.Rows.boot_zip (PyProof.Rows.callWith_type1 (thn (ha.run pos pins s σ H _ I h) fun us s1 ⟨vs, H1, I1, r1, q1⟩ => ?_) hs hpl))⟩
  obtain ⟨z, b, ys, rfl, q1⟩ := q1
  cases r1 with
  | cons r rr =>
  cases rr with
  | cons r2 rr =>
  cases rr
  obtain ⟨tk, rfl⟩ := r
  cases r2
  generalize hN : s1.heap.objs.size = N
  have fr : ∀ c, c ∈ [N + 4, N + 2, N + 3, N, N + 1] → FpOk X pins H1 c := fun c hc => by
    have hle : s1.heap.objs.size ≤ c := by
      rw [hN]
      simp only [List.mem_cons, List.not_mem_nil, or_false] at hc
      rcases hc with rfl | rfl | rfl | rfl | rfl <;> first | exact Nat.le_refl _ | exact Nat.le_add_right _ _
    exact I1.fpOk hle (I1.hok.fresh hle)
  rcases q1 with ⟨hq, q⟩ | ⟨hq, q⟩
  · obtain ⟨its, rv, pl, _⟩ := I1.list hq
    have lt : b < N := by rw [← hN]; exact pl.lt
    refine zip_begins2 (begins_text z tk) (begins_list b its.toArray) trivial pl.isList fun h' hz hTI hTO g1 g2 hsz hk => wpAny_pyIter_zip hz ?_
    rw [hN] at hz hTI hTO g1 g2
    refine ⟨_, [N + 4, N + 2, N + 3, N, N + 1], _, _, H1, by rw [hN], I1.kept (t' := s1.toks) hk, turn_zsL (zip_sep2 (fp1 := []) (fp2 := [b]) (by simp) (by simpa using lt)) (Nat.ne_of_lt (Nat.lt_succ_of_lt lt)), ⟨hz, hTI, ⟨_, _, hTO⟩, ⟨_, g1, rfl, rfl⟩, ⟨_, g2, rfl, rfl⟩, Nat.zero_le _, Nat.zero_le _⟩, fr, q⟩
  · obtain ⟨its, rv, pl, _⟩ := I1.tuple hq
    obtain ⟨o1, ho1, _⟩ := id pl
    have lt : b < N := by rw [← hN]; exact Heap.lt_size ho1
    refine zip_begins2 (begins_text z tk) (begins_tuple b its.toArray) trivial pl fun h' hz hTI hTO g1 g2 hsz hk => wpAny_pyIter_zip hz ?_
    rw [hN] at hz hTI hTO g1 g2
    refine ⟨_, [N + 4, N + 2, N + 3, N, N + 1], _, _, H1, by rw [hN], I1.kept (t' := s1.toks) hk, turn_zsT (zip_sep2 (fp1 := []) (fp2 := [b]) (by simp) (by simpa using lt)) (Nat.ne_of_lt (Nat.lt_succ_of_lt lt)), ⟨hz, hTI, ⟨_, _, hTO⟩, ⟨_, g1, rfl, rfl⟩, ⟨_, g2, rfl, rfl⟩, Nat.zero_le _, Nat.zero_le _⟩, fr, q⟩
section
variable {K : PySem.W.Frag} {T : Tb} {G : Sl} {M : MS} {RA : List D → MS → Prop}
/-- the pairs that zip hands out -/
abbrev zipD (z : Str) (es : List D) : List D := (z.cps.toList.zip es).map fun p => .tup [.str ⟨#[p.1]⟩, p.2]
theorem zipD_get {z : Str} {es : List D} {i : Nat} {d : D} (h : (zipD z es)[i]? = some d) : ∃ c e, z.cps[i]? = some c ∧ es[i]? = some e ∧ d = .tup [.str ⟨#[c]⟩, e] := by
  rw [List.getElem?_map] at h
  obtain ⟨⟨c, e⟩, h1, rfl⟩ := Option.map_eq_some_iff.mp h
  obtain ⟨h2, h3⟩ := List.getElem?_zip_eq_some.mp h1
  exact ⟨c, e, by rw [← Array.getElem?_toList]; exact h2, h3, rfl⟩
theorem wi_zs {ta : TA} (h : WA K T ta G M fun ds M1 => ∃ z es c, ds = [.str z, c] ∧ (c = .lst es ∨ c = .tup es) ∧ z.cps.size = es.length ∧ RA (zipD z es) M1) : WI K T (iZs K ta) G M RA := fun X σ H Q ok sl k =>
  h X σ H _ ok sl fun vs H1 M1 ds h1 t1 a1 => by
    obtain ⟨z, es, c, rfl, hc, hl, q⟩ := h1
    unfold AtL at a1
    obtain ⟨v, r, rfl, b1, a1⟩ := a1
    unfold AtL at a1
    obtain ⟨v2, r, rfl, b2, a1⟩ := a1
    unfold AtL at a1
    subst a1
    unfold At at b1
    subst b1
    rcases hc with rfl | rfl
    · unfold At at b2
      obtain ⟨p, us, rfl, hs, al⟩ := b2
      refine ⟨z, p, us, rfl, .inl ⟨imm_sqL (.of hs), k _ H1 M1 _ q t1 fun X' M' H' ok' ex _ i => ⟨fun d hd => ?_, fun hle => ?_⟩⟩⟩
      · obtain ⟨c, e, e1, e2, rfl⟩ := zipD_get hd
        obtain ⟨x, e3, ax⟩ := al.get e2
        refine ⟨⟨(Array.getElem?_eq_some_iff.mp e1).1, us, x, imm_sqL (.of (ex _ _ hs)), rfl, e3⟩, fun y H'' hy => ?_⟩
        obtain ⟨p', c', y', rfl, hp, rfl, e4, e5⟩ := hy
        rw [e1] at e4
        cases e4
        have e6 := e5 us (imm_sqL (.of (ex _ _ hs)))
        rw [e3] at e6
        cases e6
        have t2 := To.new (o := .tup [.str ⟨#[c]⟩, x]) ok' hp rfl
        refine ⟨t2, ?_⟩
        unfold At
        refine ⟨p', [.str ⟨#[c]⟩, x], rfl, .of (imm_new ok' hp rfl), ?_⟩
        unfold AtL
        refine ⟨_, _, rfl, by unfold At; rfl, ?_⟩
        unfold AtL
        refine ⟨_, _, rfl, (ax.mono ex).to t2, ?_⟩
        unfold AtL
        rfl
      · rw [List.length_map, List.length_zip, Array.length_toList, hl, Nat.min_self] at hle
        exact ⟨us, imm_sqL (.of (ex _ _ hs)), rfl, .inr (by rw [al.len]; exact hle)⟩
    · unfold At at b2
      obtain ⟨p, us, rfl, hs, al⟩ := b2
      refine ⟨z, p, us, rfl, .inr ⟨imm_sqT hs, k _ H1 M1 _ q t1 fun X' M' H' ok' ex _ i => ⟨fun d hd => ?_, fun hle => ?_⟩⟩⟩
      · obtain ⟨c, e, e1, e2, rfl⟩ := zipD_get hd
        obtain ⟨x, e3, ax⟩ := al.get e2
        refine ⟨⟨(Array.getElem?_eq_some_iff.mp e1).1, us, x, imm_sqT (ex.sqT hs), rfl, e3⟩, fun y H'' hy => ?_⟩
        obtain ⟨p', c', y', rfl, hp, rfl, e4, e5⟩ := hy
        rw [e1] at e4
        cases e4
        have e6 := e5 us (imm_sqT (ex.sqT hs))
        rw [e3] at e6
        cases e6
        have t2 := To.new (o := .tup [.str ⟨#[c]⟩, x]) ok' hp rfl
        refine ⟨t2, ?_⟩
        unfold At
        refine ⟨p', [.str ⟨#[c]⟩, x], rfl, .of (imm_new ok' hp rfl), ?_⟩
        unfold AtL
        refine ⟨_, _, rfl, by unfold At; rfl, ?_⟩
        unfold AtL
        refine ⟨_, _, rfl, (ax.mono ex).to t2, ?_⟩
        unfold AtL
        rfl
      · rw [List.length_map, List.length_zip, Array.length_toList, hl, Nat.min_self] at hle
        exact ⟨us, imm_sqT (ex.sqT hs), rfl, .inr (by rw [al.len]; exact hle)⟩
end
end Dl
end
/-! ## DLM -/
section
set_option maxRecDepth 100000
namespace Dl
open PySem PySem.Spec PyProof.Rows L2 Mx
/-! ### one name and a starred one -/
section
variable {X : Cx}
theorem pgs_star {e : Expr} {p : Pos} {es : List Expr} {t : TG} {u : TGs} (h1 : PG X e t) (h2 : PGs X es u)
    (hs : (assignEach (.Starred e p :: es) X.env).map (·.2) = assign e X.env :: (assignEach es X.env).map (·.2) := by rfl) : PGs X (.Starred e p :: es) (gCons t u) :=
  ⟨fun pins s σ H vs us Q I r h => by
    obtain ⟨v, vr, rfl, h⟩ := h
    cases r with
    | cons r rr =>
    rw [hs]
    exact assignInOrder_cons (thn (h1.run pins s σ H _ _ _ I r h) fun _ s1 ⟨σ1, H1, I1, q1⟩ => h2.run pins s1 σ1 H1 _ _ Q I1 rr q1)⟩
def gStar (K : PySem.W.Frag) (t : TGs) : TG := fun v σ H Q => ∃ a x xs, v = .ref a ∧ SqT K H a (x :: xs) ∧ xs.length ≤ 1000 ∧ ∀ p, H p = none → t [x, .ref p] σ (upd H p (.lst xs)) Q
theorem pg_starT {K : PySem.W.Frag} {es : List Expr} {k : Nat} {pos : Pos} {t : TGs} (hc : X.calm = true) (h : PGs X es t) (hK : X.K = K := by rfl)
    (hn : (assignEach es X.env).length = 2 := by rfl) (hst : (assignEach es X.env).findIdx? (·.1) = some 1 := by rfl) : PG X (.Tuple es k pos) (gStar K t) := by
  subst hK
  refine ⟨fun pins s σ H v u Q I r hw => ?_⟩
  obtain ⟨a, x, xs, rfl, hq, hxs, hw⟩ := hw
  cases r
  obtain ⟨its, rv, pl, _⟩ := I.tuple hq
  have hh : X.A.handled = none := I.ok.hd hc
  cases rv with
  | @cons _ u1 _ us1 r1 rr =>
  rw [PyProof.Rows.assign_Tuple]
  refine wpAny_bind (wpAny_standAt ?_)
  unfold unpack
  rw [hn, hst]
  refine wpAny_bind (wpAny_holding ?_)
  have ne : a ≠ s.heap.objs.size := by obtain ⟨o, ho, _⟩ := pl; exact Nat.ne_of_lt (Heap.lt_size ho)
  have hl : us1.length ≤ 1000 := by have := rr.length; omega
  unfold unpackItems
  refine wpAny_bind (m := notIterableAtAll _) ?_
  unfold notIterableAtAll
  refine wpAny_bind (wpAny_specialOf pl.typeIs slot_tuple_iter.lookup (wpAny_pure ?_))
  rw [if_neg (by decide)]
  refine wpAny_bind (wpAny_holding (iter_tuple pl ?_))
  refine wpAny_bind (wpAny_holding (draw_tuple ne 1 0 _ _ ⟨_, Heap.get?_push_size _ rfl, rfl, rfl⟩ (IsTup.push pl _) (by simp) fun h1 it1 sb1 => ?_))
  obtain ⟨oi, hoi, _⟩ := id it1
  have pl1 : IsTup h1 a (u1 :: us1).toArray := (IsTup.push pl _).extBut sb1.extBut ne
  obtain ⟨oa, hoa, _⟩ := id pl1
  rw [if_neg (by simp)]
  refine wpAny_bind (wpAny_holding (PySem.W.kun_collect (s := { s with heap := h1 }) (T := "tuple_iterator") (.inr (.inr (.inr rfl))) (Walks.tuple (A := X.A.in1) hh s.heap.objs.size a ne (u1 :: us1).toArray) (fun j u st => st.1.typeIs) (k := 1) (by simp) ⟨it1, pl1⟩ (Heap.lt_size hoi) (Heap.lt_size hoa) (fun h2 tk hk => ?_) (by rw [sizeLine_eq]; simp; omega)))
  have e1 : (u1 :: us1).toArray.toList.drop 1 = us1 := by simp
  rw [e1]
  show wpAny _ _ (if us1.length < 0 then _ else _) _ _ _
  rw [if_neg (Nat.not_lt_zero _)]
  show wpAny _ _ (newList (us1.take (us1.length - 0)) >>= fun d => pure (((u1 :: us1).toArray.toList.drop 0).take 1 ++ [d] ++ us1.drop (us1.length - 0))) _ _ _
  rw [Nat.sub_zero, List.take_length, List.drop_length]
  have up : ∀ b o, s.heap.get? b = some o → h2.get? b = some o := fun b o e => by
    have hb : b ≠ s.heap.objs.size := Nat.ne_of_lt (Heap.lt_size e)
    exact hk b o hb (sb1.extBut b o hb (Heap.get?_push_of_some _ e))
  have I2 : Inv X pins σ H { s with heap := h2, toks := tk } := I.kept (t' := tk) up
  refine wpAny_bind (wpAny_newList (s := { s with heap := h2, toks := tk }) (wpAny_pure ?_) (by rw [sizeLine_eq]; omega))
  have lx : xs.length ≤ sizeLine := by rw [sizeLine_eq]; omega
  have hf : H h2.objs.size = none := I2.hok.fresh (Nat.le_refl _)
  have I1 : Inv X pins σ (upd H h2.objs.size (.lst xs)) { s with heap := h2.push { cls := .type "list", data := .seq us1.toArray }, toks := tk } :=
    I2.laid (t' := tk) (fun b o e => Heap.get?_push_of_some _ e) (Nat.le_refl _) ⟨lx, us1, 0, rr, Heap.get?_push_size _ rfl⟩
  have rl : L2.RelV (.ref h2.objs.size) (Value.ref h2.objs.size) := rfl
  exact h.run pins _ σ _ _ _ Q I1 (.cons r1 (.cons rl .nil)) (hw _ hf)
section
variable {K : PySem.W.Frag} {T : Tb} {G : Sl} {M : MS} {RG : Sl → MS → Prop}
theorem wg_star {t : TGs} {d : D} {ds : List D} (hl : ds.length ≤ 1000) (h : WGs K T t [d, .lst ds] G M RG) : WG K T (gStar K t) (.tup (d :: ds)) G M RG := fun X v σ H Q ok sl a k => by
  unfold At at a
  obtain ⟨p, vs, rfl, h2, h3⟩ := a
  unfold AtL at h3
  obtain ⟨x, xs, rfl, ax, axs⟩ := h3
  refine ⟨p, x, xs, rfl, imm_sqT h2, by rw [axs.len]; exact hl, fun q hq => ?_⟩
  have t2 := To.new (o := .lst xs) ok hq rfl
  refine h X _ σ _ Q t2.ok (sl.to t2) ?_ fun σ1 H1 G1 M1 r t1 s1 => k σ1 H1 G1 M1 r (t2.trans t1) s1
  unfold AtL
  refine ⟨_, _, rfl, ax.to t2, ?_⟩
  unfold AtL
  refine ⟨_, _, rfl, ?_, by unfold AtL; rfl⟩
  unfold At
  exact ⟨q, xs, rfl, imm_new ok hq rfl, axs.to t2⟩
end
end
end Dl
end
/-! ## DLN -/
section
set_option maxRecDepth 100000
namespace Dl
open PySem PySem.Spec PyProof.Rows L2 Mx
/-! ### the marks of the steps' forms, a dict of the module -/
abbrev marksOf : List (Str × Str) := [("road", "lnnk"), ("place", "nnkk"), ("same", "nn"), ("forget", "n"), ("cap", "lk"), ("scale", "lq"), ("turn", ""), ("round", "l"), ("ride", "lnnk")]
structure Forms (K : PySem.W.Frag) (w : World) (mg : Str → Option Value) : Prop where
  g : mg "FORMS" = some (.ref (ga K "FORMS"))
  k : ∃ es n, KDict K w (ga K "FORMS") es n
  val : ∀ p ∈ marksOf, ∃ t, PySem.W.nsIn K (ga K "FORMS") p.1 = some (some (.str p.2 t))
def rFout (K : PySem.W.Frag) : R2 := fun x y H Q => ∃ (z : Str) (r : Option Value), x = .str z ∧ y = .ref (ga K "FORMS") ∧ PySem.W.nsIn K (ga K "FORMS") z = some r ∧ Q (.bl (!r.isSome)) H
theorem op_fout {K : PySem.W.Frag} {w : World} {mg : Str → Option Value} {X : Cx} (FO : Forms K w mg) (hK : X.K = K := by rfl) (hw : X.w = w := by rfl) : OpR X (compareOp .NotIn) (rFout K) := by
  subst hK hw
  obtain ⟨es, n, k⟩ := FO.k
  exact op_notIn_kd k
theorem ix_forms {K : PySem.W.Frag} {w : World} {X : Cx} (hK : X.K = K := by rfl) (hw : X.w = w := by rfl) : IxR X (rIxD K w) := by
  subst hK hw
  exact ix_kdict
section
variable {K : PySem.W.Frag} {w : World} {mg : Str → Option Value} {T : Tb} {G : Sl} {M : MS} {R : D → MS → Prop}
theorem we_forms (q : R (.ptr (ga K "FORMS")) M) : WE K T (tC (.ref (ga K "FORMS"))) G M R := we_con (fun I => by unfold At; rfl) q
theorem opd_fout (FO : Forms K w mg) {z m : Str} (h : (z, m) ∈ marksOf) (q : R (.bl false) M) : OpD K T (rFout K) (.str z) (.ptr (ga K "FORMS")) M R := fun X v u H Q ok a b k => by
  unfold At at a b
  obtain ⟨t, e⟩ := FO.val _ h
  exact ⟨z, _, a, b, e, k _ H M _ q (To.refl ok) (by unfold At; rfl)⟩
theorem opd_forms (FO : Forms K w mg) {z m : Str} (h : (z, m) ∈ marksOf) (q : R (.str m) M) : OpD K T (rIxD K w) (.ptr (ga K "FORMS")) (.str z) M R := fun X v u H Q ok a b k => by
  unfold At at a b
  obtain ⟨t, e⟩ := FO.val _ h
  obtain ⟨es, n, kd⟩ := FO.k
  exact ⟨_, z, .str m, a, b, ⟨es, n, _, kd.at_, kd.lit, e, ⟨t, rfl⟩⟩, k _ H M _ q (To.refl ok) (by unfold At; rfl)⟩
end
section
variable {K : PySem.W.Frag} {T : Tb} {G : Sl} {M : MS} {R : D → MS → Prop}
/-- a list comprehension over pairs, two names -/
theorem we_lcP {wi : TI} {tt : TT} {te : TE} {i j : Nat} (h : WI K T wi G M fun ds M1 => ∃ (α : Type) (xs : List α) (g1 g2 g' : α → D) (p : α → Bool), ds = xs.map (fun x => .tup [g1 x, g2 x]) ∧ xs.length ≤ 1000 ∧
    (∀ x ∈ xs, WT K T tt (((wipeD G [i, j]).set i (some (g1 x))).set j (some (g2 x))) M1 fun b M' => b = p x ∧ M' = M1 ∧ (b = true → WE K T te (((wipeD G [i, j]).set i (some (g1 x))).set j (some (g2 x))) M1 fun y M' => y = g' x ∧ M' = M1)) ∧ R (.lst ((xs.filter p).map g')) M1) :
    WE K T (tLc wi (gTup K 2 (gCons (gName i) (gCons (gName j) gNil))) tt te [i, j]) G M R := by
  refine we_lc fun X σ H Q ok sl k => h X σ H Q ok sl fun J H' M' ds r t it => k J H' M' ds ?_ t it
  obtain ⟨α, xs, g1, g2, g', p, rfl, hz, he, hr⟩ := r
  refine ⟨Nat.le_of_lt (small1000 (by rw [List.length_map]; exact hz)), fun n acc M2 => M2 = M' ∧ acc = ((xs.take n).filter p).map g', ⟨rfl, rfl⟩, ?_, fun acc M2 ⟨e1, e2⟩ => by rw [e1, e2, List.length_map, List.take_length]; exact hr⟩
  rintro n acc d M2 hd _ ⟨rfl, rfl⟩
  rw [List.getElem?_map] at hd
  obtain ⟨x, e1, rfl⟩ := Option.map_eq_some_iff.mp hd
  have hx : x ∈ xs := List.mem_of_getElem? e1
  refine wgv_tup rfl (wgsv_cons (wgv_name (by simp) (wgsv_cons (wgv_name (by simp) (wgsv_nil ((he x hx).imp fun b M3 q => ?_))))))
  obtain ⟨rfl, rfl, q⟩ := q
  have e2 : xs.take (n + 1) = xs.take n ++ [x] := by rw [List.take_succ, e1]; rfl
  cases hb : p x with
  | true =>
    rw [if_pos rfl]
    refine (q hb).imp fun y M3 q => ?_
    obtain ⟨rfl, rfl⟩ := q
    exact ⟨rfl, by rw [e2, List.filter_append, List.map_append, List.filter_cons, if_pos hb]; rfl⟩
  | false =>
    rw [if_neg (by decide)]
    exact ⟨rfl, by rw [e2, List.filter_append, List.filter_cons, if_neg (by rw [hb]; decide), List.filter_nil, List.append_nil]⟩
end
end Dl
end
/-! ## DLO -/
section
set_option maxRecDepth 100000
namespace Dl
open PySem PySem.Spec PyProof.Rows L2 Mx
/-! ### a comprehension's dict by tuples -/
theorem put_pair {X : Cx} {pins : List (Addr × Obj)} {σ : L2.St} {H : Hp} {s : Shared} {A : Around} {E : Value → Shared → Prop} {p b : Addr} {kvs : List (List Key × V)} {k : List Key} {v : V} {r : Value} {Q : Unit → Shared → Prop} (hu : A.units < cLine)
    (I : Inv X pins σ H s) (hp : H p = some (.dT kvs)) (hb : H b = some (.tup (k.map kV))) (hz : kvs.length < sizeLine) (rv : L2.RelV v r)
    (q : ∀ s', Inv X pins σ (upd H p (.dT (putK kvs k v))) s' → Q () s') : wpAny (model X.prog X.w) A (dictSet p (.ref b) r) Q E s := by
  obtain ⟨_, no, xs, kt, dd⟩ := dt_of I.hok hp
  refine PySem.wpAny_dictSet_heap (hsz := by rw [← Paired.length kt]; exact Nat.le_of_lt hz) hu (key_of I.hok hb) dd fun h' ⟨ob, es, ep, g1, g2, g3, g4, _, g6⟩ sb => q _ ?_
  have len : (putK kvs k v).length ≤ sizeLine := by have := length_putK kvs k v; omega
  refine d_write I (by rw [hp]; exact True.intro) sb ⟨ob, g1⟩ ⟨len, no, _, (kt.put k hb rv).keeps fun c ys ec => ?_, ob, es, ep, g1, g2, g3, g4, g6⟩
  rw [upd_ne]
  · exact ec
  · rintro rfl
    rw [hp] at ec
    cases ec
end Dl
end
/-! ## DLP -/
section
set_option maxRecDepth 100000
namespace Dl
open PySem PySem.Spec PyProof.Rows L2 Mx
/-! ### one clause of a comprehension, whatever it does with what it draws -/
section
variable {B : Cx} {tg : Expr} {J : It} {fp : List Addr} {it : Addr} {tn : Nat → Heap → Prop} {g : TG} {ifs : List Expr} {tt : TT} {vs : List Nat} {σ : L2.St} {W : Nat → Nat → Hp → Prop} {pins : List (Addr × Obj)}
/-- the clause's state ahead of a turn -/
def Sits (B : Cx) (pins : List (Addr × Obj)) (ρ : L2.St) (fp : List Addr) (tn : Nat → Heap → Prop) (W : Nat → Nat → Hp → Prop) (n : Nat) (s : Shared) : Prop :=
  ∃ i H, Inv B pins ρ H s ∧ tn i s.heap ∧ (∀ b ∈ fp, H b = none) ∧ W i n H
/-- slots that know what ρ knows -/
def Knows (ρ τ : L2.St) : Prop := ρ.length = τ.length ∧ ∀ (j : Nat) v, ρ[j]? = some (some v) → τ[j]? = some (some v)
theorem Knows.refl (ρ : L2.St) : Knows ρ ρ := ⟨rfl, fun _ _ h => h⟩
theorem Knows.wiped {τ ρ : L2.St} (h : wipe τ vs = ρ) : Knows ρ τ := ⟨by rw [← h, wipe_length], fun j v e => by rw [← h] at e; exact (wipe_some e).1⟩
theorem Knows.more {τ ρ : L2.St} {us : List Nat} (h : wipe τ vs = ρ) (sub : ∀ i ∈ us, i ∈ vs) : Knows ρ (wipe τ us) := ⟨by rw [← h, wipe_length, wipe_length], fun j v e => by
  rw [← h] at e
  obtain ⟨e1, e2⟩ := wipe_some e
  rw [wipe_out fun z => e2 (sub j z)]
  exact e1⟩
theorem clause {E : Value → Shared → Prop} {Dn : Hp → Prop} {Bd : Bool → (Hp → Prop) → L2.St → Hp → Prop} {QD : Shared → Prop} {QB : Bool → Shared → Prop} (hc : B.calm = true) (hx : ∀ e s, ¬ B.xe e s) (T : Turn B.prog B.w B.K tg J fp it tn) (pg : PG B tg g) (pt : PTs B ifs tt)
    (stat : ∀ {τ : L2.St} {H : Hp} {s : Shared}, Inv B pins τ H s → (∀ b ∈ fp, H b = none) → ∀ b ∈ fp, FpOk B pins H b)
    (turn : ∀ i m H, W i m H → (J.stop i H ∧ Dn H) ∨ (J.go i H ∧ ∃ Nx : Hp → Prop, (∀ H', Nx H' → ∃ m', m' < m ∧ W (i + 1) m' H') ∧ ∀ x H', J.yld i H x H' → g x (wipe σ vs) H' fun τ H2 => wipe τ vs = wipe σ vs ∧ tt τ H2 fun b H3 => Bd b Nx τ H3))
    {n : Nat} (hD : ∀ s H, Inv B pins (wipe σ vs) H s → Dn H → QD s)
    (hB : ∀ (b : Bool) (s : Shared) (τ : L2.St) (H : Hp) (Nx : Hp → Prop) (ps : List (Addr × Obj)), Inv B (pins ++ ps) τ H s → wipe τ vs = wipe σ vs → Bd b Nx τ H →
      (∀ (τ' : L2.St) (s' : Shared) (H' : Hp), Inv B (pins ++ ps) τ' H' s' → Knows (wipe σ vs) τ' → Nx H' → ∃ m, m < n ∧ Sits B pins (wipe σ vs) fp tn W m s') → QB b s)
    {s : Shared} (h : Sits B pins (wipe σ vs) fp tn W n s) :
    wpAny (model B.prog B.w) B.A (pyNext (.ref it)) (fun r s1 => match r with
      | none => QD s1
      | some v => wpAny (model B.prog B.w) B.A (letOwnedTupleGo tg (.ref it) v) (fun _ s2 => wpAny (model B.prog B.w) B.A (assign tg B.env v) (fun _ s3 =>
        wpAny (model B.prog B.w) B.A (forIn ifs true fun c r => if r = true then do let ok ← isTrue c B.env (eval c B.env); pure (ForInStep.yield ok) else pure (ForInStep.yield r)) QB E s3) E s2) E s1) E s := by
  obtain ⟨i, H, I, st, nn, ww⟩ := h
  rcases turn i n H ww with ⟨hs, hd⟩ | ⟨hg, Nx, hN, step⟩
  · refine thnF (T.done B rfl rfl rfl hc i pins s _ H (fun _ _ => False) I (stat I nn) st hs) fun r s1 ⟨hr, I1⟩ => ?_
    subst hr
    exact hD s1 H I1 hd
  · refine thnF (T.item B rfl rfl rfl hc i pins s _ H (fun _ _ => False) I (stat I nn) st hg) fun r s1 ⟨u, hr, q1⟩ => ?_
    subst hr
    refine thnF q1 fun _ s2 ⟨x, H2, I2, rx, hy, st2, n2⟩ => ?_
    have P2 := I2.pinned (stat I2 n2) (T.obj _ _ st2)
    refine wpAny_mono (pg.run _ s2 _ H2 x u _ P2 rx (step x H2 hy)) (fun _ s3 ⟨τ, H3, I3, wt, q3⟩ => ?_) fun e s' z => (hx e s' z).elim
    refine wpAny_mono (pt.run _ s3 τ H3 _ I3 q3) (fun b s4 ⟨H4, I4, q4⟩ => ?_) fun e s' z => (hx e s' z).elim
    refine hB b s4 τ H4 Nx (pinsAt fp s2.heap) I4 wt q4 fun τ' s' H' I' kn nx => ?_
    obtain ⟨m, hm, w'⟩ := hN H' nx
    have held : ∀ c ∈ fp, ∀ o, s2.heap.get? c = some o → s'.heap.get? c = some o ∧ H' c = none := fun c hcm o e =>
      have y := I'.pin (c, o) (List.mem_append_right _ (List.mem_append_right _ (mem_pinsAt hcm e)))
      ⟨y.1, y.2.1⟩
    refine ⟨m, hm, i + 1, H', I'.unpinned.weak kn.1 kn.2, T.keep _ _ _ st2 fun c hcm o e => (held c hcm o e).1, fun c hcm => ?_, w'⟩
    obtain ⟨o, e, _⟩ := T.obj _ _ st2 c hcm
    exact (held c hcm o e).2
end
end Dl
end
/-! ## DLQ -/
section
set_option maxRecDepth 100000
namespace Dl
open PySem PySem.Spec PyProof.Rows L2 Mx
section
variable {X : Cx}
/-- a block of a dict comprehension: from the loop's own proof, the whole -/
theorem dict_block {pins : List (Addr × Obj)} {s : Shared} {σ : L2.St} {H : Hp} {Q : VK} {kx vx tg iter : Expr} {ifs : List Expr} {rest : List Comprehension} {scope : Scope} {own : List (Str × Nat)} {pos pos' : Pos} {wi : TI} {LS : It → Addr → (Nat → Nat → Hp → Prop) → Prop} {use : Option (Value → Sem Unit)} {Qf : Value → Shared → Prop}
    (hN : X.N.Nodup) (I : Inv X pins σ H s) (hi : PI X tg iter wi) (ok : BlkOk X.N X.env.scope scope own) (hs : ∀ x, foldedSetIterable iter X.env x = pure x)
    (h : wi σ H fun J H1 => ∀ p, H1 p = none → ∃ W : Nat → Nat → Hp → Prop, (∃ m, W 0 m (upd H1 p (.dT []))) ∧ LS J p W)
    (loop : ∀ (s3 : Shared) (H3 : Hp) (C : Addr) (cl : List (Str × Addr)) (fp : List Addr) (it p : Addr) (tn : Nat → Heap → Prop) (J : It) (W : Nat → Nat → Hp → Prop) (R : Result → Shared → Prop), Turn X.prog X.w X.K tg J fp it tn → LS J p W →
      (∀ s' H', Inv (X.blk s3 H3 scope (compEnvC scope cl C X.env) fp) [] (wipe σ (own.map (·.2))) H' s' → Q (.ref p) H' → R (.ok .next) s') →
      ∀ m s', Sits (X.blk s3 H3 scope (compEnvC scope cl C X.env) fp) [] (wipe σ (own.map (·.2))) fp tn W m s' →
        codeAny (model X.prog X.w) X.A (.compLoop (.DictComp kx vx (⟨tg, iter, ifs, 0⟩ :: rest) scope pos) 0 (.ref it) (.ref p) (compEnvC scope cl C X.env)) R s')
    (after : ∀ p C s' m H', Inv X pins σ H' s' → Q (.ref p) H' → s'.heap.Ns C m → FpOk X pins H' C → compPost (model X.prog X.w) X.A X.xe use Qf (.ref p) C (.ok .next) s') :
    wpAny (model X.prog X.w) X.A (comprehension (.DictComp kx vx (⟨tg, iter, ifs, 0⟩ :: rest) scope pos) scope X.env pos' newDict false (eval iter X.env) use) Qf X.xe s := by
  refine wpAny_comprehension_free (use := use) rfl hs (closure_ok fun y hy e => (ok.free y hy e).elim (fun z => I.ok.has _ (.inl z)) fun z => I.ok.has _ (.inr z)) ok.kind (fun y hy e => by rw [ok.uniq y hy, e])
    (thn (hi.run pins s σ H _ I h) fun _ _ hx => thn hx fun _ s2 ⟨it, fp, tn, J, H2, e, I2, T, t2, f2, q⟩ => ?_)
  subst e
  refine wpAny_newObj_type (newEnv_comp ?_)
  have pn : H2 s2.heap.objs.size = none := I2.hok.fresh (Nat.le_refl _)
  obtain ⟨W, ⟨m0, w0⟩, ls⟩ := q _ pn
  have lt2 : ∀ b ∈ fp, b < s2.heap.objs.size := fun b hb => (T.obj _ _ t2 b hb).elim fun _ e => Heap.lt_size e.1
  have I3 : Inv X pins σ (upd H2 s2.heap.objs.size (.dT [])) { s2 with heap := s2.heap.push { cls := .type "dict", data := .dict #[] } } :=
    I2.laid (t' := s2.toks) (fun b o e => Heap.get?_push_of_some _ e) (Nat.le_refl _) (dt_empty s2.heap I2.big)
  have f3 : ∀ b ∈ fp, FpOk X pins (upd H2 s2.heap.objs.size (.dT [])) b ∧ b < (s2.heap.push { cls := .type "dict", data := .dict #[] }).objs.size := fun b hb =>
    ⟨⟨by rw [upd_ne (Nat.ne_of_lt (lt2 b hb))]; exact (f2 b hb).1, (f2 b hb).2⟩, by rw [Heap.size_push]; exact Nat.lt_succ_of_lt (lt2 b hb)⟩
  have I4 := block_start I3 ok hN f3
  have t4 : tn 0 (pushCells ((s2.heap.push { cls := .type "dict", data := .dict #[] }).push { cls := .type "dict", data := .dict #[] }) scope.names) :=
    T.keep _ _ _ t2 fun b _ o e => pushCells_keeps _ _ _ _ (Heap.get?_push_of_some _ (Heap.get?_push_of_some _ e))
  have run := loop _ _ _ _ fp it _ tn J W (compPost (model X.prog X.w) X.A X.xe use Qf (.ref s2.heap.objs.size) (s2.heap.push { cls := .type "dict", data := .dict #[] }).objs.size) T ls (fun s' H' I' q' => by
    obtain ⟨m, hn, _⟩ := I'.loc
    refine after _ _ s' m H' (I3.call' (ch := fp) I'.os I'.base I'.hok I'.bare fun b hb => ⟨(f3 b hb).1.2.2.2.1, (f3 b hb).1.2.1, (f3 b hb).1.2.2.2.2.1, (f3 b hb).1.2.2.2.2.2⟩) q' hn (I3.fpOk (Nat.le_refl _) I'.free)) m0 _ ⟨0, _, I4, t4, fun b hb => (f3 b hb).1.1, w0⟩
  exact codeAny_compStart_dict run (T.self X.A 0 _ _ _ t4 run)
end
end Dl
end
/-! ## DLR -/
section
set_option maxRecDepth 100000
namespace Dl
open PySem PySem.Spec PyProof.Rows L2 Mx
section
variable {X : Cx}
/-- what a turn does: a pair of the dict at p is written -/
def wrT (tk tv : TE) (p : Addr) (b : Bool) (Nx : Hp → Prop) (τ : L2.St) (H : Hp) : Prop :=
  if b = true then tk τ H fun y H4 => tv τ H4 fun z H5 => ∃ kvs k a, y = .ref a ∧ H5 a = some (.tup (k.map kV)) ∧ H5 p = some (.dT kvs) ∧ kvs.length < sizeLine ∧ Nx (upd H5 p (.dT (putK kvs k z))) else Nx H
def LoopT (g : TG) (tt : TT) (bd : Addr → Bool → (Hp → Prop) → L2.St → Hp → Prop) (vs : List Nat) (σ : L2.St) (Q : VK) (J : It) (p : Addr) (W : Nat → Nat → Hp → Prop) : Prop :=
  ∀ i m H, W i m H → (J.stop i H ∧ Q (.ref p) H) ∨ (J.go i H ∧ ∃ Nx : Hp → Prop, (∀ H', Nx H' → ∃ m', m' < m ∧ W (i + 1) m' H') ∧ ∀ x H', J.yld i H x H' → g x (wipe σ vs) H' fun τ H2 => wipe τ vs = wipe σ vs ∧ tt τ H2 fun b H3 => bd p b Nx τ H3)
def tDcT (wi : TI) (g : TG) (tt : TT) (tk tv : TE) (vs : List Nat) : TE := fun σ H Q => wi σ H fun J H1 => ∀ p, H1 p = none → ∃ W : Nat → Nat → Hp → Prop, (∃ m, W 0 m (upd H1 p (.dT []))) ∧ LoopT g tt (wrT tk tv) vs σ Q J p W
theorem pe_dcT {kx vx tg iter : Expr} {ifs : List Expr} {scope : Scope} {own : List (Str × Nat)} {pos : Pos} {wi : TI} {g : TG} {tt : TT} {tk tv : TE} (hc : X.calm = true) (hu : X.A.units < cLine) (hN : X.N.Nodup) (hi : PI X tg iter wi) (ok : BlkOk X.N X.env.scope scope own)
    (hg : ∀ (s : Shared) (H : Hp) (C : Addr) (cl : List (Str × Addr)) (fp : List Addr), PG (X.blk s H scope (compEnvC scope cl C X.env) fp) tg g)
    (ht : ∀ (s : Shared) (H : Hp) (C : Addr) (cl : List (Str × Addr)) (fp : List Addr), PTs (X.blk s H scope (compEnvC scope cl C X.env) fp) ifs tt)
    (hk : ∀ (s : Shared) (H : Hp) (C : Addr) (cl : List (Str × Addr)) (fp : List Addr), PE (X.blk s H scope (compEnvC scope cl C X.env) fp) kx tk)
    (hv : ∀ (s : Shared) (H : Hp) (C : Addr) (cl : List (Str × Addr)) (fp : List Addr), PE (X.blk s H scope (compEnvC scope cl C X.env) fp) vx tv) (hs : ∀ x, foldedSetIterable iter X.env x = pure x := by intro _; rfl) :
    PE X (.DictComp kx vx [⟨tg, iter, ifs, 0⟩] scope pos) (tDcT wi g tt tk tv (own.map (·.2))) := by
  refine ⟨fun pins s σ H Q I h => ?_⟩
  rw [arm_eval_DictComp]
  refine dict_block (Q := Q) hN I hi ok hs h (fun s3 H3 C cl fp it p tn J W R T ls fin m s' st => ?_) fun p C s' m H' I' q hn f => ⟨m, hn, fun h'' sb => ?_⟩
  · have stat : ∀ {τ : L2.St} {H : Hp} {s : Shared}, Inv (X.blk s3 H3 scope (compEnvC scope cl C X.env) fp) [] τ H s → (∀ b ∈ fp, H b = none) → ∀ b ∈ fp, FpOk (X.blk s3 H3 scope (compEnvC scope cl C X.env) fp) [] H b := fun {τ H s} I n b hb =>
      ⟨n b hb, (I.ok.exf b hb).1, I.ok.exfs b hb, .inl hb, fun x c e => (I.ok.exf b hb).2 x c e, fun q hq => absurd (show q ∈ ([] : List (Addr × Obj)) ++ [] from hq) (by simp)⟩
    refine compLoop_anyD (fun n s' => Sits (X.blk s3 H3 scope (compEnvC scope cl C X.env) fp) [] (wipe σ (own.map (·.2))) fp tn W n s') (fun n s5 h5 => ?_) m st
    exact clause (B := X.blk s3 H3 scope (compEnvC scope cl C X.env) fp) hc (fun _ _ z => z) T (hg s3 H3 C cl fp) (ht s3 H3 C cl fp) stat ls (fun s6 H6 I6 d => fin s6 H6 I6 d) (fun b s6 τ H6 Nx ps I6 hw hb goes => by
      cases b with
      | false =>
        rw [if_neg Bool.false_ne_true]
        exact goes τ s6 H6 I6 (.wiped hw) hb
      | true =>
        rw [if_pos rfl]
        refine thnF ((hk s3 H3 C cl fp).run _ s6 τ H6 _ I6 hb) fun z1 s7 ⟨y, H7, I7, r7, q7⟩ => thnF ((hv s3 H3 C cl fp).run _ s7 τ H7 _ I7 q7) fun z2 s8 ⟨z, H8, I8, r8, kvs, k, a, e, ha, hp, hz, nx⟩ => ?_
        subst e
        cases r7
        exact put_pair (X := X.blk s3 H3 scope (compEnvC scope cl C X.env) fp) hu I8 hp ha hz r8 fun s9 I9 => goes τ s9 _ I9 (.wiped hw) nx) h5
  · obtain ⟨f0, f1, f2, f3, f4, f5⟩ := f
    exact ⟨.ref p, H', I'.turned (t' := s'.toks) (fun b o hb e => (sb.2 b hb).trans e) f0 f1 f3 f4 f5, rfl, q⟩
end
end Dl
end
/-! ## DLS -/
section
set_option maxRecDepth 100000
namespace Dl
open PySem PySem.Spec PyProof.Rows L2 Mx
/-! ### a dict comprehension of two clauses -/
section
variable (kx vx t0 i0 t1 i1 : Expr) (ifs0 ifs1 : List Expr) (scope : Scope) (pos : Pos)
abbrev two : Expr := .DictComp kx vx [⟨t0, i0, ifs0, 0⟩, ⟨t1, i1, ifs1, 0⟩] scope pos
theorem two_out (it acc : Value) (env : Env) : compTurn (two kx vx t0 i0 t1 i1 ifs0 ifs1 scope pos) 0 it acc env = (do
    standAt i0.pos
    match ← pyNext it with
    | none => pure (.done .next)
    | some x =>
      letOwnedTupleGo t0 it x
      assign t0 env x
      let mut go := true
      for c in ifs0 do
        if go then go ← isTrue c env (eval c env)
      if go then
        let y ← eval i1 env
        standAt i1.pos
        let y ← foldedSetIterable i1 env y
        let _ ← runOwn (.compStart (two kx vx t0 i0 t1 i1 ifs0 ifs1 scope pos) 1 (← holding [y] (pyIter y)) acc env) env
      again (.compLoop (two kx vx t0 i0 t1 i1 ifs0 ifs1 scope pos) 0 it acc env)) := by rfl
theorem two_in (it : Value) (p : Addr) (env : Env) : compTurn (two kx vx t0 i0 t1 i1 ifs0 ifs1 scope pos) 1 it (.ref p) env = (do
    standAt i1.pos
    match ← pyNext it with
    | none => pure (.done .next)
    | some x =>
      letOwnedTupleGo t1 it x
      assign t1 env x
      let mut go := true
      for c in ifs1 do
        if go then go ← isTrue c env (eval c env)
      if go then
        (do
          let a ← eval kx env
          let b ← holding [a] (eval vx env)
          standAt { kx.pos with endLine := vx.pos.endLine, endCol := vx.pos.endCol }
          holding [a, b] (dictSet p a b))
      again (.compLoop (two kx vx t0 i0 t1 i1 ifs0 ifs1 scope pos) 1 it (.ref p) env)) := by rfl
end
section
variable {prog : Program} {w : World} {A : Around} {R : Result → Shared → Prop} {s : Shared} {kx vx t0 i0 t1 i1 : Expr} {ifs0 ifs1 : List Expr} {scope : Scope} {pos : Pos} {it acc : Value} {p : Addr} {env : Env}
/-- how a turn runs, ahead of what it does -/
def Drawn (prog : Program) (w : World) (A : Around) (F : Value → Shared → Prop) (tg : Expr) (ifs : List Expr) (it : Value) (env : Env) (QD : Shared → Prop) (QB : Bool → Shared → Prop) (s : Shared) : Prop :=
  wpAny (model prog w) A (pyNext it) (fun r s1 => match r with
    | none => QD s1
    | some v => wpAny (model prog w) A (letOwnedTupleGo tg it v) (fun _ s2 => wpAny (model prog w) A (assign tg env v) (fun _ s3 =>
      wpAny (model prog w) A (forIn ifs true fun c r => if r = true then do let ok ← isTrue c env (eval c env); pure (ForInStep.yield ok) else pure (ForInStep.yield r)) QB F s3) F s2) F s1) F s
abbrev Fl (prog : Program) (w : World) (A : Around) (env : Env) (R : Result → Shared → Prop) : Value → Shared → Prop := notedBy (model prog w) A env fun e s' => R (.error e) s'
theorem loop_in (St : Nat → Shared → Prop) (turn : ∀ n s, St n s → Drawn prog w A (Fl prog w A env R) t1 ifs1 it env (R (.ok .next)) (fun b s3 => if b = true then
      wpAny (model prog w) A (eval kx env) (fun a s4 => wpAny (model prog w) A (eval vx env) (fun c s5 => wpAny (model prog w) A (dictSet p a c) (fun _ s6 => ∃ m, m < n ∧ St m s6) (Fl prog w A env R) s5) (Fl prog w A env R) s4) (Fl prog w A env R) s3
      else ∃ m, m < n ∧ St m s3) s) (n : Nat) (h : St n s) : codeAny (model prog w) A (.compLoop (two kx vx t0 i0 t1 i1 ifs0 ifs1 scope pos) 1 it (.ref p) env) R s := by
  refine codeAny_loop rfl St (fun n s hS => ?_) n h
  show wpAny _ A ((compTurn (two kx vx t0 i0 t1 i1 ifs0 ifs1 scope pos) 1 it (.ref p) env).onRaise (fun x => do noteFrame x env; theTreesLotGoes x)) _ _ s
  refine wpAny_noted ?_
  rw [two_in]
  refine wpAny_bind (wpAny_standAt (wpAny_bind (wpAny_mono (turn n s hS) (fun r s1 q => ?_) fun _ _ z => z)))
  cases r with
  | none => exact wpAny_pure q
  | some v =>
    refine wpAny_bind (wpAny_mono q (fun _ s2 q => wpAny_bind (wpAny_mono q (fun _ s3 q => wpAny_bind (wpAny_mono q (fun b s4 q => ?_) fun _ _ z => z)) fun _ _ z => z)) fun _ _ z => z)
    cases b with
    | false => exact wpAny_pure ⟨rfl, q⟩
    | true => exact wpAny_bind (wpAny_bind (wpAny_mono q (fun a s5 q => wpAny_bind (wpAny_holding (wpAny_mono q (fun c s6 q => wpAny_bind (wpAny_standAt (wpAny_holding (wpAny_mono q (fun _ s7 q => wpAny_pure ⟨rfl, q⟩) fun _ _ z => z)))) fun _ _ z => z))) fun _ _ z => z))
end
end Dl
end
/-! ## DLT -/
section
set_option maxRecDepth 100000
namespace Dl
open PySem PySem.Spec PyProof.Rows L2 Mx
section
variable {prog : Program} {w : World} {A : Around} {R : Result → Shared → Prop} {s : Shared} {kx vx t0 i0 t1 i1 : Expr} {ifs0 ifs1 : List Expr} {scope : Scope} {pos : Pos} {it acc : Value} {p : Addr} {env : Env}
abbrev Ends2 (St : Nat → Shared → Prop) (n : Nat) : Result → Shared → Prop := fun r s' => match r with | .ok _ => ∃ m, m < n ∧ St m s' | .error _ => False
theorem loop_out (hs : ∀ x, foldedSetIterable i1 env x = pure x) (St : Nat → Shared → Prop) (turn : ∀ n s, St n s → Drawn prog w A (Fl prog w A env R) t0 ifs0 it env (R (.ok .next)) (fun b s3 => if b = true then
      wpAny (model prog w) A (eval i1 env) (fun x s4 => wpAny (model prog w) A (pyIter x) (fun y s5 => codeAny (model prog w) A (.compStart (two kx vx t0 i0 t1 i1 ifs0 ifs1 scope pos) 1 y acc env) (Ends2 St n) s5) (Fl prog w A env R) s4) (Fl prog w A env R) s3
      else ∃ m, m < n ∧ St m s3) s) (n : Nat) (h : St n s) : codeAny (model prog w) A (.compLoop (two kx vx t0 i0 t1 i1 ifs0 ifs1 scope pos) 0 it acc env) R s := by
  refine codeAny_loop rfl St (fun n s hS => ?_) n h
  show wpAny _ A ((compTurn (two kx vx t0 i0 t1 i1 ifs0 ifs1 scope pos) 0 it acc env).onRaise (fun x => do noteFrame x env; theTreesLotGoes x)) _ _ s
  refine wpAny_noted ?_
  rw [two_out]
  refine wpAny_bind (wpAny_standAt (wpAny_bind (wpAny_mono (turn n s hS) (fun r s1 q => ?_) fun _ _ z => z)))
  cases r with
  | none => exact wpAny_pure q
  | some v =>
    refine wpAny_bind (wpAny_mono q (fun _ s2 q => wpAny_bind (wpAny_mono q (fun _ s3 q => wpAny_bind (wpAny_mono q (fun b s4 q => ?_) fun _ _ z => z)) fun _ _ z => z)) fun _ _ z => z)
    cases b with
    | false => exact wpAny_pure ⟨rfl, q⟩
    | true =>
      refine wpAny_bind (wpAny_mono q (fun x s5 q => wpAny_bind (wpAny_standAt (wpAny_bind (wpAny_of_eq (hs x) (wpAny_bind (wpAny_holding (wpAny_mono q (fun y s6 q => ?_) fun _ _ z => z))))))) fun _ _ z => z)
      refine wpAny_bind (wpAny_runOwn ?_)
      rw [Around.mark_none]
      refine codeAny_mono q fun r s7 q => ?_
      cases r with
      | ok f => first | exact wpAny_pure ⟨rfl, q⟩ | exact wpAny_bind (wpAny_pure (wpAny_pure ⟨rfl, q⟩))
      | error e => exact q.elim
theorem start_in (h0 : codeAny (model prog w) A (.compLoop (two kx vx t0 i0 t1 i1 ifs0 ifs1 scope pos) 1 it acc env) R s)
    (h : wpAny (model prog w) A (pyIter it) (fun y s' => codeAny (model prog w) A (.compLoop (two kx vx t0 i0 t1 i1 ifs0 ifs1 scope pos) 1 y acc env) R s') (Fl prog w A env R) s) :
    codeAny (model prog w) A (.compStart (two kx vx t0 i0 t1 i1 ifs0 ifs1 scope pos) 1 it acc env) R s := by
  refine codeAny_of_tree ?_
  show wpAny _ _ ((compStart (two kx vx t0 i0 t1 i1 ifs0 ifs1 scope pos) 1 it acc env).onRaise (fun x => do noteFrame x env; standAt theWindowsPlace)) _ _ s
  refine wpAny_notedAt ?_
  unfold compStart
  show wpAny _ _ (ask >>= _) _ _ s
  refine wpAny_bind (wpAny_askSetting (wpAny_ite ?_))
  split
  · first | exact wpAny_bind (wpAny_pure (wpAny_pure ⟨rfl, h0⟩)) | exact wpAny_pure ⟨rfl, h0⟩
  · refine wpAny_bind (wpAny_rule ?_)
    first
      | exact wpAny_bind (wpAny_standAt (wpAny_bind (wpAny_mono h (fun y s' q => wpAny_pure ⟨rfl, q⟩) fun _ _ z => z)))
      | (show wpAny _ _ (standAt i1.pos >>= _) _ _ s; exact wpAny_bind (wpAny_standAt (wpAny_bind (wpAny_mono h (fun y s' q => wpAny_pure ⟨rfl, q⟩) fun _ _ z => z))))
end
section
variable {X : Cx}
/-- the second clause's loop, behind a turn of the first -/
def LoopI (g1 : TG) (tt1 : TT) (tk tv : TE) (vs1 : List Nat) (p : Addr) (Nx : Hp → Prop) (τ : L2.St) (J1 : It) (W1 : Nat → Nat → Hp → Prop) : Prop :=
  ∀ j k H, W1 j k H → (J1.stop j H ∧ Nx H) ∨ (J1.go j H ∧ ∃ Nx1 : Hp → Prop, (∀ H', Nx1 H' → ∃ k', k' < k ∧ W1 (j + 1) k' H') ∧ ∀ x H', J1.yld j H x H' → g1 x (wipe τ vs1) H' fun ρ H2 => wipe ρ vs1 = wipe τ vs1 ∧ tt1 ρ H2 fun b H3 => wrT tk tv p b Nx1 ρ H3)
def inT (wi1 : TI) (g1 : TG) (tt1 : TT) (tk tv : TE) (vs1 : List Nat) (p : Addr) (b : Bool) (Nx : Hp → Prop) (τ : L2.St) (H : Hp) : Prop :=
  if b = true then wi1 τ H fun J1 H4 => ∃ W1 : Nat → Nat → Hp → Prop, (∃ m, W1 0 m H4) ∧ LoopI g1 tt1 tk tv vs1 p Nx τ J1 W1 else Nx H
def tDcT2 (wi : TI) (g : TG) (tt : TT) (wi1 : TI) (g1 : TG) (tt1 : TT) (tk tv : TE) (vs vs1 : List Nat) : TE := fun σ H Q => wi σ H fun J H1 => ∀ p, H1 p = none → ∃ W : Nat → Nat → Hp → Prop, (∃ m, W 0 m (upd H1 p (.dT []))) ∧ LoopT g tt (inT wi1 g1 tt1 tk tv vs1) vs σ Q J p W
theorem pe_dcT2 {kx vx tg iter tg1 iter1 : Expr} {ifs ifs1 : List Expr} {scope : Scope} {own : List (Str × Nat)} {vs1 : List Nat} {pos : Pos} {wi wi1 : TI} {g g1 : TG} {tt tt1 : TT} {tk tv : TE} (hc : X.calm = true) (hu : X.A.units < cLine) (hN : X.N.Nodup) (hi : PI X tg iter wi) (ok : BlkOk X.N X.env.scope scope own) (hvs : ∀ i ∈ vs1, i ∈ own.map (·.2))
    (hg : ∀ (s : Shared) (H : Hp) (C : Addr) (cl : List (Str × Addr)) (fp : List Addr), PG (X.blk s H scope (compEnvC scope cl C X.env) fp) tg g)
    (ht : ∀ (s : Shared) (H : Hp) (C : Addr) (cl : List (Str × Addr)) (fp : List Addr), PTs (X.blk s H scope (compEnvC scope cl C X.env) fp) ifs tt)
    (hi1 : ∀ (s : Shared) (H : Hp) (C : Addr) (cl : List (Str × Addr)) (fp : List Addr), PI (X.blk s H scope (compEnvC scope cl C X.env) fp) tg1 iter1 wi1)
    (hg1 : ∀ (s : Shared) (H : Hp) (C : Addr) (cl : List (Str × Addr)) (fp : List Addr), PG (X.blk s H scope (compEnvC scope cl C X.env) fp) tg1 g1)
    (ht1 : ∀ (s : Shared) (H : Hp) (C : Addr) (cl : List (Str × Addr)) (fp : List Addr), PTs (X.blk s H scope (compEnvC scope cl C X.env) fp) ifs1 tt1)
    (hk : ∀ (s : Shared) (H : Hp) (C : Addr) (cl : List (Str × Addr)) (fp : List Addr), PE (X.blk s H scope (compEnvC scope cl C X.env) fp) kx tk)
    (hv : ∀ (s : Shared) (H : Hp) (C : Addr) (cl : List (Str × Addr)) (fp : List Addr), PE (X.blk s H scope (compEnvC scope cl C X.env) fp) vx tv) (hs : ∀ x, foldedSetIterable iter X.env x = pure x := by intro _; rfl) (hs1 : ∀ env x, foldedSetIterable iter1 env x = pure x := by intro _ _; rfl) :
    PE X (.DictComp kx vx [⟨tg, iter, ifs, 0⟩, ⟨tg1, iter1, ifs1, 0⟩] scope pos) (tDcT2 wi g tt wi1 g1 tt1 tk tv (own.map (·.2)) vs1) := by
  refine ⟨fun pins s σ H Q I h => ?_⟩
  rw [arm_eval_DictComp]
  refine dict_block (Q := Q) hN I hi ok hs h (fun s3 H3 C cl fp it p tn J W R T ls fin m s' st => ?_) fun p C s' m H' I' q hn f => ⟨m, hn, fun h'' sb => ?_⟩
  · have stat : ∀ {τ : L2.St} {H : Hp} {s : Shared}, Inv (X.blk s3 H3 scope (compEnvC scope cl C X.env) fp) [] τ H s → (∀ b ∈ fp, H b = none) → ∀ b ∈ fp, FpOk (X.blk s3 H3 scope (compEnvC scope cl C X.env) fp) [] H b := fun {τ H s} I n b hb =>
      ⟨n b hb, (I.ok.exf b hb).1, I.ok.exfs b hb, .inl hb, fun x c e => (I.ok.exf b hb).2 x c e, fun q hq => absurd (show q ∈ ([] : List (Addr × Obj)) ++ [] from hq) (by simp)⟩
    refine loop_out (hs1 _) (fun n s' => Sits (X.blk s3 H3 scope (compEnvC scope cl C X.env) fp) [] (wipe σ (own.map (·.2))) fp tn W n s') (fun n s5 h5 => ?_) m st
    refine clause (B := X.blk s3 H3 scope (compEnvC scope cl C X.env) fp) hc (fun _ _ z => z) T (hg s3 H3 C cl fp) (ht s3 H3 C cl fp) stat ls (fun s6 H6 I6 d => fin s6 H6 I6 d) (fun b s6 τ H6 Nx ps I6 hw hb goes => ?_) h5
    cases b with
    | false =>
      rw [if_neg Bool.false_ne_true]
      exact goes τ s6 H6 I6 (.wiped hw) hb
    | true =>
      rw [if_pos rfl]
      refine thnF ((hi1 s3 H3 C cl fp).run _ s6 τ H6 _ I6 hb) fun xv s7 hx => thnF hx fun itv s8 h8 => ?_
      obtain ⟨it1, fp1, tn1, J1, H8, e1, I8, T1, st8, f8, W1, ⟨m1, w1⟩, ls1⟩ := h8
      subst e1
      have stat1 : ∀ {ρ : L2.St} {H : Hp} {s : Shared}, Inv (X.blk s3 H3 scope (compEnvC scope cl C X.env) fp) ([] ++ ps) ρ H s → (∀ b ∈ fp1, H b = none) → ∀ b ∈ fp1, FpOk (X.blk s3 H3 scope (compEnvC scope cl C X.env) fp) ([] ++ ps) H b := fun {ρ H s} I n b hb => ⟨n b hb, (f8 b hb).2⟩
      have run : codeAny (model X.prog X.w) X.A (.compLoop (two kx vx tg iter tg1 iter1 ifs ifs1 scope pos) 1 (.ref it1) (.ref p) (compEnvC scope cl C X.env)) (Ends2 (fun n s' => Sits (X.blk s3 H3 scope (compEnvC scope cl C X.env) fp) [] (wipe σ (own.map (·.2))) fp tn W n s') n) s8 := by
        refine loop_in (fun k s' => Sits (X.blk s3 H3 scope (compEnvC scope cl C X.env) fp) ([] ++ ps) (wipe τ vs1) fp1 tn1 W1 k s') (fun k s9 h9 => ?_) m1 ⟨0, H8, I8.weak (wipe_length _ _) (fun j v e => (wipe_some e).1), st8, fun b hb => (f8 b hb).1, w1⟩
        refine clause (B := X.blk s3 H3 scope (compEnvC scope cl C X.env) fp) hc (fun _ _ z => z) T1 (hg1 s3 H3 C cl fp) (ht1 s3 H3 C cl fp) stat1 ls1 (fun s10 H10 I10 d => goes _ s10 H10 I10 (.more hw hvs) d) (fun b1 s11 ρ H11 Nx1 ps1 I11 hw1 hb1 goes1 => ?_) h9
        cases b1 with
        | false =>
          rw [if_neg Bool.false_ne_true]
          exact goes1 ρ s11 H11 I11 (.wiped hw1) hb1
        | true =>
          rw [if_pos rfl]
          refine thnF ((hk s3 H3 C cl fp).run _ s11 ρ H11 _ I11 hb1) fun z1 s12 ⟨y, H12, I12, r12, q12⟩ => thnF ((hv s3 H3 C cl fp).run _ s12 ρ H12 _ I12 q12) fun z2 s13 ⟨z, H13, I13, r13, kvs, k, a, e, ha, hp, hz, nx⟩ => ?_
          subst e
          cases r12
          exact put_pair (X := X.blk s3 H3 scope (compEnvC scope cl C X.env) fp) hu I13 hp ha hz r13 fun s14 I14 => goes1 ρ s14 _ I14 (.wiped hw1) nx
      exact start_in run (T1.self X.A 0 _ _ _ st8 run)
  · obtain ⟨f0, f1, f2, f3, f4, f5⟩ := f
    exact ⟨.ref p, H', I'.turned (t' := s'.toks) (fun b o hb e => (sb.2 b hb).trans e) f0 f1 f3 f4 f5, rfl, q⟩
end
/-! ### by data, the new dict a mutable one -/
section
variable {K : PySem.W.Frag} {T : Tb} {X : List Addr} {M M1 M2 : MS} {H H1 H2 : Hp} {G : Sl} {R : D → MS → Prop} {RA : List D → MS → Prop}
theorem imm_out {L : Addr} {y : MD} : imm X (addM M L y) H = imm (L :: X) M H := by
  funext b
  unfold imm
  have e : (b ∈ X ∨ b ∈ (addM M L y).m.map (·.1)) ↔ (b ∈ L :: X ∨ b ∈ M.m.map (·.1)) := by
    constructor
    · rintro (h | h)
      · exact .inl (List.mem_cons_of_mem _ h)
      · rcases List.mem_cons.mp (show b ∈ L :: M.m.map (·.1) from h) with h | h
        · exact .inl (by rw [h]; exact List.mem_cons_self)
        · exact .inr h
    · rintro (h | h)
      · rcases List.mem_cons.mp h with h | h
        · exact .inr (by rw [h]; exact List.mem_cons_self)
        · exact .inl h
      · exact .inr (List.mem_cons_of_mem _ h)
  by_cases h : b ∈ L :: X ∨ b ∈ M.m.map (·.1)
  · rw [if_pos h, if_pos (e.mpr h)]
  · rw [if_neg h, if_neg (fun z => h (e.mp z))]
theorem Mid.outM {L : Addr} {o : HO} {y : MD} (m : Mid K T X L M H M1 H1) (hL : H1 L = some o) (pl : plainHO o = true) (new : MdOk K (imm (L :: X) M1 H1) (some o) y) : To K T X M H (addM M1 L y) H1 ∧ L ∉ domM M1 := by
  have nL : L ∉ domM M1 := fun z => m.ok.ax L z List.mem_cons_self
  refine ⟨⟨⟨List.nodup_cons.mpr ⟨nL, m.ok.nd⟩, fun a ha => ?_, fun a ha => m.ok.hd a (List.mem_cons_of_mem _ ha), fun q hq => ?_, m.ok.lk, m.ok.lt, m.ok.lz, m.ok.tb⟩, ⟨by rw [imm_out]; exact m.ex, m.fx, m.lk, m.lf⟩⟩, nL⟩
  · rcases List.mem_cons.mp (show a ∈ L :: M1.m.map (·.1) from ha) with z | z
    · rw [z]; exact m.nx
    · exact fun h => m.ok.ax a z (List.mem_cons_of_mem _ h)
  · rw [imm_out]
    rcases List.mem_cons.mp (show q ∈ (L, y) :: M1.m from hq) with z | z
    · rw [z]
      show MdOk K _ (norm (H1 L)) y
      rw [hL, norm_plain pl]
      exact new
    · exact m.ok.md q z
/-- the state in the midst of filling the dict L: nothing else has changed -/
structure Fill (K : PySem.W.Frag) (T : Tb) (X : List Addr) (L : Addr) (M : MS) (H : Hp) (ks : List (List Key)) (acc : List D) (H' : Hp) : Prop where
  mid : Mid K T X L M H M H'
  hka : ks.length = acc.length
  here : ∃ us, H' L = some (.dT (ks.zip us)) ∧ AtL K (imm (L :: X) M H') acc us
theorem Fill.start {L : Addr} (ok : Ok K T X M H) (hL : H L = none) : Fill K T X L M H [] [] (upd H L (.dT [])) := ⟨Mid.start ok hL rfl rfl, rfl, [], upd_same, atL_nil⟩
theorem Fill.to {L : Addr} {ks : List (List Key)} {acc : List D} (f : Fill K T X L M H ks acc H1) (t : To K T (L :: X) M H1 M H2) : Fill K T X L M H ks acc H2 := by
  obtain ⟨m, h, us, e, al⟩ := f
  exact ⟨m.to t, h, us, (t.ev.fx L List.mem_cons_self).trans e, al.to t⟩
theorem Fill.put {L : Addr} {ks : List (List Key)} {acc : List D} {k : List Key} {y v : V} {dv : D} (f : Fill K T X L M H ks acc H1) (ak : At K (imm (L :: X) M H1) (.tp (k.map keyD)) y) (av : At K (imm (L :: X) M H1) dv v) (hn : k ∉ ks) (hz : ks.length ≤ 1000) {Nx : Hp → Prop}
    (q : ∀ H2, Fill K T X L M H (ks ++ [k]) (acc ++ [dv]) H2 → imm (L :: X) M H2 = imm (L :: X) M H1 → Nx H2) : ∃ kvs k a, y = .ref a ∧ H1 a = some (.tup (k.map kV)) ∧ H1 L = some (.dT kvs) ∧ kvs.length < sizeLine ∧ Nx (upd H1 L (.dT (putK kvs k v))) := by
  obtain ⟨m, h, us, e, al⟩ := f
  unfold At at ak
  obtain ⟨b, ws, rfl, hb, bl⟩ := ak
  rw [keys_at bl] at hb
  have hlu : ks.length = us.length := by rw [al.len]; exact h
  obtain ⟨m2, e2⟩ := m.poke (o := .dT (putK (ks.zip us) k v)) e rfl rfl rfl
  refine ⟨_, k, b, rfl, imm_at hb (fun _ z => nomatch z) (fun _ z => nomatch z), e, by rw [List.length_zip]; exact Nat.lt_of_le_of_lt (Nat.min_le_left _ _) (small1000 hz), q _ ⟨m2, by simp [h], us ++ [v], ?_, ?_⟩ e2⟩
  · rw [upd_same, putK_new hlu hn]
  · rw [e2]
    exact al.append (atL_cons av atL_nil)
theorem Fill.done {L : Addr} {ks : List (List Key)} {acc : List D} (f : Fill K T X L M H ks acc H1) : To K T X M H (addM M L (.dT ks acc)) H1 ∧ L ∉ domM M := by
  obtain ⟨m, h, us, e, al⟩ := f
  exact m.outM e rfl ⟨us, rfl, h, al⟩
/-- {k: v for target in ..} -/
theorem we_dcT {wi : TI} {g : TG} {tk tv : TE} {vs : List Nat} (h : WI K T wi G M fun ds M1 => ds.length ≤ 1000 ∧ ∃ P : Nat → List (List Key) → List D → Prop, P 0 [] [] ∧
      (∀ (i : Nat) (ks : List (List Key)) (acc : List D) (d : D), ds[i]? = some d → P i ks acc → WGv K T vs g d (wipeD G vs) M1 fun G2 M2 => M2 = M1 ∧ WE K T tk G2 M1 fun e M3 => M3 = M1 ∧ WE K T tv G2 M1 fun y M4 => M4 = M1 ∧ ∃ k, e = .tp (k.map keyD) ∧ k ∉ ks ∧ ks.length ≤ 1000 ∧ P (i + 1) (ks ++ [k]) (acc ++ [y])) ∧
      ∀ p ks acc, p ∉ domM M1 → P ds.length ks acc → R (.ptr p) (addM M1 p (.dT ks acc))) : WE K T (tDcT wi g tYes tk tv vs) G M R := fun X σ H Q ok sl k =>
  h X σ H _ ok sl fun J H1 M1 ds h1 t1 it => by
    obtain ⟨hz, P, p0, turn, done⟩ := h1
    intro L hL
    refine ⟨fun i m H' => m = ds.length - i ∧ i ≤ ds.length ∧ ∃ ks acc, P i ks acc ∧ Fill K T X L M1 H1 ks acc H', ⟨ds.length, by omega, Nat.zero_le _, [], [], p0, .start t1.ok hL⟩, ?_⟩
    rintro i m H' ⟨rfl, hi, ks, acc, p, f⟩
    have J1 := it (L :: X) M1 H' f.mid.ok f.mid.ex f.mid.lf i
    by_cases hlt : i < ds.length
    · obtain ⟨go, yl⟩ := J1.1 ds[i] (List.getElem?_eq_getElem hlt)
      refine .inr ⟨go, fun H2 => ∃ ks acc, P (i + 1) ks acc ∧ Fill K T X L M1 H1 ks acc H2, fun H2 q => ⟨ds.length - (i + 1), by omega, rfl, hlt, q⟩, fun x H2 hy => ?_⟩
      obtain ⟨t2, a2⟩ := yl x H2 hy
      have sl2 : Slots K (imm (L :: X) M1 H2) (wipe σ vs) (wipeD G vs) := (((sl.to t1).mono f.mid.ex).to t2).wipe vs
      refine turn i ks acc ds[i] (List.getElem?_eq_getElem hlt) p (L :: X) x _ H2 _ t2.ok sl2 a2 fun σ3 H3 G3 M3 w3 q3 t3 s3 => ⟨w3.trans (wipe_idem σ vs), ?_⟩
      obtain ⟨rfl, q3⟩ := q3
      unfold tYes wrT
      dsimp only
      rw [if_pos rfl]
      refine q3 (L :: X) σ3 H3 _ t3.ok s3 fun y H5 M5 dy q5 t5 a5 => ?_
      obtain ⟨rfl, q5⟩ := q5
      refine q5 (L :: X) σ3 H5 _ t5.ok (s3.to t5) fun z H6 M6 dz q6 t6 a6 => ?_
      obtain ⟨rfl, key, rfl, hn, hk, q6⟩ := q6
      exact ((((f.to t2).to t3).to t5).to t6).put (Nx := fun H2 => ∃ ks acc, P (i + 1) ks acc ∧ Fill K T X L M6 H1 ks acc H2) (a5.to t6) a6 hn hk fun H7 f7 _ => ⟨_, _, q6, f7⟩
    · have e : i = ds.length := by omega
      subst e
      obtain ⟨t2, n⟩ := f.done
      exact .inl ⟨J1.2 (Nat.le_refl _), k _ H' _ _ (done L ks acc n p) (t1.trans t2) (by unfold At; rfl)⟩
/-- .. of two clauses, names alone -/
theorem we_dcT2 {wi wi1 : TI} {i1 i2 : Nat} {tk tv : TE} {vs : List Nat} (hv1 : i1 ∈ vs) (h : WI K T wi G M fun ds M1 => ∃ P : Nat → Nat → List (List Key) → List D → Prop, P 0 0 [] [] ∧
      (∀ (r : Nat) (d : D), ds[r]? = some d → WI K T wi1 ((wipeD G vs).set i1 (some d)) M1 fun es M2 => M2 = M1 ∧ (∀ ks acc, P r es.length ks acc → P (r + 1) 0 ks acc) ∧
        ∀ (c : Nat) (e : D) (ks : List (List Key)) (acc : List D), es[c]? = some e → P r c ks acc → WE K T tk ((wipeD ((wipeD G vs).set i1 (some d)) [i2]).set i2 (some e)) M1 fun kd M3 => M3 = M1 ∧ WE K T tv ((wipeD ((wipeD G vs).set i1 (some d)) [i2]).set i2 (some e)) M1 fun y M4 => M4 = M1 ∧ ∃ k, kd = .tp (k.map keyD) ∧ k ∉ ks ∧ ks.length ≤ 1000 ∧ P r (c + 1) (ks ++ [k]) (acc ++ [y])) ∧
      ∀ p ks acc, p ∉ domM M1 → P ds.length 0 ks acc → R (.ptr p) (addM M1 p (.dT ks acc))) : WE K T (tDcT2 wi (gName i1) tYes wi1 (gName i2) tYes tk tv vs [i2]) G M R := fun X σ H Q ok sl k =>
  h X σ H _ ok sl fun J H1 M1 ds h1 t1 it => by
    obtain ⟨P, p0, turn, done⟩ := h1
    intro L hL
    refine ⟨fun i m H' => m = ds.length - i ∧ i ≤ ds.length ∧ ∃ ks acc, P i 0 ks acc ∧ Fill K T X L M1 H1 ks acc H', ⟨ds.length, by omega, Nat.zero_le _, [], [], p0, .start t1.ok hL⟩, ?_⟩
    rintro i m H' ⟨rfl, hi, ks, acc, p, f⟩
    have f0 := f
    have J1 := it (L :: X) M1 H' f.mid.ok f.mid.ex f.mid.lf i
    by_cases hlt : i < ds.length
    · obtain ⟨go, yl⟩ := J1.1 ds[i] (List.getElem?_eq_getElem hlt)
      refine .inr ⟨go, fun H2 => ∃ ks acc, P (i + 1) 0 ks acc ∧ Fill K T X L M1 H1 ks acc H2, fun H2 q => ⟨ds.length - (i + 1), by omega, rfl, hlt, q⟩, fun x H2 hy => ?_⟩
      obtain ⟨t2, a2⟩ := yl x H2 hy
      have sl2 : Slots K (imm (L :: X) M1 H2) ((wipe σ vs).set i1 (some x)) ((wipeD G vs).set i1 (some ds[i])) := ((((sl.to t1).mono f.mid.ex).to t2).wipe vs).set i1 a2
      refine ⟨(wipe_set hv1).trans (wipe_idem σ vs), ?_⟩
      unfold tYes inT
      dsimp only
      rw [if_pos rfl]
      refine turn i ds[i] (List.getElem?_eq_getElem hlt) (L :: X) _ H2 _ t2.ok sl2 fun J2 H3 M3 es h3 t3 it3 => ?_
      obtain ⟨rfl, row, h3⟩ := h3
      refine ⟨fun c m H' => m = es.length - c ∧ c ≤ es.length ∧ ∃ ks acc, P i c ks acc ∧ Fill K T X L M3 H1 ks acc H' ∧ Ex (imm (L :: X) M3 H3) (imm (L :: X) M3 H') ∧ (∀ b ∈ M3.lk, H' b = H3 b), ⟨es.length, by omega, Nat.zero_le _, ks, acc, p, (f.to t2).to t3, Ex.refl _, fun _ _ => rfl⟩, ?_⟩
      rintro c m H' ⟨rfl, hc, ks, acc, p, f, ex, lf⟩
      have J3 := it3 (L :: X) M3 H' f.mid.ok ex lf c
      by_cases hlc : c < es.length
      · obtain ⟨go, yl⟩ := J3.1 es[c] (List.getElem?_eq_getElem hlc)
        refine .inr ⟨go, fun H2 => ∃ ks acc, P i (c + 1) ks acc ∧ Fill K T X L M3 H1 ks acc H2 ∧ Ex (imm (L :: X) M3 H3) (imm (L :: X) M3 H2) ∧ (∀ b ∈ M3.lk, H2 b = H3 b), fun H2 q => ⟨es.length - (c + 1), by omega, rfl, hlc, q⟩, fun x' H4 hy => ?_⟩
        obtain ⟨t4, a4⟩ := yl x' H4 hy
        have sl4 := (((((sl2.to t3).mono ex).to t4).wipe [i2]).set i2 a4)
        refine ⟨(wipe_set (by simp)).trans (wipe_idem _ [i2]), ?_⟩
        unfold wrT
        dsimp only
        rw [if_pos rfl]
        refine h3 c es[c] ks acc (List.getElem?_eq_getElem hlc) p (L :: X) _ H4 _ t4.ok sl4 fun y H5 M5 dy q5 t5 a5 => ?_
        obtain ⟨rfl, q5⟩ := q5
        refine q5 (L :: X) _ H5 _ t5.ok (sl4.to t5) fun z H6 M6 dz q6 t6 a6 => ?_
        obtain ⟨rfl, key, rfl, hn, hk, q6⟩ := q6
        refine (((f.to t4).to t5).to t6).put (Nx := fun H2 => ∃ ks acc, P i (c + 1) ks acc ∧ Fill K T X L M6 H1 ks acc H2 ∧ Ex (imm (L :: X) M6 H3) (imm (L :: X) M6 H2) ∧ ∀ b ∈ M6.lk, H2 b = H3 b) (a5.to t6) a6 hn hk fun H7 f7 e7 => ⟨_, _, q6, f7, ?_, fun b hb => (f7.mid.lf b hb).trans (((f0.to t2).to t3).mid.lf b hb).symm⟩
        rw [e7]
        exact ((ex.trans t4.ev.ex).trans t5.ev.ex).trans t6.ev.ex
      · have e : c = es.length := by omega
        subst e
        exact .inl ⟨J3.2 (Nat.le_refl _), _, _, row _ _ p, f⟩
    · have e : i = ds.length := by omega
      subst e
      obtain ⟨t2, n⟩ := f.done
      exact .inl ⟨J1.2 (Nat.le_refl _), k _ H' _ _ (done L ks acc n p) (t1.trans t2) (by unfold At; rfl)⟩
end
end Dl
end
/-! ## DL0 -/
section
set_option maxRecDepth 100000
namespace Dl
open PySem
section
variable {prog : Program} {w : World} {κ : Type} [DecidableEq κ] {knd : KeyKind prog w κ} {A : Around} {E : Value → Shared → Prop} {s : Shared}
theorem dput_pairs {d : Addr} {kvs : List (κ × Value)} {k : κ} {y v : Value} {Q : Unit → Shared → Prop} (hy : knd.is k y = true) (hm : s.heap.DictOf knd d kvs) (hz : kvs.length ≤ sizeLine)
    (q : ∀ h', h'.DictOf knd d (stored kvs k v) → Heap.SameBut d s.heap h' → Q () { s with heap := h' }) : wpAny (model prog w) A (dictPut d (knd.hash k) y v) Q E s := by
  obtain ⟨o, es, ep, ho, hc, hd, hk, hp, hn⟩ := hm
  have z1 : es.size ≤ sizeLine := by
    have := hp.length
    rw [Array.length_toList] at this
    omega
  unfold dictPut
  refine wpAny_bind (wpAny_dictFind_of hy ho hd hk ?_)
  have same : (es.findIdx? fun e => knd.is k e.key) = kvs.findIdx? fun kv => decide (kv.1 = k) := by
    rw [← hp.findIdx k]
    obtain ⟨l⟩ := es
    simp
  cases hi : es.findIdx? fun e => knd.is k e.key with
  | some i =>
    refine wpAny_updateDict ho hd (q _ ⟨_, _, ep, Heap.get?_update_self _ ho (Obj.isFreed_of_dict (Obj.data_mapDict hd _)), hc.mapDict _, Obj.data_mapDict hd _, hk.modify _ _, ?_, ?_⟩ (Heap.SameBut.update ..))
    · rw [stored, if_pos (any_of_findIdx_some (same ▸ hi))]
      have e1 : (es.toList.findIdx? fun e => knd.is k e.key) = some i := by
        rw [← hi]
        obtain ⟨l⟩ := es
        simp
      have e2 := hp.modify hn e1 v
      obtain ⟨l⟩ := es
      simpa using e2
    · rw [stored, if_pos (any_of_findIdx_some (same ▸ hi)), keys_map_store]
      exact hn
  | none =>
    have out : k ∉ kvs.map (·.1) := not_mem_of_findIdx_none (same ▸ hi)
    have no : ¬ (kvs.any fun kv => decide (kv.1 = k)) = true := fun z => by
      obtain ⟨kv, h1, h2⟩ := List.any_eq_true.mp z
      exact out (List.mem_map.mpr ⟨kv, h1, of_decide_eq_true h2⟩)
    refine wpAny_updateDictKeys (hz := z1) ho hd (q _ ⟨_, _, ep + 1, Heap.get?_update_self _ ho (Obj.isFreed_of_dict (Obj.data_mapDictKeys hd _)), hc.mapDictKeys _, Obj.data_mapDictKeys hd _, hk.push hy _, ?_, ?_⟩ (Heap.SameBut.update ..))
    · rw [stored, if_neg no]
      have e2 := hp.append hy (knd.hash k) v
      obtain ⟨l⟩ := es
      simpa using e2
    · rw [stored, if_neg no, List.map_append, List.nodup_append]
      refine ⟨hn, by simp, fun a ha b hb => ?_⟩
      rw [List.map_singleton, List.mem_singleton] at hb
      exact fun e => out (show (k, v).1 ∈ _ from hb ▸ e ▸ ha)
theorem merge_into {d a : Addr} {kvs more : List (κ × Value)} {Q : Unit → Shared → Prop} (ne : d ≠ a) (ns : (a == sysModules) = false) (hd : s.heap.DictOf knd d kvs) (ha : s.heap.DictOf knd a more) (hz : kvs.length + more.length ≤ sizeLine)
    (q : ∀ h', h'.DictOf knd d (merged kvs more) → h'.DictOf knd a more → Heap.SameBut d s.heap h' → Q () { s with heap := h' }) : wpAny (model prog w) A (mergeMapping d (.ref a) false) Q E s := by
  obtain ⟨od, ed, pd, hod, hcd, hdd, hkd, hpd, hnd⟩ := id hd
  obtain ⟨oa, ea, pa, hoa, hca, hda, hka, hpa, hna⟩ := id ha
  have la : more.length = ea.size := by rw [← hpa.length, Array.length_toList]
  have rest : wpAny (model prog w) A (do
      let l ← dictEntries a
      let epoch ← dictEpoch a
      forIn (List.range l.size) PUnit.unit fun i (_ : PUnit) => (do
        let l' ← dictEntries a
        match l'[i]? with
        | some e => do
          holding [e.key, e.val] (dictPut d e.hash e.key e.val)
          let ep' ← dictEpoch a
          if (ep' != epoch) = true then do
              (unsupported "dict.changed-during-merge" : Sem PUnit)
              pure (ForInStep.yield PUnit.unit)
            else pure (ForInStep.yield PUnit.unit)
        | _ => do
          (unsupported "dict.changed-during-merge" : Sem PUnit)
          pure (ForInStep.yield PUnit.unit) : Sem (ForInStep PUnit))
      pure ()) Q E s := by
    refine wpAny_bind (wpAny_dictEntries hoa hda ?_)
    refine wpAny_bind (wpAny_dictEpoch hoa hda ?_)
    refine wpAny_bind ?_
    refine wpAny_forIn_list _
      (fun more' _ s' => ∃ h' i, s' = { s with heap := h' } ∧ more' = (List.range ea.size).drop i ∧ i ≤ ea.size ∧ h'.DictOf knd d (merged kvs (more.take i)) ∧ h'.get? a = some oa ∧ Heap.SameBut d s.heap h')
      _ ?_ ?_ _ _ ⟨s.heap, 0, rfl, rfl, Nat.zero_le _, by simpa [merged] using hd, hoa, Heap.SameBut.refl _ _⟩
    · rintro x more' b s' ⟨h', i, rfl, hr, hi, hd', ha', hs'⟩
      have hlt : i < ea.size := by
        rcases Nat.lt_or_ge i ea.size with z | z
        · exact z
        · rw [List.drop_of_length_le (by rw [List.length_range]; exact z)] at hr
          cases hr
      rw [List.drop_eq_getElem_cons (by rw [List.length_range]; exact hlt), List.getElem_range] at hr
      obtain ⟨rfl, rfl⟩ := List.cons.inj hr
      refine wpAny_bind (wpAny_dictEntries ha' hda ?_)
      rw [Array.getElem?_eq_getElem hlt]
      have hlm : x < more.length := by rw [la]; exact hlt
      obtain ⟨kv, hkv⟩ : ∃ kv, more[x]? = some kv := ⟨more[x], List.getElem?_eq_getElem hlm⟩
      obtain ⟨k, v⟩ := kv
      obtain ⟨hkey, hval⟩ := hpa.get? (e := ea[x]) (by simp [hlt]) hkv
      obtain ⟨k', hkey', hhash⟩ := hka ea[x] (Array.getElem_mem hlt)
      obtain rfl : k' = k := knd.inj _ _ _ hkey' hkey
      show wpAny _ _ (holding [ea[x].key, ea[x].val] (dictPut d ea[x].hash ea[x].key ea[x].val) >>= _) _ _ _
      rw [hhash, hval]
      have hm : (merged kvs (more.take x)).length ≤ sizeLine := by
        have e1 := merged_length_le kvs (more.take x)
        rw [List.length_take] at e1
        omega
      refine wpAny_bind (wpAny_holding (dput_pairs hkey hd' hm fun h'' hd'' hs'' => ?_))
      have ha'' : h''.get? a = some oa := (hs''.2 a (Ne.symm ne)).trans ha'
      refine wpAny_bind (wpAny_dictEpoch ha'' hda ?_)
      rw [if_neg (by simp)]
      exact wpAny_pure ⟨h'', x + 1, rfl, rfl, hlt, by rw [merged_take_succ kvs more x (k', v) hkv]; exact hd'', ha'', hs'.trans hs''⟩
    · rintro b s' ⟨h', i, rfl, hr, hi, hd', ha', hs'⟩
      have e : i = ea.size := by
        rcases Nat.lt_or_ge i ea.size with z | z
        · rw [List.drop_eq_getElem_cons (by rw [List.length_range]; exact z)] at hr
          cases hr
        · omega
      rw [e, ← la, List.take_length] at hd'
      exact wpAny_pure (q h' hd' ⟨oa, ea, pa, ha', hca, hda, hka, hpa, hna⟩ hs')
  unfold mergeMapping
  refine wpAny_bind (m := isInstance (.ref a) (.type "dict")) (wpAny_isInstance ha.typeIs (b := true) rfl ?_)
  dsimp only
  rw [if_pos rfl]
  refine wpAny_bind (wpAny_specialOf ha.typeIs F.slot_dict_iter.lookup (wpAny_bind (wpAny_pure ?_)))
  show wpAny _ _ (if (a == sysModules) = true then _ else _) _ _ _
  rw [ns, if_neg (by simp)]
  refine wpAny_bind (wpAny_dictEntries hod hdd ?_)
  split
  · refine wpAny_bind (wpAny_dictEntries hoa hda ?_)
    have quiet : (forIn ea PUnit.unit fun e (_ : PUnit) => (match e.key with
        | Value.ref b => do
          let r ← specialOf e.key "__eq__"
          if (r != some (Value.builtin "object.__eq__")) = true then
              if (Array.filter (fun x => x.hash == e.hash) ea).size > 1 then do
                (unsupported "dict.merge-into-an-empty-dict:keys-of-equal-hash" : Sem PUnit)
                pure (ForInStep.yield PUnit.unit)
              else pure (ForInStep.yield PUnit.unit)
            else pure (ForInStep.yield PUnit.unit)
        | _ => pure (ForInStep.yield PUnit.unit) : Sem (ForInStep PUnit))) = pure PUnit.unit := by
      rw [← Array.forIn_toList]
      refine forIn_yield_id _ fun e he c => ?_
      obtain ⟨k, hkey, _⟩ := hka e (Array.mem_toList_iff.mp he)
      have := knd.byValue k _ hkey
      cases ek : e.key with
      | ref b => rw [ek] at this; cases this
      | _ => rfl
    exact wpAny_bind (wpAny_of_eq quiet rest)
  · exact rest
/-- a display's dict D takes in a dict -/
def Takes (knd : KeyKind prog w κ) (D : Addr) (x : Value) (s1 : Shared) (Nx : Shared → Prop) : Prop := ∃ a kvs more, x = .ref a ∧ D ≠ a ∧ (a == sysModules) = false ∧ s1.heap.DictOf knd D kvs ∧ s1.heap.DictOf knd a more ∧ kvs.length + more.length ≤ sizeLine ∧
  ∀ h', h'.DictOf knd D (merged kvs more) → h'.DictOf knd a more → Heap.SameBut D s1.heap h' → Nx { s1 with heap := h' }
theorem takes {D : Addr} {x : Value} {Nx : Shared → Prop} (h : Takes knd D x s Nx) : wpAny (model prog w) A (mergeMapping D x false) (fun _ s' => Nx s') E s := by
  obtain ⟨a, kvs, more, rfl, h1, h2, h3, h4, h5, h6⟩ := h
  exact merge_into h1 h2 h3 h4 h5 h6
theorem star_star {l r : Sem Value} {Q : Value → Shared → Prop}
    (h : wpAny (model prog w) A l (fun x s1 => Takes knd s.heap.objs.size x s1 fun s2 => wpAny (model prog w) A r (fun y s3 => Takes knd s.heap.objs.size y s3 fun s4 => Q (.ref s.heap.objs.size) s4) E s2) E { s with heap := s.heap.push { cls := .type "dict", data := .dict #[] } }) :
    wpAny (model prog w) A (dictDisplay [(none, l), (none, r)]) Q E s := by
  unfold dictDisplay
  dsimp only
  refine wpAny_bind ?_
  rw [List.forIn_cons]
  refine wpAny_bind (wpAny_bind (wpAny_pure ?_))
  refine wpAny_bind (wpAny_alloc ?_)
  refine wpAny_bind (wpAny_holding (wpAny_mono h (fun x s1 q => ?_) fun _ _ z => z))
  refine wpAny_bind (wpAny_onRaise (wpAny_tryCatch (wpAny_onRaise (wpAny_holding (wpAny_mono (takes q) (fun _ s2 q => ?_) fun _ _ z => z)))))
  refine wpAny_pure ?_
  dsimp only
  rw [List.forIn_cons]
  refine wpAny_bind (wpAny_bind (wpAny_pure ?_))
  refine wpAny_bind (wpAny_pure ?_)
  refine wpAny_bind (wpAny_holding (wpAny_mono q (fun y s3 q => ?_) fun _ _ z => z))
  refine wpAny_bind (wpAny_onRaise (wpAny_tryCatch (wpAny_onRaise (wpAny_holding (wpAny_mono (takes q) (fun _ s4 q => ?_) fun _ _ z => z)))))
  refine wpAny_pure ?_
  dsimp only
  rw [List.forIn_nil]
  refine wpAny_pure ?_
  exact wpAny_bind (wpAny_pure (wpAny_pure q))
theorem star_put {l k v : Sem Value} {Q : Value → Shared → Prop}
    (h : wpAny (model prog w) A l (fun x s1 => Takes knd s.heap.objs.size x s1 fun s2 => wpAny (model prog w) A (subDict [(k, v)]) (fun b s3 => Takes knd s.heap.objs.size (.ref b) s3 fun s4 => Q (.ref s.heap.objs.size) s4) E s2) E { s with heap := s.heap.push { cls := .type "dict", data := .dict #[] } }) :
    wpAny (model prog w) A (dictDisplay [(none, l), (some k, v)]) Q E s := by
  unfold dictDisplay
  dsimp only
  refine wpAny_bind ?_
  rw [List.forIn_cons]
  refine wpAny_bind (wpAny_bind (wpAny_pure ?_))
  refine wpAny_bind (wpAny_alloc ?_)
  refine wpAny_bind (wpAny_holding (wpAny_mono h (fun x s1 q => ?_) fun _ _ z => z))
  refine wpAny_bind (wpAny_onRaise (wpAny_tryCatch (wpAny_onRaise (wpAny_holding (wpAny_mono (takes q) (fun _ s2 q => ?_) fun _ _ z => z)))))
  refine wpAny_pure ?_
  dsimp only
  rw [List.forIn_cons]
  refine wpAny_bind (wpAny_pure ?_)
  dsimp only
  rw [List.forIn_nil]
  refine wpAny_pure ?_
  refine wpAny_bind (wpAny_bind (wpAny_holding (wpAny_mono q (fun b s3 q => ?_) fun _ _ z => z)))
  refine wpAny_bind (wpAny_onRaise (wpAny_holding (wpAny_mono (takes q) (fun _ s4 q => ?_) fun _ _ z => z)))
  exact wpAny_pure (wpAny_pure q)
end
end Dl
end
/-! ## DLU -/
section
set_option maxRecDepth 100000
namespace Dl
open PySem PySem.Spec PyProof.Rows L2 Mx
/-! ### displays with ** -/
def Tk (p : Addr) (x : V) (H : Hp) (Nx : Hp → Prop) : Prop := ∃ a kvs more, x = .ref a ∧ H p = some (.dK kvs) ∧ p ≠ a ∧ Rd H a (.dK more) ∧ kvs.length + more.length ≤ sizeLine ∧ Nx (upd H p (.dK (mergeK kvs more)))
def tStars (tl tr : TE) : TE := fun σ H Q => ∀ p, H p = none → tl σ (upd H p (.dK [])) fun x H1 => Tk p x H1 fun H2 => tr σ H2 fun y H3 => Tk p y H3 fun H4 => Q (.ref p) H4
def tStarPut (tl tk tv : TE) : TE := fun σ H Q => ∀ p, H p = none → tl σ (upd H p (.dK [])) fun x H1 => Tk p x H1 fun H2 => ∀ b, H2 b = none → tk σ (upd H2 b (.dK [])) fun y H3 => tv σ H3 fun z H4 => ∃ k, y = kV k ∧ H4 b = some (.dK []) ∧ Tk p (.ref b) (upd H4 b (.dK [(k, z)])) fun H5 => Q (.ref p) H5
section
variable {X : Cx} {pins : List (Addr × Obj)} {σ : L2.St} {H : Hp} {s : Shared} {p : Addr} {x : V} {u : Value} {Nx : Hp → Prop} {NX : Shared → Prop} {pos : Pos}
theorem tk_takes (I : Inv X pins σ H s) (h : Tk p x H Nx) (rx : L2.RelV x u) (q : ∀ H' s', Inv X pins σ H' s' → Nx H' → NX s') : Takes (mixKind X.prog X.w) p u s NX := by
  obtain ⟨a, kvs, more, rfl, hp, ne, ha, hz, nx⟩ := h
  obtain rfl : u = Value.ref a := rx
  obtain ⟨z1, hd, vs, rel, dd⟩ := dk_of I.hok hp
  obtain ⟨z2, hd2, ws, rel2, dd2⟩ := dk_rd I.hok ha
  refine ⟨a, vs, ws, rfl, ne, hd2, dd, dd2, by rw [← rel.length, ← rel2.length]; exact hz, fun h' d1 d2 hs => q _ _ ?_ nx⟩
  have he : ∃ q, h'.get? p = some q := let ⟨q, _, _, hq, _⟩ := d1; ⟨q, hq⟩
  exact d_write I (by rw [hp]; exact True.intro) hs he (dk_new (Nat.le_trans (length_mergeK more kvs) hz) hd (rel2.merge rel) d1)
theorem new_dict (I : Inv X pins σ H s) : H s.heap.objs.size = none ∧ Inv X pins σ (upd H s.heap.objs.size (.dK [])) { s with heap := s.heap.push { cls := .type "dict", data := .dict #[] } } :=
  ⟨I.hok.fresh (Nat.le_refl _), I.laid (a := s.heap.objs.size) (o := .dK []) (t' := s.toks) (fun _ _ q => Heap.get?_push_of_some _ q) (Nat.le_refl _) (dk_empty s.heap I.big)⟩
theorem pe_stars {e1 e2 : Expr} {t1 t2 : TE} (h1 : PE X e1 t1) (h2 : PE X e2 t2) : PE X (.Dict [none, none] [e1, e2] pos) (tStars t1 t2) := ⟨fun pins s σ H Q I h => by
  rw [arm_eval_Dict]
  refine wpAny_bind (wpAny_standAt ?_)
  show wpAny _ _ (dictDisplay [(none, do let x ← eval e1 X.env; standAt pos; pure x), (none, do let x ← eval e2 X.env; standAt pos; pure x)]) _ _ _
  obtain ⟨hn, I1⟩ := new_dict I
  refine star_star (knd := mixKind X.prog X.w) (wpAny_bind (thn (h1.run pins _ σ _ _ I1 (h _ hn)) fun u s2 ⟨x, H2, I2, rx, q⟩ => wpAny_bind (wpAny_standAt (wpAny_pure ?_))))
  refine tk_takes I2 q rx fun H3 s3 I3 q => wpAny_bind (thn (h2.run pins _ σ _ _ I3 q) fun u s4 ⟨y, H4, I4, ry, q⟩ => wpAny_bind (wpAny_standAt (wpAny_pure ?_)))
  exact tk_takes I4 q ry fun H5 s5 I5 q => ⟨.ref s.heap.objs.size, H5, I5, rfl, q⟩⟩
theorem pe_starPut {e1 k v : Expr} {t1 tk tv : TE} (h1 : PE X e1 t1) (hk : PE X k tk) (hv : PE X v tv) : PE X (.Dict [none, some k] [e1, v] pos) (tStarPut t1 tk tv) := ⟨fun pins s σ H Q I h => by
  rw [arm_eval_Dict]
  refine wpAny_bind (wpAny_standAt ?_)
  show wpAny _ _ (dictDisplay [(none, do let x ← eval e1 X.env; standAt pos; pure x), (some (eval k X.env), do let x ← eval v X.env; standAt pos; pure x)]) _ _ _
  obtain ⟨hn, I1⟩ := new_dict I
  refine star_put (knd := mixKind X.prog X.w) (wpAny_bind (thn (h1.run pins _ σ _ _ I1 (h _ hn)) fun u s2 ⟨x, H2, I2, rx, q⟩ => wpAny_bind (wpAny_standAt (wpAny_pure ?_))))
  refine tk_takes I2 q rx fun H3 s3 I3 q => ?_
  obtain ⟨hn3, I4⟩ := new_dict I3
  refine wpAny_subDict (knd := mixKind X.prog X.w) (show (1 : Nat) ≤ 15 by decide) (evalPairs_cons (thn (hk.run pins _ σ _ _ I4 (q _ hn3)) fun u s5 ⟨y, H5, I5, ry, q⟩ => wpAny_bind (thn (hv.run pins _ σ _ _ I5 q) fun r s6 ⟨z, H6, I6, rz, q⟩ => wpAny_bind (wpAny_standAt (wpAny_pure (evalPairs_nil ?_))))))
  obtain ⟨key, rfl, hb, q⟩ := q
  obtain ⟨z1, hd, vs, rel, dd⟩ := dk_of I6.hok hb
  cases rel
  refine ⟨[(key, r)], ⟨kV_is ry, rfl, True.intro⟩, dd, fun h' d1 hs => ?_⟩
  have he : ∃ q, h'.get? s3.heap.objs.size = some q := let ⟨q, _, _, hq, _⟩ := d1; ⟨q, hq⟩
  have kv : KV [(key, z)] [(key, r)] := .cons ⟨rfl, rz⟩ .nil
  have I7 := d_write (t' := s6.toks + [(u, r)].length) I6 (by rw [hb]; exact True.intro) hs he (dk_new (kvs := [(key, z)]) (by rw [sizeLine_eq]; exact (show (1 : Nat) ≤ 16777216 by decide)) hd kv d1)
  exact tk_takes I7 q rfl fun H8 s8 I8 q => ⟨.ref s.heap.objs.size, H8, I8, rfl, q⟩⟩
end
/-! ### by data -/
theorem nd_snoc {α : Type} {l : List α} {a : α} (h : l.Nodup) (n : a ∉ l) : (l ++ [a]).Nodup := by
  refine List.nodup_append.mpr ⟨h, by simp, fun x hx b hb => ?_⟩
  rw [List.mem_singleton] at hb
  rintro rfl
  exact n (hb ▸ hx)
theorem dval_cons {κ : Type} [DecidableEq κ] {ks : List κ} {ds : List D} {k k' : κ} {d : D} : dval (k :: ks) (d :: ds) k' = if k = k' then some d else dval ks ds k' := by
  unfold dval
  rw [List.zip_cons_cons, List.find?_cons]
  by_cases h : k = k'
  · rw [decide_eq_true (show (k, d).1 = k' from h), if_pos h]; rfl
  · rw [decide_eq_false (show ¬ (k, d).1 = k' from h), if_neg h]
theorem dval_set {κ : Type} [DecidableEq κ] {k' k : κ} {d : D} : ∀ {ks : List κ} {ds : List D} {i : Nat}, ks.Nodup → ks[i]? = some k → ks.length = ds.length → dval ks (ds.set i d) k' = if k = k' then some d else dval ks ds k'
  | [], _, i, _, h, _ => by simp at h
  | _ :: _, [], _, _, _, h => by cases h
  | n :: ks, e :: ds, 0, hn, h, hl => by
    have e1 : n = k := by simpa using h
    subst e1
    rw [List.set_cons_zero, dval_cons, dval_cons]
    split <;> rfl
  | n :: ks, e :: ds, i + 1, hn, h, hl => by
    have hn' := List.nodup_cons.mp hn
    have h' : ks[i]? = some k := by simpa using h
    have hne : n ≠ k := fun z => hn'.1 (z ▸ List.mem_of_getElem? h')
    rw [List.set_cons_succ, dval_cons, dval_cons, dval_set hn'.2 h' (by simpa using hl)]
    by_cases h1 : n = k'
    · rw [if_pos h1, if_pos h1, if_neg (fun z => hne (h1.trans z.symm))]
    · rw [if_neg h1, if_neg h1]
structure MgOk (ks : List Key) (acc : List D) (ls : List Key) (es : List D) (ks' : List Key) (acc' : List D) : Prop where
  nd : ks'.Nodup
  hl : ks'.length = acc'.length
  sz : ks'.length ≤ ks.length + ls.length
  val : ∀ k, dval ks' acc' k = (dval ls es k).or (dval ks acc k)
  app : (∀ k ∈ ls, k ∉ ks) → ks' = ks ++ ls ∧ acc' = acc ++ es
theorem merge_at {K : PySem.W.Frag} {I : Hp} : ∀ {ls : List Key} {es : List D} {ws : List V} {ks : List Key} {acc : List D} {us : List V}, AtL K I acc us → AtL K I es ws → ks.Nodup → ls.Nodup → ks.length = acc.length → ls.length = es.length →
    ∃ ks' acc' us', mergeK (ks.zip us) (ls.zip ws) = ks'.zip us' ∧ AtL K I acc' us' ∧ MgOk ks acc ls es ks' acc'
  | [], [], ws, ks, acc, us, a, b, nk, _, hk, _ => by
    refine ⟨ks, acc, us, rfl, a, nk, hk, by simp, fun k => ?_, fun _ => ⟨by simp, by simp⟩⟩
    unfold dval
    simp
  | [], _ :: _, _, _, _, _, _, _, _, _, _, h => by cases h
  | _ :: _, [], _, _, _, _, _, _, _, _, _, h => by cases h
  | l :: ls, e :: es, ws, ks, acc, us, a, b, nk, nl, hk, hl => by
    unfold AtL at b
    obtain ⟨w, r, rfl, b1, b2⟩ := b
    have nl' := List.nodup_cons.mp nl
    have hl' : ls.length = es.length := by simpa using hl
    have hu : ks.length = us.length := by rw [a.len]; exact hk
    rw [List.zip_cons_cons]
    show ∃ ks' acc' us', mergeK (putK (ks.zip us) l w) (ls.zip r) = _ ∧ _
    by_cases hm : l ∈ ks
    · obtain ⟨i, hi, ei⟩ := List.getElem_of_mem hm
      have ei' : ks[i]? = some l := by rw [List.getElem?_eq_getElem hi, ei]
      rw [putK_old hu nk ei']
      obtain ⟨ks', acc', us', h1, h2, h3⟩ := merge_at (AtL.set b1 i a) b2 nk nl'.2 (by rw [List.length_set]; exact hk) hl'
      refine ⟨ks', acc', us', h1, h2, h3.nd, h3.hl, by have := h3.sz; rw [List.length_cons]; omega, fun k => ?_, fun h => absurd hm (h l List.mem_cons_self)⟩
      rw [h3.val, dval_set nk ei' hk, dval_cons]
      by_cases hlk : l = k
      · subst hlk
        rw [if_pos rfl, if_pos rfl, dval_none nl'.1]
        rfl
      · rw [if_neg hlk, if_neg hlk]
    · rw [putK_new hu hm]
      obtain ⟨ks', acc', us', h1, h2, h3⟩ := merge_at (a.append (atL_cons b1 atL_nil)) b2 (nd_snoc nk hm) nl'.2 (by simp [hk]) hl'
      refine ⟨ks', acc', us', h1, h2, h3.nd, h3.hl, by have := h3.sz; rw [List.length_append, List.length_singleton] at this; rw [List.length_cons]; omega, fun k => ?_, fun h => ?_⟩
      · rw [h3.val, dval_app hk, dval_cons]
        by_cases hlk : l = k
        · subst hlk
          rw [if_pos rfl, if_pos rfl, dval_none nl'.1, dval_none hm]
          rfl
        · rw [if_neg hlk, if_neg hlk, Option.or_none]
      · obtain ⟨e1, e2⟩ := h3.app fun k hk' z => by
          rcases List.mem_append.mp z with z | z
          · exact h k (List.mem_cons_of_mem _ hk') z
          · rw [List.mem_singleton] at z
            exact nl'.1 (z ▸ hk')
        exact ⟨by rw [e1, List.append_assoc]; rfl, by rw [e2, List.append_assoc]; rfl⟩
section
variable {K : PySem.W.Frag} {T : Tb} {X : List Addr} {M M1 M2 : MS} {H H1 H2 : Hp} {G : Sl} {R : D → MS → Prop} {RA : List D → MS → Prop}
structure FillK (K : PySem.W.Frag) (T : Tb) (X : List Addr) (L : Addr) (M : MS) (H : Hp) (ks : List Key) (acc : List D) (H' : Hp) : Prop where
  mid : Mid K T X L M H M H'
  hka : ks.length = acc.length
  nd : ks.Nodup
  here : ∃ us, H' L = some (.dK (ks.zip us)) ∧ AtL K (imm (L :: X) M H') acc us
theorem FillK.start {L : Addr} (ok : Ok K T X M H) (hL : H L = none) : FillK K T X L M H [] [] (upd H L (.dK [])) := ⟨Mid.start ok hL rfl rfl, rfl, by simp, [], upd_same, atL_nil⟩
theorem FillK.to {L : Addr} {ks : List Key} {acc : List D} (f : FillK K T X L M H ks acc H1) (t : To K T (L :: X) M H1 M H2) : FillK K T X L M H ks acc H2 := by
  obtain ⟨m, h, n, us, e, al⟩ := f
  exact ⟨m.to t, h, n, us, (t.ev.fx L List.mem_cons_self).trans e, al.to t⟩
theorem dic_out {L a : Addr} {d : D} {v : V} {ks : List Key} {ds : List D} (ok : Ok K T (L :: X) M H) (h : DicD d M a ks ds) (q : At K (imm (L :: X) M H) d v) : L ≠ a := by
  rcases h with rfl | ⟨rfl, hg⟩
  · unfold At at q
    obtain ⟨vs, h1, h2, h4, h3⟩ := q
    exact fun z => (imm_of h2).1 (by rw [z]; exact List.mem_cons_self)
  · exact fun z => ok.ax a (getM_dom hg) (by rw [z]; exact List.mem_cons_self)
theorem FillK.merge {L a : Addr} {ks ls : List Key} {acc es : List D} {d : D} {x : V} (f : FillK K T X L M H ks acc H1) (hd : DicD d M a ls es) (ax : At K (imm (L :: X) M H1) d x) (nl : ls.Nodup) (hz : ks.length + ls.length ≤ 1000) {Nx : Hp → Prop}
    (q : ∀ H2 ks' acc', FillK K T X L M H ks' acc' H2 → MgOk ks acc ls es ks' acc' → Nx H2) : Tk L x H1 Nx := by
  obtain ⟨m, h, n, us, e, al⟩ := f
  have ne := dic_out m.ok hd ax
  obtain ⟨ws, rfl, hp, hl, bl⟩ := dic_at m.ok hd ax
  obtain ⟨ks', acc', us', h1, h2, h3⟩ := merge_at al bl n nl h hl
  refine ⟨a, _, _, rfl, e, ne, norm_rd (o := none) hp, ?_, ?_⟩
  · rw [List.length_zip, List.length_zip]
    exact Nat.le_trans (by omega) (Nat.le_of_lt (small1000 hz))
  obtain ⟨m2, e2⟩ := m.poke (o := .dK (mergeK (ks.zip us) (ls.zip ws))) e rfl rfl rfl
  refine q _ ks' acc' ⟨m2, h3.hl, h3.nd, us', by rw [upd_same, h1], ?_⟩ h3
  rw [e2]
  exact h2
theorem FillK.done {L : Addr} {ks : List Key} {acc : List D} (f : FillK K T X L M H ks acc H1) : To K T X M H M H1 ∧ At K (imm X M H1) (.dK L ks acc) (.ref L) := by
  obtain ⟨m, h, n, us, e, al⟩ := f
  refine ⟨m.out, ?_⟩
  unfold At
  exact ⟨us, rfl, m.see e rfl, h, al.mono imm_hide⟩
theorem we_stars {tl tr : TE} (h : WE K T tl G M fun d M1 => M1 = M ∧ ∃ a ks ds, DicD d M a ks ds ∧ ks.Nodup ∧ ks.length ≤ 100 ∧ WE K T tr G M fun e M2 => M2 = M ∧ ∃ b ls es, DicD e M b ls es ∧ ls.Nodup ∧ ls.length ≤ 100 ∧
    ∀ p ks0 ds0 ks' ds', MgOk [] [] ks ds ks0 ds0 → MgOk ks0 ds0 ls es ks' ds' → R (.dK p ks' ds') M) : WE K T (tStars tl tr) G M R := fun X σ H Q ok sl k p hp => by
  have f := FillK.start ok hp
  refine h (p :: X) σ _ _ f.mid.ok (sl.mono f.mid.ex) fun x H1 M1 d q1 t1 a1 => ?_
  obtain ⟨rfl, a, ks, ds, hd, hn, hz, q1⟩ := q1
  refine (f.to t1).merge hd a1 hn (by simp; omega) fun H2 ks0 ds0 f2 g2 => ?_
  have hz0 : ks0.length ≤ 100 := by have := g2.sz; simp at this; omega
  refine q1 (p :: X) σ H2 _ f2.mid.ok (sl.mono f2.mid.ex) fun y H3 M3 e q3 t3 a3 => ?_
  obtain ⟨rfl, b, ls, es, he, hn', hz', q3⟩ := q3
  refine (f2.to t3).merge he a3 hn' (by omega) fun H4 ks' ds' f4 g4 => ?_
  obtain ⟨t, a⟩ := f4.done
  exact k _ H4 _ _ (q3 p ks0 ds0 ks' ds' g2 g4) t a
theorem we_starPut {tl tk tv : TE} (h : WE K T tl G M fun d M1 => M1 = M ∧ ∃ a ks ds, DicD d M a ks ds ∧ ks.Nodup ∧ ks.length ≤ 100 ∧ WE K T tk G M fun e M2 => M2 = M ∧ ∃ key, e = keyD key ∧ key ∉ ks ∧ WE K T tv G M fun y M3 => M3 = M ∧
    ∀ p, R (.dK p (ks ++ [key]) (ds ++ [y])) M) : WE K T (tStarPut tl tk tv) G M R := fun X σ H Q ok sl k p hp => by
  have f := FillK.start ok hp
  refine h (p :: X) σ _ _ f.mid.ok (sl.mono f.mid.ex) fun x H1 M1 d q1 t1 a1 => ?_
  obtain ⟨rfl, a, ks, ds, hd, hn, hz, q1⟩ := q1
  refine (f.to t1).merge hd a1 hn (by simp; omega) fun H2 ks0 ds0 f2 g2 => ?_
  obtain ⟨e1, e2⟩ := g2.app fun _ _ => by simp
  rw [e1, e2, List.nil_append, List.nil_append] at f2
  intro b hb
  have m := Mid.start (o := .dK []) f2.mid.ok hb rfl rfl
  have sb := (sl.mono f2.mid.ex).mono m.ex
  refine q1 (b :: p :: X) σ _ _ m.ok sb fun y H3 M3 e q3 t3 a3 => ?_
  obtain ⟨rfl, key, rfl, hk, q3⟩ := q3
  refine q3 (b :: p :: X) σ H3 _ t3.ok (sb.to t3) fun z H4 M4 dz q4 t4 a4 => ?_
  obtain ⟨rfl, q4⟩ := q4
  have m4 := (m.to t3).to t4
  have hb4 : H4 b = some (.dK []) := by rw [t4.ev.fx b List.mem_cons_self, t3.ev.fx b List.mem_cons_self, upd_same]
  obtain ⟨m5, e5⟩ := m4.poke (o := .dK [(key, z)]) hb4 rfl rfl rfl
  refine ⟨key, key_at a3, hb4, ?_⟩
  have f5 := f2.to m5.out
  have bp : p ≠ b := fun h => m4.nx (by rw [← h]; exact List.mem_cons_self)
  obtain ⟨mp, hka, nd, us, ep, al⟩ := f5
  refine ⟨b, _, _, rfl, ep, bp, .inl upd_same, ?_, ?_⟩
  · rw [List.length_zip]
    exact Nat.le_trans (show _ ≤ 1000 from by simp; omega) (Nat.le_of_lt (small1000 (Nat.le_refl _)))
  have hlu : ks.length = us.length := by rw [al.len]; exact hka
  obtain ⟨m6, e6⟩ := mp.poke (o := .dK (mergeK (ks.zip us) [(key, z)])) ep rfl rfl rfl
  have f6 : FillK K T X p M4 H (ks ++ [key]) (ds ++ [dz]) (upd (upd H4 b (.dK [(key, z)])) p (.dK (mergeK (ks.zip us) [(key, z)]))) := by
    refine ⟨m6, by simp [hka], nd_snoc nd hk, us ++ [z], ?_, ?_⟩
    · rw [upd_same]
      show some (HO.dK (putK (ks.zip us) key z)) = _
      rw [putK_new hlu hk]
    · rw [e6]
      refine al.append (atL_cons ?_ atL_nil)
      have a5 : At K (imm (b :: p :: X) M4 (upd H4 b (.dK [(key, z)]))) dz z := by rw [e5]; exact a4
      exact a5.mono imm_hide
  obtain ⟨t, a⟩ := f6.done
  exact k _ _ _ _ (q4 p) t a
end
end Dl
end
/-! ## DLW -/
section
set_option maxRecDepth 100000
namespace Dl
open PySem PySem.Spec PyProof.Rows L2 Mx
section
variable {X : Cx}
/-- name = {k: v for ..} -/
theorem ps_setDc {i : Nat} {y : Str} {py : Pos} {kx vx tg iter : Expr} {ifs : List Expr} {scope : Scope} {own : List (Str × Nat)} {pos spos : Pos} {wi : TI} {g : TG} {tt : TT} {tk tv : TE} (hc : X.calm = true) (hN : X.N.Nodup) (hy : X.N[i]? = some y) (hyl : X.env.scope.names.lookup y = some .local)
    (hsw : swapsWith (.DictComp kx vx [⟨tg, iter, ifs, 0⟩] scope pos) (some (.Name y py)) spos.line X.env = pure true) (hi : PI X tg iter wi) (ok : BlkOk X.N X.env.scope scope own)
    (hg : ∀ (s : Shared) (H : Hp) (C : Addr) (cl : List (Str × Addr)) (fp : List Addr), PG (X.blk s H scope (compEnvC scope cl C X.env) fp) tg g)
    (ht : ∀ (s : Shared) (H : Hp) (C : Addr) (cl : List (Str × Addr)) (fp : List Addr), PTs (X.blk s H scope (compEnvC scope cl C X.env) fp) ifs tt)
    (hk : ∀ (s : Shared) (H : Hp) (C : Addr) (cl : List (Str × Addr)) (fp : List Addr), PE (X.blk s H scope (compEnvC scope cl C X.env) fp) kx tk)
    (hv : ∀ (s : Shared) (H : Hp) (C : Addr) (cl : List (Str × Addr)) (fp : List Addr), PE (X.blk s H scope (compEnvC scope cl C X.env) fp) vx tv) (hs : ∀ x, foldedSetIterable iter X.env x = pure x := by intro _; rfl) :
    PS X (.Assign [.Name y py] (.DictComp kx vx [⟨tg, iter, ifs, 0⟩] scope pos) spos) (tAsg (tDc wi g tt tk tv (own.map (·.2))) (gName i)) := by
  refine ⟨fun pins s σ H D I h => ?_⟩
  rw [exec_Assign_Name_used _ _ _ _ hsw]
  refine wpAny_bind (wpAny_standAt (wpAny_bind ?_))
  show wpAny _ X.A (do let _ ← comprehension (.DictComp kx vx [⟨tg, iter, ifs, 0⟩] scope pos) scope X.env (firstIterPos [⟨tg, iter, ifs, 0⟩] pos) newDict false (eval iter X.env) (some (assign (.Name y py) X.env))) _ _ s
  have h : tDc wi g tt tk tv (own.map (·.2)) σ H (fun x H1 => gName i x σ H1 D.nx) := h
  refine wpAny_bind (thn (dc_core (Qf := fun _ s' => SP X pins D .next s') hc hN I hi ok hg ht hk hv hs h fun L C s' m H' I' q hn f => ?_) fun _ s' hq => wpAny_pure (wpAny_pure hq))
  show wpAny _ _ (assign (.Name y py) X.env (.ref L)) _ _ _
  refine wpAny_assign_Name (store_ok2 (v := V.ref L) I' hN hy (.inl hyl) rfl (fun s2 I2 ⟨a, sb, ha⟩ => ?_) (.inr hyl))
  obtain ⟨f0, f1, f2, f3, f4, f5⟩ := f
  have away : C ≠ a := by
    rcases ha with z | z
    · rw [z]; exact f1
    · exact fun e => f4 y a z e.symm
  exact ⟨m, hn.sameBut sb away, fun h3 sb3 => ⟨_, H', I2.turned (t' := s2.toks) (fun b o hb e => (sb3.2 b hb).trans e) f0 f1 f3 f4 f5, q⟩⟩
theorem sw_dict {kx vx : Expr} {gs : List Comprehension} {scope : Scope} {pos py : Pos} {y : Str} {l : Nat} {env : Env} (hk : env.scope.kind = .function) (hy : env.scope.names.lookup y = some .local) (hl : (py.line == pos.line) = true)
    (ha : (scope.names.any fun (n, k) => n == y && (k == .local || k == .cell)) = false) : swapsWith (.DictComp kx vx gs scope pos) (some (.Name y py)) l env = pure true := by
  have e1 : env.kindOf y = some .local := hy
  have e2 : env.blockKind = .function := by unfold Env.blockKind; rw [hk]; rfl
  unfold swapsWith
  simp only [e2, e1, ha, Expr.pos, hl]
  rfl
end
end Dl
end
/-! ## Kt6 -/
section
set_option maxRecDepth 100000
namespace Dl
open PySem PySem.Spec PyProof.Rows L2 Mx
/-! ### the object of the program's ways -/
abbrev exD (K : PySem.W.Frag) : D := .ins (ga K "Exact") [] []
structure WyFacts (K : PySem.W.Frag) : Prop where
  cls : Cls K (ga K "Ways")
  r : NoAttr K (ga K "Ways") "reckoner"
  s : NoAttr K (ga K "Ways") "spots"
  t : NoAttr K (ga K "Ways") "tables"
abbrev wyN : List Str := ["reckoner", "spots", "tables"]
abbrev TTb : Type := Nat → List (List Key) → List D → Prop
structure WaysX (K : PySem.W.Frag) (M0 M : MS) (w td : Addr) (ts : List Addr) (n k : Nat) (TT : TTb) : Prop where
  up : Up M0 M
  lk : M.lk = []
  nw : w ∉ domM M0
  nt : td ∉ domM M0
  hw : getM M w = some (.ins (ga K "Ways") wyN [exD K, .lst (intsD n), .ptr td])
  ht : getM M td = some (.dK (layK k) (ts.map .ptr))
  len : ts.length = k
  k2 : k ≤ 2
  nd : ts.Nodup
  tab : ∀ a t, ts[a]? = some t → t ∉ domM M0 ∧ ∃ ks ds, getM M t = some (.dT ks ds) ∧ TT a ks ds
theorem getM_some_ne {M : MS} {a b : Addr} {x y : MD} (h : getM M a = some x) (k : getM M b = some y) (n : x ≠ y) : a ≠ b := fun e => by
  subst e
  rw [h] at k
  exact n (Option.some.inj k)
theorem nd_set {α : Type} {p : α} : ∀ {l : List α}, l.Nodup → ∀ a : Nat, p ∉ l → (l.set a p).Nodup
  | [], h, _, _ => by simp
  | x :: l, h, 0, n => by
    rw [List.set_cons_zero]
    exact List.nodup_cons.mpr ⟨fun z => n (List.mem_cons_of_mem _ z), (List.nodup_cons.mp h).2⟩
  | x :: l, h, a + 1, n => by
    rw [List.set_cons_succ]
    have h' := List.nodup_cons.mp h
    refine List.nodup_cons.mpr ⟨fun z => ?_, nd_set h'.2 a fun z => n (List.mem_cons_of_mem _ z)⟩
    rcases List.mem_or_eq_of_mem_set z with z | z
    · exact h'.1 z
    · exact n (by rw [z]; exact List.mem_cons_self)
section
variable {K : PySem.W.Frag} {M0 M : MS} {w td : Addr} {ts : List Addr} {n k : Nat} {TT : TTb}
theorem WaysX.imp {TT' : TTb} (x : WaysX K M0 M w td ts n k TT) (h : ∀ a < k, ∀ ks ds, TT a ks ds → TT' a ks ds) : WaysX K M0 M w td ts n k TT' :=
  ⟨x.up, x.lk, x.nw, x.nt, x.hw, x.ht, x.len, x.k2, x.nd, fun a t e => by
    obtain ⟨h1, ks, ds, h2, h3⟩ := x.tab a t e
    exact ⟨h1, ks, ds, h2, h a (by have := (List.getElem?_eq_some_iff.mp e).1; rw [x.len] at this; exact this) ks ds h3⟩⟩
theorem WaysX.add (x : WaysX K M0 M w td ts n k TT) {p : Addr} (hp : p ∉ domM M) (y : MD) : WaysX K M0 (addM M p y) w td ts n k TT :=
  ⟨x.up.add p y, x.lk, x.nw, x.nt, by rw [getM_addN (getM_ne x.hw hp)]; exact x.hw, by rw [getM_addN (getM_ne x.ht hp)]; exact x.ht, x.len, x.k2, x.nd, fun a t e => by
    obtain ⟨h1, ks, ds, h2, h3⟩ := x.tab a t e
    exact ⟨h1, ks, ds, by rw [getM_addN (getM_ne h2 hp)]; exact h2, h3⟩⟩
theorem WaysX.newTab {TT' : TTb} (x : WaysX K M0 M w td ts n k TT) {p : Addr} (hp : p ∉ domM M) {ks : List (List Key)} {ds : List D} {a : Nat} (h : ∀ b ks ds, b ≠ a → TT b ks ds → TT' b ks ds) (ha : TT' a ks ds) :
    WaysX K M0 (setM (addM M p (.dT ks ds)) td (.dK (layK k) ((ts.map D.ptr).set a (.ptr p)))) w td (ts.set a p) n k TT' := by
  have z := x.add hp (.dT ks ds)
  have ntd : ∀ {t : Addr} {y : MD}, getM (addM M p (.dT ks ds)) t = some y → y ≠ .dK (layK k) (ts.map .ptr) → t ≠ td := fun {t y} e ne => getM_some_ne e z.ht ne
  have hpg : getM (addM M p (.dT ks ds)) p = some (.dT ks ds) := getM_add
  refine ⟨z.up.set x.nt _, x.lk, x.nw, x.nt, ?_, ?_, by rw [List.length_set]; exact x.len, x.k2, ?_, fun b t e => ?_⟩
  · rw [getM_set, if_neg (ntd z.hw (by simp))]
    exact z.hw
  · rw [getM_set, if_pos rfl, z.ht, List.map_set]
    rfl
  · refine nd_set x.nd a fun z => ?_
    obtain ⟨c, hc, e⟩ := List.getElem_of_mem z
    obtain ⟨_, _, _, h2, _⟩ := x.tab c p (by rw [List.getElem?_eq_getElem hc, e])
    exact hp (getM_dom h2)
  · by_cases hb : a = b
    · subst hb
      have hl : a < ts.length := by
        have := (List.getElem?_eq_some_iff.mp e).1
        rw [List.length_set] at this
        exact this
      rw [List.getElem?_set_self hl] at e
      cases e
      exact ⟨x.up.dom hp, ks, ds, by rw [getM_set, if_neg (ntd hpg (by simp))]; exact hpg, ha⟩
    · rw [List.getElem?_set_ne hb] at e
      obtain ⟨h1, ks', ds', h2, h3⟩ := z.tab b t e
      exact ⟨h1, ks', ds', by rw [getM_set, if_neg (ntd h2 (by simp))]; exact h2, h b _ _ (fun q => hb q.symm) h3⟩
theorem WaysX.poke {TT' : TTb} (x : WaysX K M0 M w td ts n k TT) {t : Addr} {ks : List (List Key)} {ds : List D} {a : Nat} (ht : ts[a]? = some t) (h : ∀ b ks ds, b ≠ a → TT b ks ds → TT' b ks ds) (ha : TT' a ks ds) : WaysX K M0 (setM M t (.dT ks ds)) w td ts n k TT' := by
  obtain ⟨n0, ks0, ds0, g0, _⟩ := x.tab a t ht
  refine ⟨x.up.set n0 _, x.lk, x.nw, x.nt, ?_, ?_, x.len, x.k2, x.nd, fun b t' e => ?_⟩
  · rw [getM_set, if_neg (getM_some_ne x.hw g0 (by simp))]; exact x.hw
  · rw [getM_set, if_neg (getM_some_ne x.ht g0 (by simp))]; exact x.ht
  · obtain ⟨h1, ks', ds', h2, h3⟩ := x.tab b t' e
    by_cases hb : b = a
    · subst hb
      have : t' = t := Option.some.inj (e.symm.trans ht)
      subst this
      exact ⟨h1, ks, ds, by rw [getM_set, if_pos rfl, g0]; rfl, ha⟩
    · have hne : t' ≠ t := fun z => by
        subst z
        obtain ⟨i1, e1⟩ := List.getElem?_eq_some_iff.mp e
        obtain ⟨i2, e2⟩ := List.getElem?_eq_some_iff.mp ht
        exact hb ((List.getElem_inj x.nd).mp (e1.trans e2.symm))
      exact ⟨h1, ks', ds', by rw [getM_set, if_neg hne]; exact h2, h b _ _ hb h3⟩
theorem WaysX.grow (x : WaysX K M0 M w td ts n k TT) (m : Nat) : WaysX K M0 (setM M w (.ins (ga K "Ways") wyN [exD K, .lst (intsD m), .ptr td])) w td ts m k TT := by
  refine ⟨x.up.set x.nw _, x.lk, x.nw, x.nt, ?_, ?_, x.len, x.k2, x.nd, fun b t e => ?_⟩
  · rw [getM_set, if_pos rfl, x.hw]; rfl
  · rw [getM_set, if_neg (getM_some_ne x.ht x.hw (by simp))]; exact x.ht
  · obtain ⟨h1, ks, ds, h2, h3⟩ := x.tab b t e
    exact ⟨h1, ks, ds, by rw [getM_set, if_neg (getM_some_ne h2 x.hw (by simp))]; exact h2, h3⟩
theorem WaysX.at_ (x : WaysX K M0 M w td ts n k TT) {a : Nat} (ha : a < k) : ∃ t ks ds, ts[a]? = some t ∧ getM M t = some (.dT ks ds) ∧ TT a ks ds ∧ dval (layK k) (ts.map D.ptr) (.inr (lay a)) = some (.ptr t) := by
  have hl : a < ts.length := by rw [x.len]; exact ha
  obtain ⟨_, ks, ds, h2, h3⟩ := x.tab a ts[a] (List.getElem?_eq_getElem hl)
  refine ⟨ts[a], ks, ds, List.getElem?_eq_getElem hl, h2, h3, ?_⟩
  have h2 := x.k2
  have hlen := x.len
  clear x
  match ts, k, a, hlen, h2, ha with
  | [t0], 1, 0, _, _, _ => rfl
  | [t0, t1], 2, 0, _, _, _ => rfl
  | [t0, t1], 2, 1, _, _, _ => rfl
end
theorem lay_nd {k : Nat} (h : k ≤ 2) : (layK k).Nodup := by
  match k, h with
  | 0, _ => decide
  | 1, _ => decide
  | 2, _ => decide
theorem lay_at {k a : Nat} (h : a < k) : (layK k)[a]? = some (.inr (lay a)) := by
  unfold layK
  rw [List.getElem?_map, List.getElem?_range h]
  rfl
theorem lay_len (k : Nat) : (layK k).length = k := by unfold layK; simp
section
variable {K : PySem.W.Frag} {T : Tb} {M0 M : MS} {w td : Addr} {ts : List Addr} {n k : Nat} {TT : TTb} {G : Sl} {R : D → MS → Prop} {RA : List D → MS → Prop} {RS : DE}
theorem we_wtabs (WF : WyFacts K) (x : WaysX K M0 M w td ts n k TT) {i : Nat} (h : G[i]? = some (some (.ptr w))) (q : R (.ptr td) M) : WE K T (tFld K (tVar i) "tables") G M R := we_fld (we_var h ⟨_, _, _, _, .inr ⟨w, rfl, x.hw⟩, WF.cls, WF.t, rfl, q⟩)
theorem we_wspots (WF : WyFacts K) (x : WaysX K M0 M w td ts n k TT) {i : Nat} (h : G[i]? = some (some (.ptr w))) (q : R (.lst (intsD n)) M) : WE K T (tFld K (tVar i) "spots") G M R := we_fld (we_var h ⟨_, _, _, _, .inr ⟨w, rfl, x.hw⟩, WF.cls, WF.s, rfl, q⟩)
theorem we_wreck (WF : WyFacts K) (x : WaysX K M0 M w td ts n k TT) {i : Nat} (h : G[i]? = some (some (.ptr w))) (q : R (exD K) M) : WE K T (tFld K (tVar i) "reckoner") G M R := we_fld (we_var h ⟨_, _, _, _, .inr ⟨w, rfl, x.hw⟩, WF.cls, WF.r, rfl, q⟩)
theorem we_wtab (WF : WyFacts K) (x : WaysX K M0 M w td ts n k TT) {i j a : Nat} {t : Addr} (h : G[i]? = some (some (.ptr w))) (hj : G[j]? = some (some (.str (lay a)))) (hv : dval (layK k) (ts.map D.ptr) (.inr (lay a)) = some (.ptr t)) (q : R (.ptr t) M) : WE K T (tDGet (tFld K (tVar i) "tables") (tVar j)) G M R :=
  we_dget (we_wtabs WF x h (we_var hj ⟨td, _, _, .inr (lay a), _, .inr ⟨rfl, x.ht⟩, rfl, hv, q⟩))
theorem we_pk {i j a b : Nat} (h1 : G[i]? = some (some (.int (a : Nat)))) (h2 : G[j]? = some (some (.int (b : Nat)))) (q : R (.tp ((pk a b).map keyD)) M) : WE K T (tTup (tCons (tVar i) (tCons (tVar j) tNil))) G M R :=
  we_tp (wa_cons (we_var h1 (wa_cons (we_var h2 (wa_nil ⟨sz_ok rfl, q⟩)))))
theorem we_cell {t : Addr} {i j l a b : Nat} {ks : List (List Key)} {ds : List D} {d : D} (hi : G[i]? = some (some (.ptr t))) (hg : getM M t = some (.dT ks ds)) (h1 : G[j]? = some (some (.int (a : Nat)))) (h2 : G[l]? = some (some (.int (b : Nat)))) (hv : dval ks ds (pk a b) = some d) (q : R d M) :
    WE K T (tDGet (tVar i) (tTup (tCons (tVar j) (tCons (tVar l) tNil)))) G M R := we_dgetT (we_var hi (we_pk h1 h2 ⟨t, _, _, _, _, .inr ⟨rfl, hg⟩, rfl, hv, q⟩))
/-- table[(i, j)] = e, a new key -/
theorem ws_cell {tv : TE} {t : Addr} {i j l a b : Nat} (hi : G[i]? = some (some (.ptr t))) (h1 : G[j]? = some (some (.int (a : Nat)))) (h2 : G[l]? = some (some (.int (b : Nat))))
    (h : WE K T tv G M fun d M1 => ∃ ks ds, getM M1 t = some (.dT ks ds) ∧ pk a b ∉ ks ∧ ks.length < 1000 ∧ M1.lk = [] ∧ RS.nx G (setM M1 t (.dT (ks ++ [pk a b]) (ds ++ [d])))) : WS K T (sDPut (tVar i) (tTup (tCons (tVar j) (tCons (tVar l) tNil))) tv) G M RS :=
  ws_dputT (h.imp fun d M1 ⟨ks, ds, g, n, z, lk, q⟩ => we_var hi (we_pk h1 h2 ⟨t, ks, ds, _, rfl, g, rfl, n, z, by rw [lk]; simp, q⟩))
/-- self.tables[layer] = a new table -/
theorem ws_wput (WF : WyFacts K) {tv : TE} {i j a : Nat} (hi : G[i]? = some (some (.ptr w))) (hj : G[j]? = some (some (.str (lay a)))) (ha : a < k)
    (h : WE K T tv G M fun d M1 => ∃ p M2 ks ds TT' TT'', d = .ptr p ∧ M1 = addM M2 p (.dT ks ds) ∧ p ∉ domM M2 ∧ WaysX K M0 M2 w td ts n k TT' ∧ (∀ b ks ds, b ≠ a → TT' b ks ds → TT'' b ks ds) ∧ TT'' a ks ds ∧ (∀ M3 ts', WaysX K M0 M3 w td ts' n k TT'' → RS.nx G M3)) :
    WS K T (sDPut (tFld K (tVar i) "tables") (tVar j) tv) G M RS :=
  ws_dputO (h.imp fun d M1 ⟨p, M2, ks, ds, TT', TT'', e1, e2, hp, x, h1, h2, q⟩ => by
    subst e1 e2
    have y := x.add hp (.dT ks ds)
    refine we_wtabs WF y hi (we_var hj ⟨td, _, _, .inr (lay a), a, rfl, y.ht, rfl, lay_nd x.k2, lay_at ha, by rw [lay_len]; have := x.k2; omega, by rw [show (addM M2 p (.dT ks ds)).lk = [] from x.lk]; simp, ?_⟩)
    exact q _ _ (x.newTab hp h1 h2))
end
/-! ### tables whose keys stay -/
structure AccD (ks : List (List Key)) (g : Nat → Nat → Rat) (m : Nat) (ks' : List (List Key)) (acc : List D) : Prop where
  k : ks' = ks.take m
  l : acc.length = m
  v : ∀ c i j, c < m → ks[c]? = some (pk i j) → acc[c]? = some (ratD (g i j))
theorem acc_zero (ks : List (List Key)) (g : Nat → Nat → Rat) : AccD ks g 0 [] [] := ⟨rfl, rfl, fun c _ _ h => by omega⟩
theorem acc_put {ks ks' : List (List Key)} {g : Nat → Nat → Rat} {acc : List D} {m i j : Nat} (nd : ks.Nodup) (h : AccD ks g m ks' acc) (e : ks[m]? = some (pk i j)) : pk i j ∉ ks' ∧ AccD ks g (m + 1) (ks' ++ [pk i j]) (acc ++ [ratD (g i j)]) := by
  obtain ⟨rfl, hl, hv⟩ := h
  refine ⟨fun z => ?_, ⟨by rw [List.take_succ, e]; rfl, by simp [hl], fun c i' j' hc ec => ?_⟩⟩
  · obtain ⟨c, hc, ec⟩ := List.getElem_of_mem z
    rw [List.getElem_take] at ec
    rw [List.length_take] at hc
    obtain ⟨hm, em⟩ := List.getElem?_eq_some_iff.mp e
    have := (List.getElem_inj nd).mp (ec.trans em.symm)
    omega
  · by_cases hcm : c < m
    · rw [List.getElem?_append_left (by omega)]
      exact hv c i' j' hcm ec
    · have : c = m := by omega
      subst this
      rw [ec] at e
      obtain ⟨rfl, rfl⟩ := pk_inj (Option.some.inj e)
      rw [List.getElem?_append_right (by omega), hl, Nat.sub_self]
      rfl
theorem dval_get {ks : List (List Key)} {ds : List D} {c : Nat} {k : List Key} {d : D} (nd : ks.Nodup) (h1 : ks[c]? = some k) (h2 : ds[c]? = some d) : dval ks ds k = some d := by
  induction ks generalizing ds c with
  | nil => simp at h1
  | cons q ks ih =>
    cases ds with
    | nil => simp at h2
    | cons e ds =>
      have nd' := List.nodup_cons.mp nd
      rw [dval_cons]
      cases c with
      | zero =>
        have e1 : q = k := by simpa using h1
        have e2 : e = d := by simpa using h2
        rw [if_pos e1, e2]
      | succ c =>
        have e1 : ks[c]? = some k := by simpa using h1
        have e2 : ds[c]? = some d := by simpa using h2
        have hne : ¬ q = k := fun z => nd'.1 (by rw [z]; exact List.mem_of_getElem? e1)
        rw [if_neg hne, ih nd'.2 e1 e2]
theorem acc_done {n : Nat} {f g : Nat → Nat → Rat} {ks ks' : List (List Key)} {ds acc : List D} (t : TabD n f ks ds) (h : AccD ks g ks.length ks' acc) : TabD n g ks' acc := by
  obtain ⟨rfl, hl, hv⟩ := h
  rw [List.take_length]
  refine ⟨t.nd, hl.symm, t.sz, t.key, fun i hi j hj => ?_⟩
  obtain ⟨c, hc, ec⟩ := List.getElem_of_mem (dval_mem (t.val i hi j hj))
  have e1 : ks[c]? = some (pk i j) := by rw [List.getElem?_eq_getElem hc, ec]
  exact dval_get t.nd e1 (hv c i j hc e1)
/-! ### a table that takes in a place -/
structure PutD (n b : Nat) (x y : Rat) (f : Tab) (c : Nat) (ks : List (List Key)) (ds : List D) : Prop where
  nd : ks.Nodup
  len : ks.length = ds.length
  sz : ks.length ≤ n * n + 2 * c
  key : ∀ k ∈ ks, ∃ i j, k = pk i j ∧ ((i < n ∧ j < n) ∨ (i < c ∧ j = n) ∨ (i = n ∧ j < c))
  val : ∀ i j, ((i < n ∧ j < n) ∨ (i < c ∧ j = n) ∨ (i = n ∧ j < c)) → dval ks ds (pk i j) = some (ratD (putT n b x y f i j))
theorem put_zero {n b : Nat} {x y : Rat} {f : Tab} {ks : List (List Key)} {ds : List D} (h : TabD n f ks ds) : PutD n b x y f 0 ks ds := by
  refine ⟨h.nd, h.len, by have := h.sz; omega, fun k hk => ?_, fun i j hij => ?_⟩
  · obtain ⟨i, j, h1, h2, e⟩ := h.key k hk
    exact ⟨i, j, e, .inl ⟨h1, h2⟩⟩
  · have hi : i < n ∧ j < n := by omega
    rw [h.val i hi.1 j hi.2]
    unfold putT
    rw [if_pos hi.1, if_pos hi.2]
theorem put_one {n b : Nat} {x y : Rat} {f : Tab} {c : Nat} {ks : List (List Key)} {ds : List D} (h : PutD n b x y f c ks ds) (hc : c < n) : pk c n ∉ ks ∧ pk n c ∉ ks ++ [pk c n] ∧ PutD n b x y f (c + 1) (ks ++ [pk c n] ++ [pk n c]) (ds ++ [ratD (f c b + x)] ++ [ratD (y + f b c)]) := by
  have n1 : pk c n ∉ ks := fun z => by
    obtain ⟨i, j, e, q⟩ := h.key _ z
    obtain ⟨e1, e2⟩ := pk_inj e
    omega
  have n2 : pk n c ∉ ks ++ [pk c n] := fun z => by
    rcases List.mem_append.mp z with z | z
    · obtain ⟨i, j, e, q⟩ := h.key _ z
      obtain ⟨e1, e2⟩ := pk_inj e
      omega
    · rw [List.mem_singleton] at z
      obtain ⟨e1, e2⟩ := pk_inj z
      omega
  have l1 : (ks ++ [pk c n]).length = (ds ++ [ratD (f c b + x)]).length := by simp [h.len]
  refine ⟨n1, n2, nd_snoc (nd_snoc h.nd n1) n2, by simp [h.len], by have := h.sz; simp; omega, fun k hk => ?_, fun i j hij => ?_⟩
  · rcases List.mem_append.mp hk with hk | hk
    · rcases List.mem_append.mp hk with hk | hk
      · obtain ⟨i, j, e, q⟩ := h.key k hk
        exact ⟨i, j, e, by omega⟩
      · exact ⟨c, n, by simpa using hk, by omega⟩
    · exact ⟨n, c, by simpa using hk, by omega⟩
  · by_cases e2 : i = n ∧ j = c
    · obtain ⟨rfl, rfl⟩ := e2
      rw [dval_new l1 n2]
      unfold putT
      rw [if_neg (by omega), if_pos hc]
    · by_cases e1 : i = c ∧ j = n
      · obtain ⟨rfl, rfl⟩ := e1
        rw [dval_old l1 (dval_new h.len n1)]
        unfold putT
        rw [if_pos hc, if_neg (by omega)]
      · exact dval_old l1 (dval_old h.len (h.val i j (by omega)))
theorem put_all {n b : Nat} {x y : Rat} {f : Tab} {ks : List (List Key)} {ds : List D} (h : PutD n b x y f n ks ds) : pk n n ∉ ks ∧ TabD (n + 1) (putT n b x y f) (ks ++ [pk n n]) (ds ++ [ratD 0]) := by
  have n1 : pk n n ∉ ks := fun z => by
    obtain ⟨i, j, e, q⟩ := h.key _ z
    obtain ⟨e1, e2⟩ := pk_inj e
    omega
  refine ⟨n1, nd_snoc h.nd n1, by simp [h.len], ?_, fun k hk => ?_, fun i hi j hj => ?_⟩
  · have := h.sz
    rw [List.length_append, List.length_singleton]
    have e : (n + 1) * (n + 1) = n * n + 2 * n + 1 := by rw [Nat.add_mul, Nat.mul_add]; omega
    omega
  · rcases List.mem_append.mp hk with hk | hk
    · obtain ⟨i, j, e, q⟩ := h.key k hk
      exact ⟨i, j, by omega, by omega, e⟩
    · exact ⟨n, n, by omega, by omega, by simpa using hk⟩
  · by_cases e : i = n ∧ j = n
    · obtain ⟨rfl, rfl⟩ := e
      rw [dval_new h.len n1]
      unfold putT
      rw [if_neg (by omega), if_neg (by omega)]
    · exact dval_old h.len (h.val i j (by omega))
end Dl
end
/-! ## P3 -/
section
set_option maxRecDepth 100000
set_option maxHeartbeats 1000000
namespace Dl
open PySem PySem.Spec PyProof.Rows L2 Mx
local macro_rules | `(tactic| walk_at "d1") => `(tactic| with_reducible first
  | refine ws_seq ?_ | refine ws_asgN ?_ | refine ws_asg ?_ | refine wg_name ?_ | refine ws_ret ?_ | refine ws_nx ?_ | refine ws_expr ?_
  | refine we_op ?_ | refine we_un ?_ | refine we_int ?_ | refine we_str ?_ | refine we_bl ?_ | refine we_non ?_ | refine we_ty ?_ | refine we_if ?_ | refine we_and ?_ | refine we_or ?_ | refine we_not ?_ | refine we_chain ?_
  | refine we_tup ?_ | refine we_lst ?_ | refine we_listRng ?_ | refine we_isi2 ?_ | refine we_cb ?_ | refine we_call ?_ | refine wa_cons ?_ | refine wa_nil ?_ | refine we_sl ?_ | refine wo_no ?_ | refine wo_some ?_
  | refine wt_test ?_ | refine wt_B ?_ | refine wt_and ?_ | refine wt_or ?_ | refine wt_not ?_ | refine wt_yes ?_
  | refine opd_add ?_ | refine opd_sub ?_ | refine opd_lt ?_ | refine opd_le ?_ | refine opd_gt ?_ | refine opd_ge ?_ | refine opd_eqI ?_ | refine opd_neI ?_ | refine opd_eqS ?_ | refine opd_neS ?_ | refine opd_isN ?_ | refine opd_notN ?_
  | refine opd_mulW ?_ ?_ | refine opd_mul ?_ ?_ | refine opd_pow ?_ ?_ | refine opd_fdivW ?_ ?_ | refine opd_modN ?_ ?_
  | refine cad_gcd ?_ | refine cad_int1 ?_ | refine cad_intB ?_ | refine cad_abs ?_ | refine cad_lenT ?_ | refine cad_lenL ?_ | refine cad_lenLL ?_ | refine cad_list ?_ | refine sld_lst ?_ | refine sld_tup ?_ | refine sld_tp ?_
  | refine we_fld ?_ | refine we_meth ?_ | refine we_prop ?_ | refine ws_par ?_ | refine ite_t ?_ | refine ite_f ?_ | fail)
local macro_rules | `(tactic| walk_at "d2") => `(tactic| first
  | refine we_var rfl ?_ | (with_reducible refine we_zero (by assumption) ?_) | (with_reducible refine we_layers (by assumption) ?_) | refine opd_ixT rfl ?_ | refine opd_ixP rfl ?_ | (with_reducible refine opd_ixL (atI_rng (by assumption)) ?_) | (with_reducible refine ws_asgN ?_) | fail)
local macro_rules | `(tactic| walk_at "d3") => `(tactic| first | (with_reducible refine ⟨_, rfl, ?_⟩) | (with_reducible refine ⟨sz_ok rfl, ?_⟩) | (with_reducible refine ⟨_, _, rfl, ?_⟩) | fail)
local macro_rules | `(tactic| walk_at "e") => `(tactic| repeat' (first | walk_at "d1" | walk_at "d2" | walk_at "d3" | fail))
local macro_rules | `(tactic| walk_at "d") => `(tactic| repeat' (first | walk_at "d1" | walk_at "d2" | walk_at "d3" | (with_reducible refine ws_if ?_) | fail))
section
variable {P : Program} {w : World} {K : PySem.W.Frag} {T : Tb} {mg : Str → Option Value} {base : Heap}
abbrev CPlus (P : Program) (w : World) (K : PySem.W.Frag) (T : Tb) (mg : Str → Option Value) (base : Heap) : Prop := Cal P w K T mg base "_law_plus" 2 ["_law_one", "_law_other"] (preRat2 fun p q => ratD (p + q))
abbrev N_law_closed : List Str := ["_law_rows", "_law_size", "_law_by", "_law_other", "_law_one"]
theorem sc_law_closed : FnScope N_law_closed ["_law_rows"] (defScope (top 67)) := ⟨rfl, rfl, rfl, by decide +kernel, rfl, by decide +kernel, by decide +kernel⟩
def preClosed : Pre := fun ds M R => ∃ (l n : Nat) (f : Tab), ds = [matD n f] ∧ n ≤ 9 ∧ l ≤ 28 ∧ LvM l n f ∧ R (matD n (fwT f n)) M
theorem ok_law_closed (L : Lib K mg) (F : FnAt K mg "_law_closed" (top 67)) (c_law_plus : CPlus P w K T mg base) (c_law_least : Cal P w K T mg base "_law_least" 2 ["_law_pairs"] preLeast) : Cal P w K T mg base "_law_closed" 3 ["_law_rows"] preClosed := by
  refine cal_of F sc_law_closed (fun ds M R h => by obtain ⟨_, _, _, rfl, _⟩ := h; rfl) (fun _ _ _ _ _ _ us hl => match us, hl with | [_], _ => rfl) fun f cdv A outer s H E hr => ⟨_, (pss_cons (ps_set (i := 1) sc_law_closed.nd rfl (by first | exact Or.inl rfl | exact Or.inr rfl) (pe_callB (call_len_seqK (K := K)) (by rfl) L.len_ boot_len (pa_cons (pv 0) pa_nil)))
    (pss_cons (ps_for PassesOwn.never rfl (pi_range1 (by rfl) L.range_ (pa_cons (pv 1) pa_nil)) (pg_name (i := 2) sc_law_closed.nd rfl (by first | exact Or.inl rfl | exact Or.inr rfl)) (pss_one (ps_set (i := 0) sc_law_closed.nd rfl (Or.inr rfl) (pe_lc (own := [("_law_one", 4)]) (tt := tYes) rfl sc_law_closed.nd (pi_range1 (by rfl) L.range_ (pa_cons (pv 1) pa_nil)) (blkOk_by (own := [("_law_one", 4)]) (N := N_law_closed) rfl) (fun _ _ _ _ _ => (pg_name (i := 4) sc_law_closed.nd rfl (by first | exact Or.inl rfl | exact Or.inr rfl))) (fun _ _ _ _ _ => pts_nil) (fun _ _ _ _ _ => (pe_lc (own := [("_law_other", 3)]) (tt := tYes) rfl sc_law_closed.nd (pi_range1 (by rfl) L.range_ (pa_cons (pv 1) pa_nil)) (blkOk_by (own := [("_law_other", 3)]) (N := N_law_closed) rfl) (fun _ _ _ _ _ => (pg_name (i := 3) sc_law_closed.nd rfl (by first | exact Or.inl rfl | exact Or.inr rfl))) (fun _ _ _ _ _ => pts_nil) (fun _ _ _ _ _ => (pe_cal c_law_least (hr) (by rfl) (pa_cons (pe_lst (pa_cons (pe_ix (ix_listK (K := K)) (pe_ix (ix_listK (K := K)) (pv 0) (pv 4) (fun _ _ => rfl)) (pv 3) (fun _ _ => rfl)) (pa_cons (pe_cal c_law_plus (hr) (by rfl) (pa_cons (pe_ix (ix_listK (K := K)) (pe_ix (ix_listK (K := K)) (pv 0) (pv 4) (fun _ _ => rfl)) (pv 2) (fun _ _ => rfl)) (pa_cons (pe_ix (ix_listK (K := K)) (pe_ix (ix_listK (K := K)) (pv 0) (pv 2) (fun _ _ => rfl)) (pv 3) (fun _ _ => rfl)) pa_nil))) pa_nil))) pa_nil)))))))))
    (pss_one (ps_ret (pv 0))))), fun ds M R h => ?_⟩
  obtain ⟨l, n, f, rfl, hn, hl, hv, k⟩ := h
  walk_at "d"
  rw [List.length_map, List.length_range]
  refine ws_for (wi_rng (wa_cons (we_var rfl (wa_nil ⟨n, rfl, by omega, fun i G M' => M' = M ∧ ∃ a b c, G = [some (matD n (fwT f i)), some (.int n), a, b, c], ⟨rfl, _, _, _, rfl⟩, ?_, ?_⟩))))
  · rintro i d G1 M2 hd ⟨rfl, a, b, c, rfl⟩
    obtain ⟨rfl, hi⟩ := intsD_get hd
    have hv' := fw_lv hv i (by omega)
    walk_at "d"
    refine we_lcR (wa_cons (we_var rfl (wa_nil ⟨n, rfl, by omega, _, fun x hx => ?_, ⟨rfl, _, _, _, rfl⟩⟩)))
    refine we_lcR (wa_cons (we_var rfl (wa_nil ⟨n, rfl, by omega, _, fun y hy => ?_, ⟨rfl, rfl⟩⟩)))
    walk_at "d"
    refine ⟨_, _, rfl, lv_fit (hv' x hx i hi) (by omega), lv_fit (hv' i hi y hy) (by omega), ?_⟩
    walk_at "d"
    exact ⟨_, _, rfl, lv_fit (hv' x hx y hy) (by omega), lv_fit (lv_add (hv' x hx i hi) (hv' i hi y hy)) (by omega), rfl, rfl⟩
  · rintro G1 M2 ⟨rfl, a, b, c, rfl⟩
    show WS K T _ _ _ _
    walk_at "d"
    rw [intsD_len]
    exact k
abbrev N_law_places_of : List Str := ["_law_plan"]
theorem sc_law_places_of : FnScope N_law_places_of ["_law_plan"] (defScope (top 71)) := ⟨rfl, rfl, rfl, by decide +kernel, rfl, by decide +kernel, by decide +kernel⟩
theorem ok_law_places_of (L : Lib K mg) (F : FnAt K mg "_law_places_of" (top 71)) : Cal P w K T mg base "_law_places_of" 1 ["_law_plan"] (fun ds M R => ∃ (n : Nat) (f : Tab) (x : D) (ts : List D), ds = [.tup [x, .lst (matD n f :: ts)]] ∧ R (.int n) M) := by
  refine cal_of F sc_law_places_of (fun ds M R h => by obtain ⟨_, _, _, _, rfl, _⟩ := h; rfl) (fun _ _ _ _ _ _ us hl => match us, hl with | [_], _ => rfl) fun f cdv A outer s H E hr => ⟨_, (pss_one (ps_ret (pe_callB (call_len_seqK (K := K)) (by rfl) L.len_ boot_len (pa_cons (pe_ix (ix_listK (K := K)) (pe_ix (ix_tupK (K := K)) (pv 0) pe_int (fun _ _ => rfl)) pe_int (fun _ _ => rfl)) pa_nil)))), fun ds M R h => ?_⟩
  obtain ⟨n, f, x, ts, rfl, k⟩ := h
  walk_at "d"
  refine opd_ixL (d := matD n f) (atI_head _ _) ?_
  walk_at "d"
  rw [List.length_map, List.length_range]
  exact k
abbrev N_law_is_way : List Str := ["_law_table_here", "_law_size", "_law_one", "_law_other", "_law_by"]
theorem sc_law_is_way : FnScope N_law_is_way ["_law_table_here"] (defScope (top 72)) := ⟨rfl, rfl, rfl, by decide +kernel, rfl, by decide +kernel, by decide +kernel⟩
theorem num_nn {q : Rat} (h : 0 ≤ q) : ¬ decide (q.num < 0) = true := by
  intro z
  have := of_decide_eq_true z
  have := Rat.num_nonneg.mpr h
  omega
theorem py_zero {q : Rat} (h : q = 0) : PyData.eqv (py (ratD q)) (py (.tup [.int 0, .int 1])) = true := by rw [h]; decide
def preWay : Pre := fun ds M R => ∃ (l n : Nat) (f : Tab), ds = [matD n f] ∧ n ≤ 9 ∧ l ≤ 28 ∧ LvM l n f ∧ Met n f ∧ R (.bl true) M
theorem ok_law_is_way (L : Lib K mg) (F : FnAt K mg "_law_is_way" (top 72)) (c_law_plus : CPlus P w K T mg base) (c_law_less : Cal P w K T mg base "_law_less" 1 ["_law_one", "_law_other"] (preRat2 fun p q => .bl (decide (p < q)))) : Cal P w K T mg base "_law_is_way" 3 ["_law_table_here"] preWay := by
  refine cal_of F sc_law_is_way (fun ds M R h => by obtain ⟨_, _, _, rfl, _⟩ := h; rfl) (fun _ _ _ _ _ _ us hl => match us, hl with | [_], _ => rfl) fun f cdv A outer s H E hr => ⟨_, (pss_cons (ps_set (i := 1) sc_law_is_way.nd rfl (by first | exact Or.inl rfl | exact Or.inr rfl) (pe_callB (call_len_seqK (K := K)) (by rfl) L.len_ boot_len (pa_cons (pv 0) pa_nil)))
    (pss_cons (ps_for PassesOwn.never rfl (pi_range1 (by rfl) L.range_ (pa_cons (pv 1) pa_nil)) (pg_name (i := 2) sc_law_is_way.nd rfl (by first | exact Or.inl rfl | exact Or.inr rfl)) (pss_one (ps_for PassesOwn.never rfl (pi_range1 (by rfl) L.range_ (pa_cons (pv 1) pa_nil)) (pg_name (i := 3) sc_law_is_way.nd rfl (by first | exact Or.inl rfl | exact Or.inr rfl)) (pss_cons (ps_if (PW.pt (pw_or (pt_cmpR op_lt (pe_ix (ix_tupK (K := K)) (pe_ix (ix_listK (K := K)) (pe_ix (ix_listK (K := K)) (pv 0) (pv 2) (fun _ _ => rfl)) (pv 3) (fun _ _ => rfl)) pe_int (fun _ _ => rfl)) pe_int (nomark _)) (pw_or1 (PW.pt (pw_and (pt_cmpR op_eq (pv 2) (pv 3) (nomark _)) (pw_and1 (pt_cmpR (op_neDK (K := K) (hu64 hr)) (pe_ix (ix_listK (K := K)) (pe_ix (ix_listK (K := K)) (pv 0) (pv 2) (fun _ _ => rfl)) (pv 3) (fun _ _ => rfl)) (pe_tup (pa_cons pe_int (pa_cons pe_int pa_nil))) (nomark _)))))))) (pss_one (ps_ret pe_bl)) pss_nil)
    (pss_one (ps_if (pt_cmpR (op_neDK (K := K) (hu64 hr)) (pe_lc (own := [("_law_by", 4)]) rfl sc_law_is_way.nd (pi_range1 (by rfl) L.range_ (pa_cons (pv 1) pa_nil)) (blkOk_by (own := [("_law_by", 4)]) (N := N_law_is_way) rfl) (fun _ _ _ _ _ => (pg_name (i := 4) sc_law_is_way.nd rfl (by first | exact Or.inl rfl | exact Or.inr rfl))) (fun _ _ _ _ _ => (pts_one (pt_val (pe_cal c_law_less (hr.mono (by decide)) (by rfl) (pa_cons (pe_cal c_law_plus (hr) (by rfl) (pa_cons (pe_ix (ix_listK (K := K)) (pe_ix (ix_listK (K := K)) (pv 0) (pv 2) (fun _ _ => rfl)) (pv 4) (fun _ _ => rfl)) (pa_cons (pe_ix (ix_listK (K := K)) (pe_ix (ix_listK (K := K)) (pv 0) (pv 4) (fun _ _ => rfl)) (pv 3) (fun _ _ => rfl)) pa_nil))) (pa_cons (pe_ix (ix_listK (K := K)) (pe_ix (ix_listK (K := K)) (pv 0) (pv 2) (fun _ _ => rfl)) (pv 3) (fun _ _ => rfl)) pa_nil)))))) (fun _ _ _ _ _ => (pv 4))) (pe_lst pa_nil) (nomark _)) (pss_one (ps_ret pe_bl)) pss_nil))))))
    (pss_one (ps_ret pe_bl)))), fun ds M R h => ?_⟩
  obtain ⟨l, n, f, rfl, hn, hl, hv, hm, k⟩ := h
  walk_at "d"
  rw [List.length_map, List.length_range]
  refine ws_for (wi_rng (wa_cons (we_var rfl (wa_nil ⟨n, rfl, by omega, fun i G M' => M' = M ∧ ∃ a b c, G = [some (matD n f), some (.int n), a, b, c], ⟨rfl, _, _, _, rfl⟩, ?_, ?_⟩))))
  · rintro x d G1 M2 hd ⟨rfl, a, b, c, rfl⟩
    obtain ⟨rfl, hx⟩ := intsD_get hd
    walk_at "d"
    refine ws_for (wi_rng (wa_cons (we_var rfl (wa_nil ⟨n, rfl, by omega, fun i G M' => M' = M2 ∧ ∃ b c, G = [some (matD n f), some (.int n), some (.int x), b, c], ⟨rfl, _, _, rfl⟩, ?_, ?_⟩))))
    · rintro y d G1 M3 hd ⟨rfl, b, c, rfl⟩
      obtain ⟨rfl, hy⟩ := intsD_get hd
      refine wg_name (ws_seq (ws_ifF ?_ (ws_nx (ws_ifF ?_ (ws_nx ⟨rfl, _, _, rfl⟩)))))
      · walk_at "d"
        refine ite2 (fun h => absurd h (num_nn (hm.nn x hx y hy))) fun _ => ?_
        walk_at "d"
        refine ite2 (fun h => ?_) fun _ => ⟨rfl, rfl⟩
        have e : x = y := by have := of_decide_eq_true h; omega
        subst e
        walk_at "d"
        refine opd_neD rfl rfl rfl rfl ⟨_, rfl, ?_⟩
        rw [py_zero (hm.dg x hx)]
        exact ⟨rfl, rfl⟩
      · refine wt_test (we_op (we_lc (wi_rng (wa_cons (we_var rfl (wa_nil ⟨n, rfl, by omega, ?_, fun i acc M' => acc = [] ∧ M' = M3, ⟨rfl, rfl⟩, ?_, ?_⟩))))))
        · rw [intsD_len]
          exact Nat.le_of_lt (small1000 (by omega))
        · rintro b acc d M4 hd _ ⟨rfl, rfl⟩
          obtain ⟨rfl, hb⟩ := intsD_get hd
          refine wgv_name (List.mem_singleton.mpr rfl) ?_
          walk_at "d"
          refine ⟨_, _, rfl, lv_fit (hv x hx b hb) (by omega), lv_fit (hv b hb y hy) (by omega), ?_⟩
          walk_at "d"
          refine ⟨_, _, rfl, lv_fit (lv_add (hv x hx b hb) (hv b hb y hy)) (by omega), lv_fit (hv x hx y hy) (by omega), _, rfl, ?_⟩
          refine ite2 (fun h => ?_) fun _ => ⟨rfl, rfl⟩
          have h1 := of_decide_eq_true h
          have := hm.tri x hx b hb y hy
          exact absurd h1 (by grind)
        · rintro acc M4 ⟨rfl, rfl⟩
          walk_at "d"
          exact opd_neD rfl rfl rfl rfl ⟨_, rfl, rfl, rfl⟩
    · rintro G1 M3 ⟨rfl, b, c, rfl⟩
      exact ⟨rfl, _, _, _, rfl⟩
  · rintro G1 M2 ⟨rfl, a, b, c, rfl⟩
    show WS K T _ _ _ _
    walk_at "d"
    exact k
end
end Dl
end
/-! ## P4 -/
section
set_option maxRecDepth 100000
set_option maxHeartbeats 1000000
namespace Dl
open PySem PySem.Spec PyProof.Rows L2 Mx
local macro_rules | `(tactic| walk_at "d1") => `(tactic| with_reducible first
  | refine ws_seq ?_ | refine ws_asgN ?_ | refine ws_asg ?_ | refine wg_name ?_ | refine ws_ret ?_ | refine ws_nx ?_ | refine ws_expr ?_
  | refine we_op ?_ | refine we_un ?_ | refine we_int ?_ | refine we_str ?_ | refine we_bl ?_ | refine we_non ?_ | refine we_ty ?_ | refine we_if ?_ | refine we_and ?_ | refine we_or ?_ | refine we_not ?_ | refine we_chain ?_
  | refine we_tup ?_ | refine we_lst ?_ | refine we_listRng ?_ | refine we_isi2 ?_ | refine we_cb ?_ | refine we_call ?_ | refine wa_cons ?_ | refine wa_nil ?_ | refine we_sl ?_ | refine wo_no ?_ | refine wo_some ?_
  | refine wt_test ?_ | refine wt_B ?_ | refine wt_and ?_ | refine wt_or ?_ | refine wt_not ?_ | refine wt_yes ?_
  | refine opd_add ?_ | refine opd_sub ?_ | refine opd_lt ?_ | refine opd_le ?_ | refine opd_gt ?_ | refine opd_ge ?_ | refine opd_eqI ?_ | refine opd_neI ?_ | refine opd_eqS ?_ | refine opd_neS ?_ | refine opd_isN ?_ | refine opd_notN ?_
  | refine opd_mulW ?_ ?_ | refine opd_mul ?_ ?_ | refine opd_pow ?_ ?_ | refine opd_fdivW ?_ ?_ | refine opd_modN ?_ ?_
  | refine cad_gcd ?_ | refine cad_int1 ?_ | refine cad_intB ?_ | refine cad_abs ?_ | refine cad_lenT ?_ | refine cad_lenL ?_ | refine cad_lenLL ?_ | refine cad_list ?_ | refine sld_lst ?_ | refine sld_tup ?_ | refine sld_tp ?_
  | refine we_fld ?_ | refine we_meth ?_ | refine we_prop ?_ | refine ws_par ?_ | refine ite_t ?_ | refine ite_f ?_ | fail)
local macro_rules | `(tactic| walk_at "d2") => `(tactic| first
  | refine we_var rfl ?_ | (with_reducible refine we_zero (by assumption) ?_) | (with_reducible refine we_layers (by assumption) ?_) | refine opd_ixT rfl ?_ | refine opd_ixP rfl ?_ | (with_reducible refine opd_ixL (atI_rng (by assumption)) ?_) | (with_reducible refine ws_asgN ?_) | fail)
local macro_rules | `(tactic| walk_at "d3") => `(tactic| first | (with_reducible refine ⟨_, rfl, ?_⟩) | (with_reducible refine ⟨sz_ok rfl, ?_⟩) | (with_reducible refine ⟨_, _, rfl, ?_⟩) | fail)
local macro_rules | `(tactic| walk_at "e") => `(tactic| repeat' (first | walk_at "d1" | walk_at "d2" | walk_at "d3" | fail))
local macro_rules | `(tactic| walk_at "d") => `(tactic| repeat' (first | walk_at "d1" | walk_at "d2" | walk_at "d3" | (with_reducible refine ws_if ?_) | fail))
section
variable {P : Program} {w : World} {K : PySem.W.Frag} {T : Tb} {mg : Str → Option Value} {base : Heap}
theorem zero_add3 (a b c : Rat) : 0 + a + b + c = a + b + c := by grind
abbrev N_law_roads : List Str := ["_law_table_here", "_law_start", "_law_goal", "_law_length_here", "_law_size", "_law_y", "_law_x"]
theorem sc_law_roads : FnScope N_law_roads ["_law_table_here", "_law_start", "_law_goal", "_law_length_here"] (defScope (top 74)) := ⟨rfl, rfl, rfl, by decide +kernel, rfl, by decide +kernel, by decide +kernel⟩
def preRoads : Pre := fun ds M R => ∃ (l n s g : Nat) (f : Tab) (q : Rat), ds = [matD n f, .int s, .int g, ratD q] ∧ n ≤ 9 ∧ l ≤ 28 ∧ LvM l n f ∧ Met n f ∧ s < n ∧ g < n ∧ Lv l q ∧ R (matD n (roadT s g q f)) M
theorem ok_law_roads (L : Lib K mg) (F : FnAt K mg "_law_roads" (top 74)) (c_law_total : Cal P w K T mg base "_law_total" 3 ["_law_pairs"] preTotal) (c_law_least : Cal P w K T mg base "_law_least" 2 ["_law_pairs"] preLeast) : Cal P w K T mg base "_law_roads" 4 ["_law_table_here", "_law_start", "_law_goal", "_law_length_here"] preRoads := by
  refine cal_of F sc_law_roads (fun ds M R h => by obtain ⟨_, _, _, _, _, _, rfl, _⟩ := h; rfl) (fun _ _ _ _ _ _ us hl => match us, hl with | [_, _, _, _], _ => rfl) fun f cdv A outer s H E hr => ⟨_, (pss_cons (ps_set (i := 4) sc_law_roads.nd rfl (by first | exact Or.inl rfl | exact Or.inr rfl) (pe_callB (call_len_seqK (K := K)) (by rfl) L.len_ boot_len (pa_cons (pv 0) pa_nil)))
    (pss_one (ps_ret (pe_lc (own := [("_law_x", 6)]) (tt := tYes) rfl sc_law_roads.nd (pi_range1 (by rfl) L.range_ (pa_cons (pv 4) pa_nil)) (blkOk_by (own := [("_law_x", 6)]) (N := N_law_roads) rfl) (fun _ _ _ _ _ => (pg_name (i := 6) sc_law_roads.nd rfl (by first | exact Or.inl rfl | exact Or.inr rfl))) (fun _ _ _ _ _ => pts_nil) (fun _ _ _ _ _ => (pe_lc (own := [("_law_y", 5)]) (tt := tYes) rfl sc_law_roads.nd (pi_range1 (by rfl) L.range_ (pa_cons (pv 4) pa_nil)) (blkOk_by (own := [("_law_y", 5)]) (N := N_law_roads) rfl) (fun _ _ _ _ _ => (pg_name (i := 5) sc_law_roads.nd rfl (by first | exact Or.inl rfl | exact Or.inr rfl))) (fun _ _ _ _ _ => pts_nil) (fun _ _ _ _ _ => (pe_ifExp (pt_cmpR op_eq (pv 6) (pv 5) (nomark _)) (pe_ix (ix_listK (K := K)) (pe_ix (ix_listK (K := K)) (pv 0) (pv 6) (fun _ _ => rfl)) (pv 5) (fun _ _ => rfl)) (pe_cal c_law_least (hr.mono (by decide)) (by rfl) (pa_cons (pe_lst (pa_cons (pe_ix (ix_listK (K := K)) (pe_ix (ix_listK (K := K)) (pv 0) (pv 6) (fun _ _ => rfl)) (pv 5) (fun _ _ => rfl)) (pa_cons (pe_cal c_law_total (hr) (by rfl) (pa_cons (pe_lst (pa_cons (pe_ix (ix_listK (K := K)) (pe_ix (ix_listK (K := K)) (pv 0) (pv 6) (fun _ _ => rfl)) (pv 1) (fun _ _ => rfl)) (pa_cons (pv 3) (pa_cons (pe_ix (ix_listK (K := K)) (pe_ix (ix_listK (K := K)) (pv 0) (pv 2) (fun _ _ => rfl)) (pv 5) (fun _ _ => rfl)) pa_nil)))) pa_nil)) pa_nil))) pa_nil)))))))))), fun ds M R h => ?_⟩
  obtain ⟨l, n, s, g, f, q, rfl, hn, hl, hv, hm, hs, hg, hq, k⟩ := h
  walk_at "d"
  rw [List.length_map, List.length_range]
  refine we_lcR (wa_cons (we_var rfl (wa_nil ⟨n, rfl, by omega, fun x => rowD n (roadT s g q f x), fun x hx => ?_, k⟩)))
  refine we_lcR (wa_cons (we_var rfl (wa_nil ⟨n, rfl, by omega, fun y => ratD (roadT s g q f x y), fun y hy => ?_, ⟨rfl, rfl⟩⟩)))
  have hqn := lv_nonneg hq
  walk_at "d"
  refine ite2 (fun h => ?_) (fun h => ?_)
  · have e : x = y := by have := of_decide_eq_true h; omega
    subst e
    walk_at "d"
    refine ⟨?_, rfl⟩
    show ratD (f x x) = ratD (roadT s g q f x x)
    rw [road_dg hm hs hg hqn hx]
  · walk_at "d"
    have f1 := hv x hx s hs
    have f2 := hv g hg y hy
    refine ⟨[f x s, q, f g y], rfl, ?_, ?_, ?_⟩
    · intro z hz
      simp only [List.mem_cons, List.not_mem_nil, or_false] at hz
      rcases hz with rfl | rfl | rfl
      · exact lv_fit f1 (by omega)
      · exact lv_fit hq (by omega)
      · exact lv_fit f2 (by omega)
    · intro i
      match i with
      | 0 => exact fit_zero
      | 1 => exact lv_fit (lv_add (lv_zero l) f1) (by omega)
      | 2 => exact lv_fit (lv_add (lv_add (lv_zero l) f1) (lv_succ hq)) (by omega)
      | i + 3 =>
        show Fit (([f x s, q, f g y].take (i + 3)).foldl (· + ·) 0)
        rw [List.take_of_length_le (by simp)]
        show Fit (0 + f x s + q + f g y)
        rw [zero_add3]
        exact lv_fit (lv_add (lv_add f1 hq) (lv_succ f2)) (by omega)
    · walk_at "d"
      refine ⟨f x y, f x s + q + f g y, ?_, lv_fit (hv x hx y hy) (by omega), lv_fit (lv_add (lv_add f1 hq) (lv_succ f2)) (by omega), rfl, rfl⟩
      show [D.lst [ratD (f x y), ratD (0 + f x s + q + f g y)]] = _
      rw [zero_add3]
abbrev N_law_put_in : List Str := ["_law_table_here", "_law_by", "_law_forth", "_law_back", "_law_size", "_law_rows", "_law_x", "_law_y"]
theorem sc_law_put_in : FnScope N_law_put_in ["_law_table_here", "_law_by", "_law_forth", "_law_back"] (defScope (top 76)) := ⟨rfl, rfl, rfl, by decide +kernel, rfl, by decide +kernel, by decide +kernel⟩
def prePutIn : Pre := fun ds M R => ∃ (l n b : Nat) (f : Tab) (x y : Rat), ds = [matD n f, .int b, ratD x, ratD y] ∧ n ≤ 9 ∧ l ≤ 28 ∧ LvM l n f ∧ b < n ∧ Lv l x ∧ Lv l y ∧ R (matD (n + 1) (putT n b x y f)) M
theorem put_row1 {n b : Nat} {x y : Rat} {f : Tab} {i : Nat} (h : i < n) : rowD (n + 1) (putT n b x y f i) = .lst (((List.range n).map fun j => ratD (f i j)) ++ [ratD (f i b + x)]) := by
  unfold rowD
  rw [List.range_succ, List.map_append]
  congr 1
  congr 1
  · apply List.map_congr_left
    intro j hj
    unfold putT
    rw [if_pos h, if_pos (List.mem_range.mp hj)]
  · simp [putT, h]
theorem put_row2 {n b : Nat} {x y : Rat} {f : Tab} : rowD (n + 1) (putT n b x y f n) = .lst (((List.range n).map fun j => ratD (y + f b j)) ++ [.tup [.int 0, .int 1]]) := by
  unfold rowD
  rw [List.range_succ, List.map_append]
  congr 1
  congr 1
  · apply List.map_congr_left
    intro j hj
    unfold putT
    rw [if_neg (by omega), if_pos (List.mem_range.mp hj)]
  · simp [putT]
theorem put_mat {n b : Nat} {x y : Rat} {f : Tab} : matD (n + 1) (putT n b x y f) = .lst (((List.range n).map fun i => .lst (((List.range n).map fun j => ratD (f i j)) ++ [ratD (f i b + x)])) ++ [.lst (((List.range n).map fun j => ratD (y + f b j)) ++ [.tup [.int 0, .int 1]])]) := by
  unfold matD
  rw [List.range_succ, List.map_append, List.map_singleton, put_row2]
  congr 2
  apply List.map_congr_left
  intro i hi
  exact put_row1 (List.mem_range.mp hi)
theorem ok_law_put_in (L : Lib K mg) (F : FnAt K mg "_law_put_in" (top 76)) (c_law_plus : CPlus P w K T mg base) : Cal P w K T mg base "_law_put_in" 3 ["_law_table_here", "_law_by", "_law_forth", "_law_back"] prePutIn := by
  refine cal_of F sc_law_put_in (fun ds M R h => by obtain ⟨_, _, _, _, _, _, rfl, _⟩ := h; rfl) (fun _ _ _ _ _ _ us hl => match us, hl with | [_, _, _, _], _ => rfl) fun f cdv A outer s H E hr => ⟨_, (pss_cons (ps_set (i := 4) sc_law_put_in.nd rfl (by first | exact Or.inl rfl | exact Or.inr rfl) (pe_callB (call_len_seqK (K := K)) (by rfl) L.len_ boot_len (pa_cons (pv 0) pa_nil)))
    (pss_cons (ps_setLc (i := 5) (own := [("_law_x", 6)]) (tt := tYes) rfl sc_law_put_in.nd rfl rfl (sw_true rfl rfl rfl (by decide +kernel)) (pi_range1 (by rfl) L.range_ (pa_cons (pv 4) pa_nil)) (blkOk_by (own := [("_law_x", 6)]) (N := N_law_put_in) rfl) (fun _ _ _ _ _ => (pg_name (i := 6) sc_law_put_in.nd rfl (by first | exact Or.inl rfl | exact Or.inr rfl))) (fun _ _ _ _ _ => pts_nil) (fun _ _ _ _ _ => (pe_op op_cat (pe_ix (ix_listK (K := K)) (pv 0) (pv 6) (fun _ _ => rfl)) (pe_lst (pa_cons (pe_cal c_law_plus (hr) (by rfl) (pa_cons (pe_ix (ix_listK (K := K)) (pe_ix (ix_listK (K := K)) (pv 0) (pv 6) (fun _ _ => rfl)) (pv 1) (fun _ _ => rfl)) (pa_cons (pv 2) pa_nil))) pa_nil)))))
    (pss_one (ps_ret (pe_op op_cat (pv 5) (pe_lst (pa_cons (pe_op op_cat (pe_lc (own := [("_law_y", 7)]) (tt := tYes) rfl sc_law_put_in.nd (pi_range1 (by rfl) L.range_ (pa_cons (pv 4) pa_nil)) (blkOk_by (own := [("_law_y", 7)]) (N := N_law_put_in) rfl) (fun _ _ _ _ _ => (pg_name (i := 7) sc_law_put_in.nd rfl (by first | exact Or.inl rfl | exact Or.inr rfl))) (fun _ _ _ _ _ => pts_nil) (fun _ _ _ _ _ => (pe_cal c_law_plus (hr) (by rfl) (pa_cons (pv 3) (pa_cons (pe_ix (ix_listK (K := K)) (pe_ix (ix_listK (K := K)) (pv 0) (pv 1) (fun _ _ => rfl)) (pv 7) (fun _ _ => rfl)) pa_nil))))) (pe_lst (pa_cons (pe_tup (pa_cons pe_int (pa_cons pe_int pa_nil))) pa_nil))) pa_nil))))))), fun ds M R h => ?_⟩
  obtain ⟨l, n, b, f, x, y, rfl, hn, hl, hv, hb, hx, hy, k⟩ := h
  rw [put_mat] at k
  walk_at "d"
  rw [List.length_map, List.length_range]
  refine we_lcR (wa_cons (we_var rfl (wa_nil ⟨n, rfl, by omega, fun i => .lst (((List.range n).map fun j => ratD (f i j)) ++ [ratD (f i b + x)]), fun i hi => ?_, ?_⟩)))
  · walk_at "d"
    refine ⟨_, _, rfl, lv_fit (hv i hi b hb) (by omega), lv_fit hx (by omega), ?_⟩
    walk_at "d"
    refine opd_cat ?_ ⟨rfl, rfl⟩
    rw [List.length_map, List.length_range]
    show n + 1 ≤ 1000
    omega
  · walk_at "d"
    refine we_lcR (wa_cons (we_var rfl (wa_nil ⟨n, rfl, by omega, fun j => ratD (y + f b j), fun j hj => ?_, ?_⟩)))
    · walk_at "d"
      exact ⟨_, _, rfl, lv_fit hy (by omega), lv_fit (hv b hb j hj) (by omega), rfl, rfl⟩
    · walk_at "d"
      refine opd_cat ?_ ?_
      · rw [List.length_map, List.length_range]
        show n + 1 ≤ 1000
        omega
      · walk_at "d"
        refine opd_cat ?_ ?_
        · rw [List.length_map, List.length_range]
          show n + 1 ≤ 1000
          omega
        · exact k
abbrev N_is_square : List Str := ["value", "row"]
theorem sc_is_square : FnScope N_is_square ["value"] (defScope (top 36)) := ⟨rfl, rfl, rfl, by decide +kernel, rfl, by decide +kernel, by decide +kernel⟩
def preSquare : Pre := fun ds M R => ∃ (n : Nat) (f : Tab), ds = [matD n f] ∧ 1 ≤ n ∧ n ≤ 9 ∧ R (.bl true) M
theorem ok_is_square (L : Lib K mg) (F : FnAt K mg "is_square" (top 36)) : Cal P w K T mg base "is_square" 1 ["value"] preSquare := by
  refine cal_of F sc_is_square (fun ds M R h => by obtain ⟨_, _, rfl, _⟩ := h; rfl) (fun _ _ _ _ _ _ us hl => match us, hl with | [_], _ => rfl) fun f cdv A outer s H E hr => ⟨_, (pss_cons (ps_if (PW.pt (pw_or (pt_not (pt_val (pe_callB (call_isiTK (K := K)) (by rfl) L.isinstance_ (by decide +kernel) (pa_cons (pv 0) (pa_cons (pe_tup (pa_cons (pe_tyn (n := "list") (by rfl) L.list_ (by decide +kernel)) (pa_cons (pe_tyn (n := "tuple") (by rfl) L.tuple_ (by decide +kernel)) pa_nil))) pa_nil))))) (pw_or1 (pt_not (pt_chain op_le op_le pe_int (pe_callB (call_len_seqK (K := K)) (by rfl) L.len_ boot_len (pa_cons (pv 0) pa_nil)) (pe_gint (by rfl) L.gMOST_PLACES)))))) (pss_one (ps_ret pe_bl)) pss_nil)
    (pss_one (ps_ret (pe_callB (cr_allK (K := K) rfl) (by rfl) L.all_ (by decide +kernel) (pa_cons (pe_lc (own := [("row", 1)]) (tt := tYes) rfl sc_is_square.nd (pi_listK (K := K) (pv 0)) (blkOk_by (own := [("row", 1)]) (N := N_is_square) rfl) (fun _ _ _ _ _ => (pg_name (i := 1) sc_is_square.nd rfl (by first | exact Or.inl rfl | exact Or.inr rfl))) (fun _ _ _ _ _ => pts_nil) (fun _ _ _ _ _ => (pe_and (pe_callB (call_isiTK (K := K)) (by rfl) L.isinstance_ (by decide +kernel) (pa_cons (pv 1) (pa_cons (pe_tup (pa_cons (pe_tyn (n := "list") (by rfl) L.list_ (by decide +kernel)) (pa_cons (pe_tyn (n := "tuple") (by rfl) L.tuple_ (by decide +kernel)) pa_nil))) pa_nil))) (pe_one (pe_cmpR op_eq (pe_callB (call_len_seqK (K := K)) (by rfl) L.len_ boot_len (pa_cons (pv 1) pa_nil)) (pe_callB (call_len_seqK (K := K)) (by rfl) L.len_ boot_len (pa_cons (pv 0) pa_nil)) (nomark _)))))) pa_nil))))), fun ds M R h => ?_⟩
  obtain ⟨n, f, rfl, h1, hn, k⟩ := h
  refine ws_seq (ws_ifF ?_ (ws_nx ?_))
  · walk_at "d"
    refine ⟨"list", true, false, rfl, rfl, rfl, _, rfl, ?_⟩
    refine ite2 (fun h => by cases h) fun _ => ?_
    walk_at "d"
    rw [List.length_map, List.length_range]
    refine ite2 (fun _ => ?_) fun h => absurd (decide_eq_true (show (1 : Int) ≤ n by omega)) h
    walk_at "d"
    obtain ⟨t, ht⟩ := L.gMOST_PLACES
    rw [decide_eq_true (show (n : Int) ≤ 9 by omega)]
    exact ⟨rfl, rfl⟩
  · show WS K T _ _ _ _
    walk_at "d"
    refine we_lcL (wi_list (we_var rfl ⟨_, rfl, ?_, fun _ => .bl true, fun i d hd => ?_, ?_⟩))
    · rw [List.length_map, List.length_range]; omega
    · rw [List.getElem?_map] at hd
      obtain ⟨j, e1, rfl⟩ := Option.map_eq_some_iff.mp hd
      walk_at "d"
      refine ⟨"list", true, false, rfl, rfl, rfl, _, rfl, ite_t ?_⟩
      walk_at "d"
      rw [List.length_map, List.length_range, List.length_map, List.length_range]
      refine ⟨?_, rfl⟩
      simp
    · walk_at "d"
      rw [List.length_map, List.length_range]
      rw [show ((List.range n).map fun _ => D.bl true) = (((List.range n).map fun _ => true).map D.bl) from by rw [List.map_map]; rfl]
      refine cad_all ?_
      rw [show (((List.range n).map fun _ => true).all id) = true from by simp]
      exact k
end
end Dl
end
/-! ## P5 -/
section
set_option maxRecDepth 100000
set_option maxHeartbeats 1000000
namespace Dl
open PySem PySem.Spec PyProof.Rows L2 Mx
local macro_rules | `(tactic| walk_at "d1") => `(tactic| with_reducible first
  | refine ws_seq ?_ | refine ws_asgN ?_ | refine ws_asg ?_ | refine wg_name ?_ | refine ws_ret ?_ | refine ws_nx ?_ | refine ws_expr ?_
  | refine we_op ?_ | refine we_un ?_ | refine we_int ?_ | refine we_str ?_ | refine we_bl ?_ | refine we_non ?_ | refine we_ty ?_ | refine we_if ?_ | refine we_and ?_ | refine we_or ?_ | refine we_not ?_ | refine we_chain ?_
  | refine we_tup ?_ | refine we_lst ?_ | refine we_listRng ?_ | refine we_isi2 ?_ | refine we_cb ?_ | refine we_call ?_ | refine wa_cons ?_ | refine wa_nil ?_ | refine we_sl ?_ | refine wo_no ?_ | refine wo_some ?_
  | refine wt_test ?_ | refine wt_B ?_ | refine wt_and ?_ | refine wt_or ?_ | refine wt_not ?_ | refine wt_yes ?_
  | refine opd_add ?_ | refine opd_sub ?_ | refine opd_lt ?_ | refine opd_le ?_ | refine opd_gt ?_ | refine opd_ge ?_ | refine opd_eqI ?_ | refine opd_neI ?_ | refine opd_eqS ?_ | refine opd_neS ?_ | refine opd_isN ?_ | refine opd_notN ?_
  | refine opd_mulW ?_ ?_ | refine opd_mul ?_ ?_ | refine opd_pow ?_ ?_ | refine opd_fdivW ?_ ?_ | refine opd_modN ?_ ?_
  | refine cad_gcd ?_ | refine cad_int1 ?_ | refine cad_intB ?_ | refine cad_abs ?_ | refine cad_lenT ?_ | refine cad_lenL ?_ | refine cad_lenLL ?_ | refine cad_list ?_ | refine sld_lst ?_ | refine sld_tup ?_ | refine sld_tp ?_
  | refine we_fld ?_ | refine we_meth ?_ | refine we_prop ?_ | refine ws_par ?_ | refine ite_t ?_ | refine ite_f ?_ | fail)
local macro_rules | `(tactic| walk_at "d2") => `(tactic| first
  | refine we_var rfl ?_ | (with_reducible refine we_zero (by assumption) ?_) | (with_reducible refine we_layers (by assumption) ?_) | refine opd_ixT rfl ?_ | refine opd_ixP rfl ?_ | (with_reducible refine opd_ixL (atI_rng (by assumption)) ?_) | (with_reducible refine ws_asgN ?_) | fail)
local macro_rules | `(tactic| walk_at "d3") => `(tactic| first | (with_reducible refine ⟨_, rfl, ?_⟩) | (with_reducible refine ⟨sz_ok rfl, ?_⟩) | (with_reducible refine ⟨_, _, rfl, ?_⟩) | fail)
local macro_rules | `(tactic| walk_at "e") => `(tactic| repeat' (first | walk_at "d1" | walk_at "d2" | walk_at "d3" | fail))
local macro_rules | `(tactic| walk_at "d") => `(tactic| repeat' (first | walk_at "d1" | walk_at "d2" | walk_at "d3" | (with_reducible refine ws_if ?_) | fail))
section
variable {P : Program} {w : World} {K : PySem.W.Frag} {T : Tb} {mg : Str → Option Value} {base : Heap}
abbrev N_first_fault : List Str := ["rows", "size", "start", "goal", "value", "sums", "by", "one"]
theorem sc_first_fault : FnScope N_first_fault ["rows"] (defScope (top 37)) := ⟨rfl, rfl, rfl, by decide +kernel, rfl, by decide +kernel, by decide +kernel⟩
def preFault : Pre := fun ds M R => ∃ (l n : Nat) (f : Tab), ds = [matD n f] ∧ n ≤ 9 ∧ l ≤ 28 ∧ LvM l n f ∧ Met n f ∧ R .non M
abbrev CRatioOf (P : Program) (w : World) (K : PySem.W.Frag) (T : Tb) (mg : Str → Option Value) (base : Heap) : Prop := Cal P w K T mg base "ratio_of" 3 ["value"] preRatioOf
theorem ok_first_fault (L : Lib K mg) (F : FnAt K mg "first_fault" (top 37)) (c_is_valued : Cal P w K T mg base "is_valued" 3 ["value"] preValued) (c_ratio_of : CRatioOf P w K T mg base)
    (c_plus : Cal P w K T mg base "plus" 2 ["one", "other"] (preRat2 fun p q => ratD (p + q))) (c_below : Cal P w K T mg base "below" 1 ["one", "other"] (preRat2 fun p q => .bl (decide (p < q)))) : Cal P w K T mg base "first_fault" 4 ["rows"] preFault := by
  refine cal_of F sc_first_fault (fun ds M R h => by obtain ⟨_, _, _, rfl, _⟩ := h; rfl) (fun _ _ _ _ _ _ us hl => match us, hl with | [_], _ => rfl) fun f cdv A outer s H E hr => ⟨_, (pss_cons (ps_set (i := 1) sc_first_fault.nd rfl (by first | exact Or.inl rfl | exact Or.inr rfl) (pe_callB (call_len_seqK (K := K)) (by rfl) L.len_ boot_len (pa_cons (pv 0) pa_nil)))
    (pss_cons (ps_for PassesOwn.never rfl (pi_range1 (by rfl) L.range_ (pa_cons (pv 1) pa_nil)) (pg_name (i := 2) sc_first_fault.nd rfl (by first | exact Or.inl rfl | exact Or.inr rfl)) (pss_one (ps_for PassesOwn.never rfl (pi_range1 (by rfl) L.range_ (pa_cons (pv 1) pa_nil)) (pg_name (i := 3) sc_first_fault.nd rfl (by first | exact Or.inl rfl | exact Or.inr rfl)) (pss_cons (ps_set (i := 4) sc_first_fault.nd rfl (by first | exact Or.inl rfl | exact Or.inr rfl) (pe_ix (ix_listK (K := K)) (pe_ix (ix_listK (K := K)) (pv 0) (pv 2) (fun _ _ => rfl)) (pv 3) (fun _ _ => rfl)))
    (pss_one (ps_if (PW.pt (pw_or (pt_not (pt_val (pe_cal c_is_valued (hr) (by rfl) (pa_cons (pv 4) pa_nil)))) (pw_or (pt_cmpR op_lt (pe_ix (ix_tupK (K := K)) (pe_cal c_ratio_of (hr) (by rfl) (pa_cons (pv 4) pa_nil)) pe_int (fun _ _ => rfl)) pe_int (nomark _)) (pw_or1 (PW.pt (pw_and (pt_cmpR op_eq (pv 2) (pv 3) (nomark _)) (pw_and1 (pt_cmpR (op_neDK (K := K) (hu64 hr)) (pe_cal c_ratio_of (hr) (by rfl) (pa_cons (pv 4) pa_nil)) (pe_glob (v := .ref (ga K "ZERO")) (by rfl) L.gZERO rfl) (nomark _))))))))) (pss_one (ps_ret (pe_tup (pa_cons (pv 2) (pa_cons (pv 3) pa_nil))))) pss_nil))))))
    (pss_cons (ps_for PassesOwn.never rfl (pi_range1 (by rfl) L.range_ (pa_cons (pv 1) pa_nil)) (pg_name (i := 2) sc_first_fault.nd rfl (by first | exact Or.inl rfl | exact Or.inr rfl)) (pss_one (ps_for PassesOwn.never rfl (pi_range1 (by rfl) L.range_ (pa_cons (pv 1) pa_nil)) (pg_name (i := 3) sc_first_fault.nd rfl (by first | exact Or.inl rfl | exact Or.inr rfl)) (pss_cons (ps_setLc (i := 5) (own := [("by", 6)]) (tt := tYes) rfl sc_first_fault.nd rfl rfl (sw_true rfl rfl rfl (by decide +kernel)) (pi_range1 (by rfl) L.range_ (pa_cons (pv 1) pa_nil)) (blkOk_by (own := [("by", 6)]) (N := N_first_fault) rfl) (fun _ _ _ _ _ => (pg_name (i := 6) sc_first_fault.nd rfl (by first | exact Or.inl rfl | exact Or.inr rfl))) (fun _ _ _ _ _ => pts_nil) (fun _ _ _ _ _ => (pe_cal c_plus (hr.mono (by decide)) (by rfl) (pa_cons (pe_cal c_ratio_of (hr) (by rfl) (pa_cons (pe_ix (ix_listK (K := K)) (pe_ix (ix_listK (K := K)) (pv 0) (pv 2) (fun _ _ => rfl)) (pv 6) (fun _ _ => rfl)) pa_nil)) (pa_cons (pe_cal c_ratio_of (hr) (by rfl) (pa_cons (pe_ix (ix_listK (K := K)) (pe_ix (ix_listK (K := K)) (pv 0) (pv 6) (fun _ _ => rfl)) (pv 3) (fun _ _ => rfl)) pa_nil)) pa_nil)))))
    (pss_one (ps_if (pt_val (pe_callB (cr_anyK (K := K) rfl) (by rfl) L.any_ (by decide +kernel) (pa_cons (pe_lc (own := [("one", 7)]) (tt := tYes) rfl sc_first_fault.nd (pi_listK (K := K) (pv 5)) (blkOk_by (own := [("one", 7)]) (N := N_first_fault) rfl) (fun _ _ _ _ _ => (pg_name (i := 7) sc_first_fault.nd rfl (by first | exact Or.inl rfl | exact Or.inr rfl))) (fun _ _ _ _ _ => pts_nil) (fun _ _ _ _ _ => (pe_cal c_below (hr.mono (by decide)) (by rfl) (pa_cons (pv 7) (pa_cons (pe_cal c_ratio_of (hr) (by rfl) (pa_cons (pe_ix (ix_listK (K := K)) (pe_ix (ix_listK (K := K)) (pv 0) (pv 2) (fun _ _ => rfl)) (pv 3) (fun _ _ => rfl)) pa_nil)) pa_nil))))) pa_nil))) (pss_one (ps_ret (pe_tup (pa_cons (pv 2) (pa_cons (pv 3) pa_nil))))) pss_nil))))))
    (pss_one (ps_ret pe_non))))), fun ds M R h => ?_⟩
  obtain ⟨l, n, f, rfl, hn, hl, hv, hm, k⟩ := h
  walk_at "d"
  rw [List.length_map, List.length_range]
  refine ws_seq (ws_for (wi_rng (wa_cons (we_var rfl (wa_nil ⟨n, rfl, by omega, fun i G M' => M' = M ∧ ∃ a b c, G = [some (matD n f), some (.int n), a, b, c, none, none, none], ⟨rfl, _, _, _, rfl⟩, ?_, ?_⟩)))))
  · rintro x d G1 M2 hd ⟨rfl, a, b, c, rfl⟩
    obtain ⟨rfl, hx⟩ := intsD_get hd
    walk_at "d"
    refine ws_for (wi_rng (wa_cons (we_var rfl (wa_nil ⟨n, rfl, by omega, fun i G M' => M' = M2 ∧ ∃ b c, G = [some (matD n f), some (.int n), some (.int x), b, c, none, none, none], ⟨rfl, _, _, rfl⟩, ?_, ?_⟩))))
    · rintro y d G1 M3 hd ⟨rfl, b, c, rfl⟩
      obtain ⟨rfl, hy⟩ := intsD_get hd
      refine wg_name (ws_seq (ws_asgN ?_))
      walk_at "e"
      refine ws_ifF ?_ (ws_nx ⟨rfl, _, _, rfl⟩)
      have v0 : valD (ratD (f x y)) (f x y) := .inl rfl
      walk_at "d"
      refine ⟨_, _, rfl, v0, _, rfl, ?_⟩
      refine ite2 (fun h => by cases h) fun _ => ?_
      walk_at "d"
      refine ⟨_, _, rfl, v0, ?_⟩
      walk_at "d"
      refine ite2 (fun h => absurd h (num_nn (hm.nn x hx y hy))) fun _ => ?_
      walk_at "d"
      refine ite2 (fun h => ?_) fun _ => ⟨rfl, rfl⟩
      have e : x = y := by have := of_decide_eq_true h; omega
      subst e
      walk_at "d"
      refine ⟨_, _, rfl, v0, ?_⟩
      walk_at "d"
      refine opd_neD rfl rfl rfl rfl ⟨_, rfl, ?_⟩
      rw [py_zero (hm.dg x hx)]
      exact ⟨rfl, rfl⟩
    · rintro G1 M3 ⟨rfl, b, c, rfl⟩
      exact ⟨rfl, _, _, _, rfl⟩
  · rintro G1 M2 ⟨rfl, a, b, c, rfl⟩
    refine ws_nx ?_
    show WS K T _ _ _ _
    refine ws_seq (ws_for (wi_rng (wa_cons (we_var rfl (wa_nil ⟨n, rfl, by omega, fun i G M' => M' = M2 ∧ ∃ a b d e f', G = [some (matD n f), some (.int n), a, b, c, d, e, f'], ⟨rfl, _, _, _, _, _, rfl⟩, ?_, ?_⟩)))))
    · rintro x d G1 M3 hd ⟨rfl, a, b, d, e, f', rfl⟩
      obtain ⟨rfl, hx⟩ := intsD_get hd
      walk_at "d"
      refine ws_for (wi_rng (wa_cons (we_var rfl (wa_nil ⟨n, rfl, by omega, fun i G M' => M' = M3 ∧ ∃ b d e f', G = [some (matD n f), some (.int n), some (.int x), b, c, d, e, f'], ⟨rfl, _, _, _, _, rfl⟩, ?_, ?_⟩))))
      · rintro y d G1 M4 hd ⟨rfl, b, d, e, f', rfl⟩
        obtain ⟨rfl, hy⟩ := intsD_get hd
        refine wg_name (ws_seq (ws_asgN ?_))
        refine we_lcR (wa_cons (we_var rfl (wa_nil ⟨n, rfl, by omega, fun b => ratD (f x b + f b y), fun b hb => ?_, ?_⟩)))
        · walk_at "d"
          refine ⟨_, _, rfl, .inl rfl, ?_⟩
          walk_at "d"
          refine ⟨_, _, rfl, .inl rfl, ?_⟩
          walk_at "d"
          exact ⟨_, _, rfl, lv_fit (hv x hx b hb) (by omega), lv_fit (hv b hb y hy) (by omega), rfl, rfl⟩
        · refine ws_ifF ?_ (ws_nx ⟨rfl, _, _, _, _, rfl⟩)
          walk_at "d"
          refine we_lcL (wi_list (we_var rfl ⟨_, rfl, ?_, fun _ => .bl false, fun i d hd => ?_, ?_⟩))
          · rw [List.length_map, List.length_range]; omega
          · rw [List.getElem?_map] at hd
            obtain ⟨b, e1, rfl⟩ := Option.map_eq_some_iff.mp hd
            have hb : b < n := by
              obtain ⟨hl, e3⟩ := List.getElem?_eq_some_iff.mp e1
              rw [List.getElem_range] at e3
              rw [List.length_range] at hl
              omega
            walk_at "d"
            refine ⟨_, _, rfl, .inl rfl, ?_⟩
            walk_at "d"
            refine ⟨_, _, rfl, lv_fit (lv_add (hv x hx b hb) (hv b hb y hy)) (by omega), lv_fit (hv x hx y hy) (by omega), ?_, rfl⟩
            show D.bl _ = D.bl _
            rw [decide_eq_false]
            have := hm.tri x hx b hb y hy
            grind
          · walk_at "d"
            rw [List.length_map, List.length_range]
            rw [show ((List.range n).map fun _ => D.bl false) = (((List.range n).map fun _ => false).map D.bl) from by rw [List.map_map]; rfl]
            refine cad_any ⟨_, rfl, ?_, rfl⟩
            simp
      · rintro G1 M4 ⟨rfl, b, d, e, f', rfl⟩
        exact ⟨rfl, _, _, _, _, _, rfl⟩
    · rintro G1 M3 ⟨rfl, a, b, d, e, f', rfl⟩
      show WS K T _ _ _ _
      walk_at "d"
      exact k
abbrev N_checked_table : List Str := ["layer", "rows", "size", "fault", "value", "row"]
theorem sc_checked_table : FnScope N_checked_table ["layer", "rows", "size"] (defScope (top 38)) := ⟨rfl, rfl, rfl, by decide +kernel, rfl, by decide +kernel, by decide +kernel⟩
def preCTable : Pre := fun ds M R => ∃ (l n : Nat) (f : Tab) (s : Str) (z : D), ds = [.str s, matD n f, z] ∧ (z = .non ∨ z = .int n) ∧ 1 ≤ n ∧ n ≤ 9 ∧ l ≤ 28 ∧ LvM l n f ∧ Met n f ∧ R (matD n f) M
theorem ok_checked_table (L : Lib K mg) (F : FnAt K mg "checked_table" (top 38)) (c_is_square : Cal P w K T mg base "is_square" 1 ["value"] preSquare) (c_ratio_of : CRatioOf P w K T mg base)
    (c_first_fault : Cal P w K T mg base "first_fault" 4 ["rows"] preFault) : Cal P w K T mg base "checked_table" 5 ["layer", "rows", "size"] preCTable := by
  refine cal_of F sc_checked_table (fun ds M R h => by obtain ⟨_, _, _, _, _, rfl, _⟩ := h; rfl) (fun _ _ _ _ _ _ us hl => match us, hl with | [_, _, _], _ => rfl) fun f cdv A outer s H E hr => ⟨_, (pss_cons (ps_if (PW.pt (pw_or (pt_not (pt_val (pe_cal c_is_square (hr.mono (by decide)) (by rfl) (pa_cons (pv 1) pa_nil)))) (pw_or1 (PW.pt (pw_and (pt_cmpR op_notN (pv 2) pe_non (nomark _)) (pw_and1 (pt_cmpR op_ne (pe_callB (call_len_seqK (K := K)) (by rfl) L.len_ boot_len (pa_cons (pv 1) pa_nil)) (pv 2) (nomark _)))))))) (pss_one ps_never) pss_nil)
    (pss_cons (ps_set (i := 3) sc_checked_table.nd rfl (by first | exact Or.inl rfl | exact Or.inr rfl) (pe_cal c_first_fault (hr) (by rfl) (pa_cons (pv 1) pa_nil)))
    (pss_cons (ps_if (pt_cmpR op_notN (pv 3) pe_non (nomark _)) (pss_one ps_never) pss_nil)
    (pss_one (ps_ret (pe_lc (own := [("row", 5)]) (tt := tYes) rfl sc_checked_table.nd (pi_listK (K := K) (pv 1)) (blkOk_by (own := [("row", 5)]) (N := N_checked_table) rfl) (fun _ _ _ _ _ => (pg_name (i := 5) sc_checked_table.nd rfl (by first | exact Or.inl rfl | exact Or.inr rfl))) (fun _ _ _ _ _ => pts_nil) (fun _ _ _ _ _ => (pe_lc (own := [("value", 4)]) (tt := tYes) rfl sc_checked_table.nd (pi_listK (K := K) (pv 5)) (blkOk_by (own := [("value", 4)]) (N := N_checked_table) rfl) (fun _ _ _ _ _ => (pg_name (i := 4) sc_checked_table.nd rfl (by first | exact Or.inl rfl | exact Or.inr rfl))) (fun _ _ _ _ _ => pts_nil) (fun _ _ _ _ _ => (pe_cal c_ratio_of (hr.mono (by decide)) (by rfl) (pa_cons (pv 4) pa_nil))))))))))), fun ds M R h => ?_⟩
  obtain ⟨l, n, f, s, z, rfl, hz, h1, hn, hl, hv, hm, k⟩ := h
  refine ws_seq (ws_ifF ?_ (ws_nx ?_))
  · walk_at "d"
    refine ⟨n, f, rfl, h1, hn, _, rfl, ?_⟩
    refine ite2 (fun h => by cases h) fun _ => ?_
    walk_at "d"
    rcases hz with rfl | rfl
    · refine ite2 (fun h => by cases h) fun _ => ⟨rfl, rfl⟩
    · refine ite2 (fun _ => ?_) fun h => absurd rfl h
      walk_at "d"
      rw [List.length_map, List.length_range]
      exact ⟨by simp, rfl⟩
  · show WS K T _ _ _ _
    walk_at "e"
    refine ⟨l, n, f, rfl, hn, hl, hv, hm, ?_⟩
    refine ws_seq (ws_ifF ?_ (ws_nx ?_))
    · walk_at "d"
      exact ⟨rfl, rfl⟩
    · show WS K T _ _ _ _
      walk_at "d"
      refine we_lcL (wi_list (we_var rfl ⟨_, rfl, ?_, fun i => rowD n (f i), fun i d hd => ?_, ?_⟩))
      · rw [List.length_map, List.length_range]; omega
      · rw [List.getElem?_map] at hd
        obtain ⟨i', e1, rfl⟩ := Option.map_eq_some_iff.mp hd
        obtain ⟨hl1, e3⟩ := List.getElem?_eq_some_iff.mp e1
        rw [List.getElem_range] at e3
        subst e3
        refine we_lcL (wi_list (we_var rfl ⟨_, rfl, ?_, fun j => ratD (f i j), fun j d hd => ?_, ?_⟩))
        · rw [List.length_map, List.length_range]; omega
        · rw [List.getElem?_map] at hd
          obtain ⟨j', e1, rfl⟩ := Option.map_eq_some_iff.mp hd
          obtain ⟨hl1, e3⟩ := List.getElem?_eq_some_iff.mp e1
          rw [List.getElem_range] at e3
          subst e3
          walk_at "d"
          exact ⟨_, _, rfl, .inl rfl, rfl, rfl⟩
        · rw [List.length_map, List.length_range]
          exact ⟨rfl, rfl⟩
      · rw [List.length_map, List.length_range]
        exact k
end
end Dl
end
/-! ## P6 -/
section
set_option maxRecDepth 100000
set_option maxHeartbeats 1000000
namespace Dl
open PySem PySem.Spec PyProof.Rows L2 Mx
local macro_rules | `(tactic| walk_at "d1") => `(tactic| with_reducible first
  | refine ws_seq ?_ | refine ws_asgN ?_ | refine ws_asg ?_ | refine wg_name ?_ | refine ws_ret ?_ | refine ws_nx ?_ | refine ws_expr ?_
  | refine we_op ?_ | refine we_un ?_ | refine we_int ?_ | refine we_str ?_ | refine we_bl ?_ | refine we_non ?_ | refine we_ty ?_ | refine we_if ?_ | refine we_and ?_ | refine we_or ?_ | refine we_not ?_ | refine we_chain ?_
  | refine we_tup ?_ | refine we_lst ?_ | refine we_listRng ?_ | refine we_isi2 ?_ | refine we_cb ?_ | refine we_call ?_ | refine wa_cons ?_ | refine wa_nil ?_ | refine we_sl ?_ | refine wo_no ?_ | refine wo_some ?_
  | refine wt_test ?_ | refine wt_B ?_ | refine wt_and ?_ | refine wt_or ?_ | refine wt_not ?_ | refine wt_yes ?_
  | refine opd_add ?_ | refine opd_sub ?_ | refine opd_lt ?_ | refine opd_le ?_ | refine opd_gt ?_ | refine opd_ge ?_ | refine opd_eqI ?_ | refine opd_neI ?_ | refine opd_eqS ?_ | refine opd_neS ?_ | refine opd_isN ?_ | refine opd_notN ?_
  | refine opd_mulW ?_ ?_ | refine opd_mul ?_ ?_ | refine opd_pow ?_ ?_ | refine opd_fdivW ?_ ?_ | refine opd_modN ?_ ?_
  | refine cad_gcd ?_ | refine cad_int1 ?_ | refine cad_intB ?_ | refine cad_abs ?_ | refine cad_lenT ?_ | refine cad_lenL ?_ | refine cad_lenLL ?_ | refine cad_list ?_ | refine sld_lst ?_ | refine sld_tup ?_ | refine sld_tp ?_
  | refine we_fld ?_ | refine we_meth ?_ | refine we_prop ?_ | refine ws_par ?_ | refine ite_t ?_ | refine ite_f ?_ | fail)
local macro_rules | `(tactic| walk_at "d2") => `(tactic| first
  | refine we_var rfl ?_ | (with_reducible refine we_zero (by assumption) ?_) | (with_reducible refine we_layers (by assumption) ?_) | refine opd_ixT rfl ?_ | refine opd_ixP rfl ?_ | (with_reducible refine opd_ixL (atI_rng (by assumption)) ?_) | (with_reducible refine ws_asgN ?_) | fail)
local macro_rules | `(tactic| walk_at "d3") => `(tactic| first | (with_reducible refine ⟨_, rfl, ?_⟩) | (with_reducible refine ⟨sz_ok rfl, ?_⟩) | (with_reducible refine ⟨_, _, rfl, ?_⟩) | fail)
local macro_rules | `(tactic| walk_at "e") => `(tactic| repeat' (first | walk_at "d1" | walk_at "d2" | walk_at "d3" | fail))
local macro_rules | `(tactic| walk_at "d") => `(tactic| repeat' (first | walk_at "d1" | walk_at "d2" | walk_at "d3" | (with_reducible refine ws_if ?_) | fail))
section
variable {P : Program} {w : World} {K : PySem.W.Frag} {T : Tb} {mg : Str → Option Value} {base : Heap}
abbrev N_is_name : List Str := ["value", "sign"]
theorem sc_is_name : FnScope N_is_name ["value"] (defScope (top 31)) := ⟨rfl, rfl, rfl, by decide +kernel, rfl, by decide +kernel, by decide +kernel⟩
def preName : Pre := fun ds M R => ∃ s : Str, ds = [.str s] ∧ GoodN s ∧ R (.bl true) M
theorem ok_is_name (L : Lib K mg) (F : FnAt K mg "is_name" (top 31)) : Cal P w K T mg base "is_name" 1 ["value"] preName := by
  refine cal_of F sc_is_name (fun ds M R h => by obtain ⟨t, rfl, _⟩ := h; rfl) (fun _ _ _ _ _ _ us hl => match us, hl with | [_], _ => rfl) fun f cdv A outer s H E hr => ⟨_, (pss_cons (ps_if (PW.pt (pw_or (pt_not (pt_val (pe_callB (call_isiK (K := K)) (by rfl) L.isinstance_ (by decide +kernel) (pa_cons (pv 0) (pa_cons (pe_tyn (n := "str") (by rfl) L.str_ (by decide +kernel)) pa_nil))))) (pw_or1 (pt_not (pt_chain op_le op_le pe_int (pe_callB (call_lenK (K := K)) (by rfl) L.len_ boot_len (pa_cons (pv 0) pa_nil)) pe_int))))) (pss_one (ps_ret pe_bl)) pss_nil)
    (pss_one (ps_ret (pe_callB (cr_allK (K := K) rfl) (by rfl) L.all_ (by decide +kernel) (pa_cons (pe_lc (own := [("sign", 1)]) (tt := tYes) rfl sc_is_name.nd (pi_str (pv 0)) (blkOk_by (own := [("sign", 1)]) (N := N_is_name) rfl) (fun _ _ _ _ _ => (pg_name (i := 1) sc_is_name.nd rfl (by first | exact Or.inl rfl | exact Or.inr rfl))) (fun _ _ _ _ _ => pts_nil) (fun _ _ _ _ _ => (pe_cmpR op_in_sign (pv 1) (pe_gstr (by rfl) L.gLETTERS) (by rfl)))) pa_nil))))), fun ds M R h => ?_⟩
  obtain ⟨s, rfl, hg, k⟩ := h
  have hlo := hg.lo
  have hhi := hg.hi
  refine ws_seq (ws_ifF ?_ (ws_nx ?_))
  · walk_at "d"
    refine cad_isi (b := true) rfl rfl ⟨_, rfl, ?_⟩
    refine ite2 (fun h => by cases h) fun _ => ?_
    walk_at "d"
    refine cad_lenS (small_len (by omega)) ?_
    walk_at "d"
    refine ite2 (fun _ => ?_) fun h => absurd (decide_eq_true (show (1 : Int) ≤ (s.length : Nat) by omega)) h
    walk_at "d"
    rw [decide_eq_true (show ((s.length : Nat) : Int) ≤ 5 by omega)]
    exact ⟨rfl, rfl⟩
  · show WS K T _ _ _ _
    walk_at "d"
    refine we_lcL (wi_str (we_var rfl ⟨s, rfl, ?_, fun _ => .bl true, fun i d hd => ?_, ?_⟩))
    · rw [List.length_map, ← str_len]; omega
    · rw [List.getElem?_map] at hd
      obtain ⟨c, e1, rfl⟩ := Option.map_eq_some_iff.mp hd
      walk_at "d"
      refine opd_sign ⟨?_, rfl⟩
      rw [decide_eq_true]
      exact hg.al c (List.mem_of_getElem? e1)
    · walk_at "d"
      rw [List.length_map]
      rw [show ((List.range s.cps.toList.length).map fun _ => D.bl true) = (((List.range s.cps.toList.length).map fun _ => true).map D.bl) from by rw [List.map_map]; rfl]
      refine cad_all ?_
      rw [show (((List.range s.cps.toList.length).map fun _ => true).all id) = true from by simp]
      exact k
abbrev N_is_layer : List Str := ["value", "layers"]
theorem sc_is_layer : FnScope N_is_layer ["value", "layers"] (defScope (top 32)) := ⟨rfl, rfl, rfl, by decide +kernel, rfl, by decide +kernel, by decide +kernel⟩
def preLayer : Pre := fun ds M R => ∃ a k : Nat, ds = [.str (lay a), .int k] ∧ a < k ∧ k ≤ 2 ∧ R (.bl true) M
theorem ok_is_layer (L : Lib K mg) (F : FnAtD K mg "is_layer" (top 32) [.int 2]) : Cal P w K T mg base "is_layer" 1 ["value", "layers"] preLayer := by
  refine cal_ofF F (by simp) sc_is_layer (fun ds M R h => by obtain ⟨t, _, rfl, _⟩ := h; rfl) (fun _ _ _ _ _ _ _ us its hl h2 => match us, its, hl, h2 with | [_, _], [_], _, _ => ⟨_, rfl, rfl⟩) fun f cdv A outer s H E hr => ⟨_, (pss_one (ps_ret (pe_and (pe_callB (call_isiK (K := K)) (by rfl) L.isinstance_ (by decide +kernel) (pa_cons (pv 0) (pa_cons (pe_tyn (n := "str") (by rfl) L.str_ (by decide +kernel)) pa_nil))) (pe_one (pe_cmpR (op_in_seqK (K := K)) (pv 0) (pe_slice (sl_tupAK (K := K)) (pe_glob (v := .ref (ga K "LAYERS")) (by rfl) L.gLAYERS rfl) po_none (po_some (pv 1))) (by rfl)))))), fun ds M R h => ?_⟩
  obtain ⟨a, b, rfl, hab, hb, k⟩ := h
  have cases3 : (a = 0 ∧ b = 1) ∨ (a = 0 ∧ b = 2) ∨ (a = 1 ∧ b = 2) := by omega
  walk_at "d"
  refine cad_isi (b := true) rfl rfl ⟨_, rfl, ite_t ?_⟩
  walk_at "d"
  rcases cases3 with ⟨rfl, rfl⟩ | ⟨rfl, rfl⟩ | ⟨rfl, rfl⟩
  · exact opd_inT rfl rfl k
  · exact opd_inT rfl rfl k
  · exact opd_inT rfl rfl k
abbrev N_checked_places : List Str := ["names", "size", "name", "found", "other"]
theorem sc_checked_places : FnScope N_checked_places ["names", "size"] (defScope (top 39)) := ⟨rfl, rfl, rfl, by decide +kernel, rfl, by decide +kernel, by decide +kernel⟩
def preCPlaces : Pre := fun ds M R => ∃ (p : Addr) (n : Nat) (nm0 nm : Nm), ds = [.dK p (keysN nm0) (valsN nm0), .int n] ∧ nm0.Perm nm ∧ NmOk n nm ∧ M.lk = [] ∧ ∀ q, R (.dK q (keysN nm) (valsN nm)) M
theorem place_perm {nm0 nm : Nm} (hp : nm0.Perm nm) (hn : (nm.map (·.1)).Nodup) {p : Str × Nat} (h : p ∈ nm) : placeN nm0 p.1 = some p.2 :=
  place_mem ((hp.map (·.1)).nodup_iff.mpr hn) (hp.mem_iff.mpr h)
theorem in_ints (b : Int) (xs : List Int) : inV (.int b) (xs.map V.int) = decide (b ∈ xs) := by
  induction xs with
  | nil => rfl
  | cons a xs ih =>
    unfold inV at ih ⊢
    rw [List.map_cons, List.any_cons, ih]
    show (decide (a = b) || _) = _
    by_cases h : a = b
    · simp [h]
    · have h' : ¬ b = a := fun z => h z.symm
      simp [h, h']
theorem keysN_map (nm : Nm) : keysN nm = (nm.map (·.1)).map Sum.inr := by unfold keysN; rw [List.map_map]; rfl
theorem take_succN {nm : Nm} {i : Nat} {p : Str × Nat} (h : nm[i]? = some p) : nm.take (i + 1) = nm.take i ++ [p] := by
  rw [List.take_succ, h]
  rfl
theorem keysN_take {nm : Nm} {i : Nat} {p : Str × Nat} (h : nm[i]? = some p) : keysN (nm.take (i + 1)) = keysN (nm.take i) ++ [.inr p.1] := by
  rw [take_succN h]
  unfold keysN
  rw [List.map_append]
  rfl
theorem valsN_take {nm : Nm} {i : Nat} {p : Str × Nat} (h : nm[i]? = some p) : valsN (nm.take (i + 1)) = valsN (nm.take i) ++ [.int (p.2 : Nat)] := by
  rw [take_succN h]
  unfold valsN
  rw [List.map_append]
  rfl
theorem nd_take {α : Type} {xs : List α} {i : Nat} {x : α} (hn : xs.Nodup) (h : xs[i]? = some x) : x ∉ xs.take i := fun z => by
  obtain ⟨j, hj, e⟩ := List.getElem_of_mem z
  rw [List.getElem_take] at e
  obtain ⟨hi, e2⟩ := List.getElem?_eq_some_iff.mp h
  rw [List.length_take] at hj
  have := (List.getElem_inj hn).mp (e.trans e2.symm)
  omega
theorem free_lock {M : MS} {q : Addr} (h : M.lk = []) : freeM (lockM M q) = M := by
  cases M
  subst h
  rfl
theorem ok_checked_places (L : Lib K mg) (F : FnAt K mg "checked_places" (top 39)) (c_is_name : Cal P w K T mg base "is_name" 1 ["value"] preName) (c_is_number : Cal P w K T mg base "is_number" 2 ["value", "least", "most"] preNumber) : Cal P w K T mg base "checked_places" 3 ["names", "size"] preCPlaces := by
  refine cal_of F sc_checked_places (fun ds M R h => by obtain ⟨_, _, _, _, rfl, _⟩ := h; rfl) (fun _ _ _ _ _ _ us hl => match us, hl with | [_, _], _ => rfl) fun f cdv A outer s H E hr => ⟨_, (pss_cons (ps_for PassesOwn.never rfl (pi_listK (K := K) (pe_callB (call_sortedD rfl) (by rfl) L.sorted_ (by decide +kernel) (pa_cons (pv 0) pa_nil))) (pg_name (i := 2) sc_checked_places.nd rfl (by first | exact Or.inl rfl | exact Or.inr rfl)) (pss_one (ps_if (pt_not (pt_val (pe_cal c_is_name (hr.mono (by decide)) (by rfl) (pa_cons (pv 2) pa_nil)))) (pss_one ps_never) pss_nil)))
    (pss_cons (ps_if (pt_cmpR op_gt (pe_callB call_lenD (by rfl) L.len_ boot_len (pa_cons (pv 0) pa_nil)) (pe_gint (by rfl) L.gMOST_NAMED) (nomark _)) (pss_one ps_never) pss_nil)
    (pss_cons (ps_set (i := 3) sc_checked_places.nd rfl (by first | exact Or.inl rfl | exact Or.inr rfl) pe_dnewK)
    (pss_cons (ps_for PassesOwn.never rfl (pi_listK (K := K) (pe_callB (call_sortedD rfl) (by rfl) L.sorted_ (by decide +kernel) (pa_cons (pv 0) pa_nil))) (pg_name (i := 2) sc_checked_places.nd rfl (by first | exact Or.inl rfl | exact Or.inr rfl)) (pss_cons (ps_if (PW.pt (pw_or (pt_not (pt_val (pe_cal c_is_number (hr) (by rfl) (pa_cons (pe_dget (hu_of hr) (pv 0) (pv 2) (fun _ _ => rfl)) (pa_cons pe_int (pa_cons (pe_op op_sub (pv 1) pe_int) pa_nil)))))) (pw_or1 (pt_cmpR (op_in_seqK (K := K)) (pe_dget (hu_of hr) (pv 0) (pv 2) (fun _ _ => rfl)) (pe_lock (pe_lc (own := [("other", 4)]) (tt := tYes) rfl sc_checked_places.nd (pi_keys (pv 3)) (blkOk_by (own := [("other", 4)]) (N := N_checked_places) rfl) (fun _ _ _ _ _ => (pg_name (i := 4) sc_checked_places.nd rfl (by first | exact Or.inl rfl | exact Or.inr rfl))) (fun _ _ _ _ _ => pts_nil) (fun _ _ _ _ _ => (pe_dget (hu_of hr) (pv 3) (pv 4) (fun _ _ => rfl))))) (by rfl))))) (pss_one ps_never) pss_nil)
    (pss_one (ps_dput (hu_of hr) (pv 3) (pv 2) (pe_dget (hu_of hr) (pv 0) (pv 2) (fun _ _ => rfl)) rfl))))
    (pss_one (ps_ret (pv 3))))))), fun ds M R h => ?_⟩
  obtain ⟨p, n, nm0, nm, rfl, hp, ok, hlk, k⟩ := h
  have hl5 := ok.ln
  have hl0 : nm0.length = nm.length := hp.length_eq
  have srt : ∀ ys : List Str, ys.Perm (nm0.map (·.1)) → sortedS ys = true → ys = nm.map (·.1) := fun ys h1 h2 => sorted_uniq (h1.trans (hp.map _)) h2 ok.so
  have srtD : ∀ (G : Sl) (R' : D → MS → Prop), G[0]? = some (some (.dK p (keysN nm0) (valsN nm0))) → ∀ M' : MS, R' (.lst ((nm.map (·.1)).map D.str)) M' → WE K T (tCB (fun xs H Q => ∃ (a : Addr) (kvs : List (Key × V)) (ks : List Str), xs = [V.ref a] ∧ Rd H a (.dK kvs) ∧ kvs.map (·.1) = ks.map Sum.inr ∧ ks.length < 64 ∧ ∀ ys p, ys.Perm ks → sortedS ys = true → H p = none → Q (.ref p) (upd H p (.lst (ys.map V.str)))) (tCons (tVar 0) tNil)) G M' R' := fun G R' hg M' q => by
    refine we_cb (wa_cons (we_var hg (wa_nil (cad_sortedD (ks := nm0.map (·.1)) (.inl (by rw [keysN_map])) (by rw [List.length_map]; omega) fun ys h1 h2 => ?_))))
    rw [srt ys h1 h2]
    exact q
  refine ws_seq (ws_for (wi_list (srtD _ _ rfl _ ⟨_, rfl, fun i G M' => M' = M ∧ ∃ x, G = [some (.dK p (keysN nm0) (valsN nm0)), some (.int n), x, none, none], ⟨rfl, _, rfl⟩, ?_, ?_⟩)))
  · rintro i d G1 M2 hd ⟨rfl, x, rfl⟩
    rw [List.map_map, List.getElem?_map] at hd
    obtain ⟨q, e1, rfl⟩ := Option.map_eq_some_iff.mp hd
    refine wg_name (ws_ifF ?_ (ws_nx ⟨rfl, _, rfl⟩))
    walk_at "d"
    exact ⟨_, rfl, ok.gd q (List.mem_of_getElem? e1), _, rfl, rfl, rfl⟩
  · rintro G1 M2 ⟨rfl, x, rfl⟩
    show WS K T _ _ _ _
    refine ws_seq (ws_ifF ?_ (ws_nx ?_))
    · walk_at "d"
      refine cad_lenD rfl hlk ?_
      walk_at "d"
      rw [decide_eq_false]
      · exact ⟨rfl, rfl⟩
      · unfold keysN
        rw [List.length_map]
        omega
    · show WS K T _ _ _ _
      refine ws_seq (ws_asgN (we_dnK fun q hq => ?_))
      show WS K T _ _ _ _
      refine ws_seq (ws_for (wi_list (srtD _ _ rfl _ ⟨_, rfl, fun i G M' => M' = addM M2 q (.dK (keysN (nm.take i)) (valsN (nm.take i))) ∧ ∃ x y, G = [some (.dK p (keysN nm0) (valsN nm0)), some (.int n), x, some (.ptr q), y], ⟨rfl, _, _, rfl⟩, ?_, ?_⟩)))
      · rintro i d G1 M3 hd ⟨rfl, x, y, rfl⟩
        rw [List.map_map, List.getElem?_map] at hd
        obtain ⟨z, e1, rfl⟩ := Option.map_eq_some_iff.mp hd
        have hz : z ∈ nm := List.mem_of_getElem? e1
        have hz2 := ok.pl z hz
        have dv : dval (keysN nm0) (valsN nm0) (.inr z.1) = some (.int (z.2 : Nat)) := by rw [dval_nm, place_perm hp ok.nd hz]; rfl
        have gm : getM (addM M2 q (.dK (keysN (nm.take i)) (valsN (nm.take i)))) q = some (.dK (keysN (nm.take i)) (valsN (nm.take i))) := getM_add
        refine wg_name (ws_seq (ws_ifF ?_ (ws_nx ?_)))
        · walk_at "d"
          refine we_dget (we_var rfl (we_var rfl ⟨p, _, _, _, _, .inl rfl, rfl, dv, ?_⟩))
          walk_at "d"
          refine ⟨_, _, _, rfl, _, rfl, ?_⟩
          rw [decide_eq_true (show (0 : Int) ≤ (z.2 : Nat) ∧ ((z.2 : Nat) : Int) ≤ (n : Nat) - 1 by omega)]
          refine ite2 (fun h => by cases h) fun _ => ?_
          walk_at "d"
          refine we_dget (we_var rfl (we_var rfl ⟨p, _, _, _, _, .inl rfl, rfl, dv, ?_⟩))
          refine we_lock (loc_mK gm) hlk ?_
          refine we_lcL (wi_keys (we_var rfl ⟨q, _, _, .inr ⟨rfl, gm⟩, List.mem_cons_self, ?_, fun j => (valsN (nm.take i)).getD j .non, fun j d hd => ?_, ?_⟩))
          · unfold keysN
            rw [List.length_map, List.length_map, List.length_take]
            omega
          · unfold keysN at hd
            rw [List.map_map, List.getElem?_map] at hd
            obtain ⟨z', e3, rfl⟩ := Option.map_eq_some_iff.mp hd
            have nd' : ((nm.take i).map (·.1)).Nodup := by rw [List.map_take]; exact ok.nd.sublist (List.take_sublist _ _)
            have dv' : dval (keysN (nm.take i)) (valsN (nm.take i)) (.inr z'.1) = some (.int (z'.2 : Nat)) := by rw [dval_nm, place_mem nd' (List.mem_of_getElem? e3)]; rfl
            refine we_dget (we_var rfl (we_var rfl ⟨q, _, _, _, _, .inr ⟨rfl, gm⟩, rfl, dv', ?_, rfl⟩))
            show D.int _ = (List.map (fun p : Str × Nat => D.int (p.2 : Nat)) (List.take i nm)).getD j D.non
            rw [List.getD_eq_getElem?_getD, List.getElem?_map, e3]
            rfl
          · have e4 : (List.range ((keysN (nm.take i)).map keyD).length).map (fun j => (valsN (nm.take i)).getD j .non) = ((nm.take i).map fun p => ((p.2 : Nat) : Int)).map D.int := by
              symm
              apply rng_ext
              · unfold keysN; simp
              · intro j d hd
                rw [List.map_map] at hd
                have hd' : (valsN (nm.take i))[j]? = some d := hd
                rw [List.getD_eq_getElem?_getD, hd']
                rfl
            rw [e4, free_lock (M := addM M2 q _) hlk]
            refine opd_inL rfl (List.all_eq_true.mpr fun d hd => by obtain ⟨_, _, rfl⟩ := List.mem_map.mp hd; rfl) ?_
            have e5 : (((nm.take i).map fun p => ((p.2 : Nat) : Int)).map D.int).map vOf = ((nm.take i).map fun p => ((p.2 : Nat) : Int)).map V.int := by rw [List.map_map]; rfl
            rw [e5]
            show ∃ b, D.bl (if false = true then _ else inV (.int (z.2 : Nat)) _) = D.bl b ∧ b = false ∧ _
            rw [in_ints]
            refine ⟨_, rfl, ?_, rfl⟩
            show (if false = true then _ else decide _) = false
            rw [if_neg (by simp), decide_eq_false]
            intro hm
            obtain ⟨z', h1, h2⟩ := List.mem_map.mp hm
            have hnd := nd_take ok.pd (i := i) (x := z.2) (by rw [List.getElem?_map, e1]; rfl)
            rw [← List.map_take] at hnd
            exact hnd (List.mem_map.mpr ⟨z', h1, by omega⟩)
        · show WS K T _ _ _ _
          refine ws_dputN ?_
          refine we_dget (we_var rfl (we_var rfl ⟨p, _, _, _, _, .inl rfl, rfl, dv, ?_⟩))
          refine we_var rfl (we_var rfl ⟨q, _, _, .inr z.1, rfl, gm, rfl, ?_, ?_, ?_, ?_⟩)
          · intro hm
            rw [keysN_map] at hm
            have hnd := nd_take ok.nd (i := i) (x := z.1) (by rw [List.getElem?_map, e1]; rfl)
            rw [← List.map_take] at hnd
            obtain ⟨y', h1, h2⟩ := List.mem_map.mp hm
            rw [← Sum.inr.inj h2] at hnd
            exact hnd h1
          · unfold keysN
            rw [List.length_map, List.length_take]
            omega
          · show q ∉ M2.lk
            rw [hlk]
            simp
          · refine ⟨?_, _, _, rfl⟩
            rw [setM_add hq, ← keysN_take e1, ← valsN_take e1]
      · rintro G1 M3 ⟨rfl, x, y, rfl⟩
        show WS K T _ _ _ _
        refine ws_ret (we_freeze (we_var rfl ⟨q, _, M2, _, rfl, rfl, rfl, ?_⟩))
        have e6 : nm.take ((nm.map (·.1)).map D.str).length = nm := by rw [List.length_map, List.length_map, List.take_length]
        rw [e6]
        exact k q
end
end Dl
end
/-! ## P7 -/
section
set_option maxRecDepth 100000
set_option maxHeartbeats 1000000
namespace Dl
open PySem PySem.Spec PyProof.Rows L2 Mx
local macro_rules | `(tactic| walk_at "d1") => `(tactic| with_reducible first
  | refine ws_seq ?_ | refine ws_asgN ?_ | refine ws_asg ?_ | refine wg_name ?_ | refine ws_ret ?_ | refine ws_nx ?_ | refine ws_expr ?_
  | refine we_op ?_ | refine we_un ?_ | refine we_int ?_ | refine we_str ?_ | refine we_bl ?_ | refine we_non ?_ | refine we_ty ?_ | refine we_if ?_ | refine we_and ?_ | refine we_or ?_ | refine we_not ?_ | refine we_chain ?_
  | refine we_tup ?_ | refine we_lst ?_ | refine we_listRng ?_ | refine we_isi2 ?_ | refine we_cb ?_ | refine we_call ?_ | refine wa_cons ?_ | refine wa_nil ?_ | refine we_sl ?_ | refine wo_no ?_ | refine wo_some ?_
  | refine wt_test ?_ | refine wt_B ?_ | refine wt_and ?_ | refine wt_or ?_ | refine wt_not ?_ | refine wt_yes ?_
  | refine opd_add ?_ | refine opd_sub ?_ | refine opd_lt ?_ | refine opd_le ?_ | refine opd_gt ?_ | refine opd_ge ?_ | refine opd_eqI ?_ | refine opd_neI ?_ | refine opd_eqS ?_ | refine opd_neS ?_ | refine opd_isN ?_ | refine opd_notN ?_
  | refine opd_mulW ?_ ?_ | refine opd_mul ?_ ?_ | refine opd_pow ?_ ?_ | refine opd_fdivW ?_ ?_ | refine opd_modN ?_ ?_
  | refine cad_gcd ?_ | refine cad_int1 ?_ | refine cad_intB ?_ | refine cad_abs ?_ | refine cad_lenT ?_ | refine cad_lenL ?_ | refine cad_lenLL ?_ | refine cad_list ?_ | refine sld_lst ?_ | refine sld_tup ?_ | refine sld_tp ?_
  | refine we_fld ?_ | refine we_meth ?_ | refine we_prop ?_ | refine ws_par ?_ | refine ite_t ?_ | refine ite_f ?_ | fail)
local macro_rules | `(tactic| walk_at "d2") => `(tactic| first
  | refine we_var rfl ?_ | (with_reducible refine we_zero (by assumption) ?_) | (with_reducible refine we_layers (by assumption) ?_) | refine opd_ixT rfl ?_ | refine opd_ixP rfl ?_ | (with_reducible refine opd_ixL (atI_rng (by assumption)) ?_) | (with_reducible refine ws_asgN ?_) | fail)
local macro_rules | `(tactic| walk_at "d3") => `(tactic| first | (with_reducible refine ⟨_, rfl, ?_⟩) | (with_reducible refine ⟨sz_ok rfl, ?_⟩) | (with_reducible refine ⟨_, _, rfl, ?_⟩) | fail)
local macro_rules | `(tactic| walk_at "e") => `(tactic| repeat' (first | walk_at "d1" | walk_at "d2" | walk_at "d3" | fail))
local macro_rules | `(tactic| walk_at "d") => `(tactic| repeat' (first | walk_at "d1" | walk_at "d2" | walk_at "d3" | (with_reducible refine ws_if ?_) | fail))
section
variable {P : Program} {w : World} {K : PySem.W.Frag} {T : Tb} {mg : Str → Option Value} {base : Heap}
abbrev N_World_size : List Str := ["self"]
theorem sc_World_size : FnScope N_World_size ["self"] (defScope (mtop 40 2)) := ⟨rfl, rfl, rfl, by decide +kernel, rfl, by decide +kernel, by decide +kernel⟩
def preSize : Pre := fun ds M R => ∃ (n : Nat) (f : Tab) (ts : List D) (p : Addr) (nm : Nm), ds = [wD K (matD n f :: ts) p nm] ∧ R (.int n) M
theorem ok_World_size (L : Lib K mg) (W : WFacts K) (F : PrAt K "World" "size" "World.size" (mtop 40 2)) : CalP P w K T mg base "World" "size" 1 (preSize (K := K)) := by
  refine calP_of F sc_World_size (fun ds M R h => by obtain ⟨_, _, _, _, _, rfl, _⟩ := h; rfl) (fun _ _ _ _ _ _ us hl => match us, hl with | [_], _ => rfl) fun f cdv A outer s H E hr => ⟨_, (pss_one (ps_ret (pe_callB (call_len_seqK (K := K)) (by rfl) L.len_ boot_len (pa_cons (pe_ix (ix_listK (K := K)) (pe_fldK (K := K) (pv 0) rfl) pe_int (fun _ _ => rfl)) pa_nil)))), fun ds M R h => ?_⟩
  obtain ⟨n, f, ts, p, nm, rfl, k⟩ := h
  walk_at "d"
  refine ⟨_, _, _, _, .inl rfl, W.cls, W.nt, rfl, ?_⟩
  walk_at "d"
  refine opd_ixL (atI_head _ _) ?_
  walk_at "d"
  rw [List.length_map, List.length_range]
  exact k
abbrev N_World_layers : List Str := ["self"]
theorem sc_World_layers : FnScope N_World_layers ["self"] (defScope (mtop 40 3)) := ⟨rfl, rfl, rfl, by decide +kernel, rfl, by decide +kernel, by decide +kernel⟩
def preLayers : Pre := fun ds M R => ∃ (ts : List D) (p : Addr) (nm : Nm), ds = [wD K ts p nm] ∧ R (.int (ts.length : Nat)) M
theorem ok_World_layers (L : Lib K mg) (W : WFacts K) (F : PrAt K "World" "layers" "World.layers" (mtop 40 3)) : CalP P w K T mg base "World" "layers" 1 (preLayers (K := K)) := by
  refine calP_of F sc_World_layers (fun ds M R h => by obtain ⟨_, _, _, rfl, _⟩ := h; rfl) (fun _ _ _ _ _ _ us hl => match us, hl with | [_], _ => rfl) fun f cdv A outer s H E hr => ⟨_, (pss_one (ps_ret (pe_callB (call_len_seqK (K := K)) (by rfl) L.len_ boot_len (pa_cons (pe_fldK (K := K) (pv 0) rfl) pa_nil)))), fun ds M R h => ?_⟩
  obtain ⟨ts, p, nm, rfl, k⟩ := h
  walk_at "d"
  refine ⟨_, _, _, _, .inl rfl, W.cls, W.nt, rfl, ?_⟩
  walk_at "d"
  exact k
abbrev N_World_names : List Str := ["self"]
theorem sc_World_names : FnScope N_World_names ["self"] (defScope (mtop 40 4)) := ⟨rfl, rfl, rfl, by decide +kernel, rfl, by decide +kernel, by decide +kernel⟩
def preNames : Pre := fun ds M R => ∃ (n : Nat) (ts : List D) (p : Addr) (nm : Nm), ds = [wD K ts p nm] ∧ NmOk n nm ∧ R (.lst ((nm.map (·.1)).map D.str)) M
theorem ok_World_names (L : Lib K mg) (W : WFacts K) (F : MeAt K "World" "names" "World.names" (mtop 40 4) [] []) : CalM P w K T mg base "World" "names" 1 ["self"] [] (preNames (K := K)) := by
  refine calM_of F sc_World_names (fun ds M R h => by obtain ⟨_, _, _, _, rfl, _⟩ := h; rfl) (fun _ _ _ _ _ _ us hl => match us, hl with | [_], _ => rfl) fun f cdv A outer s H E hr => ⟨_, (pss_one (ps_ret (pe_callB (call_sortedD rfl) (by rfl) L.sorted_ (by decide +kernel) (pa_cons (pe_fldK (K := K) (pv 0) rfl) pa_nil)))), fun ds M R h => ?_⟩
  obtain ⟨n, ts, p, nm, rfl, ok, k⟩ := h
  have := ok.ln
  walk_at "d"
  refine ⟨_, _, _, _, .inl rfl, W.cls, W.nn, rfl, ?_⟩
  walk_at "d"
  refine cad_sortedD (ks := nm.map (·.1)) (.inl (by rw [keysN_map])) (by rw [List.length_map]; omega) fun ys h1 h2 => ?_
  rw [sorted_uniq h1 h2 ok.so]
  exact k
abbrev N_World__contains_ : List Str := ["self", "name"]
theorem sc_World__contains_ : FnScope N_World__contains_ ["self", "name"] (defScope (mtop 40 13)) := ⟨rfl, rfl, rfl, by decide +kernel, rfl, by decide +kernel, by decide +kernel⟩
def preHas : Pre := fun ds M R => ∃ (ts : List D) (p : Addr) (nm : Nm) (x : Str), ds = [wD K ts p nm, .str x] ∧ R (.bl (placeN nm x).isSome) M
theorem ok_World_contains (L : Lib K mg) (W : WFacts K) (F : MeAt K "World" "__contains__" "World.__contains__" (mtop 40 13) [] []) : CalM P w K T mg base "World" "__contains__" 1 ["self", "name"] [] (preHas (K := K)) := by
  refine calM_of F sc_World__contains_ (fun ds M R h => by obtain ⟨_, _, _, _, rfl, _⟩ := h; rfl) (fun _ _ _ _ _ _ us hl => match us, hl with | [_, _], _ => rfl) fun f cdv A outer s H E hr => ⟨_, (pss_one (ps_ret (pe_and (pe_callB (call_isiK (K := K)) (by rfl) L.isinstance_ (by decide +kernel) (pa_cons (pv 1) (pa_cons (pe_tyn (n := "str") (by rfl) L.str_ (by decide +kernel)) pa_nil))) (pe_one (pe_cmp (pc_din (hu_of hr) (pv 1) (pe_fldK (K := K) (pv 0) rfl))))))), fun ds M R h => ?_⟩
  obtain ⟨ts, p, nm, x, rfl, k⟩ := h
  walk_at "d"
  refine cad_isi (b := true) rfl rfl ⟨_, rfl, ite_t ?_⟩
  refine we_din (we_var rfl (we_fld (we_var rfl ⟨_, _, _, _, .inl rfl, W.cls, W.nn, rfl, p, _, _, .inr x, .inl rfl, rfl, ?_⟩)))
  rw [dval_nm, Option.isSome_map]
  exact k
abbrev N_World_place : List Str := ["self", "name"]
theorem sc_World_place : FnScope N_World_place ["self", "name"] (defScope (mtop 40 5)) := ⟨rfl, rfl, rfl, by decide +kernel, rfl, by decide +kernel, by decide +kernel⟩
def prePlace : Pre := fun ds M R => ∃ (ts : List D) (p : Addr) (nm : Nm) (x : Str) (i : Nat), ds = [wD K ts p nm, .str x] ∧ placeN nm x = some i ∧ R (.int i) M
theorem ok_World_place (L : Lib K mg) (W : WFacts K) (F : MeAt K "World" "place" "World.place" (mtop 40 5) [] []) (c_World__contains_ : CalM P w K T mg base "World" "__contains__" 1 ["self", "name"] [] (preHas (K := K))) : CalM P w K T mg base "World" "place" 2 ["self", "name"] [] (prePlace (K := K)) := by
  refine calM_of F sc_World_place (fun ds M R h => by obtain ⟨_, _, _, _, _, rfl, _⟩ := h; rfl) (fun _ _ _ _ _ _ us hl => match us, hl with | [_, _], _ => rfl) fun f cdv A outer s H E hr => ⟨_, (pss_cons (ps_if (pt_cmpR (op_notin_own c_World__contains_ (hr)) (pv 1) (pv 0) (by rfl)) (pss_one ps_never) pss_nil)
    (pss_one (ps_ret (pe_dget (hu_of hr) (pe_fldK (K := K) (pv 0) rfl) (pv 1) (fun _ _ => rfl))))), fun ds M R h => ?_⟩
  obtain ⟨ts, p, nm, x, i, rfl, hx, k⟩ := h
  refine ws_seq (ws_ifF ?_ (ws_nx ?_))
  · walk_at "d"
    refine opd_inOwn (.inl rfl) ⟨ts, p, nm, x, rfl, _, rfl, ?_⟩
    rw [hx]
    exact ⟨_, rfl, rfl, rfl⟩
  · show WS K T _ _ _ _
    refine ws_ret (we_dget (we_fld (we_var rfl ⟨_, _, _, _, .inl rfl, W.cls, W.nn, rfl, we_var rfl ⟨p, _, _, .inr x, .int i, .inl rfl, rfl, ?_, k⟩⟩)))
    rw [dval_nm, hx]
    rfl
abbrev N_World_rows_of : List Str := ["self", "layer"]
theorem sc_World_rows_of : FnScope N_World_rows_of ["self", "layer"] (defScope (mtop 40 7)) := ⟨rfl, rfl, rfl, by decide +kernel, rfl, by decide +kernel, by decide +kernel⟩
def preRowsOf : Pre := fun ds M R => ∃ (ts : List D) (p : Addr) (nm : Nm) (a : Nat) (d : D), ds = [wD K ts p nm, .str (lay a)] ∧ ts.length ≤ 2 ∧ ts[a]? = some d ∧ R d M
theorem ok_World_rows_of (L : Lib K mg) (W : WFacts K) (F : MeAt K "World" "rows_of" "World.rows_of" (mtop 40 7) [] []) (c_is_layer : Cal P w K T mg base "is_layer" 1 ["value", "layers"] preLayer) (c_World_layers : CalP P w K T mg base "World" "layers" 1 (preLayers (K := K))) :
    CalM P w K T mg base "World" "rows_of" 3 ["self", "layer"] [] (preRowsOf (K := K)) := by
  refine calM_of F sc_World_rows_of (fun ds M R h => by obtain ⟨_, _, _, _, _, rfl, _⟩ := h; rfl) (fun _ _ _ _ _ _ us hl => match us, hl with | [_, _], _ => rfl) fun f cdv A outer s H E hr => ⟨_, (pss_cons (ps_if (pt_not (pt_val (pe_cal c_is_layer (hr.mono (by decide)) (by rfl) (pa_cons (pv 1) (pa_cons (pe_propM c_World_layers (pv 0) (hr)) pa_nil))))) (pss_one ps_never) pss_nil)
    (pss_one (ps_ret (pe_ix (ix_listK (K := K)) (pe_fldK (K := K) (pv 0) rfl) (pe_bm PySem.F.plainAttrs_tuple PySem.F.slot_tuple_index PySem.F.type_tuple_index mt_tup_index (pe_glob (v := .ref (ga K "LAYERS")) (by rfl) L.gLAYERS rfl) (pa_cons (pv 1) pa_nil)) (fun _ _ => rfl))))), fun ds M R h => ?_⟩
  obtain ⟨ts, p, nm, a, d, rfl, hl, hd, k⟩ := h
  have ha := (List.getElem?_eq_some_iff.mp hd).1
  refine ws_seq (ws_ifF ?_ (ws_nx ?_))
  · walk_at "d"
    refine ⟨_, _, .inl rfl, ts, p, nm, rfl, ?_⟩
    walk_at "d"
    exact ⟨a, ts.length, rfl, ha, hl, _, rfl, rfl, rfl⟩
  · show WS K T _ _ _ _
    walk_at "d"
    refine ⟨_, _, _, _, .inl rfl, W.cls, W.nt, rfl, ?_⟩
    refine we_layIx L (wa_cons (we_var rfl (wa_nil ⟨a, by omega, rfl, ?_⟩)))
    exact opd_ixL (by rw [atI_nat]; exact hd) k
abbrev N_World_table : List Str := ["self", "layer", "row"]
theorem sc_World_table : FnScope N_World_table ["self", "layer"] (defScope (mtop 40 6)) := ⟨rfl, rfl, rfl, by decide +kernel, rfl, by decide +kernel, by decide +kernel⟩
def preTable : Pre := fun ds M R => ∃ (ts : List D) (p : Addr) (nm : Nm) (a n : Nat) (f : Tab), ds = [wD K ts p nm, .str (lay a)] ∧ ts.length ≤ 2 ∧ ts[a]? = some (matD n f) ∧ n ≤ 1000 ∧ R (matD n f) M
theorem ok_World_table (L : Lib K mg) (W : WFacts K) (F : MeAt K "World" "table" "World.table" (mtop 40 6) [.str "foot"] []) (c_World_rows_of : CalM P w K T mg base "World" "rows_of" 3 ["self", "layer"] [] (preRowsOf (K := K))) :
    CalM P w K T mg base "World" "table" 4 ["self", "layer"] [] (preTable (K := K)) := by
  refine calM_ofF F (by simp) sc_World_table (fun ds M R h => by obtain ⟨_, _, _, _, _, _, rfl, _⟩ := h; rfl) (fun _ _ _ _ _ _ _ us its hl h2 => match us, its, hl, h2 with | [_, _], [_], _, _ => ⟨_, rfl, rfl⟩) fun f cdv A outer s H E hr => ⟨_, (pss_one (ps_ret (pe_lc (own := [("row", 2)]) (tt := tYes) rfl sc_World_table.nd (pi_listK (K := K) (pe_calM c_World_rows_of (pv 0) (hr) (pa_cons (pv 1) pa_nil))) (blkOk_by (own := [("row", 2)]) (N := N_World_table) rfl) (fun _ _ _ _ _ => (pg_name (i := 2) sc_World_table.nd rfl (by first | exact Or.inl rfl | exact Or.inr rfl))) (fun _ _ _ _ _ => pts_nil) (fun _ _ _ _ _ => (pe_callTy (call_list_ofK (K := K)) (by rfl) L.list_ (by decide +kernel) (pa_cons (pv 2) pa_nil)))))), fun ds M R h => ?_⟩
  obtain ⟨ts, p, nm, a, n, f, rfl, hl, hd, hn, k⟩ := h
  walk_at "d"
  refine we_lcL (wi_list (we_meth (we_var rfl ⟨_, _, .inl rfl, ?_, wa_cons (we_var rfl (wa_nil ⟨ts, p, nm, a, _, rfl, hl, hd, _, rfl, ?_, fun i => rowD n (f i), fun i d hd => ?_, ?_⟩))⟩)))
  · decide
  · rw [List.length_map, List.length_range]; omega
  · rw [List.getElem?_map] at hd
    obtain ⟨i', e1, rfl⟩ := Option.map_eq_some_iff.mp hd
    obtain ⟨hl1, e3⟩ := List.getElem?_eq_some_iff.mp e1
    rw [List.getElem_range] at e3
    subst e3
    walk_at "d"
    exact ⟨rfl, rfl⟩
  · rw [List.length_map, List.length_range]
    exact k
end
end Dl
end
/-! ## P8 -/
section
set_option maxRecDepth 100000
set_option maxHeartbeats 1000000
namespace Dl
open PySem PySem.Spec PyProof.Rows L2 Mx
local macro_rules | `(tactic| walk_at "d1") => `(tactic| with_reducible first
  | refine ws_seq ?_ | refine ws_asgN ?_ | refine ws_asg ?_ | refine wg_name ?_ | refine ws_ret ?_ | refine ws_nx ?_ | refine ws_expr ?_
  | refine we_op ?_ | refine we_un ?_ | refine we_int ?_ | refine we_str ?_ | refine we_bl ?_ | refine we_non ?_ | refine we_ty ?_ | refine we_if ?_ | refine we_and ?_ | refine we_or ?_ | refine we_not ?_ | refine we_chain ?_
  | refine we_tup ?_ | refine we_lst ?_ | refine we_listRng ?_ | refine we_isi2 ?_ | refine we_cb ?_ | refine we_call ?_ | refine wa_cons ?_ | refine wa_nil ?_ | refine we_sl ?_ | refine wo_no ?_ | refine wo_some ?_
  | refine wt_test ?_ | refine wt_B ?_ | refine wt_and ?_ | refine wt_or ?_ | refine wt_not ?_ | refine wt_yes ?_
  | refine opd_add ?_ | refine opd_sub ?_ | refine opd_lt ?_ | refine opd_le ?_ | refine opd_gt ?_ | refine opd_ge ?_ | refine opd_eqI ?_ | refine opd_neI ?_ | refine opd_eqS ?_ | refine opd_neS ?_ | refine opd_isN ?_ | refine opd_notN ?_
  | refine opd_mulW ?_ ?_ | refine opd_mul ?_ ?_ | refine opd_pow ?_ ?_ | refine opd_fdivW ?_ ?_ | refine opd_modN ?_ ?_
  | refine cad_gcd ?_ | refine cad_int1 ?_ | refine cad_intB ?_ | refine cad_abs ?_ | refine cad_lenT ?_ | refine cad_lenL ?_ | refine cad_lenLL ?_ | refine cad_list ?_ | refine sld_lst ?_ | refine sld_tup ?_ | refine sld_tp ?_
  | refine we_fld ?_ | refine we_meth ?_ | refine we_prop ?_ | refine ws_par ?_ | refine ite_t ?_ | refine ite_f ?_ | fail)
local macro_rules | `(tactic| walk_at "d2") => `(tactic| first
  | refine we_var rfl ?_ | (with_reducible refine we_zero (by assumption) ?_) | (with_reducible refine we_layers (by assumption) ?_) | refine opd_ixT rfl ?_ | refine opd_ixP rfl ?_ | (with_reducible refine opd_ixL (atI_rng (by assumption)) ?_) | (with_reducible refine ws_asgN ?_) | fail)
local macro_rules | `(tactic| walk_at "d3") => `(tactic| first | (with_reducible refine ⟨_, rfl, ?_⟩) | (with_reducible refine ⟨sz_ok rfl, ?_⟩) | (with_reducible refine ⟨_, _, rfl, ?_⟩) | fail)
local macro_rules | `(tactic| walk_at "e") => `(tactic| repeat' (first | walk_at "d1" | walk_at "d2" | walk_at "d3" | fail))
local macro_rules | `(tactic| walk_at "d") => `(tactic| repeat' (first | walk_at "d1" | walk_at "d2" | walk_at "d3" | (with_reducible refine ws_if ?_) | fail))
section
variable {P : Program} {w : World} {K : PySem.W.Frag} {T : Tb} {mg : Str → Option Value} {base : Heap}
abbrev N_World__init_ : List Str := ["self", "names", "foot", "cart", "tables"]
theorem sc_World__init_ : FnScope N_World__init_ ["self", "names", "foot", "cart"] (defScope (mtop 40 1)) := ⟨rfl, rfl, rfl, by decide +kernel, rfl, by decide +kernel, by decide +kernel⟩
def cartD (n : Nat) : List Tab → D
  | [_, g] => matD n g
  | _ => .non
def preInit : Pre := fun ds M R => ∃ (x p : Addr) (l n : Nat) (f : Tab) (gs : List Tab) (nm0 nm : Nm) (M0 : MS), ds = [.ptr x, .dK p (keysN nm0) (valsN nm0), matD n f, cartD n (f :: gs)] ∧ M = addM M0 x (.ins (ga K "World") [] []) ∧ x ∉ domM M0 ∧ M0.lk = [] ∧
  TabsOk l n (f :: gs) ∧ nm0.Perm nm ∧ NmOk n nm ∧ ∀ q, R .non (addM M0 x (.ins (ga K "World") ["own_tables", "own_names"] [.lst (tabsD n (f :: gs)), .dK q (keysN nm) (valsN nm)]))
theorem ok_World_init (L : Lib K mg) (W : WFacts K) (F : MeAt K "World" "__init__" "World.__init__" (mtop 40 1) [] [("cart", .non)]) (hk : MkAt K mg "World") (c_checked_table : Cal P w K T mg base "checked_table" 5 ["layer", "rows", "size"] preCTable) (c_checked_places : Cal P w K T mg base "checked_places" 3 ["names", "size"] preCPlaces) :
    CalIK P w K T mg base "World" 6 2 "cart" ["self", "names", "foot", "cart"] (preInit (K := K)) := by
  obtain ⟨⟨fd, F⟩, hm, hc⟩ := F
  refine ⟨⟨fd, fn_d F sc_World__init_ (fun ds M R h => by obtain ⟨_, _, _, _, _, _, _, _, _, rfl, _⟩ := h; rfl) (fun cdv A outer s H E hr => ⟨_, (pss_cons (ps_set (i := 4) sc_World__init_.nd rfl (by first | exact Or.inl rfl | exact Or.inr rfl) (pe_lst (pa_cons (pe_cal c_checked_table (hr) (by rfl) (pa_cons pe_str (pa_cons (pv 2) (pa_cons pe_non pa_nil)))) pa_nil)))
    (pss_cons (ps_if (pt_cmpR op_notN (pv 3) pe_non (nomark _)) (pss_one (ps_expr (pe_bm PySem.F.plainAttrs_list PySem.F.slot_list_append PySem.F.type_list_append mt_append (pv 4) (pa_cons (pe_cal c_checked_table (hr) (by rfl) (pa_cons pe_str (pa_cons (pv 3) (pa_cons (pe_callB (call_len_seqK (K := K)) (by rfl) L.len_ boot_len (pa_cons (pv 2) pa_nil)) pa_nil)))) pa_nil)))) pss_nil)
    (pss_cons (ps_fld (pv 0) (pv 4) rfl)
    (pss_one (ps_fld (pv 0) (pe_cal c_checked_places (hr.mono (by decide)) (by rfl) (pa_cons (pv 1) (pa_cons (pe_callB (call_len_seqK (K := K)) (by rfl) L.len_ boot_len (pa_cons (pv 2) pa_nil)) pa_nil))) rfl))))), fun ds M R h => ?_⟩), ?_⟩, hk⟩
  · obtain ⟨x, p, l, n, f, gs, nm0, nm, M0, rfl, rfl, hx, hlk, ok, hp, hnm, k⟩ := h
    have n1 := ok.n1
    have n9 := ok.n9
    have ct : ∀ (g : Tab) (s : Str) (z : D) (M' : MS) (R' : D → MS → Prop), g ∈ f :: gs → (z = .non ∨ z = .int n) → R' (matD n g) M' → preCTable [.str s, matD n g, z] M' R' := fun g s z M' R' hg hz q => ⟨l, n, g, s, z, rfl, hz, ok.n1, ok.n9, ok.l28, ok.lv g hg, ok.met g hg, q⟩
    refine ws_seq (ws_asgN (we_lstM (wa_cons (we_call (wa_cons (we_str (wa_cons (we_var rfl (wa_cons (we_non (wa_nil (ct f _ _ _ _ List.mem_cons_self (.inl rfl) (wa_nil ⟨sz_ok rfl, fun t ht => ?_⟩)))))))))))))
    have hxt : x ≠ t := fun e => ht (e ▸ List.mem_cons_self)
    have gx : ∀ y, getM (addM (addM M0 x (.ins (ga K "World") [] [])) t y) x = some (.ins (ga K "World") [] []) := fun y => by rw [getM_addN hxt, getM_add]
    refine ws_seq (ws_cut (fun G' M' => G' = [some (.ptr x), some (.dK p (keysN nm0) (valsN nm0)), some (matD n f), some (cartD n (f :: gs)), some (.ptr t)] ∧ M' = addM (addM M0 x (.ins (ga K "World") [] [])) t (.lst (tabsD n (f :: gs)))) ?_ ?_)
    · match gs, ok, ct with
      | [], ok, ct =>
        refine ws_ifF ?_ (ws_nx ⟨rfl, rfl⟩)
        walk_at "d"
        exact ⟨rfl, rfl⟩
      | [g], ok, ct =>
        refine ws_ifT ?_ ?_
        · walk_at "d"
          exact ⟨rfl, rfl⟩
        · refine ws_expr (we_append (we_var rfl ⟨t, _, rfl, getM_add, ?_⟩))
          walk_at "d"
          rw [List.length_map, List.length_range]
          refine ct g _ _ _ _ (by simp) (.inr rfl) ?_
          refine wa_nil ⟨_, _, rfl, getM_add, ?_, ?_, ?_⟩
          · show 1 < 1000
            omega
          · show t ∉ M0.lk
            rw [hlk]
            simp
          · refine ⟨rfl, ?_⟩
            rw [setM_add ht]
            rfl
      | _ :: _ :: _, ok, ct =>
        rcases ok.len with h | h <;> simp at h
    · rintro G' M' ⟨rfl, rfl⟩
      show WS K T _ _ _ _
      refine ws_freeze (i := 4) rfl rfl ?_
      refine ws_seq (ws_fldN (we_var rfl (we_var rfl ⟨x, _, [], [], rfl, getM_add, W.cls, W.nt, by simp, by simp, ?_, ?_⟩)))
      · show x ∉ M0.lk
        rw [hlk]
        simp
      · show WS K T _ _ _ _
        rw [setM_add hx]
        refine ws_fldN ?_
        walk_at "d"
        rw [List.length_map, List.length_range]
        refine ⟨p, n, nm0, nm, rfl, hp, hnm, hlk, fun q => we_var rfl ⟨x, _, _, _, rfl, getM_add, W.cls, W.nn, by simp, by decide, ?_, ?_⟩⟩
        · show x ∉ M0.lk
          rw [hlk]
          simp
        · rw [setM_add hx]
          exact k q
  · obtain ⟨mv, hb⟩ := F.kbinds0 (ps := ["self", "names", "foot", "cart"]) 3 ["cart"] [] (fun us _ ws => us ++ ws) (by simp) (by simp) (fun r1 _ r3 => r1.append r3) (fun D doc pm an cdv ct us mv ws h1 h2 h3 => match us, mv, ws, h1, h2, h3 with | [_, _, _], [], [_], _, _, _ => rfl)
    exact hb
end
end Dl
end
/-! ## P9 -/
section
set_option maxRecDepth 100000
set_option maxHeartbeats 1000000
namespace Dl
open PySem PySem.Spec PyProof.Rows L2 Mx
local macro_rules | `(tactic| walk_at "d1") => `(tactic| with_reducible first
  | refine ws_seq ?_ | refine ws_asgN ?_ | refine ws_asg ?_ | refine wg_name ?_ | refine ws_ret ?_ | refine ws_nx ?_ | refine ws_expr ?_
  | refine we_op ?_ | refine we_un ?_ | refine we_int ?_ | refine we_str ?_ | refine we_bl ?_ | refine we_non ?_ | refine we_ty ?_ | refine we_if ?_ | refine we_and ?_ | refine we_or ?_ | refine we_not ?_ | refine we_chain ?_
  | refine we_tup ?_ | refine we_lst ?_ | refine we_listRng ?_ | refine we_isi2 ?_ | refine we_cb ?_ | refine we_call ?_ | refine wa_cons ?_ | refine wa_nil ?_ | refine we_sl ?_ | refine wo_no ?_ | refine wo_some ?_
  | refine wt_test ?_ | refine wt_B ?_ | refine wt_and ?_ | refine wt_or ?_ | refine wt_not ?_ | refine wt_yes ?_
  | refine opd_add ?_ | refine opd_sub ?_ | refine opd_lt ?_ | refine opd_le ?_ | refine opd_gt ?_ | refine opd_ge ?_ | refine opd_eqI ?_ | refine opd_neI ?_ | refine opd_eqS ?_ | refine opd_neS ?_ | refine opd_isN ?_ | refine opd_notN ?_
  | refine opd_mulW ?_ ?_ | refine opd_mul ?_ ?_ | refine opd_pow ?_ ?_ | refine opd_fdivW ?_ ?_ | refine opd_modN ?_ ?_
  | refine cad_gcd ?_ | refine cad_int1 ?_ | refine cad_intB ?_ | refine cad_abs ?_ | refine cad_lenT ?_ | refine cad_lenL ?_ | refine cad_lenLL ?_ | refine cad_list ?_ | refine sld_lst ?_ | refine sld_tup ?_ | refine sld_tp ?_
  | refine we_fld ?_ | refine we_meth ?_ | refine we_prop ?_ | refine ws_par ?_ | refine ite_t ?_ | refine ite_f ?_ | fail)
local macro_rules | `(tactic| walk_at "d2") => `(tactic| first
  | refine we_var rfl ?_ | (with_reducible refine we_zero (by assumption) ?_) | (with_reducible refine we_layers (by assumption) ?_) | refine opd_ixT rfl ?_ | refine opd_ixP rfl ?_ | (with_reducible refine opd_ixL (atI_rng (by assumption)) ?_) | (with_reducible refine ws_asgN ?_) | fail)
local macro_rules | `(tactic| walk_at "d3") => `(tactic| first | (with_reducible refine ⟨_, rfl, ?_⟩) | (with_reducible refine ⟨sz_ok rfl, ?_⟩) | (with_reducible refine ⟨_, _, rfl, ?_⟩) | fail)
local macro_rules | `(tactic| walk_at "e") => `(tactic| repeat' (first | walk_at "d1" | walk_at "d2" | walk_at "d3" | fail))
local macro_rules | `(tactic| walk_at "d") => `(tactic| repeat' (first | walk_at "d1" | walk_at "d2" | walk_at "d3" | (with_reducible refine ws_if ?_) | fail))
local macro_rules | `(tactic| walk_at "s") => `(tactic| repeat' (first | walk_at "d1" | refine wg_subS (by assumption) rfl rfl ?_ | refine opd_ixM (getM_at (by assumption)) rfl ?_ | walk_at "d2" | walk_at "d3" | fail))
section
variable {P : Program} {w : World} {K : PySem.W.Frag} {T : Tb} {mg : Str → Option Value} {base : Heap}
abbrev N_law_draw : List Str := ["_law_src", "_law_many", "_law_cell", "_law_digit", "_law_root", "_law_grown"]
theorem sc_law_draw : FnScope N_law_draw ["_law_src", "_law_many"] (defScope (top 54)) := ⟨rfl, rfl, rfl, by decide +kernel, rfl, by decide +kernel, by decide +kernel⟩
def preDraw : Pre := fun ds M R => ∃ (l : List (Addr × MD)) (p : Addr) (m : Nat), ds = [.ptr p, .int m] ∧ M = ⟨l ++ [(p, .src)], []⟩ ∧ p ∉ l.map (·.1) ∧ 0 < m ∧ m < 2147483648 ∧ ∀ k : Nat, k < m → R (.int k) M
theorem fmod_lt (i : Int) {m : Int} (h : 0 < m) : 0 ≤ i.fmod m ∧ i.fmod m < m := by
  rw [Int.fmod_eq_emod_of_nonneg _ (by omega)]
  exact ⟨Int.emod_nonneg _ (by omega), Int.emod_lt_of_pos _ h⟩
theorem log_small {n : Nat} (h : n < 2147483648) : n.log2 < 9000 := by
  refine Nat.lt_of_le_of_lt (log2_mono (Nat.le_of_lt h)) ?_
  decide
theorem ok_law_draw (L : Lib K mg) (F : FnAt K mg "_law_draw" (top 54)) : Cal P w K T mg base "_law_draw" 1 ["_law_src", "_law_many"] preDraw := by
  refine cal_of F sc_law_draw (fun ds M R h => by obtain ⟨_, _, _, rfl, _⟩ := h; rfl) (fun _ _ _ _ _ _ us hl => match us, hl with | [_, _], _ => rfl) fun f cdv A outer s H E hr => ⟨_, (pss_cons (ps_if (PW.pt (pw_and (pt_cmpR op_lt (pe_ix (ix_listK (K := K)) (pv 0) pe_int (fun _ _ => rfl)) (pv 1) (nomark _)) (pw_and1 (pt_cmpR op_lt (pe_ix (ix_listK (K := K)) (pv 0) pe_int (fun _ _ => rfl)) (pe_callB (call_len_seqK (K := K)) (by rfl) L.len_ boot_len (pa_cons (pe_ix (ix_listK (K := K)) (pv 0) pe_int (fun _ _ => rfl)) pa_nil)) (nomark _))))) (pss_cons (ps_set (i := 2) sc_law_draw.nd rfl (by first | exact Or.inl rfl | exact Or.inr rfl) (pe_ix (ix_listK (K := K)) (pe_ix (ix_listK (K := K)) (pv 0) pe_int (fun _ _ => rfl)) (pe_ix (ix_listK (K := K)) (pv 0) pe_int (fun _ _ => rfl)) (fun _ _ => rfl)))
    (pss_cons (ps_asg (pe_op op_add (pe_ix (ix_listK (K := K)) (pv 0) pe_int (fun _ _ => rfl)) pe_int) (pg_sub (pv 0) pe_int set_list))
    (pss_cons (ps_asg (pe_op op_modN (pe_callTy call_int1 (by rfl) L.int_ (by decide +kernel) (pa_cons (pe_op op_add (pe_op op_add (pe_op op_mul (pe_ix (ix_listK (K := K)) (pv 0) pe_int (fun _ _ => rfl)) pe_int) (pe_op op_modN (pe_callTy call_int1 (by rfl) L.int_ (by decide +kernel) (pa_cons (pv 2) pa_nil)) pe_int)) pe_int) pa_nil)) pe_int) (pg_sub (pv 0) pe_int set_list))
    (pss_one (ps_asg (pe_ifExp (pt_cmpR op_ge (pv 2) (pe_op op_pow pe_int pe_int) (nomark _)) (pv 2) pe_int) (pg_sub (pv 0) pe_int set_list)))))) pss_nil)
    (pss_cons (ps_if (pt_cmpR op_ge (pe_ix (ix_listK (K := K)) (pv 0) pe_int (fun _ _ => rfl)) (pv 1) (nomark _)) (pss_cons (ps_set (i := 3) sc_law_draw.nd rfl (by first | exact Or.inl rfl | exact Or.inr rfl) (pe_op op_modN (pe_callTy call_int1 (by rfl) L.int_ (by decide +kernel) (pa_cons (pe_ix (ix_listK (K := K)) (pv 0) pe_int (fun _ _ => rfl)) pa_nil)) (pv 1)))
    (pss_cons (ps_asg (pe_op op_fdivW (pe_ix (ix_listK (K := K)) (pv 0) pe_int (fun _ _ => rfl)) (pv 1)) (pg_sub (pv 0) pe_int set_list))
    (pss_one (ps_ret (pv 3))))) pss_nil)
    (pss_cons (ps_asg (pe_op op_add (pe_ix (ix_listK (K := K)) (pv 0) pe_int (fun _ _ => rfl)) pe_int) (pg_sub (pv 0) pe_int set_list))
    (pss_cons (ps_set (i := 4) sc_law_draw.nd rfl (by first | exact Or.inl rfl | exact Or.inr rfl) (pe_op op_modN (pe_callTy call_int1 (by rfl) L.int_ (by decide +kernel) (pa_cons (pe_op op_add (pe_ix (ix_listK (K := K)) (pv 0) pe_int (fun _ _ => rfl)) (pe_op op_mul (pe_ix (ix_listK (K := K)) (pv 0) pe_int (fun _ _ => rfl)) pe_int)) pa_nil)) pe_int))
    (pss_cons (ps_set (i := 5) sc_law_draw.nd rfl (by first | exact Or.inl rfl | exact Or.inr rfl) (pe_op op_mul (pe_op op_modN (pe_callTy call_int1 (by rfl) L.int_ (by decide +kernel) (pa_cons (pe_op op_mul (pv 4) (pv 4)) pa_nil)) pe_int) (pe_op op_add (pe_op op_modN (pe_callTy call_int1 (by rfl) L.int_ (by decide +kernel) (pa_cons (pv 4) pa_nil)) pe_int) pe_int)))
    (pss_cons (ps_asg (pe_op op_modN (pe_callTy call_int1 (by rfl) L.int_ (by decide +kernel) (pa_cons (pe_op op_add (pe_op op_add (pv 5) (pe_op op_mul pe_int (pv 4))) pe_int) pa_nil)) pe_int) (pg_sub (pv 0) pe_int set_list))
    (pss_one (ps_ret (pe_op op_modN (pe_callTy call_int1 (by rfl) L.int_ (by decide +kernel) (pa_cons (pe_op op_add (pe_op op_fdivW (pe_ix (ix_listK (K := K)) (pv 0) pe_int (fun _ _ => rfl)) pe_int) (pe_op op_mul (pe_op op_modN (pe_callTy call_int1 (by rfl) L.int_ (by decide +kernel) (pa_cons (pe_ix (ix_listK (K := K)) (pv 0) pe_int (fun _ _ => rfl)) pa_nil)) pe_int) pe_int)) pa_nil)) (pv 1)))))))))), fun ds M R h => ?_⟩
  obtain ⟨l, p, m, rfl, rfl, hp, hm, hm2, k⟩ := h
  have hlog := log_small hm2
  have hdv : ∀ i : Int, CDivW i (m : Int) := fun i => ⟨by omega, by rw [Int.natAbs_natCast]; exact hlog⟩
  refine ws_open (getM_at hp) fun ns i r s n hs => ?_
  rw [setM_at hp]
  have gm : ∀ {x : List D}, getM ⟨l ++ [(p, .lst x)], []⟩ p = some (.lst x) := getM_at hp
  refine ws_seq (ws_cut (fun G' M' => ∃ x i r s n, SrcOk i r s n ∧ G' = [some (.ptr p), some (.int m), x, none, none, none] ∧ M' = ⟨l ++ [(p, .lst (srcL ns i r s n))], []⟩) ?_ ?_)
  · obtain ⟨h1, h2, h3, h4, h5⟩ := hs
    walk_at "d"
    refine opd_ixM gm rfl ?_
    walk_at "d"
    refine ite2 (fun hc1 => ?_) (fun hc1 => ?_)
    · walk_at "d"
      refine opd_ixM gm rfl ?_
      walk_at "d"
      refine opd_ixM gm rfl ?_
      refine wa_nil (cad_lenLL ?_)
      walk_at "d"
      refine ite2 (fun hc2 => ?_) (fun hc2 => ?_)
      · have hi : i.toNat < ns.length := by
          have := of_decide_eq_true hc2
          rw [List.length_map] at this
          omega
        have hcell : atI (ns.map D.int) i = some (.int ns[i.toNat]) := by
          have e : i = ((i.toNat : Nat) : Int) := by omega
          have e2 := atI_nat (ns.map D.int) i.toNat
          rw [← e] at e2
          rw [e2, List.getElem?_map, List.getElem?_eq_getElem hi]
          rfl
        generalize ns[i.toNat] = cell at hcell
        walk_at "s"
        refine opd_ixLL hcell ?_
        walk_at "s"
        · exact .inr ⟨by decide, by decide⟩
        · decide
        · decide
        · exact ⟨by decide, by decide, by decide⟩
        · have b1 := fmod_lt (s * 46757 + cell.fmod 2147483323 + 31) (show (0 : Int) < 2147483549 by decide)
          refine ite2 (fun hc3 => ?_) (fun hc3 => ?_)
          · have hb : (10 : Int) ^ (18 : Int).toNat ≤ cell := of_decide_eq_true hc3
            have hb2 : (0 : Int) ≤ (10 : Int) ^ (18 : Int).toNat := by decide
            walk_at "s"
            exact ⟨_, i + 1, cell, _, n, ⟨by omega, by omega, b1.1, by omega, h5⟩, rfl, rfl⟩
          · walk_at "s"
            exact ⟨_, i + 1, 0, _, n, ⟨by omega, by omega, b1.1, by omega, h5⟩, rfl, rfl⟩
      · walk_at "s"
        exact ⟨_, i, r, s, n, ⟨h1, h2, h3, h4, h5⟩, rfl, rfl⟩
    · walk_at "s"
      exact ⟨_, i, r, s, n, ⟨h1, h2, h3, h4, h5⟩, rfl, rfl⟩
  · rintro G' M' ⟨x, i, r, s, n, ⟨h1, h2, h3, h4, h5⟩, rfl, rfl⟩
    show WS K T _ _ _ _
    have hm3 : (0 : Int) < m := by omega
    have hm4 : (m : Int) ≠ 0 := by omega
    refine ws_shut ?_
    refine ws_seq (ws_if ?_)
    walk_at "s"
    refine ite2 (fun hc => ?_) (fun hc => ?_)
    · walk_at "s"
      · exact hm4
      · exact hdv _
      · have b := fmod_lt r hm3
        have b2 : 0 ≤ r / (m : Int) := Int.ediv_nonneg h2 (by omega)
        refine ⟨p, ns, i, r / m, s, n, getM_at hp, ⟨h1, b2, h3, h4, h5⟩, ?_⟩
        rw [setM_at hp]
        have e : r.fmod m = ((r.fmod m).toNat : Int) := by omega
        rw [e]
        exact k _ (by omega)
    · have b := fmod_lt (s + (n + 1) * 9431) (show (0 : Int) < 2147483629 by decide)
      have b1 : CMul ((s + (n + 1) * 9431).fmod 2147483629) ((s + (n + 1) * 9431).fmod 2147483629) := .inl ⟨by omega, by omega⟩
      have b2 := fmod_lt ((s + (n + 1) * 9431).fmod 2147483629) (show (0 : Int) < 39989 by decide)
      have b3 : ∀ z, CMul z (((s + (n + 1) * 9431).fmod 2147483629).fmod 39989 + 9) := fun z => .inr ⟨by omega, by omega⟩
      walk_at "s"
      all_goals first
        | decide
        | exact hm4
        | exact b1
        | exact b3 _
        | exact .inr ⟨by decide, by decide⟩
        | exact .inl ⟨by decide, by decide⟩
        | exact ⟨by decide, by decide⟩
        | skip
      · generalize hz : Int.fmod _ 2147483549 = z
        have b4 := fmod_lt (((s + (n + 1) * 9431).fmod 2147483629 * (s + (n + 1) * 9431).fmod 2147483629).fmod 2147483399 * (((s + (n + 1) * 9431).fmod 2147483629).fmod 39989 + 9) + 29989 * (s + (n + 1) * 9431).fmod 2147483629 + 991) (show (0 : Int) < 2147483549 by decide)
        rw [hz] at b4
        refine ⟨p, ns, i, r, z, n + 1, getM_at hp, ⟨h1, h2, b4.1, by omega, by omega⟩, ?_⟩
        rw [setM_at hp]
        have b5 := fmod_lt (z / 73 + z.fmod 8521 * 57) hm3
        have e : (z / 73 + z.fmod 8521 * 57).fmod m = (((z / 73 + z.fmod 8521 * 57).fmod m).toNat : Int) := by omega
        rw [e]
        exact k _ (by omega)
end
end Dl
end
/-! ## P10 -/
section
set_option maxRecDepth 100000
set_option maxHeartbeats 1000000
namespace Dl
open PySem PySem.Spec PyProof.Rows L2 Mx
local macro_rules | `(tactic| walk_at "d1") => `(tactic| with_reducible first
  | refine ws_seq ?_ | refine ws_asgN ?_ | refine ws_asg ?_ | refine wg_name ?_ | refine ws_ret ?_ | refine ws_nx ?_ | refine ws_expr ?_
  | refine we_op ?_ | refine we_un ?_ | refine we_int ?_ | refine we_str ?_ | refine we_bl ?_ | refine we_non ?_ | refine we_ty ?_ | refine we_if ?_ | refine we_and ?_ | refine we_or ?_ | refine we_not ?_ | refine we_chain ?_
  | refine we_tup ?_ | refine we_lst ?_ | refine we_listRng ?_ | refine we_isi2 ?_ | refine we_cb ?_ | refine we_call ?_ | refine wa_cons ?_ | refine wa_nil ?_ | refine we_sl ?_ | refine wo_no ?_ | refine wo_some ?_
  | refine wt_test ?_ | refine wt_B ?_ | refine wt_and ?_ | refine wt_or ?_ | refine wt_not ?_ | refine wt_yes ?_
  | refine opd_add ?_ | refine opd_sub ?_ | refine opd_lt ?_ | refine opd_le ?_ | refine opd_gt ?_ | refine opd_ge ?_ | refine opd_eqI ?_ | refine opd_neI ?_ | refine opd_eqS ?_ | refine opd_neS ?_ | refine opd_isN ?_ | refine opd_notN ?_
  | refine opd_mulW ?_ ?_ | refine opd_mul ?_ ?_ | refine opd_pow ?_ ?_ | refine opd_fdivW ?_ ?_ | refine opd_modN ?_ ?_
  | refine cad_gcd ?_ | refine cad_int1 ?_ | refine cad_intB ?_ | refine cad_abs ?_ | refine cad_lenT ?_ | refine cad_lenL ?_ | refine cad_lenLL ?_ | refine cad_list ?_ | refine sld_lst ?_ | refine sld_tup ?_ | refine sld_tp ?_
  | refine we_fld ?_ | refine we_meth ?_ | refine we_prop ?_ | refine ws_par ?_ | refine ite_t ?_ | refine ite_f ?_ | fail)
local macro_rules | `(tactic| walk_at "d2") => `(tactic| first
  | refine we_var rfl ?_ | (with_reducible refine we_zero (by assumption) ?_) | (with_reducible refine we_layers (by assumption) ?_) | refine opd_ixT rfl ?_ | refine opd_ixP rfl ?_ | (with_reducible refine opd_ixL (atI_rng (by assumption)) ?_) | (with_reducible refine ws_asgN ?_) | fail)
local macro_rules | `(tactic| walk_at "d3") => `(tactic| first | (with_reducible refine ⟨_, rfl, ?_⟩) | (with_reducible refine ⟨sz_ok rfl, ?_⟩) | (with_reducible refine ⟨_, _, rfl, ?_⟩) | fail)
local macro_rules | `(tactic| walk_at "e") => `(tactic| repeat' (first | walk_at "d1" | walk_at "d2" | walk_at "d3" | fail))
local macro_rules | `(tactic| walk_at "d") => `(tactic| repeat' (first | walk_at "d1" | walk_at "d2" | walk_at "d3" | (with_reducible refine ws_if ?_) | fail))
section
variable {P : Program} {w : World} {K : PySem.W.Frag} {T : Tb} {mg : Str → Option Value} {base : Heap}
abbrev CDraw (P : Program) (w : World) (K : PySem.W.Frag) (T : Tb) (mg : Str → Option Value) (base : Heap) : Prop := Cal P w K T mg base "_law_draw" 1 ["_law_src", "_law_many"] preDraw
theorem draw_sM {p : Addr} {m : Nat} {R : D → MS → Prop} (h0 : 0 < m) (h1 : m < 2147483648) (q : ∀ k : Nat, k < m → R (.int k) (sM p)) : preDraw [.ptr p, .int m] (sM p) R := ⟨[], p, m, rfl, rfl, by simp, h0, h1, q⟩
abbrev N_law_source : List Str := ["_law_script", "_law_seed", "_law_cell"]
theorem sc_law_source : FnScope N_law_source ["_law_script"] (defScope (top 53)) := ⟨rfl, rfl, rfl, by decide +kernel, rfl, by decide +kernel, by decide +kernel⟩
def preSource : Pre := fun ds M R => ∃ ns : List Int, ds = [.ll (ns.map .int)] ∧ M = ⟨[], []⟩ ∧ ∀ p, R (.ptr p) (sM p)
theorem ok_law_source (L : Lib K mg) (F : FnAt K mg "_law_source" (top 53)) : Cal P w K T mg base "_law_source" 1 ["_law_script"] preSource := by
  refine cal_of F sc_law_source (fun ds M R h => by obtain ⟨_, rfl, _⟩ := h; rfl) (fun _ _ _ _ _ _ us hl => match us, hl with | [_], _ => rfl) fun f cdv A outer s H E hr => ⟨_, (pss_cons (ps_set (i := 1) sc_law_source.nd rfl (by first | exact Or.inl rfl | exact Or.inr rfl) pe_int)
    (pss_cons (ps_for PassesOwn.never rfl (pi_listK (K := K) (pe_slice (sl_listK (K := K)) (pv 0) po_none (po_some pe_int))) (pg_name (i := 2) sc_law_source.nd rfl (by first | exact Or.inl rfl | exact Or.inr rfl)) (pss_one (ps_set (i := 1) sc_law_source.nd rfl (by first | exact Or.inl rfl | exact Or.inr rfl) (pe_op op_modN (pe_callTy call_int1 (by rfl) L.int_ (by decide +kernel) (pa_cons (pe_op op_add (pe_op op_add (pe_op op_mul (pv 1) pe_int) (pe_op op_modN (pe_callTy call_int1 (by rfl) L.int_ (by decide +kernel) (pa_cons (pv 2) pa_nil)) pe_int)) pe_int) pa_nil)) pe_int))))
    (pss_one (ps_ret (pe_lst (pa_cons (pe_callTy (call_list_ofK (K := K)) (by rfl) L.list_ (by decide +kernel) (pa_cons (pe_slice (sl_listK (K := K)) (pv 0) po_none (po_some pe_int)) pa_nil)) (pa_cons pe_int (pa_cons pe_int (pa_cons (pv 1) (pa_cons pe_int pa_nil)))))))))), fun ds M R h => ?_⟩
  obtain ⟨ns, rfl, rfl, k⟩ := h
  have cut : cutD (ns.map D.int) none (some 63) = (ns.take 63).map D.int := by
    rw [List.map_take]
    exact cutD_to (ns.map D.int) 63
  walk_at "e"
  refine ws_for (wi_list (we_sl (we_var rfl (wo_no (wo_some (we_int ⟨63, rfl, sld_ll ⟨_, by rw [cut], fun i G M' => M' = ⟨[], []⟩ ∧ ∃ s a, 0 ≤ s ∧ s < 2147483587 ∧ G = [some (.ll (ns.map .int)), some (.int s), a], ⟨rfl, 10040, _, by decide, by decide, rfl⟩, ?_, ?_⟩⟩))))))
  · rintro i d G1 M2 hd ⟨rfl, s, a, h0, h1, rfl⟩
    rw [List.getElem?_map] at hd
    obtain ⟨c, e1, rfl⟩ := Option.map_eq_some_iff.mp hd
    walk_at "e"
    · exact .inr ⟨by decide, by decide⟩
    · decide
    · decide
    · have b := fmod_lt (s * 47737 + c.fmod 2147483353 + 59) (show (0 : Int) < 2147483587 by decide)
      exact ⟨rfl, _, _, b.1, b.2, rfl⟩
  · rintro G1 M2 ⟨rfl, s, a, h0, h1, rfl⟩
    show WS K T _ _ _ _
    refine ws_shut (ws_ret (we_lstM (wa_cons (we_loose ?_))))
    walk_at "e"
    refine sld_ll ?_
    walk_at "e"
    intro p hp
    rw [cut]
    exact ⟨p, ns.take 63, 0, 0, s, 0, getM_add, ⟨by decide, by decide, h0, by omega, by decide⟩, by rw [setM_add hp]; exact k p⟩
abbrev N_law_of : List Str := ["_law_src", "_law_some"]
theorem sc_law_of : FnScope N_law_of ["_law_src", "_law_some"] (defScope (top 55)) := ⟨rfl, rfl, rfl, by decide +kernel, rfl, by decide +kernel, by decide +kernel⟩
def preOf : Pre := fun ds M R => ∃ (p : Addr) (d : D), ds = [.ptr p, d] ∧ M = sM p ∧ ((∃ z : Str, d = .str z ∧ 0 < z.length ∧ z.length ≤ 1000 ∧ ∀ c ∈ z.cps.toList, R (.str ⟨#[c]⟩) M) ∨ ∃ es : List D, d = .lst es ∧ 0 < es.length ∧ es.length ≤ 1000 ∧ ∀ e ∈ es, R e M)
theorem ok_law_of (L : Lib K mg) (F : FnAt K mg "_law_of" (top 55)) (c_law_draw : CDraw P w K T mg base) : Cal P w K T mg base "_law_of" 2 ["_law_src", "_law_some"] preOf := by
  refine cal_of F sc_law_of (fun ds M R h => by obtain ⟨_, _, rfl, _⟩ := h; rfl) (fun _ _ _ _ _ _ us hl => match us, hl with | [_, _], _ => rfl) fun f cdv A outer s H E hr => ⟨_, (pss_one (ps_ret (pe_ix (ix_seqK (K := K)) (pv 1) (pe_cal c_law_draw (hr) (by rfl) (pa_cons (pv 0) (pa_cons (pe_callB (call_lenK (K := K)) (by rfl) L.len_ boot_len (pa_cons (pv 1) pa_nil)) pa_nil))) (fun _ _ => rfl)))), fun ds M R h => ?_⟩
  obtain ⟨p, d, rfl, rfl, h⟩ := h
  rcases h with ⟨z, rfl, h0, h1, k⟩ | ⟨es, rfl, h0, h1, k⟩
  · walk_at "e"
    refine cad_lenS (small_len h1) ?_
    walk_at "e"
    refine draw_sM h0 (by omega) fun i hi => ?_
    rw [str_len] at hi
    refine opd_seqS (small_len h1) (c := z.cps.toList[i]) (by rw [atI_nat, List.getElem?_eq_getElem hi]) (k _ (List.getElem_mem hi))
  · walk_at "e"
    refine cad_lenV ?_
    walk_at "e"
    refine draw_sM h0 (by omega) fun i hi => ?_
    refine opd_seqL (d := es[i]) (by rw [atI_nat, List.getElem?_eq_getElem hi]) (k _ (List.getElem_mem hi))
end
end Dl
end
/-! ## P11 -/
section
set_option maxRecDepth 100000
set_option maxHeartbeats 1000000
namespace Dl
open PySem PySem.Spec PyProof.Rows L2 Mx
local macro_rules | `(tactic| walk_at "d1") => `(tactic| with_reducible first
  | refine ws_seq ?_ | refine ws_asgN ?_ | refine ws_asg ?_ | refine wg_name ?_ | refine ws_ret ?_ | refine ws_nx ?_ | refine ws_expr ?_
  | refine we_op ?_ | refine we_un ?_ | refine we_int ?_ | refine we_str ?_ | refine we_bl ?_ | refine we_non ?_ | refine we_ty ?_ | refine we_if ?_ | refine we_and ?_ | refine we_or ?_ | refine we_not ?_ | refine we_chain ?_
  | refine we_tup ?_ | refine we_lst ?_ | refine we_listRng ?_ | refine we_isi2 ?_ | refine we_cb ?_ | refine we_call ?_ | refine wa_cons ?_ | refine wa_nil ?_ | refine we_sl ?_ | refine wo_no ?_ | refine wo_some ?_
  | refine wt_test ?_ | refine wt_B ?_ | refine wt_and ?_ | refine wt_or ?_ | refine wt_not ?_ | refine wt_yes ?_
  | refine opd_add ?_ | refine opd_sub ?_ | refine opd_lt ?_ | refine opd_le ?_ | refine opd_gt ?_ | refine opd_ge ?_ | refine opd_eqI ?_ | refine opd_neI ?_ | refine opd_eqS ?_ | refine opd_neS ?_ | refine opd_isN ?_ | refine opd_notN ?_
  | refine opd_mulW ?_ ?_ | refine opd_mul ?_ ?_ | refine opd_pow ?_ ?_ | refine opd_fdivW ?_ ?_ | refine opd_modN ?_ ?_
  | refine cad_gcd ?_ | refine cad_int1 ?_ | refine cad_intB ?_ | refine cad_abs ?_ | refine cad_lenT ?_ | refine cad_lenL ?_ | refine cad_lenLL ?_ | refine cad_list ?_ | refine sld_lst ?_ | refine sld_tup ?_ | refine sld_tp ?_
  | refine we_fld ?_ | refine we_meth ?_ | refine we_prop ?_ | refine ws_par ?_ | refine ite_t ?_ | refine ite_f ?_ | fail)
local macro_rules | `(tactic| walk_at "d2") => `(tactic| first
  | refine we_var rfl ?_ | (with_reducible refine we_zero (by assumption) ?_) | (with_reducible refine we_layers (by assumption) ?_) | refine opd_ixT rfl ?_ | refine opd_ixP rfl ?_ | (with_reducible refine opd_ixL (atI_rng (by assumption)) ?_) | (with_reducible refine ws_asgN ?_) | fail)
local macro_rules | `(tactic| walk_at "d3") => `(tactic| first | (with_reducible refine ⟨_, rfl, ?_⟩) | (with_reducible refine ⟨sz_ok rfl, ?_⟩) | (with_reducible refine ⟨_, _, rfl, ?_⟩) | fail)
local macro_rules | `(tactic| walk_at "e") => `(tactic| repeat' (first | walk_at "d1" | walk_at "d2" | walk_at "d3" | fail))
local macro_rules | `(tactic| walk_at "d") => `(tactic| repeat' (first | walk_at "d1" | walk_at "d2" | walk_at "d3" | (with_reducible refine ws_if ?_) | fail))
section
variable {P : Program} {w : World} {K : PySem.W.Frag} {T : Tb} {mg : Str → Option Value} {base : Heap}
abbrev N_law_mixed : List Str := ["_law_src", "_law_things", "_law_found", "_law_thing"]
theorem sc_law_mixed : FnScope N_law_mixed ["_law_src", "_law_things"] (defScope (top 56)) := ⟨rfl, rfl, rfl, by decide +kernel, rfl, by decide +kernel, by decide +kernel⟩
def preMixed : Pre := fun ds M R => ∃ (α : Type) (p : Addr) (xs : List α) (g : α → D), ds = [.ptr p, .lst (xs.map g)] ∧ M = sM p ∧ xs.length ≤ 900 ∧ ∀ ls : List α, ls.Perm xs → R (.lst (ls.map g)) M
theorem perm_ins {α : Type} (ls : List α) (x : α) (i : Nat) : (ls.take i ++ [x] ++ ls.drop i).Perm (ls ++ [x]) := by
  have h1 : (ls.take i ++ [x] ++ ls.drop i).Perm ([x] ++ (ls.take i ++ ls.drop i)) := by
    rw [List.append_assoc]
    exact List.perm_append_comm_assoc _ _ _
  rw [List.take_append_drop] at h1
  exact h1.trans List.perm_append_comm
theorem ok_law_mixed (L : Lib K mg) (F : FnAt K mg "_law_mixed" (top 56)) (c_law_draw : CDraw P w K T mg base) : Cal P w K T mg base "_law_mixed" 2 ["_law_src", "_law_things"] preMixed := by
  refine cal_of F sc_law_mixed (fun ds M R h => by obtain ⟨_, _, _, _, rfl, _⟩ := h; rfl) (fun _ _ _ _ _ _ us hl => match us, hl with | [_, _], _ => rfl) fun f cdv A outer s H E hr => ⟨_, (pss_cons (ps_set (i := 2) sc_law_mixed.nd rfl (by first | exact Or.inl rfl | exact Or.inr rfl) (pe_lst pa_nil))
    (pss_cons (ps_for PassesOwn.never rfl (pi_listK (K := K) (pv 1)) (pg_name (i := 3) sc_law_mixed.nd rfl (by first | exact Or.inl rfl | exact Or.inr rfl)) (pss_one (ps_expr (pe_bm PySem.F.plainAttrs_list PySem.F.slot_list_insert PySem.F.type_list_insert mt_insert (pv 2) (pa_cons (pe_cal c_law_draw (hr) (by rfl) (pa_cons (pv 0) (pa_cons (pe_op op_add (pe_callB (call_len_seqK (K := K)) (by rfl) L.len_ boot_len (pa_cons (pv 2) pa_nil)) pe_int) pa_nil))) (pa_cons (pv 3) pa_nil))))))
    (pss_one (ps_ret (pv 2))))), fun ds M R h => ?_⟩
  obtain ⟨α, p, xs, g, rfl, rfl, hl, k⟩ := h
  refine ws_seq (ws_asgN (we_lstM (wa_nil ⟨sz_ok rfl, fun q hq => ?_⟩)))
  have hqp : p ≠ q := fun e => hq (e ▸ List.mem_cons_self)
  show WS K T _ _ _ _
  refine ws_seq (ws_for (wi_list (we_var rfl ⟨_, rfl, fun i G M' => ∃ (ls : List α) (x : Option D), ls.Perm (xs.take i) ∧ M' = addM (sM p) q (.lst (ls.map g)) ∧ G = [some (.ptr p), some (.lst (xs.map g)), some (.ptr q), x], ⟨[], _, .refl _, rfl, rfl⟩, ?_, ?_⟩)))
  · rintro i d G1 M2 hd ⟨ls, x, hp, rfl, rfl⟩
    rw [List.getElem?_map] at hd
    obtain ⟨a, e1, rfl⟩ := Option.map_eq_some_iff.mp hd
    have hi := (List.getElem?_eq_some_iff.mp e1).1
    have hll : ls.length ≤ i := by
      rw [hp.length_eq, List.length_take]
      exact Nat.min_le_left _ _
    refine wg_name (ws_expr (we_insert (we_var rfl ⟨q, _, rfl, getM_add, ?_⟩)))
    walk_at "e"
    refine cad_lenM getM_add ?_
    walk_at "e"
    refine ⟨[(q, _)], p, ls.length + 1, ?_, rfl, ?_, by omega, by omega, fun j hj => ?_⟩
    · rw [List.length_map]; rfl
    · show p ∉ [q]
      simpa using hqp
    · walk_at "e"
      refine ⟨j, _, _, rfl, getM_add, ?_, by omega, by simp [addM], ⟨ls.take j ++ [a] ++ ls.drop j, _, ?_, ?_, rfl⟩⟩
      · rw [List.length_map]; omega
      · rw [List.take_succ, e1]
        exact (perm_ins ls a j).trans (hp.append_right _)
      · rw [setM_add hq]
        simp
  · rintro G1 M2 ⟨ls, x, hp, rfl, rfl⟩
    show WS K T _ _ _ _
    refine ws_ret (we_freeze (we_var rfl ⟨q, _, sM p, _, rfl, rfl, rfl, ?_⟩))
    rw [List.length_map, List.take_length] at hp
    exact k ls hp
abbrev N_law_layer : List Str := ["_law_src", "_law_layers"]
theorem sc_law_layer : FnScope N_law_layer ["_law_src", "_law_layers"] (defScope (top 80)) := ⟨rfl, rfl, rfl, by decide +kernel, rfl, by decide +kernel, by decide +kernel⟩
def preLay : Pre := fun ds M R => ∃ (p : Addr) (n : Nat), ds = [.ptr p, .int n] ∧ M = sM p ∧ 1 ≤ n ∧ n ≤ 2 ∧ ∀ a < n, R (.str (lay a)) M
theorem ok_law_layer (L : Lib K mg) (F : FnAt K mg "_law_layer" (top 80)) (c_law_draw : CDraw P w K T mg base) : Cal P w K T mg base "_law_layer" 2 ["_law_src", "_law_layers"] preLay := by
  refine cal_of F sc_law_layer (fun ds M R h => by obtain ⟨_, _, rfl, _⟩ := h; rfl) (fun _ _ _ _ _ _ us hl => match us, hl with | [_, _], _ => rfl) fun f cdv A outer s H E hr => ⟨_, (pss_one (ps_ret (pe_ix (ix_listK (K := K)) (pe_lst (pa_cons pe_str (pa_cons pe_str pa_nil))) (pe_cal c_law_draw (hr) (by rfl) (pa_cons (pv 0) (pa_cons (pv 1) pa_nil))) (fun _ _ => rfl)))), fun ds M R h => ?_⟩
  obtain ⟨p, n, rfl, rfl, h1, h2, k⟩ := h
  walk_at "e"
  refine draw_sM h1 (by omega) fun i hi => ?_
  have hk := k i hi
  match i, hi, hk with
  | 0, _, hk => exact opd_ixL rfl hk
  | 1, _, hk => exact opd_ixL rfl hk
  | i + 2, hi, _ => omega
abbrev N_law_length : List Str := ["_law_src", "_law_way"]
theorem sc_law_length : FnScope N_law_length ["_law_src"] (defScope (top 65)) := ⟨rfl, rfl, rfl, by decide +kernel, rfl, by decide +kernel, by decide +kernel⟩
def preLen : Pre := fun ds M R => ∃ (p : Addr), ds = [.ptr p] ∧ M = sM p ∧ ∀ q, Lv 0 q → R (ratD q) M
theorem ok_law_length (L : Lib K mg) (F : FnAt K mg "_law_length" (top 65)) (c_law_draw : CDraw P w K T mg base) (c_law_low : Cal P w K T mg base "_law_low" 1 ["_law_top", "_law_bottom"] preLowest) : Cal P w K T mg base "_law_length" 2 ["_law_src"] preLen := by
  refine cal_of F sc_law_length (fun ds M R h => by obtain ⟨_, rfl, _⟩ := h; rfl) (fun _ _ _ _ _ _ us hl => match us, hl with | [_], _ => rfl) fun f cdv A outer s H E hr => ⟨_, (pss_cons (ps_set (i := 1) sc_law_length.nd rfl (by first | exact Or.inl rfl | exact Or.inr rfl) (pe_cal c_law_draw (hr) (by rfl) (pa_cons (pv 0) (pa_cons pe_int pa_nil))))
    (pss_cons (ps_if (pt_cmpR op_lt (pv 1) pe_int (nomark _)) (pss_one (ps_ret (pe_tup (pa_cons (pe_cal c_law_draw (hr) (by rfl) (pa_cons (pv 0) (pa_cons pe_int pa_nil))) (pa_cons pe_int pa_nil))))) pss_nil)
    (pss_cons (ps_if (pt_cmpR op_lt (pv 1) pe_int (nomark _)) (pss_one (ps_ret (pe_cal c_law_low (hr) (by rfl) (pa_cons (pe_cal c_law_draw (hr) (by rfl) (pa_cons (pv 0) (pa_cons pe_int pa_nil))) (pa_cons (pe_op op_add pe_int (pe_cal c_law_draw (hr) (by rfl) (pa_cons (pv 0) (pa_cons pe_int pa_nil)))) pa_nil))))) pss_nil)
    (pss_one (ps_ret (pe_tup (pa_cons (pe_cal c_law_draw (hr) (by rfl) (pa_cons (pv 0) (pa_cons (pe_op op_pow pe_int pe_int) pa_nil))) (pa_cons pe_int pa_nil)))))))), fun ds M R h => ?_⟩
  obtain ⟨p, rfl, rfl, k⟩ := h
  walk_at "e"
  refine draw_sM (m := 10) (by decide) (by decide) fun i hi => ?_
  walk_at "d"
  refine ite2 (fun _ => ?_) (fun _ => ?_)
  · walk_at "e"
    refine draw_sM (m := 6) (by decide) (by decide) fun j hj => ?_
    walk_at "e"
    exact k _ (lv_int (by omega))
  · walk_at "d"
    refine ite2 (fun _ => ?_) (fun _ => ?_)
    · walk_at "e"
      refine draw_sM (m := 13) (by decide) (by decide) fun j hj => ?_
      walk_at "e"
      refine draw_sM (m := 5) (by decide) (by decide) fun b hb => ?_
      walk_at "e"
      have hb5 : 1 + b ∈ [1, 2, 3, 4, 5] := by
        simp only [List.mem_cons, List.not_mem_nil, or_false]
        omega
      refine ⟨j, 1 + (b : Int), rfl, by omega, ?_, ?_⟩
      · have e : (1 + (b : Int)).natAbs = 1 + b := by omega
        rw [e]
        exact log_small (by omega)
      · have e : (1 + (b : Int)).toNat = 1 + b := by omega
        rw [e]
        exact k _ (lv_low (by omega) hb5)
    · walk_at "e"
      · exact ⟨by decide, by decide, by decide⟩
      · refine draw_sM (m := 1000000) (by decide) (by decide) fun j hj => ?_
        walk_at "e"
        exact k _ (lv_int (by omega))
abbrev N_law_bare : List Str := ["_law_src", "_law_one"]
theorem sc_law_bare : FnScope N_law_bare ["_law_src", "_law_one"] (defScope (top 66)) := ⟨rfl, rfl, rfl, by decide +kernel, rfl, by decide +kernel, by decide +kernel⟩
def preBare : Pre := fun ds M R => ∃ (p : Addr) (q : Rat), ds = [.ptr p, ratD q] ∧ M = sM p ∧ ∀ d, valD d q → R d M
theorem ok_law_bare (L : Lib K mg) (F : FnAt K mg "_law_bare" (top 66)) (c_law_draw : CDraw P w K T mg base) : Cal P w K T mg base "_law_bare" 2 ["_law_src", "_law_one"] preBare := by
  refine cal_of F sc_law_bare (fun ds M R h => by obtain ⟨_, _, rfl, _⟩ := h; rfl) (fun _ _ _ _ _ _ us hl => match us, hl with | [_, _], _ => rfl) fun f cdv A outer s H E hr => ⟨_, (pss_one (ps_ret (pe_ifExp (PW.pt (pw_and (pt_cmpR op_eq (pe_ix (ix_tupK (K := K)) (pv 1) pe_int (fun _ _ => rfl)) pe_int (nomark _)) (pw_and1 (pt_cmpR op_eq (pe_cal c_law_draw (hr) (by rfl) (pa_cons (pv 0) (pa_cons pe_int pa_nil))) pe_int (nomark _))))) (pe_ix (ix_tupK (K := K)) (pv 1) pe_int (fun _ _ => rfl)) (pv 1)))), fun ds M R h => ?_⟩
  obtain ⟨p, q, rfl, rfl, k⟩ := h
  have kr : (ends R).rt (ratD q) (sM p) := k _ (.inl rfl)
  walk_at "d"
  refine ite2 (fun h1 => ?_) (fun h1 => ?_)
  · have e1 : q.den = 1 := by have := of_decide_eq_true h1; omega
    walk_at "d"
    refine draw_sM (m := 2) (by decide) (by decide) fun j hj => ?_
    walk_at "d"
    refine ite2 (fun h2 => ?_) (fun h2 => ?_)
    · walk_at "d"
      refine k _ (.inr ⟨q.num, rfl, ?_⟩)
      exact Rat.ext rfl e1
    · walk_at "d"
      exact kr
  · walk_at "d"
    exact kr
end
end Dl
end
/-! ## P12 -/
section
set_option maxRecDepth 100000
set_option maxHeartbeats 1000000
namespace Dl
open PySem PySem.Spec PyProof.Rows L2 Mx
local macro_rules | `(tactic| walk_at "d1") => `(tactic| with_reducible first
  | refine ws_seq ?_ | refine ws_asgN ?_ | refine ws_asg ?_ | refine wg_name ?_ | refine ws_ret ?_ | refine ws_nx ?_ | refine ws_expr ?_
  | refine we_op ?_ | refine we_un ?_ | refine we_int ?_ | refine we_str ?_ | refine we_bl ?_ | refine we_non ?_ | refine we_ty ?_ | refine we_if ?_ | refine we_and ?_ | refine we_or ?_ | refine we_not ?_ | refine we_chain ?_
  | refine we_tup ?_ | refine we_lst ?_ | refine we_listRng ?_ | refine we_isi2 ?_ | refine we_cb ?_ | refine we_call ?_ | refine wa_cons ?_ | refine wa_nil ?_ | refine we_sl ?_ | refine wo_no ?_ | refine wo_some ?_
  | refine wt_test ?_ | refine wt_B ?_ | refine wt_and ?_ | refine wt_or ?_ | refine wt_not ?_ | refine wt_yes ?_
  | refine opd_add ?_ | refine opd_sub ?_ | refine opd_lt ?_ | refine opd_le ?_ | refine opd_gt ?_ | refine opd_ge ?_ | refine opd_eqI ?_ | refine opd_neI ?_ | refine opd_eqS ?_ | refine opd_neS ?_ | refine opd_isN ?_ | refine opd_notN ?_
  | refine opd_mulW ?_ ?_ | refine opd_mul ?_ ?_ | refine opd_pow ?_ ?_ | refine opd_fdivW ?_ ?_ | refine opd_modN ?_ ?_
  | refine cad_gcd ?_ | refine cad_int1 ?_ | refine cad_intB ?_ | refine cad_abs ?_ | refine cad_lenT ?_ | refine cad_lenL ?_ | refine cad_lenLL ?_ | refine cad_list ?_ | refine sld_lst ?_ | refine sld_tup ?_ | refine sld_tp ?_
  | refine we_fld ?_ | refine we_meth ?_ | refine we_prop ?_ | refine ws_par ?_ | refine ite_t ?_ | refine ite_f ?_ | fail)
local macro_rules | `(tactic| walk_at "d2") => `(tactic| first
  | refine we_var rfl ?_ | (with_reducible refine we_zero (by assumption) ?_) | (with_reducible refine we_layers (by assumption) ?_) | refine opd_ixT rfl ?_ | refine opd_ixP rfl ?_ | (with_reducible refine opd_ixL (atI_rng (by assumption)) ?_) | (with_reducible refine ws_asgN ?_) | fail)
local macro_rules | `(tactic| walk_at "d3") => `(tactic| first | (with_reducible refine ⟨_, rfl, ?_⟩) | (with_reducible refine ⟨sz_ok rfl, ?_⟩) | (with_reducible refine ⟨_, _, rfl, ?_⟩) | fail)
local macro_rules | `(tactic| walk_at "e") => `(tactic| repeat' (first | walk_at "d1" | walk_at "d2" | walk_at "d3" | fail))
local macro_rules | `(tactic| walk_at "d") => `(tactic| repeat' (first | walk_at "d1" | walk_at "d2" | walk_at "d3" | (with_reducible refine ws_if ?_) | fail))
section
variable {P : Program} {w : World} {K : PySem.W.Frag} {T : Tb} {mg : Str → Option Value} {base : Heap}
abbrev N_law_names : List Str := ["_law_src", "_law_many", "_law_letters", "_law_stem", "_law_k", "_law_at", "_law_letter"]
theorem sc_law_names : FnScope N_law_names ["_law_src", "_law_many"] (defScope (top 64)) := ⟨rfl, rfl, rfl, by decide +kernel, rfl, by decide +kernel, by decide +kernel⟩
def preLNames : Pre := fun ds M R => ∃ (p : Addr), ds = [.ptr p, .int 8] ∧ M = sM p ∧ ∀ ws : List Str, ws.length = 8 → ws.Nodup → (∀ w ∈ ws, GoodN w) → R (.lst (ws.map D.str)) M
theorem sum_st : ∀ cs : List Nat, ((cs.map fun c => st [c]).map (·.length)).sum = cs.length
  | [] => rfl
  | c :: cs => by
    rw [List.map_cons, List.map_cons, List.sum_cons, sum_st cs, st_len, List.length_cons, List.length_cons]
    simp
    omega
theorem ok_law_names (L : Lib K mg) (F : FnAt K mg "_law_names" (top 64)) (c_law_draw : CDraw P w K T mg base) (c_law_mixed : Cal P w K T mg base "_law_mixed" 2 ["_law_src", "_law_things"] preMixed) (c_law_of : Cal P w K T mg base "_law_of" 2 ["_law_src", "_law_some"] preOf) : Cal P w K T mg base "_law_names" 3 ["_law_src", "_law_many"] preLNames := by
  refine cal_of F sc_law_names (fun ds M R h => by obtain ⟨_, rfl, _⟩ := h; rfl) (fun _ _ _ _ _ _ us hl => match us, hl with | [_, _], _ => rfl) fun f cdv A outer s H E hr => ⟨_, (pss_cons (ps_set (i := 2) sc_law_names.nd rfl (by first | exact Or.inl rfl | exact Or.inr rfl) (pe_cal c_law_mixed (hr) (by rfl) (pa_cons (pv 0) (pa_cons (pe_callTy (call_listStr rfl) (by rfl) L.list_ (by decide +kernel) (pa_cons pe_str pa_nil)) pa_nil))))
    (pss_cons (ps_set (i := 3) sc_law_names.nd rfl (by first | exact Or.inl rfl | exact Or.inr rfl) (pe_join pe_str (pe_lc (own := [("_law_k", 4)]) (tt := tYes) rfl sc_law_names.nd (pi_range1 (by rfl) L.range_ (pa_cons (pe_cal c_law_draw (hr.mono (by decide)) (by rfl) (pa_cons (pv 0) (pa_cons pe_int pa_nil))) pa_nil)) (blkOk_by (own := [("_law_k", 4)]) (N := N_law_names) rfl) (fun _ _ _ _ _ => (pg_name (i := 4) sc_law_names.nd rfl (by first | exact Or.inl rfl | exact Or.inr rfl))) (fun _ _ _ _ _ => pts_nil) (fun _ _ _ _ _ => (pe_cal c_law_of (hr) (by rfl) (pa_cons (pv 0) (pa_cons pe_str pa_nil)))))))
    (pss_cons (ps_set (i := 5) sc_law_names.nd rfl (by first | exact Or.inl rfl | exact Or.inr rfl) (pe_cal c_law_draw (hr.mono (by decide)) (by rfl) (pa_cons (pv 0) (pa_cons (pe_op op_add (pe_callB (call_lenK (K := K)) (by rfl) L.len_ boot_len (pa_cons (pv 3) pa_nil)) pe_int) pa_nil))))
    (pss_one (ps_ret (pe_lc (own := [("_law_letter", 6)]) (tt := tYes) rfl sc_law_names.nd (pi_listK (K := K) (pe_slice (sl_listK (K := K)) (pv 2) po_none (po_some (pv 1)))) (blkOk_by (own := [("_law_letter", 6)]) (N := N_law_names) rfl) (fun _ _ _ _ _ => (pg_name (i := 6) sc_law_names.nd rfl (by first | exact Or.inl rfl | exact Or.inr rfl))) (fun _ _ _ _ _ => pts_nil) (fun _ _ _ _ _ => (pe_op op_add_str (pe_op op_add_str (pe_slice sl_str (pv 3) po_none (po_some (pv 5))) (pv 6)) (pe_slice sl_str (pv 3) (po_some (pv 5)) po_none))))))))), fun ds M R h => ?_⟩
  obtain ⟨p, rfl, rfl, k⟩ := h
  walk_at "e"
  refine cad_listStr (small_len (by decide)) ?_
  walk_at "e"
  refine ⟨Nat, p, lettersL, fun c => .str (st [c]), ?_, rfl, by decide, fun ls hls => ?_⟩
  · rw [letters_eq]
  have lnd : ls.Nodup := hls.nodup_iff.mpr letters_nd
  have lmem : ∀ c ∈ ls, c ∈ lettersL := fun c hc => hls.mem_iff.mp hc
  have llen : ls.length = 26 := hls.length_eq
  walk_at "e"
  refine we_join (we_str ⟨"", rfl, we_lcRF (wa_cons (we_call ?_))⟩)
  walk_at "e"
  refine draw_sM (m := 5) (by decide) (by decide) fun n hn => ?_
  walk_at "e"
  refine ⟨by omega, fun _ d => ∃ c : Nat, d = .str (st [c]) ∧ c ∈ lettersL, fun i hi => ?_, fun acc hacc hd => ?_⟩
  · walk_at "e"
    exact ⟨p, _, rfl, rfl, .inl ⟨_, rfl, by decide, by decide, fun c hc => ⟨⟨c, rfl, by rw [← letters_eq]; exact hc⟩, rfl⟩⟩⟩
  obtain ⟨g, hg, hgl⟩ := pick (α := Nat) (F := fun _ c => .str (st [c])) (P := fun _ c => c ∈ lettersL) hacc hd
  have hcs : ∃ cs : List Nat, acc = (cs.map fun c => st [c]).map D.str ∧ cs.length = n ∧ ∀ c ∈ cs, c ∈ lettersL := by
    refine ⟨(List.range n).map g, ?_, by simp, fun c hc => ?_⟩
    · rw [hg, List.map_map, List.map_map]
      rfl
    · obtain ⟨j, hj, rfl⟩ := List.mem_map.mp hc
      exact hgl j (List.mem_range.mp hj)
  obtain ⟨cs, rfl, hcl, hcm⟩ := hcs
  refine ⟨_, rfl, ?_, ?_⟩
  · rw [sum_st, List.length_map]
    show cs.length + cs.length * 0 ≤ _
    omega
  rw [join_st]
  walk_at "e"
  refine cad_lenS (small_len (by rw [st_len]; omega)) ?_
  walk_at "e"
  refine draw_sM (m := cs.length + 1) (by omega) (by omega) fun a ha => ?_
  walk_at "e"
  have cut : cutD (ls.map fun c => D.str (st [c])) none (some 8) = (ls.take 8).map fun c => D.str (st [c]) := by
    rw [List.map_take]
    exact cutD_to _ 8
  have len8 : (ls.take 8).length = 8 := by
    rw [List.length_take]
    omega
  refine we_lcL (wi_list (we_sl (we_var rfl (wo_no (wo_some (we_var rfl ⟨8, rfl, sld_lst ⟨_, by rw [cut], by rw [List.length_map]; omega, fun i => (((ls.take 8).map fun c => st (cs.take a ++ [c] ++ cs.drop a)).map D.str).getD i .non, fun i d hd => ?_, ?_⟩⟩))))))
  · rw [List.getElem?_map] at hd
    obtain ⟨c, e1, rfl⟩ := Option.map_eq_some_iff.mp hd
    have htl : (cs.take a).length ≤ 5 := by
      rw [List.length_take]
      omega
    have hdl : (cs.drop a).length ≤ 5 := by
      rw [List.length_drop]
      omega
    walk_at "e"
    refine sld_str (small_len (by rw [st_len]; omega)) ?_
    rw [cutS_to]
    walk_at "e"
    refine opd_addS (Nat.le_of_lt (small1000 (by rw [st_len, st_len, List.length_singleton]; omega))) ?_
    rw [st_add]
    walk_at "e"
    refine sld_str (small_len (by rw [st_len]; omega)) ?_
    rw [cutS_from]
    refine opd_addS (Nat.le_of_lt (small1000 (by rw [st_len, st_len, List.length_append, List.length_singleton]; omega))) ⟨?_, rfl⟩
    rw [st_add]
    show D.str _ = List.getD _ i D.non
    rw [List.getD_eq_getElem?_getD, List.getElem?_map, List.getElem?_map, e1]
    rfl
  · rw [List.length_map]
    have e : (List.range (ls.take 8).length).map (fun i => (((ls.take 8).map fun c => st (cs.take a ++ [c] ++ cs.drop a)).map D.str).getD i .non) = ((ls.take 8).map fun c => st (cs.take a ++ [c] ++ cs.drop a)).map D.str := by
      symm
      apply rng_ext
      · simp
      · intro j d hd
        rw [List.getD_eq_getElem?_getD, hd]
        rfl
    rw [e]
    refine k _ (by rw [List.length_map, len8]) ?_ fun w hw => ?_
    · refine List.pairwise_map.mpr (List.Pairwise.imp ?_ (lnd.sublist (List.take_sublist 8 ls)))
      intro c d hcd e2
      have e3 : cs.take a ++ [c] ++ cs.drop a = cs.take a ++ [d] ++ cs.drop a := by
        have := congrArg (fun s : Str => s.cps.toList) e2
        simpa using this
      rw [List.append_assoc, List.append_assoc] at e3
      have e4 := List.append_cancel_left e3
      have e5 : c = d := by simpa using e4
      exact hcd e5
    · obtain ⟨c, hc, rfl⟩ := List.mem_map.mp hw
      have hcl2 : c ∈ lettersL := lmem c (List.mem_of_mem_take hc)
      have hlen : (cs.take a ++ [c] ++ cs.drop a).length = cs.length + 1 := by
        rw [List.length_append, List.length_append, List.length_take, List.length_drop, List.length_singleton]
        omega
      refine ⟨by rw [st_len, hlen]; omega, by rw [st_len, hlen]; omega, fun x hx => ?_⟩
      have hx' : x ∈ cs.take a ++ [c] ++ cs.drop a := hx
      rw [List.mem_append, List.mem_append, List.mem_singleton] at hx'
      rcases hx' with (h | rfl) | h
      · exact hcm x (List.mem_of_mem_take h)
      · exact hcl2
      · exact hcm x (List.mem_of_mem_drop h)
abbrev N_law_table : List Str := ["_law_src", "_law_size", "_law_other", "_law_one"]
theorem sc_law_table : FnScope N_law_table ["_law_src", "_law_size"] (defScope (top 68)) := ⟨rfl, rfl, rfl, by decide +kernel, rfl, by decide +kernel, by decide +kernel⟩
def preTab : Pre := fun ds M R => ∃ (p : Addr) (n : Nat), ds = [.ptr p, .int n] ∧ M = sM p ∧ n ≤ 9 ∧ ∀ f, Met n f → LvM 0 n f → R (matD n f) M
theorem ok_law_table (L : Lib K mg) (F : FnAt K mg "_law_table" (top 68)) (c_law_length : Cal P w K T mg base "_law_length" 2 ["_law_src"] preLen) (c_law_closed : Cal P w K T mg base "_law_closed" 3 ["_law_rows"] preClosed) : Cal P w K T mg base "_law_table" 4 ["_law_src", "_law_size"] preTab := by
  refine cal_of F sc_law_table (fun ds M R h => by obtain ⟨_, _, rfl, _⟩ := h; rfl) (fun _ _ _ _ _ _ us hl => match us, hl with | [_, _], _ => rfl) fun f cdv A outer s H E hr => ⟨_, (pss_one (ps_ret (pe_cal c_law_closed (hr) (by rfl) (pa_cons (pe_lc (own := [("_law_one", 3)]) (tt := tYes) rfl sc_law_table.nd (pi_range1 (by rfl) L.range_ (pa_cons (pv 1) pa_nil)) (blkOk_by (own := [("_law_one", 3)]) (N := N_law_table) rfl) (fun _ _ _ _ _ => (pg_name (i := 3) sc_law_table.nd rfl (by first | exact Or.inl rfl | exact Or.inr rfl))) (fun _ _ _ _ _ => pts_nil) (fun _ _ _ _ _ => (pe_lc (own := [("_law_other", 2)]) (tt := tYes) rfl sc_law_table.nd (pi_range1 (by rfl) L.range_ (pa_cons (pv 1) pa_nil)) (blkOk_by (own := [("_law_other", 2)]) (N := N_law_table) rfl) (fun _ _ _ _ _ => (pg_name (i := 2) sc_law_table.nd rfl (by first | exact Or.inl rfl | exact Or.inr rfl))) (fun _ _ _ _ _ => pts_nil) (fun _ _ _ _ _ => (pe_ifExp (pt_cmpR op_eq (pv 3) (pv 2) (nomark _)) (pe_tup (pa_cons pe_int (pa_cons pe_int pa_nil))) (pe_cal c_law_length (hr.mono (by decide)) (by rfl) (pa_cons (pv 0) pa_nil))))))) pa_nil)))), fun ds M R h => ?_⟩
  obtain ⟨p, n, rfl, rfl, hn, k⟩ := h
  walk_at "e"
  refine we_lcRF (wa_cons (we_var rfl (wa_nil ⟨n, rfl, by omega, fun i d => ∃ g : Nat → Rat, d = rowD n g ∧ (∀ j < n, Lv 0 (g j) ∧ (i = j → g j = 0)), fun x hx => ?_, fun acc hl h => ?_⟩)))
  · refine we_lcRF (wa_cons (we_var rfl (wa_nil ⟨n, rfl, by omega, fun j d => ∃ q : Rat, d = ratD q ∧ Lv 0 q ∧ (x = j → q = 0), fun y hy => ?_, fun acc hl h => ?_⟩)))
    · walk_at "d"
      refine ite2 (fun h => ?_) (fun h => ?_)
      · walk_at "d"
        exact ⟨⟨0, rfl, lv_zero 0, fun _ => rfl⟩, rfl⟩
      · walk_at "d"
        exact ⟨p, rfl, rfl, fun q hq => ⟨⟨q, rfl, hq, fun e => absurd (decide_eq_true (by omega)) h⟩, rfl⟩⟩
    · obtain ⟨g, hg, hp⟩ := pick (α := Rat) (F := fun _ q => ratD q) (P := fun j q => Lv 0 q ∧ (x = j → q = 0)) hl h
      exact ⟨⟨g, by rw [hg], hp⟩, rfl⟩
  · obtain ⟨f, hf, hp⟩ := pick (α := Nat → Rat) (F := fun _ g => rowD n g) (P := fun i g => ∀ j < n, Lv 0 (g j) ∧ (i = j → g j = 0)) hl h
    rw [hf]
    have hlv : LvM 0 n f := fun i hi j hj => (hp i hi j hj).1
    walk_at "e"
    refine ⟨0, n, f, rfl, hn, by omega, hlv, k _ (fw_met (fun i hi => (hp i hi i hi).2 rfl) fun i hi j hj => lv_nonneg (hlv i hi j hj)) (fw_lv hlv n (Nat.le_refl _))⟩
end
end Dl
end
/-! ## P13 -/
section
set_option maxRecDepth 100000
set_option maxHeartbeats 1000000
namespace Dl
open PySem PySem.Spec PyProof.Rows L2 Mx
local macro_rules | `(tactic| walk_at "d1") => `(tactic| with_reducible first
  | refine ws_seq ?_ | refine ws_asgN ?_ | refine ws_asg ?_ | refine wg_name ?_ | refine ws_ret ?_ | refine ws_nx ?_ | refine ws_expr ?_
  | refine we_op ?_ | refine we_un ?_ | refine we_int ?_ | refine we_str ?_ | refine we_bl ?_ | refine we_non ?_ | refine we_ty ?_ | refine we_if ?_ | refine we_and ?_ | refine we_or ?_ | refine we_not ?_ | refine we_chain ?_
  | refine we_tup ?_ | refine we_lst ?_ | refine we_listRng ?_ | refine we_isi2 ?_ | refine we_cb ?_ | refine we_call ?_ | refine wa_cons ?_ | refine wa_nil ?_ | refine we_sl ?_ | refine wo_no ?_ | refine wo_some ?_
  | refine wt_test ?_ | refine wt_B ?_ | refine wt_and ?_ | refine wt_or ?_ | refine wt_not ?_ | refine wt_yes ?_
  | refine opd_add ?_ | refine opd_sub ?_ | refine opd_lt ?_ | refine opd_le ?_ | refine opd_gt ?_ | refine opd_ge ?_ | refine opd_eqI ?_ | refine opd_neI ?_ | refine opd_eqS ?_ | refine opd_neS ?_ | refine opd_isN ?_ | refine opd_notN ?_
  | refine opd_mulW ?_ ?_ | refine opd_mul ?_ ?_ | refine opd_pow ?_ ?_ | refine opd_fdivW ?_ ?_ | refine opd_modN ?_ ?_
  | refine cad_gcd ?_ | refine cad_int1 ?_ | refine cad_intB ?_ | refine cad_abs ?_ | refine cad_lenT ?_ | refine cad_lenL ?_ | refine cad_lenLL ?_ | refine cad_list ?_ | refine sld_lst ?_ | refine sld_tup ?_ | refine sld_tp ?_
  | refine we_fld ?_ | refine we_meth ?_ | refine we_prop ?_ | refine ws_par ?_ | refine ite_t ?_ | refine ite_f ?_ | fail)
local macro_rules | `(tactic| walk_at "d2") => `(tactic| first
  | refine we_var rfl ?_ | (with_reducible refine we_zero (by assumption) ?_) | (with_reducible refine we_layers (by assumption) ?_) | refine opd_ixT rfl ?_ | refine opd_ixP rfl ?_ | (with_reducible refine opd_ixL (atI_rng (by assumption)) ?_) | (with_reducible refine ws_asgN ?_) | fail)
local macro_rules | `(tactic| walk_at "d3") => `(tactic| first | (with_reducible refine ⟨_, rfl, ?_⟩) | (with_reducible refine ⟨sz_ok rfl, ?_⟩) | (with_reducible refine ⟨_, _, rfl, ?_⟩) | fail)
local macro_rules | `(tactic| walk_at "e") => `(tactic| repeat' (first | walk_at "d1" | walk_at "d2" | walk_at "d3" | fail))
local macro_rules | `(tactic| walk_at "d") => `(tactic| repeat' (first | walk_at "d1" | walk_at "d2" | walk_at "d3" | (with_reducible refine ws_if ?_) | fail))
section
variable {P : Program} {w : World} {K : PySem.W.Frag} {T : Tb} {mg : Str → Option Value} {base : Heap}
abbrev planD (n : Nat) (fs : List Tab) (nm : Nm) : D := .tup [nmD nm, .lst (tabsD n fs)]
abbrev N_law_made : List Str := ["_law_plan", "_law_tables", "_law_row", "_law_table_here"]
theorem sc_law_made : FnScope N_law_made ["_law_plan"] (defScope (top 69)) := ⟨rfl, rfl, rfl, by decide +kernel, rfl, by decide +kernel, by decide +kernel⟩
def preMade : Pre := fun ds M R => ∃ (l n : Nat) (fs : List Tab) (nm : Nm), ds = [planD n fs nm] ∧ TabsOk l n fs ∧ NmOk n nm ∧ M.lk = [] ∧ ∀ q, R (wD K (tabsD n fs) q nm) M
theorem ok_law_made (L : Lib K mg) (W : WFacts K) (F : FnAt K mg "_law_made" (top 69)) (i_World : CalIK P w K T mg base "World" 6 2 "cart" ["self", "names", "foot", "cart"] (preInit (K := K))) : Cal P w K T mg base "_law_made" 8 ["_law_plan"] (preMade (K := K)) := by
  refine cal_of F sc_law_made (fun ds M R h => by obtain ⟨_, _, _, _, rfl, _⟩ := h; rfl) (fun _ _ _ _ _ _ us hl => match us, hl with | [_], _ => rfl) fun f cdv A outer s H E hr => ⟨_, (pss_cons (ps_setLc (i := 1) (own := [("_law_table_here", 3)]) (tt := tYes) rfl sc_law_made.nd rfl rfl (sw_true rfl rfl rfl (by decide +kernel)) (pi_listK (K := K) (pe_ix (ix_tupK (K := K)) (pv 0) pe_int (fun _ _ => rfl))) (blkOk_by (own := [("_law_table_here", 3)]) (N := N_law_made) rfl) (fun _ _ _ _ _ => (pg_name (i := 3) sc_law_made.nd rfl (by first | exact Or.inl rfl | exact Or.inr rfl))) (fun _ _ _ _ _ => pts_nil) (fun _ _ _ _ _ => (pe_lc (own := [("_law_row", 2)]) (tt := tYes) rfl sc_law_made.nd (pi_listK (K := K) (pv 3)) (blkOk_by (own := [("_law_row", 2)]) (N := N_law_made) rfl) (fun _ _ _ _ _ => (pg_name (i := 2) sc_law_made.nd rfl (by first | exact Or.inl rfl | exact Or.inr rfl))) (fun _ _ _ _ _ => pts_nil) (fun _ _ _ _ _ => (pe_callTy (call_list_ofK (K := K)) (by rfl) L.list_ (by decide +kernel) (pa_cons (pv 2) pa_nil))))))
    (pss_one (ps_ret (pe_makeIK i_World (hr) (by rfl) (pa_cons (pe_callTy (call_dictPK (K := K) rfl) (by rfl) L.dict_ (by decide +kernel) (pa_cons (pe_ix (ix_tupK (K := K)) (pv 0) pe_int (fun _ _ => rfl)) pa_nil)) (pa_cons (pe_ix (ix_listK (K := K)) (pv 1) pe_int (fun _ _ => rfl)) pa_nil)) (pe_ifExp (pt_cmpR op_eq (pe_callB (call_len_seqK (K := K)) (by rfl) L.len_ boot_len (pa_cons (pv 1) pa_nil)) pe_int (nomark _)) (pe_ix (ix_listK (K := K)) (pv 1) pe_int (fun _ _ => rfl)) pe_non))))), fun ds M R h => ?_⟩
  obtain ⟨l, n, fs, nm, rfl, ok, hnm, hlk, k⟩ := h
  have hl2 : fs.length ≤ 2 := by rcases ok.len with h | h <;> omega
  have n9 := ok.n9
  refine ws_seq (ws_asgN (we_lcX (wi_list (we_op (we_var rfl (we_int (opd_ixT rfl ⟨_, rfl, Tab, fs, matD n, matD n, rfl, by omega, fun f hf => ?_, ?_⟩)))))))
  · exact we_copy (we_var rfl ⟨n, f, rfl, by omega, rfl, rfl⟩) (show 2 < 4 by omega)
  · show WS K T _ _ _ _
    refine ws_ret (we_freeze (we_makeK (gD := fun ds es => ds ++ es) (fun a b => a.append b) ?_))
    match fs, ok, k with
    | [f], ok, k =>
      walk_at "e"
      refine cad_dictP hnm.nd fun p => ?_
      walk_at "e"
      refine opd_ixL (d := matD n f) rfl ?_
      walk_at "e"
      refine ite2 (fun h => by have := of_decide_eq_true h; simp at this) fun _ => ?_
      walk_at "e"
      refine ⟨rfl, rfl, fun x hx => ⟨x, p, l, n, f, [], nm, nm, M, rfl, rfl, hx, hlk, ok, .refl _, hnm, fun q => ⟨rfl, x, _, M, _, rfl, rfl, rfl, k q⟩⟩⟩
    | [f, g], ok, k =>
      walk_at "e"
      refine cad_dictP hnm.nd fun p => ?_
      walk_at "e"
      refine opd_ixL (d := matD n f) rfl ?_
      walk_at "e"
      refine ite2 (fun _ => ?_) fun h => absurd rfl h
      walk_at "e"
      refine opd_ixL (d := matD n g) rfl ?_
      walk_at "e"
      refine ⟨rfl, rfl, fun x hx => ⟨x, p, l, n, f, [g], nm, nm, M, rfl, rfl, hx, hlk, ok, .refl _, hnm, fun q => ⟨rfl, x, _, M, _, rfl, rfl, rfl, k q⟩⟩⟩
    | [], ok, k =>
      rcases ok.len with h | h <;> simp at h
    | _ :: _ :: _ :: _, ok, k =>
      rcases ok.len with h | h <;> simp at h
abbrev N_law_told : List Str := ["_law_world", "_law_tables", "_law_layer_here", "_law_name"]
theorem sc_law_told : FnScope N_law_told ["_law_world"] (defScope (top 70)) := ⟨rfl, rfl, rfl, by decide +kernel, rfl, by decide +kernel, by decide +kernel⟩
def preTold : Pre := fun ds M R => ∃ (l n : Nat) (fs : List Tab) (nm : Nm) (q : Addr), ds = [wD K (tabsD n fs) q nm] ∧ TabsOk l n fs ∧ NmOk n nm ∧ R (planD n fs nm) M
theorem ok_law_told (L : Lib K mg) (W : WFacts K) (F : FnAt K mg "_law_told" (top 70)) (c_World_table : CalM P w K T mg base "World" "table" 4 ["self", "layer"] [] (preTable (K := K))) (c_World_layers : CalP P w K T mg base "World" "layers" 1 (preLayers (K := K)))
    (c_World_names : CalM P w K T mg base "World" "names" 1 ["self"] [] (preNames (K := K))) (c_World_place : CalM P w K T mg base "World" "place" 2 ["self", "name"] [] (prePlace (K := K))) :
    Cal P w K T mg base "_law_told" 5 ["_law_world"] (preTold (K := K)) := by
  refine cal_of F sc_law_told (fun ds M R h => by obtain ⟨_, _, _, _, _, rfl, _⟩ := h; rfl) (fun _ _ _ _ _ _ us hl => match us, hl with | [_], _ => rfl) fun f cdv A outer s H E hr => ⟨_, (pss_cons (ps_setLc (i := 1) (own := [("_law_layer_here", 2)]) (tt := tYes) rfl sc_law_told.nd rfl rfl (sw_true rfl rfl rfl (by decide +kernel)) (pi_listK (K := K) (pe_slice (sl_listK (K := K)) (pe_lst (pa_cons pe_str (pa_cons pe_str pa_nil))) po_none (po_some (pe_propM c_World_layers (pv 0) (hr.mono (by decide)))))) (blkOk_by (own := [("_law_layer_here", 2)]) (N := N_law_told) rfl) (fun _ _ _ _ _ => (pg_name (i := 2) sc_law_told.nd rfl (by first | exact Or.inl rfl | exact Or.inr rfl))) (fun _ _ _ _ _ => pts_nil) (fun _ _ _ _ _ => (pe_calM c_World_table (pv 0) (hr) (pa_cons (pv 2) pa_nil))))
    (pss_one (ps_ret (pe_tup (pa_cons (pe_lc (own := [("_law_name", 3)]) (tt := tYes) rfl sc_law_told.nd (pi_listK (K := K) (pe_calM0 c_World_names (pv 0) (hr.mono (by decide)))) (blkOk_by (own := [("_law_name", 3)]) (N := N_law_told) rfl) (fun _ _ _ _ _ => (pg_name (i := 3) sc_law_told.nd rfl (by first | exact Or.inl rfl | exact Or.inr rfl))) (fun _ _ _ _ _ => pts_nil) (fun _ _ _ _ _ => (pe_tup (pa_cons (pv 3) (pa_cons (pe_calM c_World_place (pv 0) (hr.mono (by decide)) (pa_cons (pv 3) pa_nil)) pa_nil))))) (pa_cons (pv 1) pa_nil)))))), fun ds M R h => ?_⟩
  obtain ⟨l, n, fs, nm, q, rfl, ok, hnm, k⟩ := h
  have hl2 : fs.length ≤ 2 := by rcases ok.len with h | h <;> omega
  have n9 := ok.n9
  have n5 := hnm.ln
  have hz : fs.length = 1 ∨ fs.length = 2 := ok.len
  refine ws_seq (ws_asgN (we_lcX ?_))
  walk_at "e"
  refine wi_list ?_
  walk_at "e"
  refine ⟨_, _, .inl rfl, _, q, nm, rfl, _, rfl, sld_lst ⟨_, rfl, Nat, List.range fs.length, fun a => .str (lay a), fun a => matD n (fs.getD a (fun _ _ => 0)), ?_, ?_, fun a ha => ?_, ?_⟩⟩
  · rcases hz with h | h
    · rw [tabsD, List.length_map, h]; rfl
    · rw [tabsD, List.length_map, h]; rfl
  · rw [List.length_range]; omega
  · have ha' := List.mem_range.mp ha
    refine we_meth (we_var rfl ⟨_, _, .inl rfl, by decide, wa_cons (we_var rfl (wa_nil ⟨_, q, nm, a, n, fs[a], rfl, ?_, ?_, by omega, ?_, rfl⟩))⟩)
    · rw [tabsD, List.length_map]; exact hl2
    · rw [tabsD, List.getElem?_map, List.getElem?_eq_getElem ha']; rfl
    · show matD n _ = matD n _
      rw [List.getD_eq_getElem?_getD, List.getElem?_eq_getElem ha']
      rfl
  · have e : ((List.range fs.length).map fun a => matD n (fs.getD a (fun _ _ => 0))) = tabsD n fs := by
      symm
      apply rng_ext
      · rw [tabsD, List.length_map]
      · intro j d hd
        rw [tabsD, List.getElem?_map] at hd
        obtain ⟨g, e1, rfl⟩ := Option.map_eq_some_iff.mp hd
        rw [List.getD_eq_getElem?_getD, e1]
        rfl
    rw [e]
    show WS K T _ _ _ _
    refine ws_ret (we_tup (wa_cons (we_lcX (wi_list (we_meth (we_var rfl ⟨_, _, .inl rfl, by decide, wa_nil ⟨n, _, q, nm, rfl, hnm, _, rfl, Str × Nat, nm, fun p => .str p.1, pairD, ?_, by omega, fun p hp => ?_, ?_⟩⟩))))))
    · rw [List.map_map]; rfl
    · refine we_tup (wa_cons (we_var rfl (wa_cons (we_meth (we_var rfl ⟨_, _, .inl rfl, by decide, wa_cons (we_var rfl (wa_nil ⟨_, q, nm, p.1, p.2, rfl, place_mem hnm.nd hp, ?_⟩))⟩)))))
      exact wa_nil ⟨sz_ok rfl, rfl, rfl⟩
    · exact wa_cons (we_var rfl (wa_nil ⟨sz_ok rfl, k⟩))
abbrev N_law_spot : List Str := ["_law_plan", "_law_name"]
theorem sc_law_spot : FnScope N_law_spot ["_law_plan", "_law_name"] (defScope (top 73)) := ⟨rfl, rfl, rfl, by decide +kernel, rfl, by decide +kernel, by decide +kernel⟩
def preSpot : Pre := fun ds M R => ∃ (n : Nat) (fs : List Tab) (nm : Nm) (x : Str) (i : Nat), ds = [planD n fs nm, .str x] ∧ (nm.map (·.1)).Nodup ∧ placeN nm x = some i ∧ R (.int i) M
theorem ok_law_spot (L : Lib K mg) (F : FnAt K mg "_law_spot" (top 73)) : Cal P w K T mg base "_law_spot" 1 ["_law_plan", "_law_name"] preSpot := by
  refine cal_of F sc_law_spot (fun ds M R h => by obtain ⟨_, _, _, _, _, rfl, _⟩ := h; rfl) (fun _ _ _ _ _ _ us hl => match us, hl with | [_, _], _ => rfl) fun f cdv A outer s H E hr => ⟨_, (pss_one (ps_ret (pe_dget (hu_of hr) (pe_callTy (call_dictPK (K := K) rfl) (by rfl) L.dict_ (by decide +kernel) (pa_cons (pe_ix (ix_tupK (K := K)) (pv 0) pe_int (fun _ _ => rfl)) pa_nil)) (pv 1) (fun _ _ => rfl)))), fun ds M R h => ?_⟩
  obtain ⟨n, fs, nm, x, i, rfl, hn, hx, k⟩ := h
  refine ws_ret (we_dget ?_)
  walk_at "e"
  refine cad_dictP hn fun p => ?_
  refine we_var rfl ⟨p, _, _, .inr x, .int i, .inl rfl, rfl, ?_, k⟩
  rw [dval_nm, hx]
  rfl
end
end Dl
end
/-! ## P14 -/
section
set_option maxRecDepth 100000
set_option maxHeartbeats 1000000
namespace Dl
open PySem PySem.Spec PyProof.Rows L2 Mx
local macro_rules | `(tactic| walk_at "d1") => `(tactic| with_reducible first
  | refine ws_seq ?_ | refine ws_asgN ?_ | refine ws_asg ?_ | refine wg_name ?_ | refine ws_ret ?_ | refine ws_nx ?_ | refine ws_expr ?_
  | refine we_op ?_ | refine we_un ?_ | refine we_int ?_ | refine we_str ?_ | refine we_bl ?_ | refine we_non ?_ | refine we_ty ?_ | refine we_if ?_ | refine we_and ?_ | refine we_or ?_ | refine we_not ?_ | refine we_chain ?_
  | refine we_tup ?_ | refine we_lst ?_ | refine we_listRng ?_ | refine we_isi2 ?_ | refine we_cb ?_ | refine we_call ?_ | refine wa_cons ?_ | refine wa_nil ?_ | refine we_sl ?_ | refine wo_no ?_ | refine wo_some ?_
  | refine wt_test ?_ | refine wt_B ?_ | refine wt_and ?_ | refine wt_or ?_ | refine wt_not ?_ | refine wt_yes ?_
  | refine opd_add ?_ | refine opd_sub ?_ | refine opd_lt ?_ | refine opd_le ?_ | refine opd_gt ?_ | refine opd_ge ?_ | refine opd_eqI ?_ | refine opd_neI ?_ | refine opd_eqS ?_ | refine opd_neS ?_ | refine opd_isN ?_ | refine opd_notN ?_
  | refine opd_mulW ?_ ?_ | refine opd_mul ?_ ?_ | refine opd_pow ?_ ?_ | refine opd_fdivW ?_ ?_ | refine opd_modN ?_ ?_
  | refine cad_gcd ?_ | refine cad_int1 ?_ | refine cad_intB ?_ | refine cad_abs ?_ | refine cad_lenT ?_ | refine cad_lenL ?_ | refine cad_lenLL ?_ | refine cad_list ?_ | refine sld_lst ?_ | refine sld_tup ?_ | refine sld_tp ?_
  | refine we_fld ?_ | refine we_meth ?_ | refine we_prop ?_ | refine ws_par ?_ | refine ite_t ?_ | refine ite_f ?_ | fail)
local macro_rules | `(tactic| walk_at "d2") => `(tactic| first
  | refine we_var rfl ?_ | (with_reducible refine we_zero (by assumption) ?_) | (with_reducible refine we_layers (by assumption) ?_) | refine opd_ixT rfl ?_ | refine opd_ixP rfl ?_ | (with_reducible refine opd_ixL (atI_rng (by assumption)) ?_) | (with_reducible refine ws_asgN ?_) | fail)
local macro_rules | `(tactic| walk_at "d3") => `(tactic| first | (with_reducible refine ⟨_, rfl, ?_⟩) | (with_reducible refine ⟨sz_ok rfl, ?_⟩) | (with_reducible refine ⟨_, _, rfl, ?_⟩) | fail)
local macro_rules | `(tactic| walk_at "e") => `(tactic| repeat' (first | walk_at "d1" | walk_at "d2" | walk_at "d3" | fail))
local macro_rules | `(tactic| walk_at "d") => `(tactic| repeat' (first | walk_at "d1" | walk_at "d2" | walk_at "d3" | (with_reducible refine ws_if ?_) | fail))
section
variable {P : Program} {w : World} {K : PySem.W.Frag} {T : Tb} {mg : Str → Option Value} {base : Heap}
abbrev N_law_spread_plan : List Str := ["_law_src", "_law_names_here", "_law_size", "_law_layers", "_law_places", "_law_order", "_law_k", "_law_layer_here"]
theorem sc_law_spread_plan : FnScope N_law_spread_plan ["_law_src", "_law_names_here", "_law_size", "_law_layers"] (defScope (top 82)) := ⟨rfl, rfl, rfl, by decide +kernel, rfl, by decide +kernel, by decide +kernel⟩
def preSpread : Pre := fun ds M R => ∃ (p : Addr) (ws : List Str) (n k : Nat), ds = [.ptr p, .lst (ws.map D.str), .int n, .int k] ∧ M = sM p ∧ 1 ≤ ws.length ∧ ws.length ≤ 2 ∧ ws.Nodup ∧ (∀ s ∈ ws, GoodN s) ∧ 2 ≤ n ∧ n ≤ 3 ∧ 1 ≤ k ∧ k ≤ 2 ∧
  ∀ (nm : Nm) (fs : List Tab), TabsOk 0 n fs → fs.length = k → NmOk n nm → (∀ q ∈ nm, q.1 ∈ ws) → R (planD n fs nm) M
theorem zip_snd {α β : Type} : ∀ (xs : List α) (ys : List β), (xs.zip ys).map (·.2) = ys.take xs.length
  | [], ys => by simp
  | x :: xs, [] => by simp
  | x :: xs, y :: ys => by
    rw [List.zip_cons_cons, List.map_cons, zip_snd xs ys]
    rfl
theorem ok_law_spread_plan (L : Lib K mg) (F : FnAt K mg "_law_spread_plan" (top 82)) (c_law_mixed : Cal P w K T mg base "_law_mixed" 2 ["_law_src", "_law_things"] preMixed) (c_law_table : Cal P w K T mg base "_law_table" 4 ["_law_src", "_law_size"] preTab) :
    Cal P w K T mg base "_law_spread_plan" 5 ["_law_src", "_law_names_here", "_law_size", "_law_layers"] preSpread := by
  refine cal_of F sc_law_spread_plan (fun ds M R h => by obtain ⟨_, _, _, _, rfl, _⟩ := h; rfl) (fun _ _ _ _ _ _ us hl => match us, hl with | [_, _, _, _], _ => rfl) fun f cdv A outer s H E hr => ⟨_, (pss_cons (ps_set (i := 4) sc_law_spread_plan.nd rfl (by first | exact Or.inl rfl | exact Or.inr rfl) (pe_cal c_law_mixed (hr.mono (by decide)) (by rfl) (pa_cons (pv 0) (pa_cons (pe_callTy (call_listRng rfl) (by rfl) L.list_ (by decide +kernel) (pa_cons (pe_callTy cr_range1 (by rfl) L.range_ (by decide +kernel) (pa_cons (pv 2) pa_nil)) pa_nil)) pa_nil))))
    (pss_cons (ps_set (i := 5) sc_law_spread_plan.nd rfl (by first | exact Or.inl rfl | exact Or.inr rfl) (pe_callB (cr_sortedSK (K := K)) (by rfl) L.sorted_ (by decide +kernel) (pa_cons (pe_slice (sl_listK (K := K)) (pv 1) po_none (po_some (pv 2))) pa_nil)))
    (pss_one (ps_ret (pe_tup (pa_cons (pe_lc (own := [("_law_k", 6)]) (tt := tYes) rfl sc_law_spread_plan.nd (pi_range1 (by rfl) L.range_ (pa_cons (pe_callB (call_len_seqK (K := K)) (by rfl) L.len_ boot_len (pa_cons (pv 5) pa_nil)) pa_nil)) (blkOk_by (own := [("_law_k", 6)]) (N := N_law_spread_plan) rfl) (fun _ _ _ _ _ => (pg_name (i := 6) sc_law_spread_plan.nd rfl (by first | exact Or.inl rfl | exact Or.inr rfl))) (fun _ _ _ _ _ => pts_nil) (fun _ _ _ _ _ => (pe_tup (pa_cons (pe_ix (ix_listK (K := K)) (pv 5) (pv 6) (fun _ _ => rfl)) (pa_cons (pe_ix (ix_listK (K := K)) (pv 4) (pv 6) (fun _ _ => rfl)) pa_nil))))) (pa_cons (pe_lc (own := [("_law_layer_here", 7)]) (tt := tYes) rfl sc_law_spread_plan.nd (pi_range1 (by rfl) L.range_ (pa_cons (pv 3) pa_nil)) (blkOk_by (own := [("_law_layer_here", 7)]) (N := N_law_spread_plan) rfl) (fun _ _ _ _ _ => (pg_name (i := 7) sc_law_spread_plan.nd rfl (by first | exact Or.inl rfl | exact Or.inr rfl))) (fun _ _ _ _ _ => pts_nil) (fun _ _ _ _ _ => (pe_cal c_law_table (hr) (by rfl) (pa_cons (pv 0) (pa_cons (pv 2) pa_nil))))) pa_nil))))))), fun ds M R h => ?_⟩
  obtain ⟨p, ws, n, k, rfl, rfl, h1, h2, hnd, hgd, hn1, hn2, hk1, hk2, kk⟩ := h
  walk_at "e"
  refine ⟨by omega, ?_⟩
  walk_at "e"
  refine ⟨Nat, p, List.range n, fun i => .int (i : Nat), rfl, rfl, by rw [List.length_range]; omega, fun ls hls => ?_⟩
  walk_at "e"
  rw [cutD_to, List.take_of_length_le (by rw [List.length_map]; omega)]
  refine cad_sortedS (by omega) fun ys hp hs => ?_
  have hyl : ys.length = ws.length := hp.length_eq
  have hll : ls.length = n := by rw [hls.length_eq, List.length_range]
  have hmap1 : (ys.zip ls).map (·.1) = ys := List.map_fst_zip (by omega)
  have hmap2 : (ys.zip ls).map (·.2) = ls.take ys.length := zip_snd ys ls
  have hok : NmOk n (ys.zip ls) := by
    refine ⟨by rw [hmap1]; exact hs, by rw [hmap1]; exact hp.nodup_iff.mpr hnd, fun q hq => ?_, ?_, by rw [List.length_zip]; omega, fun q hq => ?_⟩
    · have := List.of_mem_zip hq
      exact List.mem_range.mp (hls.mem_iff.mp this.2)
    · rw [hmap2]
      exact (hls.nodup_iff.mpr List.nodup_range).sublist (List.take_sublist _ _)
    · have := List.of_mem_zip hq
      exact hgd _ (hp.mem_iff.mp this.1)
  walk_at "e"
  refine we_lcR ?_
  walk_at "e"
  rw [List.length_map]
  refine ⟨by omega, fun i => pairD ((ys.zip ls).getD i default), fun i hi => ?_, ?_⟩
  · walk_at "e"
    refine opd_ixL (d := .str ys[i]) (by rw [atI_nat, List.getElem?_map, List.getElem?_eq_getElem hi]; rfl) ?_
    walk_at "e"
    refine opd_ixL (d := .int (ls[i]'(by omega) : Nat)) (by rw [atI_nat, List.getElem?_map, List.getElem?_eq_getElem (by omega)]; rfl) ?_
    walk_at "e"
    refine ⟨?_, rfl⟩
    have e : (ys.zip ls)[i]? = some (ys[i], ls[i]'(by omega)) := List.getElem?_zip_eq_some.mpr ⟨List.getElem?_eq_getElem hi, List.getElem?_eq_getElem (by omega)⟩
    show _ = pairD (List.getD _ i default)
    rw [List.getD_eq_getElem?_getD, e]
    rfl
  · have e : ((List.range ys.length).map fun i => pairD ((ys.zip ls).getD i default)) = (ys.zip ls).map pairD := by
      symm
      apply rng_ext
      · rw [List.length_map, List.length_zip]; omega
      · intro j d hd
        rw [List.getElem?_map] at hd
        obtain ⟨q, e1, rfl⟩ := Option.map_eq_some_iff.mp hd
        rw [List.getD_eq_getElem?_getD, e1]
        rfl
    rw [e]
    walk_at "e"
    refine we_lcRF (wa_cons (we_var rfl (wa_nil ⟨k, rfl, by omega, fun _ d => ∃ f : Tab, d = matD n f ∧ Met n f ∧ LvM 0 n f, fun i hi => ?_, fun acc hl h => ?_⟩)))
    · walk_at "e"
      exact ⟨p, n, rfl, rfl, by omega, fun f h1 h2 => ⟨⟨f, rfl, h1, h2⟩, rfl⟩⟩
    · obtain ⟨g, hg, hgp⟩ := pick (α := Tab) (F := fun _ f => matD n f) (P := fun _ f => Met n f ∧ LvM 0 n f) hl h
      have e2 : acc = tabsD n ((List.range k).map g) := by
        rw [hg, tabsD, List.map_map]
        rfl
      rw [e2]
      walk_at "e"
      refine kk _ _ ⟨by omega, by omega, ?_, by omega, fun f hf => ?_, fun f hf => ?_⟩ (by simp) hok fun q hq => ?_
      · simp; omega
      · obtain ⟨j, hj, rfl⟩ := List.mem_map.mp hf
        exact (hgp j (List.mem_range.mp hj)).2
      · obtain ⟨j, hj, rfl⟩ := List.mem_map.mp hf
        exact (hgp j (List.mem_range.mp hj)).1
      · exact hp.mem_iff.mp (List.of_mem_zip hq).1
end
end Dl
end
/-! ## P15 -/
section
set_option maxRecDepth 100000
set_option maxHeartbeats 1000000
namespace Dl
open PySem PySem.Spec PyProof.Rows L2 Mx
local macro_rules | `(tactic| walk_at "d1") => `(tactic| with_reducible first
  | refine ws_seq ?_ | refine ws_asgN ?_ | refine ws_asg ?_ | refine wg_name ?_ | refine ws_ret ?_ | refine ws_nx ?_ | refine ws_expr ?_
  | refine we_op ?_ | refine we_un ?_ | refine we_int ?_ | refine we_str ?_ | refine we_bl ?_ | refine we_non ?_ | refine we_ty ?_ | refine we_if ?_ | refine we_and ?_ | refine we_or ?_ | refine we_not ?_ | refine we_chain ?_
  | refine we_tup ?_ | refine we_lst ?_ | refine we_listRng ?_ | refine we_isi2 ?_ | refine we_cb ?_ | refine we_call ?_ | refine wa_cons ?_ | refine wa_nil ?_ | refine we_sl ?_ | refine wo_no ?_ | refine wo_some ?_
  | refine wt_test ?_ | refine wt_B ?_ | refine wt_and ?_ | refine wt_or ?_ | refine wt_not ?_ | refine wt_yes ?_
  | refine opd_add ?_ | refine opd_sub ?_ | refine opd_lt ?_ | refine opd_le ?_ | refine opd_gt ?_ | refine opd_ge ?_ | refine opd_eqI ?_ | refine opd_neI ?_ | refine opd_eqS ?_ | refine opd_neS ?_ | refine opd_isN ?_ | refine opd_notN ?_
  | refine opd_mulW ?_ ?_ | refine opd_mul ?_ ?_ | refine opd_pow ?_ ?_ | refine opd_fdivW ?_ ?_ | refine opd_modN ?_ ?_
  | refine cad_gcd ?_ | refine cad_int1 ?_ | refine cad_intB ?_ | refine cad_abs ?_ | refine cad_lenT ?_ | refine cad_lenL ?_ | refine cad_lenLL ?_ | refine cad_list ?_ | refine sld_lst ?_ | refine sld_tup ?_ | refine sld_tp ?_
  | refine we_fld ?_ | refine we_meth ?_ | refine we_prop ?_ | refine ws_par ?_ | refine ite_t ?_ | refine ite_f ?_ | fail)
local macro_rules | `(tactic| walk_at "d2") => `(tactic| first
  | refine we_var rfl ?_ | (with_reducible refine we_zero (by assumption) ?_) | (with_reducible refine we_layers (by assumption) ?_) | refine opd_ixT rfl ?_ | refine opd_ixP rfl ?_ | (with_reducible refine opd_ixL (atI_rng (by assumption)) ?_) | (with_reducible refine ws_asgN ?_) | fail)
local macro_rules | `(tactic| walk_at "d3") => `(tactic| first | (with_reducible refine ⟨_, rfl, ?_⟩) | (with_reducible refine ⟨sz_ok rfl, ?_⟩) | (with_reducible refine ⟨_, _, rfl, ?_⟩) | fail)
local macro_rules | `(tactic| walk_at "e") => `(tactic| repeat' (first | walk_at "d1" | walk_at "d2" | walk_at "d3" | fail))
local macro_rules | `(tactic| walk_at "d") => `(tactic| repeat' (first | walk_at "d1" | walk_at "d2" | walk_at "d3" | (with_reducible refine ws_if ?_) | fail))
section
variable {P : Program} {w : World} {K : PySem.W.Frag} {T : Tb} {mg : Str → Option Value} {base : Heap}
abbrev N_law_on : List Str := ["_law_table_here", "_law_change", "_law_size", "_law_y", "_law_x"]
theorem sc_law_on : FnScope N_law_on ["_law_table_here", "_law_change"] (defScope (top 77)) := ⟨rfl, rfl, rfl, by decide +kernel, rfl, by decide +kernel, by decide +kernel⟩
def preOn (P : Program) (w : World) (K : PySem.W.Frag) (T : Tb) (mg : Str → Option Value) (base : Heap) : Pre := fun ds M R => ∃ (n : Nat) (g h : Tab) (f : Addr) (F : NdefX.NF) (b : Expr) (ws : List (Option V)) (cds : List D) (N' : List Str) (tb : TE), ds = [matD n g, .fn f F b ws cds] ∧ n ≤ 9 ∧
  FnR P w K mg base CX0 6 f (spLam f F b N' 2 ws tb) ∧ (∀ x y : Nat, x < n → y < n → x ≠ y → WE K T tb (lamG N' [.int x, .int y] cds) M fun d M' => d = ratD (h x y) ∧ M' = M) ∧ R (matD n fun x y => if x = y then 0 else h x y) M
theorem ok_law_on (L : Lib K mg) (F : FnAt K mg "_law_on" (top 77)) : CalB P w K T mg "_law_on" 7 ["_law_table_here", "_law_change"] (preOn P w K T mg) := by
  refine calB_of F sc_law_on (fun base ds M R h => by obtain ⟨_, _, _, _, _, _, _, _, _, _, rfl, _⟩ := h; rfl) (fun _ _ _ _ _ _ us hl => match us, hl with | [_, _], _ => rfl) fun base f cdv A outer s H E hr => ⟨_, (pss_cons (ps_set (i := 2) sc_law_on.nd rfl (by first | exact Or.inl rfl | exact Or.inr rfl) (pe_callB (call_len_seqK (K := K)) (by rfl) L.len_ boot_len (pa_cons (pv 0) pa_nil)))
    (pss_one (ps_ret (pe_lc (own := [("_law_x", 4)]) (tt := tYes) rfl sc_law_on.nd (pi_range1 (by rfl) L.range_ (pa_cons (pv 2) pa_nil)) (blkOk_by (own := [("_law_x", 4)]) (N := N_law_on) rfl) (fun _ _ _ _ _ => (pg_name (i := 4) sc_law_on.nd rfl (by first | exact Or.inl rfl | exact Or.inr rfl))) (fun _ _ _ _ _ => pts_nil) (fun _ _ _ _ _ => (pe_lc (own := [("_law_y", 3)]) (tt := tYes) rfl sc_law_on.nd (pi_range1 (by rfl) L.range_ (pa_cons (pv 2) pa_nil)) (blkOk_by (own := [("_law_y", 3)]) (N := N_law_on) rfl) (fun _ _ _ _ _ => (pg_name (i := 3) sc_law_on.nd rfl (by first | exact Or.inl rfl | exact Or.inr rfl))) (fun _ _ _ _ _ => pts_nil) (fun _ _ _ _ _ => (pe_ifExp (pt_cmpR op_eq (pv 4) (pv 3) (nomark _)) (pe_tup (pa_cons pe_int (pa_cons pe_int pa_nil))) (pe_callV (k := 6) (i := 1) rfl (by first | exact Or.inl rfl | exact Or.inr (Or.inl rfl) | exact Or.inr (Or.inr rfl)) (hr.mono (by decide)) (pa_cons (pv 4) (pa_cons (pv 3) pa_nil))))))))))), fun ds M R h => ?_⟩
  obtain ⟨n, g, h, f, F, b, ws, cds, N', tb, rfl, hn, hR, hw, k⟩ := h
  walk_at "e"
  rw [List.length_map, List.length_range]
  refine we_lcR (wa_cons (we_var rfl (wa_nil ⟨n, rfl, by omega, fun x => rowD n fun y => if x = y then 0 else h x y, fun x hx => ?_, k⟩)))
  refine we_lcR (wa_cons (we_var rfl (wa_nil ⟨n, rfl, by omega, fun y => ratD (if x = y then 0 else h x y), fun y hy => ?_, ⟨rfl, rfl⟩⟩)))
  walk_at "d"
  refine ite2 (fun h => ?_) (fun h => ?_)
  · have e : x = y := by have := of_decide_eq_true h; omega
    subst e
    walk_at "e"
    refine ⟨?_, rfl⟩
    show ratD 0 = ratD _
    rw [if_pos rfl]
  · have ne : x ≠ y := fun e => h (decide_eq_true (by rw [e]))
    refine we_callV ⟨f, F, b, ws, cds, N', tb, 2, rfl, hR, ?_⟩
    walk_at "e"
    refine ⟨rfl, (hw x y hx hy ne).imp fun d M' q => ?_⟩
    obtain ⟨rfl, rfl⟩ := q
    refine ⟨?_, rfl⟩
    show ratD _ = ratD _
    rw [if_neg ne]
abbrev N_law_layer_step : List Str := ["_law_plan", "_law_step", "_law_at", "_law_table_here", "_law_start", "_law_goal", "_law_length_here"]
theorem sc_law_layer_step : FnScope N_law_layer_step ["_law_plan", "_law_step"] (defScope (top 78)) := ⟨rfl, rfl, rfl, by decide +kernel, rfl, by decide +kernel, by decide +kernel⟩
theorem tab_at {n a : Nat} {fs : List Tab} (h : a < fs.length) : atI (tabsD n fs) (a : Int) = some (matD n (fs.getD a fun _ _ => 0)) := by
  rw [atI_nat, tabsD, List.getElem?_map, List.getD_eq_getElem?_getD, List.getElem?_eq_getElem h]
  rfl
def lyr : Stp → Option Nat
  | .road a _ _ _ _ => some a
  | .ride a _ _ _ _ => some a
  | .cap a _ _ => some a
  | .scale a _ _ => some a
  | .round a => some a
  | _ => none
def preLS : Pre := fun ds M R => ∃ (l a : Nat) (p : Pl) (s : Stp), ds = [planD p.n p.fs p.nm, stpD s] ∧ PlOk l p ∧ StpOk p s ∧ l ≤ 26 ∧ lyr s = some a ∧ R (matD p.n ((ap p s).f a)) M
theorem ok_law_layer_step (L : Lib K mg) (F : FnAt K mg "_law_layer_step" (top 78)) (TB : LamX.TabB base mg (He.cT K ("_law_layer_step", none)).1 (tabA K ("_law_layer_step", none))) (hmT : (tabA K ("_law_layer_step", none), ("_law_layer_step.<locals>.<lambda>" : Str)) ∈ T) (huT : ∀ p ∈ T, p.1 = tabA K ("_law_layer_step", none) → p.2 = ("_law_layer_step.<locals>.<lambda>" : Str))
    (c_law_on : CalB P w K T mg "_law_on" 7 ["_law_table_here", "_law_change"] (preOn P w K T mg)) (d_law_least : ∀ base, Cal P w K T mg base "_law_least" 2 ["_law_pairs"] preLeast) (d_law_pair : ∀ base, Cal P w K T mg base "_law_pair" 1 ["_law_value"] preRatioOf)
    (d_law_times : ∀ base, Cal P w K T mg base "_law_times" 2 ["_law_one", "_law_other"] (preRat2 fun p q => ratD (p * q))) (d_law_plus : ∀ base, CPlus P w K T mg base) (c_law_spot : Cal P w K T mg base "_law_spot" 1 ["_law_plan", "_law_name"] preSpot) (c_law_roads : Cal P w K T mg base "_law_roads" 4 ["_law_table_here", "_law_start", "_law_goal", "_law_length_here"] preRoads) :
    Cal P w K T mg base "_law_layer_step" 8 ["_law_plan", "_law_step"] preLS := by
  obtain ⟨⟨fd, F⟩, hm⟩ := F
  refine ⟨fd, fn_dT (p := ("_law_layer_step", none)) F sc_law_layer_step (fun ds M R h => by obtain ⟨_, _, _, _, rfl, _⟩ := h; rfl) fun A outer s H E hr => ?_, hm, F.kp, F.bindsN (fun _ _ _ _ _ _ us hl => match us, hl with | [_, _], _ => rfl)⟩
  have c_law_pair := d_law_pair base
  have c_law_plus := d_law_plus base
  refine ⟨_, (pss_cons (ps_set (i := 2) sc_law_layer_step.nd rfl (by first | exact Or.inl rfl | exact Or.inr rfl) (pe_ifExp (pt_cmpR op_eq (pe_ix (ix_tupK (K := K)) (pv 1) pe_int (fun _ _ => rfl)) pe_str (nomark _)) pe_int pe_int))
    (pss_cons (ps_set (i := 3) sc_law_layer_step.nd rfl (by first | exact Or.inl rfl | exact Or.inr rfl) (pe_ix (ix_listK (K := K)) (pe_ix (ix_tupK (K := K)) (pv 0) pe_int (fun _ _ => rfl)) (pv 2) (fun _ _ => rfl)))
    (pss_cons (ps_if (pt_cmpR op_eq (pe_ix (ix_tupK (K := K)) (pv 1) pe_int (fun _ _ => rfl)) pe_str (nomark _)) (pss_one (ps_ret (pe_callLam c_law_on (hr) (by rfl) (fun _ => rfl) (fr := ["_law_table_here", "_law_step"]) (js := [3, 1]) (by rfl) (by rfl) (pa_cons (pv 3) (pa_cons (pe_lamE TB rfl hmT huT rfl (NdefX.ndef_free (fr := ["_law_table_here", "_law_step"]) rfl)) pa_nil))))) pss_nil)
    (pss_cons (ps_if (pt_cmpR op_eq (pe_ix (ix_tupK (K := K)) (pv 1) pe_int (fun _ _ => rfl)) pe_str (nomark _)) (pss_one (ps_ret (pe_callLam c_law_on (hr) (by rfl) (fun _ => rfl) (fr := ["_law_table_here", "_law_step"]) (js := [3, 1]) (by rfl) (by rfl) (pa_cons (pv 3) (pa_cons (pe_lamE TB rfl hmT huT rfl (NdefX.ndef_free (fr := ["_law_table_here", "_law_step"]) rfl)) pa_nil))))) pss_nil)
    (pss_cons (ps_if (pt_cmpR op_eq (pe_ix (ix_tupK (K := K)) (pv 1) pe_int (fun _ _ => rfl)) pe_str (nomark _)) (pss_one (ps_ret (pe_callLam c_law_on (hr) (by rfl) (fun _ => rfl) (fr := ["_law_table_here"]) (js := [3]) (by rfl) (by rfl) (pa_cons (pv 3) (pa_cons (pe_lamE TB rfl hmT huT rfl (NdefX.ndef_free (fr := ["_law_table_here"]) rfl)) pa_nil))))) pss_nil)
    (pss_cons (ps_par3 (i := 4) (j := 5) (l := 6) (by rfl) sc_law_layer_step.nd rfl rfl rfl (by decide) (by decide) (by decide) rfl rfl rfl (pa_cons (pe_cal c_law_spot (hr.mono (by decide)) (by rfl) (pa_cons (pv 0) (pa_cons (pe_ix (ix_tupK (K := K)) (pv 1) pe_int (fun _ _ => rfl)) pa_nil))) (pa_cons (pe_cal c_law_spot (hr.mono (by decide)) (by rfl) (pa_cons (pv 0) (pa_cons (pe_ix (ix_tupK (K := K)) (pv 1) pe_int (fun _ _ => rfl)) pa_nil))) (pa_cons (pe_cal c_law_pair (hr.mono (by decide)) (by rfl) (pa_cons (pe_ix (ix_tupK (K := K)) (pv 1) pe_int (fun _ _ => rfl)) pa_nil)) pa_nil))) (by rfl))
    (pss_cons (ps_if (pt_cmpR op_eq (pe_ix (ix_tupK (K := K)) (pv 1) pe_int (fun _ _ => rfl)) pe_str (nomark _)) (pss_one (ps_set (i := 6) sc_law_layer_step.nd rfl (by first | exact Or.inl rfl | exact Or.inr rfl) (pe_cal c_law_plus (hr.mono (by decide)) (by rfl) (pa_cons (pv 6) (pa_cons (pe_ix (ix_listK (K := K)) (pe_ix (ix_listK (K := K)) (pe_ix (ix_listK (K := K)) (pe_ix (ix_tupK (K := K)) (pv 0) pe_int (fun _ _ => rfl)) (pe_op op_sub pe_int (pv 2)) (fun _ _ => rfl)) (pv 4) (fun _ _ => rfl)) (pv 5) (fun _ _ => rfl)) pa_nil))))) pss_nil)
    (pss_one (ps_ret (pe_cal c_law_roads (hr.mono (by decide)) (by rfl) (pa_cons (pv 3) (pa_cons (pv 4) (pa_cons (pv 5) (pa_cons (pv 6) pa_nil)))))))))))))), fun ds M R h => ?_⟩
  obtain ⟨l, a, p, s, rfl, ok, hs, hl, ha, k⟩ := h
  have ht := ok.t
  have hm := ok.m
  have a2 : ∀ {b : Nat}, b < p.fs.length → b = 0 ∨ b = 1 := fun {b} hb => by rcases ht.len with h | h <;> omega
  have n9 := ht.n9
  have at1 : ∀ (b : Nat) (d0 : D) (ds : List D) (G : Sl) (M' : MS) (R' : D → MS → Prop), b < p.fs.length → G[1]? = some (some (.tup (d0 :: .str (lay b) :: ds))) → R' (.int (b : Nat)) M' →
      WE K T (tIf (tTest (tOp rEq (tOp (rIxT K) (tVar 1) (tC (.int 1))) (tC (.str "foot")))) (tC (.int 0)) (tC (.int 1))) G M' R' := fun b d0 ds G M' R' hb hG q => by
    refine we_if (wt_test (we_op (we_op (we_var hG (we_int (opd_ixT (d := .str (lay b)) (by rw [show (1 : Int) = ((1 : Nat) : Int) from rfl, atI_nat]; rfl) (we_str (opd_eqS ⟨_, rfl, ?_⟩))))))))
    rcases a2 hb with rfl | rfl
    · exact ite2 (fun _ => we_int q) fun h => absurd rfl h
    · exact ite2 (fun h => absurd h (by decide)) fun _ => we_int q
  have setf : ∀ (b : Nat) (g : Tab), b < p.fs.length → (p.fs.set b g).getD b (fun _ _ => 0) = g := fun b g hb => by
    rw [List.getD_eq_getElem?_getD, List.getElem?_set_self hb]
    rfl
  have onE : ∀ g : Tab, Met p.n g → matD p.n (fun x y => if x = y then 0 else g x y) = matD p.n g := fun g hg => mat_congr fun i hi j hj => by
    by_cases e : i = j
    · subst e
      rw [if_pos rfl, hg.dg i hi]
    · rw [if_neg e]
  have ok' := ap_ok ok hs hl
  cases s with
  | cap b v q =>
    cases ha
    obtain ⟨hb, hv, hq⟩ := hs
    have hq' := lv_mono hq (Nat.zero_le l)
    have hlv := ht.lv _ (f_mem hb)
    refine ws_seq (ws_asgN (at1 a _ _ _ _ _ hb rfl ?_))
    walk_at "e"
    refine opd_ixL (tab_at hb) ?_
    refine ws_seq (ws_ifT ?_ ?_)
    · walk_at "d"
      exact ⟨rfl, rfl⟩
    refine ws_ret (we_callBig (cds := [matD p.n (p.f a), stpD (.cap a v q)]) rfl (wa_cons (we_var rfl (wa_cons (we_lamE (fun c => ⟨rfl, rfl⟩) fun f c => wa_nil ⟨[matD p.n (p.f a)], f, _, _, rfl, fun bs ws cf => ?_⟩)))))
    have c_law_least := d_law_least bs
    have c_law_pair := d_law_pair bs
    refine ⟨p.n, _, capT q (p.f a), f, _, _, ws, _, ["_law_x", "_law_y", "_law_table_here", "_law_step"], _, rfl, n9, lam_fnr (ps := ["_law_x", "_law_y"]) (fr := ["_law_table_here", "_law_step"]) (NdefX.nscope_by (by rfl)) (fun _ _ us hl => match us, hl with | [_, _], _ => rfl) cf (fun A outer s H E hr => (pe_cal c_law_least (hr.mono (by decide)) (by rfl) (pa_cons (pe_lst (pa_cons (pe_ix (ix_listK (K := K)) (pe_ix (ix_listK (K := K)) (pv 2) (pv 0) (fun _ _ => rfl)) (pv 1) (fun _ _ => rfl)) (pa_cons (pe_cal c_law_pair (hr.mono (by decide)) (by rfl) (pa_cons (pe_ix (ix_tupK (K := K)) (pv 3) pe_int (fun _ _ => rfl)) pa_nil)) pa_nil))) pa_nil))), fun x y hx hy hne => ?_, ?_⟩
    · walk_at "e"
      refine ⟨v, q, rfl, hv, ?_⟩
      walk_at "e"
      exact ⟨p.f a x y, q, rfl, lv_fit (hlv x hx y hy) (by omega), lv_fit hq' (by omega), rfl, rfl⟩
    · rw [onE _ (cap_met (ht.met _ (f_mem hb)) (lv_nonneg hq))]
      show R _ _
      have e : (ap p (.cap a v q)).f a = capT q (p.f a) := setf a _ hb
      rw [e] at k
      exact k
  | scale b v q =>
    cases ha
    obtain ⟨hb, hv, hq, hpos, y6, hy6, hy30⟩ := hs
    have hq' := lv_mono hq (Nat.zero_le l)
    have hlv := ht.lv _ (f_mem hb)
    refine ws_seq (ws_asgN (at1 a _ _ _ _ _ hb rfl ?_))
    walk_at "e"
    refine opd_ixL (tab_at hb) ?_
    refine ws_seq (ws_ifF ?_ (ws_nx (ws_seq (ws_ifT ?_ ?_))))
    · walk_at "d"
      exact ⟨rfl, rfl⟩
    · walk_at "d"
      exact ⟨rfl, rfl⟩
    refine ws_ret (we_callBig (cds := [matD p.n (p.f a), stpD (.scale a v q)]) rfl (wa_cons (we_var rfl (wa_cons (we_lamE (fun c => ⟨rfl, rfl⟩) fun f c => wa_nil ⟨[matD p.n (p.f a)], f, _, _, rfl, fun bs ws cf => ?_⟩)))))
    have c_law_times := d_law_times bs
    have c_law_pair := d_law_pair bs
    refine ⟨p.n, _, mulT q (p.f a), f, _, _, ws, _, ["_law_x", "_law_y", "_law_table_here", "_law_step"], _, rfl, n9, lam_fnr (ps := ["_law_x", "_law_y"]) (fr := ["_law_table_here", "_law_step"]) (NdefX.nscope_by (by rfl)) (fun _ _ us hl => match us, hl with | [_, _], _ => rfl) cf (fun A outer s H E hr => (pe_cal c_law_times (hr.mono (by decide)) (by rfl) (pa_cons (pe_ix (ix_listK (K := K)) (pe_ix (ix_listK (K := K)) (pv 2) (pv 0) (fun _ _ => rfl)) (pv 1) (fun _ _ => rfl)) (pa_cons (pe_cal c_law_pair (hr.mono (by decide)) (by rfl) (pa_cons (pe_ix (ix_tupK (K := K)) (pv 3) pe_int (fun _ _ => rfl)) pa_nil)) pa_nil)))), fun x y hx hy hne => ?_, ?_⟩
    · walk_at "e"
      refine ⟨v, q, rfl, hv, ?_⟩
      walk_at "e"
      exact ⟨p.f a x y, q, rfl, lv_fit (hlv x hx y hy) (by omega), lv_fit hq' (by omega), rfl, rfl⟩
    · rw [onE _ (mul_met (ht.met _ (f_mem hb)) hpos)]
      show R _ _
      have e : (ap p (.scale a v q)).f a = mulT q (p.f a) := setf a _ hb
      rw [e] at k
      exact k
  | round b =>
    cases ha
    have hb : a < p.fs.length := hs
    have hlv := ht.lv _ (f_mem hb)
    refine ws_seq (ws_asgN (at1 a _ _ _ _ _ hb rfl ?_))
    walk_at "e"
    refine opd_ixL (tab_at hb) ?_
    refine ws_seq (ws_ifF ?_ (ws_nx (ws_seq (ws_ifF ?_ (ws_nx (ws_seq (ws_ifT ?_ ?_)))))))
    · walk_at "d"
      exact ⟨rfl, rfl⟩
    · walk_at "d"
      exact ⟨rfl, rfl⟩
    · walk_at "d"
      exact ⟨rfl, rfl⟩
    refine ws_ret (we_callBig (cds := [matD p.n (p.f a)]) rfl (wa_cons (we_var rfl (wa_cons (we_lamE (fun c => ⟨rfl, rfl⟩) fun f c => wa_nil ⟨[matD p.n (p.f a)], f, _, _, rfl, fun bs ws cf => ?_⟩)))))
    have c_law_plus := d_law_plus bs
    refine ⟨p.n, _, sumT (p.f a), f, _, _, ws, _, ["_law_x", "_law_y", "_law_table_here"], _, rfl, n9, lam_fnr (ps := ["_law_x", "_law_y"]) (fr := ["_law_table_here"]) (NdefX.nscope_by (by rfl)) (fun _ _ us hl => match us, hl with | [_, _], _ => rfl) cf (fun A outer s H E hr => (pe_cal c_law_plus (hr.mono (by decide)) (by rfl) (pa_cons (pe_ix (ix_listK (K := K)) (pe_ix (ix_listK (K := K)) (pv 2) (pv 0) (fun _ _ => rfl)) (pv 1) (fun _ _ => rfl)) (pa_cons (pe_ix (ix_listK (K := K)) (pe_ix (ix_listK (K := K)) (pv 2) (pv 1) (fun _ _ => rfl)) (pv 0) (fun _ _ => rfl)) pa_nil)))), fun x y hx hy hne => ?_, ?_⟩
    · walk_at "e"
      exact ⟨p.f a x y, p.f a y x, rfl, lv_fit (hlv x hx y hy) (by omega), lv_fit (hlv y hy x hx) (by omega), rfl, rfl⟩
    · rw [onE _ (sum_met (ht.met _ (f_mem hb)))]
      show R _ _
      have e : (ap p (.round a)).f a = sumT (p.f a) := setf a _ hb
      rw [e] at k
      exact k
  | road b sn gn v q =>
    cases ha
    obtain ⟨hb, hsn, hgn, hv, hq⟩ := hs
    have hq' := lv_mono hq (Nat.zero_le l)
    have hlv := ht.lv _ (f_mem hb)
    refine ws_seq (ws_asgN (at1 a _ _ _ _ _ hb rfl ?_))
    walk_at "e"
    refine opd_ixL (tab_at hb) ?_
    refine ws_seq (ws_ifF ?_ (ws_nx (ws_seq (ws_ifF ?_ (ws_nx (ws_seq (ws_ifF ?_ (ws_nx (ws_seq (ws_par3 ?_))))))))))
    · walk_at "d"
      exact ⟨rfl, rfl⟩
    · walk_at "d"
      exact ⟨rfl, rfl⟩
    · walk_at "d"
      exact ⟨rfl, rfl⟩
    walk_at "e"
    refine ⟨p.n, p.fs, p.nm, sn, p.at sn, rfl, hm.nd, (at_of hm hsn).1, ?_⟩
    walk_at "e"
    refine ⟨p.n, p.fs, p.nm, gn, p.at gn, rfl, hm.nd, (at_of hm hgn).1, ?_⟩
    walk_at "e"
    refine ⟨v, q, rfl, hv, wa_nil ⟨_, _, _, rfl, ?_⟩⟩
    show WS K T _ _ _ _
    refine ws_seq (ws_ifF ?_ (ws_nx ?_))
    · walk_at "d"
      exact ⟨rfl, rfl⟩
    show WS K T _ _ _ _
    walk_at "e"
    refine ⟨l, p.n, p.at sn, p.at gn, p.f a, q, rfl, n9, ok.t.l28, hlv, ht.met _ (f_mem hb), (at_of hm hsn).2, (at_of hm hgn).2, hq', ?_⟩
    have e : (ap p (.road a sn gn v q)).f a = roadT (p.at sn) (p.at gn) q (p.f a) := setf a _ hb
    rw [e] at k
    exact k
  | ride b sn gn v q =>
    cases ha
    obtain ⟨hb, h2, hsn, hgn, hv, hq⟩ := hs
    have hq' := lv_mono hq (Nat.zero_le l)
    have hb2 : 1 - a < p.fs.length := by omega
    have hlv := ht.lv _ (f_mem hb)
    have hlv2 := ht.lv _ (f_mem hb2)
    have ps := (at_of hm hsn).2
    have pg := (at_of hm hgn).2
    refine ws_seq (ws_asgN (at1 a _ _ _ _ _ hb rfl ?_))
    walk_at "e"
    refine opd_ixL (tab_at hb) ?_
    refine ws_seq (ws_ifF ?_ (ws_nx (ws_seq (ws_ifF ?_ (ws_nx (ws_seq (ws_ifF ?_ (ws_nx (ws_seq (ws_par3 ?_))))))))))
    · walk_at "d"
      exact ⟨rfl, rfl⟩
    · walk_at "d"
      exact ⟨rfl, rfl⟩
    · walk_at "d"
      exact ⟨rfl, rfl⟩
    walk_at "e"
    refine ⟨p.n, p.fs, p.nm, sn, p.at sn, rfl, hm.nd, (at_of hm hsn).1, ?_⟩
    walk_at "e"
    refine ⟨p.n, p.fs, p.nm, gn, p.at gn, rfl, hm.nd, (at_of hm hgn).1, ?_⟩
    walk_at "e"
    refine ⟨v, q, rfl, hv, wa_nil ⟨_, _, _, rfl, ?_⟩⟩
    show WS K T _ _ _ _
    refine ws_seq (ws_ifT ?_ ?_)
    · walk_at "d"
      exact ⟨rfl, rfl⟩
    walk_at "e"
    have e1 : (1 : Int) - (a : Nat) = ((1 - a : Nat) : Int) := by omega
    rw [e1]
    refine opd_ixL (tab_at hb2) ?_
    walk_at "e"
    refine ⟨q, p.f (1 - a) (p.at sn) (p.at gn), rfl, lv_fit hq' (by omega), lv_fit (hlv2 _ ps _ pg) (by omega), ?_⟩
    show WS K T _ _ _ _
    walk_at "e"
    refine ⟨l + 1, p.n, p.at sn, p.at gn, p.f a, q + p.f (1 - a) (p.at sn) (p.at gn), rfl, n9, by omega, hlv.mono (by omega), ht.met _ (f_mem hb), ps, pg, lv_add hq' (hlv2 _ ps _ pg), ?_⟩
    have e : (ap p (.ride a sn gn v q)).f a = roadT (p.at sn) (p.at gn) (q + p.f (1 - a) (p.at sn) (p.at gn)) (p.f a) := setf a _ hb
    rw [e] at k
    exact k
  | place _ _ _ _ _ _ => cases ha
  | same _ _ => cases ha
  | forget _ => cases ha
  | turn => cases ha
end
end Dl
end
/-! ## P16 -/
section
set_option maxRecDepth 100000
set_option maxHeartbeats 1000000
namespace Dl
open PySem PySem.Spec PyProof.Rows L2 Mx
local macro_rules | `(tactic| walk_at "d1") => `(tactic| with_reducible first
  | refine ws_seq ?_ | refine ws_asgN ?_ | refine ws_asg ?_ | refine wg_name ?_ | refine ws_ret ?_ | refine ws_nx ?_ | refine ws_expr ?_
  | refine we_op ?_ | refine we_un ?_ | refine we_int ?_ | refine we_str ?_ | refine we_bl ?_ | refine we_non ?_ | refine we_ty ?_ | refine we_if ?_ | refine we_and ?_ | refine we_or ?_ | refine we_not ?_ | refine we_chain ?_
  | refine we_tup ?_ | refine we_lst ?_ | refine we_listRng ?_ | refine we_isi2 ?_ | refine we_cb ?_ | refine we_call ?_ | refine wa_cons ?_ | refine wa_nil ?_ | refine we_sl ?_ | refine wo_no ?_ | refine wo_some ?_
  | refine wt_test ?_ | refine wt_B ?_ | refine wt_and ?_ | refine wt_or ?_ | refine wt_not ?_ | refine wt_yes ?_
  | refine opd_add ?_ | refine opd_sub ?_ | refine opd_lt ?_ | refine opd_le ?_ | refine opd_gt ?_ | refine opd_ge ?_ | refine opd_eqI ?_ | refine opd_neI ?_ | refine opd_eqS ?_ | refine opd_neS ?_ | refine opd_isN ?_ | refine opd_notN ?_
  | refine opd_mulW ?_ ?_ | refine opd_mul ?_ ?_ | refine opd_pow ?_ ?_ | refine opd_fdivW ?_ ?_ | refine opd_modN ?_ ?_
  | refine cad_gcd ?_ | refine cad_int1 ?_ | refine cad_intB ?_ | refine cad_abs ?_ | refine cad_lenT ?_ | refine cad_lenL ?_ | refine cad_lenLL ?_ | refine cad_list ?_ | refine sld_lst ?_ | refine sld_tup ?_ | refine sld_tp ?_
  | refine we_fld ?_ | refine we_meth ?_ | refine we_prop ?_ | refine ws_par ?_ | refine ite_t ?_ | refine ite_f ?_ | fail)
local macro_rules | `(tactic| walk_at "d2") => `(tactic| first
  | refine we_var rfl ?_ | (with_reducible refine we_zero (by assumption) ?_) | (with_reducible refine we_layers (by assumption) ?_) | refine opd_ixT rfl ?_ | refine opd_ixP rfl ?_ | (with_reducible refine opd_ixL (atI_rng (by assumption)) ?_) | (with_reducible refine ws_asgN ?_) | fail)
local macro_rules | `(tactic| walk_at "d3") => `(tactic| first | (with_reducible refine ⟨_, rfl, ?_⟩) | (with_reducible refine ⟨sz_ok rfl, ?_⟩) | (with_reducible refine ⟨_, _, rfl, ?_⟩) | fail)
local macro_rules | `(tactic| walk_at "e") => `(tactic| repeat' (first | walk_at "d1" | walk_at "d2" | walk_at "d3" | fail))
local macro_rules | `(tactic| walk_at "d") => `(tactic| repeat' (first | walk_at "d1" | walk_at "d2" | walk_at "d3" | (with_reducible refine ws_if ?_) | fail))
section
variable {P : Program} {w : World} {K : PySem.W.Frag} {T : Tb} {mg : Str → Option Value} {base : Heap}
abbrev plD (p : Pl) : D := planD p.n p.fs p.nm
theorem ap_layer {p : Pl} {s : Stp} {b : Nat} (h : lyr s = some b) (hb : b < p.fs.length) : ap p s = ⟨p.n, p.fs.set b ((ap p s).f b), p.nm⟩ := by
  have setf : ∀ g : Tab, (p.fs.set b g).getD b (fun _ _ => 0) = g := fun g => by
    rw [List.getD_eq_getElem?_getD, List.getElem?_set_self hb]
    rfl
  cases s <;> cases h <;> (unfold ap Pl.f; simp only [setf])
abbrev N_law_leaf : List Str := ["_law_plan", "_law_step", "_law_names_here", "_law_tables", "_law_pair_here", "_law_y", "_law_x", "_law_table_here", "_law_by", "_law_forth", "_law_back", "_law_one", "_law_other", "_law_late"]
theorem sc_law_leaf : FnScope N_law_leaf ["_law_plan", "_law_step"] (defScope (top 79)) := ⟨rfl, rfl, rfl, by decide +kernel, rfl, by decide +kernel, by decide +kernel⟩
def preLeaf : Pre := fun ds M R => ∃ (l : Nat) (p : Pl) (s : Stp), ds = [plD p, stpD s] ∧ PlOk l p ∧ StpOk p s ∧ l ≤ 26 ∧ R (plD (ap p s)) M
theorem ins_eq {nm nm' : Nm} {p : Str × Nat} {n : Nat} (h : NmOk n nm) (hk : p.1 ∉ nm.map (·.1)) (hp : nm'.Perm (nm ++ [p])) (hs : (nm'.map (·.1)).Pairwise leS) : nm' = insN p nm := by
  have hp2 := hp.trans (ins_perm p nm).symm
  have hnd : ((nm ++ [p]).map (·.1)).Nodup := by
    rw [List.map_append]
    refine List.nodup_append.mpr ⟨h.nd, by simp, fun a ha b hb => ?_⟩
    rw [List.map_singleton, List.mem_singleton] at hb
    rintro rfl
    rw [hb] at ha
    exact hk ha
  have key : ∀ q1 ∈ nm ++ [p], ∀ q2 ∈ nm ++ [p], q1.1 = q2.1 → q1 = q2 := fun q1 h1 q2 h2 e => by
    have e1 := place_mem hnd h1
    have e2 := place_mem hnd h2
    rw [e, e2] at e1
    have := Option.some.inj e1
    cases q1
    cases q2
    simp only at e this
    rw [e, this]
  have a1 : nm'.Pairwise (fun x y : Str × Nat => x ∈ nm ++ [p] ∧ y ∈ nm ++ [p] ∧ leS x.1 y.1) := by
    have := List.pairwise_map.mp hs
    exact List.Pairwise.imp_of_mem (fun {x y} hx hy h => ⟨hp.mem_iff.mp hx, hp.mem_iff.mp hy, h⟩) this
  have a2 : (insN p nm).Pairwise (fun x y : Str × Nat => x ∈ nm ++ [p] ∧ y ∈ nm ++ [p] ∧ leS x.1 y.1) := by
    have := List.pairwise_map.mp (ins_pw p nm (sorted_pw _ h.so))
    exact List.Pairwise.imp_of_mem (fun {x y} hx hy h => ⟨(ins_perm p nm).mem_iff.mp hx, (ins_perm p nm).mem_iff.mp hy, h⟩) this
  exact pw_uniq _ (fun x y h1 h2 => key x h1.1 y h1.2.1 (leS_anti h1.2.2 h2.2.2)) hp2 a1 a2
abbrev CRoads (P : Program) (w : World) (K : PySem.W.Frag) (T : Tb) (mg : Str → Option Value) (base : Heap) : Prop := Cal P w K T mg base "_law_roads" 4 ["_law_table_here", "_law_start", "_law_goal", "_law_length_here"] preRoads
theorem ok_law_leaf (L : Lib K mg) (F : FnAt K mg "_law_leaf" (top 79)) (c_law_layer_step : Cal P w K T mg base "_law_layer_step" 8 ["_law_plan", "_law_step"] preLS) (c_law_pair : Cal P w K T mg base "_law_pair" 1 ["_law_value"] preRatioOf)
    (c_law_spot : Cal P w K T mg base "_law_spot" 1 ["_law_plan", "_law_name"] preSpot) (c_law_roads : CRoads P w K T mg base) (c_law_put_in : Cal P w K T mg base "_law_put_in" 3 ["_law_table_here", "_law_by", "_law_forth", "_law_back"] prePutIn)
    (c_law_places_of : Cal P w K T mg base "_law_places_of" 1 ["_law_plan"] (fun ds M R => ∃ (n : Nat) (f : Tab) (x : D) (ts : List D), ds = [.tup [x, .lst (matD n f :: ts)]] ∧ R (.int n) M)) :
    Cal P w K T mg base "_law_leaf" 9 ["_law_plan", "_law_step"] preLeaf := by
  refine cal_of F sc_law_leaf (fun ds M R h => by obtain ⟨_, _, _, rfl, _⟩ := h; rfl) (fun _ _ _ _ _ _ us hl => match us, hl with | [_, _], _ => rfl) fun f cdv A outer s H E hr => ⟨_, (pss_cons (ps_asg (pv 0) (pg_tupK (K := K) (n := 2) (by rfl) (pgs_cons (pg_name (i := 2) sc_law_leaf.nd rfl (by first | exact Or.inl rfl | exact Or.inr rfl)) (pgs_cons (pg_name (i := 3) sc_law_leaf.nd rfl (by first | exact Or.inl rfl | exact Or.inr rfl)) pgs_nil))))
    (pss_cons (ps_if (pt_cmpR op_eq (pe_ix (ix_tupK (K := K)) (pv 1) pe_int (fun _ _ => rfl)) pe_str (nomark _)) (pss_one (ps_ret (pe_tup (pa_cons (pe_lc (own := [("_law_pair_here", 4)]) rfl sc_law_leaf.nd (pi_listK (K := K) (pv 2)) (blkOk_by (own := [("_law_pair_here", 4)]) (N := N_law_leaf) rfl) (fun _ _ _ _ _ => (pg_name (i := 4) sc_law_leaf.nd rfl (by first | exact Or.inl rfl | exact Or.inr rfl))) (fun _ _ _ _ _ => (pts_one (pt_cmpR op_ne (pe_ix (ix_tupK (K := K)) (pv 4) pe_int (fun _ _ => rfl)) (pe_ix (ix_tupK (K := K)) (pv 1) pe_int (fun _ _ => rfl)) (nomark _)))) (fun _ _ _ _ _ => (pv 4))) (pa_cons (pv 3) pa_nil))))) pss_nil)
    (pss_cons (ps_if (pt_cmpR op_eq (pe_ix (ix_tupK (K := K)) (pv 1) pe_int (fun _ _ => rfl)) pe_str (nomark _)) (pss_one (ps_ret (pe_tup (pa_cons (pv 2) (pa_cons (pe_lc (own := [("_law_table_here", 7)]) (tt := tYes) rfl sc_law_leaf.nd (pi_listK (K := K) (pv 3)) (blkOk_by (own := [("_law_table_here", 7)]) (N := N_law_leaf) rfl) (fun _ _ _ _ _ => (pg_name (i := 7) sc_law_leaf.nd rfl (by first | exact Or.inl rfl | exact Or.inr rfl))) (fun _ _ _ _ _ => pts_nil) (fun _ _ _ _ _ => (pe_lc (own := [("_law_x", 6)]) (tt := tYes) rfl sc_law_leaf.nd (pi_range1 (by rfl) L.range_ (pa_cons (pe_callB (call_len_seqK (K := K)) (by rfl) L.len_ boot_len (pa_cons (pv 7) pa_nil)) pa_nil)) (blkOk_by (own := [("_law_x", 6)]) (N := N_law_leaf) rfl) (fun _ _ _ _ _ => (pg_name (i := 6) sc_law_leaf.nd rfl (by first | exact Or.inl rfl | exact Or.inr rfl))) (fun _ _ _ _ _ => pts_nil) (fun _ _ _ _ _ => (pe_lc (own := [("_law_y", 5)]) (tt := tYes) rfl sc_law_leaf.nd (pi_range1 (by rfl) L.range_ (pa_cons (pe_callB (call_len_seqK (K := K)) (by rfl) L.len_ boot_len (pa_cons (pv 7) pa_nil)) pa_nil)) (blkOk_by (own := [("_law_y", 5)]) (N := N_law_leaf) rfl) (fun _ _ _ _ _ => (pg_name (i := 5) sc_law_leaf.nd rfl (by first | exact Or.inl rfl | exact Or.inr rfl))) (fun _ _ _ _ _ => pts_nil) (fun _ _ _ _ _ => (pe_ix (ix_listK (K := K)) (pe_ix (ix_listK (K := K)) (pv 7) (pv 5) (fun _ _ => rfl)) (pv 6) (fun _ _ => rfl)))))))) pa_nil))))) pss_nil)
    (pss_cons (ps_if (pt_cmpR op_eq (pe_ix (ix_tupK (K := K)) (pv 1) pe_int (fun _ _ => rfl)) pe_str (nomark _)) (pss_cons (ps_asg (pe_tup (pa_cons (pe_cal c_law_spot (hr.mono (by decide)) (by rfl) (pa_cons (pv 0) (pa_cons (pe_ix (ix_tupK (K := K)) (pv 1) pe_int (fun _ _ => rfl)) pa_nil))) (pa_cons (pe_cal c_law_pair (hr.mono (by decide)) (by rfl) (pa_cons (pe_ix (ix_tupK (K := K)) (pv 1) pe_int (fun _ _ => rfl)) pa_nil)) (pa_cons (pe_cal c_law_pair (hr.mono (by decide)) (by rfl) (pa_cons (pe_ix (ix_tupK (K := K)) (pv 1) pe_int (fun _ _ => rfl)) pa_nil)) pa_nil)))) (pg_tupK (K := K) (n := 3) (by rfl) (pgs_cons (pg_name (i := 8) sc_law_leaf.nd rfl (by first | exact Or.inl rfl | exact Or.inr rfl)) (pgs_cons (pg_name (i := 9) sc_law_leaf.nd rfl (by first | exact Or.inl rfl | exact Or.inr rfl)) (pgs_cons (pg_name (i := 10) sc_law_leaf.nd rfl (by first | exact Or.inl rfl | exact Or.inr rfl)) pgs_nil)))))
    (pss_one (ps_ret (pe_tup (pa_cons (pe_callB (cr_sortedNm (K := K)) (by rfl) L.sorted_ (by decide +kernel) (pa_cons (pe_op op_cat (pv 2) (pe_lst (pa_cons (pe_tup (pa_cons (pe_ix (ix_tupK (K := K)) (pv 1) pe_int (fun _ _ => rfl)) (pa_cons (pe_cal c_law_places_of (hr.mono (by decide)) (by rfl) (pa_cons (pv 0) pa_nil)) pa_nil))) pa_nil))) pa_nil)) (pa_cons (pe_lc (own := [("_law_table_here", 7)]) (tt := tYes) rfl sc_law_leaf.nd (pi_listK (K := K) (pv 3)) (blkOk_by (own := [("_law_table_here", 7)]) (N := N_law_leaf) rfl) (fun _ _ _ _ _ => (pg_name (i := 7) sc_law_leaf.nd rfl (by first | exact Or.inl rfl | exact Or.inr rfl))) (fun _ _ _ _ _ => pts_nil) (fun _ _ _ _ _ => (pe_cal c_law_put_in (hr.mono (by decide)) (by rfl) (pa_cons (pv 7) (pa_cons (pv 8) (pa_cons (pv 9) (pa_cons (pv 10) pa_nil))))))) pa_nil)))))) pss_nil)
    (pss_cons (ps_if (pt_cmpR op_eq (pe_ix (ix_tupK (K := K)) (pv 1) pe_int (fun _ _ => rfl)) pe_str (nomark _)) (pss_cons (ps_asg (pe_tup (pa_cons (pe_cal c_law_spot (hr.mono (by decide)) (by rfl) (pa_cons (pv 0) (pa_cons (pe_ix (ix_tupK (K := K)) (pv 1) pe_int (fun _ _ => rfl)) pa_nil))) (pa_cons (pe_cal c_law_spot (hr.mono (by decide)) (by rfl) (pa_cons (pv 0) (pa_cons (pe_ix (ix_tupK (K := K)) (pv 1) pe_int (fun _ _ => rfl)) pa_nil))) pa_nil))) (pg_tupK (K := K) (n := 2) (by rfl) (pgs_cons (pg_name (i := 11) sc_law_leaf.nd rfl (by first | exact Or.inl rfl | exact Or.inr rfl)) (pgs_cons (pg_name (i := 12) sc_law_leaf.nd rfl (by first | exact Or.inl rfl | exact Or.inr rfl)) pgs_nil))))
    (pss_cons (ps_setLc (i := 3) (own := [("_law_table_here", 7)]) (tt := tYes) rfl sc_law_leaf.nd rfl rfl (sw_true rfl rfl rfl (by decide +kernel)) (pi_listK (K := K) (pv 3)) (blkOk_by (own := [("_law_table_here", 7)]) (N := N_law_leaf) rfl) (fun _ _ _ _ _ => (pg_name (i := 7) sc_law_leaf.nd rfl (by first | exact Or.inl rfl | exact Or.inr rfl))) (fun _ _ _ _ _ => pts_nil) (fun _ _ _ _ _ => (pe_cal c_law_roads (hr.mono (by decide)) (by rfl) (pa_cons (pe_cal c_law_roads (hr.mono (by decide)) (by rfl) (pa_cons (pv 7) (pa_cons (pv 11) (pa_cons (pv 12) (pa_cons (pe_tup (pa_cons pe_int (pa_cons pe_int pa_nil))) pa_nil))))) (pa_cons (pv 12) (pa_cons (pv 11) (pa_cons (pe_tup (pa_cons pe_int (pa_cons pe_int pa_nil))) pa_nil)))))))
    (pss_one (ps_ret (pe_tup (pa_cons (pe_lc (own := [("_law_pair_here", 4)]) rfl sc_law_leaf.nd (pi_listK (K := K) (pv 2)) (blkOk_by (own := [("_law_pair_here", 4)]) (N := N_law_leaf) rfl) (fun _ _ _ _ _ => (pg_name (i := 4) sc_law_leaf.nd rfl (by first | exact Or.inl rfl | exact Or.inr rfl))) (fun _ _ _ _ _ => (pts_one (pt_cmpR op_ne (pe_ix (ix_tupK (K := K)) (pv 4) pe_int (fun _ _ => rfl)) (pe_ix (ix_tupK (K := K)) (pv 1) pe_int (fun _ _ => rfl)) (nomark _)))) (fun _ _ _ _ _ => (pv 4))) (pa_cons (pv 3) pa_nil))))))) pss_nil)
    (pss_cons (ps_set (i := 13) sc_law_leaf.nd rfl (by first | exact Or.inl rfl | exact Or.inr rfl) (pe_cal c_law_layer_step (hr) (by rfl) (pa_cons (pv 0) (pa_cons (pv 1) pa_nil))))
    (pss_one (ps_ret (pe_tup (pa_cons (pv 2) (pa_cons (pe_ifExp (pt_cmpR op_eq (pe_ix (ix_tupK (K := K)) (pv 1) pe_int (fun _ _ => rfl)) pe_str (nomark _)) (pe_op op_cat (pe_lst (pa_cons (pv 13) pa_nil)) (pe_slice (sl_listK (K := K)) (pv 3) (po_some pe_int) po_none)) (pe_lst (pa_cons (pe_ix (ix_listK (K := K)) (pv 3) pe_int (fun _ _ => rfl)) (pa_cons (pv 13) pa_nil)))) pa_nil))))))))))), fun ds M R h => ?_⟩
  obtain ⟨l, p, s, rfl, ok, hs, hl, k⟩ := h
  have ht := ok.t
  have hm := ok.m
  have n9 := ht.n9
  have hfl : p.fs.length ≤ 2 := by rcases ht.len with h | h <;> omega
  have hnl := hm.ln
  refine ws_seq (ws_asg (we_var rfl (wg_tup rfl (wgs_cons (wg_name (wgs_cons (wg_name (wgs_nil ?_))))))))
  show WS K T _ _ _ _
  have cut1 : cutD (tabsD p.n p.fs) (some 1) none = (tabsD p.n p.fs).drop 1 := cutD_from _ 1
  have fin : ∀ {C : Prop} (b : Nat) (g : Tab), b < p.fs.length → R (plD ⟨p.n, p.fs.set b g, p.nm⟩) M →
      (b = 0 → R (.tup [nmD p.nm, .lst ([matD p.n g] ++ cutD (tabsD p.n p.fs) (some 1) none)]) M → C) → (b = 1 → p.fs.length = 2 → R (.tup [nmD p.nm, .lst [matD p.n (p.fs.getD 0 fun _ _ => 0), matD p.n g]]) M → C) → C := fun {C} b g hb q c0 c1 => by
    have hc : b = 0 ∨ b = 1 := by omega
    rcases hc with rfl | rfl
    · refine c0 rfl ?_
      have e : [matD p.n g] ++ cutD (tabsD p.n p.fs) (some 1) none = tabsD p.n (p.fs.set 0 g) := by
        rw [cut1, tabsD, tabsD]
        cases e : p.fs with
        | nil => rw [e] at hb; simp at hb
        | cons f0 rest => rfl
      rw [e]
      exact q
    · have h2 : p.fs.length = 2 := by omega
      refine c1 rfl h2 ?_
      have e : [matD p.n (p.fs.getD 0 fun _ _ => 0), matD p.n g] = tabsD p.n (p.fs.set 1 g) := by
        rw [tabsD]
        match e : p.fs, h2 with
        | [f0, f1], _ => rfl
      rw [e]
      exact q
  cases s with
  | forget a =>
    refine ws_seq (ws_ifT ?_ ?_)
    · walk_at "d"
      exact ⟨rfl, rfl⟩
    refine ws_ret (we_tup (wa_cons (we_lcXF (wi_list (we_var rfl ⟨_, rfl, Str × Nat, p.nm, pairD, pairD, fun q => !decide (q.1 = a), rfl, by omega, fun q hq => ?_, ?_⟩)))))
    · walk_at "e"
      exact ⟨rfl, rfl, fun _ => we_var rfl ⟨rfl, rfl⟩⟩
    · walk_at "e"
      exact k
  | turn =>
    refine ws_seq (ws_ifF ?_ (ws_nx (ws_seq (ws_ifT ?_ ?_))))
    · walk_at "d"
      exact ⟨rfl, rfl⟩
    · walk_at "d"
      exact ⟨rfl, rfl⟩
    refine ws_ret (we_tup (wa_cons (we_var rfl (wa_cons (we_lcX (wi_list (we_var rfl ⟨_, rfl, Tab, p.fs, matD p.n, fun f => matD p.n (turnT f), rfl, by omega, fun f hf => ?_, ?_⟩)))))))
    · refine we_lcR ?_
      walk_at "e"
      rw [List.length_map, List.length_range]
      refine ⟨by omega, fun x => rowD p.n (turnT f x), fun x hx => ?_, ⟨rfl, rfl⟩⟩
      refine we_lcR ?_
      walk_at "e"
      rw [List.length_map, List.length_range]
      refine ⟨by omega, fun y => ratD (turnT f x y), fun y hy => ?_, ⟨rfl, rfl⟩⟩
      walk_at "e"
      exact ⟨rfl, rfl⟩
    · walk_at "e"
      have e : (p.fs.map fun f => matD p.n (turnT f)) = tabsD p.n (p.fs.map turnT) := by
        rw [tabsD, List.map_map]
        rfl
      rw [e]
      exact k
  | place x b v q v' q' =>
    obtain ⟨hg, hx, hb, hv, hq, hv', hq', h4, h7⟩ := hs
    have pb := (at_of hm hb).2
    refine ws_seq (ws_ifF ?_ (ws_nx (ws_seq (ws_ifF ?_ (ws_nx (ws_seq (ws_ifT ?_ ?_)))))))
    · walk_at "d"
      exact ⟨rfl, rfl⟩
    · walk_at "d"
      exact ⟨rfl, rfl⟩
    · walk_at "d"
      exact ⟨rfl, rfl⟩
    walk_at "e"
    refine ⟨p.n, p.fs, p.nm, b, p.at b, rfl, hm.nd, (at_of hm hb).1, ?_⟩
    walk_at "e"
    refine ⟨v, q, rfl, hv, ?_⟩
    walk_at "e"
    refine ⟨v', q', rfl, hv', ?_⟩
    walk_at "e"
    obtain ⟨f0, rest, hfs⟩ : ∃ f0 rest, p.fs = f0 :: rest := by
      cases e : p.fs with
      | nil => rw [e] at ht; rcases ht.len with h | h <;> simp at h
      | cons f0 rest => exact ⟨f0, rest, rfl⟩
    refine wg_tup rfl (wgs_cons (wg_name (wgs_cons (wg_name (wgs_cons (wg_name (wgs_nil ?_)))))))
    show WS K T _ _ _ _
    walk_at "e"
    refine ⟨p.n, f0, nmD p.nm, tabsD p.n rest, ?_, ?_⟩
    · show [D.tup [nmD p.nm, .lst (tabsD p.n p.fs)]] = _
      rw [hfs]
      rfl
    walk_at "e"
    refine opd_cat (by rw [List.length_map, List.length_singleton]; omega) ?_
    walk_at "e"
    have e1 : D.lst (p.nm.map pairD ++ [.tup [.str x, .int (p.n : Nat)]]) = nmD (p.nm ++ [(x, p.n)]) := by
      show _ = D.lst _
      rw [List.map_append]
      rfl
    rw [e1]
    refine cad_sortedNm fun nm' hp' hs' => ?_
    rw [ins_eq (p := (x, p.n)) hm hx hp' hs']
    walk_at "e"
    refine we_lcX (wi_list (we_var rfl ⟨_, rfl, Tab, p.fs, matD p.n, fun f => matD (p.n + 1) (putT p.n (p.at b) q q' f), rfl, by omega, fun f hf => ?_, ?_⟩))
    · walk_at "e"
      exact ⟨l, p.n, p.at b, f, q, q', rfl, n9, by omega, ht.lv f hf, pb, lv_mono hq (Nat.zero_le l), lv_mono hq' (Nat.zero_le l), rfl, rfl⟩
    · walk_at "e"
      have e : (p.fs.map fun f => matD (p.n + 1) (putT p.n (p.at b) q q' f)) = tabsD (p.n + 1) (p.fs.map (putT p.n (p.at b) q q')) := by
        rw [tabsD, List.map_map]
        rfl
      rw [e]
      exact k
  | same a b =>
    obtain ⟨ha, hb, hab⟩ := hs
    have pa := (at_of hm ha).2
    have pb := (at_of hm hb).2
    refine ws_seq (ws_ifF ?_ (ws_nx (ws_seq (ws_ifF ?_ (ws_nx (ws_seq (ws_ifF ?_ (ws_nx (ws_seq (ws_ifT ?_ ?_))))))))))
    · walk_at "d"
      exact ⟨rfl, rfl⟩
    · walk_at "d"
      exact ⟨rfl, rfl⟩
    · walk_at "d"
      exact ⟨rfl, rfl⟩
    · walk_at "d"
      exact ⟨rfl, rfl⟩
    walk_at "e"
    refine ⟨p.n, p.fs, p.nm, a, p.at a, rfl, hm.nd, (at_of hm ha).1, ?_⟩
    walk_at "e"
    refine ⟨p.n, p.fs, p.nm, b, p.at b, rfl, hm.nd, (at_of hm hb).1, ?_⟩
    walk_at "e"
    refine wg_tup rfl (wgs_cons (wg_name (wgs_cons (wg_name (wgs_nil ?_)))))
    show WS K T _ _ _ _
    refine ws_seq (ws_asgN (we_lcX (wi_list (we_var rfl ⟨_, rfl, Tab, p.fs, matD p.n, fun f => matD p.n (roadT (p.at b) (p.at a) 0 (roadT (p.at a) (p.at b) 0 f)), rfl, by omega, fun f hf => ?_, ?_⟩))))
    · walk_at "e"
      have z := lv_zero l
      refine ⟨l, p.n, p.at a, p.at b, f, 0, rfl, n9, by omega, ht.lv f hf, ht.met f hf, pa, pb, z, ?_⟩
      walk_at "e"
      exact ⟨l, p.n, p.at b, p.at a, _, 0, rfl, n9, by omega, road_lv (ht.lv f hf) pa pb z, road_met (ht.met f hf) pa pb (by grind), pb, pa, z, rfl, rfl⟩
    · show WS K T _ _ _ _
      refine ws_ret (we_tup (wa_cons (we_lcXF (wi_list (we_var rfl ⟨_, rfl, Str × Nat, p.nm, pairD, pairD, fun q => !decide (q.1 = b), rfl, by omega, fun q hq => ?_, ?_⟩)))))
      · walk_at "e"
        exact ⟨rfl, rfl, fun _ => we_var rfl ⟨rfl, rfl⟩⟩
      · walk_at "e"
        have e : (p.fs.map fun f => matD p.n (roadT (p.at b) (p.at a) 0 (roadT (p.at a) (p.at b) 0 f))) = tabsD p.n (p.fs.map fun f => roadT (p.at b) (p.at a) 0 (roadT (p.at a) (p.at b) 0 f)) := by
          rw [tabsD, List.map_map]
          rfl
        rw [e]
        exact k
  | road b sn gn v q =>
    have hb : b < p.fs.length := hs.1
    refine ws_seq (ws_ifF ?_ (ws_nx (ws_seq (ws_ifF ?_ (ws_nx (ws_seq (ws_ifF ?_ (ws_nx (ws_seq (ws_ifF ?_ (ws_nx ?_)))))))))))
    iterate 4
      · walk_at "d"
        exact ⟨rfl, rfl⟩
    show WS K T _ _ _ _
    walk_at "e"
    refine ⟨l, b, p, .road b sn gn v q, rfl, ok, hs, hl, rfl, ?_⟩
    rw [ap_layer (s := .road b sn gn v q) rfl hb] at k
    walk_at "e"
    refine fin b _ hb k ?_ ?_
    · intro e q
      subst e
      walk_at "d"
      refine ite2 (fun _ => ?_) fun h => absurd rfl h
      walk_at "e"
      refine opd_cat ?_ ?_
      · rw [cut1, List.length_drop, tabsD, List.length_map, List.length_singleton]
        omega
      · walk_at "e"
        exact q
    · intro e h2 q
      subst e
      walk_at "d"
      refine ite2 (fun h => absurd h (by decide)) fun _ => ?_
      walk_at "e"
      refine opd_ixL (tab_at (a := 0) (by omega)) ?_
      walk_at "e"
      exact q
  | ride b sn gn v q =>
    have hb : b < p.fs.length := hs.1
    refine ws_seq (ws_ifF ?_ (ws_nx (ws_seq (ws_ifF ?_ (ws_nx (ws_seq (ws_ifF ?_ (ws_nx (ws_seq (ws_ifF ?_ (ws_nx ?_)))))))))))
    iterate 4
      · walk_at "d"
        exact ⟨rfl, rfl⟩
    show WS K T _ _ _ _
    walk_at "e"
    refine ⟨l, b, p, .ride b sn gn v q, rfl, ok, hs, hl, rfl, ?_⟩
    rw [ap_layer (s := .ride b sn gn v q) rfl hb] at k
    walk_at "e"
    refine fin b _ hb k ?_ ?_
    · intro e q
      subst e
      walk_at "d"
      refine ite2 (fun _ => ?_) fun h => absurd rfl h
      walk_at "e"
      refine opd_cat ?_ ?_
      · rw [cut1, List.length_drop, tabsD, List.length_map, List.length_singleton]
        omega
      · walk_at "e"
        exact q
    · intro e h2 q
      subst e
      walk_at "d"
      refine ite2 (fun h => absurd h (by decide)) fun _ => ?_
      walk_at "e"
      refine opd_ixL (tab_at (a := 0) (by omega)) ?_
      walk_at "e"
      exact q
  | cap b v q =>
    have hb : b < p.fs.length := hs.1
    refine ws_seq (ws_ifF ?_ (ws_nx (ws_seq (ws_ifF ?_ (ws_nx (ws_seq (ws_ifF ?_ (ws_nx (ws_seq (ws_ifF ?_ (ws_nx ?_)))))))))))
    iterate 4
      · walk_at "d"
        exact ⟨rfl, rfl⟩
    show WS K T _ _ _ _
    walk_at "e"
    refine ⟨l, b, p, .cap b v q, rfl, ok, hs, hl, rfl, ?_⟩
    rw [ap_layer (s := .cap b v q) rfl hb] at k
    walk_at "e"
    refine fin b _ hb k ?_ ?_
    · intro e q
      subst e
      walk_at "d"
      refine ite2 (fun _ => ?_) fun h => absurd rfl h
      walk_at "e"
      refine opd_cat ?_ ?_
      · rw [cut1, List.length_drop, tabsD, List.length_map, List.length_singleton]
        omega
      · walk_at "e"
        exact q
    · intro e h2 q
      subst e
      walk_at "d"
      refine ite2 (fun h => absurd h (by decide)) fun _ => ?_
      walk_at "e"
      refine opd_ixL (tab_at (a := 0) (by omega)) ?_
      walk_at "e"
      exact q
  | scale b v q =>
    have hb : b < p.fs.length := hs.1
    refine ws_seq (ws_ifF ?_ (ws_nx (ws_seq (ws_ifF ?_ (ws_nx (ws_seq (ws_ifF ?_ (ws_nx (ws_seq (ws_ifF ?_ (ws_nx ?_)))))))))))
    iterate 4
      · walk_at "d"
        exact ⟨rfl, rfl⟩
    show WS K T _ _ _ _
    walk_at "e"
    refine ⟨l, b, p, .scale b v q, rfl, ok, hs, hl, rfl, ?_⟩
    rw [ap_layer (s := .scale b v q) rfl hb] at k
    walk_at "e"
    refine fin b _ hb k ?_ ?_
    · intro e q
      subst e
      walk_at "d"
      refine ite2 (fun _ => ?_) fun h => absurd rfl h
      walk_at "e"
      refine opd_cat ?_ ?_
      · rw [cut1, List.length_drop, tabsD, List.length_map, List.length_singleton]
        omega
      · walk_at "e"
        exact q
    · intro e h2 q
      subst e
      walk_at "d"
      refine ite2 (fun h => absurd h (by decide)) fun _ => ?_
      walk_at "e"
      refine opd_ixL (tab_at (a := 0) (by omega)) ?_
      walk_at "e"
      exact q
  | round b =>
    have hb : b < p.fs.length := hs
    refine ws_seq (ws_ifF ?_ (ws_nx (ws_seq (ws_ifF ?_ (ws_nx (ws_seq (ws_ifF ?_ (ws_nx (ws_seq (ws_ifF ?_ (ws_nx ?_)))))))))))
    iterate 4
      · walk_at "d"
        exact ⟨rfl, rfl⟩
    show WS K T _ _ _ _
    walk_at "e"
    refine ⟨l, b, p, .round b, rfl, ok, hs, hl, rfl, ?_⟩
    rw [ap_layer (s := .round b) rfl hb] at k
    walk_at "e"
    refine fin b _ hb k ?_ ?_
    · intro e q
      subst e
      walk_at "d"
      refine ite2 (fun _ => ?_) fun h => absurd rfl h
      walk_at "e"
      refine opd_cat ?_ ?_
      · rw [cut1, List.length_drop, tabsD, List.length_map, List.length_singleton]
        omega
      · walk_at "e"
        exact q
    · intro e h2 q
      subst e
      walk_at "d"
      refine ite2 (fun h => absurd h (by decide)) fun _ => ?_
      walk_at "e"
      refine opd_ixL (tab_at (a := 0) (by omega)) ?_
      walk_at "e"
      exact q
end
end Dl
end
/-! ## P17 -/
section
set_option maxRecDepth 100000
set_option maxHeartbeats 1000000
namespace Dl
open PySem PySem.Spec PyProof.Rows L2 Mx
local macro_rules | `(tactic| walk_at "d1") => `(tactic| with_reducible first
  | refine ws_seq ?_ | refine ws_asgN ?_ | refine ws_asg ?_ | refine wg_name ?_ | refine ws_ret ?_ | refine ws_nx ?_ | refine ws_expr ?_
  | refine we_op ?_ | refine we_un ?_ | refine we_int ?_ | refine we_str ?_ | refine we_bl ?_ | refine we_non ?_ | refine we_ty ?_ | refine we_if ?_ | refine we_and ?_ | refine we_or ?_ | refine we_not ?_ | refine we_chain ?_
  | refine we_tup ?_ | refine we_lst ?_ | refine we_listRng ?_ | refine we_isi2 ?_ | refine we_cb ?_ | refine we_call ?_ | refine wa_cons ?_ | refine wa_nil ?_ | refine we_sl ?_ | refine wo_no ?_ | refine wo_some ?_
  | refine wt_test ?_ | refine wt_B ?_ | refine wt_and ?_ | refine wt_or ?_ | refine wt_not ?_ | refine wt_yes ?_
  | refine opd_add ?_ | refine opd_sub ?_ | refine opd_lt ?_ | refine opd_le ?_ | refine opd_gt ?_ | refine opd_ge ?_ | refine opd_eqI ?_ | refine opd_neI ?_ | refine opd_eqS ?_ | refine opd_neS ?_ | refine opd_isN ?_ | refine opd_notN ?_
  | refine opd_mulW ?_ ?_ | refine opd_mul ?_ ?_ | refine opd_pow ?_ ?_ | refine opd_fdivW ?_ ?_ | refine opd_modN ?_ ?_
  | refine cad_gcd ?_ | refine cad_int1 ?_ | refine cad_intB ?_ | refine cad_abs ?_ | refine cad_lenT ?_ | refine cad_lenL ?_ | refine cad_lenLL ?_ | refine cad_list ?_ | refine sld_lst ?_ | refine sld_tup ?_ | refine sld_tp ?_
  | refine we_fld ?_ | refine we_meth ?_ | refine we_prop ?_ | refine ws_par ?_ | refine ite_t ?_ | refine ite_f ?_ | fail)
local macro_rules | `(tactic| walk_at "d2") => `(tactic| first
  | refine we_var rfl ?_ | (with_reducible refine we_zero (by assumption) ?_) | (with_reducible refine we_layers (by assumption) ?_) | refine opd_ixT rfl ?_ | refine opd_ixP rfl ?_ | (with_reducible refine opd_ixL (atI_rng (by assumption)) ?_) | (with_reducible refine ws_asgN ?_) | fail)
local macro_rules | `(tactic| walk_at "d3") => `(tactic| first | (with_reducible refine ⟨_, rfl, ?_⟩) | (with_reducible refine ⟨sz_ok rfl, ?_⟩) | (with_reducible refine ⟨_, _, rfl, ?_⟩) | fail)
local macro_rules | `(tactic| walk_at "e") => `(tactic| repeat' (first | walk_at "d1" | walk_at "d2" | walk_at "d3" | fail))
local macro_rules | `(tactic| walk_at "d") => `(tactic| repeat' (first | walk_at "d1" | walk_at "d2" | walk_at "d3" | (with_reducible refine ws_if ?_) | fail))
section
variable {P : Program} {w : World} {K : PySem.W.Frag} {T : Tb} {mg : Str → Option Value} {base : Heap}
/-- a step as it is drawn -/
def Raw (p : Pl) (x : Str) : Stp → Prop
  | .place x' b v q v' q' => x' = x ∧ p.has b ∧ valD v q ∧ Lv 0 q ∧ valD v' q' ∧ Lv 0 q'
  | s => StpOk p s
theorem strs_py : ∀ ws : List Str, isPyL (ws.map D.str) = true
  | [] => by unfold List.map isPyL; rfl
  | w :: ws => by
    rw [List.map_cons]
    unfold isPyL
    rw [strs_py ws]
    unfold isPy
    rfl
theorem good_ok {x : Str} (h : GoodN x) : PyData.strOk x = true := by
  unfold PyData.strOk
  rw [← Array.all_toList, List.all_eq_true]
  intro c hc
  have hl : ∀ c ∈ lettersL, c < 0x110000 := by decide
  exact decide_eq_true (hl c (h.al c hc))
theorem strs_lay : ∀ ws : List Str, (∀ w ∈ ws, GoodN w) → PyData.canLayAll0 (pyL (ws.map D.str)) = true ∧ PyData.depthAll (pyL (ws.map D.str)) = 0
  | [], _ => ⟨rfl, rfl⟩
  | w :: ws, h => by
    obtain ⟨h1, h2⟩ := strs_lay ws fun v hv => h v (List.mem_cons_of_mem _ hv)
    have h3 := good_ok (h w List.mem_cons_self)
    rw [List.map_cons]
    unfold pyL
    simp [PyData.canLayAll0, PyData.canLay0, PyData.depthAll, PyData.depth, py, h1, h2, h3]
theorem strs_shaped {ws : List Str} (h : ∀ w ∈ ws, GoodN w) : SeqAt.shaped (py (.lst (ws.map D.str))) = true := by
  obtain ⟨h1, h2⟩ := strs_lay ws h
  unfold py SeqAt.shaped
  simp [PyData.canLay0, PyData.depth, h1, h2]
abbrev N_law_some_step : List Str := ["_law_src", "_law_names_here", "_law_fresh", "_law_layers", "_law_way", "_law_layer_here", "_law_a", "_law_b"]
theorem sc_law_some_step : FnScope N_law_some_step ["_law_src", "_law_names_here", "_law_fresh", "_law_layers"] (defScope (top 81)) := ⟨rfl, rfl, rfl, by decide +kernel, rfl, by decide +kernel, by decide +kernel⟩
def preSome : Pre := fun ds M R => ∃ (a : Addr) (l : Nat) (p : Pl) (x : Str), ds = [.ptr a, .lst ((p.nm.map (·.1)).map D.str), .str x, .int (p.fs.length : Nat)] ∧ M = sM a ∧ PlOk l p ∧ ∀ s, Raw p x s → R (stpD s) M
theorem ok_law_some_step (L : Lib K mg) (F : FnAt K mg "_law_some_step" (top 81)) (c_law_draw : CDraw P w K T mg base) (c_law_layer : Cal P w K T mg base "_law_layer" 2 ["_law_src", "_law_layers"] preLay) (c_law_of : Cal P w K T mg base "_law_of" 2 ["_law_src", "_law_some"] preOf)
    (c_law_bare : Cal P w K T mg base "_law_bare" 2 ["_law_src", "_law_one"] preBare) (c_law_length : Cal P w K T mg base "_law_length" 2 ["_law_src"] preLen) (c_law_low : Cal P w K T mg base "_law_low" 1 ["_law_top", "_law_bottom"] preLowest) :
    Cal P w K T mg base "_law_some_step" 3 ["_law_src", "_law_names_here", "_law_fresh", "_law_layers"] preSome := by
  refine cal_of F sc_law_some_step (fun ds M R h => by obtain ⟨_, _, _, _, rfl, _⟩ := h; rfl) (fun _ _ _ _ _ _ us hl => match us, hl with | [_, _, _, _], _ => rfl) fun f cdv A outer s H E hr => ⟨_, (pss_cons (ps_par (i := 4) (j := 5) (by rfl) sc_law_some_step.nd rfl rfl (by decide) rfl rfl (pa_cons (pe_cal c_law_draw (hr.mono (by decide)) (by rfl) (pa_cons (pv 0) (pa_cons pe_int pa_nil))) (pa_cons (pe_cal c_law_layer (hr) (by rfl) (pa_cons (pv 0) (pa_cons (pv 3) pa_nil))) pa_nil)) (by rfl))
    (pss_cons (ps_if (pt_cmpR (op_neDK (K := K) (hu64 hr)) (pv 1) (pe_lst pa_nil) (nomark _)) (pss_cons (ps_par (i := 6) (j := 7) (by rfl) sc_law_some_step.nd rfl rfl (by decide) rfl rfl (pa_cons (pe_cal c_law_of (hr) (by rfl) (pa_cons (pv 0) (pa_cons (pv 1) pa_nil))) (pa_cons (pe_cal c_law_of (hr) (by rfl) (pa_cons (pv 0) (pa_cons (pv 1) pa_nil))) pa_nil)) (by rfl))
    (pss_cons (ps_if (pt_cmpR op_lt (pv 4) pe_int (nomark _)) (pss_one (ps_ret (pe_tup (pa_cons (pe_ifExp (PW.pt (pw_and (pt_cmpR op_eq (pv 4) pe_int (nomark _)) (pw_and1 (pt_cmpR op_eq (pv 3) pe_int (nomark _))))) pe_str pe_str) (pa_cons (pv 5) (pa_cons (pv 6) (pa_cons (pv 7) (pa_cons (pe_cal c_law_bare (hr) (by rfl) (pa_cons (pv 0) (pa_cons (pe_cal c_law_length (hr) (by rfl) (pa_cons (pv 0) pa_nil)) pa_nil))) pa_nil)))))))) pss_nil)
    (pss_cons (ps_if (pt_cmpR op_eq (pv 4) pe_int (nomark _)) (pss_one (ps_ret (pe_tup (pa_cons pe_str (pa_cons (pv 2) (pa_cons (pv 6) (pa_cons (pe_cal c_law_bare (hr) (by rfl) (pa_cons (pv 0) (pa_cons (pe_cal c_law_length (hr) (by rfl) (pa_cons (pv 0) pa_nil)) pa_nil))) (pa_cons (pe_cal c_law_bare (hr) (by rfl) (pa_cons (pv 0) (pa_cons (pe_cal c_law_length (hr) (by rfl) (pa_cons (pv 0) pa_nil)) pa_nil))) pa_nil)))))))) pss_nil)
    (pss_cons (ps_if (PW.pt (pw_and (pt_cmpR op_eq (pv 4) pe_int (nomark _)) (pw_and1 (pt_cmpR op_ne (pv 6) (pv 7) (nomark _))))) (pss_one (ps_ret (pe_tup (pa_cons pe_str (pa_cons (pv 6) (pa_cons (pv 7) pa_nil)))))) pss_nil)
    (pss_one (ps_if (pt_cmpR op_eq (pv 4) pe_int (nomark _)) (pss_one (ps_ret (pe_tup (pa_cons pe_str (pa_cons (pv 6) pa_nil))))) pss_nil)))))) pss_nil)
    (pss_cons (ps_if (pt_cmpR op_lt (pv 4) pe_int (nomark _)) (pss_one (ps_ret (pe_tup (pa_cons pe_str (pa_cons (pv 5) (pa_cons (pe_cal c_law_bare (hr) (by rfl) (pa_cons (pv 0) (pa_cons (pe_cal c_law_length (hr) (by rfl) (pa_cons (pv 0) pa_nil)) pa_nil))) pa_nil)))))) pss_nil)
    (pss_cons (ps_if (pt_cmpR op_eq (pv 4) pe_int (nomark _)) (pss_one (ps_ret (pe_tup (pa_cons pe_str (pa_cons (pv 5) (pa_cons (pe_cal c_law_bare (hr) (by rfl) (pa_cons (pv 0) (pa_cons (pe_cal c_law_low (hr.mono (by decide)) (by rfl) (pa_cons (pe_op op_add pe_int (pe_cal c_law_draw (hr.mono (by decide)) (by rfl) (pa_cons (pv 0) (pa_cons pe_int pa_nil)))) (pa_cons (pe_op op_add pe_int (pe_cal c_law_draw (hr.mono (by decide)) (by rfl) (pa_cons (pv 0) (pa_cons pe_int pa_nil)))) pa_nil))) pa_nil))) pa_nil)))))) pss_nil)
    (pss_one (ps_ret (pe_ifExp (pt_cmpR op_eq (pv 4) pe_int (nomark _)) (pe_tup (pa_cons pe_str pa_nil)) (pe_tup (pa_cons pe_str (pa_cons (pv 5) pa_nil)))))))))), fun ds M R h => ?_⟩
  obtain ⟨a, l, p, x, rfl, rfl, ok, k⟩ := h
  have ht := ok.t
  have hm := ok.m
  have hfl : 1 ≤ p.fs.length ∧ p.fs.length ≤ 2 := by rcases ht.len with h | h <;> omega
  have hnl := hm.ln
  walk_at "e"
  refine draw_sM (m := 12) (by decide) (by decide) fun way hway => ?_
  walk_at "e"
  refine ⟨a, p.fs.length, rfl, rfl, hfl.1, hfl.2, fun la hla => wa_nil ⟨_, _, rfl, ?_⟩⟩
  show WS K T _ _ _ _
  have hway' : (way : Int) < 12 := by omega
  -- lengths, as they are drawn
  have len_ : ∀ (R' : D → MS → Prop), (∀ q, Lv 0 q → R' (ratD q) (sM a)) → preLen [.ptr a] (sM a) R' := fun R' h => ⟨a, rfl, rfl, h⟩
  have bare_ : ∀ (q : Rat) (R' : D → MS → Prop), (∀ v, valD v q → R' v (sM a)) → preBare [.ptr a, ratD q] (sM a) R' := fun q R' h => ⟨a, q, rfl, rfl, h⟩
  have some_ : ∀ (R' : D → MS → Prop), p.nm ≠ [] → (∀ s, p.has s → R' (.str s) (sM a)) → preOf [.ptr a, .lst ((p.nm.map (·.1)).map D.str)] (sM a) R' := fun R' hne h => by
    refine ⟨a, _, rfl, rfl, .inr ⟨_, rfl, ?_, ?_, fun e he => ?_⟩⟩
    · rw [List.length_map, List.length_map]
      exact List.length_pos_iff.mpr hne
    · rw [List.length_map, List.length_map]
      omega
    · obtain ⟨s, hs, rfl⟩ := List.mem_map.mp he
      exact h s hs
  refine ws_seq (ws_cut (fun G' M' => M' = sM a ∧ ∃ d6 d7, G' = [some (.ptr a), some (.lst ((p.nm.map (·.1)).map D.str)), some (.str x), some (.int (p.fs.length : Nat)), some (.int (way : Nat)), some (.str (lay la)), d6, d7]) ?_ ?_)
  · by_cases hne : p.nm = []
    · refine ws_ifF ?_ (ws_nx ⟨rfl, _, _, rfl⟩)
      walk_at "e"
      rw [hne]
      exact opd_neD rfl rfl rfl rfl ⟨_, rfl, rfl, rfl⟩
    · refine ws_ifT ?_ ?_
      · walk_at "e"
        cases hc : p.nm with
        | nil => exact absurd hc hne
        | cons q rest =>
          have hgd : ∀ w ∈ (q :: rest).map (·.1), GoodN w := fun w hw => by
            obtain ⟨z, hz, rfl⟩ := List.mem_map.mp hw
            exact hm.gd z (by rw [hc]; exact hz)
          exact opd_neD (by unfold isPy; exact strs_py _) rfl (strs_shaped hgd) rfl ⟨_, rfl, rfl, rfl⟩
      walk_at "e"
      refine some_ _ hne fun sa ha => ?_
      walk_at "e"
      refine some_ _ hne fun sb hb => wa_nil ⟨_, _, rfl, ?_⟩
      show WS K T _ _ _ _
      walk_at "d"
      refine ite2 (fun _ => ?_) (fun _ => ?_)
      · have rd : ∀ v q, valD v q → Lv 0 q → (ends R).rt (.tup [.str "road", .str (lay la), .str sa, .str sb, v]) (sM a) := fun v q hv hq => k (.road la sa sb v q) ⟨hla, ha, hb, hv, hq⟩
        walk_at "d"
        refine ite2 (fun _ => ?_) (fun _ => ?_)
        · walk_at "d"
          refine ite2 (fun h2 => ?_) (fun _ => ?_)
          · have hf2 : p.fs.length = 2 := by have := of_decide_eq_true h2; omega
            walk_at "e"
            refine len_ _ fun q hq => ?_
            walk_at "e"
            refine bare_ _ _ fun v hv => ?_
            walk_at "e"
            exact k (.ride la sa sb v q) ⟨hla, hf2, ha, hb, hv, hq⟩
          · walk_at "e"
            refine len_ _ fun q hq => ?_
            walk_at "e"
            refine bare_ _ _ fun v hv => ?_
            walk_at "e"
            exact rd v q hv hq
        · walk_at "e"
          refine len_ _ fun q hq => ?_
          walk_at "e"
          refine bare_ _ _ fun v hv => ?_
          walk_at "e"
          exact rd v q hv hq
      · walk_at "d"
        refine ite2 (fun _ => ?_) (fun _ => ?_)
        · walk_at "e"
          refine len_ _ fun q hq => ?_
          walk_at "e"
          refine bare_ _ _ fun v hv => ?_
          walk_at "e"
          refine len_ _ fun q' hq' => ?_
          walk_at "e"
          refine bare_ _ _ fun v' hv' => ?_
          walk_at "e"
          exact k (.place x sa v q v' q') ⟨rfl, ha, hv, hq, hv', hq'⟩
        · walk_at "d"
          refine ite2 (fun _ => ?_) (fun _ => ?_)
          · walk_at "d"
            by_cases hab : sa = sb
            · rw [show (!decide (sa = sb)) = false from by simp [hab]]
              walk_at "d"
              refine ite2 (fun _ => ?_) (fun _ => ?_)
              · walk_at "e"
                exact k (.forget sa) ha
              · walk_at "e"
                exact ⟨rfl, _, _, rfl⟩
            · rw [show (!decide (sa = sb)) = true from by simp [hab]]
              walk_at "e"
              exact k (.same sa sb) ⟨ha, hb, hab⟩
          · walk_at "d"
            refine ite2 (fun _ => ?_) (fun _ => ?_)
            · walk_at "e"
              exact k (.forget sa) ha
            · walk_at "e"
              exact ⟨rfl, _, _, rfl⟩
  · rintro G' M' ⟨rfl, d6, d7, rfl⟩
    show WS K T _ _ _ _
    walk_at "d"
    refine ite2 (fun _ => ?_) (fun _ => ?_)
    · walk_at "e"
      refine len_ _ fun q hq => ?_
      walk_at "e"
      refine bare_ _ _ fun v hv => ?_
      walk_at "e"
      exact k (.cap la v q) ⟨hla, hv, hq⟩
    · walk_at "d"
      refine ite2 (fun _ => ?_) (fun _ => ?_)
      · walk_at "e"
        refine draw_sM (m := 5) (by decide) (by decide) fun t ht5 => ?_
        walk_at "e"
        refine draw_sM (m := 3) (by decide) (by decide) fun b hb3 => ?_
        walk_at "e"
        have hb : 1 + b ∈ [1, 2, 3] := by
          simp only [List.mem_cons, List.not_mem_nil, or_false]
          omega
        have hb5 : 1 + b ∈ [1, 2, 3, 4, 5] := by
          simp only [List.mem_cons, List.not_mem_nil, or_false]
          omega
        obtain ⟨y, hy1, hy2, hy3⟩ := six_low (t := 1 + t) (by omega) (by omega) hb
        refine ⟨1 + (t : Int), 1 + (b : Int), rfl, by omega, ?_, ?_⟩
        · have e : (1 + (b : Int)).natAbs = 1 + b := by omega
          rw [e]
          exact log_small (by omega)
        · have e1 : (1 + (b : Int)).toNat = 1 + b := by omega
          have e2 : (1 + (t : Int)) = ((1 + t : Nat) : Int) := by omega
          rw [e1, e2]
          walk_at "e"
          refine bare_ _ _ fun v hv => ?_
          walk_at "e"
          exact k (.scale la v _) ⟨hla, hv, lv_low (by omega) hb5, hy3, y, hy1, hy2⟩
      · walk_at "d"
        refine ite2 (fun _ => ?_) (fun _ => ?_)
        · walk_at "e"
          exact k .turn True.intro
        · walk_at "e"
          exact k (.round la) hla
end
end Dl
end
/-! ## P18 -/
section
set_option maxRecDepth 100000
set_option maxHeartbeats 1000000
namespace Dl
open PySem PySem.Spec PyProof.Rows L2 Mx
local macro_rules | `(tactic| walk_at "d1") => `(tactic| with_reducible first
  | refine ws_seq ?_ | refine ws_asgN ?_ | refine ws_asg ?_ | refine wg_name ?_ | refine ws_ret ?_ | refine ws_nx ?_ | refine ws_expr ?_
  | refine we_op ?_ | refine we_un ?_ | refine we_int ?_ | refine we_str ?_ | refine we_bl ?_ | refine we_non ?_ | refine we_ty ?_ | refine we_if ?_ | refine we_and ?_ | refine we_or ?_ | refine we_not ?_ | refine we_chain ?_
  | refine we_tup ?_ | refine we_lst ?_ | refine we_listRng ?_ | refine we_isi2 ?_ | refine we_cb ?_ | refine we_call ?_ | refine wa_cons ?_ | refine wa_nil ?_ | refine we_sl ?_ | refine wo_no ?_ | refine wo_some ?_
  | refine wt_test ?_ | refine wt_B ?_ | refine wt_and ?_ | refine wt_or ?_ | refine wt_not ?_ | refine wt_yes ?_
  | refine opd_add ?_ | refine opd_sub ?_ | refine opd_lt ?_ | refine opd_le ?_ | refine opd_gt ?_ | refine opd_ge ?_ | refine opd_eqI ?_ | refine opd_neI ?_ | refine opd_eqS ?_ | refine opd_neS ?_ | refine opd_isN ?_ | refine opd_notN ?_
  | refine opd_mulW ?_ ?_ | refine opd_mul ?_ ?_ | refine opd_pow ?_ ?_ | refine opd_fdivW ?_ ?_ | refine opd_modN ?_ ?_
  | refine cad_gcd ?_ | refine cad_int1 ?_ | refine cad_intB ?_ | refine cad_abs ?_ | refine cad_lenT ?_ | refine cad_lenL ?_ | refine cad_lenLL ?_ | refine cad_list ?_ | refine sld_lst ?_ | refine sld_tup ?_ | refine sld_tp ?_
  | refine we_fld ?_ | refine we_meth ?_ | refine we_prop ?_ | refine ws_par ?_ | refine ite_t ?_ | refine ite_f ?_ | fail)
local macro_rules | `(tactic| walk_at "d2") => `(tactic| first
  | refine we_var rfl ?_ | (with_reducible refine we_zero (by assumption) ?_) | (with_reducible refine we_layers (by assumption) ?_) | refine opd_ixT rfl ?_ | refine opd_ixP rfl ?_ | (with_reducible refine opd_ixL (atI_rng (by assumption)) ?_) | (with_reducible refine ws_asgN ?_) | fail)
local macro_rules | `(tactic| walk_at "d3") => `(tactic| first | (with_reducible refine ⟨_, rfl, ?_⟩) | (with_reducible refine ⟨sz_ok rfl, ?_⟩) | (with_reducible refine ⟨_, _, rfl, ?_⟩) | fail)
local macro_rules | `(tactic| walk_at "e") => `(tactic| repeat' (first | walk_at "d1" | walk_at "d2" | walk_at "d3" | fail))
local macro_rules | `(tactic| walk_at "d") => `(tactic| repeat' (first | walk_at "d1" | walk_at "d2" | walk_at "d3" | (with_reducible refine ws_if ?_) | fail))
section
variable {P : Program} {w : World} {K : PySem.W.Frag} {T : Tb} {mg : Str → Option Value} {base : Heap}
abbrev N_law_plain_step : List Str := ["_law_src", "_law_plan", "_law_fresh", "_law_layers", "_law_step", "_law_pair_here", "_law_full"]
theorem sc_law_plain_step : FnScope N_law_plain_step ["_law_src", "_law_plan", "_law_fresh", "_law_layers"] (defScope (top 83)) := ⟨rfl, rfl, rfl, by decide +kernel, rfl, by decide +kernel, by decide +kernel⟩
def prePlain : Pre := fun ds M R => ∃ (a : Addr) (l : Nat) (p : Pl) (x : Str), ds = [.ptr a, plD p, .str x, .int (p.fs.length : Nat)] ∧ M = sM a ∧ PlOk l p ∧ GoodN x ∧ ∀ s, StpOk p s → R (stpD s) M
theorem ok_law_plain_step (L : Lib K mg) (F : FnAt K mg "_law_plain_step" (top 83)) (c_law_some_step : Cal P w K T mg base "_law_some_step" 3 ["_law_src", "_law_names_here", "_law_fresh", "_law_layers"] preSome)
    (c_law_places_of : Cal P w K T mg base "_law_places_of" 1 ["_law_plan"] (fun ds M R => ∃ (n : Nat) (f : Tab) (x : D) (ts : List D), ds = [.tup [x, .lst (matD n f :: ts)]] ∧ R (.int n) M)) :
    Cal P w K T mg base "_law_plain_step" 4 ["_law_src", "_law_plan", "_law_fresh", "_law_layers"] prePlain := by
  refine cal_of F sc_law_plain_step (fun ds M R h => by obtain ⟨_, _, _, _, rfl, _⟩ := h; rfl) (fun _ _ _ _ _ _ us hl => match us, hl with | [_, _, _, _], _ => rfl) fun f cdv A outer s H E hr => ⟨_, (pss_cons (ps_set (i := 4) sc_law_plain_step.nd rfl (by first | exact Or.inl rfl | exact Or.inr rfl) (pe_cal c_law_some_step (hr) (by rfl) (pa_cons (pv 0) (pa_cons (pe_lc (own := [("_law_pair_here", 5)]) (tt := tYes) rfl sc_law_plain_step.nd (pi_listK (K := K) (pe_ix (ix_tupK (K := K)) (pv 1) pe_int (fun _ _ => rfl))) (blkOk_by (own := [("_law_pair_here", 5)]) (N := N_law_plain_step) rfl) (fun _ _ _ _ _ => (pg_name (i := 5) sc_law_plain_step.nd rfl (by first | exact Or.inl rfl | exact Or.inr rfl))) (fun _ _ _ _ _ => pts_nil) (fun _ _ _ _ _ => (pe_ix (ix_tupK (K := K)) (pv 5) pe_int (fun _ _ => rfl)))) (pa_cons (pv 2) (pa_cons (pv 3) pa_nil))))))
    (pss_cons (ps_set (i := 6) sc_law_plain_step.nd rfl (by first | exact Or.inl rfl | exact Or.inr rfl) (pe_and (pe_cmpR op_eq (pe_ix (ix_tupK (K := K)) (pv 4) pe_int (fun _ _ => rfl)) pe_str (nomark _)) (pe_one (pe_or (pe_cmp (pc_din (hu_of hr) (pv 2) (pe_callTy (call_dictPK (K := K) rfl) (by rfl) L.dict_ (by decide +kernel) (pa_cons (pe_ix (ix_tupK (K := K)) (pv 1) pe_int (fun _ _ => rfl)) pa_nil)))) (pe_or (pe_cmpR op_gt (pe_callB (call_len_seqK (K := K)) (by rfl) L.len_ boot_len (pa_cons (pe_ix (ix_tupK (K := K)) (pv 1) pe_int (fun _ _ => rfl)) pa_nil)) pe_int (nomark _)) (pe_one (pe_cmpR op_gt (pe_cal c_law_places_of (hr.mono (by decide)) (by rfl) (pa_cons (pv 1) pa_nil)) pe_int (nomark _))))))))
    (pss_one (ps_ret (pe_ifExp (pt_val (pv 6)) (pe_tup (pa_cons pe_str pa_nil)) (pv 4)))))), fun ds M R h => ?_⟩
  obtain ⟨a, l, p, x, rfl, rfl, ok, hgx, k⟩ := h
  have ht := ok.t
  have hm := ok.m
  have hnl := hm.ln
  have turn : (ends R).rt (.tup [.str "turn"]) (sM a) := k .turn True.intro
  walk_at "e"
  refine we_lcX (wi_list ?_)
  walk_at "e"
  refine ⟨Str × Nat, p.nm, pairD, fun q => .str q.1, rfl, by omega, fun q hq => ?_, ?_⟩
  · walk_at "e"
    exact ⟨rfl, rfl⟩
  walk_at "e"
  refine ⟨a, l, p, x, ?_, rfl, ok, fun s hs => ?_⟩
  · rw [List.map_map]
    rfl
  cases s with
  | place x' b v q v' q' =>
    obtain ⟨rfl, hb, hv, hq, hv', hq'⟩ := hs
    obtain ⟨f0, rest, hfs⟩ : ∃ f0 rest, p.fs = f0 :: rest := by
      cases e : p.fs with
      | nil => rw [e] at ht; rcases ht.len with h | h <;> simp at h
      | cons f0 rest => exact ⟨f0, rest, rfl⟩
    walk_at "e"
    refine ite2 (fun _ => ?_) fun h => absurd rfl h
    walk_at "e"
    refine we_din ?_
    walk_at "e"
    refine cad_dictP hm.nd fun pp => ⟨pp, _, _, .inr x', .inl rfl, rfl, _, rfl, ?_⟩
    rw [dval_nm, Option.isSome_map]
    cases hx : (placeN p.nm x').isSome with
    | true =>
      walk_at "e"
      exact turn
    | false =>
      have hnx : ¬ p.has x' := place_none.mp (by simpa using hx)
      walk_at "d"
      rw [List.length_map]
      refine ite2 (fun _ => ?_) (fun h4 => ?_)
      · walk_at "e"
        exact turn
      have h4' : p.nm.length ≤ 4 := by
        have : ¬ (4 : Int) < (p.nm.length : Nat) := fun z => h4 (decide_eq_true z)
        omega
      walk_at "e"
      refine ⟨p.n, f0, nmD p.nm, tabsD p.n rest, ?_, ?_⟩
      · show [D.tup [nmD p.nm, .lst (tabsD p.n p.fs)]] = _
        rw [hfs]
        rfl
      walk_at "d"
      refine ite2 (fun _ => ?_) (fun h7 => ?_)
      · walk_at "e"
        exact turn
      have h7' : p.n ≤ 7 := by
        have : ¬ (7 : Int) < (p.n : Nat) := fun z => h7 (decide_eq_true z)
        omega
      walk_at "e"
      exact k (.place x' b v q v' q') ⟨hgx, hnx, hb, hv, hq, hv', hq', h4', h7'⟩
  | road => walk_at "d"; refine ite2 (fun h => absurd h (by decide)) fun _ => ?_; walk_at "e"; exact k _ hs
  | ride => walk_at "d"; refine ite2 (fun h => absurd h (by decide)) fun _ => ?_; walk_at "e"; exact k _ hs
  | same => walk_at "d"; refine ite2 (fun h => absurd h (by decide)) fun _ => ?_; walk_at "e"; exact k _ hs
  | forget => walk_at "d"; refine ite2 (fun h => absurd h (by decide)) fun _ => ?_; walk_at "e"; exact k _ hs
  | cap => walk_at "d"; refine ite2 (fun h => absurd h (by decide)) fun _ => ?_; walk_at "e"; exact k _ hs
  | scale => walk_at "d"; refine ite2 (fun h => absurd h (by decide)) fun _ => ?_; walk_at "e"; exact k _ hs
  | turn => walk_at "d"; refine ite2 (fun h => absurd h (by decide)) fun _ => ?_; walk_at "e"; exact k _ hs
  | round => walk_at "d"; refine ite2 (fun h => absurd h (by decide)) fun _ => ?_; walk_at "e"; exact k _ hs
end
end Dl
end
/-! ## P19 -/
section
set_option maxRecDepth 100000
set_option maxHeartbeats 1000000
namespace Dl
open PySem PySem.Spec PyProof.Rows L2 Mx
local macro_rules | `(tactic| walk_at "d1") => `(tactic| with_reducible first
  | refine ws_seq ?_ | refine ws_asgN ?_ | refine ws_asg ?_ | refine wg_name ?_ | refine ws_ret ?_ | refine ws_nx ?_ | refine ws_expr ?_
  | refine we_op ?_ | refine we_un ?_ | refine we_int ?_ | refine we_str ?_ | refine we_bl ?_ | refine we_non ?_ | refine we_ty ?_ | refine we_if ?_ | refine we_and ?_ | refine we_or ?_ | refine we_not ?_ | refine we_chain ?_
  | refine we_tup ?_ | refine we_lst ?_ | refine we_listRng ?_ | refine we_isi2 ?_ | refine we_cb ?_ | refine we_call ?_ | refine wa_cons ?_ | refine wa_nil ?_ | refine we_sl ?_ | refine wo_no ?_ | refine wo_some ?_
  | refine wt_test ?_ | refine wt_B ?_ | refine wt_and ?_ | refine wt_or ?_ | refine wt_not ?_ | refine wt_yes ?_
  | refine opd_add ?_ | refine opd_sub ?_ | refine opd_lt ?_ | refine opd_le ?_ | refine opd_gt ?_ | refine opd_ge ?_ | refine opd_eqI ?_ | refine opd_neI ?_ | refine opd_eqS ?_ | refine opd_neS ?_ | refine opd_isN ?_ | refine opd_notN ?_
  | refine opd_mulW ?_ ?_ | refine opd_mul ?_ ?_ | refine opd_pow ?_ ?_ | refine opd_fdivW ?_ ?_ | refine opd_modN ?_ ?_
  | refine cad_gcd ?_ | refine cad_int1 ?_ | refine cad_intB ?_ | refine cad_abs ?_ | refine cad_lenT ?_ | refine cad_lenL ?_ | refine cad_lenLL ?_ | refine cad_list ?_ | refine sld_lst ?_ | refine sld_tup ?_ | refine sld_tp ?_
  | refine we_fld ?_ | refine we_meth ?_ | refine we_methR ?_ | refine we_prop ?_ | refine ws_par ?_ | refine ite_t ?_ | refine ite_f ?_ | fail)
local macro_rules | `(tactic| walk_at "d2") => `(tactic| first
  | refine we_var rfl ?_ | (with_reducible refine we_zero (by assumption) ?_) | (with_reducible refine we_layers (by assumption) ?_) | refine opd_ixT rfl ?_ | refine opd_ixP rfl ?_ | (with_reducible refine opd_ixL (atI_rng (by assumption)) ?_) | (with_reducible refine ws_asgN ?_) | fail)
local macro_rules | `(tactic| walk_at "d3") => `(tactic| first | (with_reducible refine ⟨_, rfl, ?_⟩) | (with_reducible refine ⟨sz_ok rfl, ?_⟩) | (with_reducible refine ⟨_, _, rfl, ?_⟩) | fail)
local macro_rules | `(tactic| walk_at "e") => `(tactic| repeat' (first | walk_at "d1" | walk_at "d2" | walk_at "d3" | fail))
local macro_rules | `(tactic| walk_at "d") => `(tactic| repeat' (first | walk_at "d1" | walk_at "d2" | walk_at "d3" | (with_reducible refine ws_if ?_) | fail))
section
variable {P : Program} {w : World} {K : PySem.W.Frag} {T : Tb} {mg : Str → Option Value} {base : Heap}
abbrev N_Exact_joined : List Str := ["self", "values", "found", "value"]
theorem sc_Exact_joined : FnScope N_Exact_joined ["self", "values"] (defScope (mtop 46 0)) := ⟨rfl, rfl, rfl, by decide +kernel, rfl, by decide +kernel, by decide +kernel⟩
def preJoin0 : Pre := fun ds M R => ∃ (d : D) (qs : List Rat), ds = [d, .tup (qs.map ratD)] ∧ (∀ q ∈ qs, Fit q) ∧ (∀ i, Fit ((qs.take i).foldl (· + ·) 0)) ∧ R (ratD (qs.foldl (· + ·) 0)) M
def preJoin : Pre := fun ds M R => ∃ d rest, ds = d :: rest ∧ rest.length ≤ 1000 ∧ preJoin0 [d, .tup rest] M R
theorem ok_Exact_joined (L : Lib K mg) (F : MeAt K "Exact" "joined" "Exact.joined" (mtop 46 0) [] []) (c_plus : Cal P w K T mg base "plus" 2 ["one", "other"] (preRat2 fun p q => ratD (p + q))) : CalMR P w K T mg base "Exact" "joined" 3 preJoin := by
  refine calMR_star (pv := "values") F sc_Exact_joined (fun kV doc pm an cdv ct => StX.bind_star1 (B := fun us => bindArgs (PySem.W.fnOf "joined" "Exact.joined" (defArgs (mtop 46 0)) (defBody (mtop 46 0)) (defScope (mtop 46 0)) .none kV doc pm an cdv ct) ⟨us, []⟩) (fun _ => rfl) (fun _ _ _ => rfl)) fun cdv A outer s H E hr => ⟨_, (pss_cons (ps_set (i := 2) sc_Exact_joined.nd rfl (by first | exact Or.inl rfl | exact Or.inr rfl) (pe_glob (v := .ref (ga K "ZERO")) (by rfl) L.gZERO rfl))
    (pss_cons (ps_for PassesOwn.never rfl (pi_tupK (K := K) (pv 1)) (pg_name (i := 3) sc_Exact_joined.nd rfl (by first | exact Or.inl rfl | exact Or.inr rfl)) (pss_one (ps_set (i := 2) sc_Exact_joined.nd rfl (by first | exact Or.inl rfl | exact Or.inr rfl) (pe_cal c_plus (hr) (by rfl) (pa_cons (pv 2) (pa_cons (pv 3) pa_nil))))))
    (pss_one (ps_ret (pv 2))))), fun ds M R h => ?_⟩
  obtain ⟨d, qs, rfl, hq, hs, k⟩ := h
  walk_at "e"
  refine ws_for (wi_tup (we_var rfl ⟨_, rfl, fun i G M' => M' = M ∧ ∃ x, G = [some d, some (.tup (qs.map ratD)), some (ratD ((qs.take i).foldl (· + ·) 0)), x], ⟨rfl, _, rfl⟩, ?_, ?_⟩))
  · rintro i e G1 M2 hd ⟨rfl, x, rfl⟩
    rw [List.getElem?_map] at hd
    obtain ⟨q, e1, rfl⟩ := Option.map_eq_some_iff.mp hd
    walk_at "e"
    refine ⟨_, q, rfl, hs i, hq q (List.mem_of_getElem? e1), ?_⟩
    walk_at "e"
    refine ⟨rfl, some (ratD q), ?_⟩
    rw [List.take_succ, e1]
    simp
  · rintro G1 M2 ⟨rfl, x, rfl⟩
    show WS K T _ _ _ _
    walk_at "e"
    rw [List.length_map, List.take_length]
    exact k
abbrev N_Exact_least : List Str := ["self", "one", "other"]
theorem sc_Exact_least : FnScope N_Exact_least ["self", "one", "other"] (defScope (mtop 46 1)) := ⟨rfl, rfl, rfl, by decide +kernel, rfl, by decide +kernel, by decide +kernel⟩
def preEx2 (f : Rat → Rat → D) : Pre := fun ds M R => ∃ (d : D) (p q : Rat), ds = [d, ratD p, ratD q] ∧ Fit p ∧ Fit q ∧ R (f p q) M
theorem ok_Exact_least (F : MeAt K "Exact" "least" "Exact.least" (mtop 46 1) [] []) (c_lesser : Cal P w K T mg base "lesser" 2 ["one", "other"] (preRat2 fun p q => ratD (lesR p q))) : CalM P w K T mg base "Exact" "least" 3 ["self", "one", "other"] [] (preEx2 fun p q => ratD (lesR p q)) := by
  refine calM_of F sc_Exact_least (fun ds M R h => by obtain ⟨_, _, _, rfl, _⟩ := h; rfl) (fun _ _ _ _ _ _ us hl => match us, hl with | [_, _, _], _ => rfl) fun f cdv A outer s H E hr => ⟨_, (pss_one (ps_ret (pe_cal c_lesser (hr) (by rfl) (pa_cons (pv 1) (pa_cons (pv 2) pa_nil))))), fun ds M R h => ?_⟩
  obtain ⟨d, p, q, rfl, hp, hq, k⟩ := h
  walk_at "e"
  exact ⟨p, q, rfl, hp, hq, k⟩
abbrev N_Exact_scaled : List Str := ["self", "one", "factor"]
theorem sc_Exact_scaled : FnScope N_Exact_scaled ["self", "one", "factor"] (defScope (mtop 46 2)) := ⟨rfl, rfl, rfl, by decide +kernel, rfl, by decide +kernel, by decide +kernel⟩
theorem ok_Exact_scaled (F : MeAt K "Exact" "scaled" "Exact.scaled" (mtop 46 2) [] []) (c_times : Cal P w K T mg base "times" 2 ["one", "other"] (preRat2 fun p q => ratD (p * q))) : CalM P w K T mg base "Exact" "scaled" 3 ["self", "one", "factor"] [] (preEx2 fun p q => ratD (p * q)) := by
  refine calM_of F sc_Exact_scaled (fun ds M R h => by obtain ⟨_, _, _, rfl, _⟩ := h; rfl) (fun _ _ _ _ _ _ us hl => match us, hl with | [_, _, _], _ => rfl) fun f cdv A outer s H E hr => ⟨_, (pss_one (ps_ret (pe_cal c_times (hr) (by rfl) (pa_cons (pv 1) (pa_cons (pv 2) pa_nil))))), fun ds M R h => ?_⟩
  obtain ⟨d, p, q, rfl, hp, hq, k⟩ := h
  walk_at "e"
  exact ⟨p, q, rfl, hp, hq, k⟩
abbrev N_Exact_fixed : List Str := ["self", "length"]
theorem sc_Exact_fixed : FnScope N_Exact_fixed ["self", "length"] (defScope (mtop 46 3)) := ⟨rfl, rfl, rfl, by decide +kernel, rfl, by decide +kernel, by decide +kernel⟩
def preFixed : Pre := fun ds M R => ∃ (d e : D), ds = [d, e] ∧ R e M
theorem ok_Exact_fixed (F : MeAt K "Exact" "fixed" "Exact.fixed" (mtop 46 3) [] []) : CalM P w K T mg base "Exact" "fixed" 1 ["self", "length"] [] preFixed := by
  refine calM_of F sc_Exact_fixed (fun ds M R h => by obtain ⟨_, _, rfl, _⟩ := h; rfl) (fun _ _ _ _ _ _ us hl => match us, hl with | [_, _], _ => rfl) fun f cdv A outer s H E hr => ⟨_, (pss_one (ps_ret (pv 1))), fun ds M R h => ?_⟩
  obtain ⟨d, e, rfl, k⟩ := h
  walk_at "e"
  exact k
end
end Dl
end
/-! ## P20 -/
section
set_option maxRecDepth 100000
set_option maxHeartbeats 1000000
namespace Dl
open PySem PySem.Spec PyProof.Rows L2 Mx
local macro_rules | `(tactic| walk_at "d1") => `(tactic| with_reducible first
  | refine ws_seq ?_ | refine ws_asgN ?_ | refine ws_asg ?_ | refine wg_name ?_ | refine ws_ret ?_ | refine ws_nx ?_ | refine ws_expr ?_
  | refine we_op ?_ | refine we_un ?_ | refine we_int ?_ | refine we_str ?_ | refine we_bl ?_ | refine we_non ?_ | refine we_ty ?_ | refine we_if ?_ | refine we_and ?_ | refine we_or ?_ | refine we_not ?_ | refine we_chain ?_
  | refine we_tup ?_ | refine we_lst ?_ | refine we_listRng ?_ | refine we_isi2 ?_ | refine we_cb ?_ | refine we_call ?_ | refine wa_cons ?_ | refine wa_nil ?_ | refine we_sl ?_ | refine wo_no ?_ | refine wo_some ?_
  | refine wt_test ?_ | refine wt_B ?_ | refine wt_and ?_ | refine wt_or ?_ | refine wt_not ?_ | refine wt_yes ?_
  | refine opd_add ?_ | refine opd_sub ?_ | refine opd_lt ?_ | refine opd_le ?_ | refine opd_gt ?_ | refine opd_ge ?_ | refine opd_eqI ?_ | refine opd_neI ?_ | refine opd_eqS ?_ | refine opd_neS ?_ | refine opd_isN ?_ | refine opd_notN ?_
  | refine opd_mulW ?_ ?_ | refine opd_mul ?_ ?_ | refine opd_pow ?_ ?_ | refine opd_fdivW ?_ ?_ | refine opd_modN ?_ ?_
  | refine cad_gcd ?_ | refine cad_int1 ?_ | refine cad_intB ?_ | refine cad_abs ?_ | refine cad_lenT ?_ | refine cad_lenL ?_ | refine cad_lenLL ?_ | refine cad_list ?_ | refine sld_lst ?_ | refine sld_tup ?_ | refine sld_tp ?_
  | refine we_fld ?_ | refine we_meth ?_ | refine we_prop ?_ | refine ws_par ?_ | refine ite_t ?_ | refine ite_f ?_ | fail)
local macro_rules | `(tactic| walk_at "d2") => `(tactic| first
  | refine we_var rfl ?_ | (with_reducible refine we_zero (by assumption) ?_) | (with_reducible refine we_layers (by assumption) ?_) | refine opd_ixT rfl ?_ | refine opd_ixP rfl ?_ | (with_reducible refine opd_ixL (atI_rng (by assumption)) ?_) | (with_reducible refine ws_asgN ?_) | fail)
local macro_rules | `(tactic| walk_at "d3") => `(tactic| first | (with_reducible refine ⟨_, rfl, ?_⟩) | (with_reducible refine ⟨sz_ok rfl, ?_⟩) | (with_reducible refine ⟨_, _, rfl, ?_⟩) | fail)
local macro_rules | `(tactic| walk_at "e") => `(tactic| repeat' (first | walk_at "d1" | walk_at "d2" | walk_at "d3" | fail))
local macro_rules | `(tactic| walk_at "d") => `(tactic| repeat' (first | walk_at "d1" | walk_at "d2" | walk_at "d3" | (with_reducible refine ws_if ?_) | fail))
section
variable {P : Program} {w : World} {K : PySem.W.Frag} {T : Tb} {mg : Str → Option Value} {base : Heap}
abbrev N_fits : List Str := ["mark", "value", "layers"]
theorem sc_fits : FnScope N_fits ["mark", "value", "layers"] (defScope (top 43)) := ⟨rfl, rfl, rfl, by decide +kernel, rfl, by decide +kernel, by decide +kernel⟩
def preFits : Pre := fun ds M R => ∃ (mk : Str) (d : D) (k : Nat), ds = [.str mk, d, .int k] ∧ ((mk = "l" ∧ ∃ a, d = .str (lay a) ∧ a < k ∧ k ≤ 2) ∨ (mk = "n" ∧ ∃ s, d = .str s ∧ GoodN s) ∨ (mk = "k" ∧ ∃ q, valD d q ∧ Lv 0 q) ∨ (mk = "q" ∧ ∃ q, valD d q ∧ Lv 0 q ∧ 0 < q)) ∧ R (.bl true) M
theorem ok_fits (L : Lib K mg) (F : FnAt K mg "fits" (top 43)) (c_is_layer : Cal P w K T mg base "is_layer" 1 ["value", "layers"] preLayer) (c_is_name : Cal P w K T mg base "is_name" 1 ["value"] preName)
    (c_is_valued : Cal P w K T mg base "is_valued" 3 ["value"] preValued) (c_ratio_of : Cal P w K T mg base "ratio_of" 3 ["value"] preRatioOf) : Cal P w K T mg base "fits" 4 ["mark", "value", "layers"] preFits := by
  refine cal_of F sc_fits (fun ds M R h => by obtain ⟨_, _, _, rfl, _⟩ := h; rfl) (fun _ _ _ _ _ _ us hl => match us, hl with | [_, _, _], _ => rfl) fun f cdv A outer s H E hr => ⟨_, (pss_cons (ps_if (pt_cmpR op_eq (pv 0) pe_str (nomark _)) (pss_one (ps_ret (pe_cal c_is_layer (hr.mono (by decide)) (by rfl) (pa_cons (pv 1) (pa_cons (pv 2) pa_nil))))) pss_nil)
    (pss_cons (ps_if (pt_cmpR op_eq (pv 0) pe_str (nomark _)) (pss_one (ps_ret (pe_cal c_is_name (hr.mono (by decide)) (by rfl) (pa_cons (pv 1) pa_nil)))) pss_nil)
    (pss_one (ps_ret (pe_and (pe_cal c_is_valued (hr) (by rfl) (pa_cons (pv 1) pa_nil)) (pe_one (pe_cmpR op_ge (pe_ix (ix_tupK (K := K)) (pe_cal c_ratio_of (hr) (by rfl) (pa_cons (pv 1) pa_nil)) pe_int (fun _ _ => rfl)) (pe_callTy call_int1 (by rfl) L.int_ (by decide +kernel) (pa_cons (pe_cmpR op_eq (pv 0) pe_str (nomark _)) pa_nil)) (nomark _)))))))), fun ds M R h => ?_⟩
  obtain ⟨mk, d, k, rfl, h, kk⟩ := h
  rcases h with ⟨rfl, a, rfl, h1, h2⟩ | ⟨rfl, x, rfl, hg⟩ | ⟨rfl, q, hv, hl⟩ | ⟨rfl, q, hv, hl, hp⟩
  · walk_at "d"
    refine ite2 (fun _ => ?_) fun h => absurd rfl h
    walk_at "d"
    exact ⟨a, k, rfl, h1, h2, kk⟩
  · walk_at "d"
    refine ite2 (fun h => absurd h (by decide)) fun _ => ?_
    walk_at "d"
    refine ite2 (fun _ => ?_) fun h => absurd rfl h
    walk_at "d"
    exact ⟨x, rfl, hg, kk⟩
  · walk_at "d"
    refine ite2 (fun h => absurd h (by decide)) fun _ => ?_
    walk_at "d"
    refine ite2 (fun h => absurd h (by decide)) fun _ => ?_
    walk_at "d"
    refine ⟨d, q, rfl, hv, _, rfl, ite_t ?_⟩
    walk_at "d"
    refine ⟨d, q, rfl, hv, ?_⟩
    walk_at "d"
    have hz : decide ((if decide (Str.ofString "k" = Str.ofString "q") = true then (1 : Int) else 0) ≤ q.num) = true := decide_eq_true (by rw [if_neg (by decide)]; exact Rat.num_nonneg.mpr (lv_nonneg hl))
    rw [hz]
    exact kk
  · walk_at "d"
    refine ite2 (fun h => absurd h (by decide)) fun _ => ?_
    walk_at "d"
    refine ite2 (fun h => absurd h (by decide)) fun _ => ?_
    walk_at "d"
    refine ⟨d, q, rfl, hv, _, rfl, ite_t ?_⟩
    walk_at "d"
    refine ⟨d, q, rfl, hv, ?_⟩
    walk_at "d"
    have hz : decide ((if decide (Str.ofString "q" = Str.ofString "q") = true then (1 : Int) else 0) ≤ q.num) = true := decide_eq_true (by rw [if_pos (by decide)]; have h0 := Rat.num_nonneg.mpr (lv_nonneg hl); have h1 : q.num ≠ 0 := fun z => (by rw [Rat.num_eq_zero.mp z] at hp; exact absurd hp (by decide)); omega)
    rw [hz]
    exact kk
end
end Dl
end
/-! ## P21 -/
section
set_option maxRecDepth 100000
set_option maxHeartbeats 1000000
namespace Dl
open PySem PySem.Spec PyProof.Rows L2 Mx
local macro_rules | `(tactic| walk_at "d1") => `(tactic| with_reducible first
  | refine ws_seq ?_ | refine ws_asgN ?_ | refine ws_asg ?_ | refine wg_name ?_ | refine ws_ret ?_ | refine ws_nx ?_ | refine ws_expr ?_
  | refine we_op ?_ | refine we_un ?_ | refine we_int ?_ | refine we_str ?_ | refine we_bl ?_ | refine we_non ?_ | refine we_ty ?_ | refine we_if ?_ | refine we_and ?_ | refine we_or ?_ | refine we_not ?_ | refine we_chain ?_
  | refine we_tup ?_ | refine we_lst ?_ | refine we_listRng ?_ | refine we_isi2 ?_ | refine we_cb ?_ | refine we_call ?_ | refine wa_cons ?_ | refine wa_nil ?_ | refine we_sl ?_ | refine wo_no ?_ | refine wo_some ?_
  | refine wt_test ?_ | refine wt_B ?_ | refine wt_and ?_ | refine wt_or ?_ | refine wt_not ?_ | refine wt_yes ?_
  | refine opd_add ?_ | refine opd_sub ?_ | refine opd_lt ?_ | refine opd_le ?_ | refine opd_gt ?_ | refine opd_ge ?_ | refine opd_eqI ?_ | refine opd_neI ?_ | refine opd_eqS ?_ | refine opd_neS ?_ | refine opd_isN ?_ | refine opd_notN ?_
  | refine opd_mulW ?_ ?_ | refine opd_mul ?_ ?_ | refine opd_pow ?_ ?_ | refine opd_fdivW ?_ ?_ | refine opd_modN ?_ ?_
  | refine cad_gcd ?_ | refine cad_int1 ?_ | refine cad_intB ?_ | refine cad_abs ?_ | refine cad_lenT ?_ | refine cad_lenL ?_ | refine cad_lenLL ?_ | refine cad_list ?_ | refine sld_lst ?_ | refine sld_tup ?_ | refine sld_tp ?_
  | refine we_fld ?_ | refine we_meth ?_ | refine we_prop ?_ | refine ws_par ?_ | refine ite_t ?_ | refine ite_f ?_ | fail)
local macro_rules | `(tactic| walk_at "d2") => `(tactic| first
  | refine we_var rfl ?_ | (with_reducible refine we_zero (by assumption) ?_) | (with_reducible refine we_layers (by assumption) ?_) | refine opd_ixT rfl ?_ | refine opd_ixP rfl ?_ | (with_reducible refine opd_ixL (atI_rng (by assumption)) ?_) | (with_reducible refine ws_asgN ?_) | fail)
local macro_rules | `(tactic| walk_at "d3") => `(tactic| first | (with_reducible refine ⟨_, rfl, ?_⟩) | (with_reducible refine ⟨sz_ok rfl, ?_⟩) | (with_reducible refine ⟨_, _, rfl, ?_⟩) | fail)
local macro_rules | `(tactic| walk_at "e") => `(tactic| repeat' (first | walk_at "d1" | walk_at "d2" | walk_at "d3" | fail))
local macro_rules | `(tactic| walk_at "d") => `(tactic| repeat' (first | walk_at "d1" | walk_at "d2" | walk_at "d3" | (with_reducible refine ws_if ?_) | fail))
section
theorem ite_f' {c : Prop} [Decidable c] {a b : Prop} (h : ¬ c) (x : b) : if c then a else b := by rw [if_neg h]; exact x
variable {P : Program} {w : World} {K : PySem.W.Frag} {T : Tb} {mg : Str → Option Value} {base : Heap}
abbrev N_is_leaf : List Str := ["value", "layers", "word", "rest", "good", "mark", "one"]
theorem sc_is_leaf : FnScope N_is_leaf ["value", "layers"] (defScope (top 44)) := ⟨rfl, rfl, rfl, by decide +kernel, rfl, by decide +kernel, by decide +kernel⟩
def preIsLeaf : Pre := fun ds M R => ∃ (l : Nat) (p : Pl) (s : Stp), ds = [stpD s, .int (p.fs.length : Nat)] ∧ PlOk l p ∧ StpOk p s ∧ R (.bl true) M
/-- a step: its word and what follows -/
def stpW : Stp → Str
  | .road .. => "road" | .ride .. => "ride" | .place .. => "place" | .same .. => "same" | .forget .. => "forget" | .cap .. => "cap" | .scale .. => "scale" | .turn => "turn" | .round .. => "round"
def stpF : Stp → Str
  | .road .. => "lnnk" | .ride .. => "lnnk" | .place .. => "nnkk" | .same .. => "nn" | .forget .. => "n" | .cap .. => "lk" | .scale .. => "lq" | .turn => "" | .round .. => "l"
def stpR : Stp → List D
  | .road a s g v _ | .ride a s g v _ => [.str (lay a), .str s, .str g, v]
  | .place x b v _ v' _ => [.str x, .str b, v, v']
  | .same a b => [.str a, .str b]
  | .forget a => [.str a]
  | .cap a v _ | .scale a v _ => [.str (lay a), v]
  | .turn => []
  | .round a => [.str (lay a)]
theorem stp_eq (s : Stp) : stpD s = .tup (.str (stpW s) :: stpR s) := by cases s <;> rfl
theorem stp_form (s : Stp) : (stpW s, stpF s) ∈ marksOf := by cases s <;> simp [stpW, stpF, marksOf]
theorem stp_len (s : Stp) : (stpF s).cps.size = (stpR s).length ∧ (stpR s).length ≤ 4 ∧ (stpF s).length = (stpR s).length := by cases s <;> exact ⟨rfl, by simp [stpR], rfl⟩
abbrev MarkOk (k : Nat) (mk : Str) (d : D) : Prop := (mk = "l" ∧ ∃ a, d = .str (lay a) ∧ a < k ∧ k ≤ 2) ∨ (mk = "n" ∧ ∃ s, d = .str s ∧ GoodN s) ∨ (mk = "k" ∧ ∃ q, valD d q ∧ Lv 0 q) ∨ (mk = "q" ∧ ∃ q, valD d q ∧ Lv 0 q ∧ 0 < q)
theorem stp_marks {l : Nat} {p : Pl} {st : Stp} (ok : PlOk l p) (hs : StpOk p st) : ∀ x ∈ (stpF st).cps.toList.zip (stpR st), MarkOk p.fs.length ⟨#[x.1]⟩ x.2 := by
  have h2 : p.fs.length ≤ 2 := by rcases ok.t.len with h | h <;> omega
  have nm : ∀ s, p.has s → ∀ k, MarkOk k ⟨#[110]⟩ (.str s) := fun s h k => by
    obtain ⟨q, hq, rfl⟩ := List.mem_map.mp h
    exact .inr (.inl ⟨rfl, _, rfl, ok.m.gd q hq⟩)
  have ly : ∀ a, a < p.fs.length → MarkOk p.fs.length ⟨#[108]⟩ (.str (lay a)) := fun a h => .inl ⟨rfl, a, rfl, h, h2⟩
  have vl : ∀ v q k, valD v q → Lv 0 q → MarkOk k ⟨#[107]⟩ v := fun v q k h h1 => .inr (.inr (.inl ⟨rfl, q, h, h1⟩))
  intro x hx
  cases st with
  | road a s g v q =>
    obtain ⟨h1, h2, h3, h4, h5⟩ := hs
    have hx : x ∈ [((108 : Nat), D.str (lay a)), (110, .str s), (110, .str g), (107, v)] := hx
    simp only [List.mem_cons, List.not_mem_nil, or_false] at hx
    rcases hx with rfl | rfl | rfl | rfl
    · exact ly _ h1
    · exact nm _ h2 _
    · exact nm _ h3 _
    · exact vl _ _ _ h4 h5
  | ride a s g v q =>
    obtain ⟨h1, _, h2, h3, h4, h5⟩ := hs
    have hx : x ∈ [((108 : Nat), D.str (lay a)), (110, .str s), (110, .str g), (107, v)] := hx
    simp only [List.mem_cons, List.not_mem_nil, or_false] at hx
    rcases hx with rfl | rfl | rfl | rfl
    · exact ly _ h1
    · exact nm _ h2 _
    · exact nm _ h3 _
    · exact vl _ _ _ h4 h5
  | place x' b v q v' q' =>
    obtain ⟨h1, _, h3, h4, h5, h6, h7, _⟩ := hs
    have hx : x ∈ [((110 : Nat), D.str x'), (110, .str b), (107, v), (107, v')] := hx
    simp only [List.mem_cons, List.not_mem_nil, or_false] at hx
    rcases hx with rfl | rfl | rfl | rfl
    · exact .inr (.inl ⟨rfl, _, rfl, h1⟩)
    · exact nm _ h3 _
    · exact vl _ _ _ h4 h5
    · exact vl _ _ _ h6 h7
  | same a b =>
    have hx : x ∈ [((110 : Nat), D.str a), (110, .str b)] := hx
    simp only [List.mem_cons, List.not_mem_nil, or_false] at hx
    rcases hx with rfl | rfl
    · exact nm _ hs.1 _
    · exact nm _ hs.2.1 _
  | forget a =>
    have hx : x ∈ [((110 : Nat), D.str a)] := hx
    simp only [List.mem_cons, List.not_mem_nil, or_false] at hx
    subst hx
    exact nm _ hs _
  | cap a v q =>
    have hx : x ∈ [((108 : Nat), D.str (lay a)), (107, v)] := hx
    simp only [List.mem_cons, List.not_mem_nil, or_false] at hx
    rcases hx with rfl | rfl
    · exact ly _ hs.1
    · exact vl _ _ _ hs.2.1 hs.2.2
  | scale a v q =>
    have hx : x ∈ [((108 : Nat), D.str (lay a)), (113, v)] := hx
    simp only [List.mem_cons, List.not_mem_nil, or_false] at hx
    rcases hx with rfl | rfl
    · exact ly _ hs.1
    · exact .inr (.inr (.inr ⟨rfl, q, hs.2.1, hs.2.2.1, hs.2.2.2.1⟩))
  | turn => exact nomatch (show x ∈ ([] : List (Nat × D)) from hx)
  | round a =>
    have hx : x ∈ [((108 : Nat), D.str (lay a))] := hx
    simp only [List.mem_cons, List.not_mem_nil, or_false] at hx
    subst hx
    exact ly _ hs
theorem ok_is_leaf (L : Lib K mg) (FO : Forms K w mg) (F : FnAtD K mg "is_leaf" (top 44) [.int 2]) (c_fits : Cal P w K T mg base "fits" 4 ["mark", "value", "layers"] preFits) : Cal P w K T mg base "is_leaf" 5 ["value", "layers"] preIsLeaf := by
  refine cal_ofF F (by simp) sc_is_leaf (fun ds M R h => by obtain ⟨_, _, _, rfl, _⟩ := h; rfl) (fun _ _ _ _ _ _ _ us its hl h2 => match us, its, hl, h2 with | [_, _], [_], _, _ => ⟨_, rfl, rfl⟩) fun f cdv A outer s H E hr => ⟨_, (pss_cons (ps_if (PW.pt (pw_or (pt_not (pt_val (pe_callB (call_isiK (K := K)) (by rfl) L.isinstance_ (by decide +kernel) (pa_cons (pv 0) (pa_cons (pe_tyn (n := "tuple") (by rfl) L.tuple_ (by decide +kernel)) pa_nil))))) (pw_or (pt_cmpR op_eq (pe_callB (call_len_seqK (K := K)) (by rfl) L.len_ boot_len (pa_cons (pv 0) pa_nil)) pe_int (nomark _)) (pw_or1 (pt_not (pt_val (pe_callB (call_isiK (K := K)) (by rfl) L.isinstance_ (by decide +kernel) (pa_cons (pe_ix (ix_tupK (K := K)) (pv 0) pe_int (fun _ _ => rfl)) (pa_cons (pe_tyn (n := "str") (by rfl) L.str_ (by decide +kernel)) pa_nil))))))))) (pss_one (ps_ret pe_bl)) pss_nil)
    (pss_cons (ps_asg (pv 0) (pg_starT (K := K) (by rfl) (pgs_cons (pg_name (i := 2) sc_is_leaf.nd rfl (by first | exact Or.inl rfl | exact Or.inr rfl)) (pgs_star (pg_name (i := 3) sc_is_leaf.nd rfl (by first | exact Or.inl rfl | exact Or.inr rfl)) pgs_nil))))
    (pss_cons (ps_if (PW.pt (pw_or (pt_cmpR (op_fout FO) (pv 2) (pe_glob (v := .ref (ga K "FORMS")) (by rfl) FO.g rfl) (by rfl)) (pw_or (pt_cmpR op_ne (pe_callB (call_lenK (K := K)) (by rfl) L.len_ boot_len (pa_cons (pe_ix (ix_forms (K := K) (w := w)) (pe_glob (v := .ref (ga K "FORMS")) (by rfl) FO.g rfl) (pv 2) (fun _ _ => rfl)) pa_nil)) (pe_callB (call_len_seqK (K := K)) (by rfl) L.len_ boot_len (pa_cons (pv 3) pa_nil)) (nomark _)) (pw_or1 (PW.pt (pw_and (pt_cmpR op_eq (pv 2) pe_str (nomark _)) (pw_and1 (pt_cmpR op_eq (pv 1) pe_int (nomark _))))))))) (pss_one (ps_ret pe_bl)) pss_nil)
    (pss_cons (ps_set (i := 4) sc_is_leaf.nd rfl (by first | exact Or.inl rfl | exact Or.inr rfl) (pe_callB (cr_allK (K := K) rfl) (by rfl) L.all_ (by decide +kernel) (pa_cons (pe_lc (own := [("mark", 5), ("one", 6)]) (tt := tYes) rfl sc_is_leaf.nd (pi_zipSL (K := K) (by rfl) L.zip_ (pa_cons (pe_ix (ix_forms (K := K) (w := w)) (pe_glob (v := .ref (ga K "FORMS")) (by rfl) FO.g rfl) (pv 2) (fun _ _ => rfl)) (pa_cons (pv 3) pa_nil))) (blkOk_by (own := [("mark", 5), ("one", 6)]) (N := N_is_leaf) rfl) (fun _ _ _ _ _ => (pg_tupK (K := K) (n := 2) (by rfl) (pgs_cons (pg_name (i := 5) sc_is_leaf.nd rfl (by first | exact Or.inl rfl | exact Or.inr rfl)) (pgs_cons (pg_name (i := 6) sc_is_leaf.nd rfl (by first | exact Or.inl rfl | exact Or.inr rfl)) pgs_nil)))) (fun _ _ _ _ _ => pts_nil) (fun _ _ _ _ _ => (pe_cal c_fits (hr) (by rfl) (pa_cons (pv 5) (pa_cons (pv 6) (pa_cons (pv 1) pa_nil)))))) pa_nil)))
    (pss_one (ps_ret (pe_and (pv 4) (pe_one (pe_or (pe_cmpR op_ne (pv 2) pe_str (nomark _)) (pe_one (pe_cmpR op_ne (pe_ix (ix_listK (K := K)) (pv 3) pe_int (fun _ _ => rfl)) (pe_ix (ix_listK (K := K)) (pv 3) pe_int (fun _ _ => rfl)) (nomark _)))))))))))), fun ds M R h => ?_⟩
  obtain ⟨l, p, st, rfl, ok, hs, k⟩ := h
  rw [stp_eq]
  have hlen := stp_len st
  refine ws_seq (ws_ifF ?_ (ws_nx ?_))
  · walk_at "d"
    refine cad_isi (b := true) rfl rfl ⟨_, rfl, ite_f ?_⟩
    walk_at "d"
    refine ite2 (fun h => absurd h (by rw [decide_eq_true_iff]; simp; omega)) fun _ => ?_
    walk_at "d"
    refine opd_ixT (atI_head _ _) ?_
    walk_at "d"
    refine cad_isi (b := true) rfl rfl ⟨_, rfl, rfl, rfl⟩
  · show WS K T _ _ _ _
    walk_at "d"
    refine wg_star (by omega) (wgs_cons ?_)
    walk_at "d"
    refine wgs_cons ?_
    walk_at "d"
    refine wgs_nil ?_
    walk_at "e"
    refine ws_ifF ?_ (ws_nx ?_)
    · walk_at "d"
      refine we_forms ?_
      refine opd_fout FO (stp_form st) ⟨_, rfl, ite_f ?_⟩
      walk_at "d"
      refine we_forms ?_
      walk_at "d"
      refine opd_forms FO (stp_form st) ?_
      walk_at "d"
      refine cad_lenS (small_len (by omega)) ?_
      walk_at "d"
      rw [hlen.2.2]
      refine ite_f' (by simp) ?_
      walk_at "d"
      refine ite2 (fun hw => ?_) fun _ => ⟨rfl, rfl⟩
      walk_at "d"
      have h2 : p.fs.length = 2 := by
        cases st <;> first | exact hs.2.1 | exact absurd (of_decide_eq_true hw) (by simp only [stpW]; decide)
      rw [h2]
      exact ⟨rfl, rfl⟩
    · show WS K T _ _ _ _
      walk_at "e"
      refine we_lcP (wi_zs ?_)
      walk_at "e"
      refine we_forms ?_
      walk_at "e"
      refine opd_forms FO (stp_form st) ?_
      walk_at "e"
      refine ⟨_, _, _, rfl, .inl rfl, hlen.1, Nat × D, (stpF st).cps.toList.zip (stpR st), fun x => .str ⟨#[x.1]⟩, fun x => x.2, fun _ => .bl true, fun _ => true, rfl, by rw [List.length_zip]; omega, fun x hx => ?_, ?_⟩
      · refine wt_yes ⟨rfl, rfl, fun _ => ?_⟩
        walk_at "e"
        exact ⟨_, _, _, rfl, stp_marks ok hs x hx, rfl, rfl⟩
      · walk_at "e"
        rw [show (List.map (fun x => D.bl true) (List.filter (fun x => true) ((stpF st).cps.toList.zip (stpR st)))) = (((stpF st).cps.toList.zip (stpR st)).map fun _ => true).map D.bl from by rw [List.filter_eq_self.mpr (fun _ _ => rfl), List.map_map]; rfl]
        refine cad_all ?_
        rw [show ((((stpF st).cps.toList.zip (stpR st)).map fun _ => true).all id) = true from by simp]
        walk_at "e"
        refine ite2 (fun _ => k) fun hw => ?_
        have e : stpW st = "same" := by
          by_cases h : stpW st = "same"
          · exact h
          · exact absurd (by rw [decide_eq_false h]; rfl) hw
        cases st with
        | same a b =>
          walk_at "e"
          refine opd_ixL (atI_head _ _) ?_
          walk_at "e"
          refine opd_ixL (d := .str b) rfl ?_
          walk_at "e"
          rw [show (!decide (a = b)) = true from by simp [hs.2.2]]
          exact k
        | turn => exact absurd e (by decide)
        | road => exact absurd e (by simp only [stpW]; decide)
        | ride => exact absurd e (by simp only [stpW]; decide)
        | place => exact absurd e (by simp only [stpW]; decide)
        | forget => exact absurd e (by simp only [stpW]; decide)
        | cap => exact absurd e (by simp only [stpW]; decide)
        | scale => exact absurd e (by simp only [stpW]; decide)
        | round => exact absurd e (by simp only [stpW]; decide)
end
end Dl
end
/-! ## P22 -/
section
set_option maxRecDepth 100000
set_option maxHeartbeats 1000000
namespace Dl
open PySem PySem.Spec PyProof.Rows L2 Mx
local macro_rules | `(tactic| walk_at "d1") => `(tactic| with_reducible first
  | refine ws_seq ?_ | refine ws_asgN ?_ | refine ws_asg ?_ | refine wg_name ?_ | refine ws_ret ?_ | refine ws_nx ?_ | refine ws_expr ?_
  | refine we_op ?_ | refine we_un ?_ | refine we_int ?_ | refine we_str ?_ | refine we_bl ?_ | refine we_non ?_ | refine we_ty ?_ | refine we_if ?_ | refine we_and ?_ | refine we_or ?_ | refine we_not ?_ | refine we_chain ?_
  | refine we_tup ?_ | refine we_lst ?_ | refine we_listRng ?_ | refine we_isi2 ?_ | refine we_cb ?_ | refine we_call ?_ | refine wa_cons ?_ | refine wa_nil ?_ | refine we_sl ?_ | refine wo_no ?_ | refine wo_some ?_
  | refine wt_test ?_ | refine wt_B ?_ | refine wt_and ?_ | refine wt_or ?_ | refine wt_not ?_ | refine wt_yes ?_
  | refine opd_add ?_ | refine opd_sub ?_ | refine opd_lt ?_ | refine opd_le ?_ | refine opd_gt ?_ | refine opd_ge ?_ | refine opd_eqI ?_ | refine opd_neI ?_ | refine opd_eqS ?_ | refine opd_neS ?_ | refine opd_isN ?_ | refine opd_notN ?_
  | refine opd_mulW ?_ ?_ | refine opd_mul ?_ ?_ | refine opd_pow ?_ ?_ | refine opd_fdivW ?_ ?_ | refine opd_modN ?_ ?_
  | refine cad_gcd ?_ | refine cad_int1 ?_ | refine cad_intB ?_ | refine cad_abs ?_ | refine cad_lenT ?_ | refine cad_lenL ?_ | refine cad_lenLL ?_ | refine cad_list ?_ | refine sld_lst ?_ | refine sld_tup ?_ | refine sld_tp ?_
  | refine we_fld ?_ | refine we_meth ?_ | refine we_prop ?_ | refine ws_par ?_ | refine ite_t ?_ | refine ite_f ?_ | fail)
local macro_rules | `(tactic| walk_at "d2") => `(tactic| first
  | refine we_var rfl ?_ | (with_reducible refine we_zero (by assumption) ?_) | (with_reducible refine we_layers (by assumption) ?_) | refine opd_ixT rfl ?_ | refine opd_ixP rfl ?_ | (with_reducible refine opd_ixL (atI_rng (by assumption)) ?_) | (with_reducible refine ws_asgN ?_) | fail)
local macro_rules | `(tactic| walk_at "d3") => `(tactic| first | (with_reducible refine ⟨_, rfl, ?_⟩) | (with_reducible refine ⟨sz_ok rfl, ?_⟩) | (with_reducible refine ⟨_, _, rfl, ?_⟩) | fail)
local macro_rules | `(tactic| walk_at "e") => `(tactic| repeat' (first | walk_at "d1" | walk_at "d2" | walk_at "d3" | fail))
local macro_rules | `(tactic| walk_at "d") => `(tactic| repeat' (first | walk_at "d1" | walk_at "d2" | walk_at "d3" | (with_reducible refine ws_if ?_) | fail))
section
variable {P : Program} {w : World} {K : PySem.W.Frag} {T : Tb} {mg : Str → Option Value} {base : Heap}
/-- the names that must be known -/
def stpN : Stp → List Str
  | .road _ s g _ _ | .ride _ s g _ _ => [s, g]
  | .place _ b _ _ _ _ => [b]
  | .same a b => [a, b]
  | .forget a => [a]
  | _ => []
def stpNn (st : Stp) : List D := (((stpF st).cps.toList.zip (stpR st)).filter fun x => decide (x.1 = 110)).map fun x => x.2
theorem stp_names (st : Stp) : (if decide (stpW st = "place") = true then (stpNn st).drop 1 else stpNn st) = (stpN st).map D.str := by cases st <;> rfl
abbrev N_names_in : List Str := ["step", "marks", "found", "mark", "one"]
theorem sc_names_in : FnScope N_names_in ["step"] (defScope (top 45)) := ⟨rfl, rfl, rfl, by decide +kernel, rfl, by decide +kernel, by decide +kernel⟩
def preNamesIn : Pre := fun ds M R => ∃ s : Stp, ds = [stpD s] ∧ R (.lst ((stpN s).map D.str)) M
theorem ok_names_in (L : Lib K mg) (FO : Forms K w mg) (F : FnAt K mg "names_in" (top 45)) : Cal P w K T mg base "names_in" 1 ["step"] preNamesIn := by
  refine cal_of F sc_names_in (fun ds M R h => by obtain ⟨_, rfl, _⟩ := h; rfl) (fun _ _ _ _ _ _ us hl => match us, hl with | [_], _ => rfl) fun f cdv A outer s H E hr => ⟨_, (pss_cons (ps_if (pt_cmpR op_eq (pe_ix (ix_tupK (K := K)) (pv 0) pe_int (fun _ _ => rfl)) pe_str (nomark _)) (pss_one (ps_ret (pe_lst (pa_cons (pe_ix (ix_tupK (K := K)) (pv 0) pe_int (fun _ _ => rfl)) (pa_cons (pe_ix (ix_tupK (K := K)) (pv 0) pe_int (fun _ _ => rfl)) pa_nil))))) pss_nil)
    (pss_cons (ps_set (i := 1) sc_names_in.nd rfl (by first | exact Or.inl rfl | exact Or.inr rfl) (pe_ix (ix_forms (K := K) (w := w)) (pe_glob (v := .ref (ga K "FORMS")) (by rfl) FO.g rfl) (pe_ix (ix_tupK (K := K)) (pv 0) pe_int (fun _ _ => rfl)) (fun _ _ => rfl)))
    (pss_cons (ps_setLc (i := 2) (own := [("mark", 3), ("one", 4)]) rfl sc_names_in.nd rfl rfl (sw_true rfl rfl rfl (by decide +kernel)) (pi_zipSL (K := K) (by rfl) L.zip_ (pa_cons (pv 1) (pa_cons (pe_slice (sl_tupAK (K := K)) (pv 0) (po_some pe_int) po_none) pa_nil))) (blkOk_by (own := [("mark", 3), ("one", 4)]) (N := N_names_in) rfl) (fun _ _ _ _ _ => (pg_tupK (K := K) (n := 2) (by rfl) (pgs_cons (pg_name (i := 3) sc_names_in.nd rfl (by first | exact Or.inl rfl | exact Or.inr rfl)) (pgs_cons (pg_name (i := 4) sc_names_in.nd rfl (by first | exact Or.inl rfl | exact Or.inr rfl)) pgs_nil)))) (fun _ _ _ _ _ => (pts_one (pt_cmpR op_eq (pv 3) pe_str (nomark _)))) (fun _ _ _ _ _ => (pv 4)))
    (pss_one (ps_ret (pe_ifExp (pt_cmpR op_eq (pe_ix (ix_tupK (K := K)) (pv 0) pe_int (fun _ _ => rfl)) pe_str (nomark _)) (pe_slice (sl_listK (K := K)) (pv 2) (po_some pe_int) po_none) (pv 2))))))), fun ds M R h => ?_⟩
  obtain ⟨st, rfl, k⟩ := h
  rw [stp_eq]
  have hlen := stp_len st
  have hif : ¬ stpW st = "if" := by cases st <;> (first | decide | (simp only [stpW]; decide))
  refine ws_seq (ws_ifF ?_ (ws_nx ?_))
  · walk_at "e"
    refine opd_ixT (atI_head _ _) ?_
    walk_at "e"
    exact ⟨decide_eq_false hif, rfl⟩
  · show WS K T _ _ _ _
    walk_at "e"
    refine we_forms ?_
    walk_at "e"
    refine opd_ixT (atI_head _ _) ?_
    refine opd_forms FO (stp_form st) ?_
    walk_at "e"
    refine we_lcP (wi_zs ?_)
    walk_at "e"
    have ec : cutD (D.str (stpW st) :: stpR st) (some 1) none = stpR st := by cases st <;> rfl
    refine ⟨_, _, _, rfl, .inr rfl, by rw [ec]; exact hlen.1, Nat × D, (stpF st).cps.toList.zip (stpR st), fun x => .str ⟨#[x.1]⟩, fun x => x.2, fun x => x.2, fun x => decide (x.1 = 110), by rw [ec], by rw [List.length_zip]; omega, fun x hx => ?_, ?_⟩
    · walk_at "e"
      refine ⟨?_, rfl, fun _ => ?_⟩
      · show decide ((⟨#[x.1]⟩ : Str) = "n") = decide (x.1 = 110)
        by_cases hx1 : x.1 = 110
        · rw [decide_eq_true hx1, hx1]; rfl
        · rw [decide_eq_false hx1, decide_eq_false]
          intro h
          have h2 := congrArg (fun z : Str => z.cps.toList) h
          exact hx1 (List.cons.inj (show [x.1] = [110] from h2)).1
      · walk_at "e"
        exact ⟨rfl, rfl⟩
    · walk_at "e"
      refine opd_ixT (atI_head _ _) ?_
      walk_at "e"
      have en := stp_names st
      refine ite2 (fun hp => ?_) fun hp => ?_
      · rw [if_pos hp] at en
        walk_at "e"
        have es : cutD (stpNn st) (some 1) none = (stpNn st).drop 1 := by cases st <;> rfl
        rw [← en, ← es] at k
        exact k
      · rw [if_neg hp] at en
        walk_at "e"
        rw [← en] at k
        exact k
end
end Dl
end
/-! ## P23 -/
section
set_option maxRecDepth 100000
set_option maxHeartbeats 1000000
namespace Dl
open PySem PySem.Spec PyProof.Rows L2 Mx
local macro_rules | `(tactic| walk_at "d1") => `(tactic| with_reducible first
  | refine ws_seq ?_ | refine ws_asgN ?_ | refine ws_asg ?_ | refine wg_name ?_ | refine ws_ret ?_ | refine ws_nx ?_ | refine ws_expr ?_
  | refine we_op ?_ | refine we_un ?_ | refine we_int ?_ | refine we_str ?_ | refine we_bl ?_ | refine we_non ?_ | refine we_ty ?_ | refine we_if ?_ | refine we_and ?_ | refine we_or ?_ | refine we_not ?_ | refine we_chain ?_
  | refine we_tup ?_ | refine we_lst ?_ | refine we_listRng ?_ | refine we_isi2 ?_ | refine we_cb ?_ | refine we_call ?_ | refine wa_cons ?_ | refine wa_nil ?_ | refine we_sl ?_ | refine wo_no ?_ | refine wo_some ?_
  | refine wt_test ?_ | refine wt_B ?_ | refine wt_and ?_ | refine wt_or ?_ | refine wt_not ?_ | refine wt_yes ?_
  | refine opd_add ?_ | refine opd_sub ?_ | refine opd_lt ?_ | refine opd_le ?_ | refine opd_gt ?_ | refine opd_ge ?_ | refine opd_eqI ?_ | refine opd_neI ?_ | refine opd_eqS ?_ | refine opd_neS ?_ | refine opd_isN ?_ | refine opd_notN ?_
  | refine opd_mulW ?_ ?_ | refine opd_mul ?_ ?_ | refine opd_pow ?_ ?_ | refine opd_fdivW ?_ ?_ | refine opd_modN ?_ ?_
  | refine cad_gcd ?_ | refine cad_int1 ?_ | refine cad_intB ?_ | refine cad_abs ?_ | refine cad_lenT ?_ | refine cad_lenL ?_ | refine cad_lenLL ?_ | refine cad_list ?_ | refine sld_lst ?_ | refine sld_tup ?_ | refine sld_tp ?_
  | refine we_fld ?_ | refine we_meth ?_ | refine we_methR ?_ | refine we_prop ?_ | refine ws_par ?_ | refine ite_t ?_ | refine ite_f ?_ | fail)
local macro_rules | `(tactic| walk_at "d2") => `(tactic| first
  | refine we_var rfl ?_ | (with_reducible refine we_zero (by assumption) ?_) | (with_reducible refine we_layers (by assumption) ?_) | refine opd_ixT rfl ?_ | refine opd_ixP rfl ?_ | (with_reducible refine opd_ixL (atI_rng (by assumption)) ?_) | (with_reducible refine ws_asgN ?_) | fail)
local macro_rules | `(tactic| walk_at "d3") => `(tactic| first | (with_reducible refine ⟨_, rfl, ?_⟩) | (with_reducible refine ⟨sz_ok rfl, ?_⟩) | (with_reducible refine ⟨_, _, rfl, ?_⟩) | fail)
local macro_rules | `(tactic| walk_at "e") => `(tactic| repeat' (first | walk_at "d1" | walk_at "d2" | walk_at "d3" | fail))
local macro_rules | `(tactic| walk_at "d") => `(tactic| repeat' (first | walk_at "d1" | walk_at "d2" | walk_at "d3" | (with_reducible refine ws_if ?_) | fail))
section
variable {P : Program} {w : World} {K : PySem.W.Frag} {T : Tb} {mg : Str → Option Value} {base : Heap}
abbrev CJoin (P : Program) (w : World) (K : PySem.W.Frag) (T : Tb) (mg : Str → Option Value) (base : Heap) : Prop := CalMR P w K T mg base "Exact" "joined" 3 preJoin
abbrev CLeast (P : Program) (w : World) (K : PySem.W.Frag) (T : Tb) (mg : Str → Option Value) (base : Heap) : Prop := CalM P w K T mg base "Exact" "least" 3 ["self", "one", "other"] [] (preEx2 fun p q => ratD (lesR p q))
abbrev CScaled (P : Program) (w : World) (K : PySem.W.Frag) (T : Tb) (mg : Str → Option Value) (base : Heap) : Prop := CalM P w K T mg base "Exact" "scaled" 3 ["self", "one", "factor"] [] (preEx2 fun p q => ratD (p * q))
abbrev CFixed (P : Program) (w : World) (K : PySem.W.Frag) (T : Tb) (mg : Str → Option Value) (base : Heap) : Prop := CalM P w K T mg base "Exact" "fixed" 1 ["self", "length"] [] preFixed
abbrev N_Ways__init_ : List Str := ["self", "reckoner", "spots", "tables"]
theorem sc_Ways__init_ : FnScope N_Ways__init_ ["self", "reckoner", "spots", "tables"] (defScope (mtop 47 0)) := ⟨rfl, rfl, rfl, by decide +kernel, rfl, by decide +kernel, by decide +kernel⟩
def preWInit : Pre := fun ds M R => ∃ (x : Addr) (M1 : MS) (a b c : D), ds = [.ptr x, a, b, c] ∧ M = addM M1 x (.ins (ga K "Ways") [] []) ∧ x ∉ domM M1 ∧ M1.lk = [] ∧ R .non (addM M1 x (.ins (ga K "Ways") wyN [a, b, c]))
theorem ok_Ways_init (WF : WyFacts K) (F : MeAt K "Ways" "__init__" "Ways.__init__" (mtop 47 0) [] []) : CalM P w K T mg base "Ways" "__init__" 1 ["self", "reckoner", "spots", "tables"] [] (preWInit (K := K)) := by
  refine calM_of F sc_Ways__init_ (fun ds M R h => by obtain ⟨_, _, _, _, _, rfl, _⟩ := h; rfl) (fun _ _ _ _ _ _ us hl => match us, hl with | [_, _, _, _], _ => rfl) fun f cdv A outer s H E hr => ⟨_, (pss_cons (ps_fld (pv 0) (pv 1) rfl)
    (pss_cons (ps_fld (pv 0) (pv 2) rfl)
    (pss_one (ps_fld (pv 0) (pv 3) rfl)))), fun ds M R h => ?_⟩
  obtain ⟨x, M1, a, b, c, rfl, rfl, hx, hlk, k⟩ := h
  have nl : ∀ y, x ∉ (addM M1 x y).lk := fun y => by show x ∉ M1.lk; rw [hlk]; simp
  refine ws_seq (ws_fldN (we_var rfl (we_var rfl ⟨x, _, _, _, rfl, getM_add, WF.cls, WF.r, by decide, by decide, nl _, ?_⟩)))
  rw [setM_add hx]
  refine ws_seq (ws_fldN (we_var rfl (we_var rfl ⟨x, _, _, _, rfl, getM_add, WF.cls, WF.s, by decide, by decide, nl _, ?_⟩)))
  rw [setM_add hx]
  refine ws_fldN (we_var rfl (we_var rfl ⟨x, _, _, _, rfl, getM_add, WF.cls, WF.t, by decide, by decide, nl _, ?_⟩))
  rw [setM_add hx]
  exact k
/-- the ways of tables fs of n places, above what stood in M0 -/
def WaysAt (K : PySem.W.Frag) (M0 M : MS) (w n : Nat) (fs : List Tab) : Prop := ∃ td ts, WaysX K M0 M w td ts n fs.length (fun a => TabD n (fs.getD a fun _ _ => 0))
theorem fsd_set {fs : List Tab} {a b : Nat} {g : Tab} (h : b ≠ a) : (fs.set a g).getD b (fun _ _ => 0) = fs.getD b fun _ _ => 0 := by
  rw [List.getD_eq_getElem?_getD, List.getD_eq_getElem?_getD, List.getElem?_set_ne (fun z => h z.symm)]
theorem fsd_self {fs : List Tab} {a : Nat} {g : Tab} (h : a < fs.length) : (fs.set a g).getD a (fun _ _ => 0) = g := by
  rw [List.getD_eq_getElem?_getD, List.getElem?_set_self h]
  rfl
theorem WaysX.at_set {M0 M : MS} {w td : Addr} {ts : List Addr} {n : Nat} {fs : List Tab} {a : Nat} {g : Tab} (ha : a < fs.length) (x : WaysX K M0 M w td ts n fs.length (fun b ks ds => if b = a then TabD n g ks ds else TabD n (fs.getD b fun _ _ => 0) ks ds)) : WaysAt K M0 M w n (fs.set a g) := by
  refine ⟨td, ts, ?_⟩
  rw [List.length_set]
  refine x.imp fun b hb ks ds h => ?_
  by_cases e : b = a
  · subst e
    rw [if_pos rfl] at h
    rw [fsd_self ha]
    exact h
  · rw [if_neg e] at h
    rw [fsd_set e]
    exact h
theorem fit_sum {l : Nat} {a b c : Rat} (h : l ≤ 28) (ha : Lv l a) (hb : Lv l b) (hc : Lv l c) : ∀ i, Fit (([a, b, c].take i).foldl (· + ·) 0)
  | 0 => fit_zero
  | 1 => by
    show Fit (0 + a)
    rw [Rat.zero_add]
    exact lv_fit ha (by omega)
  | 2 => by
    show Fit (0 + a + b)
    rw [Rat.zero_add]
    exact lv_fit (lv_add ha hb) (by omega)
  | n + 3 => by
    show Fit (List.foldl (· + ·) (0 + a + b + c) (List.take n []))
    rw [List.take_nil, Rat.zero_add]
    exact lv_fit (lv_add (lv_add ha hb) (lv_succ hc)) (by omega)
abbrev N_Ways_road : List Str := ["self", "layer", "start", "goal", "length", "make", "table", "fresh", "one", "other", "long"]
theorem sc_Ways_road : FnScope N_Ways_road ["self", "layer", "start", "goal", "length"] (defScope (mtop 47 1)) := ⟨rfl, rfl, rfl, by decide +kernel, rfl, by decide +kernel, by decide +kernel⟩
def preRoad : Pre := fun ds M R => ∃ (M0 : MS) (w : Addr) (n l a s g : Nat) (q : Rat) (fs : List Tab), ds = [.ptr w, .str (lay a), .int s, .int g, ratD q] ∧ WaysAt K M0 M w n fs ∧ a < fs.length ∧ n ≤ 9 ∧ s < n ∧ g < n ∧ l ≤ 28 ∧ LvM l n (fs.getD a fun _ _ => 0) ∧ Met n (fs.getD a fun _ _ => 0) ∧ Lv l q ∧
  ∀ M', WaysAt K M0 M' w n (fs.set a (roadT s g q (fs.getD a fun _ _ => 0))) → R .non M'
theorem ok_Ways_road (L : Lib K mg) (WF : WyFacts K) (F : MeAt K "Ways" "road" "Ways.road" (mtop 47 1) [] []) (c_Exact_joined : CJoin P w K T mg base) (c_Exact_least : CLeast P w K T mg base) : CalM P w K T mg base "Ways" "road" 4 ["self", "layer", "start", "goal", "length"] [] (preRoad (K := K)) := by
  refine calM_of F sc_Ways_road (fun ds M R h => by obtain ⟨_, _, _, _, _, _, _, _, _, rfl, _⟩ := h; rfl) (fun _ _ _ _ _ _ us hl => match us, hl with | [_, _, _, _, _], _ => rfl) fun f cdv A outer s H E hr => ⟨_, (pss_cons (ps_par (i := 5) (j := 6) (by rfl) sc_Ways_road.nd rfl rfl (by decide) rfl rfl (pa_cons (pe_fldK (K := K) (pv 0) rfl) (pa_cons (pe_dget (hu_of hr) (pe_fldK (K := K) (pv 0) rfl) (pv 1) (fun _ _ => rfl)) pa_nil)) (by rfl))
    (pss_cons (ps_set (i := 7) sc_Ways_road.nd rfl (by first | exact Or.inl rfl | exact Or.inr rfl) pe_dnewT)
    (pss_cons (ps_for PassesOwn.never rfl (pi_listK (K := K) (pe_fldK (K := K) (pv 0) rfl)) (pg_name (i := 8) sc_Ways_road.nd rfl (by first | exact Or.inl rfl | exact Or.inr rfl)) (pss_one (ps_for PassesOwn.never rfl (pi_listK (K := K) (pe_fldK (K := K) (pv 0) rfl)) (pg_name (i := 9) sc_Ways_road.nd rfl (by first | exact Or.inl rfl | exact Or.inr rfl)) (pss_one (ps_if (pt_cmpR op_ne (pv 8) (pv 9) (nomark _)) (pss_cons (ps_set (i := 10) sc_Ways_road.nd rfl (by first | exact Or.inl rfl | exact Or.inr rfl) (pe_calMR c_Exact_joined (pv 5) (hr) (pa_cons (pe_dget (hu_of hr) (pv 6) (pe_tup (pa_cons (pv 8) (pa_cons (pv 2) pa_nil))) (fun _ _ => rfl)) (pa_cons (pv 4) (pa_cons (pe_dget (hu_of hr) (pv 6) (pe_tup (pa_cons (pv 3) (pa_cons (pv 9) pa_nil))) (fun _ _ => rfl)) pa_nil)))))
    (pss_one (ps_dput (hu_of hr) (pv 7) (pe_tup (pa_cons (pv 8) (pa_cons (pv 9) pa_nil))) (pe_calM c_Exact_least (pv 5) (hr) (pa_cons (pe_dget (hu_of hr) (pv 6) (pe_tup (pa_cons (pv 8) (pa_cons (pv 9) pa_nil))) (fun _ _ => rfl)) (pa_cons (pv 10) pa_nil))) rfl))) (pss_one (ps_dput (hu_of hr) (pv 7) (pe_tup (pa_cons (pv 8) (pa_cons (pv 9) pa_nil))) (pe_dget (hu_of hr) (pv 6) (pe_tup (pa_cons (pv 8) (pa_cons (pv 9) pa_nil))) (fun _ _ => rfl)) rfl)))))))
    (pss_one (ps_dput (hu_of hr) (pe_fldK (K := K) (pv 0) rfl) (pv 1) (pv 7) rfl))))), fun ds M R h => ?_⟩
  obtain ⟨M0, w, n, l, a, s, g, q, fs, rfl, ⟨td, ts, x⟩, ha, n9, hs, hg, hl, hlv, hmet, hq, k⟩ := h
  generalize hf : fs.getD a (fun _ _ => 0) = f at hlv hmet k
  obtain ⟨t, ks0, ds0, et, gt, tab, dv⟩ := x.at_ ha
  rw [hf] at tab
  have hqn := lv_nonneg hq
  refine ws_seq (ws_par (wa_cons (we_wreck WF x rfl (wa_cons (we_wtab WF x rfl rfl dv (wa_nil ⟨_, _, rfl, ?_⟩))))))
  show WS K T _ _ _ _
  refine ws_seq (ws_asgN (we_dnT fun p hp => ?_))
  show WS K T _ _ _ _
  have gt' : ∀ y, getM (addM M p y) t = some (.dT ks0 ds0) := fun y => by rw [getM_addN (getM_ne gt hp)]; exact gt
  refine ws_seq (ws_for (wi_list (we_wspots WF (x.add hp _) rfl ⟨_, rfl, fun i G M' => ∃ ks acc u v z, PartD n (roadT s g q f) i 0 ks acc ∧ M' = addM M p (.dT ks acc) ∧ G = [some (.ptr w), some (.str (lay a)), some (.int s), some (.int g), some (ratD q), some (exD K), some (.ptr t), some (.ptr p), u, v, z], ⟨_, _, _, _, _, part_zero _ _, rfl, rfl⟩, ?_, ?_⟩)))
  · rintro i d G1 M2 hd ⟨ks, acc, u, v, z, pd, rfl, rfl⟩
    obtain ⟨rfl, hi⟩ := intsD_get hd
    refine wg_name ?_
    show WS K T _ _ _ _
    refine ws_for (wi_list (we_wspots WF (x.add hp _) rfl ⟨_, rfl, fun j G M' => ∃ ks acc v z, PartD n (roadT s g q f) i j ks acc ∧ M' = addM M p (.dT ks acc) ∧ G = [some (.ptr w), some (.str (lay a)), some (.int s), some (.int g), some (ratD q), some (exD K), some (.ptr t), some (.ptr p), some (.int (i : Nat)), v, z], ⟨_, _, _, _, pd, rfl, rfl⟩, ?_, ?_⟩))
    · rintro j d G1 M2 hd ⟨ks, acc, v, z, pd, rfl, rfl⟩
      obtain ⟨rfl, hj⟩ := intsD_get hd
      obtain ⟨hn, pd'⟩ := part_step pd hi hj
      have hz : ks.length < 1000 := by
        have := pd.sz
        have : i * n ≤ 9 * 9 := Nat.mul_le_mul (by omega) n9
        omega
      refine wg_name ?_
      show WS K T _ _ _ _
      refine ws_if (wt_test (we_op (we_var rfl (we_var rfl (opd_neI ⟨_, rfl, ?_⟩)))))
      by_cases e : i = j
      · rw [decide_eq_true (show (((i : Nat) : Int) = ((j : Nat) : Int)) from by omega)]
        refine ite_f ?_
        subst e
        refine ws_cell (t := p) rfl rfl rfl (we_cell (t := t) rfl (gt' _) rfl rfl (tab.val i hi i hi) ⟨ks, acc, getM_add, hn, hz, x.lk, ?_⟩)
        rw [← road_dg hmet hs hg hqn hi, setM_add hp]
        exact ⟨_, _, _, _, pd', rfl, rfl⟩
      · rw [decide_eq_false (show ¬ (((i : Nat) : Int) = ((j : Nat) : Int)) from by omega)]
        refine ite_t ?_
        have c1 := hlv i hi s hs
        have c2 := hlv g hg j hj
        refine ws_seq (ws_asgN (we_methR (we_var rfl ⟨_, _, .inl rfl, by simp, wa_cons (we_cell (t := t) rfl (gt' _) rfl rfl (tab.val i hi s hs) (wa_cons (we_var rfl (wa_cons (we_cell (t := t) rfl (gt' _) rfl rfl (tab.val g hg j hj) (wa_nil ⟨_, _, rfl, by simp, _, [f i s, q, f g j], rfl, ?_, ?_, ?_⟩))))))⟩)))
        · intro r hr
          simp only [List.mem_cons, List.not_mem_nil, or_false] at hr
          rcases hr with rfl | rfl | rfl
          · exact lv_fit c1 (by omega)
          · exact lv_fit hq (by omega)
          · exact lv_fit c2 (by omega)
        · exact fit_sum hl c1 hq c2
        · show WS K T _ _ _ _
          refine ws_cell (t := p) rfl rfl rfl (we_meth (we_var rfl ⟨_, _, .inl rfl, by simp, wa_cons (we_cell (t := t) rfl (gt' _) rfl rfl (tab.val i hi j hj) (wa_cons (we_var rfl (wa_nil ⟨_, f i j, _, rfl, ?_, ?_, ks, acc, getM_add, hn, hz, x.lk, ?_⟩))))⟩))
          · exact lv_fit (hlv i hi j hj) (by omega)
          · exact fit_sum hl c1 hq c2 3
          · rw [setM_add hp]
            have e2 : lesR (f i j) ([f i s, q, f g j].foldl (· + ·) 0) = roadT s g q f i j := by
              unfold roadT
              show lesR (f i j) (0 + f i s + q + f g j) = _
              rw [Rat.zero_add]
            rw [← e2] at pd'
            exact ⟨_, _, _, _, pd', rfl, rfl⟩
    · rintro G1 M2 ⟨ks, acc, v, z, pd, rfl, rfl⟩
      rw [intsD_len] at pd
      exact ⟨_, _, _, _, _, part_row pd, rfl, rfl⟩
  · rintro G1 M2 ⟨ks, acc, u, v, z, pd, rfl, rfl⟩
    rw [intsD_len] at pd
    show WS K T _ _ _ _
    refine ws_wput WF (k := fs.length) rfl rfl ha (we_var rfl ⟨p, M, ks, acc, _, (fun b ks ds => if b = a then TabD n (roadT s g q f) ks ds else TabD n (fs.getD b fun _ _ => 0) ks ds), rfl, rfl, hp, x, fun b ks ds hb h => ?_, ?_, fun M3 ts' x3 => ?_⟩)
    · show if b = a then _ else _
      rw [if_neg hb]
      exact h
    · show if a = a then _ else _
      rw [if_pos rfl]
      exact part_all pd
    · exact k _ (x3.at_set ha)
end
end Dl
end
/-! ## P24 -/
section
set_option maxRecDepth 100000
set_option maxHeartbeats 1000000
namespace Dl
open PySem PySem.Spec PyProof.Rows L2 Mx
local macro_rules | `(tactic| walk_at "d1") => `(tactic| with_reducible first
  | refine ws_seq ?_ | refine ws_asgN ?_ | refine ws_asg ?_ | refine wg_name ?_ | refine ws_ret ?_ | refine ws_nx ?_ | refine ws_expr ?_
  | refine we_op ?_ | refine we_un ?_ | refine we_int ?_ | refine we_str ?_ | refine we_bl ?_ | refine we_non ?_ | refine we_ty ?_ | refine we_if ?_ | refine we_and ?_ | refine we_or ?_ | refine we_not ?_ | refine we_chain ?_
  | refine we_tup ?_ | refine we_lst ?_ | refine we_listRng ?_ | refine we_isi2 ?_ | refine we_cb ?_ | refine we_call ?_ | refine wa_cons ?_ | refine wa_nil ?_ | refine we_sl ?_ | refine wo_no ?_ | refine wo_some ?_
  | refine wt_test ?_ | refine wt_B ?_ | refine wt_and ?_ | refine wt_or ?_ | refine wt_not ?_ | refine wt_yes ?_
  | refine opd_add ?_ | refine opd_sub ?_ | refine opd_lt ?_ | refine opd_le ?_ | refine opd_gt ?_ | refine opd_ge ?_ | refine opd_eqI ?_ | refine opd_neI ?_ | refine opd_eqS ?_ | refine opd_neS ?_ | refine opd_isN ?_ | refine opd_notN ?_
  | refine opd_mulW ?_ ?_ | refine opd_mul ?_ ?_ | refine opd_pow ?_ ?_ | refine opd_fdivW ?_ ?_ | refine opd_modN ?_ ?_
  | refine cad_gcd ?_ | refine cad_int1 ?_ | refine cad_intB ?_ | refine cad_abs ?_ | refine cad_lenT ?_ | refine cad_lenL ?_ | refine cad_lenLL ?_ | refine cad_list ?_ | refine sld_lst ?_ | refine sld_tup ?_ | refine sld_tp ?_
  | refine we_fld ?_ | refine we_meth ?_ | refine we_methR ?_ | refine we_prop ?_ | refine ws_par ?_ | refine ite_t ?_ | refine ite_f ?_ | fail)
local macro_rules | `(tactic| walk_at "d2") => `(tactic| first
  | refine we_var rfl ?_ | (with_reducible refine we_zero (by assumption) ?_) | (with_reducible refine we_layers (by assumption) ?_) | refine opd_ixT rfl ?_ | refine opd_ixP rfl ?_ | (with_reducible refine opd_ixL (atI_rng (by assumption)) ?_) | (with_reducible refine ws_asgN ?_) | fail)
local macro_rules | `(tactic| walk_at "d3") => `(tactic| first | (with_reducible refine ⟨_, rfl, ?_⟩) | (with_reducible refine ⟨sz_ok rfl, ?_⟩) | (with_reducible refine ⟨_, _, rfl, ?_⟩) | fail)
local macro_rules | `(tactic| walk_at "e") => `(tactic| repeat' (first | walk_at "d1" | walk_at "d2" | walk_at "d3" | fail))
local macro_rules | `(tactic| walk_at "d") => `(tactic| repeat' (first | walk_at "d1" | walk_at "d2" | walk_at "d3" | (with_reducible refine ws_if ?_) | fail))
section
variable {P : Program} {w : World} {K : PySem.W.Frag} {T : Tb} {mg : Str → Option Value} {base : Heap}
theorem fsd_map {F : Tab → Tab} {fs : List Tab} {a : Nat} (h : a < fs.length) : (fs.map F).getD a (fun _ _ => 0) = F (fs.getD a fun _ _ => 0) := by
  rw [List.getD_eq_getElem?_getD, List.getD_eq_getElem?_getD, List.getElem?_map, List.getElem?_eq_getElem h]
  rfl
theorem lays_get {k i : Nat} {d : D} (h : ((layK k).map keyD)[i]? = some d) : d = .str (lay i) ∧ i < k := by
  unfold layK at h
  rw [List.getElem?_map, List.getElem?_map] at h
  obtain ⟨y, h1, rfl⟩ := Option.map_eq_some_iff.mp h
  obtain ⟨j, h2, rfl⟩ := Option.map_eq_some_iff.mp h1
  obtain ⟨hl, e⟩ := List.getElem?_eq_some_iff.mp h2
  rw [List.getElem_range] at e
  rw [List.length_range] at hl
  subst e
  exact ⟨rfl, hl⟩
/-- list(self.tables) -/
theorem we_wkeys (WF : WyFacts K) {M0 M : MS} {v td : Addr} {ts : List Addr} {n k : Nat} {TT : TTb} {G : Sl} {R : D → MS → Prop} (x : WaysX K M0 M v td ts n k TT) {i : Nat} (h : G[i]? = some (some (.ptr v))) (q : R (.lst ((layK k).map keyD)) M) :
    WE K T (tCB (fun xs H Q => ∃ (a : Addr) (kvs : List (Key × V)), xs = [V.ref a] ∧ Rd H a (.dK kvs) ∧ ∀ p, H p = none → Q (.ref p) (upd H p (.lst (kvs.map fun kv => kV kv.1)))) (tCons (tFld K (tVar i) "tables") tNil)) G M R :=
  we_cb (wa_cons (we_wtabs WF x h (wa_nil (cad_listD (.inr ⟨rfl, x.ht⟩) q))))
abbrev N_Ways_turn : List Str := ["self", "layer", "table", "one", "other"]
theorem sc_Ways_turn : FnScope N_Ways_turn ["self"] (defScope (mtop 47 3)) := ⟨rfl, rfl, rfl, by decide +kernel, rfl, by decide +kernel, by decide +kernel⟩
def preTurn : Pre := fun ds M R => ∃ (M0 : MS) (w n : Nat) (fs : List Tab), ds = [.ptr w] ∧ WaysAt K M0 M w n fs ∧ n ≤ 9 ∧ ∀ M', WaysAt K M0 M' w n (fs.map turnT) → R .non M'
theorem tab_nn {n : Nat} {f : Tab} {ks : List (List Key)} {ds : List D} (t : TabD n f ks ds) (h : n ≤ 9) : ks.length ≤ 81 := Nat.le_trans t.sz (Nat.mul_le_mul h h)
theorem lock_free {M : MS} {q : Addr} (h : M.lk = []) (p : Addr) (y : MD) : freeM (addM (lockM M q) p y) = addM M p y := by
  cases M
  subst h
  rfl
theorem ok_Ways_turn (L : Lib K mg) (WF : WyFacts K) (F : MeAt K "Ways" "turn" "Ways.turn" (mtop 47 3) [] []) : CalM P w K T mg base "Ways" "turn" 1 ["self"] [] (preTurn (K := K)) := by
  refine calM_of F sc_Ways_turn (fun ds M R h => by obtain ⟨_, _, _, _, rfl, _⟩ := h; rfl) (fun _ _ _ _ _ _ us hl => match us, hl with | [_], _ => rfl) fun f cdv A outer s H E hr => ⟨_, (pss_one (ps_for PassesOwn.never rfl (pi_listK (K := K) (pe_callTy (call_listD rfl) (by rfl) L.list_ (by decide +kernel) (pa_cons (pe_fldK (K := K) (pv 0) rfl) pa_nil))) (pg_name (i := 1) sc_Ways_turn.nd rfl (by first | exact Or.inl rfl | exact Or.inr rfl)) (pss_cons (ps_set (i := 2) sc_Ways_turn.nd rfl (by first | exact Or.inl rfl | exact Or.inr rfl) (pe_dget (hu_of hr) (pe_fldK (K := K) (pv 0) rfl) (pv 1) (fun _ _ => rfl)))
    (pss_one (ps_dput (hu_of hr) (pe_fldK (K := K) (pv 0) rfl) (pv 1) (pe_lock (pe_dcT (own := [("one", 3), ("other", 4)]) (tt := tYes) rfl (Nat.lt_of_succ_lt (hu_of hr)) sc_Ways_turn.nd (pi_keys (pv 2)) (blkOk_by (own := [("one", 3), ("other", 4)]) (N := N_Ways_turn) rfl) (fun _ _ _ _ _ => (pg_tupK (K := K) (n := 2) (by rfl) (pgs_cons (pg_name (i := 3) sc_Ways_turn.nd rfl (by first | exact Or.inl rfl | exact Or.inr rfl)) (pgs_cons (pg_name (i := 4) sc_Ways_turn.nd rfl (by first | exact Or.inl rfl | exact Or.inr rfl)) pgs_nil)))) (fun _ _ _ _ _ => pts_nil) (fun _ _ _ _ _ => (pe_tup (pa_cons (pv 3) (pa_cons (pv 4) pa_nil)))) (fun _ _ _ _ _ => (pe_dget (hu_of hr) (pv 2) (pe_tup (pa_cons (pv 4) (pa_cons (pv 3) pa_nil))) (fun _ _ => rfl))))) rfl))))), fun ds M R h => ?_⟩
  obtain ⟨M0, w, n, fs, rfl, ⟨td, ts, x⟩, n9, k⟩ := h
  refine ws_for (wi_list (we_wkeys WF x rfl ⟨_, rfl, fun i G M' => ∃ ts' u v y z, WaysX K M0 M' w td ts' n fs.length (fun b => TabD n (if b < i then turnT (fs.getD b fun _ _ => 0) else fs.getD b fun _ _ => 0)) ∧ G = [some (.ptr w), u, v, y, z], ⟨ts, _, _, _, _, x.imp (fun a ha ks ds h => by rw [if_neg (by omega)]; exact h), rfl⟩, ?_, ?_⟩))
  · rintro i d G1 M1 hd ⟨ts', u, v, y, z, x1, rfl⟩
    obtain ⟨rfl, hi⟩ := lays_get hd
    obtain ⟨t, ks0, ds0, et, gt, tab, dv⟩ := x1.at_ hi
    rw [if_neg (by omega)] at tab
    generalize hf : fs.getD i (fun _ _ => 0) = f at tab
    have hk81 := tab_nn tab n9
    refine wg_name ?_
    show WS K T _ _ _ _
    refine ws_seq (ws_asgN (we_wtab WF x1 rfl rfl dv ?_))
    show WS K T _ _ _ _
    refine ws_wput WF (k := fs.length) (n := n) (td := td) (ts := ts') (M0 := M0) rfl rfl hi (we_lock (loc_mT gt) x1.lk (we_dcT (wi_keysT (we_var rfl ⟨t, ks0, ds0, .inr ⟨rfl, gt⟩, List.mem_cons_self, by rw [List.length_map]; omega, fun m ks acc => AccD ks0 (turnT f) m ks acc, acc_zero _ _, ?_, ?_⟩))))
    · rintro m ks acc d hd ad
      rw [List.getElem?_map] at hd
      obtain ⟨key, e1, rfl⟩ := Option.map_eq_some_iff.mp hd
      obtain ⟨a, b, ha, hb, rfl⟩ := tab.key key (List.mem_of_getElem? e1)
      obtain ⟨hn, ad'⟩ := acc_put tab.nd ad e1
      have hz : ks.length ≤ 1000 := by
        rw [ad.k, List.length_take]
        omega
      refine wgv_tp rfl (wgsv_cons (wgv_name (by simp) (wgsv_cons (wgv_name (by simp) (wgsv_nil ⟨rfl, ?_⟩)))))
      exact we_pk (a := a) (b := b) rfl rfl ⟨rfl, we_cell (t := t) (a := b) (b := a) rfl gt rfl rfl (tab.val b hb a ha) ⟨rfl, _, rfl, hn, hz, ad'⟩⟩
    · intro p ks acc hp ad
      rw [List.length_map] at ad
      rw [lock_free x1.lk]
      refine ⟨p, M1, ks, acc, _, (fun b => TabD n (if b < i + 1 then turnT (fs.getD b fun _ _ => 0) else fs.getD b fun _ _ => 0)), rfl, rfl, hp, x1, fun b ks ds hb h => ?_, ?_, fun M3 ts3 x3 => ⟨ts3, _, _, _, _, x3, rfl⟩⟩
      · by_cases hbi : b < i
        · rw [if_pos hbi] at h
          rw [if_pos (by omega)]
          exact h
        · rw [if_neg hbi] at h
          rw [if_neg (by omega)]
          exact h
      · show TabD n (if i < i + 1 then _ else _) ks acc
        rw [if_pos (by omega), hf]
        exact acc_done tab ad
  · rintro G1 M1 ⟨ts', u, v, y, z, x1, rfl⟩
    rw [List.length_map, lay_len] at x1
    refine k _ ⟨td, ts', ?_⟩
    rw [List.length_map]
    refine x1.imp fun b hb ks ds h => ?_
    rw [if_pos hb] at h
    rw [fsd_map hb]
    exact h
theorem fit_two {l : Nat} {a b : Rat} (h : l ≤ 28) (ha : Lv l a) (hb : Lv l b) : ∀ i, Fit (([a, b].take i).foldl (· + ·) 0)
  | 0 => fit_zero
  | 1 => by
    show Fit (0 + a)
    rw [Rat.zero_add]
    exact lv_fit ha (by omega)
  | n + 2 => by
    show Fit (List.foldl (· + ·) (0 + a + b) (List.take n []))
    rw [List.take_nil, Rat.zero_add]
    exact lv_fit (lv_add ha hb) (by omega)
abbrev N_Ways_put : List Str := ["self", "point", "by", "forth", "back", "make", "layer", "table", "one"]
theorem sc_Ways_put : FnScope N_Ways_put ["self", "point", "by", "forth", "back"] (defScope (mtop 47 2)) := ⟨rfl, rfl, rfl, by decide +kernel, rfl, by decide +kernel, by decide +kernel⟩
def preWPut : Pre := fun ds M R => ∃ (M0 : MS) (w n l b : Nat) (x y : Rat) (fs : List Tab), ds = [.ptr w, .int (n : Nat), .int b, ratD x, ratD y] ∧ WaysAt K M0 M w n fs ∧ n ≤ 9 ∧ b < n ∧ l ≤ 28 ∧ (∀ f ∈ fs, LvM l n f) ∧ Lv l x ∧ Lv l y ∧ ∀ M', WaysAt K M0 M' w (n + 1) (fs.map (Mx.putT n b x y)) → R .non M'
theorem ok_Ways_put (L : Lib K mg) (WF : WyFacts K) (F : MeAt K "Ways" "put" "Ways.put" (mtop 47 2) [] []) (c_Exact_joined : CJoin P w K T mg base) (c_Exact_fixed : CFixed P w K T mg base) : CalM P w K T mg base "Ways" "put" 4 ["self", "point", "by", "forth", "back"] [] (preWPut (K := K)) := by
  refine calM_of F sc_Ways_put (fun ds M R h => by obtain ⟨_, _, _, _, _, _, _, _, rfl, _⟩ := h; rfl) (fun _ _ _ _ _ _ us hl => match us, hl with | [_, _, _, _, _], _ => rfl) fun f cdv A outer s H E hr => ⟨_, (pss_cons (ps_set (i := 5) sc_Ways_put.nd rfl (by first | exact Or.inl rfl | exact Or.inr rfl) (pe_fldK (K := K) (pv 0) rfl))
    (pss_cons (ps_for PassesOwn.never rfl (pi_listK (K := K) (pe_callTy (call_listD rfl) (by rfl) L.list_ (by decide +kernel) (pa_cons (pe_fldK (K := K) (pv 0) rfl) pa_nil))) (pg_name (i := 6) sc_Ways_put.nd rfl (by first | exact Or.inl rfl | exact Or.inr rfl)) (pss_cons (ps_set (i := 7) sc_Ways_put.nd rfl (by first | exact Or.inl rfl | exact Or.inr rfl) (pe_dget (hu_of hr) (pe_fldK (K := K) (pv 0) rfl) (pv 6) (fun _ _ => rfl)))
    (pss_cons (ps_for PassesOwn.never rfl (pi_listK (K := K) (pe_fldK (K := K) (pv 0) rfl)) (pg_name (i := 8) sc_Ways_put.nd rfl (by first | exact Or.inl rfl | exact Or.inr rfl)) (pss_cons (ps_dput (hu_of hr) (pv 7) (pe_tup (pa_cons (pv 8) (pa_cons (pv 1) pa_nil))) (pe_calMR c_Exact_joined (pv 5) (hr) (pa_cons (pe_dget (hu_of hr) (pv 7) (pe_tup (pa_cons (pv 8) (pa_cons (pv 2) pa_nil))) (fun _ _ => rfl)) (pa_cons (pe_calM c_Exact_fixed (pv 5) (hr.mono (by decide)) (pa_cons (pv 3) pa_nil)) pa_nil))) rfl)
    (pss_one (ps_dput (hu_of hr) (pv 7) (pe_tup (pa_cons (pv 1) (pa_cons (pv 8) pa_nil))) (pe_calMR c_Exact_joined (pv 5) (hr) (pa_cons (pe_calM c_Exact_fixed (pv 5) (hr.mono (by decide)) (pa_cons (pv 4) pa_nil)) (pa_cons (pe_dget (hu_of hr) (pv 7) (pe_tup (pa_cons (pv 2) (pa_cons (pv 8) pa_nil))) (fun _ _ => rfl)) pa_nil))) rfl))))
    (pss_one (ps_dput (hu_of hr) (pv 7) (pe_tup (pa_cons (pv 1) (pa_cons (pv 1) pa_nil))) (pe_calM c_Exact_fixed (pv 5) (hr.mono (by decide)) (pa_cons (pe_glob (v := .ref (ga K "ZERO")) (by rfl) L.gZERO rfl) pa_nil)) rfl)))))
    (pss_one (ps_fld (pv 0) (pe_lst (pa_starK (K := K) (pe_fldK (K := K) (pv 0) rfl) (pa_cons (pv 1) pa_nil))) rfl)))), fun ds M R h => ?_⟩
  obtain ⟨M0, w, n, l, b, xx, yy, fs, rfl, ⟨td, ts, x⟩, n9, hb, hl, hlv, hx, hy, k⟩ := h
  refine ws_seq (ws_asgN (we_wreck WF x rfl ?_))
  show WS K T _ _ _ _
  refine ws_seq (ws_for (wi_list (we_wkeys WF x rfl ⟨_, rfl, fun i G M' => ∃ u v z, WaysX K M0 M' w td ts n fs.length (fun c ks ds => if c < i then TabD (n + 1) (Mx.putT n b xx yy (fs.getD c fun _ _ => 0)) ks ds else TabD n (fs.getD c fun _ _ => 0) ks ds) ∧ G = [some (.ptr w), some (.int (n : Nat)), some (.int (b : Nat)), some (ratD xx), some (ratD yy), some (exD K), u, v, z], ⟨_, _, _, x.imp (fun a ha ks ds h => by rw [if_neg (by omega)]; exact h), rfl⟩, ?_, ?_⟩)))
  · rintro i d G1 M1 hd ⟨u, v, z, x1, rfl⟩
    obtain ⟨rfl, hi⟩ := lays_get hd
    obtain ⟨t, ks0, ds0, et, gt, tab, dv⟩ := x1.at_ hi
    rw [if_neg (by omega)] at tab
    have hlf : LvM l n (fs.getD i fun _ _ => 0) := hlv _ (f_mem (p := ⟨n, fs, []⟩) hi)
    generalize hf : fs.getD i (fun _ _ => 0) = f at tab hlf
    refine wg_name ?_
    show WS K T _ _ _ _
    refine ws_seq (ws_asgN (we_wtab WF x1 rfl rfl dv ?_))
    show WS K T _ _ _ _
    refine ws_seq (ws_for (wi_list (we_wspots WF x1 rfl ⟨_, rfl, fun c G M' => ∃ z, WaysX K M0 M' w td ts n fs.length (fun a ks ds => if a < i then TabD (n + 1) (Mx.putT n b xx yy (fs.getD a fun _ _ => 0)) ks ds else if a = i then PutD n b xx yy f c ks ds else TabD n (fs.getD a fun _ _ => 0) ks ds) ∧ G = [some (.ptr w), some (.int (n : Nat)), some (.int (b : Nat)), some (ratD xx), some (ratD yy), some (exD K), some (.str (lay i)), some (.ptr t), z], ⟨_, x1.imp (fun a ha ks ds h => ?_), rfl⟩, ?_, ?_⟩)))
    · by_cases h1 : a < i
      · rw [if_pos h1] at h ⊢
        exact h
      · rw [if_neg h1] at h ⊢
        by_cases h2 : a = i
        · subst h2
          rw [if_pos rfl, ← hf]
          exact put_zero h
        · rw [if_neg h2]
          exact h
    · rintro c d G1 M2 hd ⟨z, x2, rfl⟩
      obtain ⟨rfl, hc⟩ := intsD_get hd
      obtain ⟨_, ks, acc, gt2, pd⟩ := x2.tab i t et
      rw [if_neg (by omega), if_pos rfl] at pd
      obtain ⟨n1, n2, pd'⟩ := put_one pd hc
      have hz : ks.length ≤ 99 := by
        have := pd.sz
        have : n * n ≤ 9 * 9 := Nat.mul_le_mul n9 n9
        omega
      have v1 := pd.val c b (.inl ⟨hc, hb⟩)
      have v2 := pd.val b c (.inl ⟨hb, hc⟩)
      have p1 : Mx.putT n b xx yy f c b = f c b := by unfold Mx.putT; rw [if_pos hc, if_pos hb]
      have p2 : Mx.putT n b xx yy f b c = f b c := by unfold Mx.putT; rw [if_pos hb, if_pos hc]
      rw [p1] at v1
      rw [p2] at v2
      have c1 := hlf c hc b hb
      have c2 := hlf b hb c hc
      refine wg_name ?_
      show WS K T _ _ _ _
      refine ws_seq (ws_cell (t := t) rfl rfl rfl (we_methR (we_var rfl ⟨_, _, .inl rfl, by simp, wa_cons (we_cell (t := t) rfl gt2 rfl rfl v1 (wa_cons (we_meth (we_var rfl ⟨_, _, .inl rfl, by simp, wa_cons (we_var rfl (wa_nil ⟨_, _, rfl, wa_nil ⟨_, _, rfl, by simp, _, [f c b, xx], rfl, ?_, ?_, ks, acc, gt2, n1, by omega, x2.lk, ?_⟩⟩))⟩))))⟩)))
      · intro r hr
        simp only [List.mem_cons, List.not_mem_nil, or_false] at hr
        rcases hr with rfl | rfl
        · exact lv_fit c1 (by omega)
        · exact lv_fit hx (by omega)
      · exact fit_two hl c1 hx
      have x3 := x2.poke (TT' := fun a ks' ds' => if a = i then (ks' = ks ++ [pk c n] ∧ ds' = acc ++ [ratD ([f c b, xx].foldl (· + ·) 0)]) else if a < i then TabD (n + 1) (Mx.putT n b xx yy (fs.getD a fun _ _ => 0)) ks' ds' else TabD n (fs.getD a fun _ _ => 0) ks' ds') et (fun a ks' ds' h1 h => by
        rw [if_neg h1]
        by_cases h2 : a < i
        · rw [if_pos h2] at h ⊢; exact h
        · rw [if_neg h2, if_neg h1] at h; rw [if_neg h2]; exact h) (by rw [if_pos rfl]; exact ⟨rfl, rfl⟩)
      obtain ⟨_, ks2, acc2, gt3, q3⟩ := x3.tab i t et
      rw [if_pos rfl] at q3
      obtain ⟨rfl, rfl⟩ := q3
      have v3 : dval (ks ++ [pk c n]) (acc ++ [ratD ([f c b, xx].foldl (· + ·) 0)]) (pk b c) = some (ratD (f b c)) := dval_old pd.len v2
      show WS K T _ _ _ _
      refine ws_cell (t := t) rfl rfl rfl (we_methR (we_var rfl ⟨_, _, .inl rfl, by simp, wa_cons (we_meth (we_var rfl ⟨_, _, .inl rfl, by simp, wa_cons (we_var rfl (wa_nil ⟨_, _, rfl, wa_cons (we_cell (t := t) rfl gt3 rfl rfl v3 (wa_nil ⟨_, _, rfl, by simp, _, [yy, f b c], rfl, ?_, ?_, _, _, gt3, n2, by simp; omega, x3.lk, ?_⟩))⟩))⟩))⟩))
      · intro r hr
        simp only [List.mem_cons, List.not_mem_nil, or_false] at hr
        rcases hr with rfl | rfl
        · exact lv_fit hy (by omega)
        · exact lv_fit c2 (by omega)
      · exact fit_two hl hy c2
      refine ⟨_, x3.poke et (fun a ks' ds' h1 h => ?_) ?_, rfl⟩
      · rw [if_neg h1] at h
        by_cases h2 : a < i
        · rw [if_pos h2] at h ⊢; exact h
        · rw [if_neg h2] at h
          rw [if_neg h2, if_neg h1]
          exact h
      · rw [if_neg (by omega), if_pos rfl]
        have e1 : [f c b, xx].foldl (· + ·) 0 = f c b + xx := by show 0 + f c b + xx = _; rw [Rat.zero_add]
        have e2 : [yy, f b c].foldl (· + ·) 0 = yy + f b c := by show 0 + yy + f b c = _; rw [Rat.zero_add]
        rw [e1, e2]
        exact pd'
    · rintro G1 M2 ⟨z, x2, rfl⟩
      rw [intsD_len] at x2
      obtain ⟨_, ks, acc, gt2, pd⟩ := x2.tab i t et
      rw [if_neg (by omega), if_pos rfl] at pd
      obtain ⟨n1, pd'⟩ := put_all pd
      have hz : ks.length ≤ 99 := by
        have := pd.sz
        have : n * n ≤ 9 * 9 := Nat.mul_le_mul n9 n9
        omega
      show WS K T _ _ _ _
      refine ws_cell (t := t) rfl rfl rfl (we_meth (we_var rfl ⟨_, _, .inl rfl, by simp, wa_cons (we_zero L (wa_nil ⟨_, _, rfl, ks, acc, gt2, n1, by omega, x2.lk, ?_⟩))⟩))
      refine ⟨_, _, _, x2.poke et (fun a ks' ds' h1 h => ?_) ?_, rfl⟩
      · by_cases h2 : a < i
        · rw [if_pos h2] at h
          rw [if_pos (by omega)]
          exact h
        · rw [if_neg h2, if_neg h1] at h
          rw [if_neg (by omega)]
          exact h
      · rw [if_pos (by omega), hf]
        exact pd'
  · rintro G1 M1 ⟨u, v, z, x1, rfl⟩
    rw [List.length_map, lay_len] at x1
    show WS K T _ _ _ _
    refine ws_fldO (we_lst (wa_star (we_wspots WF x1 rfl ⟨_, .inl rfl, wa_cons (we_var rfl (wa_nil ⟨?_, ?_⟩))⟩)))
    · rw [List.length_append, intsD_len]
      exact Nat.le_of_lt (small1000 (by simp; omega))
    refine we_var rfl ⟨w, _, _, _, 1, rfl, x1.hw, WF.cls, WF.s, by decide, by decide, rfl, by rw [x1.lk]; simp, ?_⟩
    have e : intsD n ++ [.int (n : Nat)] = intsD (n + 1) := by
      unfold intsD
      rw [List.range_succ, List.map_append]
      rfl
    have x2 := x1.grow (n + 1)
    rw [← e] at x2
    refine k _ ⟨td, ts, ?_⟩
    rw [List.length_map]
    refine x2.imp fun c hc ks ds h => ?_
    rw [if_pos hc] at h
    rw [fsd_map hc]
    exact h
abbrev N_Ways_each : List Str := ["self", "layer", "change", "table", "pair"]
theorem sc_Ways_each : FnScope N_Ways_each ["self", "layer", "change"] (defScope (mtop 47 4)) := ⟨rfl, rfl, rfl, by decide +kernel, rfl, by decide +kernel, by decide +kernel⟩
def preEach (P : Program) (w : World) (K : PySem.W.Frag) (T : Tb) (mg : Str → Option Value) (base : Heap) : Pre := fun ds M R => ∃ (M0 : MS) (v td : Addr) (ts : List Addr) (n : Nat) (fs : List Tab) (a : Nat) (t : Addr) (h : Tab) (f : Addr) (F : NdefX.NF) (b : Expr) (ws : List (Option V)) (cds : List D) (N' : List Str) (tb : TE),
  ds = [.ptr v, .str (lay a), .fn f F b ws cds] ∧ WaysX K M0 M v td ts n fs.length (fun a => TabD n (fs.getD a fun _ _ => 0)) ∧ ts[a]? = some t ∧ a < fs.length ∧ n ≤ 9 ∧ FnR P w K mg base CX0 6 f (spLam f F b N' 1 ws tb) ∧
  (∀ x y : Nat, x < n → y < n → x ≠ y → WE K T tb (lamG N' [.tp ((pk x y).map keyD)] cds) (lockM M t) fun d M' => d = ratD (h x y) ∧ M' = lockM M t) ∧ ∀ M', WaysAt K M0 M' v n (fs.set a fun x y => if x = y then fs.getD a (fun _ _ => 0) x y else h x y) → R .non M'
theorem ok_Ways_each (L : Lib K mg) (WF : WyFacts K) (F : MeAt K "Ways" "each" "Ways.each" (mtop 47 4) [] []) : CalMB P w K T mg "Ways" "each" 7 ["self", "layer", "change"] (preEach P w K T mg) := by
  refine calMB_of F sc_Ways_each (fun base ds M R h => by obtain ⟨_, _, _, _, _, _, _, _, _, _, _, _, _, _, _, _, rfl, _⟩ := h; rfl) (fun _ _ _ _ _ _ us hl => match us, hl with | [_, _, _], _ => rfl) fun base f cdv A outer s H E hr => ⟨_, (pss_cons (ps_set (i := 3) sc_Ways_each.nd rfl (by first | exact Or.inl rfl | exact Or.inr rfl) (pe_dget (hu_of hr) (pe_fldK (K := K) (pv 0) rfl) (pv 1) (fun _ _ => rfl)))
    (pss_one (ps_dput (hu_of hr) (pe_fldK (K := K) (pv 0) rfl) (pv 1) (pe_lock (pe_dcT (own := [("pair", 4)]) (tt := tYes) rfl (Nat.lt_of_succ_lt (hu_of hr)) sc_Ways_each.nd (pi_keys (pv 3)) (blkOk_by (own := [("pair", 4)]) (N := N_Ways_each) rfl) (fun _ _ _ _ _ => (pg_name (i := 4) sc_Ways_each.nd rfl (by first | exact Or.inl rfl | exact Or.inr rfl))) (fun _ _ _ _ _ => pts_nil) (fun _ _ _ _ _ => (pv 4)) (fun _ _ _ _ _ => (pe_ifExp (pt_cmpR op_eq (pe_ix (ix_tupK (K := K)) (pv 4) pe_int (fun _ _ => rfl)) (pe_ix (ix_tupK (K := K)) (pv 4) pe_int (fun _ _ => rfl)) (nomark _)) (pe_dget (hu_of hr) (pv 3) (pv 4) (fun _ _ => rfl)) (pe_callV (k := 6) (i := 2) rfl (by first | exact Or.inl rfl | exact Or.inr (Or.inl rfl) | exact Or.inr (Or.inr rfl)) (hr.mono (by decide)) (pa_cons (pv 4) pa_nil)))))) rfl))), fun ds M R h => ?_⟩
  obtain ⟨M0, v, td, ts, n, fs, a, t, g, f, F, b, ws, cds, N', tb, rfl, x, et, ha, n9, hR, hw, k⟩ := h
  obtain ⟨t', ks0, ds0, et', gt, tab, dv⟩ := x.at_ ha
  obtain rfl : t' = t := Option.some.inj (et'.symm.trans et)
  generalize hf : fs.getD a (fun _ _ => 0) = ff at tab k
  have hk81 := tab_nn tab n9
  refine ws_seq (ws_asgN (we_wtab WF x rfl rfl dv ?_))
  show WS K T _ _ _ _
  refine ws_wput WF (k := fs.length) (n := n) (td := td) (ts := ts) (M0 := M0) rfl rfl ha (we_lock (loc_mT gt) x.lk (we_dcT (wi_keysT (we_var rfl ⟨t', ks0, ds0, .inr ⟨rfl, gt⟩, List.mem_cons_self, by rw [List.length_map]; omega, fun m ks acc => AccD ks0 (fun x y => if x = y then ff x y else g x y) m ks acc, acc_zero _ _, ?_, ?_⟩))))
  · rintro m ks acc d hd ad
    rw [List.getElem?_map] at hd
    obtain ⟨key, e1, rfl⟩ := Option.map_eq_some_iff.mp hd
    obtain ⟨c, e, hc, he, rfl⟩ := tab.key key (List.mem_of_getElem? e1)
    obtain ⟨hn, ad'⟩ := acc_put tab.nd ad e1
    have hz : ks.length ≤ 1000 := by
      rw [ad.k, List.length_take]
      omega
    refine wgv_name (by simp) ⟨rfl, we_var rfl ⟨rfl, ?_⟩⟩
    refine we_if (wt_test (we_op (we_op (we_var rfl (we_int (opd_ixP rfl (we_op (we_var rfl (we_int (opd_ixP rfl (opd_eqI ⟨_, rfl, ?_⟩)))))))))))
    by_cases hce : c = e
    · rw [decide_eq_true (show (((c : Nat) : Int) = ((e : Nat) : Int)) from by omega)]
      refine ite_t (we_dgetT (we_var rfl (we_var rfl ⟨t', _, _, pk c e, _, .inr ⟨rfl, gt⟩, rfl, tab.val c hc e he, rfl, _, rfl, hn, hz, ?_⟩)))
      rw [if_pos hce] at ad'
      exact ad'
    · rw [decide_eq_false (show ¬ (((c : Nat) : Int) = ((e : Nat) : Int)) from by omega)]
      refine ite_f (we_callV ⟨f, F, b, ws, cds, N', tb, 1, rfl, hR, wa_cons (we_var rfl (wa_nil ⟨rfl, (hw c e hc he hce).imp fun d M' q => ?_⟩))⟩)
      obtain ⟨rfl, rfl⟩ := q
      rw [if_neg hce] at ad'
      exact ⟨rfl, _, rfl, hn, hz, ad'⟩
  · intro p ks acc hp ad
    rw [List.length_map] at ad
    rw [lock_free x.lk]
    refine ⟨p, M, ks, acc, _, (fun c ks ds => if c = a then TabD n (fun x y => if x = y then ff x y else g x y) ks ds else TabD n (fs.getD c fun _ _ => 0) ks ds), rfl, rfl, hp, x, fun c ks ds hc h => ?_, ?_, fun M3 ts3 x3 => k _ (x3.at_set ha)⟩
    · show if c = a then _ else _
      rw [if_neg hc]
      exact h
    · show if a = a then _ else _
      rw [if_pos rfl]
      exact acc_done tab ad
end
end Dl
end
/-! ## P25 -/
section
set_option maxRecDepth 100000
set_option maxHeartbeats 1000000
namespace Dl
open PySem PySem.Spec PyProof.Rows L2 Mx
local macro_rules | `(tactic| walk_at "d1") => `(tactic| with_reducible first
  | refine ws_seq ?_ | refine ws_asgN ?_ | refine ws_asg ?_ | refine wg_name ?_ | refine ws_ret ?_ | refine ws_nx ?_ | refine ws_expr ?_
  | refine we_op ?_ | refine we_un ?_ | refine we_int ?_ | refine we_str ?_ | refine we_bl ?_ | refine we_non ?_ | refine we_ty ?_ | refine we_if ?_ | refine we_and ?_ | refine we_or ?_ | refine we_not ?_ | refine we_chain ?_
  | refine we_tup ?_ | refine we_lst ?_ | refine we_listRng ?_ | refine we_isi2 ?_ | refine we_cb ?_ | refine we_call ?_ | refine wa_cons ?_ | refine wa_nil ?_ | refine we_sl ?_ | refine wo_no ?_ | refine wo_some ?_
  | refine wt_test ?_ | refine wt_B ?_ | refine wt_and ?_ | refine wt_or ?_ | refine wt_not ?_ | refine wt_yes ?_
  | refine opd_add ?_ | refine opd_sub ?_ | refine opd_lt ?_ | refine opd_le ?_ | refine opd_gt ?_ | refine opd_ge ?_ | refine opd_eqI ?_ | refine opd_neI ?_ | refine opd_eqS ?_ | refine opd_neS ?_ | refine opd_isN ?_ | refine opd_notN ?_
  | refine opd_mulW ?_ ?_ | refine opd_mul ?_ ?_ | refine opd_pow ?_ ?_ | refine opd_fdivW ?_ ?_ | refine opd_modN ?_ ?_
  | refine cad_gcd ?_ | refine cad_int1 ?_ | refine cad_intB ?_ | refine cad_abs ?_ | refine cad_lenT ?_ | refine cad_lenL ?_ | refine cad_lenLL ?_ | refine cad_list ?_ | refine sld_lst ?_ | refine sld_tup ?_ | refine sld_tp ?_
  | refine we_fld ?_ | refine we_meth ?_ | refine we_methR ?_ | refine we_prop ?_ | refine ws_par ?_ | refine ite_t ?_ | refine ite_f ?_ | fail)
local macro_rules | `(tactic| walk_at "d2") => `(tactic| first
  | refine we_var rfl ?_ | (with_reducible refine we_zero (by assumption) ?_) | (with_reducible refine we_layers (by assumption) ?_) | refine opd_ixT rfl ?_ | refine opd_ixP rfl ?_ | (with_reducible refine opd_ixL (atI_rng (by assumption)) ?_) | (with_reducible refine ws_asgN ?_) | fail)
local macro_rules | `(tactic| walk_at "d3") => `(tactic| first | (with_reducible refine ⟨_, rfl, ?_⟩) | (with_reducible refine ⟨sz_ok rfl, ?_⟩) | (with_reducible refine ⟨_, _, rfl, ?_⟩) | fail)
local macro_rules | `(tactic| walk_at "e") => `(tactic| repeat' (first | walk_at "d1" | walk_at "d2" | walk_at "d3" | fail))
local macro_rules | `(tactic| walk_at "d") => `(tactic| repeat' (first | walk_at "d1" | walk_at "d2" | walk_at "d3" | (with_reducible refine ws_if ?_) | fail))
section
variable {P : Program} {w : World} {K : PySem.W.Frag} {T : Tb} {mg : Str → Option Value} {base : Heap}
theorem we_ex {G : Sl} {M : MS} {R : D → MS → Prop} {m : Str} {pre : Pre} {t : TA} {i : Nat} (h : G[i]? = some (some (exD K))) (q : WA K T t G M fun es M2 => pre (exD K :: es) M2 R) : WE K T (tMeth (ga K "Exact") m (SpD K T pre) [] E0 (tVar i) t) G M R := we_meth (we_var h ⟨_, _, .inl rfl, by simp, q⟩)
theorem we_exR {G : Sl} {M : MS} {R : D → MS → Prop} {m : Str} {pre : Pre} {t : TA} {i : Nat} (h : G[i]? = some (some (exD K))) (q : WA K T t G M fun es M2 => pre (exD K :: es) M2 R) : WE K T (tMethR (ga K "Exact") m (SpD K T pre) E0 (tVar i) t) G M R := we_methR (we_var h ⟨_, _, .inl rfl, by simp, q⟩)
theorem WaysAt.congr {M0 M : MS} {v n a : Nat} {fs : List Tab} {g g' : Tab} (x : WaysAt K M0 M v n (fs.set a g)) (ha : a < fs.length) (h : ∀ i < n, ∀ j < n, g i j = g' i j) : WaysAt K M0 M v n (fs.set a g') := by
  obtain ⟨td, ts, x⟩ := x
  refine ⟨td, ts, ?_⟩
  rw [List.length_set] at x ⊢
  refine x.imp fun b hb ks ds h' => ?_
  by_cases e : b = a
  · subst e
    rw [fsd_self ha] at h' ⊢
    exact tab_congr h' h
  · rw [fsd_set e] at h' ⊢
    exact h'
/-- the dict of the names' places, for a step -/
def SpotD (p : Pl) (s : Stp) (d : D) : Prop := ∃ pp ks ds, d = .dK pp ks ds ∧ (∀ x, p.has x → dval ks ds (.inr x) = some (.int (p.at x : Nat))) ∧ ∀ x b v q v' q', s = .place x b v q v' q' → dval ks ds (.inr x) = some (.int (p.n : Nat))
abbrev N_Ways_layer_step : List Str := ["self", "step", "spots", "make", "word", "layer", "table", "start", "goal", "length", "beside"]
theorem sc_Ways_layer_step : FnScope N_Ways_layer_step ["self", "step", "spots"] (defScope (mtop 47 6)) := ⟨rfl, rfl, rfl, by decide +kernel, rfl, by decide +kernel, by decide +kernel⟩
def preWLS : Pre := fun ds M R => ∃ (M0 : MS) (v l a : Nat) (p : Pl) (s : Stp) (sp : D), ds = [.ptr v, stpD s, sp] ∧ WaysAt K M0 M v p.n p.fs ∧ PlOk l p ∧ StpOk p s ∧ l ≤ 26 ∧ lyr s = some a ∧ SpotD p s sp ∧ ∀ M', WaysAt K M0 M' v p.n (ap p s).fs → R .non M'
theorem ok_Ways_layer_step (L : Lib K mg) (WF : WyFacts K) (F : MeAt K "Ways" "layer_step" "Ways.layer_step" (mtop 47 6) [] []) (TB : LamX.TabB base mg (He.cT K ("Ways", some "layer_step")).1 (tabA K ("Ways", some "layer_step"))) (hmT : (tabA K ("Ways", some "layer_step"), ("Ways.layer_step.<locals>.<lambda>" : Str)) ∈ T) (huT : ∀ p ∈ T, p.1 = tabA K ("Ways", some "layer_step") → p.2 = ("Ways.layer_step.<locals>.<lambda>" : Str))
    (c_Ways_each : CalMB P w K T mg "Ways" "each" 7 ["self", "layer", "change"] (preEach P w K T mg)) (c_Ways_road : CalM P w K T mg base "Ways" "road" 4 ["self", "layer", "start", "goal", "length"] [] (preRoad (K := K)))
    (d_Exact_least : ∀ base, CLeast P w K T mg base) (d_Exact_scaled : ∀ base, CScaled P w K T mg base) (d_Exact_joined : ∀ base, CJoin P w K T mg base) (d_Exact_fixed : ∀ base, CFixed P w K T mg base) (d_ratio_of : ∀ base, Cal P w K T mg base "ratio_of" 3 ["value"] preRatioOf) :
    CalM P w K T mg base "Ways" "layer_step" 8 ["self", "step", "spots"] [] (preWLS (K := K)) := by
  obtain ⟨⟨fd, F⟩, hme, hcl⟩ := F
  refine ⟨fd, [], fn_dT (p := ("Ways", some "layer_step")) F sc_Ways_layer_step (fun ds M R h => by obtain ⟨_, _, _, _, _, _, _, rfl, _⟩ := h; rfl) (fun A outer s H E hr => ?_), hme, hcl, F.bindsN (fun _ _ _ _ _ _ us hl => match us, hl with | [_, _, _], _ => rfl), .nil⟩
  have c_Exact_fixed := d_Exact_fixed base
  have c_Exact_joined := d_Exact_joined base
  have c_ratio_of := d_ratio_of base
  refine ⟨_, (pss_cons (ps_asg (pe_tup (pa_cons (pe_fldK (K := K) (pv 0) rfl) (pa_cons (pe_ix (ix_tupK (K := K)) (pv 1) pe_int (fun _ _ => rfl)) (pa_cons (pe_ix (ix_tupK (K := K)) (pv 1) pe_int (fun _ _ => rfl)) pa_nil)))) (pg_tupK (K := K) (n := 3) (by rfl) (pgs_cons (pg_name (i := 3) sc_Ways_layer_step.nd rfl (by first | exact Or.inl rfl | exact Or.inr rfl)) (pgs_cons (pg_name (i := 4) sc_Ways_layer_step.nd rfl (by first | exact Or.inl rfl | exact Or.inr rfl)) (pgs_cons (pg_name (i := 5) sc_Ways_layer_step.nd rfl (by first | exact Or.inl rfl | exact Or.inr rfl)) pgs_nil)))))
    (pss_cons (ps_set (i := 6) sc_Ways_layer_step.nd rfl (by first | exact Or.inl rfl | exact Or.inr rfl) (pe_dget (hu_of hr) (pe_fldK (K := K) (pv 0) rfl) (pv 5) (fun _ _ => rfl)))
    (pss_one (ps_if (pt_cmpR op_eq (pv 4) pe_str (nomark _)) (pss_one (ps_expr (pe_methLam c_Ways_each (pv 0) (hr) (fun _ => rfl) (fr := ["make", "table", "step"]) (js := [3, 6, 1]) (by rfl) (by rfl) (pa_cons (pv 5) (pa_cons (pe_lamE TB rfl hmT huT rfl (NdefX.ndef_free (fr := ["make", "table", "step"]) rfl)) pa_nil))))) (pss_one (ps_if (pt_cmpR op_eq (pv 4) pe_str (nomark _)) (pss_one (ps_expr (pe_methLam c_Ways_each (pv 0) (hr) (fun _ => rfl) (fr := ["make", "table", "step"]) (js := [3, 6, 1]) (by rfl) (by rfl) (pa_cons (pv 5) (pa_cons (pe_lamE TB rfl hmT huT rfl (NdefX.ndef_free (fr := ["make", "table", "step"]) rfl)) pa_nil))))) (pss_one (ps_if (pt_cmpR op_eq (pv 4) pe_str (nomark _)) (pss_one (ps_expr (pe_methLam c_Ways_each (pv 0) (hr) (fun _ => rfl) (fr := ["make", "table"]) (js := [3, 6]) (by rfl) (by rfl) (pa_cons (pv 5) (pa_cons (pe_lamE TB rfl hmT huT rfl (NdefX.ndef_free (fr := ["make", "table"]) rfl)) pa_nil))))) (pss_cons (ps_par3 (i := 7) (j := 8) (l := 9) (by rfl) sc_Ways_layer_step.nd rfl rfl rfl (by decide) (by decide) (by decide) rfl rfl rfl (pa_cons (pe_dget (hu_of hr) (pv 2) (pe_ix (ix_tupK (K := K)) (pv 1) pe_int (fun _ _ => rfl)) (fun _ _ => rfl)) (pa_cons (pe_dget (hu_of hr) (pv 2) (pe_ix (ix_tupK (K := K)) (pv 1) pe_int (fun _ _ => rfl)) (fun _ _ => rfl)) (pa_cons (pe_calM c_Exact_fixed (pv 3) (hr.mono (by decide)) (pa_cons (pe_cal c_ratio_of (hr.mono (by decide)) (by rfl) (pa_cons (pe_ix (ix_tupK (K := K)) (pv 1) pe_int (fun _ _ => rfl)) pa_nil)) pa_nil)) pa_nil))) (by rfl))
    (pss_cons (ps_if (pt_cmpR op_eq (pv 4) pe_str (nomark _)) (pss_cons (ps_set (i := 10) sc_Ways_layer_step.nd rfl (by first | exact Or.inl rfl | exact Or.inr rfl) (pe_ix (ix_tupK (K := K)) (pe_glob (v := .ref (ga K "LAYERS")) (by rfl) L.gLAYERS rfl) (pe_op op_sub pe_int (pe_bm PySem.F.plainAttrs_tuple PySem.F.slot_tuple_index PySem.F.type_tuple_index mt_tup_index (pe_glob (v := .ref (ga K "LAYERS")) (by rfl) L.gLAYERS rfl) (pa_cons (pv 5) pa_nil))) (fun _ _ => rfl)))
    (pss_one (ps_set (i := 9) sc_Ways_layer_step.nd rfl (by first | exact Or.inl rfl | exact Or.inr rfl) (pe_calMR c_Exact_joined (pv 3) (hr.mono (by decide)) (pa_cons (pv 9) (pa_cons (pe_dget (hu_of hr) (pe_dget (hu_of hr) (pe_fldK (K := K) (pv 0) rfl) (pv 10) (fun _ _ => rfl)) (pe_tup (pa_cons (pv 7) (pa_cons (pv 8) pa_nil))) (fun _ _ => rfl)) pa_nil)))))) pss_nil)
    (pss_one (ps_expr (pe_calM c_Ways_road (pv 0) (hr.mono (by decide)) (pa_cons (pv 5) (pa_cons (pv 7) (pa_cons (pv 8) (pa_cons (pv 9) pa_nil))))))))))))))))), fun ds M R h => ?_⟩
  obtain ⟨M0, v, l, a, p, s, sp, rfl, ⟨td, ts, x⟩, ok, hs, hl, hly, hsp, k⟩ := h
  have ht := ok.t
  have hm := ok.m
  have n9 := ht.n9
  have hw : WaysAt K M0 M v p.n p.fs := ⟨td, ts, x⟩
  have pre1 : ∀ {st : D} {wd ly : Str} {ds : List D} {RS : DE} {t : TS} {tt : Addr}, st = .tup (.str wd :: .str ly :: ds) → ly = lay a → dval (layK p.fs.length) (ts.map D.ptr) (.inr (lay a)) = some (.ptr tt) →
      WS K T t [some (.ptr v), some st, some sp, some (exD K), some (.str wd), some (.str (lay a)), some (.ptr tt), none, none, none, none] M RS →
      WS K T (tSeq (tAsg (tTup (tCons (tFld K (tVar 0) "reckoner") (tCons (tOp (rIxT K) (tVar 1) (tC (.int 0))) (tCons (tOp (rIxT K) (tVar 1) (tC (.int 1))) tNil)))) (gTup K 3 (gCons (gName 3) (gCons (gName 4) (gCons (gName 5) gNil))))) (tSeq (tAsg (tDGet (tFld K (tVar 0) "tables") (tVar 5)) (gName 6)) t)) [some (.ptr v), some st, some sp, none, none, none, none, none, none, none, none] M RS := fun {st wd ly ds RS t tt} e1 e2 dv h => by
    subst e1 e2
    refine ws_seq (ws_asg (we_tup (wa_cons (we_wreck WF x rfl (wa_cons (we_op (we_var rfl (we_int (opd_ixT (d := .str wd) (atI_head _ _) (wa_cons (we_op (we_var rfl (we_int (opd_ixT (d := .str (lay a)) (by rw [show (1 : Int) = ((1 : Nat) : Int) from rfl, atI_nat]; rfl) (wa_nil ⟨sz_ok rfl, ?_⟩)))))))))))))))
    refine wg_tup rfl (wgs_cons (wg_name (wgs_cons (wg_name (wgs_cons (wg_name (wgs_nil ?_)))))))
    exact ws_seq (ws_asgN (we_wtab WF x rfl rfl dv h))
  cases s with
  | cap b vd q =>
    cases hly
    obtain ⟨hb, hv, hq⟩ := hs
    obtain ⟨tt, ks0, ds0, et, gt, tab, dv⟩ := x.at_ hb
    have hq' := lv_mono hq (Nat.zero_le l)
    have hlv := ht.lv _ (f_mem hb)
    have hmet := ht.met _ (f_mem hb)
    refine pre1 rfl rfl dv (ws_ifT ?_ ?_)
    · walk_at "d"
      exact ⟨rfl, rfl⟩
    refine ws_expr (we_methBig (cds := [exD K, .ptr tt, stpD (.cap a vd q)]) rfl (we_var rfl ⟨_, _, .inr ⟨v, rfl, x.hw⟩, by decide, wa_cons (we_var rfl (wa_cons (we_lamE (fun c => ⟨rfl, rfl⟩) fun f c => wa_nil ⟨[.str (lay a)], f, _, _, rfl, fun bs ws cf => ?_⟩)))⟩))
    have c_Exact_least := d_Exact_least bs
    have c_Exact_fixed := d_Exact_fixed bs
    have c_ratio_of := d_ratio_of bs
    refine ⟨M0, v, td, ts, p.n, p.fs, a, tt, capT q (p.f a), f, _, _, ws, _, ["pair", "make", "table", "step"], _, rfl, x, et, hb, n9, lam_fnr (ps := ["pair"]) (fr := ["make", "table", "step"]) (NdefX.nscope_by (by rfl)) (fun _ _ us hl => match us, hl with | [_], _ => rfl) cf (fun A outer s H E hr => (pe_calM c_Exact_least (pv 1) (hr.mono (by decide)) (pa_cons (pe_dget (hu_of hr) (pv 2) (pv 0) (fun _ _ => rfl)) (pa_cons (pe_calM c_Exact_fixed (pv 1) (hr.mono (by decide)) (pa_cons (pe_cal c_ratio_of (hr.mono (by decide)) (by rfl) (pa_cons (pe_ix (ix_tupK (K := K)) (pv 3) pe_int (fun _ _ => rfl)) pa_nil)) pa_nil)) pa_nil)))), fun i j hi hj hne => ?_, fun M' hM' => ?_⟩
    · refine we_ex rfl (wa_cons (we_dgetT (we_var rfl (we_var rfl ⟨tt, _, _, pk i j, _, .inr ⟨rfl, gt⟩, rfl, tab.val i hi j hj, wa_cons (we_ex rfl (wa_cons ?_))⟩))))
      walk_at "e"
      refine ⟨vd, q, rfl, hv, wa_nil ⟨_, _, rfl, wa_nil ⟨_, p.f a i j, q, rfl, lv_fit (hlv i hi j hj) (by omega), lv_fit hq' (by omega), rfl, rfl⟩⟩⟩
    · refine k _ (hM'.congr hb fun i hi j hj => ?_)
      by_cases e : i = j
      · subst e
        rw [if_pos rfl]
        exact (hmet.dg i hi).trans ((cap_met hmet (lv_nonneg hq)).dg i hi).symm
      · rw [if_neg e]
  | scale b vd q =>
    cases hly
    obtain ⟨hb, hv, hq, hpos, y6, hy6, hy30⟩ := hs
    obtain ⟨tt, ks0, ds0, et, gt, tab, dv⟩ := x.at_ hb
    have hq' := lv_mono hq (Nat.zero_le l)
    have hlv := ht.lv _ (f_mem hb)
    have hmet := ht.met _ (f_mem hb)
    refine pre1 rfl rfl dv (ws_ifF ?_ (ws_ifT ?_ ?_))
    · walk_at "d"
      exact ⟨rfl, rfl⟩
    · walk_at "d"
      exact ⟨rfl, rfl⟩
    refine ws_expr (we_methBig (cds := [exD K, .ptr tt, stpD (.scale a vd q)]) rfl (we_var rfl ⟨_, _, .inr ⟨v, rfl, x.hw⟩, by decide, wa_cons (we_var rfl (wa_cons (we_lamE (fun c => ⟨rfl, rfl⟩) fun f c => wa_nil ⟨[.str (lay a)], f, _, _, rfl, fun bs ws cf => ?_⟩)))⟩))
    have c_Exact_scaled := d_Exact_scaled bs
    have c_ratio_of := d_ratio_of bs
    refine ⟨M0, v, td, ts, p.n, p.fs, a, tt, mulT q (p.f a), f, _, _, ws, _, ["pair", "make", "table", "step"], _, rfl, x, et, hb, n9, lam_fnr (ps := ["pair"]) (fr := ["make", "table", "step"]) (NdefX.nscope_by (by rfl)) (fun _ _ us hl => match us, hl with | [_], _ => rfl) cf (fun A outer s H E hr => (pe_calM c_Exact_scaled (pv 1) (hr.mono (by decide)) (pa_cons (pe_dget (hu_of hr) (pv 2) (pv 0) (fun _ _ => rfl)) (pa_cons (pe_cal c_ratio_of (hr.mono (by decide)) (by rfl) (pa_cons (pe_ix (ix_tupK (K := K)) (pv 3) pe_int (fun _ _ => rfl)) pa_nil)) pa_nil)))), fun i j hi hj hne => ?_, fun M' hM' => ?_⟩
    · refine we_ex rfl (wa_cons (we_dgetT (we_var rfl (we_var rfl ⟨tt, _, _, pk i j, _, .inr ⟨rfl, gt⟩, rfl, tab.val i hi j hj, wa_cons ?_⟩))))
      walk_at "e"
      refine ⟨vd, q, rfl, hv, wa_nil ⟨_, p.f a i j, q, rfl, lv_fit (hlv i hi j hj) (by omega), lv_fit hq' (by omega), rfl, rfl⟩⟩
    · refine k _ (hM'.congr hb fun i hi j hj => ?_)
      by_cases e : i = j
      · subst e
        rw [if_pos rfl]
        exact (hmet.dg i hi).trans ((mul_met hmet hpos).dg i hi).symm
      · rw [if_neg e]
  | round b =>
    cases hly
    have hb : a < p.fs.length := hs
    obtain ⟨tt, ks0, ds0, et, gt, tab, dv⟩ := x.at_ hb
    have hlv := ht.lv _ (f_mem hb)
    have hmet := ht.met _ (f_mem hb)
    refine pre1 rfl rfl dv (ws_ifF ?_ (ws_ifF ?_ (ws_ifT ?_ ?_)))
    · walk_at "d"
      exact ⟨rfl, rfl⟩
    · walk_at "d"
      exact ⟨rfl, rfl⟩
    · walk_at "d"
      exact ⟨rfl, rfl⟩
    refine ws_expr (we_methBig (cds := [exD K, .ptr tt]) rfl (we_var rfl ⟨_, _, .inr ⟨v, rfl, x.hw⟩, by decide, wa_cons (we_var rfl (wa_cons (we_lamE (fun c => ⟨rfl, rfl⟩) fun f c => wa_nil ⟨[.str (lay a)], f, _, _, rfl, fun bs ws cf => ?_⟩)))⟩))
    have c_Exact_joined := d_Exact_joined bs
    refine ⟨M0, v, td, ts, p.n, p.fs, a, tt, sumT (p.f a), f, _, _, ws, _, ["pair", "make", "table"], _, rfl, x, et, hb, n9, lam_fnr (ps := ["pair"]) (fr := ["make", "table"]) (NdefX.nscope_by (by rfl)) (fun _ _ us hl => match us, hl with | [_], _ => rfl) cf (fun A outer s H E hr => (pe_calMR c_Exact_joined (pv 1) (hr.mono (by decide)) (pa_cons (pe_dget (hu_of hr) (pv 2) (pv 0) (fun _ _ => rfl)) (pa_cons (pe_dget (hu_of hr) (pv 2) (pe_tup (pa_cons (pe_ix (ix_tupK (K := K)) (pv 0) pe_int (fun _ _ => rfl)) (pa_cons (pe_ix (ix_tupK (K := K)) (pv 0) pe_int (fun _ _ => rfl)) pa_nil))) (fun _ _ => rfl)) pa_nil)))), fun i j hi hj hne => ?_, fun M' hM' => ?_⟩
    · refine we_exR rfl (wa_cons (we_dgetT (we_var rfl (we_var rfl ⟨tt, _, _, pk i j, _, .inr ⟨rfl, gt⟩, rfl, tab.val i hi j hj, wa_cons (we_dgetT (we_var rfl (we_tp (wa_cons (we_op (we_var rfl (we_int (opd_ixP (d := .int (j : Nat)) rfl (wa_cons (we_op (we_var rfl (we_int (opd_ixP (d := .int (i : Nat)) rfl (wa_nil ⟨sz_ok rfl, ?_⟩))))))))))))))⟩))))
      refine ⟨tt, _, _, pk j i, _, .inr ⟨rfl, gt⟩, rfl, tab.val j hj i hi, wa_nil ⟨_, _, rfl, by simp, _, [p.f a i j, p.f a j i], rfl, ?_, ?_, ?_, rfl⟩⟩
      · intro r hr
        simp only [List.mem_cons, List.not_mem_nil, or_false] at hr
        rcases hr with rfl | rfl
        · exact lv_fit (hlv i hi j hj) (by omega)
        · exact lv_fit (hlv j hj i hi) (by omega)
      · exact fit_two (by omega) (hlv i hi j hj) (hlv j hj i hi)
      · show ratD (0 + p.f a i j + p.f a j i) = _
        rw [Rat.zero_add]
        rfl
    · refine k _ (hM'.congr hb fun i hi j hj => ?_)
      by_cases e : i = j
      · subst e
        rw [if_pos rfl]
        exact (hmet.dg i hi).trans ((sum_met hmet).dg i hi).symm
      · rw [if_neg e]
  | road b sn gn vd q =>
    cases hly
    obtain ⟨hb, hsn, hgn, hv, hq⟩ := hs
    obtain ⟨pp, sk, sd, rfl, hsp, _⟩ := hsp
    obtain ⟨tt, ks0, ds0, et, gt, tab, dv⟩ := x.at_ hb
    have hq' := lv_mono hq (Nat.zero_le l)
    have hlv := ht.lv _ (f_mem hb)
    have hmet := ht.met _ (f_mem hb)
    refine pre1 rfl rfl dv (ws_ifF ?_ (ws_ifF ?_ (ws_ifF ?_ (ws_seq (ws_par3 ?_)))))
    · walk_at "d"
      exact ⟨rfl, rfl⟩
    · walk_at "d"
      exact ⟨rfl, rfl⟩
    · walk_at "d"
      exact ⟨rfl, rfl⟩
    refine wa_cons (we_dget (we_var rfl (we_op (we_var rfl (we_int (opd_ixT (d := .str sn) rfl ⟨pp, _, _, .inr sn, _, .inl rfl, rfl, hsp sn hsn, ?_⟩))))))
    refine wa_cons (we_dget (we_var rfl (we_op (we_var rfl (we_int (opd_ixT (d := .str gn) rfl ⟨pp, _, _, .inr gn, _, .inl rfl, rfl, hsp gn hgn, ?_⟩))))))
    refine wa_cons (we_ex rfl (wa_cons ?_))
    walk_at "e"
    refine ⟨vd, q, rfl, hv, wa_nil ⟨_, _, rfl, wa_nil ⟨_, _, _, rfl, ?_⟩⟩⟩
    show WS K T _ _ _ _
    refine ws_seq (ws_ifF ?_ (ws_nx ?_))
    · walk_at "d"
      exact ⟨rfl, rfl⟩
    show WS K T _ _ _ _
    refine ws_expr (we_meth (we_var rfl ⟨_, _, .inr ⟨v, rfl, x.hw⟩, by decide, wa_cons (we_var rfl (wa_cons (we_var rfl (wa_cons (we_var rfl (wa_cons (we_var rfl (wa_nil ?_))))))))⟩))
    exact ⟨M0, v, p.n, l, a, p.at sn, p.at gn, q, p.fs, rfl, hw, hb, n9, (at_of hm hsn).2, (at_of hm hgn).2, by omega, hlv, hmet, hq', fun M' h => k M' h⟩
  | ride b sn gn vd q =>
    cases hly
    obtain ⟨hb, h2, hsn, hgn, hv, hq⟩ := hs
    obtain ⟨pp, sk, sd, rfl, hsp, _⟩ := hsp
    obtain ⟨tt, ks0, ds0, et, gt, tab, dv⟩ := x.at_ hb
    have hb2 : 1 - a < p.fs.length := by omega
    obtain ⟨t2, ks2, ds2, et2, gt2, tab2, dv2⟩ := x.at_ hb2
    have hq' := lv_mono hq (Nat.zero_le l)
    have hlv := ht.lv _ (f_mem hb)
    have hlv2 := ht.lv _ (f_mem hb2)
    have hmet := ht.met _ (f_mem hb)
    have ps := (at_of hm hsn).2
    have pg := (at_of hm hgn).2
    refine pre1 rfl rfl dv (ws_ifF ?_ (ws_ifF ?_ (ws_ifF ?_ (ws_seq (ws_par3 ?_)))))
    · walk_at "d"
      exact ⟨rfl, rfl⟩
    · walk_at "d"
      exact ⟨rfl, rfl⟩
    · walk_at "d"
      exact ⟨rfl, rfl⟩
    refine wa_cons (we_dget (we_var rfl (we_op (we_var rfl (we_int (opd_ixT (d := .str sn) rfl ⟨pp, _, _, .inr sn, _, .inl rfl, rfl, hsp sn hsn, ?_⟩))))))
    refine wa_cons (we_dget (we_var rfl (we_op (we_var rfl (we_int (opd_ixT (d := .str gn) rfl ⟨pp, _, _, .inr gn, _, .inl rfl, rfl, hsp gn hgn, ?_⟩))))))
    refine wa_cons (we_ex rfl (wa_cons ?_))
    walk_at "e"
    refine ⟨vd, q, rfl, hv, wa_nil ⟨_, _, rfl, wa_nil ⟨_, _, _, rfl, ?_⟩⟩⟩
    show WS K T _ _ _ _
    refine ws_seq (ws_ifT ?_ ?_)
    · walk_at "d"
      exact ⟨rfl, rfl⟩
    have a01 : a = 0 ∨ a = 1 := by omega
    have beside : atI [D.str "foot", D.str "cart"] ((1 : Int) - (a : Nat)) = some (.str (lay (1 - a))) := by
      rcases a01 with rfl | rfl <;> rfl
    refine ws_seq (ws_asgN (we_op (we_layers L (we_op (we_int (we_layIx L (wa_cons (we_var rfl (wa_nil ⟨a, by omega, rfl, opd_sub (opd_ixT beside ?_)⟩)))))))))
    show WS K T _ _ _ _
    refine ws_asgN (we_exR rfl (wa_cons (we_var rfl (wa_cons (we_dgetT (we_wtab WF x rfl rfl dv2 (we_pk (a := p.at sn) (b := p.at gn) rfl rfl ⟨t2, _, _, _, _, .inr ⟨rfl, gt2⟩, rfl, tab2.val _ ps _ pg, wa_nil ⟨_, _, rfl, by simp, _, [q, p.f (1 - a) (p.at sn) (p.at gn)], rfl, ?_, ?_, ?_⟩⟩)))))))
    · intro r hr
      simp only [List.mem_cons, List.not_mem_nil, or_false] at hr
      rcases hr with rfl | rfl
      · exact lv_fit hq' (by omega)
      · exact lv_fit (hlv2 _ ps _ pg) (by omega)
    · exact fit_two (by omega) hq' (hlv2 _ ps _ pg)
    have e0 : [q, p.f (1 - a) (p.at sn) (p.at gn)].foldl (· + ·) 0 = q + p.f (1 - a) (p.at sn) (p.at gn) := by
      show 0 + q + _ = _
      rw [Rat.zero_add]
    rw [e0]
    show WS K T _ _ _ _
    refine ws_expr (we_meth (we_var rfl ⟨_, _, .inr ⟨v, rfl, x.hw⟩, by decide, wa_cons (we_var rfl (wa_cons (we_var rfl (wa_cons (we_var rfl (wa_cons (we_var rfl (wa_nil ?_))))))))⟩))
    exact ⟨M0, v, p.n, l + 1, a, p.at sn, p.at gn, q + p.f (1 - a) (p.at sn) (p.at gn), p.fs, rfl, hw, hb, n9, ps, pg, by omega, hlv.mono (by omega), hmet, lv_add hq' (hlv2 _ ps _ pg), fun M' h => k M' h⟩
  | place _ _ _ _ _ _ => cases hly
  | same _ _ => cases hly
  | forget _ => cases hly
  | turn => cases hly
end
end Dl
end
/-! ## P26 -/
section
set_option maxRecDepth 100000
set_option maxHeartbeats 1000000
namespace Dl
open PySem PySem.Spec PyProof.Rows L2 Mx
local macro_rules | `(tactic| walk_at "d1") => `(tactic| with_reducible first
  | refine ws_seq ?_ | refine ws_asgN ?_ | refine ws_asg ?_ | refine wg_name ?_ | refine ws_ret ?_ | refine ws_nx ?_ | refine ws_expr ?_
  | refine we_op ?_ | refine we_un ?_ | refine we_int ?_ | refine we_str ?_ | refine we_bl ?_ | refine we_non ?_ | refine we_ty ?_ | refine we_if ?_ | refine we_and ?_ | refine we_or ?_ | refine we_not ?_ | refine we_chain ?_
  | refine we_tup ?_ | refine we_lst ?_ | refine we_listRng ?_ | refine we_isi2 ?_ | refine we_cb ?_ | refine we_call ?_ | refine wa_cons ?_ | refine wa_nil ?_ | refine we_sl ?_ | refine wo_no ?_ | refine wo_some ?_
  | refine wt_test ?_ | refine wt_B ?_ | refine wt_and ?_ | refine wt_or ?_ | refine wt_not ?_ | refine wt_yes ?_
  | refine opd_add ?_ | refine opd_sub ?_ | refine opd_lt ?_ | refine opd_le ?_ | refine opd_gt ?_ | refine opd_ge ?_ | refine opd_eqI ?_ | refine opd_neI ?_ | refine opd_eqS ?_ | refine opd_neS ?_ | refine opd_isN ?_ | refine opd_notN ?_
  | refine opd_mulW ?_ ?_ | refine opd_mul ?_ ?_ | refine opd_pow ?_ ?_ | refine opd_fdivW ?_ ?_ | refine opd_modN ?_ ?_
  | refine cad_gcd ?_ | refine cad_int1 ?_ | refine cad_intB ?_ | refine cad_abs ?_ | refine cad_lenT ?_ | refine cad_lenL ?_ | refine cad_lenLL ?_ | refine cad_list ?_ | refine sld_lst ?_ | refine sld_tup ?_ | refine sld_tp ?_
  | refine we_fld ?_ | refine we_meth ?_ | refine we_methR ?_ | refine we_prop ?_ | refine ws_par ?_ | refine ite_t ?_ | refine ite_f ?_ | fail)
local macro_rules | `(tactic| walk_at "d2") => `(tactic| first
  | refine we_var rfl ?_ | (with_reducible refine we_zero (by assumption) ?_) | (with_reducible refine we_layers (by assumption) ?_) | refine opd_ixT rfl ?_ | refine opd_ixP rfl ?_ | (with_reducible refine opd_ixL (atI_rng (by assumption)) ?_) | (with_reducible refine ws_asgN ?_) | fail)
local macro_rules | `(tactic| walk_at "d3") => `(tactic| first | (with_reducible refine ⟨_, rfl, ?_⟩) | (with_reducible refine ⟨sz_ok rfl, ?_⟩) | (with_reducible refine ⟨_, _, rfl, ?_⟩) | fail)
local macro_rules | `(tactic| walk_at "e") => `(tactic| repeat' (first | walk_at "d1" | walk_at "d2" | walk_at "d3" | fail))
local macro_rules | `(tactic| walk_at "d") => `(tactic| repeat' (first | walk_at "d1" | walk_at "d2" | walk_at "d3" | (with_reducible refine ws_if ?_) | fail))
section
variable {P : Program} {w : World} {K : PySem.W.Frag} {T : Tb} {mg : Str → Option Value} {base : Heap}
def mixL (F : Tab → Tab) (i : Nat) (fs : List Tab) : List Tab := (fs.take i).map F ++ fs.drop i
theorem mix_len (F : Tab → Tab) (i : Nat) (fs : List Tab) : (mixL F i fs).length = fs.length := by unfold mixL; simp; omega
theorem mix_at {F : Tab → Tab} {i : Nat} {fs : List Tab} (h : i < fs.length) : (mixL F i fs).getD i (fun _ _ => 0) = fs.getD i fun _ _ => 0 := by
  unfold mixL
  rw [List.getD_eq_getElem?_getD, List.getD_eq_getElem?_getD, List.getElem?_append_right (by simp; omega)]
  simp only [List.length_map, List.length_take, List.getElem?_drop]
  congr 2
  omega
theorem mix_set {F : Tab → Tab} {i : Nat} {fs : List Tab} (h : i < fs.length) : (mixL F i fs).set i (F (fs.getD i fun _ _ => 0)) = mixL F (i + 1) fs := by
  unfold mixL
  have e1 : ((fs.take i).map F).length = i := by simp; omega
  have e2 := List.drop_eq_getElem_cons h
  have e3 : fs.take (i + 1) = fs.take i ++ [fs[i]] := by rw [List.take_succ, List.getElem?_eq_getElem h]; rfl
  have e4 : fs.getD i (fun _ _ => 0) = fs[i] := by rw [List.getD_eq_getElem?_getD, List.getElem?_eq_getElem h]; rfl
  rw [e3, e4, List.set_append_right _ _ (by omega), e1, Nat.sub_self, e2, List.set_cons_zero, List.map_append, List.append_assoc]
  rfl
theorem opd_ixE {M : MS} {R : D → MS → Prop} {d e : D} {ds : List D} {i : Int} (h : d = .tup ds) (hi : atI ds i = some e) (q : R e M) : OpD K T (rIxT K) d (.int i) M R := by
  subst h
  exact opd_ixT hi q
abbrev N_Ways_step : List Str := ["self", "step", "spots", "make", "word", "one", "other", "layer"]
theorem sc_Ways_step : FnScope N_Ways_step ["self", "step", "spots"] (defScope (mtop 47 5)) := ⟨rfl, rfl, rfl, by decide +kernel, rfl, by decide +kernel, by decide +kernel⟩
def preWStep : Pre := fun ds M R => ∃ (M0 : MS) (v l : Nat) (p : Pl) (s : Stp) (sp : D), ds = [.ptr v, stpD s, sp] ∧ WaysAt K M0 M v p.n p.fs ∧ PlOk l p ∧ StpOk p s ∧ l ≤ 26 ∧ (∀ a, s ≠ .forget a) ∧ SpotD p s sp ∧ ∀ M', WaysAt K M0 M' v (ap p s).n (ap p s).fs → R .non M'
theorem ok_Ways_step (L : Lib K mg) (WF : WyFacts K) (F : MeAt K "Ways" "step" "Ways.step" (mtop 47 5) [] []) (c_Ways_turn : CalM P w K T mg base "Ways" "turn" 1 ["self"] [] (preTurn (K := K))) (c_Ways_road : CalM P w K T mg base "Ways" "road" 4 ["self", "layer", "start", "goal", "length"] [] (preRoad (K := K)))
    (c_Ways_put : CalM P w K T mg base "Ways" "put" 4 ["self", "point", "by", "forth", "back"] [] (preWPut (K := K))) (c_Ways_layer_step : CalM P w K T mg base "Ways" "layer_step" 8 ["self", "step", "spots"] [] (preWLS (K := K))) (c_Exact_fixed : CFixed P w K T mg base) (c_ratio_of : Cal P w K T mg base "ratio_of" 3 ["value"] preRatioOf) :
    CalM P w K T mg base "Ways" "step" 9 ["self", "step", "spots"] [] (preWStep (K := K)) := by
  refine calM_of F sc_Ways_step (fun ds M R h => by obtain ⟨_, _, _, _, _, _, rfl, _⟩ := h; rfl) (fun _ _ _ _ _ _ us hl => match us, hl with | [_, _, _], _ => rfl) fun f cdv A outer s H E hr => ⟨_, (pss_cons (ps_par (i := 3) (j := 4) (by rfl) sc_Ways_step.nd rfl rfl (by decide) rfl rfl (pa_cons (pe_fldK (K := K) (pv 0) rfl) (pa_cons (pe_ix (ix_tupK (K := K)) (pv 1) pe_int (fun _ _ => rfl)) pa_nil)) (by rfl))
    (pss_one (ps_if (pt_cmpR op_eq (pv 4) pe_str (nomark _)) (pss_one (ps_expr (pe_calM0 c_Ways_turn (pv 0) (hr.mono (by decide))))) (pss_one (ps_if (pt_cmpR op_eq (pv 4) pe_str (nomark _)) (pss_cons (ps_par (i := 5) (j := 6) (by rfl) sc_Ways_step.nd rfl rfl (by decide) rfl rfl (pa_cons (pe_dget (hu_of hr) (pv 2) (pe_ix (ix_tupK (K := K)) (pv 1) pe_int (fun _ _ => rfl)) (fun _ _ => rfl)) (pa_cons (pe_dget (hu_of hr) (pv 2) (pe_ix (ix_tupK (K := K)) (pv 1) pe_int (fun _ _ => rfl)) (fun _ _ => rfl)) pa_nil)) (by rfl))
    (pss_one (ps_for PassesOwn.never rfl (pi_listK (K := K) (pe_callTy (call_listD rfl) (by rfl) L.list_ (by decide +kernel) (pa_cons (pe_fldK (K := K) (pv 0) rfl) pa_nil))) (pg_name (i := 7) sc_Ways_step.nd rfl (by first | exact Or.inl rfl | exact Or.inr rfl)) (pss_cons (ps_expr (pe_calM c_Ways_road (pv 0) (hr.mono (by decide)) (pa_cons (pv 7) (pa_cons (pv 5) (pa_cons (pv 6) (pa_cons (pe_calM c_Exact_fixed (pv 3) (hr.mono (by decide)) (pa_cons (pe_glob (v := .ref (ga K "ZERO")) (by rfl) L.gZERO rfl) pa_nil)) pa_nil))))))
    (pss_one (ps_expr (pe_calM c_Ways_road (pv 0) (hr.mono (by decide)) (pa_cons (pv 7) (pa_cons (pv 6) (pa_cons (pv 5) (pa_cons (pe_calM c_Exact_fixed (pv 3) (hr.mono (by decide)) (pa_cons (pe_glob (v := .ref (ga K "ZERO")) (by rfl) L.gZERO rfl) pa_nil)) pa_nil))))))))))) (pss_one (ps_if (pt_cmpR op_eq (pv 4) pe_str (nomark _)) (pss_one (ps_expr (pe_calM c_Ways_put (pv 0) (hr.mono (by decide)) (pa_cons (pe_dget (hu_of hr) (pv 2) (pe_ix (ix_tupK (K := K)) (pv 1) pe_int (fun _ _ => rfl)) (fun _ _ => rfl)) (pa_cons (pe_dget (hu_of hr) (pv 2) (pe_ix (ix_tupK (K := K)) (pv 1) pe_int (fun _ _ => rfl)) (fun _ _ => rfl)) (pa_cons (pe_cal c_ratio_of (hr.mono (by decide)) (by rfl) (pa_cons (pe_ix (ix_tupK (K := K)) (pv 1) pe_int (fun _ _ => rfl)) pa_nil)) (pa_cons (pe_cal c_ratio_of (hr.mono (by decide)) (by rfl) (pa_cons (pe_ix (ix_tupK (K := K)) (pv 1) pe_int (fun _ _ => rfl)) pa_nil)) pa_nil))))))) (pss_one (ps_expr (pe_calM c_Ways_layer_step (pv 0) (hr) (pa_cons (pv 1) (pa_cons (pv 2) pa_nil)))))))))))), fun ds M R h => ?_⟩
  obtain ⟨M0, v, l, p, s, sp, rfl, ⟨td, ts, x⟩, ok, hs, hl, hnf, hsp, k⟩ := h
  have ht := ok.t
  have hm := ok.m
  have n9 := ht.n9
  have hw : WaysAt K M0 M v p.n p.fs := ⟨td, ts, x⟩
  have late : ∀ {RS : DE} {G : Sl} {a : Nat}, G[0]? = some (some (.ptr v)) → G[1]? = some (some (stpD s)) → G[2]? = some (some sp) → lyr s = some a → (∀ M', WaysAt K M0 M' v p.n (ap p s).fs → RS.nx G M') → WS K T (tDrop (tMeth (ga K "Ways") "layer_step" (SpD K T (preWLS (K := K))) [] E0 (tVar 0) (tCons (tVar 1) (tCons (tVar 2) tNil)))) G M RS := fun {RS G a} g0 g1 g2 hly q =>
    ws_expr (we_meth (we_var g0 ⟨_, _, .inr ⟨v, rfl, x.hw⟩, by decide, wa_cons (we_var g1 (wa_cons (we_var g2 (wa_nil ⟨M0, v, l, a, p, s, sp, rfl, hw, ok, hs, hl, hly, hsp, q⟩))))⟩))
  have go : ∀ {RS : DE} {t : TS} {wd : Str} {ds : List D}, stpD s = .tup (.str wd :: ds) → WS K T t [some (.ptr v), some (stpD s), some sp, some (exD K), some (.str wd), none, none, none] M RS →
      WS K T (tSeq (tPar 3 4 (tCons (tFld K (tVar 0) "reckoner") (tCons (tOp (rIxT K) (tVar 1) (tC (.int 0))) tNil))) t) [some (.ptr v), some (stpD s), some sp, none, none, none, none, none] M RS := fun {RS t wd ds} e h =>
    ws_seq (ws_par (wa_cons (we_wreck WF x rfl (wa_cons (we_op (we_var rfl (we_int (opd_ixE e (atI_head _ _) (wa_nil ⟨_, _, rfl, h⟩)))))))))
  cases s with
  | turn =>
    refine go rfl (ws_ifT ?_ ?_)
    · walk_at "d"
      exact ⟨rfl, rfl⟩
    exact ws_expr (we_meth (we_var rfl ⟨_, _, .inr ⟨v, rfl, x.hw⟩, by decide, wa_nil ⟨M0, v, p.n, p.fs, rfl, hw, n9, fun M' h => k M' h⟩⟩))
  | same a b =>
    obtain ⟨ha, hb, hab⟩ := hs
    obtain ⟨pp, sk, sd, rfl, hsp, _⟩ := hsp
    have pa := (at_of hm ha).2
    have pb := (at_of hm hb).2
    have z := lv_zero l
    refine go rfl (ws_ifF ?_ (ws_ifT ?_ ?_))
    · walk_at "d"
      exact ⟨rfl, rfl⟩
    · walk_at "d"
      exact ⟨rfl, rfl⟩
    refine ws_seq (ws_par (wa_cons (we_dget (we_var rfl (we_op (we_var rfl (we_int (opd_ixT (d := .str a) rfl ⟨pp, _, _, .inr a, _, .inl rfl, rfl, hsp a ha, wa_cons (we_dget (we_var rfl (we_op (we_var rfl (we_int (opd_ixT (d := .str b) rfl ⟨pp, _, _, .inr b, _, .inl rfl, rfl, hsp b hb, wa_nil ⟨_, _, rfl, ?_⟩⟩))))))⟩))))))))
    show WS K T _ _ _ _
    generalize hF : (fun f => roadT (p.at b) (p.at a) 0 (roadT (p.at a) (p.at b) 0 f)) = F at k
    refine ws_for (wi_list (we_wkeys WF x rfl ⟨_, rfl, fun i G M' => ∃ y, WaysAt K M0 M' v p.n (mixL F i p.fs) ∧ G = [some (.ptr v), some (stpD (.same a b)), some (.dK pp sk sd), some (exD K), some (.str "same"), some (.int (p.at a : Nat)), some (.int (p.at b : Nat)), y], ⟨_, ?_, rfl⟩, ?_, ?_⟩))
    · unfold mixL
      rw [List.take_zero, List.map_nil, List.nil_append, List.drop_zero]
      exact hw
    · rintro i d G1 M1 hd ⟨y, hw1, rfl⟩
      obtain ⟨rfl, hi⟩ := lays_get hd
      have hi' : i < (mixL F i p.fs).length := by rw [mix_len]; exact hi
      have fm := f_mem (p := p) hi
      have hmf := ht.met _ fm
      have hlf := ht.lv _ fm
      have em : (mixL F i p.fs).getD i (fun _ _ => 0) = p.f i := mix_at hi
      obtain ⟨td1, ts1, x1⟩ := id hw1
      refine wg_name ?_
      show WS K T _ _ _ _
      refine ws_seq (ws_expr (we_meth (we_var rfl ⟨_, _, .inr ⟨v, rfl, x1.hw⟩, by decide, wa_cons (we_var rfl (wa_cons (we_var rfl (wa_cons (we_var rfl (wa_cons (we_ex rfl (wa_cons (we_zero L (wa_nil ⟨_, _, rfl, wa_nil ?_⟩))))))))))⟩)))
      refine ⟨M0, v, p.n, l, i, p.at a, p.at b, 0, mixL F i p.fs, rfl, hw1, hi', n9, pa, pb, by omega, by rw [em]; exact hlf, by rw [em]; exact hmf, z, fun M2 hw2 => ?_⟩
      obtain ⟨td2, ts2, x2⟩ := id hw2
      rw [em] at hw2
      show WS K T _ _ _ _
      have hi2 : i < ((mixL F i p.fs).set i (roadT (p.at a) (p.at b) 0 (p.f i))).length := by rw [List.length_set]; exact hi'
      have e2 : ((mixL F i p.fs).set i (roadT (p.at a) (p.at b) 0 (p.f i))).getD i (fun _ _ => 0) = roadT (p.at a) (p.at b) 0 (p.f i) := fsd_self hi'
      refine ws_expr (we_meth (we_var rfl ⟨_, _, .inr ⟨v, rfl, x2.hw⟩, by decide, wa_cons (we_var rfl (wa_cons (we_var rfl (wa_cons (we_var rfl (wa_cons (we_ex rfl (wa_cons (we_zero L (wa_nil ⟨_, _, rfl, wa_nil ?_⟩))))))))))⟩))
      refine ⟨M0, v, p.n, l, i, p.at b, p.at a, 0, _, rfl, hw2, hi2, n9, pb, pa, by omega, by rw [e2]; exact road_lv hlf pa pb z, by rw [e2]; exact road_met hmf pa pb (by grind), z, fun M3 hw3 => ⟨_, ?_, rfl⟩⟩
      rw [e2, List.set_set] at hw3
      rw [← mix_set hi, ← hF]
      rw [← hF] at hw3
      exact hw3
    · rintro G1 M1 ⟨y, hw1, rfl⟩
      rw [List.length_map, lay_len] at hw1
      unfold mixL at hw1
      rw [List.take_length, List.drop_length, List.append_nil] at hw1
      refine k _ ?_
      show WaysAt K M0 M1 v p.n (p.fs.map _)
      rw [hF]
      exact hw1
  | place x' b vd q vd' q' =>
    obtain ⟨hg, hx, hb, hv, hq, hv', hq', h4, h7⟩ := hs
    obtain ⟨pp, sk, sd, rfl, hsp, hsp2⟩ := hsp
    refine go rfl (ws_ifF ?_ (ws_ifF ?_ (ws_ifT ?_ ?_)))
    · walk_at "d"
      exact ⟨rfl, rfl⟩
    · walk_at "d"
      exact ⟨rfl, rfl⟩
    · walk_at "d"
      exact ⟨rfl, rfl⟩
    refine ws_expr (we_meth (we_var rfl ⟨_, _, .inr ⟨v, rfl, x.hw⟩, by decide, ?_⟩))
    refine wa_cons (we_dget (we_var rfl (we_op (we_var rfl (we_int (opd_ixT (d := .str x') rfl ⟨pp, _, _, .inr x', _, .inl rfl, rfl, hsp2 _ _ _ _ _ _ rfl, ?_⟩))))))
    refine wa_cons (we_dget (we_var rfl (we_op (we_var rfl (we_int (opd_ixT (d := .str b) rfl ⟨pp, _, _, .inr b, _, .inl rfl, rfl, hsp b hb, wa_cons ?_⟩))))))
    walk_at "e"
    refine ⟨vd, q, rfl, hv, wa_cons ?_⟩
    walk_at "e"
    refine ⟨vd', q', rfl, hv', wa_nil ⟨M0, v, p.n, l, p.at b, q, q', p.fs, rfl, hw, n9, (at_of hm hb).2, by omega, ht.lv, lv_mono hq (Nat.zero_le l), lv_mono hq' (Nat.zero_le l), fun M' h => k M' h⟩⟩
  | forget a => exact absurd rfl (hnf a)
  | cap b vd q =>
    refine go rfl (ws_ifF ?_ (ws_ifF ?_ (ws_ifF ?_ (late rfl rfl rfl rfl fun M' h => k M' h))))
    all_goals (walk_at "d"; exact ⟨rfl, rfl⟩)
  | scale b vd q =>
    refine go rfl (ws_ifF ?_ (ws_ifF ?_ (ws_ifF ?_ (late rfl rfl rfl rfl fun M' h => k M' h))))
    all_goals (walk_at "d"; exact ⟨rfl, rfl⟩)
  | round b =>
    refine go rfl (ws_ifF ?_ (ws_ifF ?_ (ws_ifF ?_ (late rfl rfl rfl rfl fun M' h => k M' h))))
    all_goals (walk_at "d"; exact ⟨rfl, rfl⟩)
  | road b sn gn vd q =>
    refine go rfl (ws_ifF ?_ (ws_ifF ?_ (ws_ifF ?_ (late rfl rfl rfl rfl fun M' h => k M' h))))
    all_goals (walk_at "d"; exact ⟨rfl, rfl⟩)
  | ride b sn gn vd q =>
    refine go rfl (ws_ifF ?_ (ws_ifF ?_ (ws_ifF ?_ (late rfl rfl rfl rfl fun M' h => k M' h))))
    all_goals (walk_at "d"; exact ⟨rfl, rfl⟩)
end
end Dl
end
/-! ## P27 -/
section
set_option maxRecDepth 100000
set_option maxHeartbeats 1000000
namespace Dl
open PySem PySem.Spec PyProof.Rows L2 Mx
local macro_rules | `(tactic| walk_at "d1") => `(tactic| with_reducible first
  | refine ws_seq ?_ | refine ws_asgN ?_ | refine ws_asg ?_ | refine wg_name ?_ | refine ws_ret ?_ | refine ws_nx ?_ | refine ws_expr ?_
  | refine we_op ?_ | refine we_un ?_ | refine we_int ?_ | refine we_str ?_ | refine we_bl ?_ | refine we_non ?_ | refine we_ty ?_ | refine we_if ?_ | refine we_and ?_ | refine we_or ?_ | refine we_not ?_ | refine we_chain ?_
  | refine we_tup ?_ | refine we_lst ?_ | refine we_listRng ?_ | refine we_isi2 ?_ | refine we_cb ?_ | refine we_call ?_ | refine wa_cons ?_ | refine wa_nil ?_ | refine we_sl ?_ | refine wo_no ?_ | refine wo_some ?_
  | refine wt_test ?_ | refine wt_B ?_ | refine wt_and ?_ | refine wt_or ?_ | refine wt_not ?_ | refine wt_yes ?_
  | refine opd_add ?_ | refine opd_sub ?_ | refine opd_lt ?_ | refine opd_le ?_ | refine opd_gt ?_ | refine opd_ge ?_ | refine opd_eqI ?_ | refine opd_neI ?_ | refine opd_eqS ?_ | refine opd_neS ?_ | refine opd_isN ?_ | refine opd_notN ?_
  | refine opd_mulW ?_ ?_ | refine opd_mul ?_ ?_ | refine opd_pow ?_ ?_ | refine opd_fdivW ?_ ?_ | refine opd_modN ?_ ?_
  | refine cad_gcd ?_ | refine cad_int1 ?_ | refine cad_intB ?_ | refine cad_abs ?_ | refine cad_lenT ?_ | refine cad_lenL ?_ | refine cad_lenLL ?_ | refine cad_list ?_ | refine sld_lst ?_ | refine sld_tup ?_ | refine sld_tp ?_
  | refine we_fld ?_ | refine we_meth ?_ | refine we_methR ?_ | refine we_prop ?_ | refine ws_par ?_ | refine ite_t ?_ | refine ite_f ?_ | fail)
local macro_rules | `(tactic| walk_at "d2") => `(tactic| first
  | refine we_var rfl ?_ | (with_reducible refine we_zero (by assumption) ?_) | (with_reducible refine we_layers (by assumption) ?_) | refine opd_ixT rfl ?_ | refine opd_ixP rfl ?_ | (with_reducible refine opd_ixL (atI_rng (by assumption)) ?_) | (with_reducible refine ws_asgN ?_) | fail)
local macro_rules | `(tactic| walk_at "d3") => `(tactic| first | (with_reducible refine ⟨_, rfl, ?_⟩) | (with_reducible refine ⟨sz_ok rfl, ?_⟩) | (with_reducible refine ⟨_, _, rfl, ?_⟩) | fail)
local macro_rules | `(tactic| walk_at "e") => `(tactic| repeat' (first | walk_at "d1" | walk_at "d2" | walk_at "d3" | fail))
local macro_rules | `(tactic| walk_at "d") => `(tactic| repeat' (first | walk_at "d1" | walk_at "d2" | walk_at "d3" | (with_reducible refine ws_if ?_) | fail))
section
variable {P : Program} {w : World} {K : PySem.W.Frag} {T : Tb} {mg : Str → Option Value} {base : Heap}
theorem ps_lockA {X : Cx} {st : Stmt} {t : TE} {i : Nat} (h : PS X st (tAsg t (gName i))) : PS X st (tAsg (tLockE t) (gName i)) := ps_lock h
/-- what stands above M0 is mutable no more -/
theorem To.pop {X : List Addr} {H : Hp} {M0 : MS} : ∀ {l : List (Addr × MD)} {M : MS}, M.m = l ++ M0.m → M.lk = M0.lk → Ok K T X M H → To K T X M H M0 H
  | [], M, e1, e2, ok => by
    have e : M = M0 := by
      cases M
      cases M0
      simp at e1 e2
      rw [e1, e2]
    rw [e] at ok ⊢
    exact To.refl ok
  | (p, y) :: l, M, e1, e2, ok => by
    have e : M = addM ⟨l ++ M0.m, M0.lk⟩ p y := by
      cases M
      simp at e1 e2
      rw [e1, e2]
      rfl
    rw [e] at ok ⊢
    have t := (To.freeze ok).1
    exact t.trans (To.pop (l := l) rfl rfl t.ok)
theorem we_pop {te : TE} {G : Sl} {M : MS} {R : D → MS → Prop} (h : WE K T te G M fun d M1 => ∃ M0, Up M0 M1 ∧ R d M0) : WE K T te G M R := fun X σ H Q ok sl k =>
  h X σ H Q ok sl fun v H1 M1 d h1 t1 a1 => by
    obtain ⟨M0, ⟨⟨l, e1⟩, e2⟩, q⟩ := h1
    have t2 := To.pop e1 e2 t1.ok
    exact k v H1 M0 d q (t1.trans t2) (a1.to t2)
theorem lay_succ (i : Nat) : layK i ++ [.inr (lay i)] = layK (i + 1) := by
  unfold layK
  rw [List.range_succ, List.map_append]
  rfl
theorem lay_nin {i : Nat} (h : i < 2) : (.inr (lay i) : Key) ∉ layK i := fun z => by
  unfold layK at z
  obtain ⟨j, hj, e⟩ := List.mem_map.mp z
  have := List.mem_range.mp hj
  have h1 : i = 1 := by omega
  have h0 : j = 0 := by omega
  subst h1 h0
  exact absurd (Sum.inr.inj e) (by decide)
/-- the tables while the layers are read -/
structure LayX (M M' : MS) (td : Addr) (ts : List Addr) (n i : Nat) (fs : List Tab) : Prop where
  up : Up M M'
  lk : M'.lk = []
  nt : td ∉ domM M
  ht : getM M' td = some (.dK (layK i) (ts.map .ptr))
  len : ts.length = i
  nd : ts.Nodup
  tab : ∀ a t, ts[a]? = some t → t ∉ domM M ∧ ∃ ks ds, getM M' t = some (.dT ks ds) ∧ TabD n (fs.getD a fun _ _ => 0) ks ds
theorem LayX.next {M M' : MS} {td p : Addr} {ts : List Addr} {n i : Nat} {fs : List Tab} {ks : List (List Key)} {ds : List D} (x : LayX M M' td ts n i fs) (hp : p ∉ domM M') (h : TabD n (fs.getD i fun _ _ => 0) ks ds) :
    LayX M (setM (addM M' p (.dT ks ds)) td (.dK (layK i ++ [.inr (lay i)]) (ts.map .ptr ++ [.ptr p]))) td (ts ++ [p]) n (i + 1) fs := by
  have ne : td ≠ p := getM_ne x.ht hp
  refine ⟨(x.up.add p _).set x.nt _, x.lk, x.nt, ?_, by simp [x.len], nd_snoc x.nd fun z => ?_, fun a t e => ?_⟩
  · rw [getM_set, if_pos rfl, getM_addN ne, x.ht, lay_succ, List.map_append]
    rfl
  · obtain ⟨a, ha, e⟩ := List.getElem_of_mem z
    obtain ⟨_, _, _, g, _⟩ := x.tab a p (by rw [List.getElem?_eq_getElem ha, e])
    exact hp (getM_dom g)
  · by_cases ha : a < ts.length
    · rw [List.getElem?_append_left ha] at e
      obtain ⟨h1, ks', ds', g, h3⟩ := x.tab a t e
      exact ⟨h1, ks', ds', by rw [getM_set, if_neg (getM_some_ne g x.ht (by simp)), getM_addN (getM_ne g hp)]; exact g, h3⟩
    · have hl : a = i := by
        have := (List.getElem?_eq_some_iff.mp e).1
        rw [List.length_append, List.length_singleton] at this
        have := x.len
        omega
      subst hl
      rw [List.getElem?_append_right (by omega), x.len, Nat.sub_self] at e
      cases e
      exact ⟨x.up.dom hp, ks, ds, by rw [getM_set, if_neg (fun z => ne z.symm)]; exact getM_add, h⟩
abbrev N_ways_in : List Str := ["world", "spots", "at", "tables", "layer", "rows", "one", "other"]
theorem sc_ways_in : FnScope N_ways_in ["world"] (defScope (top 48)) := ⟨rfl, rfl, rfl, by decide +kernel, rfl, by decide +kernel, by decide +kernel⟩
def preWaysIn : Pre := fun ds M R => ∃ (l n : Nat) (fs : List Tab) (q : Addr) (nm : Nm), ds = [wD K (tabsD n fs) q nm] ∧ TabsOk l n fs ∧ M.lk = [] ∧ ∀ v M', WaysAt K M M' v n fs → R (.ptr v) M'
theorem ok_ways_in (L : Lib K mg) (W : WFacts K) (F : FnAt K mg "ways_in" (top 48)) (c_World_size : CalP P w K T mg base "World" "size" 1 (preSize (K := K))) (c_World_layers : CalP P w K T mg base "World" "layers" 1 (preLayers (K := K)))
    (c_World_table : CalM P w K T mg base "World" "table" 4 ["self", "layer"] [] (preTable (K := K))) (k_Exact : Mk0 K mg "Exact") (i_Ways : CalI P w K T mg base "Ways" 1 ["self", "reckoner", "spots", "tables"] (preWInit (K := K))) :
    Cal P w K T mg base "ways_in" 5 ["world"] (preWaysIn (K := K)) := by
  refine cal_of F sc_ways_in (fun ds M R h => by obtain ⟨_, _, _, _, _, rfl, _⟩ := h; rfl) (fun _ _ _ _ _ _ us hl => match us, hl with | [_], _ => rfl) fun f cdv A outer s H E hr => ⟨_, (pss_cons (ps_set (i := 1) sc_ways_in.nd rfl (Or.inr rfl) (pe_lc (own := [("at", 2)]) (tt := tYes) rfl sc_ways_in.nd (pi_range1 (by rfl) L.range_ (pa_cons (pe_propM c_World_size (pv 0) (hr.mono (by decide))) pa_nil)) (blkOk_by (own := [("at", 2)]) (N := N_ways_in) rfl) (fun _ _ _ _ _ => (pg_name (i := 2) sc_ways_in.nd rfl (by first | exact Or.inl rfl | exact Or.inr rfl))) (fun _ _ _ _ _ => pts_nil) (fun _ _ _ _ _ => (pv 2))))
    (pss_cons (ps_set (i := 3) sc_ways_in.nd rfl (by first | exact Or.inl rfl | exact Or.inr rfl) pe_dnewK)
    (pss_cons (ps_for PassesOwn.never rfl (pi_tupK (K := K) (pe_slice (sl_tupAK (K := K)) (pe_glob (v := .ref (ga K "LAYERS")) (by rfl) L.gLAYERS rfl) po_none (po_some (pe_propM c_World_layers (pv 0) (hr.mono (by decide)))))) (pg_name (i := 4) sc_ways_in.nd rfl (by first | exact Or.inl rfl | exact Or.inr rfl)) (pss_cons (ps_set (i := 5) sc_ways_in.nd rfl (by first | exact Or.inl rfl | exact Or.inr rfl) (pe_calM c_World_table (pv 0) (hr) (pa_cons (pv 4) pa_nil)))
    (pss_one (ps_dput (hu_of hr) (pv 3) (pv 4) (pe_dcT2 (own := [("one", 6), ("other", 7)]) (vs1 := [7]) (tt := tYes) (tt1 := tYes) rfl (Nat.lt_of_succ_lt (hu_of hr)) sc_ways_in.nd (pi_listK (K := K) (pv 1)) (blkOk_by (own := [("one", 6), ("other", 7)]) (N := N_ways_in) rfl) (by simp) (fun _ _ _ _ _ => (pg_name (i := 6) sc_ways_in.nd rfl (by first | exact Or.inl rfl | exact Or.inr rfl))) (fun _ _ _ _ _ => pts_nil) (fun _ _ _ _ _ => (pi_listK (K := K) (pv 1))) (fun _ _ _ _ _ => (pg_name (i := 7) sc_ways_in.nd rfl (by first | exact Or.inl rfl | exact Or.inr rfl))) (fun _ _ _ _ _ => pts_nil) (fun _ _ _ _ _ => (pe_tup (pa_cons (pv 6) (pa_cons (pv 7) pa_nil)))) (fun _ _ _ _ _ => (pe_ix (ix_listK (K := K)) (pe_ix (ix_listK (K := K)) (pv 5) (pv 6) (fun _ _ => rfl)) (pv 7) (fun _ _ => rfl)))) rfl))))
    (pss_one (ps_ret (pe_makeI i_Ways (hr.mono (by decide)) (by rfl) (pa_cons (pe_mkO k_Exact (by rfl)) (pa_cons (pv 1) (pa_cons (pv 3) pa_nil))))))))), fun ds M R h => ?_⟩
  obtain ⟨l, n, fs, q, nm, rfl, ok, hlk, k⟩ := h
  have n9 := ok.n9
  have hl2 : fs.length ≤ 2 := by rcases ok.len with h | h <;> omega
  obtain ⟨f0, rest, hfs⟩ : ∃ f0 rest, fs = f0 :: rest := by
    cases e : fs with
    | nil => rcases ok.len with h | h <;> (rw [e] at h; simp at h)
    | cons f0 rest => exact ⟨f0, rest, rfl⟩
  have hW : wD K (tabsD n fs) q nm = wD K (matD n f0 :: tabsD n rest) q nm := by rw [hfs]; rfl
  have htl : (tabsD n fs).length = fs.length := by rw [tabsD, List.length_map]
  refine ws_seq (ws_asgN (we_lcR (wa_cons (we_prop (we_var rfl ⟨_, _, .inl rfl, n, f0, tabsD n rest, q, nm, by rw [hW], wa_nil ⟨n, rfl, by omega, fun i => .int (i : Nat), fun i hi => we_var rfl ⟨rfl, rfl⟩, ?_⟩⟩)))))
  show WS K T _ _ _ _
  refine ws_seq (ws_asgN (we_dnK fun td htd => ?_))
  show WS K T _ _ _ _
  refine ws_seq (ws_for (wi_tup (we_sl (we_layers L (wo_no (wo_some (we_prop (we_var rfl ⟨_, _, .inl rfl, tabsD n fs, q, nm, rfl, ?_⟩))))))))
  refine ⟨_, rfl, sld_tup ⟨_, rfl, fun i G M' => ∃ ts u v y z, LayX M M' td ts n i fs ∧ G = [some (wD K (tabsD n fs) q nm), some (.lst (intsD n)), none, some (.ptr td), u, v, y, z], ⟨[], _, _, _, _, ⟨(Up.refl M).add td _, hlk, htd, getM_add, rfl, by simp, fun a t e => by simp at e⟩, rfl⟩, ?_, ?_⟩⟩
  · rintro i d G1 M1 hd ⟨ts, u, v, y, z, x, rfl⟩
    have hdi : d = .str (lay i) ∧ i < fs.length := by
      rw [htl] at hd
      rcases ok.len with h | h
      · rw [h] at hd ⊢
        match i, hd with
        | 0, hd => cases hd; exact ⟨rfl, by omega⟩
        | i + 1, hd => cases hd
      · rw [h] at hd ⊢
        match i, hd with
        | 0, hd => cases hd; exact ⟨rfl, by omega⟩
        | 1, hd => cases hd; exact ⟨rfl, by omega⟩
        | i + 2, hd => cases hd
    obtain ⟨rfl, hi⟩ := hdi
    refine wg_name ?_
    show WS K T _ _ _ _
    refine ws_seq (ws_asgN (we_meth (we_var rfl ⟨_, _, .inl rfl, by decide, wa_cons (we_var rfl (wa_nil ⟨tabsD n fs, q, nm, i, n, fs.getD i (fun _ _ => 0), rfl, by rw [htl]; exact hl2, ?_, by omega, ?_⟩))⟩)))
    · rw [tabsD, List.getElem?_map, List.getElem?_eq_getElem hi, List.getD_eq_getElem?_getD, List.getElem?_eq_getElem hi]
      rfl
    show WS K T _ _ _ _
    generalize hf : fs.getD i (fun _ _ => 0) = f
    refine ws_dputN (we_dcT2 (by simp) (wi_list (we_var rfl ⟨_, rfl, fun r c ks acc => PartD n f r c ks acc, part_zero _ _, ?_, ?_⟩)))
    · intro r d hd
      obtain ⟨rfl, hr⟩ := intsD_get hd
      refine wi_list (we_var rfl ⟨_, rfl, rfl, fun ks acc pd => ?_, fun c e ks acc he pd => ?_⟩)
      · rw [intsD_len] at pd
        exact part_row pd
      · obtain ⟨rfl, hc⟩ := intsD_get he
        obtain ⟨hn, pd'⟩ := part_step pd hr hc
        have hz : ks.length ≤ 1000 := by
          have := pd.sz
          have : r * n ≤ 9 * 9 := Nat.mul_le_mul (by omega) n9
          omega
        exact we_pk (a := r) (b := c) rfl rfl ⟨rfl, we_op (we_op (we_var rfl (we_var rfl (opd_ixL (atI_rng hr) (we_var rfl (opd_ixL (atI_rng hc) ⟨rfl, _, rfl, hn, hz, pd'⟩))))))⟩
    · intro p ks acc hp pd
      rw [intsD_len] at pd
      have tab := part_all pd
      refine we_var rfl (we_var rfl ⟨td, layK i, ts.map .ptr, .inr (lay i), rfl, ?_, rfl, lay_nin (by omega), by rw [lay_len]; omega, ?_, ?_⟩)
      · rw [getM_addN (getM_ne x.ht hp)]
        exact x.ht
      · show td ∉ M1.lk
        rw [x.lk]
        simp
      · exact ⟨ts ++ [p], _, _, _, _, x.next hp (by rw [hf]; exact tab), rfl⟩
  · rintro G1 M1 ⟨ts, u, v, y, z, x, rfl⟩
    have e : (cutD [D.str "foot", .str "cart"] none (some ((tabsD n fs).length : Nat))).length = fs.length := by
      rw [htl]
      rcases ok.len with h | h <;> rw [h] <;> rfl
    rw [e] at x
    show WS K T _ _ _ _
    refine ws_ret (we_make (wa_cons (we_freeze (we_make0 fun ex hex => ⟨ex, _, M1, exD K, rfl, rfl, rfl, wa_cons (we_var rfl (wa_cons (we_var rfl (wa_nil fun v hv => ?_))))⟩))))
    refine ⟨v, M1, exD K, .lst (intsD n), .ptr td, rfl, rfl, hv, x.lk, rfl, k v _ ⟨td, ts, ?_⟩⟩
    have gne : ∀ {t y}, getM M1 t = some y → getM (addM M1 v (.ins (ga K "Ways") wyN [exD K, .lst (intsD n), .ptr td])) t = some y := fun {t y} g => by rw [getM_addN (getM_ne g hv)]; exact g
    exact ⟨x.up.add v _, x.lk, x.up.dom hv, x.nt, getM_add, gne x.ht, x.len, hl2, x.nd, fun a t e => by
      obtain ⟨h1, ks, ds, g, h3⟩ := x.tab a t e
      exact ⟨h1, ks, ds, gne g, h3⟩⟩
abbrev N_world_of : List Str := ["ways", "names", "tables", "other", "one", "layer"]
theorem sc_world_of : FnScope N_world_of ["ways", "names"] (defScope (top 49)) := ⟨rfl, rfl, rfl, by decide +kernel, rfl, by decide +kernel, by decide +kernel⟩
def preWorldOf : Pre := fun ds M R => ∃ (M0 : MS) (v l n : Nat) (fs : List Tab) (p : Addr) (nm0 nm : Nm), ds = [.ptr v, .dK p (keysN nm0) (valsN nm0)] ∧ WaysAt K M0 M v n fs ∧ TabsOk l n fs ∧ nm0.Perm nm ∧ NmOk n nm ∧ ∀ q, R (wD K (tabsD n fs) q nm) M0
theorem we_fldW {M : MS} {G : Sl} {R : D → MS → Prop} {v td n : Nat} {i : Nat} (WF : WyFacts K) (h : G[i]? = some (some (.ptr v))) (g : getM M v = some (.ins (ga K "Ways") wyN [exD K, .lst (intsD n), .ptr td])) : (R (.ptr td) M → WE K T (tFld K (tVar i) "tables") G M R) ∧ (R (.lst (intsD n)) M → WE K T (tFld K (tVar i) "spots") G M R) :=
  ⟨fun q => we_fld (we_var h ⟨_, _, _, _, .inr ⟨v, rfl, g⟩, WF.cls, WF.t, rfl, q⟩), fun q => we_fld (we_var h ⟨_, _, _, _, .inr ⟨v, rfl, g⟩, WF.cls, WF.s, rfl, q⟩)⟩
theorem ok_world_of (L : Lib K mg) (WF : WyFacts K) (F : FnAt K mg "world_of" (top 49)) (i_World : CalIK P w K T mg base "World" 6 2 "cart" ["self", "names", "foot", "cart"] (preInit (K := K))) :
    Cal P w K T mg base "world_of" 8 ["ways", "names"] (preWorldOf (K := K)) := by
  refine cal_of F sc_world_of (fun ds M R h => by obtain ⟨_, _, _, _, _, _, _, _, rfl, _⟩ := h; rfl) (fun _ _ _ _ _ _ us hl => match us, hl with | [_, _], _ => rfl) fun f cdv A outer s H E hr => ⟨_, (pss_cons (ps_lockA (ps_setLc (i := 2) (own := [("layer", 5)]) (tt := tYes) rfl sc_world_of.nd rfl rfl (sw_true rfl rfl rfl (by decide +kernel)) (pi_keys (pe_fldK (K := K) (pv 0) rfl)) (blkOk_by (own := [("layer", 5)]) (N := N_world_of) rfl) (fun _ _ _ _ _ => (pg_name (i := 5) sc_world_of.nd rfl (by first | exact Or.inl rfl | exact Or.inr rfl))) (fun _ _ _ _ _ => pts_nil) (fun _ _ _ _ _ => (pe_lc (own := [("one", 4)]) (tt := tYes) rfl sc_world_of.nd (pi_listK (K := K) (pe_fldK (K := K) (pv 0) rfl)) (blkOk_by (own := [("one", 4)]) (N := N_world_of) rfl) (fun _ _ _ _ _ => (pg_name (i := 4) sc_world_of.nd rfl (by first | exact Or.inl rfl | exact Or.inr rfl))) (fun _ _ _ _ _ => pts_nil) (fun _ _ _ _ _ => (pe_lc (own := [("other", 3)]) (tt := tYes) rfl sc_world_of.nd (pi_listK (K := K) (pe_fldK (K := K) (pv 0) rfl)) (blkOk_by (own := [("other", 3)]) (N := N_world_of) rfl) (fun _ _ _ _ _ => (pg_name (i := 3) sc_world_of.nd rfl (by first | exact Or.inl rfl | exact Or.inr rfl))) (fun _ _ _ _ _ => pts_nil) (fun _ _ _ _ _ => (pe_dget (hu_of hr) (pe_dget (hu_of hr) (pe_fldK (K := K) (pv 0) rfl) (pv 5) (fun _ _ => rfl)) (pe_tup (pa_cons (pv 4) (pa_cons (pv 3) pa_nil))) (fun _ _ => rfl)))))))))
    (pss_one (ps_ret (pe_makeIK i_World (hr) (by rfl) (pa_cons (pv 1) (pa_cons (pe_ix (ix_listK (K := K)) (pv 2) pe_int (fun _ _ => rfl)) pa_nil)) (pe_ifExp (pt_cmpR op_eq (pe_callB (call_len_seqK (K := K)) (by rfl) L.len_ boot_len (pa_cons (pv 2) pa_nil)) pe_int (nomark _)) (pe_ix (ix_listK (K := K)) (pv 2) pe_int (fun _ _ => rfl)) pe_non))))), fun ds M R h => ?_⟩
  obtain ⟨M0, v, l, n, fs, p, nm0, nm, rfl, ⟨td, ts, x⟩, ok, hp, hnm, k⟩ := h
  have n9 := ok.n9
  have hl2 : fs.length ≤ 2 := x.k2
  have gw : getM (lockM M td) v = some (.ins (ga K "Ways") wyN [exD K, .lst (intsD n), .ptr td]) := x.hw
  have gt : getM (lockM M td) td = some (.dK (layK fs.length) (ts.map .ptr)) := x.ht
  refine ws_seq (ws_asgN (we_lock (loc_mK x.ht) x.lk (we_lcX (wi_keys ((we_fldW WF rfl gw).1 ⟨td, layK fs.length, ts.map .ptr, .inr ⟨rfl, gt⟩, List.mem_cons_self, Nat, List.range fs.length, fun a => .str (lay a), fun a => matD n (fs.getD a fun _ _ => 0), ?_, ?_, fun a ha => ?_, ?_⟩)))))
  · unfold layK
    rw [List.map_map]
    rfl
  · rw [List.length_range]
    omega
  · have ha' := List.mem_range.mp ha
    obtain ⟨t, ks, ds, et, g, tab, dv⟩ := x.at_ ha'
    refine we_lcX (wi_list ((we_fldW WF rfl gw).2 ⟨_, rfl, Nat, List.range n, fun i => .int (i : Nat), fun i => rowD n (fs.getD a (fun _ _ => 0) i), rfl, by rw [List.length_range]; omega, fun i hi => ?_, ?_, rfl⟩))
    · have hi' := List.mem_range.mp hi
      refine we_lcX (wi_list ((we_fldW WF rfl gw).2 ⟨_, rfl, Nat, List.range n, fun j => .int (j : Nat), fun j => ratD (fs.getD a (fun _ _ => 0) i j), rfl, by rw [List.length_range]; omega, fun j hj => ?_, ?_, rfl⟩))
      · have hj' := List.mem_range.mp hj
        exact we_dgetT (we_dget ((we_fldW WF rfl gw).1 (we_var rfl ⟨td, _, _, .inr (lay a), _, .inr ⟨rfl, gt⟩, rfl, dv, we_pk (a := i) (b := j) rfl rfl ⟨t, ks, ds, _, _, .inr ⟨rfl, g⟩, rfl, tab.val i hi' j hj', rfl, rfl⟩⟩)))
      · rfl
    · rfl
  rw [free_lock x.lk]
  have e : ((List.range fs.length).map fun a => matD n (fs.getD a (fun _ _ => 0))) = tabsD n fs := by
    symm
    apply rng_ext
    · rw [tabsD, List.length_map]
    · intro j d hd
      rw [tabsD, List.getElem?_map] at hd
      obtain ⟨g, hg, rfl⟩ := Option.map_eq_some_iff.mp hd
      rw [List.getD_eq_getElem?_getD, hg]
      rfl
  rw [e]
  show WS K T _ _ _ _
  refine ws_ret (we_pop (we_freeze (we_makeK (gD := fun ds es => ds ++ es) (fun a b => a.append b) ?_)))
  match fs, ok, k, x with
  | [f], ok, k, x =>
    walk_at "e"
    refine opd_ixL (d := matD n f) rfl ?_
    walk_at "e"
    refine ite2 (fun h => absurd (of_decide_eq_true h) (show ¬ (((1 : Nat) : Int) = 2) by decide)) fun _ => ?_
    walk_at "e"
    exact ⟨rfl, rfl, fun y hy => ⟨y, p, l, n, f, [], nm0, nm, M, rfl, rfl, hy, x.lk, ok, hp, hnm, fun q => ⟨rfl, y, _, M, _, rfl, rfl, rfl, M0, x.up, k q⟩⟩⟩
  | [f, g], ok, k, x =>
    walk_at "e"
    refine opd_ixL (d := matD n f) rfl ?_
    walk_at "e"
    refine ite2 (fun _ => ?_) fun h => absurd rfl h
    walk_at "e"
    refine opd_ixL (d := matD n g) rfl ?_
    walk_at "e"
    exact ⟨rfl, rfl, fun y hy => ⟨y, p, l, n, f, [g], nm0, nm, M, rfl, rfl, hy, x.lk, ok, hp, hnm, fun q => ⟨rfl, y, _, M, _, rfl, rfl, rfl, M0, x.up, k q⟩⟩⟩
  | [], ok, k, x => rcases ok.len with h | h <;> cases h
  | _ :: _ :: _ :: _, ok, k, x => rcases ok.len with h | h <;> simp only [List.length_cons] at h <;> omega
end
end Dl
end
/-! ## P28 -/
section
set_option maxRecDepth 100000
set_option maxHeartbeats 1000000
namespace Dl
open PySem PySem.Spec PyProof.Rows L2 Mx
local macro_rules | `(tactic| walk_at "d1") => `(tactic| with_reducible first
  | refine ws_seq ?_ | refine ws_asgN ?_ | refine ws_asg ?_ | refine wg_name ?_ | refine ws_ret ?_ | refine ws_nx ?_ | refine ws_expr ?_
  | refine we_op ?_ | refine we_un ?_ | refine we_int ?_ | refine we_str ?_ | refine we_bl ?_ | refine we_non ?_ | refine we_ty ?_ | refine we_if ?_ | refine we_and ?_ | refine we_or ?_ | refine we_not ?_ | refine we_chain ?_
  | refine we_tup ?_ | refine we_lst ?_ | refine we_listRng ?_ | refine we_isi2 ?_ | refine we_cb ?_ | refine we_call ?_ | refine wa_cons ?_ | refine wa_nil ?_ | refine we_sl ?_ | refine wo_no ?_ | refine wo_some ?_
  | refine wt_test ?_ | refine wt_B ?_ | refine wt_and ?_ | refine wt_or ?_ | refine wt_not ?_ | refine wt_yes ?_
  | refine opd_add ?_ | refine opd_sub ?_ | refine opd_lt ?_ | refine opd_le ?_ | refine opd_gt ?_ | refine opd_ge ?_ | refine opd_eqI ?_ | refine opd_neI ?_ | refine opd_eqS ?_ | refine opd_neS ?_ | refine opd_isN ?_ | refine opd_notN ?_
  | refine opd_mulW ?_ ?_ | refine opd_mul ?_ ?_ | refine opd_pow ?_ ?_ | refine opd_fdivW ?_ ?_ | refine opd_modN ?_ ?_
  | refine cad_gcd ?_ | refine cad_int1 ?_ | refine cad_intB ?_ | refine cad_abs ?_ | refine cad_lenT ?_ | refine cad_lenL ?_ | refine cad_lenLL ?_ | refine cad_list ?_ | refine sld_lst ?_ | refine sld_tup ?_ | refine sld_tp ?_
  | refine we_fld ?_ | refine we_meth ?_ | refine we_prop ?_ | refine ws_par ?_ | refine ite_t ?_ | refine ite_f ?_ | fail)
local macro_rules | `(tactic| walk_at "d2") => `(tactic| first
  | refine we_var rfl ?_ | (with_reducible refine we_zero (by assumption) ?_) | (with_reducible refine we_layers (by assumption) ?_) | refine opd_ixT rfl ?_ | refine opd_ixP rfl ?_ | (with_reducible refine opd_ixL (atI_rng (by assumption)) ?_) | (with_reducible refine ws_asgN ?_) | fail)
local macro_rules | `(tactic| walk_at "d3") => `(tactic| first | (with_reducible refine ⟨_, rfl, ?_⟩) | (with_reducible refine ⟨sz_ok rfl, ?_⟩) | (with_reducible refine ⟨_, _, rfl, ?_⟩) | fail)
local macro_rules | `(tactic| walk_at "e") => `(tactic| repeat' (first | walk_at "d1" | walk_at "d2" | walk_at "d3" | fail))
local macro_rules | `(tactic| walk_at "d") => `(tactic| repeat' (first | walk_at "d1" | walk_at "d2" | walk_at "d3" | (with_reducible refine ws_if ?_) | fail))
section
variable {P : Program} {w : World} {K : PySem.W.Frag} {T : Tb} {mg : Str → Option Value} {base : Heap}
theorem we_gone {a b : Str} {i j : Int} {G : Sl} {M : MS} {R : D → MS → Prop} (ne : a ≠ b) (q : ∀ p, R (.dK p [.inr a, .inr b] [.int i, .int j]) M) : WE K T (tDisp [(tC (.str a), tC (.int i)), (tC (.str b), tC (.int j))]) G M R := fun X σ H Q ok sl k p hp => by
  refine ⟨upd_same, [(.inr a, .int i), (.inr b, .int j)], rfl, (show (2 : Nat) ≤ 15 by decide), ?_⟩
  have e : mergeK [] [((.inr a : Key), V.int i), (.inr b, .int j)] = [(.inr a, .int i), (.inr b, .int j)] := by
    show putK (putK [] _ _) _ _ = _
    have h : (Sum.inr a : Key) ≠ .inr b := fun z => ne (Sum.inr.inj z)
    unfold putK
    simp [h]
  rw [upd_upd, e]
  have t := To.new (o := .dK [((.inr a : Key), V.int i), (.inr b, .int j)]) ok hp rfl
  refine k _ _ M _ (q p) t ?_
  unfold At
  refine ⟨[.int i, .int j], rfl, imm_new ok hp rfl, rfl, atL_cons (by unfold At; rfl) (atL_cons (by unfold At; rfl) atL_nil)⟩
/-- which names stay -/
def keepS (s : Stp) (x : Str) : Bool := match s with
  | .forget a => !decide (x = a)
  | .same _ b => !decide (x = b)
  | _ => true
def leftN (s : Stp) (nm : Nm) : Nm := nm.filter fun q => keepS s q.1
theorem left_take {s : Stp} {nm : Nm} {i : Nat} {q : Str × Nat} (h : nm[i]? = some q) : leftN s (nm.take (i + 1)) = if keepS s q.1 = true then leftN s (nm.take i) ++ [q] else leftN s (nm.take i) := by
  unfold leftN
  rw [List.take_succ, h, List.filter_append]
  show _ ++ List.filter _ [q] = _
  rw [List.filter_cons]
  split <;> simp
theorem left_ok {l : Nat} {p : Pl} {s : Stp} (ok : PlOk l p) : NmOk p.n (leftN s p.nm) := by
  have h := ok.m
  have sub : (leftN s p.nm).Sublist p.nm := List.filter_sublist
  exact ⟨sorted_of_pw _ ((sorted_pw _ h.so).sublist (sub.map _)), h.nd.sublist (sub.map _), fun q hq => h.pl q (sub.subset hq), h.pd.sublist (sub.map _), Nat.le_trans sub.length_le h.ln, fun q hq => h.gd q (sub.subset hq)⟩
theorem keysN_nd {nm : Nm} (h : (nm.map (·.1)).Nodup) : (keysN nm).Nodup := by
  rw [keysN_map]
  exact List.Pairwise.map _ (fun a b n e => n (Sum.inr.inj e)) h
abbrev N_names_behind : List Str := ["names", "step", "spot", "gone", "left", "name"]
theorem sc_names_behind : FnScope N_names_behind ["names", "step", "spot"] (defScope (top 50)) := ⟨rfl, rfl, rfl, by decide +kernel, rfl, by decide +kernel, by decide +kernel⟩
def preBehind : Pre := fun ds M R => ∃ (l : Nat) (p : Pl) (s : Stp) (pp : Addr), ds = [.dK pp (keysN p.nm) (valsN p.nm), stpD s, .int (p.n : Nat)] ∧ PlOk l p ∧ StpOk p s ∧ M.lk = [] ∧ ∀ q nm0, nm0.Perm (ap p s).nm → R (.dK q (keysN nm0) (valsN nm0)) M
theorem ok_names_behind (L : Lib K mg) (F : FnAt K mg "names_behind" (top 50)) : Cal P w K T mg base "names_behind" 1 ["names", "step", "spot"] preBehind := by
  refine cal_of F sc_names_behind (fun ds M R h => by obtain ⟨_, _, _, _, rfl, _⟩ := h; rfl) (fun _ _ _ _ _ _ us hl => match us, hl with | [_, _, _], _ => rfl) fun f cdv A outer s H E hr => ⟨_, (pss_cons (ps_set (i := 3) sc_names_behind.nd rfl (by first | exact Or.inl rfl | exact Or.inr rfl) (pe_disp (pps_cons pe_str pe_int (pps_cons pe_str pe_int pps_nil)) rfl rfl (by simp) (by decide)))
    (pss_cons (ps_lockA (ps_setDc (i := 4) (own := [("name", 5)]) (tt := _) rfl sc_names_behind.nd rfl rfl (sw_dict rfl rfl rfl (by decide +kernel)) (pi_keys (pv 0)) (blkOk_by (own := [("name", 5)]) (N := N_names_behind) rfl) (fun _ _ _ _ _ => (pg_name (i := 5) sc_names_behind.nd rfl (by first | exact Or.inl rfl | exact Or.inr rfl))) (fun _ _ _ _ _ => (pts_one (PW.pt (pw_or (pt_cmp (pc_dnotin (hu_of hr) (pe_ix (ix_tupK (K := K)) (pv 1) pe_int (fun _ _ => rfl)) (pv 3))) (pw_or1 (pt_cmpR op_ne (pv 5) (pe_ix (ix_tupK (K := K)) (pv 1) (pe_dget (hu_of hr) (pv 3) (pe_ix (ix_tupK (K := K)) (pv 1) pe_int (fun _ _ => rfl)) (fun _ _ => rfl)) (fun _ _ => rfl)) (nomark _))))))) (fun _ _ _ _ _ => (pv 5)) (fun _ _ _ _ _ => (pe_dget (hu_of hr) (pv 0) (pv 5) (fun _ _ => rfl)))))
    (pss_one (ps_ret (pe_ifExp (pt_cmpR op_eq (pe_ix (ix_tupK (K := K)) (pv 1) pe_int (fun _ _ => rfl)) pe_str (nomark _)) (pe_starPut (pv 4) (pe_ix (ix_tupK (K := K)) (pv 1) pe_int (fun _ _ => rfl)) (pv 2)) (pv 4)))))), fun ds M R h => ?_⟩
  obtain ⟨l, p, s, pp, rfl, ok, hs, hlk, k⟩ := h
  have hm := ok.m
  have hl5 := hm.ln
  refine ws_seq (ws_asgN (we_gone (by decide) fun gd => ?_))
  show WS K T _ _ _ _
  have loc : Loc K T [some (.dK pp (keysN p.nm) (valsN p.nm)), some (stpD s), some (.int (p.n : Nat)), some (.dK gd [.inr "forget", .inr "same"] [.int 1, .int 2]), none, none] M pp := loc_dK (i := 0) rfl
  refine ws_seq (ws_asgN (we_lock loc hlk (we_dc (wi_keys (we_var rfl ⟨pp, keysN p.nm, valsN p.nm, .inl rfl, List.mem_cons_self, ?_, fun i ks acc M' => M' = lockM M pp ∧ ks = keysN (leftN s (p.nm.take i)) ∧ acc = valsN (leftN s (p.nm.take i)), ⟨rfl, rfl, rfl⟩, ?_, ?_⟩)))))
  · unfold keysN
    rw [List.length_map, List.length_map]
    omega
  · rintro i ks acc d M2 hd ⟨rfl, rfl, rfl⟩
    unfold keysN at hd
    rw [List.map_map, List.getElem?_map] at hd
    obtain ⟨q, e1, rfl⟩ := Option.map_eq_some_iff.mp hd
    have hq : q ∈ p.nm := List.mem_of_getElem? e1
    have dv : dval (keysN p.nm) (valsN p.nm) (.inr q.1) = some (.int (q.2 : Nat)) := by rw [dval_nm, place_mem hm.nd hq]; rfl
    have nin : q.1 ∉ (leftN s (p.nm.take i)).map (·.1) := fun z => by
      have h1 := nd_take hm.nd (i := i) (x := q.1) (by rw [List.getElem?_map, e1]; rfl)
      rw [← List.map_take] at h1
      obtain ⟨y, hy, e⟩ := List.mem_map.mp z
      exact h1 (e ▸ List.mem_map_of_mem (List.mem_filter.mp hy).1)
    have keep : keepS s q.1 = true → ∀ {G2 : Sl}, G2[0]? = some (some (.dK pp (keysN p.nm) (valsN p.nm))) → G2[5]? = some (some (.str q.1)) → WE K T (tVar 5) G2 (lockM M pp) fun e M5 => WE K T (tDGet (tVar 0) (tVar 5)) G2 M5 fun y M6 => ∃ k, e = keyD k ∧ k ∉ keysN (leftN s (p.nm.take i)) ∧ M6 = lockM M pp ∧ keysN (leftN s (p.nm.take i)) ++ [k] = keysN (leftN s (p.nm.take (i + 1))) ∧ valsN (leftN s (p.nm.take i)) ++ [y] = valsN (leftN s (p.nm.take (i + 1))) := fun hk {G2} g0 g5 => by
      refine we_var g5 (we_dget (we_var g0 (we_var g5 ⟨pp, _, _, .inr q.1, _, .inl rfl, rfl, dv, .inr q.1, rfl, fun z => ?_, rfl, ?_, ?_⟩)))
      · rw [keysN_map] at z
        obtain ⟨y, hy, e⟩ := List.mem_map.mp z
        exact nin (Sum.inr.inj e ▸ hy)
      · rw [left_take e1, if_pos hk]
        unfold keysN
        rw [List.map_append]
        rfl
      · rw [left_take e1, if_pos hk]
        unfold valsN
        rw [List.map_append]
        rfl
    have drop : keepS s q.1 = false → keysN (leftN s (p.nm.take (i + 1))) = keysN (leftN s (p.nm.take i)) ∧ valsN (leftN s (p.nm.take (i + 1))) = valsN (leftN s (p.nm.take i)) := fun hk => by
      rw [left_take e1, if_neg (by rw [hk]; decide)]
      exact ⟨rfl, rfl⟩
    refine wgv_name (by simp) ?_
    show WT K T _ [some (.dK pp (keysN p.nm) (valsN p.nm)), some (stpD s), some (.int (p.n : Nat)), some (.dK gd [.inr "forget", .inr "same"] [.int 1, .int 2]), none, some (.str q.1)] _ _
    have away : ∀ (wd : Str) (ds : List D), stpD s = .tup (.str wd :: ds) → wd ≠ "forget" → wd ≠ "same" → keepS s q.1 = true → WT K T (tOr (tB (tDNotIn (tOp (rIxT K) (tVar 1) (tC (.int 0))) (tVar 3))) (tTest (tOp rNe (tVar 5) (tOp (rIxT K) (tVar 1) (tDGet (tVar 3) (tOp (rIxT K) (tVar 1) (tC (.int 0))))))))
        [some (.dK pp (keysN p.nm) (valsN p.nm)), some (stpD s), some (.int (p.n : Nat)), some (.dK gd [.inr "forget", .inr "same"] [.int 1, .int 2]), none, some (.str q.1)] (lockM M pp) fun b M4 => b = true ∧ M4 = lockM M pp := fun wd ds e n1 n2 hk => by
      refine wt_or (wt_B (we_dnotin (we_op (we_var rfl (we_int (opd_ixE e (atI_head _ _) (we_var rfl ⟨gd, _, _, .inr wd, .inl rfl, rfl, _, rfl, ?_⟩)))))))
      have e0 : dval [(.inr "forget" : Key), .inr "same"] [D.int 1, .int 2] (.inr wd) = none := dval_none fun z => by
        rcases List.mem_cons.mp z with z | z
        · exact n1 (Sum.inr.inj z)
        · rw [List.mem_singleton] at z
          exact n2 (Sum.inr.inj z)
      rw [e0]
      exact ite_t ⟨rfl, rfl⟩
    have there : ∀ (wd nm' : Str) (j : Int) (ds : List D), stpD s = .tup (.str wd :: ds) → dval [(.inr "forget" : Key), .inr "same"] [D.int 1, .int 2] (.inr wd) = some (.int j) → atI (.str wd :: ds) j = some (.str nm') → keepS s q.1 = (!decide (q.1 = nm')) → WT K T (tOr (tB (tDNotIn (tOp (rIxT K) (tVar 1) (tC (.int 0))) (tVar 3))) (tTest (tOp rNe (tVar 5) (tOp (rIxT K) (tVar 1) (tDGet (tVar 3) (tOp (rIxT K) (tVar 1) (tC (.int 0))))))))
        [some (.dK pp (keysN p.nm) (valsN p.nm)), some (stpD s), some (.int (p.n : Nat)), some (.dK gd [.inr "forget", .inr "same"] [.int 1, .int 2]), none, some (.str q.1)] (lockM M pp) fun b M4 => b = keepS s q.1 ∧ M4 = lockM M pp := fun wd nm' j ds e e1 e2 hk => by
      refine wt_or (wt_B (we_dnotin (we_op (we_var rfl (we_int (opd_ixE e (atI_head _ _) (we_var rfl ⟨gd, _, _, .inr wd, .inl rfl, rfl, _, rfl, ?_⟩)))))))
      rw [e1]
      refine ite_f (wt_test (we_op (we_var rfl (we_op (we_var rfl (we_dget (we_var rfl (we_op (we_var rfl (we_int (opd_ixE e (atI_head _ _) ⟨gd, _, _, .inr wd, _, .inl rfl, rfl, e1, opd_ixE e e2 (opd_neS ⟨_, rfl, ?_, rfl⟩)⟩)))))))))))
      rw [hk]
    have main : WT K T (tOr (tB (tDNotIn (tOp (rIxT K) (tVar 1) (tC (.int 0))) (tVar 3))) (tTest (tOp rNe (tVar 5) (tOp (rIxT K) (tVar 1) (tDGet (tVar 3) (tOp (rIxT K) (tVar 1) (tC (.int 0))))))))
        [some (.dK pp (keysN p.nm) (valsN p.nm)), some (stpD s), some (.int (p.n : Nat)), some (.dK gd [.inr "forget", .inr "same"] [.int 1, .int 2]), none, some (.str q.1)] (lockM M pp) fun b M4 => b = keepS s q.1 ∧ M4 = lockM M pp := by
      clear k loc keep drop e1
      cases s with
      | forget a => exact there "forget" a 1 _ rfl rfl rfl rfl
      | same a b => exact there "same" b 2 _ rfl rfl rfl rfl
      | road => exact away _ _ rfl (by decide) (by decide) rfl
      | ride => exact away _ _ rfl (by decide) (by decide) rfl
      | place => exact away _ _ rfl (by decide) (by decide) rfl
      | cap => exact away _ _ rfl (by decide) (by decide) rfl
      | scale => exact away _ _ rfl (by decide) (by decide) rfl
      | turn => exact away _ _ rfl (by decide) (by decide) rfl
      | round => exact away _ _ rfl (by decide) (by decide) rfl
    refine main.imp fun b M4 ⟨hb, hM⟩ => ?_
    subst hb hM
    cases hk : keepS s q.1 with
    | true =>
      rw [if_pos rfl]
      exact keep hk rfl rfl
    | false =>
      rw [if_neg (by decide)]
      obtain ⟨d1, d2⟩ := drop hk
      exact ⟨rfl, d1.symm, d2.symm⟩
  · rintro q ks acc M2 ⟨rfl, rfl, rfl⟩ _
    have e4 : p.nm.take ((keysN p.nm).map keyD).length = p.nm := by
      unfold keysN
      rw [List.length_map, List.length_map, List.take_length]
    rw [e4, free_lock hlk]
    have lk := left_ok (s := s) ok
    show WS K T _ _ _ _
    have other : ∀ (wd : Str) (ds : List D), stpD s = .tup (.str wd :: ds) → wd ≠ "place" → (leftN s p.nm).Perm (ap p s).nm → WS K T (tRet (tIf (tTest (tOp rEq (tOp (rIxT K) (tVar 1) (tC (.int 0))) (tC (.str "place")))) (tStarPut (tVar 4) (tOp (rIxT K) (tVar 1) (tC (.int 1))) (tVar 2)) (tVar 4)))
        [some (.dK pp (keysN p.nm) (valsN p.nm)), some (stpD s), some (.int (p.n : Nat)), some (.dK gd [.inr "forget", .inr "same"] [.int 1, .int 2]), some (.dK q (keysN (leftN s p.nm)) (valsN (leftN s p.nm))), none] M (ends R) := fun wd ds e ne hp => by
      refine ws_ret (we_if (wt_test (we_op (we_op (we_var rfl (we_int (opd_ixE e (atI_head _ _) (we_str (opd_eqS ⟨_, rfl, ?_⟩)))))))))
      rw [decide_eq_false ne]
      exact ite_f (we_var rfl (k q _ hp))
    cases s with
    | forget a => exact other _ _ rfl (by decide) (.refl _)
    | same a b => exact other _ _ rfl (by decide) (.refl _)
    | road => exact other _ _ rfl (by decide) (by rw [show leftN _ p.nm = p.nm from List.filter_eq_self.mpr fun _ _ => rfl]; exact .refl _)
    | ride => exact other _ _ rfl (by decide) (by rw [show leftN _ p.nm = p.nm from List.filter_eq_self.mpr fun _ _ => rfl]; exact .refl _)
    | cap => exact other _ _ rfl (by decide) (by rw [show leftN _ p.nm = p.nm from List.filter_eq_self.mpr fun _ _ => rfl]; exact .refl _)
    | scale => exact other _ _ rfl (by decide) (by rw [show leftN _ p.nm = p.nm from List.filter_eq_self.mpr fun _ _ => rfl]; exact .refl _)
    | turn => exact other _ _ rfl (by decide) (by rw [show leftN _ p.nm = p.nm from List.filter_eq_self.mpr fun _ _ => rfl]; exact .refl _)
    | round => exact other _ _ rfl (by decide) (by rw [show leftN _ p.nm = p.nm from List.filter_eq_self.mpr fun _ _ => rfl]; exact .refl _)
    | place x b v qv v' q' =>
      obtain ⟨hg, hx, hb, _⟩ := hs
      have el : leftN (.place x b v qv v' q') p.nm = p.nm := List.filter_eq_self.mpr fun _ _ => rfl
      rw [el] at lk ⊢
      refine ws_ret (we_if (wt_test (we_op (we_op (we_var rfl (we_int (opd_ixT (d := .str "place") rfl (we_str (opd_eqS ⟨_, rfl, ?_⟩)))))))))
      rw [decide_eq_true rfl]
      refine ite_t (we_starPut (we_var rfl ⟨rfl, q, _, _, .inl rfl, keysN_nd lk.nd, ?_, we_op (we_var rfl (we_int (opd_ixT (d := .str x) rfl ⟨rfl, .inr x, rfl, fun z => ?_, we_var rfl ⟨rfl, fun p' => ?_⟩⟩)))⟩))
      · unfold keysN
        rw [List.length_map]
        omega
      · rw [keysN_map] at z
        obtain ⟨y, hy, e⟩ := List.mem_map.mp z
        exact hx (Sum.inr.inj e ▸ hy)
      · have e1 : keysN p.nm ++ [.inr x] = keysN (p.nm ++ [(x, p.n)]) := by unfold keysN; rw [List.map_append]; rfl
        have e2 : valsN p.nm ++ [.int (p.n : Nat)] = valsN (p.nm ++ [(x, p.n)]) := by unfold valsN; rw [List.map_append]; rfl
        rw [e1, e2]
        exact k p' _ (ins_perm (x, p.n) p.nm).symm
end
end Dl
end
/-! ## P29 -/
section
set_option maxRecDepth 100000
set_option maxHeartbeats 1000000
namespace Dl
open PySem PySem.Spec PyProof.Rows L2 Mx
local macro_rules | `(tactic| walk_at "d1") => `(tactic| with_reducible first
  | refine ws_seq ?_ | refine ws_asgN ?_ | refine ws_asg ?_ | refine wg_name ?_ | refine ws_ret ?_ | refine ws_nx ?_ | refine ws_expr ?_
  | refine we_op ?_ | refine we_un ?_ | refine we_int ?_ | refine we_str ?_ | refine we_bl ?_ | refine we_non ?_ | refine we_ty ?_ | refine we_if ?_ | refine we_and ?_ | refine we_or ?_ | refine we_not ?_ | refine we_chain ?_
  | refine we_tup ?_ | refine we_lst ?_ | refine we_listRng ?_ | refine we_isi2 ?_ | refine we_cb ?_ | refine we_call ?_ | refine wa_cons ?_ | refine wa_nil ?_ | refine we_sl ?_ | refine wo_no ?_ | refine wo_some ?_
  | refine wt_test ?_ | refine wt_B ?_ | refine wt_and ?_ | refine wt_or ?_ | refine wt_not ?_ | refine wt_yes ?_
  | refine opd_add ?_ | refine opd_sub ?_ | refine opd_lt ?_ | refine opd_le ?_ | refine opd_gt ?_ | refine opd_ge ?_ | refine opd_eqI ?_ | refine opd_neI ?_ | refine opd_eqS ?_ | refine opd_neS ?_ | refine opd_isN ?_ | refine opd_notN ?_
  | refine opd_mulW ?_ ?_ | refine opd_mul ?_ ?_ | refine opd_pow ?_ ?_ | refine opd_fdivW ?_ ?_ | refine opd_modN ?_ ?_
  | refine cad_gcd ?_ | refine cad_int1 ?_ | refine cad_intB ?_ | refine cad_abs ?_ | refine cad_lenT ?_ | refine cad_lenL ?_ | refine cad_lenLL ?_ | refine cad_list ?_ | refine sld_lst ?_ | refine sld_tup ?_ | refine sld_tp ?_
  | refine we_fld ?_ | refine we_meth ?_ | refine we_prop ?_ | refine ws_par ?_ | refine ite_t ?_ | refine ite_f ?_ | fail)
local macro_rules | `(tactic| walk_at "d2") => `(tactic| first
  | refine we_var rfl ?_ | (with_reducible refine we_zero (by assumption) ?_) | (with_reducible refine we_layers (by assumption) ?_) | refine opd_ixT rfl ?_ | refine opd_ixP rfl ?_ | (with_reducible refine opd_ixL (atI_rng (by assumption)) ?_) | (with_reducible refine ws_asgN ?_) | fail)
local macro_rules | `(tactic| walk_at "d3") => `(tactic| first | (with_reducible refine ⟨_, rfl, ?_⟩) | (with_reducible refine ⟨sz_ok rfl, ?_⟩) | (with_reducible refine ⟨_, _, rfl, ?_⟩) | fail)
local macro_rules | `(tactic| walk_at "e") => `(tactic| repeat' (first | walk_at "d1" | walk_at "d2" | walk_at "d3" | fail))
local macro_rules | `(tactic| walk_at "d") => `(tactic| repeat' (first | walk_at "d1" | walk_at "d2" | walk_at "d3" | (with_reducible refine ws_if ?_) | fail))
section
variable {P : Program} {w : World} {K : PySem.W.Frag} {T : Tb} {mg : Str → Option Value} {base : Heap}
theorem ap_nm {l : Nat} {p : Pl} {s : Stp} (ok : PlOk l p) (hs : StpOk p s) {x : Str} {i : Nat} (h : (x, i) ∈ (ap p s).nm) (hx : p.has x) : i = p.at x := by
  have old : (x, i) ∈ p.nm → i = p.at x := fun h => by
    have e := place_mem ok.m.nd h
    unfold Pl.at
    rw [e]
    rfl
  cases s with
  | place x' b v q v' q' =>
    obtain ⟨_, hn, _⟩ := hs
    have := (ins_perm (x', p.n) p.nm).mem_iff.mp h
    rcases List.mem_append.mp this with h1 | h1
    · exact old h1
    · rw [List.mem_singleton] at h1
      cases h1
      exact absurd hx hn
  | same a b => exact old (out_perm _ h).1
  | forget a => exact old (out_perm _ h).1
  | road => exact old h
  | ride => exact old h
  | cap => exact old h
  | scale => exact old h
  | turn => exact old h
  | round => exact old h
/-- the places by the two dicts of names -/
theorem spots_of {l : Nat} {p : Pl} {s : Stp} (ok : PlOk l p) (ok' : PlOk (l + 1) (ap p s)) (hs : StpOk p s) {nm0 : Nm} (hp : nm0.Perm (ap p s).nm) {pp : Addr} {ks0 ks' : List Key} {ds0 ds' : List D}
    (g1 : MgOk [] [] (keysN p.nm) (valsN p.nm) ks0 ds0) (g2 : MgOk ks0 ds0 (keysN nm0) (valsN nm0) ks' ds') : SpotD p s (.dK pp ks' ds') := by
  have val : ∀ x, dval ks' ds' (.inr x) = ((placeN nm0 x).map fun k => D.int (k : Nat)).or ((placeN p.nm x).map fun k => D.int (k : Nat)) := fun x => by
    rw [g2.val, g1.val, dval_nm, dval_nm]
    congr 1
    rw [show dval ([] : List Key) [] (.inr x) = none from rfl, Option.or_none]
  refine ⟨pp, ks', ds', rfl, fun x hx => ?_, fun x b v q v' q' e => ?_⟩
  · rw [val]
    cases e : placeN nm0 x with
    | none =>
      rw [(at_of ok.m hx).1]
      rfl
    | some i =>
      have := ap_nm ok hs (hp.mem_iff.mp (place_of e)) hx
      rw [this]
      rfl
  · subst e
    have m1 : (x, p.n) ∈ nm0 := hp.mem_iff.mpr ((ins_perm (x, p.n) p.nm).mem_iff.mpr (by simp))
    have e := place_mem ((hp.map (·.1)).nodup_iff.mpr ok'.m.nd) m1
    rw [val, e]
    rfl
theorem stpN_has {p : Pl} {s : Stp} (hs : StpOk p s) : ∀ x ∈ stpN s, p.has x := by
  intro x hx
  cases s with
  | road a s g v q => simp only [stpN, List.mem_cons, List.not_mem_nil, or_false] at hx; rcases hx with rfl | rfl; exact hs.2.1; exact hs.2.2.1
  | ride a s g v q => simp only [stpN, List.mem_cons, List.not_mem_nil, or_false] at hx; rcases hx with rfl | rfl; exact hs.2.2.1; exact hs.2.2.2.1
  | place x' b v q v' q' => simp only [stpN, List.mem_cons, List.not_mem_nil, or_false] at hx; rw [hx]; exact hs.2.2.1
  | same a b => simp only [stpN, List.mem_cons, List.not_mem_nil, or_false] at hx; rcases hx with rfl | rfl; exact hs.1; exact hs.2.1
  | forget a => simp only [stpN, List.mem_cons, List.not_mem_nil, or_false] at hx; rw [hx]; exact hs
  | cap => simp [stpN] at hx
  | scale => simp [stpN] at hx
  | turn => simp [stpN] at hx
  | round => simp [stpN] at hx
abbrev N_changed : List Str := ["world", "step", "name", "ways", "names", "late"]
theorem sc_changed : FnScope N_changed ["world", "step"] (defScope (top 51)) := ⟨rfl, rfl, rfl, by decide +kernel, rfl, by decide +kernel, by decide +kernel⟩
def preChanged : Pre := fun ds M R => ∃ (l : Nat) (p : Pl) (s : Stp) (q : Addr), ds = [wD K (tabsD p.n p.fs) q p.nm, stpD s] ∧ PlOk l p ∧ StpOk p s ∧ l ≤ 26 ∧ M.lk = [] ∧ ∀ q', R (wD K (tabsD (ap p s).n (ap p s).fs) q' (ap p s).nm) M
theorem ok_changed (L : Lib K mg) (W : WFacts K) (WF : WyFacts K) (F : FnAt K mg "changed" (top 51)) (c_is_leaf : Cal P w K T mg base "is_leaf" 5 ["value", "layers"] preIsLeaf) (c_names_in : Cal P w K T mg base "names_in" 1 ["step"] preNamesIn)
    (c_World_layers : CalP P w K T mg base "World" "layers" 1 (preLayers (K := K))) (c_World_size : CalP P w K T mg base "World" "size" 1 (preSize (K := K))) (c_World_place : CalM P w K T mg base "World" "place" 2 ["self", "name"] [] (prePlace (K := K)))
    (c_World_names : CalM P w K T mg base "World" "names" 1 ["self"] [] (preNames (K := K))) (c_World__contains_ : CalM P w K T mg base "World" "__contains__" 1 ["self", "name"] [] (preHas (K := K)))
    (c_ways_in : Cal P w K T mg base "ways_in" 5 ["world"] (preWaysIn (K := K))) (c_names_behind : Cal P w K T mg base "names_behind" 1 ["names", "step", "spot"] preBehind) (c_Ways_step : CalM P w K T mg base "Ways" "step" 9 ["self", "step", "spots"] [] (preWStep (K := K)))
    (c_world_of : Cal P w K T mg base "world_of" 8 ["ways", "names"] (preWorldOf (K := K))) : Cal P w K T mg base "changed" 10 ["world", "step"] (preChanged (K := K)) := by
  refine cal_of F sc_changed (fun ds M R h => by obtain ⟨_, _, _, _, rfl, _⟩ := h; rfl) (fun _ _ _ _ _ _ us hl => match us, hl with | [_, _], _ => rfl) fun f cdv A outer s H E hr => ⟨_, (pss_cons (ps_if (pt_not (pt_val (pe_cal c_is_leaf (hr.mono (by decide)) (by rfl) (pa_cons (pv 1) (pa_cons (pe_propM c_World_layers (pv 0) (hr.mono (by decide))) pa_nil))))) (pss_one ps_never) pss_nil)
    (pss_cons (ps_for PassesOwn.never rfl (pi_listK (K := K) (pe_cal c_names_in (hr.mono (by decide)) (by rfl) (pa_cons (pv 1) pa_nil))) (pg_name (i := 2) sc_changed.nd rfl (by first | exact Or.inl rfl | exact Or.inr rfl)) (pss_one (ps_expr (pe_calM c_World_place (pv 0) (hr.mono (by decide)) (pa_cons (pv 2) pa_nil)))))
    (pss_cons (ps_if (pt_cmpR op_eq (pe_ix (ix_tupK (K := K)) (pv 1) pe_int (fun _ _ => rfl)) pe_str (nomark _)) (pss_cons (ps_if (pt_cmpR (op_in_own c_World__contains_ (hr.mono (by decide))) (pe_ix (ix_tupK (K := K)) (pv 1) pe_int (fun _ _ => rfl)) (pv 0) (by rfl)) (pss_one ps_never) pss_nil)
    (pss_cons (ps_if (pt_cmpR op_ge (pe_callB (call_len_seqK (K := K)) (by rfl) L.len_ boot_len (pa_cons (pe_calM0 c_World_names (pv 0) (hr.mono (by decide))) pa_nil)) (pe_gint (by rfl) L.gMOST_NAMED) (nomark _)) (pss_one ps_never) pss_nil)
    (pss_one (ps_if (pt_cmpR op_ge (pe_propM c_World_size (pv 0) (hr.mono (by decide))) (pe_gint (by rfl) L.gMOST_PLACES) (nomark _)) (pss_one ps_never) pss_nil)))) pss_nil)
    (pss_cons (ps_set (i := 3) sc_changed.nd rfl (by first | exact Or.inl rfl | exact Or.inr rfl) (pe_cal c_ways_in (hr.mono (by decide)) (by rfl) (pa_cons (pv 0) pa_nil)))
    (pss_cons (ps_setDc (i := 4) (own := [("name", 2)]) (tt := tYes) rfl sc_changed.nd rfl rfl (sw_dict rfl rfl rfl (by decide +kernel)) (pi_listK (K := K) (pe_calM0 c_World_names (pv 0) (hr.mono (by decide)))) (blkOk_by (own := [("name", 2)]) (N := N_changed) rfl) (fun _ _ _ _ _ => (pg_name (i := 2) sc_changed.nd rfl (by first | exact Or.inl rfl | exact Or.inr rfl))) (fun _ _ _ _ _ => pts_nil) (fun _ _ _ _ _ => (pv 2)) (fun _ _ _ _ _ => (pe_calM c_World_place (pv 0) (hr.mono (by decide)) (pa_cons (pv 2) pa_nil))))
    (pss_cons (ps_set (i := 5) sc_changed.nd rfl (by first | exact Or.inl rfl | exact Or.inr rfl) (pe_cal c_names_behind (hr.mono (by decide)) (by rfl) (pa_cons (pv 4) (pa_cons (pv 1) (pa_cons (pe_propM c_World_size (pv 0) (hr.mono (by decide))) pa_nil)))))
    (pss_cons (ps_if (pt_cmpR op_ne (pe_ix (ix_tupK (K := K)) (pv 1) pe_int (fun _ _ => rfl)) pe_str (nomark _)) (pss_one (ps_expr (pe_calM c_Ways_step (pv 3) (hr) (pa_cons (pv 1) (pa_cons (pe_stars (pv 4) (pv 5)) pa_nil))))) pss_nil)
    (pss_one (ps_ret (pe_cal c_world_of (hr.mono (by decide)) (by rfl) (pa_cons (pv 3) (pa_cons (pv 5) pa_nil)))))))))))), fun ds M R h => ?_⟩
  obtain ⟨l, p, s, q, rfl, ok, hs, hl, hlk, k⟩ := h
  have ok' := ap_ok ok hs hl
  have hm := ok.m
  have ht := ok.t
  have n5 := hm.ln
  have htl : (tabsD p.n p.fs).length = p.fs.length := by rw [tabsD, List.length_map]
  obtain ⟨f0, rest, hfs⟩ : ∃ f0 rest, p.fs = f0 :: rest := by
    cases e : p.fs with
    | nil => rcases ht.len with h | h <;> (rw [e] at h; simp at h)
    | cons f0 rest => exact ⟨f0, rest, rfl⟩
  have hW : wD K (tabsD p.n p.fs) q p.nm = wD K (matD p.n f0 :: tabsD p.n rest) q p.nm := by rw [hfs]; rfl
  refine ws_seq (ws_ifF (wt_not (wt_test (we_call (wa_cons (we_var rfl (wa_cons (we_prop (we_var rfl ⟨_, _, .inl rfl, tabsD p.n p.fs, q, p.nm, rfl, wa_nil ⟨l, p, s, ?_, ok, hs, _, rfl, rfl, rfl⟩⟩)))))))) (ws_nx ?_))
  · rw [htl]
  show WS K T _ _ _ _
  refine ws_seq (ws_for (wi_list (we_call (wa_cons (we_var rfl (wa_nil ⟨s, rfl, _, rfl, fun i G M' => M' = M ∧ ∃ x, G = [some (wD K (tabsD p.n p.fs) q p.nm), some (stpD s), x, none, none, none], ⟨rfl, _, rfl⟩, ?_, ?_⟩))))))
  · rintro i d G1 M1 hd ⟨rfl, x, rfl⟩
    rw [List.getElem?_map] at hd
    obtain ⟨y, e1, rfl⟩ := Option.map_eq_some_iff.mp hd
    have hy := stpN_has hs y (List.mem_of_getElem? e1)
    refine wg_name ?_
    show WS K T _ _ _ _
    exact ws_expr (we_meth (we_var rfl ⟨_, _, .inl rfl, by decide, wa_cons (we_var rfl (wa_nil ⟨_, q, p.nm, y, _, rfl, (at_of hm hy).1, rfl, _, rfl⟩))⟩))
  rintro G1 M1 ⟨rfl, x, rfl⟩
  show WS K T _ _ _ _
  have word : ∀ {b : Str} {G : Sl} {M' : MS} {RT : Bool → MS → Prop}, G[1]? = some (some (stpD s)) → RT (decide (stpW s = b)) M' → WT K T (tTest (tOp rEq (tOp (rIxT K) (tVar 1) (tC (.int 0))) (tC (.str b)))) G M' RT := fun {b G M' RT} g q =>
    wt_test (we_op (we_op (we_var g (we_int (opd_ixE (stp_eq s) (atI_head _ _) (we_str (opd_eqS ⟨_, rfl, q⟩)))))))
  have wordN : ∀ {b : Str} {G : Sl} {M' : MS} {RT : Bool → MS → Prop}, G[1]? = some (some (stpD s)) → RT (!decide (stpW s = b)) M' → WT K T (tTest (tOp rNe (tOp (rIxT K) (tVar 1) (tC (.int 0))) (tC (.str b)))) G M' RT := fun {b G M' RT} g q =>
    wt_test (we_op (we_op (we_var g (we_int (opd_ixE (stp_eq s) (atI_head _ _) (we_str (opd_neS ⟨_, rfl, q⟩)))))))
  refine ws_seq (ws_cut (fun G' M' => G' = [some (wD K (tabsD p.n p.fs) q p.nm), some (stpD s), x, none, none, none] ∧ M' = M1) ?_ ?_)
  · by_cases hp : stpW s = "place"
    · obtain ⟨x', b, v, qv, v', q', rfl⟩ : ∃ x' b v qv v' q', s = .place x' b v qv v' q' := by
        cases s <;> first | exact ⟨_, _, _, _, _, _, rfl⟩ | exact absurd hp (by simp only [stpW]; decide)
      obtain ⟨hg, hx, hb, hv, hq, hv', hq', h4, h7⟩ := hs
      refine ws_ifT (word rfl ⟨decide_eq_true hp, rfl⟩) ?_
      refine ws_seq (ws_ifF (wt_test (we_op (we_op (we_var rfl (we_int (opd_ixT (d := .str x') rfl (we_var rfl (opd_inOwn (.inl rfl) ⟨_, q, p.nm, x', rfl, _, rfl, _, rfl, ?_, rfl⟩)))))))) (ws_nx ?_))
      · have e := place_none.mpr hx
        rw [e]
        rfl
      show WS K T _ _ _ _
      refine ws_seq (ws_ifF (wt_test (we_op (we_cb (wa_cons (we_meth (we_var rfl ⟨_, _, .inl rfl, by decide, wa_nil ⟨p.n, _, q, p.nm, rfl, hm, wa_nil (cad_lenL (we_int (opd_ge ⟨_, rfl, ?_, rfl⟩)))⟩⟩)))))) (ws_nx ?_))
      · rw [List.length_map, List.length_map]
        exact decide_eq_false (by omega)
      show WS K T _ _ _ _
      refine ws_ifF (wt_test (we_op (we_prop (we_var rfl ⟨_, _, .inl rfl, p.n, f0, tabsD p.n rest, q, p.nm, by rw [hW], we_int (opd_ge ⟨_, rfl, ?_, rfl⟩)⟩)))) (ws_nx ⟨rfl, rfl⟩)
      exact decide_eq_false (by omega)
    · exact ws_ifF (word rfl ⟨decide_eq_false hp, rfl⟩) (ws_nx ⟨rfl, rfl⟩)
  rintro G' M' ⟨rfl, rfl⟩
  show WS K T _ _ _ _
  refine ws_seq (ws_asgN (we_call (wa_cons (we_var rfl (wa_nil ⟨l, p.n, p.fs, q, p.nm, rfl, ht, hlk, fun v M2 hw => ?_⟩)))))
  show WS K T _ _ _ _
  obtain ⟨td, ts, xw⟩ := id hw
  refine ws_seq (ws_asgN (we_dc (wi_list (we_meth (we_var rfl ⟨_, _, .inl rfl, by decide, wa_nil ⟨p.n, _, q, p.nm, rfl, hm, _, rfl, ?_, fun i ks acc M3 => M3 = M2 ∧ ks = keysN (p.nm.take i) ∧ acc = valsN (p.nm.take i), ⟨rfl, rfl, rfl⟩, ?_, ?_⟩⟩)))))
  · rw [List.length_map, List.length_map]
    omega
  · rintro i ks acc d M3 hd ⟨rfl, rfl, rfl⟩
    rw [List.map_map, List.getElem?_map] at hd
    obtain ⟨y, e1, rfl⟩ := Option.map_eq_some_iff.mp hd
    have hy : y ∈ p.nm := List.mem_of_getElem? e1
    have nin := nd_take hm.nd (i := i) (x := y.1) (by rw [List.getElem?_map, e1]; rfl)
    rw [← List.map_take] at nin
    refine wgv_name (by simp) (wt_yes (ite_t (we_var rfl (we_meth (we_var rfl ⟨_, _, .inl rfl, by decide, wa_cons (we_var rfl (wa_nil ⟨_, q, p.nm, y.1, y.2, rfl, place_mem hm.nd hy, .inr y.1, rfl, fun z => ?_, rfl, ?_, ?_⟩))⟩)))))
    · rw [keysN_map] at z
      obtain ⟨y', hy', e⟩ := List.mem_map.mp z
      exact nin (Sum.inr.inj e ▸ hy')
    · rw [keysN_take e1]
    · rw [valsN_take e1]
  rintro q1 ks acc M3 ⟨rfl, rfl, rfl⟩ _
  have e4 : p.nm.take ((p.nm.map (·.1)).map D.str).length = p.nm := by rw [List.length_map, List.length_map, List.take_length]
  rw [e4]
  show WS K T _ _ _ _
  refine ws_seq (ws_asgN (we_call (wa_cons (we_var rfl (wa_cons (we_var rfl (wa_cons (we_prop (we_var rfl ⟨_, _, .inl rfl, p.n, f0, tabsD p.n rest, q, p.nm, by rw [hW], wa_nil ⟨l, p, s, q1, rfl, ok, hs, xw.lk, fun q2 nm0 hp => ?_⟩⟩)))))))))
  show WS K T _ _ _ _
  have n05 : nm0.length ≤ 5 := by rw [hp.length_eq]; exact ok'.m.ln
  refine ws_seq (ws_cut (fun G9 M9 => (∃ x, G9 = [some (wD K (tabsD p.n p.fs) q p.nm), some (stpD s), x, some (.ptr v), some (.dK q1 (keysN p.nm) (valsN p.nm)), some (.dK q2 (keysN nm0) (valsN nm0))]) ∧ WaysAt K M' M9 v (ap p s).n (ap p s).fs) ?_ ?_)
  · by_cases hf : stpW s = "forget"
    · obtain ⟨a, rfl⟩ : ∃ a, s = .forget a := by
        cases s <;> first | exact ⟨_, rfl⟩ | exact absurd hf (by simp only [stpW]; decide)
      refine ws_ifF (wordN rfl ⟨?_, rfl⟩) (ws_nx ⟨⟨_, rfl⟩, hw⟩)
      rw [decide_eq_true hf]
      rfl
    · have hnf : ∀ a, s ≠ .forget a := fun a e => hf (by rw [e]; rfl)
      refine ws_ifT (wordN rfl ⟨?_, rfl⟩) ?_
      · rw [decide_eq_false hf]
        rfl
      refine ws_expr (we_meth (we_var rfl ⟨_, _, .inr ⟨v, rfl, xw.hw⟩, by decide, wa_cons (we_var rfl (wa_cons (we_stars (we_var rfl ⟨rfl, q1, _, _, .inl rfl, keysN_nd hm.nd, ?_, we_var rfl ⟨rfl, q2, _, _, .inl rfl, keysN_nd ((hp.map (·.1)).nodup_iff.mpr ok'.m.nd), ?_, fun pp ks0 ds0 ks' ds' g1 g2 => ?_⟩⟩))))⟩))
      · unfold keysN
        rw [List.length_map]
        omega
      · unfold keysN
        rw [List.length_map]
        omega
      exact wa_nil ⟨_, v, l, p, s, _, rfl, hw, ok, hs, hl, hnf, spots_of ok ok' hs hp g1 g2, fun M9 h => ⟨⟨_, rfl⟩, h⟩⟩
  · rintro G9 M9 ⟨⟨x9, rfl⟩, hw9⟩
    show WS K T _ _ _ _
    exact ws_ret (we_call (wa_cons (we_var rfl (wa_cons (we_var rfl (wa_nil ⟨_, v, l + 1, _, _, q2, nm0, _, rfl, hw9, ok'.t, hp, ok'.m, fun q' => k q'⟩))))))
end
end Dl
end
/-! ## DLY -/
section
set_option maxRecDepth 100000
namespace Dl
open PySem PySem.Spec PyProof.Rows L2 Mx
/-! ### the text of data: its length -/
structure Sm (b : Nat) (d : PyData) : Prop where
  s : d.showable = true
  h : d.hasDict = false
  l : d.shown.length ≤ b
theorem sm_int {i : Int} (h : i.natAbs.log2 < 1920) : Sm 1921 (.int i) := ⟨by unfold PyData.showable; exact decide_eq_true h, by unfold PyData.hasDict; rfl, by rw [PyData.shown_int]; exact int_text_len_1921 h⟩
theorem sm_str {x : Str} (h : ∀ c ∈ x.cps.toList, c < 16 ^ 8) (hl : x.length ≤ 100) : Sm 1921 (.str x) := ⟨by unfold PyData.showable; rfl, by unfold PyData.hasDict; rfl, by rw [PyData.shown_str]; have := StrLaws.reprText_len x h; omega⟩
theorem all_show {b : Nat} : ∀ {xs : List PyData}, (∀ x ∈ xs, Sm b x) → PyData.showableAll xs = true ∧ PyData.hasDictAll xs = false ∧ piled (PyData.shownAll xs) ≤ xs.length * (b + 2)
  | [], _ => ⟨by unfold PyData.showableAll; rfl, by unfold PyData.hasDictAll; rfl, by rw [PyData.shownAll_nil, piled_nil]; simp⟩
  | x :: xs, h => by
    have hx := h x List.mem_cons_self
    obtain ⟨h1, h2, h3⟩ := all_show (xs := xs) fun y hy => h y (List.mem_cons_of_mem _ hy)
    refine ⟨by unfold PyData.showableAll; rw [hx.s, h1]; rfl, by unfold PyData.hasDictAll; rw [hx.h, h2]; rfl, ?_⟩
    rw [PyData.shownAll_cons, piled_cons, List.length_cons, Nat.add_mul]
    have := hx.l
    omega
theorem join_le {b : Nat} {xs : List PyData} (h : ∀ x ∈ xs, Sm b x) : (Str.join ", " (PyData.shownAll xs)).length ≤ xs.length * (b + 2) := by
  by_cases hn : PyData.shownAll xs = []
  · rw [hn]
    exact Nat.zero_le _
  · have e1 := join_length_add (PyData.shownAll xs) hn
    have e2 := (all_show h).2.2
    omega
theorem sm_list {b : Nat} {xs : List PyData} (h : ∀ x ∈ xs, Sm b x) : Sm (xs.length * (b + 2) + 3) (.list xs) := by
  obtain ⟨h1, h2, _⟩ := all_show h
  refine ⟨by unfold PyData.showable; exact h1, by unfold PyData.hasDict; exact h2, ?_⟩
  rw [PyData.shown_list]
  have := join_le h
  simp only [Str.length_append]
  show 1 + _ + 1 ≤ _
  omega
theorem sm_tup {b : Nat} {xs : List PyData} (h : ∀ x ∈ xs, Sm b x) : Sm (xs.length * (b + 2) + 3) (.tuple xs) := by
  obtain ⟨h1, h2, _⟩ := all_show h
  refine ⟨by unfold PyData.showable; exact h1, by unfold PyData.hasDict; exact h2, ?_⟩
  rw [PyData.shown_tuple]
  have := join_le h
  simp only [Str.length_append]
  split
  · show 1 + _ + 2 ≤ _
    omega
  · show 1 + _ + 1 ≤ _
    omega
theorem Sm.mono {b c : Nat} {d : PyData} (h : Sm b d) (k : b ≤ c) : Sm c d := ⟨h.s, h.h, Nat.le_trans h.l k⟩
/-! ### repr -/
def rRepr (K : PySem.W.Frag) : List V → Hp → VK → Prop := fun xs H Q => ∃ a d, xs = [V.ref a] ∧ Dp K H (.ref a) d ∧ Sm 16000000 d ∧ d.depth ≤ 40 ∧ Q (.str d.shown) H
theorem call_reprD {X : Cx} {K : PySem.W.Frag} (hg : X.A.guards = some []) (hu : X.A.units + 64 < cLine) (hK : X.K = K := by rfl) : CallR X (.builtin "repr") (rRepr K) := by
  subst hK
  intro pins s σ H vs us Q I r h
  obtain ⟨a, d, rfl, dp, sm, hd, q⟩ := h
  cases r with
  | cons r1 r2 =>
  cases r2
  cases r1
  obtain ⟨as, rd⟩ := dp.reads I d _ (.ref a) rfl
  exact repr_of_reads' rd sm.s (PyData.noDict_hsm sm.h) hg (by omega) (fun _ _ e => e) (fun h' u tk k => ⟨.str d.shown, H, I.kept (t' := tk) k, ⟨u, rfl⟩, q⟩) (Nat.le_trans sm.l (by rw [sizeLine_eq]; decide))
theorem cad_repr {K : PySem.W.Frag} {T : Tb} {M : MS} {R : D → MS → Prop} {ds : List D} (hp : isPy (.tup ds) = true) (sm : Sm 16000000 (py (.tup ds))) (hd : (py (.tup ds)).depth ≤ 40) (q : R (.str (py (.tup ds)).shown) M) : CaD K T (rRepr K) [.tup ds] M R := cad_one fun X v H Q ok a k => by
  have dp := dp_of hp a
  unfold At at a
  obtain ⟨p, vs, rfl, _⟩ := a
  exact ⟨p, _, rfl, dp, sm, hd, k _ H M _ q (To.refl ok) (by unfold At; rfl)⟩
/-! ### defs that know what stands under way: nothing -/
structure FnG (P : Program) (w : World) (K : PySem.W.Frag) (mg : Str → Option Value) (base : Heap) (k : Nat) (f : Addr) (fd : FuncData) (ps : List Str) (sp : Sp) : Prop where
  len : ∀ xs H Q E, sp xs H Q E → xs.length = ps.length
  run : ∀ (A : Around) (outer : List PySem.Env) (s : Shared) (H : Hp) (args : Args) (us : List Value) (xs : List V) (Q : VK) (E : XK), A.guards = some [] → Room k A → Env0 P w K mg base A outer s H → BindsTo s fd args (ps.zip us) → Vals xs us → sp xs H Q E →
    codeAny (model P w) A (.call (.ref f) args) (CR CX0 outer P w H s Q E) s
section
variable {P : Program} {w : World} {K : PySem.W.Frag} {T : Tb} {mg : Str → Option Value} {base : Heap} {k : Nat}
theorem fn_gOf {f : Addr} {name qual : Str} {params : Arguments} {body : List Stmt} {scope : Scope} {dV kV doc pm cdv ct oc : Value} {an od : Option Addr} {osl : Array (Option Value)} {N ps : List Str} {sp : Sp}
    (lk : K.lookup f = some ⟨oc, od, .func (PySem.W.fnOf name qual params body scope dV kV doc pm an cdv ct), osl⟩) (hcd : PySem.W.codeIn K cdv qual = true) (S : FnScope N ps scope) (len : ∀ xs H Q E, sp xs H Q E → xs.length = ps.length)
    (hbody : ∀ (A : Around) (outer : List PySem.Env) (s : Shared) (H : Hp) (xs : List V) (Q : VK) (E : XK), A.guards = some [] → Room k (A.deeper (envOfC qual scope s.heap.objs.size f cdv)) → sp xs H Q E →
      ∃ t, PSs (cxOf CX0 P w K mg base N qual scope f cdv A outer s H E) body t ∧ t { nx := fun _ H' => Q .non H', rt := Q } (L2.start N xs) H) :
    FnG P w K mg base (k + 1) f (PySem.W.fnOf name qual params body scope dV kV doc pm an cdv ct) ps sp := by
  refine ⟨len, fun A outer s H args us xs Q E hgd hr e0 hb r hsp => ?_⟩
  have up : ∀ b o, base.get? b = some o → s.heap.get? b = some o := fun b o e => (e0.bs b o e).1
  have inK : K.In s.heap := e0.mod.kin.keeps up
  have room : s.heap.NoLimit := e0.mod.nolimit.keeps up
  have kinds : ∀ y ∈ ps.zip us, scope.names.lookup y.1 = some .local ∨ (scope.names.lookup y.1 = some .cell ∧ ((cellsFrom (s.heap.objs.size + 1) scope.names []).lookup y.1).isSome = true) := fun ⟨n, v⟩ hy => by
    rcases S.par n (List.of_mem_zip hy).1 with z | z
    · exact .inl z
    · exact .inr ⟨z, PySem.W.cellsFrom_some _ _ _ (.inl z)⟩
  refine codeAny_call_function hr.depth (inK _ _ lk) rfl S.co S.gen rfl (PySem.W.codeRec_of inK hcd) (hb _ _ _ _ (wpAny_newFunctionEnv_cells S.kind kinds fun env he s1 x => ?_))
  subst he
  refine ⟨room.keeps x.toInCall.keep, codeAny_func ?_⟩
  obtain ⟨t, ht, hq⟩ := hbody A outer s H xs Q E hgd (hr.deeper _) hsp
  have J := inv_start (CX := CX0) (E := E) S hr.hd e0 (len _ _ _ _ hsp) r x
  refine wpAny_mono (ht.run [] s1 (L2.start N xs) H _ J hq) (fun fl s' z => ?_) fun _ _ z => z
  cases fl with
  | ret u =>
    obtain ⟨v, σ', H', J', rv, q⟩ := z
    exact ⟨v, H', J'.os, J'.bare, J'.base, J'.hok, rv, q⟩
  | next =>
    obtain ⟨σ', H', J', q⟩ := z
    exact ⟨.non, H', J'.os, J'.bare, J'.base, J'.hok, rfl, q⟩
  | brk =>
    obtain ⟨_, _, _, q⟩ := z
    exact q.elim
  | cont =>
    obtain ⟨_, _, _, q⟩ := z
    exact q.elim
/-- a def of the top that knows it, by data -/
def CalG (P : Program) (w : World) (K : PySem.W.Frag) (T : Tb) (mg : Str → Option Value) (base : Heap) (x : Str) (k : Nat) (ps : List Str) (pre : Pre) : Prop := ∃ fd, FnG P w K mg base k (ga K x) fd ps (SpD K T pre) ∧ mg x = some (.ref (ga K x)) ∧ PySem.W.keepIn K (.ref (ga K x)) = true ∧ Binds K fd ps [] ∧ ∃ oc od osl, K.lookup (ga K x) = some ⟨oc, od, .func fd, osl⟩
theorem calG_of {x : Str} {st : Stmt} {N ps : List Str} {pre : Pre} (F : FnAt K mg x st) (S : FnScope N ps (defScope st)) (len : ∀ ds M R, pre ds M R → ds.length = ps.length)
    (hb : ∀ (kV doc pm : Value) (an : Option Addr) (cdv ct : Value) (us : List Value), us.length = ps.length → bindArgs (PySem.W.fnOf x x (defArgs st) (defBody st) (defScope st) .none kV doc pm an cdv ct) ⟨us, []⟩ = pure (ps.zip us))
    (hbody : ∀ (f : Addr) (cdv : Value) (A : Around) (outer : List PySem.Env) (s : Shared) (H : Hp) (E : XK), A.guards = some [] → Room k (A.deeper (envOfC x (defScope st) s.heap.objs.size f cdv)) →
      ∃ t, PSs (cxOf CX0 P w K mg base N x (defScope st) f cdv A outer s H E).nox (defBody st) t ∧ ∀ ds M R, pre ds M R → WS K T t (startD N ds) M (ends R)) : CalG P w K T mg base x (k + 1) ps pre := by
  obtain ⟨⟨fd, F⟩, hm⟩ := F
  have F' := F
  obtain ⟨oc, od, dV, kV, doc, pm, an, cdv, ct, osl, rfl, lk, hcd, _, _⟩ := F.ex
  refine ⟨_, fn_gOf lk hcd S (fun vs H Q E h => ?_) fun A outer s H vs Q E hgd hr h => ?_, hm, F'.kp, F'.bindsN hb, oc, od, osl, lk⟩
  · obtain ⟨X, ds, M, R, ok, a, p, _⟩ := h
    rw [a.len]
    exact len ds M R p
  · obtain ⟨t, ht, hw⟩ := hbody _ cdv A outer s H E hgd hr
    obtain ⟨X, ds, M, R, ok, a, p, q⟩ := h
    exact ⟨t, ht.nox, ws_end (hw ds M R p) ok a q⟩
theorem pe_calG {X : Cx} {x : Str} {ps : List Str} {pre : Pre} {p pos : Pos} {e : Expr} {es : List Expr} {t : TA} (c : CalG P w K T mg base x k ps pre) (hgd : X.A.guards = some []) (hr : Room k X.A) (hg : Gl X x) (ha : PA X (e :: es) t) (on : On X P w K mg base := by exact ⟨rfl, rfl, rfl, rfl, rfl⟩) (hd : (x == ("__debug__" : Str)) = false := by decide)
    (he : starEach (e :: es) X.env = (false, eval e X.env) :: starEach es X.env := by rfl) (hpl : (backTo pos (starEach es X.env)).any (·.1) = false := by rfl) :
    PE X (.Call (.Name x p) (e :: es) [] pos) (tCall (SpD K T pre) [] E0 t) := by
  obtain ⟨rfl, rfl, rfl, rfl, rfl⟩ := on
  obtain ⟨fd, F, hm, kp, b, _⟩ := c
  refine ⟨fun pins s σ H Q I h => wpAny_Call_Name_kw (ld_glob I hg hm (PySem.W.callWith_K (h₀ := X.base) I.ok.mod.kin kp (thn (ha.run pos pins s σ H _ I h) fun us s1 ⟨vs, H1, I1, r, q⟩ => ⟨I1.kIn, ?_⟩) he hpl) hd)⟩
  have q : SpD X.K T pre vs H1 Q E0 := by
    have := q
    dsimp only at this
    rw [List.append_nil] at this
    exact this
  have hl : (us ++ []).length = ps.length := by
    rw [List.append_nil, ← r.length]
    exact F.len _ _ _ _ q
  refine wpAny_call (codeAny_mono (F.run X.A X.stack s1 H1 ⟨us, []⟩ (us ++ []) vs Q E0 hgd hr I1.env0 (b s1 us I1.kIn hl) (by rw [List.append_nil]; exact r) q) fun z s' hq => ?_)
  cases z with
  | error e => exact (pass0 (X := X)) pins σ H1 s1 e s' I1 hq
  | ok fl =>
    cases fl with
    | ret u => exact I1.after hq
    | next => exact hq.elim
    | brk => exact hq.elim
    | cont => exact hq.elim
end
end Dl
end
/-! ## P30 -/
section
set_option maxRecDepth 100000
set_option maxHeartbeats 1000000
namespace Dl
open PySem PySem.Spec PyProof.Rows L2 Mx
local macro_rules | `(tactic| walk_at "d1") => `(tactic| with_reducible first
  | refine ws_seq ?_ | refine ws_asgN ?_ | refine ws_asg ?_ | refine wg_name ?_ | refine ws_ret ?_ | refine ws_nx ?_ | refine ws_expr ?_
  | refine we_op ?_ | refine we_un ?_ | refine we_int ?_ | refine we_str ?_ | refine we_bl ?_ | refine we_non ?_ | refine we_ty ?_ | refine we_if ?_ | refine we_and ?_ | refine we_or ?_ | refine we_not ?_ | refine we_chain ?_
  | refine we_tup ?_ | refine we_lst ?_ | refine we_listRng ?_ | refine we_isi2 ?_ | refine we_cb ?_ | refine we_call ?_ | refine wa_cons ?_ | refine wa_nil ?_ | refine we_sl ?_ | refine wo_no ?_ | refine wo_some ?_
  | refine wt_test ?_ | refine wt_B ?_ | refine wt_and ?_ | refine wt_or ?_ | refine wt_not ?_ | refine wt_yes ?_
  | refine opd_add ?_ | refine opd_sub ?_ | refine opd_lt ?_ | refine opd_le ?_ | refine opd_gt ?_ | refine opd_ge ?_ | refine opd_eqI ?_ | refine opd_neI ?_ | refine opd_eqS ?_ | refine opd_neS ?_ | refine opd_isN ?_ | refine opd_notN ?_
  | refine opd_mulW ?_ ?_ | refine opd_mul ?_ ?_ | refine opd_pow ?_ ?_ | refine opd_fdivW ?_ ?_ | refine opd_modN ?_ ?_
  | refine cad_gcd ?_ | refine cad_int1 ?_ | refine cad_intB ?_ | refine cad_abs ?_ | refine cad_lenT ?_ | refine cad_lenL ?_ | refine cad_lenLL ?_ | refine cad_list ?_ | refine sld_lst ?_ | refine sld_tup ?_ | refine sld_tp ?_
  | refine we_fld ?_ | refine we_meth ?_ | refine we_prop ?_ | refine ws_par ?_ | refine ite_t ?_ | refine ite_f ?_ | fail)
local macro_rules | `(tactic| walk_at "d2") => `(tactic| first
  | refine we_var rfl ?_ | (with_reducible refine we_zero (by assumption) ?_) | (with_reducible refine we_layers (by assumption) ?_) | refine opd_ixT rfl ?_ | refine opd_ixP rfl ?_ | (with_reducible refine opd_ixL (atI_rng (by assumption)) ?_) | (with_reducible refine ws_asgN ?_) | fail)
local macro_rules | `(tactic| walk_at "d3") => `(tactic| first | (with_reducible refine ⟨_, rfl, ?_⟩) | (with_reducible refine ⟨sz_ok rfl, ?_⟩) | (with_reducible refine ⟨_, _, rfl, ?_⟩) | fail)
local macro_rules | `(tactic| walk_at "e") => `(tactic| repeat' (first | walk_at "d1" | walk_at "d2" | walk_at "d3" | fail))
local macro_rules | `(tactic| walk_at "d") => `(tactic| repeat' (first | walk_at "d1" | walk_at "d2" | walk_at "d3" | (with_reducible refine ws_if ?_) | fail))
section
variable {P : Program} {w : World} {K : PySem.W.Frag} {T : Tb} {mg : Str → Option Value} {base : Heap}
/-! ### the text of a plan -/
theorem pyL_map {α : Type} (g : α → D) : ∀ xs : List α, pyL (xs.map g) = xs.map fun x => py (g x)
  | [] => by unfold List.map pyL; rfl
  | x :: xs => by rw [List.map_cons, List.map_cons]; unfold pyL; rw [pyL_map g xs]
theorem isPyL_all : ∀ {ds : List D}, (∀ d ∈ ds, isPy d = true) → isPyL ds = true
  | [], _ => by unfold isPyL; rfl
  | d :: ds, h => by unfold isPyL; rw [h d List.mem_cons_self, isPyL_all fun e he => h e (List.mem_cons_of_mem _ he)]; rfl
theorem depth_all {c : Nat} : ∀ {xs : List PyData}, (∀ x ∈ xs, x.depth ≤ c) → PyData.depthAll xs ≤ c
  | [], _ => by unfold PyData.depthAll; omega
  | x :: xs, h => by
    unfold PyData.depthAll
    have h1 := h x List.mem_cons_self
    have h2 := depth_all (xs := xs) fun y hy => h y (List.mem_cons_of_mem _ hy)
    omega
structure Txt3 (c b : Nat) (x : D) : Prop where
  p : isPy x = true
  d : (py x).depth ≤ c
  s : Sm b (py x)
theorem txt_seq {c b m : Nat} {ds : List D} (h : ∀ d ∈ ds, Txt3 c b d) (hm : ds.length ≤ m) : Txt3 (c + 1) (m * (b + 2) + 3) (.lst ds) ∧ Txt3 (c + 1) (m * (b + 2) + 3) (.tup ds) := by
  have e : pyL ds = ds.map py := by
    have := pyL_map (fun d : D => d) ds
    rw [List.map_id'] at this
    exact this
  have hs : ∀ x ∈ pyL ds, Sm b x := fun x hx => by
    rw [e] at hx
    obtain ⟨d, hd, rfl⟩ := List.mem_map.mp hx
    exact (h d hd).s
  have hd : PyData.depthAll (pyL ds) ≤ c := depth_all fun x hx => by
    rw [e] at hx
    obtain ⟨d, hd, rfl⟩ := List.mem_map.mp hx
    exact (h d hd).d
  have hl : (pyL ds).length * (b + 2) + 3 ≤ m * (b + 2) + 3 := by
    rw [e, List.length_map]
    exact Nat.add_le_add_right (Nat.mul_le_mul_right _ hm) 3
  have hp : isPyL ds = true := isPyL_all fun d hd => (h d hd).p
  refine ⟨⟨by unfold isPy; exact hp, ?_, ?_⟩, ⟨by unfold isPy; exact hp, ?_, ?_⟩⟩
  · unfold py PyData.depth
    omega
  · unfold py
    exact (sm_list hs).mono hl
  · unfold py PyData.depth
    omega
  · unfold py
    exact (sm_tup hs).mono hl
theorem Txt3.mono {c b c' b' : Nat} {d : D} (h : Txt3 c b d) (h1 : c ≤ c') (h2 : b ≤ b') : Txt3 c' b' d := ⟨h.p, Nat.le_trans h.d h1, h.s.mono h2⟩
theorem txt_int {i : Int} (h : i.natAbs.log2 < 1920) : Txt3 0 1921 (.int i) := ⟨by unfold isPy; rfl, by unfold py PyData.depth; omega, by unfold py; exact sm_int h⟩
theorem txt_str {x : Str} (h : GoodN x) : Txt3 0 1921 (.str x) := ⟨by unfold isPy; rfl, by unfold py PyData.depth; omega, by
  unfold py
  have hi := h.hi
  refine sm_str (x := x) (fun c hc => ?_) (by omega)
  have hb : ∀ z ∈ lettersL, z < 16 ^ 8 := by decide
  exact hb c (h.al c hc)⟩
theorem txt_rat {q : Rat} (h : Fit q) : Txt3 1 3849 (ratD q) := (txt_seq (m := 2) (c := 0) (b := 1921) (fun d hd => by
  simp only [List.mem_cons, List.not_mem_nil, or_false] at hd
  rcases hd with rfl | rfl
  · exact txt_int (by have := h.1; omega)
  · exact txt_int (by have := h.2; rw [Int.natAbs_natCast]; omega)) (by simp)).2
theorem small_log {i : Nat} (h : i ≤ 100) : ((i : Nat) : Int).natAbs.log2 < 1920 := by
  rw [Int.natAbs_natCast]
  have := Nat.log2_le_self i
  omega
theorem txt_plan {l : Nat} {p : Pl} (ok : PlOk l p) : Txt3 6 2000000 (planD p.n p.fs p.nm) := by
  have n9 := ok.t.n9
  have hn := ok.m.ln
  have hl2 : p.fs.length ≤ 2 := by rcases ok.t.len with h | h <;> omega
  have h1 : Txt3 4 623965 (.lst (tabsD p.n p.fs)) := (txt_seq (m := 2) (c := 3) (b := 311979) (fun d hd => by
    obtain ⟨f, hf, rfl⟩ := List.mem_map.mp hd
    refine (txt_seq (m := 9) (c := 2) (b := 34662) (fun e he => ?_) (by rw [List.length_map, List.length_range]; exact n9)).1
    obtain ⟨i, hi, rfl⟩ := List.mem_map.mp he
    refine (txt_seq (m := 9) (c := 1) (b := 3849) (fun g hg => ?_) (by rw [List.length_map, List.length_range]; exact n9)).1
    obtain ⟨j, hj, rfl⟩ := List.mem_map.mp hg
    exact txt_rat (lv_fit (ok.t.lv f hf i (List.mem_range.mp hi) j (List.mem_range.mp hj)) (by have := ok.t.l28; omega))) (by rw [tabsD, List.length_map]; exact hl2)).1
  have h2 : Txt3 2 19258 (nmD p.nm) := (txt_seq (m := 5) (c := 1) (b := 3849) (fun d hd => by
    obtain ⟨q, hq, rfl⟩ := List.mem_map.mp hd
    refine (txt_seq (m := 2) (c := 0) (b := 1921) (fun e he => ?_) (by simp)).2
    simp only [List.mem_cons, List.not_mem_nil, or_false] at he
    rcases he with rfl | rfl
    · exact txt_str (ok.m.gd q hq)
    · exact txt_int (small_log (by have := ok.m.pl q hq; omega))) (by rw [List.length_map]; exact hn)).1
  refine ((txt_seq (m := 2) (c := 4) (b := 623965) (fun d hd => ?_) (by simp)).2).mono (by omega) (by omega)
  simp only [List.mem_cons, List.not_mem_nil, or_false] at hd
  rcases hd with rfl | rfl
  · exact h2.mono (by omega) (by omega)
  · exact h1
abbrev N_law_same : List Str := ["_law_found", "_law_due"]
theorem sc_law_same : FnScope N_law_same ["_law_found", "_law_due"] (defScope (top 57)) := ⟨rfl, rfl, rfl, by decide +kernel, rfl, by decide +kernel, by decide +kernel⟩
def preSame : Pre := fun ds M R => ∃ (l : Nat) (p : Pl), ds = [planD p.n p.fs p.nm, planD p.n p.fs p.nm] ∧ PlOk l p ∧ R (.bl true) M
theorem ok_law_same (L : Lib K mg) (F : FnAt K mg "_law_same" (top 57)) : CalG P w K T mg base "_law_same" 1 ["_law_found", "_law_due"] preSame := by
  refine calG_of F sc_law_same (fun ds M R h => by obtain ⟨_, _, rfl, _⟩ := h; rfl) (fun _ _ _ _ _ _ us hl => match us, hl with | [_, _], _ => rfl) fun f cdv A outer s H E hgd hr => ⟨_, (pss_one (ps_ret (pe_cmpR op_eq (pe_callB (call_reprD (K := K) hgd (hu64 hr)) (by rfl) L.repr_ (by decide +kernel) (pa_cons (pv 0) pa_nil)) (pe_callB (call_reprD (K := K) hgd (hu64 hr)) (by rfl) L.repr_ (by decide +kernel) (pa_cons (pv 1) pa_nil)) (nomark _)))), fun ds M R h => ?_⟩
  obtain ⟨l, p, rfl, ok, k⟩ := h
  have t := txt_plan ok
  have t2 := t.s.mono (show 2000000 ≤ 16000000 by decide)
  have t3 := Nat.le_trans t.d (show 6 ≤ 40 by decide)
  refine ws_ret (we_op (we_cb (wa_cons (we_var rfl (wa_nil (cad_repr t.p t2 t3 (we_cb (wa_cons (we_var rfl (wa_nil (cad_repr t.p t2 t3 (opd_eqS ?_))))))))))))
  rw [decide_eq_true rfl]
  exact k
end
end Dl
end
/-! ## P31 -/
section
set_option maxRecDepth 100000
set_option maxHeartbeats 1000000
namespace Dl
open PySem PySem.Spec PyProof.Rows L2 Mx
local macro_rules | `(tactic| walk_at "d1") => `(tactic| with_reducible first
  | refine ws_seq ?_ | refine ws_asgN ?_ | refine ws_asg ?_ | refine wg_name ?_ | refine ws_ret ?_ | refine ws_nx ?_ | refine ws_expr ?_
  | refine we_op ?_ | refine we_un ?_ | refine we_int ?_ | refine we_str ?_ | refine we_bl ?_ | refine we_non ?_ | refine we_ty ?_ | refine we_if ?_ | refine we_and ?_ | refine we_or ?_ | refine we_not ?_ | refine we_chain ?_
  | refine we_tup ?_ | refine we_lst ?_ | refine we_listRng ?_ | refine we_isi2 ?_ | refine we_cb ?_ | refine we_call ?_ | refine wa_cons ?_ | refine wa_nil ?_ | refine we_sl ?_ | refine wo_no ?_ | refine wo_some ?_
  | refine wt_test ?_ | refine wt_B ?_ | refine wt_and ?_ | refine wt_or ?_ | refine wt_not ?_ | refine wt_yes ?_
  | refine opd_add ?_ | refine opd_sub ?_ | refine opd_lt ?_ | refine opd_le ?_ | refine opd_gt ?_ | refine opd_ge ?_ | refine opd_eqI ?_ | refine opd_neI ?_ | refine opd_eqS ?_ | refine opd_neS ?_ | refine opd_isN ?_ | refine opd_notN ?_
  | refine opd_mulW ?_ ?_ | refine opd_mul ?_ ?_ | refine opd_pow ?_ ?_ | refine opd_fdivW ?_ ?_ | refine opd_modN ?_ ?_
  | refine cad_gcd ?_ | refine cad_int1 ?_ | refine cad_intB ?_ | refine cad_abs ?_ | refine cad_lenT ?_ | refine cad_lenL ?_ | refine cad_lenLL ?_ | refine cad_list ?_ | refine sld_lst ?_ | refine sld_tup ?_ | refine sld_tp ?_
  | refine we_fld ?_ | refine we_meth ?_ | refine we_prop ?_ | refine ws_par ?_ | refine ite_t ?_ | refine ite_f ?_ | fail)
local macro_rules | `(tactic| walk_at "d2") => `(tactic| first
  | refine we_var rfl ?_ | (with_reducible refine we_zero (by assumption) ?_) | (with_reducible refine we_layers (by assumption) ?_) | refine opd_ixT rfl ?_ | refine opd_ixP rfl ?_ | (with_reducible refine opd_ixL (atI_rng (by assumption)) ?_) | (with_reducible refine ws_asgN ?_) | fail)
local macro_rules | `(tactic| walk_at "d3") => `(tactic| first | (with_reducible refine ⟨_, rfl, ?_⟩) | (with_reducible refine ⟨sz_ok rfl, ?_⟩) | (with_reducible refine ⟨_, _, rfl, ?_⟩) | fail)
local macro_rules | `(tactic| walk_at "e") => `(tactic| repeat' (first | walk_at "d1" | walk_at "d2" | walk_at "d3" | fail))
local macro_rules | `(tactic| walk_at "d") => `(tactic| repeat' (first | walk_at "d1" | walk_at "d2" | walk_at "d3" | (with_reducible refine ws_if ?_) | fail))
section
variable {P : Program} {w : World} {K : PySem.W.Frag} {T : Tb} {mg : Str → Option Value} {base : Heap}
theorem ap_len (p : Pl) (s : Stp) : (ap p s).fs.length = p.fs.length := by
  cases s <;> (unfold ap; simp)
theorem we_drw {p : Addr} {m : Nat} {i : Int} {G : Sl} {R : D → MS → Prop} (h : G[1]? = some (some (.ptr p))) (hi : i = (m : Nat)) (h0 : 0 < m) (h1 : m < 2147483648) (q : ∀ k : Nat, k < m → R (.int k) (sM p)) : WE K T (tCall (SpD K T preDraw) [] E0 (tCons (tVar 1) (tCons (tC (.int i)) tNil))) G (sM p) R := by
  subst hi
  exact we_call (wa_cons (we_var h (wa_cons (we_int (wa_nil (draw_sM h0 h1 q))))))
abbrev N_law : List Str := ["_law_script", "_law_src", "_law_turn", "_law_words", "_law_layers", "_law_plan", "_law_world", "_law_word", "_law_step", "_law_table_here"]
theorem sc_law : FnScope N_law ["_law_script"] (defScope (top 84)) := ⟨rfl, rfl, rfl, by decide +kernel, rfl, by decide +kernel, by decide +kernel⟩
def preLaw : Pre := fun ds M R => ∃ ns : List Int, ds = [.ll (ns.map .int)] ∧ M = ⟨[], []⟩ ∧ ∀ M', R (.bl true) M'
theorem ok_law (L : Lib K mg) (F : FnAt K mg "law" (top 84)) (c_law_source : Cal P w K T mg base "_law_source" 1 ["_law_script"] preSource) (c_law_draw : CDraw P w K T mg base) (c_law_names : Cal P w K T mg base "_law_names" 3 ["_law_src", "_law_many"] preLNames)
    (c_law_spread_plan : Cal P w K T mg base "_law_spread_plan" 5 ["_law_src", "_law_names_here", "_law_size", "_law_layers"] preSpread) (c_law_made : Cal P w K T mg base "_law_made" 8 ["_law_plan"] (preMade (K := K))) (c_law_plain_step : Cal P w K T mg base "_law_plain_step" 4 ["_law_src", "_law_plan", "_law_fresh", "_law_layers"] prePlain)
    (c_law_leaf : Cal P w K T mg base "_law_leaf" 9 ["_law_plan", "_law_step"] preLeaf) (c_changed : Cal P w K T mg base "changed" 10 ["world", "step"] (preChanged (K := K))) (c_law_told : Cal P w K T mg base "_law_told" 5 ["_law_world"] (preTold (K := K)))
    (c_law_same : CalG P w K T mg base "_law_same" 1 ["_law_found", "_law_due"] preSame) (c_law_is_way : Cal P w K T mg base "_law_is_way" 3 ["_law_table_here"] preWay) : CalG P w K T mg base "law" 11 ["_law_script"] preLaw := by
  refine calG_of F sc_law (fun ds M R h => by obtain ⟨_, rfl, _⟩ := h; rfl) (fun _ _ _ _ _ _ us hl => match us, hl with | [_], _ => rfl) fun f cdv A outer s H E hgd hr => ⟨_, (pss_cons (ps_set (i := 1) sc_law.nd rfl (by first | exact Or.inl rfl | exact Or.inr rfl) (pe_cal c_law_source (hr.mono (by decide)) (by rfl) (pa_cons (pv 0) pa_nil)))
    (pss_cons (ps_for PassesOwn.never rfl (pi_range1 (by rfl) L.range_ (pa_cons pe_int pa_nil)) (pg_name (i := 2) sc_law.nd rfl (by first | exact Or.inl rfl | exact Or.inr rfl)) (pss_cons (ps_par (i := 3) (j := 4) (by rfl) sc_law.nd rfl rfl (by decide) rfl rfl (pa_cons (pe_cal c_law_names (hr.mono (by decide)) (by rfl) (pa_cons (pv 1) (pa_cons pe_int pa_nil))) (pa_cons (pe_op op_add pe_int (pe_cal c_law_draw (hr.mono (by decide)) (by rfl) (pa_cons (pv 1) (pa_cons pe_int pa_nil)))) pa_nil)) (by rfl))
    (pss_cons (ps_set (i := 5) sc_law.nd rfl (by first | exact Or.inl rfl | exact Or.inr rfl) (pe_cal c_law_spread_plan (hr.mono (by decide)) (by rfl) (pa_cons (pv 1) (pa_cons (pe_slice (sl_listK (K := K)) (pv 3) po_none (po_some (pe_op op_add pe_int (pe_cal c_law_draw (hr.mono (by decide)) (by rfl) (pa_cons (pv 1) (pa_cons pe_int pa_nil)))))) (pa_cons (pe_op op_add pe_int (pe_cal c_law_draw (hr.mono (by decide)) (by rfl) (pa_cons (pv 1) (pa_cons pe_int pa_nil)))) (pa_cons (pv 4) pa_nil))))))
    (pss_cons (ps_set (i := 6) sc_law.nd rfl (by first | exact Or.inl rfl | exact Or.inr rfl) (pe_cal c_law_made (hr.mono (by decide)) (by rfl) (pa_cons (pv 5) pa_nil)))
    (pss_one (ps_for PassesOwn.never rfl (pi_listK (K := K) (pe_slice (sl_listK (K := K)) (pv 3) (po_some pe_int) (po_some (pe_op op_add pe_int (pe_cal c_law_draw (hr.mono (by decide)) (by rfl) (pa_cons (pv 1) (pa_cons pe_int pa_nil))))))) (pg_name (i := 7) sc_law.nd rfl (by first | exact Or.inl rfl | exact Or.inr rfl)) (pss_cons (ps_set (i := 8) sc_law.nd rfl (by first | exact Or.inl rfl | exact Or.inr rfl) (pe_cal c_law_plain_step (hr.mono (by decide)) (by rfl) (pa_cons (pv 1) (pa_cons (pv 5) (pa_cons (pv 7) (pa_cons (pv 4) pa_nil))))))
    (pss_cons (ps_par (i := 5) (j := 6) (by rfl) sc_law.nd rfl rfl (by decide) rfl rfl (pa_cons (pe_cal c_law_leaf (hr.mono (by decide)) (by rfl) (pa_cons (pv 5) (pa_cons (pv 8) pa_nil))) (pa_cons (pe_cal c_changed (hr) (by rfl) (pa_cons (pv 6) (pa_cons (pv 8) pa_nil))) pa_nil)) (by rfl))
    (pss_one (ps_if (PW.pt (pw_or (pt_not (pt_val (pe_calG c_law_same hgd (hr.mono (by decide)) (by rfl) (pa_cons (pe_cal c_law_told (hr.mono (by decide)) (by rfl) (pa_cons (pv 6) pa_nil)) (pa_cons (pv 5) pa_nil))))) (pw_or1 (pt_cmpR (op_in_seqK (K := K)) pe_bl (pe_lc (own := [("_law_table_here", 9)]) (tt := tYes) rfl sc_law.nd (pi_listK (K := K) (pe_ix (ix_tupK (K := K)) (pv 5) pe_int (fun _ _ => rfl))) (blkOk_by (own := [("_law_table_here", 9)]) (N := N_law) rfl) (fun _ _ _ _ _ => (pg_name (i := 9) sc_law.nd rfl (by first | exact Or.inl rfl | exact Or.inr rfl))) (fun _ _ _ _ _ => pts_nil) (fun _ _ _ _ _ => (pe_cal c_law_is_way (hr.mono (by decide)) (by rfl) (pa_cons (pv 9) pa_nil)))) (by rfl))))) (pss_one (ps_ret pe_bl)) pss_nil))))))))))
    (pss_one (ps_ret pe_bl)))), fun ds M R h => ?_⟩
  obtain ⟨ns, rfl, rfl, k⟩ := h
  refine ws_seq (ws_asgN (we_call (wa_cons (we_var rfl (wa_nil ⟨ns, rfl, rfl, fun p => ?_⟩)))))
  show WS K T _ _ _ _
  refine ws_seq (ws_for (wi_rng (wa_cons (we_int (wa_nil ⟨3, rfl, by omega, fun i G M' => M' = sM p ∧ ∃ a b c d e f g h, G = [some (.ll (ns.map .int)), some (.ptr p), a, b, c, d, e, f, g, h], ⟨rfl, _, _, _, _, _, _, _, _, rfl⟩, ?_, ?_⟩)))))
  · rintro i d G1 M1 hd ⟨rfl, a, b, c, d', e, f', g, h, rfl⟩
    obtain ⟨rfl, hi⟩ := intsD_get hd
    refine wg_name ?_
    show WS K T _ _ _ _
    refine ws_seq (ws_par (wa_cons (we_call (wa_cons (we_var rfl (wa_cons (we_int (wa_nil ⟨p, rfl, rfl, fun ws h8 hnd hgn => ?_⟩))))))))
    refine wa_cons (we_op (we_int (we_drw (m := 2) rfl rfl (by decide) (by decide) fun k1 hk1 => ?_)))
    refine opd_add (wa_nil ⟨_, _, rfl, ?_⟩)
    show WS K T _ _ _ _
    have e1 : (1 : Int) + (k1 : Nat) = ((1 + k1 : Nat) : Int) := by omega
    rw [e1]
    refine ws_seq (ws_asgN (we_call (wa_cons (we_var rfl ?_))))
    refine wa_cons (we_sl (we_var rfl (wo_no (wo_some (we_op (we_int (we_drw (m := 2) rfl rfl (by decide) (by decide) fun k2 hk2 => ?_)))))))
    refine opd_add ⟨_, rfl, sld_lst ?_⟩
    refine wa_cons (we_op (we_int (we_drw (m := 2) rfl rfl (by decide) (by decide) fun k3 hk3 => ?_)))
    refine opd_add (wa_cons (we_var rfl (wa_nil ?_)))
    have e2 : (1 : Int) + (k2 : Nat) = ((1 + k2 : Nat) : Int) := by omega
    have e3 : (2 : Int) + (k3 : Nat) = ((2 + k3 : Nat) : Int) := by omega
    rw [e2, e3, cutD_to, ← List.map_take]
    refine ⟨p, ws.take (1 + k2), 2 + k3, 1 + k1, rfl, rfl, by rw [List.length_take]; omega, by rw [List.length_take]; omega, hnd.sublist (List.take_sublist _ _), fun s hs => hgn s (List.mem_of_mem_take hs), by omega, by omega, by omega, by omega, fun nm fs ok hfl hnm _ => ?_⟩
    show WS K T _ _ _ _
    refine ws_seq (ws_asgN (we_call (wa_cons (we_var rfl (wa_nil ⟨0, 2 + k3, fs, nm, rfl, ok, hnm, rfl, fun q => ?_⟩)))))
    show WS K T _ _ _ _
    refine ws_for (wi_list (we_sl (we_var rfl (wo_some (we_int ⟨_, rfl, wo_some (we_op (we_int (we_drw (m := 4) rfl rfl (by decide) (by decide) fun k4 hk4 => ?_)))⟩)))))
    have e4 : (4 : Int) + (k4 : Nat) = ((4 + k4 : Nat) : Int) := by omega
    refine opd_add ⟨_, rfl, sld_lst ⟨_, rfl, fun j G M' => M' = sM p ∧ j ≤ 20 ∧ ∃ pl q x y z, PlOk j pl ∧ pl.fs.length = 1 + k1 ∧ G = [some (.ll (ns.map .int)), some (.ptr p), some (.int (i : Nat)), some (.lst (ws.map .str)), some (.int ((1 + k1 : Nat) : Int)), some (plD pl), some (wD K (tabsD pl.n pl.fs) q pl.nm), x, y, z], ⟨rfl, by omega, ⟨2 + k3, fs, nm⟩, q, _, _, _, ⟨ok, hnm⟩, hfl, rfl⟩, ?_, ?_⟩⟩
    · rintro j d G2 M2 hd ⟨rfl, hj, pl, q, x, y, z, pok, hpl, rfl⟩
      have e5 : (3 : Int) = ((3 : Nat) : Int) := rfl
      rw [e4, e5, cutD_mid] at hd
      have hlt := (List.getElem?_eq_some_iff.mp hd).1
      rw [List.length_drop, List.length_take, List.length_map, h8] at hlt
      have hmem := List.mem_of_mem_take (List.mem_of_mem_drop (List.mem_of_getElem? hd))
      obtain ⟨x', hx', rfl⟩ := List.mem_map.mp hmem
      refine wg_name ?_
      show WS K T _ _ _ _
      refine ws_seq (ws_asgN (we_call (wa_cons (we_var rfl (wa_cons (we_var rfl (wa_cons (we_var rfl (wa_cons (we_var rfl (wa_nil ?_)))))))))))
      refine ⟨p, j, pl, x', by rw [hpl], rfl, pok, hgn x' hx', fun s hs => ?_⟩
      have ok' := ap_ok pok hs (by omega)
      show WS K T _ _ _ _
      refine ws_seq (ws_par (wa_cons (we_call (wa_cons (we_var rfl (wa_cons (we_var rfl (wa_nil ⟨j, pl, s, rfl, pok, hs, by omega, ?_⟩))))))))
      refine wa_cons (we_call (wa_cons (we_var rfl (wa_cons (we_var rfl (wa_nil ⟨j, pl, s, q, rfl, pok, hs, by omega, rfl, fun q' => wa_nil ⟨_, _, rfl, ?_⟩⟩))))))
      show WS K T _ _ _ _
      have hl2 : (ap pl s).fs.length ≤ 2 := by rcases ok'.t.len with h | h <;> omega
      refine ws_ifF (wt_or (wt_not (wt_B (we_call (wa_cons (we_call (wa_cons (we_var rfl (wa_nil ⟨j + 1, _, _, _, q', rfl, ok'.t, ok'.m, wa_cons (we_var rfl (wa_nil ⟨j + 1, ap pl s, rfl, ok', true, rfl, ite_f ?_⟩))⟩))))))))) (ws_nx ⟨rfl, by omega, _, q', _, _, _, ok', by rw [ap_len]; exact hpl, rfl⟩)
      refine wt_test (we_op (we_bl (we_lcX (wi_list (we_op (we_var rfl (we_int (opd_ixT (d := .lst (tabsD (ap pl s).n (ap pl s).fs)) rfl ⟨_, rfl, Tab, (ap pl s).fs, matD (ap pl s).n, fun _ => .bl true, rfl, by omega, fun f hf => ?_, ?_⟩))))))))
      · exact we_call (wa_cons (we_var rfl (wa_nil ⟨j + 1, (ap pl s).n, f, rfl, ok'.t.n9, ok'.t.l28, ok'.t.lv f hf, ok'.t.met f hf, rfl, rfl⟩)))
      · refine opd_inL rfl (List.all_eq_true.mpr fun d hd => by obtain ⟨_, _, rfl⟩ := List.mem_map.mp hd; rfl) ⟨_, rfl, ?_, rfl⟩
        show (if false = true then _ else inV _ _) = false
        rw [if_neg (by decide)]
        unfold inV
        rw [List.any_eq_false]
        intro z hz
        rw [List.map_map] at hz
        obtain ⟨_, _, rfl⟩ := List.mem_map.mp hz
        show ¬ eqV (.bl true) (.bl false) = true
        decide
    · rintro G2 M2 ⟨rfl, hj, pl, q, x, y, z, pok, hpl, rfl⟩
      exact ⟨rfl, _, _, _, _, _, _, _, _, rfl⟩
  · rintro G1 M1 ⟨rfl, a, b, c, d', e, f', g, h, rfl⟩
    show WS K T _ _ _ _
    exact ws_ret (we_bl (k _))
end
end Dl
end
/-! ## DLZ -/
section
set_option maxRecDepth 100000
namespace Dl
open PySem PySem.Spec PyProof.Rows L2 Mx
/-! ### the law's call, nothing under way; tables of code objects -/
def listOf (vs : List Value) : Obj := { cls := .type "list", data := .seq vs.toArray }
def emptyT : Obj := { cls := .none, data := .fields #[] }
/-- the heap as it is seen at the law's start: the tables; the script's list, if the written part does not tell it -/
def lawH (K : PySem.W.Frag) (ts : List Addr) (a : Addr) (vs : List Value) (ns : List Int) : Hp := fun b => if b ∈ ts then some (.tbl #[]) else if b = a ∧ K.lookup a = none then some (.frz (listOf vs) (.lst (ns.map V.int))) else none
section
variable {P : Program} {w : World} {K : PySem.W.Frag} {mg mb : Str → Option Value} {k : Nat} {fa a : Addr} {cs : List (Addr × Addr)} {fd : FuncData} {x : Str} {sp : Sp} {s1 : Shared} {vs : List Value} {ns : List Int} {ts : List Addr}
theorem lawH_case (b : Addr) : (b ∈ ts ∧ lawH K ts a vs ns b = some (.tbl #[])) ∨ (b ∉ ts ∧ b = a ∧ K.lookup a = none ∧ lawH K ts a vs ns b = some (.frz (listOf vs) (.lst (ns.map V.int)))) ∨ (b ∉ ts ∧ lawH K ts a vs ns b = none) := by
  unfold lawH
  by_cases h1 : b ∈ ts
  · exact .inl ⟨h1, if_pos h1⟩
  · by_cases h2 : b = a ∧ K.lookup a = none
    · exact .inr (.inl ⟨h1, h2.1, h2.2, by rw [if_neg h1, if_pos h2]⟩)
    · exact .inr (.inr ⟨h1, by rw [if_neg h1, if_neg h2]⟩)
theorem law_call_at (inK : K.In s1.heap) (hm : s1.heap.Ns mainGlobals mg) (hb : s1.heap.Ns builtinsNs mb) (hbb : ∀ y : Str, y ≠ "__name__" → mb y = bootBuiltins y) (room : s1.heap.NoLimit) (hg : s1.gens = #[])
    (hT : ∀ p ∈ cs, s1.heap.get? p.2 = some emptyT) (nT : ∀ p ∈ cs, K.lookup p.2 = none) (C : ∀ p ∈ cs, PySem.W.CodeHd s1.heap p.1 p.2)
    (hbm : ∃ (m : Addr) (o : Obj), mg "__builtins__" = some (.ref m) ∧ m ≠ builtinsNs ∧ s1.heap.get? m = some o ∧ o.cls = .type "module" ∧ o.dict = some builtinsNs ∧ o.data = .plain)
    (ha : s1.heap.get? a = some (listOf vs)) (hi : IntsAre vs ns) (hl : ns.length ≤ sizeLine) (hr : Room k callerA)
    (F : ∀ base : Heap, K.In base → base.Ns mainGlobals mg → (∀ p ∈ cs, LamX.TabB base mg p.1 p.2) → FnG P w K mg base k fa fd [x] sp) (bind : ∀ (s : Shared) (u : Value), BindsTo s fd ⟨[u], []⟩ [(x, u)])
    (hsp : ∀ H : Hp, (∀ p ∈ cs, H p.2 = some (.tbl #[])) → (∀ b o k, H b = some (.frz o k) → ∃ l, k = .lst l) → SqL K H a (ns.map V.int) → sp [.ref a] H (fun v _ => v = .bl true) fun _ _ _ => False) :
    codeAny (model P w) callerA (.call (.ref fa) ⟨[.ref a], []⟩) (fun r s' => r = .ok (.ret (.bool true)) ∧ OldK s1.heap s'.heap ∧ s'.os = s1.os ∧ AllBare s'.gens) s1 := by
  generalize hts : cs.map (·.2) = ts
  have tabs : ∀ b ∈ ts, s1.heap.get? b = some emptyT ∧ K.lookup b = none ∧ ∃ p ∈ cs, p.2 = b := fun b h => by
    rw [← hts] at h
    obtain ⟨p, hp, rfl⟩ := List.mem_map.mp h
    exact ⟨hT p hp, nT p hp, p, hp, rfl⟩
  have inT : ∀ p ∈ cs, p.2 ∈ ts := fun p hp => by rw [← hts]; exact List.mem_map_of_mem hp
  have aT : a ∉ ts := fun z => by
    have h1 := (tabs a z).1
    rw [ha] at h1
    exact nomatch (show Data.seq vs.toArray 0 = Data.fields #[] from congrArg Obj.data (Option.some.inj h1))
  generalize hH : lawH K ts a vs ns = H
  have cse : ∀ b, (b ∈ ts ∧ H b = some (.tbl #[])) ∨ (b ∉ ts ∧ b = a ∧ K.lookup a = none ∧ H b = some (.frz (listOf vs) (.lst (ns.map V.int)))) ∨ (b ∉ ts ∧ H b = none) := fun b => by rw [← hH]; exact lawH_case b
  have onT : ∀ b ∈ ts, H b = some (.tbl #[]) := fun b h => by
    rcases cse b with ⟨_, e⟩ | ⟨n, _⟩ | ⟨n, _⟩
    · exact e
    · exact absurd h n
    · exact absurd h n
  have rv := vals_ints hi
  have ok : HOk P w H s1.heap := fun b o e => by
    rcases cse b with ⟨h, e1⟩ | ⟨_, rfl, _, e1⟩ | ⟨_, e1⟩
    · rw [e1] at e
      cases e
      exact (tabs b h).1
    · rw [e1] at e
      cases e
      exact ⟨ha, by rw [List.length_map]; exact hl, vs, 0, rv, ha⟩
    · rw [e1] at e
      cases e
  have seq : SqL K H a (ns.map V.int) := by
    rcases cse a with ⟨h, _⟩ | ⟨_, _, _, e1⟩ | ⟨_, e1⟩
    · exact absurd h aT
    · exact .inl (.inr ⟨_, e1⟩)
    · cases hk : K.lookup a with
      | none =>
        rw [← hH] at e1
        unfold lawH at e1
        rw [if_neg aT, if_pos ⟨rfl, hk⟩] at e1
        cases e1
      | some o =>
        have e2 := inK a o hk
        rw [ha] at e2
        cases e2
        exact .inr ⟨_, vs.toArray, _, hk, rfl, rfl, rfl, by rw [List.size_toArray, hi.length]; exact hl, by simpa using rv⟩
  -- what is neither the script nor a table stands in the base
  have stay : ∀ {b : Addr} {o : Obj}, s1.heap.get? b = some o → o ≠ listOf vs → o ≠ emptyT → H b = none := fun {b o} e n1 n2 => by
    rcases cse b with ⟨h, _⟩ | ⟨_, rfl, _, _⟩ | ⟨_, e1⟩
    · exact absurd (Option.some.inj (e.symm.trans (tabs b h).1)) n2
    · exact absurd (Option.some.inj (e.symm.trans ha)) n1
    · exact e1
  have based : ∀ {b : Addr} {o : Obj}, s1.heap.get? b = some o → o ≠ listOf vs → o ≠ emptyT → (hidT s1.heap H).get? b = some o := fun e n1 n2 => hidT_get e (stay e n1 n2)
  have other : ∀ {o : Obj}, (∀ vs n, o.data ≠ .seq vs n) → o ≠ listOf vs := fun h z => h _ _ (congrArg Obj.data z)
  have other2 : ∀ {o : Obj}, o.data ≠ .fields #[] → o ≠ emptyT := fun h z => h (congrArg Obj.data z)
  have nsB : ∀ {b : Addr} {m : Str → Option Value}, s1.heap.Ns b m → (hidT s1.heap H).Ns b m := fun {b m} ⟨o, es, ep, e, d, r⟩ =>
    ⟨o, es, ep, based e (other fun vs n z => by rw [d] at z; cases z) (other2 fun z => by rw [d] at z; cases z), d, r⟩
  have inB : K.In (hidT s1.heap H) := fun b o e => by
    refine hidT_get (inK b o e) ?_
    rcases cse b with ⟨h, _⟩ | ⟨_, rfl, hk, _⟩ | ⟨_, e1⟩
    · rw [(tabs b h).2.1] at e
      cases e
    · rw [hk] at e
      cases e
    · exact e1
  obtain ⟨mc, hc1, hc2⟩ := room
  have TB : ∀ p ∈ cs, LamX.TabB (hidT s1.heap H) mg p.1 p.2 := fun p hp => by
    have gT := hT p hp
    obtain ⟨o, us, file, tf, flags, tg, inF, text, tt, e1, r1, r2, r3, r4, r5, r6, r7, r8, hne⟩ := C p hp
    obtain ⟨m, om, b1, b2, b3, b4, b5, b6⟩ := hbm
    obtain ⟨og, es, ep, eg, hdg, _⟩ := hm
    have nG : m ≠ mainGlobals := fun z => by
      rw [z, eg] at b3
      cases b3
      rw [hdg] at b6
      cases b6
    have nP : m ≠ p.2 := fun z => by
      rw [z, gT] at b3
      cases b3
      cases b6
    refine ⟨⟨o, us, file, tf, flags, tg, inF, text, tt, based e1 (other fun vs n z => by rw [r2] at z; cases z) (other2 fun z => ?_), r1, r2, r3, r4, r5, r6, r7, r8, hne⟩, ⟨m, om, b1, b2, nG, nP, based b3 (other fun vs n z => by rw [b6] at z; cases z) (other2 fun z => by rw [b6] at z; cases z), b4, b5, b6⟩, fun z => ?_⟩
    · rw [r2] at z
      cases z
      simp at r3
    · rw [z, gT] at eg
      cases eg
      cases hdg
  have e0 : Env0 P w K mg (hidT s1.heap H) callerA [] s1 H := ⟨rfl, ⟨inB, nsB hm, ⟨mb, nsB hb, hbb⟩, ⟨mc, nsB hc1, hc2⟩⟩, fun b o e => of_hidT e, Nat.le_of_eq (hidT_size _ _), trivial, fun b hb => absurd (show b ∈ ([] : List Addr) from hb) (by simp), ok, .of_eq hg⟩
  have frz : ∀ b o k, H b = some (.frz o k) → ∃ l, k = .lst l := fun b o k e => by
    rcases cse b with ⟨_, e1⟩ | ⟨_, _, _, e1⟩ | ⟨_, e1⟩ <;> rw [e1] at e <;> cases e
    exact ⟨_, rfl⟩
  refine codeAny_mono ((F _ inB (nsB hm) TB).run callerA [] s1 H ⟨[.ref a], []⟩ [.ref a] [.ref a] _ _ rfl hr e0 (bind s1 (.ref a)) (.cons rfl .nil) (hsp H (fun p hp => onT p.2 (inT p hp)) frz seq)) fun r s' q => ?_
  cases r with
  | error e => exact (show False from q).elim
  | ok fl =>
    cases fl with
    | next => exact q.elim
    | brk => exact q.elim
    | cont => exact q.elim
    | ret u =>
      obtain ⟨v, H', os, bare, un, ok', ru, qv⟩ := q
      obtain rfl : v = .bl true := qv
      obtain rfl : u = Value.bool true := ru
      have same : ∀ b o, b ∉ ts → s1.heap.get? b = some o → s'.heap.get? b = some o := fun b o nb e => by
        rcases cse b with ⟨h, _⟩ | ⟨_, _, _, e1⟩ | ⟨_, e1⟩
        · exact absurd h nb
        · obtain ⟨g1, _⟩ := ok b _ e1
          obtain ⟨g2, _⟩ := ok' b _ (un.frzs b _ _ e1)
          rw [e] at g1
          cases g1
          exact g2
        · exact un.keep b o e e1 (by intro z; exact absurd (show b ∈ ([] : List Addr) from z) (by simp)) (by simp)
      have grown : ∀ b ∈ ts, ∃ more : Array Value, s'.heap.get? b = some { cls := .none, data := .fields more } := fun b h => by
        obtain ⟨more, z⟩ := un.tbls b #[] (onT b h)
        exact ⟨_, ok' b _ z⟩
      refine ⟨rfl, ⟨fun b o e => ?_, fun b o e => ?_⟩, os, bare⟩
      · by_cases h : b ∈ ts
        · obtain ⟨more, hmr⟩ := grown b h
          obtain ⟨g, _, p, hp, rfl⟩ := tabs b h
          rw [g] at e
          cases e
          exact .inr (.inl ⟨((C p hp).tab (hT p hp)).isCodeTable, rfl, #[], more, rfl, by rw [Array.empty_append]; exact hmr⟩)
        · exact .inl (same b o h e)
      · by_cases h : b ∈ ts
        · obtain ⟨more, hmr⟩ := grown b h
          exact ⟨_, hmr⟩
        · exact ⟨o, same b o h e⟩
end
/-- what is known of the law's promise at the head's heap -/
def LawAtG (l : PySem.W.OpenLaw) (w : World) (K : PySem.W.Frag) (k n : Nat) (x : Str) (mg : Str → Option Value) (fa : Addr) (h : Heap) : Prop :=
  ∃ (fd : FuncData) (cs : List (Addr × Addr)) (sp : Sp), (∀ p ∈ cs, h.get? p.2 = some emptyT) ∧ (∀ p ∈ cs, K.lookup p.2 = none) ∧ (∀ p ∈ cs, PySem.W.CodeHd h p.1 p.2) ∧ (∀ (s : Shared) (u : Value), BindsTo s fd ⟨[u], []⟩ [(x, u)]) ∧
    (∀ (H : Hp) (a : Addr) (ns : List Int), ns.length ≤ n → (∀ p ∈ cs, H p.2 = some (.tbl #[])) → (∀ b o k, H b = some (.frz o k) → ∃ l, k = .lst l) → SqL K H a (ns.map V.int) → sp [.ref a] H (fun v _ => v = .bl true) fun _ _ _ => False) ∧
    ∀ base : Heap, K.In base → base.Ns mainGlobals mg → (∀ p ∈ cs, LamX.TabB base mg p.1 p.2) → FnG l.prog w K mg base k fa fd [x] sp
theorem walk_at_law {l : PySem.W.OpenLaw} {n k : Nat} {q : Program} {loose : List Str} {XP : (Str → Option Value) → Heap → Prop} {YP : World → Heap → Prop} {d : DefRec} {x : Str} (hn : l.most = some n) (hn2 : n ≤ sizeLine) (hdf : d.params.defaults = []) (hr : Room k callerA)
    (F : ∀ (w : World) (mg : Str → Option Value) (fa : Addr) (h : Heap), YP w h → h.Ns mainGlobals mg → mg d.name = some (.ref fa) → ∃ K : PySem.W.Frag, K.In h ∧ LawAtG l w K k n x mg fa h) :
    PySem.W.WalkO q loose XP YP l.row.toRowW d [] (fun f vs => PySem.call f vs) := by
  refine Att.attach_callB hn hdf fun w s0 s1 mg mb fa o pm cd doc a vs ns G Y ho hd hcd hmg hobj hints hlen hbits hg => ?_
  obtain ⟨K, inK, fd, cs, sp, hT, nT, C, hb, hsp, hF⟩ := F w mg fa _ Y G.T.g hmg
  exact law_call_at inK G.T.g G.T.b G.T.builtins G.T.nolimit hg hT nT C G.T.bmain hobj hints (Nat.le_trans hlen hn2) hr hF hb fun H h1 h2 h3 => hsp H a ns hlen h1 h2 h3
end Dl
end
/-! ## Hd2 -/
section
set_option maxRecDepth 100000
namespace Dl
open PySem PySem.Spec PyProof.Rows L2 Mx
theorem getter {K : PySem.W.Frag} {g : Addr} {f qual : Str} {st : Stmt} (e : fnAtW K g = prV f qual st) (kp : PySem.W.keepIn K (.ref g) = true) (c : (match K.lookup g with
    | some ⟨_, _, .func fd, _⟩ => PySem.W.codeIn K fd.code qual && (He.dflB K fd.defaults [] && He.kwdB K fd.kwdefaults [])
    | _ => false) = true) : ∃ fd, FunD K f qual (defArgs st) (defBody st) (defScope st) [] [] g fd := by
  unfold fnAtW prV at e
  cases q : K.lookup g with
  | none =>
    rw [q] at c
    cases c
  | some o =>
    obtain ⟨oc, od, dt, osl⟩ := o
    rw [q] at c e
    cases dt with
    | func fd =>
      obtain ⟨m1, m2, m3, m4, m5, m6, m7, m8, m9, m10, m11, m12, m13, m14, m15⟩ := fd
      have e2 : (some (m1, m2, m3, m4, m5, m6, m7, m15) : He.FnW) = some (f, qual, defArgs st, .stmts (defBody st), defScope st, mainGlobals, [], builtinsNs) := e
      simp only [Option.some.injEq, Prod.mk.injEq] at e2
      obtain ⟨h1, h2, h3, h4, h5, h6, h7, h8⟩ := e2
      subst h1 h2 h3 h4 h5 h6 h7 h8
      have c3 : (PySem.W.codeIn K m13 m2 && (He.dflB K m8 [] && He.kwdB K m9 [])) = true := c
      obtain ⟨k1, k2⟩ := He.ba c3
      obtain ⟨k3, k4⟩ := He.ba k2
      exact ⟨_, ⟨oc, od, m8, m9, m10, m11, m12, m13, m14, osl, rfl, q, k1, He.dflB_ok k3, He.kwdB_ok k4⟩, kp⟩
    | _ => cases c
theorem pr_ok {K : PySem.W.Frag} {f qual : Str} {st : Stmt} (e : fnAtW K (pgA K f) = prV f qual st) (c : prB K f qual = true) (hc : Cls K (ga K "World")) : PrAt K "World" f qual st := by
  obtain ⟨c1, c⟩ := He.ba c
  obtain ⟨c2, c⟩ := He.ba c
  obtain ⟨c3, c⟩ := He.ba c
  obtain ⟨c4, c⟩ := He.ba c
  obtain ⟨c5, c6⟩ := He.ba c
  obtain ⟨fd, F⟩ := getter e c5 c6
  refine ⟨ma K (ga K "World") f, pgA K f, fd, ⟨He.eqO_ok c1, He.eqO_ok c2, of_decide_eq_true c3, ?_⟩, F, hc⟩
  unfold pgA
  cases q : PySem.W.recIn K (ma K (ga K "World") f) "property" with
  | none =>
    rw [q] at c4
    cases c4
  | some l =>
    rw [q] at c4
    cases l with
    | nil => cases c4
    | cons a r =>
      cases a with
      | ref g => exact ⟨r, rfl⟩
      | _ => cases c4
end Dl
end
/-! ## HdF -/
section
set_option maxRecDepth 100000
set_option maxHeartbeats 1000000
namespace Dl
open PySem PySem.Spec PyProof.Rows L2 Mx
abbrev lamT (K : PySem.W.Frag) : Tb := [(tabA K ("_law_layer_step", none), "_law_layer_step.<locals>.<lambda>"), (tabA K ("Ways", some "layer_step"), "Ways.layer_step.<locals>.<lambda>")]
section
variable {P : Program} {w : World} {K : PySem.W.Frag} {mg : Str → Option Value} {h : Heap}
theorem fac (c : Told w h K) (i : Nat) {f : He.Fa} (e : hfaAll[i]? = some f := by rfl) : f.ok K = true := c.1.t.d.fact i e
theorem fnD (c : Told w h K) (i : Nat) {d : He.DefD} (e : hfnAll[i]? = some d := by rfl) : ∃ fd, FunD K d.name d.qual d.params d.body d.scope (d.dvs K) (d.kws K) (He.fAd K d.at_) fd := c.1.t.d.def_ i e
theorem hexs (c : hex K = true) : (PySem.W.nsIn K mainGlobals "gcd" = some (some (.builtin "math.gcd"))) ∧ He.tupB K "ZERO" [.int 0, .int 1] = true ∧ He.tupB K "LAYERS" [.str "foot", .str "cart"] = true ∧ (∃ o, K.lookup (ga K "LAYERS") = some o ∧ o.cls = .type "tuple" ∧ o.dict = none) ∧
    He.valsB K (ga K "FORMS") hmarks = true ∧ PySem.W.makesIn K (ga K "Exact") = true ∧ PySem.W.findIn K (.ref (ga K "Exact")) "__init__" = some (some (.builtin "object.__init__")) ∧ PySem.W.keepIn K (.ref (ga K "Exact")) = true ∧ prB K "size" "World.size" = true ∧ prB K "layers" "World.layers" = true ∧ (He.cT K ("_law_layer_step", none)).2 ≠ (He.cT K ("Ways", some "layer_step")).2 := by
  obtain ⟨c1, c⟩ := He.ba c
  obtain ⟨c2, c⟩ := He.ba c
  obtain ⟨c3, c⟩ := He.ba c
  obtain ⟨c4, c⟩ := He.ba c
  obtain ⟨c5, c⟩ := He.ba c
  obtain ⟨c6, c⟩ := He.ba c
  obtain ⟨c7, c⟩ := He.ba c
  obtain ⟨c8, c⟩ := He.ba c
  obtain ⟨c9, c⟩ := He.ba c
  obtain ⟨c10, c11⟩ := He.ba c
  refine ⟨He.eqO_ok c1, c2, c3, ?_, c5, c6, He.eqO_ok c7, c8, c9, c10, of_decide_eq_true c11⟩
  cases q : K.lookup (ga K "LAYERS") with
  | none =>
    rw [q] at c4
    cases c4
  | some o =>
    obtain ⟨oc, od, dt, osl⟩ := o
    rw [q] at c4
    cases oc with
    | type t =>
      cases od with
      | none => exact ⟨_, rfl, congrArg Value.type (of_decide_eq_true c4), rfl⟩
      | some a => cases c4
    | _ => cases od <;> cases c4
theorem lib_of (inK : K.In h) (G : h.Ns mainGlobals mg) (c : Told w h K) : Lib K mg := by
  obtain ⟨x1, x2, x3, x4, _⟩ := hexs c.1.more
  have z := He.tupB_ok x2
  have y := He.tupB_ok x3
  exact {
    len_ := He.free_ok inK G (fac c 61)
    range_ := He.free_ok inK G (fac c 62)
    isinstance_ := He.free_ok inK G (fac c 63)
    int_ := He.free_ok inK G (fac c 64)
    bool_ := He.free_ok inK G (fac c 65)
    str_ := He.free_ok inK G (fac c 66)
    list_ := He.free_ok inK G (fac c 67)
    tuple_ := He.free_ok inK G (fac c 68)
    dict_ := He.free_ok inK G (fac c 69)
    sorted_ := He.free_ok inK G (fac c 70)
    zip_ := He.free_ok inK G (fac c 71)
    all_ := He.free_ok inK G (fac c 72)
    any_ := He.free_ok inK G (fac c 73)
    abs_ := He.free_ok inK G (fac c 74)
    repr_ := He.free_ok inK G (fac c 75)
    gcd_ := PySem.W.mg_of inK G x1
    gZERO := He.glo_ok inK G (fac c 55)
    zero := fun I => by unfold At; exact ⟨_, _, rfl, z I, of_ints [0, 1]⟩
    gLAYERS := He.glo_ok inK G (fac c 56)
    layers := fun I => by unfold At; exact ⟨_, _, rfl, y I, of_strs ["foot", "cart"]⟩
    layersK := x4
    gLETTERS := He.str_ok inK G (fac c 78)
    gMOST_NAMED := He.int_ok inK G (fac c 76)
    gMOST_PLACES := He.int_ok inK G (fac c 77)
    gFORMS := He.glo_ok inK G (fac c 57) }
theorem forms_of (inK : K.In h) (G : h.Ns mainGlobals mg) (c : Told w h K) : Forms K w mg := by
  obtain ⟨_, _, _, _, x5, _⟩ := hexs c.1.more
  refine ⟨He.glo_ok inK G (fac c 57), c.1.t.tab 0 (t := ((fun K => ga K "FORMS"), _)) rfl, fun p hp => ?_⟩
  obtain ⟨u, e, r⟩ := He.valsB_ok x5 (q := (p.1, .str p.2)) (by
    have e : hmarks = marksOf.map fun p => (p.1, He.Dv.str p.2) := rfl
    rw [e]
    exact List.mem_map_of_mem hp)
  obtain ⟨t, rfl⟩ : ∃ t, u = .str p.2 t := r
  exact ⟨t, e⟩
theorem all_of (inK : K.In h) (G : h.Ns mainGlobals mg) (c : Told w h K) (base : Heap) (tb1 : LamX.TabB base mg (He.cT K ("_law_layer_step", none)).1 (tabA K ("_law_layer_step", none))) (tb2 : LamX.TabB base mg (He.cT K ("Ways", some "layer_step")).1 (tabA K ("Ways", some "layer_step"))) :
    CalG P w K (lamT K) mg base "law" 11 ["_law_script"] preLaw := by
  obtain ⟨_, _, _, _, _, x6, x7, x8, x9, x10, x11⟩ := hexs c.1.more
  have L := lib_of inK G c
  have FO := forms_of inK G c
  have W : WFacts K := ⟨He.cls_ok (fac c 79), He.noat_ok (fac c 82), He.noat_ok (fac c 83)⟩
  have WF : WyFacts K := ⟨He.cls_ok (fac c 80), He.noat_ok (fac c 84), He.noat_ok (fac c 85), He.noat_ok (fac c 86)⟩
  have mW : MkAt K mg "World" := ⟨He.mkr_ok (fac c 104), He.glo_ok inK G (fac c 58)⟩
  have mY : MkAt K mg "Ways" := ⟨He.mkr_ok (fac c 105), He.glo_ok inK G (fac c 59)⟩
  have k_Exact : Mk0 K mg "Exact" := ⟨x6, x7, x8, He.glo_ok inK G (fac c 60)⟩
  have pv : hpr K = hprV := c.2
  have F_World_size : PrAt K "World" "size" "World.size" (mtop 40 2) := pr_ok (List.cons.inj pv).1 x9 W.cls
  have F_World_layers : PrAt K "World" "layers" "World.layers" (mtop 40 3) := pr_ok (List.cons.inj (List.cons.inj pv).2).1 x10 W.cls
  have hm1 : (tabA K ("_law_layer_step", none), ("_law_layer_step.<locals>.<lambda>" : Str)) ∈ lamT K := List.mem_cons_self
  have hm2 : (tabA K ("Ways", some "layer_step"), ("Ways.layer_step.<locals>.<lambda>" : Str)) ∈ lamT K := List.mem_cons_of_mem _ List.mem_cons_self
  have hu1 : ∀ p ∈ lamT K, p.1 = tabA K ("_law_layer_step", none) → p.2 = ("_law_layer_step.<locals>.<lambda>" : Str) := fun p hp e => by
    simp only [lamT, List.mem_cons, List.not_mem_nil, or_false] at hp
    rcases hp with rfl | rfl
    · rfl
    · exact absurd e.symm x11
  have hu2 : ∀ p ∈ lamT K, p.1 = tabA K ("Ways", some "layer_step") → p.2 = ("Ways.layer_step.<locals>.<lambda>" : Str) := fun p hp e => by
    simp only [lamT, List.mem_cons, List.not_mem_nil, or_false] at hp
    rcases hp with rfl | rfl
    · exact absurd e x11
    · rfl
  have F_Exact_joined : MeAt K "Exact" "joined" "Exact.joined" (mtop 46 0) [] [] := ⟨fnD c 61, He.meth_ok (fac c 93), He.cls_ok (fac c 81)⟩
  have F_Exact_least : MeAt K "Exact" "least" "Exact.least" (mtop 46 1) [] [] := ⟨fnD c 62, He.meth_ok (fac c 94), He.cls_ok (fac c 81)⟩
  have F_Exact_scaled : MeAt K "Exact" "scaled" "Exact.scaled" (mtop 46 2) [] [] := ⟨fnD c 63, He.meth_ok (fac c 95), He.cls_ok (fac c 81)⟩
  have F_Exact_fixed : MeAt K "Exact" "fixed" "Exact.fixed" (mtop 46 3) [] [] := ⟨fnD c 64, He.meth_ok (fac c 96), He.cls_ok (fac c 81)⟩
  have F_names_behind : FnAt K mg "names_behind" (top 50) := ⟨fnD c 21, He.glo_ok inK G (fac c 21)⟩
  have F_law_roads : FnAt K mg "_law_roads" (top 74) := ⟨fnD c 44, He.glo_ok inK G (fac c 44)⟩
  have F_law_put_in : FnAt K mg "_law_put_in" (top 76) := ⟨fnD c 46, He.glo_ok inK G (fac c 46)⟩
  have F_is_square : FnAt K mg "is_square" (top 36) := ⟨fnD c 12, He.glo_ok inK G (fac c 12)⟩
  have F_fits : FnAt K mg "fits" (top 43) := ⟨fnD c 16, He.glo_ok inK G (fac c 16)⟩
  have F_law_source : FnAt K mg "_law_source" (top 53) := ⟨fnD c 23, He.glo_ok inK G (fac c 23)⟩
  have F_law_of : FnAt K mg "_law_of" (top 55) := ⟨fnD c 25, He.glo_ok inK G (fac c 25)⟩
  have F_law_mixed : FnAt K mg "_law_mixed" (top 56) := ⟨fnD c 26, He.glo_ok inK G (fac c 26)⟩
  have F_law_layer : FnAt K mg "_law_layer" (top 80) := ⟨fnD c 50, He.glo_ok inK G (fac c 50)⟩
  have F_law_length : FnAt K mg "_law_length" (top 65) := ⟨fnD c 35, He.glo_ok inK G (fac c 35)⟩
  have F_law_bare : FnAt K mg "_law_bare" (top 66) := ⟨fnD c 36, He.glo_ok inK G (fac c 36)⟩
  have F_names_in : FnAt K mg "names_in" (top 45) := ⟨fnD c 18, He.glo_ok inK G (fac c 18)⟩
  have F_law_draw : FnAt K mg "_law_draw" (top 54) := ⟨fnD c 24, He.glo_ok inK G (fac c 24)⟩
  have F_ways_in : FnAt K mg "ways_in" (top 48) := ⟨fnD c 19, He.glo_ok inK G (fac c 19)⟩
  have F_world_of : FnAt K mg "world_of" (top 49) := ⟨fnD c 20, He.glo_ok inK G (fac c 20)⟩
  have F_Ways_step : MeAt K "Ways" "step" "Ways.step" (mtop 47 5) [] [] := ⟨fnD c 70, He.meth_ok (fac c 102), He.cls_ok (fac c 80)⟩
  have F_Ways__init_ : MeAt K "Ways" "__init__" "Ways.__init__" (mtop 47 0) [] [] := ⟨fnD c 65, He.meth_ok (fac c 97), He.cls_ok (fac c 80)⟩
  have F_Ways_road : MeAt K "Ways" "road" "Ways.road" (mtop 47 1) [] [] := ⟨fnD c 66, He.meth_ok (fac c 98), He.cls_ok (fac c 80)⟩
  have F_changed : FnAt K mg "changed" (top 51) := ⟨fnD c 22, He.glo_ok inK G (fac c 22)⟩
  have F_World__init_ : MeAt K "World" "__init__" "World.__init__" (mtop 40 1) [] [("cart", .non)] := ⟨fnD c 55, He.meth_ok (fac c 87), He.cls_ok (fac c 79)⟩
  have F_law_leaf : FnAt K mg "_law_leaf" (top 79) := ⟨fnD c 49, He.glo_ok inK G (fac c 49)⟩
  have F_law : FnAt K mg "law" (top 84) := ⟨fnD c 54, He.glo_ok inK G (fac c 54)⟩
  have F_law_some_step : FnAt K mg "_law_some_step" (top 81) := ⟨fnD c 51, He.glo_ok inK G (fac c 51)⟩
  have F_is_leaf : FnAtD K mg "is_leaf" (top 44) [.int 2] := ⟨fnD c 17, He.glo_ok inK G (fac c 17)⟩
  have F_first_fault : FnAt K mg "first_fault" (top 37) := ⟨fnD c 13, He.glo_ok inK G (fac c 13)⟩
  have F_checked_table : FnAt K mg "checked_table" (top 38) := ⟨fnD c 14, He.glo_ok inK G (fac c 14)⟩
  have F_Ways_turn : MeAt K "Ways" "turn" "Ways.turn" (mtop 47 3) [] [] := ⟨fnD c 68, He.meth_ok (fac c 100), He.cls_ok (fac c 80)⟩
  have F_Ways_put : MeAt K "Ways" "put" "Ways.put" (mtop 47 2) [] [] := ⟨fnD c 67, He.meth_ok (fac c 99), He.cls_ok (fac c 80)⟩
  have F_Ways_each : MeAt K "Ways" "each" "Ways.each" (mtop 47 4) [] [] := ⟨fnD c 69, He.meth_ok (fac c 101), He.cls_ok (fac c 80)⟩
  have F_law_on : FnAt K mg "_law_on" (top 77) := ⟨fnD c 47, He.glo_ok inK G (fac c 47)⟩
  have F_law_layer_step : FnAt K mg "_law_layer_step" (top 78) := ⟨fnD c 48, He.glo_ok inK G (fac c 48)⟩
  have F_law_names : FnAt K mg "_law_names" (top 64) := ⟨fnD c 34, He.glo_ok inK G (fac c 34)⟩
  have F_law_table : FnAt K mg "_law_table" (top 68) := ⟨fnD c 38, He.glo_ok inK G (fac c 38)⟩
  have F_law_closed : FnAt K mg "_law_closed" (top 67) := ⟨fnD c 37, He.glo_ok inK G (fac c 37)⟩
  have F_law_places_of : FnAt K mg "_law_places_of" (top 71) := ⟨fnD c 41, He.glo_ok inK G (fac c 41)⟩
  have F_law_is_way : FnAt K mg "_law_is_way" (top 72) := ⟨fnD c 42, He.glo_ok inK G (fac c 42)⟩
  have F_law_plain_step : FnAt K mg "_law_plain_step" (top 83) := ⟨fnD c 53, He.glo_ok inK G (fac c 53)⟩
  have F_law_same : FnAt K mg "_law_same" (top 57) := ⟨fnD c 27, He.glo_ok inK G (fac c 27)⟩
  have F_Ways_layer_step : MeAt K "Ways" "layer_step" "Ways.layer_step" (mtop 47 6) [] [] := ⟨fnD c 71, He.meth_ok (fac c 103), He.cls_ok (fac c 80)⟩
  have F_law_spread_plan : FnAt K mg "_law_spread_plan" (top 82) := ⟨fnD c 52, He.glo_ok inK G (fac c 52)⟩
  have F_is_name : FnAt K mg "is_name" (top 31) := ⟨fnD c 10, He.glo_ok inK G (fac c 10)⟩
  have F_is_layer : FnAtD K mg "is_layer" (top 32) [.int 2] := ⟨fnD c 11, He.glo_ok inK G (fac c 11)⟩
  have F_checked_places : FnAt K mg "checked_places" (top 39) := ⟨fnD c 15, He.glo_ok inK G (fac c 15)⟩
  have F_World_names : MeAt K "World" "names" "World.names" (mtop 40 4) [] [] := ⟨fnD c 56, He.meth_ok (fac c 88), He.cls_ok (fac c 79)⟩
  have F_World__contains_ : MeAt K "World" "__contains__" "World.__contains__" (mtop 40 13) [] [] := ⟨fnD c 60, He.meth_ok (fac c 92), He.cls_ok (fac c 79)⟩
  have F_World_place : MeAt K "World" "place" "World.place" (mtop 40 5) [] [] := ⟨fnD c 57, He.meth_ok (fac c 89), He.cls_ok (fac c 79)⟩
  have F_World_rows_of : MeAt K "World" "rows_of" "World.rows_of" (mtop 40 7) [] [] := ⟨fnD c 59, He.meth_ok (fac c 91), He.cls_ok (fac c 79)⟩
  have F_World_table : MeAt K "World" "table" "World.table" (mtop 40 6) [.str "foot"] [] := ⟨fnD c 58, He.meth_ok (fac c 90), He.cls_ok (fac c 79)⟩
  have F_law_made : FnAt K mg "_law_made" (top 69) := ⟨fnD c 39, He.glo_ok inK G (fac c 39)⟩
  have F_law_told : FnAt K mg "_law_told" (top 70) := ⟨fnD c 40, He.glo_ok inK G (fac c 40)⟩
  have F_law_spot : FnAt K mg "_law_spot" (top 73) := ⟨fnD c 43, He.glo_ok inK G (fac c 43)⟩
  have F_is_whole : FnAt K mg "is_whole" (top 17) := ⟨fnD c 0, He.glo_ok inK G (fac c 0)⟩
  have F_is_number : FnAt K mg "is_number" (top 18) := ⟨fnD c 1, He.glo_ok inK G (fac c 1)⟩
  have F_is_ratio : FnAt K mg "is_ratio" (top 19) := ⟨fnD c 2, He.glo_ok inK G (fac c 2)⟩
  have F_is_valued : FnAt K mg "is_valued" (top 20) := ⟨fnD c 3, He.glo_ok inK G (fac c 3)⟩
  have F_ratio_of : FnAt K mg "ratio_of" (top 22) := ⟨fnD c 5, He.glo_ok inK G (fac c 5)⟩
  have F_lowest : FnAt K mg "lowest" (top 21) := ⟨fnD c 4, He.glo_ok inK G (fac c 4)⟩
  have F_plus : FnAt K mg "plus" (top 23) := ⟨fnD c 6, He.glo_ok inK G (fac c 6)⟩
  have F_times : FnAt K mg "times" (top 24) := ⟨fnD c 7, He.glo_ok inK G (fac c 7)⟩
  have F_below : FnAt K mg "below" (top 25) := ⟨fnD c 8, He.glo_ok inK G (fac c 8)⟩
  have F_lesser : FnAt K mg "lesser" (top 26) := ⟨fnD c 9, He.glo_ok inK G (fac c 9)⟩
  have F_law_low : FnAt K mg "_law_low" (top 58) := ⟨fnD c 28, He.glo_ok inK G (fac c 28)⟩
  have F_law_plus : FnAt K mg "_law_plus" (top 59) := ⟨fnD c 29, He.glo_ok inK G (fac c 29)⟩
  have F_law_times : FnAt K mg "_law_times" (top 60) := ⟨fnD c 30, He.glo_ok inK G (fac c 30)⟩
  have F_law_less : FnAt K mg "_law_less" (top 61) := ⟨fnD c 31, He.glo_ok inK G (fac c 31)⟩
  have F_law_total : FnAt K mg "_law_total" (top 62) := ⟨fnD c 32, He.glo_ok inK G (fac c 32)⟩
  have F_law_least : FnAt K mg "_law_least" (top 63) := ⟨fnD c 33, He.glo_ok inK G (fac c 33)⟩
  have F_law_pair : FnAt K mg "_law_pair" (top 75) := ⟨fnD c 45, He.glo_ok inK G (fac c 45)⟩
  have d_Exact_fixed := fun base => ok_Exact_fixed (P := P) (w := w) (K := K) (mg := mg) (T := lamT K) (base := base) F_Exact_fixed
  have d_is_name := fun base => ok_is_name (P := P) (w := w) (K := K) (mg := mg) (T := lamT K) (base := base) L F_is_name
  have d_names_behind := fun base => ok_names_behind (P := P) (w := w) (K := K) (mg := mg) (T := lamT K) (base := base) L F_names_behind
  have d_law_draw := fun base => ok_law_draw (P := P) (w := w) (K := K) (mg := mg) (T := lamT K) (base := base) L F_law_draw
  have d_Ways_each := ok_Ways_each (P := P) (w := w) (K := K) (mg := mg) (T := lamT K) L WF F_Ways_each
  have d_World_size := fun base => ok_World_size (P := P) (w := w) (K := K) (mg := mg) (T := lamT K) (base := base) L W F_World_size
  have d_law_on := ok_law_on (P := P) (w := w) (K := K) (mg := mg) (T := lamT K) L F_law_on
  have d_law_spot := fun base => ok_law_spot (P := P) (w := w) (K := K) (mg := mg) (T := lamT K) (base := base) L F_law_spot
  have d_Ways__init_ := fun base => ok_Ways_init (P := P) (w := w) (K := K) (mg := mg) (T := lamT K) (base := base) WF F_Ways__init_
  have d_law_layer := fun base => ok_law_layer (P := P) (w := w) (K := K) (mg := mg) (T := lamT K) (base := base) L F_law_layer (d_law_draw base)
  have d_names_in := fun base => ok_names_in (P := P) (w := w) (K := K) (mg := mg) (T := lamT K) (base := base) L FO F_names_in
  have d_below := fun base => ok_below (P := P) (w := w) (K := K) (mg := mg) (T := lamT K) (base := base) L F_below
  have d_law_less := fun base => ok_law_less (P := P) (w := w) (K := K) (mg := mg) (T := lamT K) (base := base) L F_law_less
  have d_law_pair := fun base => ok_law_pair (P := P) (w := w) (K := K) (mg := mg) (T := lamT K) (base := base) L F_law_pair
  have d_is_whole := fun base => ok_is_whole (P := P) (w := w) (K := K) (mg := mg) (T := lamT K) (base := base) L F_is_whole
  have d_is_number := fun base => ok_is_number (P := P) (w := w) (K := K) (mg := mg) (T := lamT K) (base := base) L F_is_number (d_is_whole base)
  have d_law_source := fun base => ok_law_source (P := P) (w := w) (K := K) (mg := mg) (T := lamT K) (base := base) L F_law_source
  have d_World_names := fun base => ok_World_names (P := P) (w := w) (K := K) (mg := mg) (T := lamT K) (base := base) L W F_World_names
  have d_World_layers := fun base => ok_World_layers (P := P) (w := w) (K := K) (mg := mg) (T := lamT K) (base := base) L W F_World_layers
  have d_law_mixed := fun base => ok_law_mixed (P := P) (w := w) (K := K) (mg := mg) (T := lamT K) (base := base) L F_law_mixed (d_law_draw base)
  have d_Ways_turn := fun base => ok_Ways_turn (P := P) (w := w) (K := K) (mg := mg) (T := lamT K) (base := base) L WF F_Ways_turn
  have d_is_layer := fun base => ok_is_layer (P := P) (w := w) (K := K) (mg := mg) (T := lamT K) (base := base) L F_is_layer
  have d_law_of := fun base => ok_law_of (P := P) (w := w) (K := K) (mg := mg) (T := lamT K) (base := base) L F_law_of (d_law_draw base)
  have d_World__contains_ := fun base => ok_World_contains (P := P) (w := w) (K := K) (mg := mg) (T := lamT K) (base := base) L W F_World__contains_
  have d_law_same := fun base => ok_law_same (P := P) (w := w) (K := K) (mg := mg) (T := lamT K) (base := base) L F_law_same
  have d_law_places_of := fun base => ok_law_places_of (P := P) (w := w) (K := K) (mg := mg) (T := lamT K) (base := base) L F_law_places_of
  have d_law_low := fun base => ok_law_low (P := P) (w := w) (K := K) (mg := mg) (T := lamT K) (base := base) L F_law_low
  have d_is_square := fun base => ok_is_square (P := P) (w := w) (K := K) (mg := mg) (T := lamT K) (base := base) L F_is_square
  have d_lesser := fun base => ok_lesser (P := P) (w := w) (K := K) (mg := mg) (T := lamT K) (base := base) L F_lesser (d_below base)
  have d_law_times := fun base => ok_law_times (P := P) (w := w) (K := K) (mg := mg) (T := lamT K) (base := base) L F_law_times (d_law_low base)
  have d_law_bare := fun base => ok_law_bare (P := P) (w := w) (K := K) (mg := mg) (T := lamT K) (base := base) L F_law_bare (d_law_draw base)
  have d_lowest := fun base => ok_lowest (P := P) (w := w) (K := K) (mg := mg) (T := lamT K) (base := base) L F_lowest
  have d_Exact_least := fun base => ok_Exact_least (P := P) (w := w) (K := K) (mg := mg) (T := lamT K) (base := base) F_Exact_least (d_lesser base)
  have d_law_least := fun base => ok_law_least (P := P) (w := w) (K := K) (mg := mg) (T := lamT K) (base := base) L F_law_least (d_law_less base)
  have d_checked_places := fun base => ok_checked_places (P := P) (w := w) (K := K) (mg := mg) (T := lamT K) (base := base) L F_checked_places (d_is_name base) (d_is_number base)
  have d_plus := fun base => ok_plus (P := P) (w := w) (K := K) (mg := mg) (T := lamT K) (base := base) L F_plus (d_lowest base)
  have d_is_ratio := fun base => ok_is_ratio (P := P) (w := w) (K := K) (mg := mg) (T := lamT K) (base := base) L F_is_ratio (d_is_whole base)
  have d_times := fun base => ok_times (P := P) (w := w) (K := K) (mg := mg) (T := lamT K) (base := base) L F_times (d_lowest base)
  have d_ratio_of := fun base => ok_ratio_of (P := P) (w := w) (K := K) (mg := mg) (T := lamT K) (base := base) L F_ratio_of (d_is_whole base) (d_is_ratio base)
  have d_law_plus := fun base => ok_law_plus (P := P) (w := w) (K := K) (mg := mg) (T := lamT K) (base := base) L F_law_plus (d_law_low base)
  have d_is_valued := fun base => ok_is_valued (P := P) (w := w) (K := K) (mg := mg) (T := lamT K) (base := base) L F_is_valued (d_is_whole base) (d_is_ratio base)
  have d_law_names := fun base => ok_law_names (P := P) (w := w) (K := K) (mg := mg) (T := lamT K) (base := base) L F_law_names (d_law_draw base) (d_law_mixed base) (d_law_of base)
  have d_Exact_joined := fun base => ok_Exact_joined (P := P) (w := w) (K := K) (mg := mg) (T := lamT K) (base := base) L F_Exact_joined (d_plus base)
  have d_World_rows_of := fun base => ok_World_rows_of (P := P) (w := w) (K := K) (mg := mg) (T := lamT K) (base := base) L W F_World_rows_of (d_is_layer base) (d_World_layers base)
  have d_Exact_scaled := fun base => ok_Exact_scaled (P := P) (w := w) (K := K) (mg := mg) (T := lamT K) (base := base) F_Exact_scaled (d_times base)
  have d_law_total := fun base => ok_law_total (P := P) (w := w) (K := K) (mg := mg) (T := lamT K) (base := base) L F_law_total (d_law_plus base)
  have d_Ways_put := fun base => ok_Ways_put (P := P) (w := w) (K := K) (mg := mg) (T := lamT K) (base := base) L WF F_Ways_put (d_Exact_joined base) (d_Exact_fixed base)
  have d_law_length := fun base => ok_law_length (P := P) (w := w) (K := K) (mg := mg) (T := lamT K) (base := base) L F_law_length (d_law_draw base) (d_law_low base)
  have d_fits := fun base => ok_fits (P := P) (w := w) (K := K) (mg := mg) (T := lamT K) (base := base) L F_fits (d_is_layer base) (d_is_name base) (d_is_valued base) (d_ratio_of base)
  have d_law_some_step := fun base => ok_law_some_step (P := P) (w := w) (K := K) (mg := mg) (T := lamT K) (base := base) L F_law_some_step (d_law_draw base) (d_law_layer base) (d_law_of base) (d_law_bare base) (d_law_length base) (d_law_low base)
  have d_World_place := fun base => ok_World_place (P := P) (w := w) (K := K) (mg := mg) (T := lamT K) (base := base) L W F_World_place (d_World__contains_ base)
  have d_law_closed := fun base => ok_law_closed (P := P) (w := w) (K := K) (mg := mg) (T := lamT K) (base := base) L F_law_closed (d_law_plus base) (d_law_least base)
  have d_is_leaf := fun base => ok_is_leaf (P := P) (w := w) (K := K) (mg := mg) (T := lamT K) (base := base) L FO F_is_leaf (d_fits base)
  have d_Ways_road := fun base => ok_Ways_road (P := P) (w := w) (K := K) (mg := mg) (T := lamT K) (base := base) L WF F_Ways_road (d_Exact_joined base) (d_Exact_least base)
  have d_first_fault := fun base => ok_first_fault (P := P) (w := w) (K := K) (mg := mg) (T := lamT K) (base := base) L F_first_fault (d_is_valued base) (d_ratio_of base) (d_plus base) (d_below base)
  have d_law_put_in := fun base => ok_law_put_in (P := P) (w := w) (K := K) (mg := mg) (T := lamT K) (base := base) L F_law_put_in (d_law_plus base)
  have d_checked_table := fun base => ok_checked_table (P := P) (w := w) (K := K) (mg := mg) (T := lamT K) (base := base) L F_checked_table (d_is_square base) (d_ratio_of base) (d_first_fault base)
  have d_law_roads := fun base => ok_law_roads (P := P) (w := w) (K := K) (mg := mg) (T := lamT K) (base := base) L F_law_roads (d_law_total base) (d_law_least base)
  have d_law_table := fun base => ok_law_table (P := P) (w := w) (K := K) (mg := mg) (T := lamT K) (base := base) L F_law_table (d_law_length base) (d_law_closed base)
  have d_law_is_way := fun base => ok_law_is_way (P := P) (w := w) (K := K) (mg := mg) (T := lamT K) (base := base) L F_law_is_way (d_law_plus base) (d_law_less base)
  have d_World_table := fun base => ok_World_table (P := P) (w := w) (K := K) (mg := mg) (T := lamT K) (base := base) L W F_World_table (d_World_rows_of base)
  have d_World__init_ := fun base => ok_World_init (P := P) (w := w) (K := K) (mg := mg) (T := lamT K) (base := base) L W F_World__init_ mW (d_checked_table base) (d_checked_places base)
  have d_Ways_layer_step := ok_Ways_layer_step (P := P) (w := w) (K := K) (mg := mg) (T := lamT K) (base := base) L WF F_Ways_layer_step tb2 hm2 hu2 d_Ways_each (d_Ways_road base) d_Exact_least d_Exact_scaled d_Exact_joined d_Exact_fixed d_ratio_of
  have d_law_made := fun base => ok_law_made (P := P) (w := w) (K := K) (mg := mg) (T := lamT K) (base := base) L W F_law_made (d_World__init_ base)
  have d_Ways_step := ok_Ways_step (P := P) (w := w) (K := K) (mg := mg) (T := lamT K) (base := base) L WF F_Ways_step (d_Ways_turn base) (d_Ways_road base) (d_Ways_put base) d_Ways_layer_step (d_Exact_fixed base) (d_ratio_of base)
  have d_ways_in := fun base => ok_ways_in (P := P) (w := w) (K := K) (mg := mg) (T := lamT K) (base := base) L W F_ways_in (d_World_size base) (d_World_layers base) (d_World_table base) k_Exact ⟨d_Ways__init_ base, mY⟩
  have d_world_of := fun base => ok_world_of (P := P) (w := w) (K := K) (mg := mg) (T := lamT K) (base := base) L WF F_world_of (d_World__init_ base)
  have d_law_layer_step := ok_law_layer_step (P := P) (w := w) (K := K) (mg := mg) (T := lamT K) (base := base) L F_law_layer_step tb1 hm1 hu1 d_law_on d_law_least d_law_pair d_law_times d_law_plus (d_law_spot base) (d_law_roads base)
  have d_law_plain_step := fun base => ok_law_plain_step (P := P) (w := w) (K := K) (mg := mg) (T := lamT K) (base := base) L F_law_plain_step (d_law_some_step base) (d_law_places_of base)
  have d_law_spread_plan := fun base => ok_law_spread_plan (P := P) (w := w) (K := K) (mg := mg) (T := lamT K) (base := base) L F_law_spread_plan (d_law_mixed base) (d_law_table base)
  have d_changed := ok_changed (P := P) (w := w) (K := K) (mg := mg) (T := lamT K) (base := base) L W WF F_changed (d_is_leaf base) (d_names_in base) (d_World_layers base) (d_World_size base) (d_World_place base) (d_World_names base) (d_World__contains_ base) (d_ways_in base) (d_names_behind base) d_Ways_step (d_world_of base)
  have d_law_told := fun base => ok_law_told (P := P) (w := w) (K := K) (mg := mg) (T := lamT K) (base := base) L W F_law_told (d_World_table base) (d_World_layers base) (d_World_names base) (d_World_place base)
  have d_law_leaf := ok_law_leaf (P := P) (w := w) (K := K) (mg := mg) (T := lamT K) (base := base) L F_law_leaf d_law_layer_step (d_law_pair base) (d_law_spot base) (d_law_roads base) (d_law_put_in base) (d_law_places_of base)
  have d_law := ok_law (P := P) (w := w) (K := K) (mg := mg) (T := lamT K) (base := base) L F_law (d_law_source base) (d_law_draw base) (d_law_names base) (d_law_spread_plan base) (d_law_made base) (d_law_plain_step base) d_law_leaf d_changed (d_law_told base) (d_law_same base) (d_law_is_way base)
  exact d_law
theorem law_told (inK : K.In h) (G : h.Ns mainGlobals mg) (c : Told w h K) {fa : Addr} (hfa : mg ("law" : Str) = some (.ref fa)) : LawAtG PySem.Challenge.rw_missingmiles_k20_whole_rows_of_steps w K 11 63 "_law_script" mg fa h := by
  obtain ⟨fd, F⟩ := fnD c 54
  have e := hfa.symm.trans (He.glo_ok inK G (fac c 54 (f := .glo "law")))
  cases e
  have b := FunD.bindsA (ps := ["_law_script"]) F fun _ _ _ _ _ _ us hl => match us, hl with | [_], _ => rfl
  have F0 := F
  obtain ⟨oc, od, dV, kV, doc, pm, an, cdv, ct, osl, rfl, lk, _, _, _⟩ := F0.ex
  refine ⟨_, htf.map (He.cT K), SpD K (lamT K) preLaw, fun p hp => ?_, fun p hp => ?_, fun p hp => ?_, fun s v => b s [v] rfl, fun H a ns hl hT hz hS => ?_, fun base inB GB TB => ?_⟩
  · obtain ⟨d, hd, rfl⟩ := List.mem_map.mp hp
    exact c.1.empty d hd
  · obtain ⟨d, hd, rfl⟩ := List.mem_map.mp hp
    exact c.1.out d hd
  · obtain ⟨d, hd, rfl⟩ := List.mem_map.mp hp
    exact PySem.W.codeHd_of_K inK (c.1.hd d hd)
  · have noD : ∀ b o k, H b ≠ some (.frz o (.dK k)) := fun b o k e => by
      obtain ⟨l, z⟩ := hz b o _ e
      cases z
    have noT : ∀ b o k, H b ≠ some (.frz o (.dT k)) := fun b o k e => by
      obtain ⟨l, z⟩ := hz b o _ e
      cases z
    refine ⟨[], [.ll (ns.map .int)], ⟨[], []⟩, fun d _ => d = .bl true, ⟨by simp, by simp, by simp, by simp, fun b o k z => absurd z (noD b o k), fun b o k z => absurd z (noT b o k), by simp, fun q hq => ?_⟩, ?_, ⟨ns, rfl, rfl, fun _ => rfl⟩, fun v H' M' d e t a => ?_⟩
    · have h0 : H q.1 = some (.tbl #[]) := by
        simp only [lamT, List.mem_cons, List.not_mem_nil, or_false] at hq
        rcases hq with rfl | rfl
        · exact hT (He.cT K ("_law_layer_step", none)) (List.mem_map_of_mem List.mem_cons_self)
        · exact hT (He.cT K ("Ways", some "layer_step")) (List.mem_map_of_mem (List.mem_cons_of_mem _ List.mem_cons_self))
      exact ⟨#[], h0, by constructor, fun pos cv z => by cases z⟩
    · refine atL_cons ?_ atL_nil
      unfold At
      refine ⟨a, ns.map V.int, rfl, ?_, of_ints ns⟩
      have im : ∀ b, imm [] ⟨[], []⟩ H b = norm (H b) := fun b => imm_mk (by simp) (by simp)
      rcases hS with (z | ⟨o, z⟩) | z
      · exact .inl (.inl (by rw [im, z]; rfl))
      · exact .inl (.inr ⟨o, by rw [im, z]; rfl⟩)
      · exact .inr z
    · subst e
      unfold At at a
      exact a
  · have t1 := TB (He.cT K ("_law_layer_step", none)) (List.mem_map_of_mem List.mem_cons_self)
    have t2 := TB (He.cT K ("Ways", some "layer_step")) (List.mem_map_of_mem (List.mem_cons_of_mem _ List.mem_cons_self))
    obtain ⟨fd2, F2, _, _, _, oc2, od2, osl2, lk2⟩ := all_of (P := PySem.Challenge.rw_missingmiles_k20_whole_rows_of_steps.prog) inK G c base t1 t2
    have lk' : K.lookup (ga K "law") = _ := lk
    rw [lk'] at lk2
    cases lk2
    exact F2
end
end Dl
end
/-! ## HdE -/
section
set_option maxRecDepth 100000
set_option maxHeartbeats 0
namespace Dl
theorem run_head (w : PySem.World) : HandSHeadRun.RunEqI RowH (PySem.W.view RowH.prog [0, 84]) hkH obH 8000 hloose w := by
  have h : ∀ b : Bool, HandSHeadRun.RunEqI RowH (PySem.W.view RowH.prog [0, 84]) hkH obH 8000 hloose (w.withFollow "special-get-raises" b) := fun b => by
    cases b
    · exact run_false w
    · exact run_true w
  have z := h (w.params.followText "special-get-raises")
  rwa [PySem.World.withFollow_self] at z
end Dl
open PySem PySem.W PySem.Calls PyProof.Rows
theorem PySem.Challenge.cw_missingmiles_k20_whole_rows_of_steps_holds : PySem.Challenge.rw_missingmiles_k20_whole_rows_of_steps.Holds := by
  w_on; o_law
  refine HandSHeadRun.head_imp (r := OpenLaw.row PySem.Challenge.rw_missingmiles_k20_whole_rows_of_steps) (q := view (OpenLaw.row PySem.Challenge.rw_missingmiles_k20_whole_rows_of_steps).prog [0, 84]) (H := Dl.hkH) (ob := Dl.obH) (M := 8000) (loose := Dl.hloose)
    (d := HandSHeadRun.topDef (OpenLaw.row PySem.Challenge.rw_missingmiles_k20_whole_rows_of_steps).prog 84) (kwd := []) Dl.obH_eq Dl.run_head (by kernel_rfl) (by kernel_rfl) (by kernel_rfl) (by rfl) (by first | assumption | decide +kernel) (by decide +kernel) ⟨rfl, rfl, rfl, rfl, rfl, by decide +kernel⟩ ?hw ?hc
  case hw => w_witness2
  case hc =>
    refine Dl.walk_at_law (l := PySem.Challenge.rw_missingmiles_k20_whole_rows_of_steps) (n := 63) (k := 11) (x := "_law_script") rfl (by decide) (by kernel_rfl) ⟨rfl, by decide, by decide⟩ ?F
    intro w mg fa h Y G hmg0
    obtain ⟨K, KX, c⟩ := Y
    have hmg : mg ("law" : PySem.Str) = some (.ref fa) := by
      have e : (HandSHeadRun.topDef (OpenLaw.row PySem.Challenge.rw_missingmiles_k20_whole_rows_of_steps).prog 84).name = ("law" : PySem.Str) := by kernel_rfl
      rw [← e]
      exact hmg0
    exact ⟨K, KX, Dl.law_told KX G c hmg⟩
end
